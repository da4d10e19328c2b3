/- Own2 EchC -/
import Derived.Test.YtcfbmimjffkgdaaOwn
import Derived.Test.YtcfbmimjffkgdaaLists
import Derived.Test.YtcfbmimjffkgdaaKer
import Derived.Test.YtcfbmimjffkgdaaRnkR
section
open Go Go.Proofs
namespace Go.Sx
set_option linter.unusedSimpArgs false
set_option linter.unusedVariables false

def l01Own2_p (t : List (List Int)) : Post := ⟨roomR t, .c (.rows 46 2 .i64 (t)), []⟩
def l01Own2_ct : List AD → Option Post
  | [.c (.rows .i64 (t))] => some (l01Own2_p t)
  | _ => none
def l01Own2_ann (t : List (List Int)) : Nat → Option Ann
  | 0 => some (Ann.mk ((Nat)) (fun i => ⟨[(0, .c (.ro (.rows .i64 (t)))), (3, .c (.own (5))), (4, .c (.int .i64 ((i : Int))))], [(5, some (.rows 0 46 2 .i64 (t.take i)))]⟩) (fun i => i ≤ t.length) (fun i => t.length - i) (fun _ => noAnn))
  | _ => none
def l01Own2_G : List (Nat × Ctr) := [(97, ⟨[], l01Own_ct⟩)]
def l01Own2_V (t : List (List Int)) : Prop :=
  ((∃ x0 : Nat, ((x0 ≤ List.length t) ∧
 ((t = t) ∧
 (((0 : Int) = (↑x0 : Int)) ∧
 ([] = List.take x0 t))))) ∧
 (∀ x1 : Nat, ((x1 ≤ List.length t) →
 (BrP (Decidable.decide ((↑x1 : Int) < (↑(List.length t) : Int)))
 ((inB (↑x1 : Int) (List.length t)) ∧
 (((room (List.length (List.getD t (Int.toNat (↑x1 : Int)) []))) ∧
 (True)) ∧
 ((room (List.length (List.take x1 t) + List.length [List.getD t (Int.toNat (↑x1 : Int)) []])) ∧
 ((InR ((↑x1 : Int) + (1 : Int))) ∧
 (∃ x2 : Nat, ((x2 ≤ List.length t) ∧
 ((List.length t - x2 < List.length t - x1) ∧
 ((t = t) ∧
 (((↑x1 : Int) + (1 : Int) = (↑x2 : Int)) ∧
 (List.take x1 t ++ [List.getD t (Int.toNat (↑x1 : Int)) []] = List.take x2 t))))))))))
 ((List.take x1 t = t) ∧
 (True))))))
theorem l01Own2_vc (t : List (List Int)) : runF Try.prog (gam l01Own2_G) noWr (l01Own2_ann t) Try.f99 (bodyOf Try.f99) [] [.c (.rows .i64 (t))] (l01Own2_p t) = l01Own2_V t := by kernel_rfl
theorem l01Own2_ok (t : List (List Int)) (hpre : (l01Own2_p t).pre) : l01Own2_V t := by
  simp only [l01Own2_p, l01Own2_V, BrP_iff, true_and, and_true, decide_eq_true_eq, decide_eq_false_iff_not, bne_iff_ne, beq_iff_eq, bne_eq_false_iff_eq, beq_eq_false_iff_ne, Bool.not_eq_true, Bool.not_eq_false, Bool.not_true, Bool.not_false, Bool.not_eq_eq_eq_not, Int.toNat_natCast, List.length_append, List.length_take, List.length_replicate, List.length_set, List.length_map, List.length_drop, List.length_nil, List.length_cons, markL_length, inB, InR, room, bdsOk] at hpre ⊢
  have h1 := hpre.1
  refine ⟨⟨0, by omega, rfl, by simp⟩, fun i hi => ⟨fun h => ⟨by omega, roomR_get hpre i (by omega), by omega, by omega, i + 1, by omega, by omega, by omega, take_snoc _ _ _ (by omega)⟩, fun h => List.take_of_length_le (by omega)⟩⟩
theorem l01Own2_fits : Fits Try.prog 99 ⟨[], l01Own2_ct⟩ := by
  refine fits_fn (Γ := gam l01Own2_G) (gok_cons l01Own_fits gok_nil) Try.func99 (by kernel_rfl) (by kernel_rfl) (by kernel_rfl) fun ds p h hp => ?_
  unfold l01Own2_ct at h
  split at h
  · cases h
    exact ⟨noWr, l01Own2_ann _ , by rw [l01Own2_vc]; exact l01Own2_ok _  hp⟩
  · cases h

end Go.Sx
end

section
open Go Go.Proofs
namespace Go.Sx
set_option linter.unusedSimpArgs false
set_option linter.unusedVariables false

/-- Rows below i, other than row d, less the part of s. -/
def upT (p : Int) (s : List Int) (a d : Nat) (B : List (List Int)) (i : Nat) : List (List Int) := (List.range B.length).map fun j => if j < i ∧ j ≠ d then upR p s a (B.getD j []) else B.getD j []

theorem upT_length (p : Int) (s : List Int) (a d : Nat) (B : List (List Int)) (i : Nat) : (upT p s a d B i).length = B.length := by simp [upT]

theorem upT_get (p : Int) (s : List Int) (a d : Nat) (B : List (List Int)) (i : Nat) {j : Nat} (h : j < B.length) : (upT p s a d B i).getD j [] = if j < i ∧ j ≠ d then upR p s a (B.getD j []) else B.getD j [] := by
  simp [upT, List.getD, h]

theorem upT_zero (p : Int) (s : List Int) (a d : Nat) (B : List (List Int)) : upT p s a d B 0 = B :=
  list2_ext (upT_length ..) fun j hj => by rw [upT_length] at hj; rw [upT_get _ _ _ _ _ _ hj, if_neg (by omega)]

theorem upT_keep (p : Int) (s : List Int) (a d : Nat) (B : List (List Int)) {i : Nat} (h : i = d ∨ (B.getD i []).getD a 0 = 0) : upT p s a d B (i + 1) = upT p s a d B i :=
  list2_ext (by rw [upT_length, upT_length]) fun j hj => by
    rw [upT_length] at hj
    rw [upT_get _ _ _ _ _ _ hj, upT_get _ _ _ _ _ _ hj]
    by_cases e : j = i
    · subst e
      rcases h with h | h
      · rw [if_neg (by omega), if_neg (by omega)]
      · rw [if_neg (by omega : ¬ (j < j ∧ j ≠ d))]
        split
        · rw [upR, if_neg (by omega)]
        · rfl
    · by_cases e2 : j < i ∧ j ≠ d
      · rw [if_pos e2, if_pos (by omega)]
      · rw [if_neg e2, if_neg (by omega)]

theorem upT_set (p : Int) (s : List Int) (a d : Nat) (B : List (List Int)) {i : Nat} (hi : i < B.length) (h : i ≠ d) : (upT p s a d B i).set i (upR p s a (B.getD i [])) = upT p s a d B (i + 1) :=
  list2_ext (by rw [List.length_set, upT_length, upT_length]) fun j hj => by
    rw [List.length_set, upT_length] at hj
    rw [upT_get _ _ _ _ _ _ hj]
    by_cases e : j = i
    · subst e
      rw [if_pos (by omega)]
      simp [List.getD, upT_length, hj]
    · rw [show ((upT p s a d B i).set i (upR p s a (B.getD i []))).getD j [] = (upT p s a d B i).getD j [] by simp [List.getD, List.getElem?_set_ne (Ne.symm e)], upT_get _ _ _ _ _ _ hj]
      by_cases e2 : j < i ∧ j ≠ d
      · rw [if_pos e2, if_pos (by omega)]
      · rw [if_neg e2, if_neg (by omega)]

/-- The row at r, made 1 at a, and the rows with it at place d. -/
def ecS (p : Int) (out : List (List Int)) (a r : Nat) : List Int := scF p (ivM p ((out.getD r []).getD a 0)) (out.getD r [])
def ecB (p : Int) (out : List (List Int)) (a d r : Nat) : List (List Int) := (out.set r (out.getD d [])).set d (ecS p out a r)
def ecW (R : List (List Int)) : Nat := (R.getD 0 []).length

theorem ecB_length (p : Int) (out : List (List Int)) (a d r : Nat) : (ecB p out a d r).length = out.length := by simp [ecB]

theorem ecB_get (p : Int) (out : List (List Int)) (a d r : Nat) {i : Nat} (h : i < out.length) : (ecB p out a d r).getD i [] = if i = d then ecS p out a r else if i = r then out.getD d [] else out.getD i [] := by
  unfold ecB
  by_cases e : i = d
  · subst e; simp [List.getD, h]
  · rw [if_neg e]
    by_cases e2 : i = r
    · subst e2; rw [if_pos rfl]; simp only [List.getD, List.getElem?_set_ne (Ne.symm e)]; simp [h]
    · simp [List.getD, List.getElem?_set_ne (Ne.symm e), List.getElem?_set_ne (Ne.symm e2), e2]

theorem scF_st (p m : Int) (r : List Int) : stF p m r (List.replicate r.length 0) = scF p m r := by
  unfold stF scF
  rw [List.length_replicate]
  refine tab_ext fun q hq => ?_
  rw [show (List.replicate r.length (0 : Int)).getD q 0 = 0 by simp [List.getD, hq], Int.zero_add, Int.mul_comm]

section
variable {p : Int} {N : Nat} {R out : List (List Int)} {d a r : Nat}

theorem ecS_ok (hp : primeB p = true) (E : EInv p N R out d a) (hr : d ≤ r) (hr2 : r < out.length) (hne : at2 out r a ≠ 0) : rwP p N (ecS p out a r) ∧ (ecS p out a r).getD a 0 = 1 := by
  have rr := E.row r hr2
  have lr : ldF (out.getD r []) = (a : Int) := ld_is hne fun i hi => E.low r hr hr2 i hi
  have n := scF_nrm hp rr (by omega)
  rw [lr, Int.toNat_natCast] at n
  have n1 := n.one
  rw [lr, Int.toNat_natCast] at n1
  exact ⟨n.row, n1⟩

theorem ecB_row (hp : primeB p = true) (E : EInv p N R out d a) (hr : d ≤ r) (hr2 : r < out.length) (hne : at2 out r a ≠ 0) {i : Nat} (hi : i < out.length) : rwP p N ((ecB p out a d r).getD i []) := by
  rw [ecB_get _ _ _ _ _ hi]
  split
  · exact (ecS_ok hp E hr hr2 hne).1
  · split
    · exact E.row d (by omega)
    · exact E.row i hi

theorem ec_step (hp : primeB p = true) (E : EInv p N R out d a) (ha : a < N) (hr : d ≤ r) (hr2 : r < out.length) (hne : at2 out r a ≠ 0) : EInv p N R (upT p (ecS p out a r) a d (ecB p out a d r) out.length) (d + 1) (a + 1) :=
  E.step hp ha hr hr2 hne rfl (by rw [upT_length, ecB_length]) fun i hi => by
    rw [upT_get _ _ _ _ _ _ (by rw [ecB_length]; exact hi), ecB_get _ _ _ _ _ hi]
    by_cases e : i = d
    · rw [if_neg (by omega), if_pos e, if_pos e]; rfl
    · rw [if_pos ⟨hi, e⟩, if_neg e, if_neg e]; rfl

theorem ec_st (hl : (out.getD r []).length = N) : stF p (p - (p - ivM p ((out.getD r []).getD a 0))) (out.getD r []) (List.replicate N 0) = ecS p out a r := by
  rw [show p - (p - ivM p ((out.getD r []).getD a 0)) = ivM p ((out.getD r []).getD a 0) by omega, ← hl, scF_st]; rfl

theorem ec_upg {s : List Int} {B : List (List Int)} {i : Nat} (hi : i < B.length) : (upT p s a d B i).getD i [] = B.getD i [] := by rw [upT_get _ _ _ _ _ _ hi, if_neg (by omega)]
end

def l15Echelon_p (R : List (List Int)) (p : Int) : Post := ⟨primeB p = true ∧ (∃ N, rwsP p N R ∧ 1 ≤ N ∧ N ≤ 512) ∧ R.length ≤ 512, .c (.ro (.rows .i64 (srtL (imN p R R.length)))), []⟩
def l15Echelon_ct : List AD → Option Post
  | [.c (.rows .i64 (R)), .c (.int .i64 (p))] => some (l15Echelon_p R p)
  | _ => none
def l15Echelon_ann (R : List (List Int)) (p : Int) : Nat → Option Ann
  | 0 => some (Ann.mk ((Nat) × (Nat) × (List (List Int))) (fun x => match x with | (a, d, out) => ⟨[(1, .c (.int .i64 (p))), (5, .c (.own (100))), (6, .c (.int .i64 ((d : Int)))), (7, .c (.int .i64 ((ecW R : Int)))), (8, .c (.int .i64 ((a : Int))))], [(100, some (.lst 0 46 (.rows .i64 (out))))]⟩) (fun x => match x with | (a, d, out) => a ≤ ecW R ∧ out.length = R.length ∧ EInv p (ecW R) R out d a) (fun x => match x with | (a, d, out) => ecW R - a) (fun x => match x with | (a, d, out) => fun b_ => match b_ with | 2 => some (Ann.mk ((Nat)) (fun f => ⟨[(1, .c (.int .i64 (p))), (5, .c (.own (100))), (6, .c (.int .i64 ((d : Int)))), (7, .c (.int .i64 ((ecW R : Int)))), (8, .c (.int .i64 ((a : Int)))), (9, .c (.int .i64 ((f : Int))))], [(100, some (.lst 0 46 (.rows .i64 (out))))]⟩) (fun f => d ≤ f ∧ f ≤ out.length ∧ a < ecW R ∧ ∀ i, d ≤ i → i < f → at2 out i a = 0) (fun f => out.length - f) (fun _ => noAnn)) | 4 => some (Ann.mk ((Nat) × (Nat)) (fun x => match x with | (i, r) => ⟨[(1, .c (.int .i64 (p))), (5, .c (.own (100))), (6, .c (.int .i64 ((d : Int)))), (7, .c (.int .i64 ((ecW R : Int)))), (8, .c (.int .i64 ((a : Int)))), (10, .c (.ro (.ints .i64 (ecS p out a r)))), (11, .c (.int .i64 ((i : Int))))], [(100, some (.lst 0 46 (.rows .i64 (upT p (ecS p out a r) a d (ecB p out a d r) i))))]⟩) (fun x => match x with | (i, r) => d ≤ r ∧ r < out.length ∧ a < ecW R ∧ at2 out r a ≠ 0 ∧ i ≤ out.length) (fun x => match x with | (i, r) => out.length - i) (fun _ => noAnn)) | _ => none))
  | _ => none
def l15Echelon_G : List (Nat × Ctr) := [(99, ⟨[], l01Own2_ct⟩), (100, ⟨[], l15Less_ct⟩), (101, ⟨[], l15Inverse_ct⟩)]
def l15Echelon_V (R : List (List Int)) (p : Int) : Prop :=
  (((roomR R) ∧
 (True)) ∧
 (BrP (Decidable.decide ((0 : Int) < (↑(List.length R) : Int)))
 ((inB (0 : Int) (List.length R)) ∧
 ((∃ x0 : Nat × Nat × List (List Int), (((Prod.fst x0 ≤ ecW R) ∧
 ((List.length (Prod.snd x0.2) = List.length R) ∧
 (EInv p (ecW R) R (Prod.snd x0.2) (Prod.fst x0.2) (Prod.fst x0)))) ∧
 ((p = p) ∧
 (((0 : Int) = (↑x0.2.1 : Int)) ∧
 (((↑(List.length (List.getD R (0 : Nat) [])) : Int) = (↑(ecW R) : Int)) ∧
 (((0 : Int) = (↑x0.1 : Int)) ∧
 (R = x0.2.2))))))) ∧
 (∀ x1 : Nat × Nat × List (List Int), (((Prod.fst x1 ≤ ecW R) ∧
 ((List.length (Prod.snd x1.2) = List.length R) ∧
 (EInv p (ecW R) R (Prod.snd x1.2) (Prod.fst x1.2) (Prod.fst x1)))) →
 (BrP (Decidable.decide ((↑x1.1 : Int) < (↑(ecW R) : Int)))
 ((∃ x2 : Nat, (((x1.2.1 ≤ x2) ∧
 ((x2 ≤ List.length x1.2.2) ∧
 ((x1.1 < ecW R) ∧
 (∀ (i : Nat), x1.2.1 ≤ i → i < x2 → at2 x1.2.2 i x1.1 = (0 : Int))))) ∧
 ((p = p) ∧
 (((↑x1.2.1 : Int) = (↑x1.2.1 : Int)) ∧
 (((↑(ecW R) : Int) = (↑(ecW R) : Int)) ∧
 (((↑x1.1 : Int) = (↑x1.1 : Int)) ∧
 (((↑x1.2.1 : Int) = (↑x2 : Int)) ∧
 (x1.2.2 = x1.2.2)))))))) ∧
 (∀ x3 : Nat, (((x1.2.1 ≤ x3) ∧
 ((x3 ≤ List.length x1.2.2) ∧
 ((x1.1 < ecW R) ∧
 (∀ (i : Nat), x1.2.1 ≤ i → i < x3 → at2 x1.2.2 i x1.1 = (0 : Int))))) →
 (BrP (Decidable.decide ((↑x3 : Int) < (↑(FC.len (FC.rows IntKind.i64 x1.2.2)) : Int)))
 ((inB (↑x3 : Int) (FC.len (FC.rows IntKind.i64 x1.2.2))) ∧
 ((inB (↑x1.1 : Int) (List.length (List.getD x1.2.2 (Int.toNat (↑x3 : Int)) []))) ∧
 (BrP (List.getD (List.getD x1.2.2 (Int.toNat (↑x3 : Int)) []) (Int.toNat (↑x1.1 : Int)) (0 : Int) == (0 : Int))
 ((InR ((↑x3 : Int) + (1 : Int))) ∧
 (∃ x4 : Nat, (((x1.2.1 ≤ x4) ∧
 ((x4 ≤ List.length x1.2.2) ∧
 ((x1.1 < ecW R) ∧
 (∀ (i : Nat), x1.2.1 ≤ i → i < x4 → at2 x1.2.2 i x1.1 = (0 : Int))))) ∧
 ((List.length x1.2.2 - x4 < List.length x1.2.2 - x3) ∧
 ((p = p) ∧
 (((↑x1.2.1 : Int) = (↑x1.2.1 : Int)) ∧
 (((↑(ecW R) : Int) = (↑(ecW R) : Int)) ∧
 (((↑x1.1 : Int) = (↑x1.1 : Int)) ∧
 (((↑x3 : Int) + (1 : Int) = (↑x4 : Int)) ∧
 (x1.2.2 = x1.2.2))))))))))
 (BrP ((↑x3 : Int) == (↑(FC.len (FC.rows IntKind.i64 x1.2.2)) : Int))
 ((InR ((↑x1.1 : Int) + (1 : Int))) ∧
 (∃ x5 : Nat × Nat × List (List Int), (((Prod.fst x5 ≤ ecW R) ∧
 ((List.length (Prod.snd x5.2) = List.length R) ∧
 (EInv p (ecW R) R (Prod.snd x5.2) (Prod.fst x5.2) (Prod.fst x5)))) ∧
 ((ecW R - Prod.fst x5 < ecW R - Prod.fst x1) ∧
 ((p = p) ∧
 (((↑x1.2.1 : Int) = (↑x5.2.1 : Int)) ∧
 (((↑(ecW R) : Int) = (↑(ecW R) : Int)) ∧
 (((↑x1.1 : Int) + (1 : Int) = (↑x5.1 : Int)) ∧
 (x1.2.2 = x5.2.2)))))))))
 ((inB (↑x3 : Int) (FC.len (FC.rows IntKind.i64 x1.2.2))) ∧
 ((inB (↑x1.2.1 : Int) (FC.len (FC.rows IntKind.i64 x1.2.2))) ∧
 ((inB (↑x3 : Int) (FC.len (FC.rows IntKind.i64 x1.2.2))) ∧
 ((((0 : Int) ≤ (↑(ecW R) : Int)) ∧
 (((↑(ecW R) : Int) ≤ (↑(ecW R) : Int)) ∧
 (room (Int.toNat (↑(ecW R) : Int))))) ∧
 ((inB (↑x1.1 : Int) (List.length (List.getD x1.2.2 (Int.toNat (↑x3 : Int)) []))) ∧
 ((((primeB p = Bool.true) ∧
 (((1 : Int) ≤ List.getD (List.getD x1.2.2 (Int.toNat (↑x3 : Int)) []) (Int.toNat (↑x1.1 : Int)) (0 : Int)) ∧
 (List.getD (List.getD x1.2.2 (Int.toNat (↑x3 : Int)) []) (Int.toNat (↑x1.1 : Int)) (0 : Int) ≤ p - (1 : Int)))) ∧
 (True)) ∧
 ((InR (p - ivM p (List.getD (List.getD x1.2.2 (Int.toNat (↑x3 : Int)) []) (Int.toNat (↑x1.1 : Int)) (0 : Int)))) ∧
 ((((twR p (List.replicate (Int.toNat (↑(ecW R) : Int)) (0 : Int)) (List.getD x1.2.2 (Int.toNat (↑x3 : Int)) [])) ∧
 (((0 : Int) ≤ p - (p - ivM p (List.getD (List.getD x1.2.2 (Int.toNat (↑x3 : Int)) []) (Int.toNat (↑x1.1 : Int)) (0 : Int)))) ∧
 ((p - (p - ivM p (List.getD (List.getD x1.2.2 (Int.toNat (↑x3 : Int)) []) (Int.toNat (↑x1.1 : Int)) (0 : Int))) ≤ (7 : Int)) ∧
 (((-100 : Int) ≤ p - ivM p (List.getD (List.getD x1.2.2 (Int.toNat (↑x3 : Int)) []) (Int.toNat (↑x1.1 : Int)) (0 : Int))) ∧
 (p - ivM p (List.getD (List.getD x1.2.2 (Int.toNat (↑x3 : Int)) []) (Int.toNat (↑x1.1 : Int)) (0 : Int)) ≤ (100 : Int)))))) ∧
 (True)) ∧
 ((inB (↑x1.2.1 : Int) (FC.len (FC.rows IntKind.i64 (List.set x1.2.2 (Int.toNat (↑x3 : Int)) (List.getD x1.2.2 (Int.toNat (↑x1.2.1 : Int)) []))))) ∧
 ((∃ x6 : Nat × Nat, (((x1.2.1 ≤ Prod.snd x6) ∧
 ((Prod.snd x6 < List.length x1.2.2) ∧
 ((x1.1 < ecW R) ∧
 ((at2 x1.2.2 (Prod.snd x6) x1.1 ≠ (0 : Int)) ∧
 (Prod.fst x6 ≤ List.length x1.2.2))))) ∧
 ((p = p) ∧
 (((↑x1.2.1 : Int) = (↑x1.2.1 : Int)) ∧
 (((↑(ecW R) : Int) = (↑(ecW R) : Int)) ∧
 (((↑x1.1 : Int) = (↑x1.1 : Int)) ∧
 ((stF p (p - (p - ivM p (List.getD (List.getD x1.2.2 (Int.toNat (↑x3 : Int)) []) (Int.toNat (↑x1.1 : Int)) (0 : Int)))) (List.getD x1.2.2 (Int.toNat (↑x3 : Int)) []) (List.replicate (Int.toNat (↑(ecW R) : Int)) (0 : Int)) = ecS p x1.2.2 x1.1 x6.2) ∧
 (((0 : Int) = (↑x6.1 : Int)) ∧
 (List.set (List.set x1.2.2 (Int.toNat (↑x3 : Int)) (List.getD x1.2.2 (Int.toNat (↑x1.2.1 : Int)) [])) (Int.toNat (↑x1.2.1 : Int)) (stF p (p - (p - ivM p (List.getD (List.getD x1.2.2 (Int.toNat (↑x3 : Int)) []) (Int.toNat (↑x1.1 : Int)) (0 : Int)))) (List.getD x1.2.2 (Int.toNat (↑x3 : Int)) []) (List.replicate (Int.toNat (↑(ecW R) : Int)) (0 : Int))) = upT p (ecS p x1.2.2 x1.1 x6.2) x1.1 x1.2.1 (ecB p x1.2.2 x1.1 x1.2.1 x6.2) x6.1))))))))) ∧
 (∀ x7 : Nat × Nat, (((x1.2.1 ≤ Prod.snd x7) ∧
 ((Prod.snd x7 < List.length x1.2.2) ∧
 ((x1.1 < ecW R) ∧
 ((at2 x1.2.2 (Prod.snd x7) x1.1 ≠ (0 : Int)) ∧
 (Prod.fst x7 ≤ List.length x1.2.2))))) →
 (BrP (Decidable.decide ((↑x7.1 : Int) < (↑(FC.len (FC.rows IntKind.i64 (upT p (ecS p x1.2.2 x1.1 x7.2) x1.1 x1.2.1 (ecB p x1.2.2 x1.1 x1.2.1 x7.2) x7.1))) : Int)))
 (BrP ((↑x7.1 : Int) != (↑x1.2.1 : Int))
 ((inB (↑x7.1 : Int) (FC.len (FC.rows IntKind.i64 (upT p (ecS p x1.2.2 x1.1 x7.2) x1.1 x1.2.1 (ecB p x1.2.2 x1.1 x1.2.1 x7.2) x7.1)))) ∧
 ((inB (↑x1.1 : Int) (List.length (List.getD (upT p (ecS p x1.2.2 x1.1 x7.2) x1.1 x1.2.1 (ecB p x1.2.2 x1.1 x1.2.1 x7.2) x7.1) (Int.toNat (↑x7.1 : Int)) []))) ∧
 (BrP (List.getD (List.getD (upT p (ecS p x1.2.2 x1.1 x7.2) x1.1 x1.2.1 (ecB p x1.2.2 x1.1 x1.2.1 x7.2) x7.1) (Int.toNat (↑x7.1 : Int)) []) (Int.toNat (↑x1.1 : Int)) (0 : Int) != (0 : Int))
 ((inB (↑x7.1 : Int) (FC.len (FC.rows IntKind.i64 (upT p (ecS p x1.2.2 x1.1 x7.2) x1.1 x1.2.1 (ecB p x1.2.2 x1.1 x1.2.1 x7.2) x7.1)))) ∧
 ((inB (↑x7.1 : Int) (FC.len (FC.rows IntKind.i64 (upT p (ecS p x1.2.2 x1.1 x7.2) x1.1 x1.2.1 (ecB p x1.2.2 x1.1 x1.2.1 x7.2) x7.1)))) ∧
 ((inB (↑x1.1 : Int) (List.length (List.getD (upT p (ecS p x1.2.2 x1.1 x7.2) x1.1 x1.2.1 (ecB p x1.2.2 x1.1 x1.2.1 x7.2) x7.1) (Int.toNat (↑x7.1 : Int)) []))) ∧
 ((((twR p (List.getD (upT p (ecS p x1.2.2 x1.1 x7.2) x1.1 x1.2.1 (ecB p x1.2.2 x1.1 x1.2.1 x7.2) x7.1) (Int.toNat (↑x7.1 : Int)) []) (ecS p x1.2.2 x1.1 x7.2)) ∧
 (((0 : Int) ≤ p - List.getD (List.getD (upT p (ecS p x1.2.2 x1.1 x7.2) x1.1 x1.2.1 (ecB p x1.2.2 x1.1 x1.2.1 x7.2) x7.1) (Int.toNat (↑x7.1 : Int)) []) (Int.toNat (↑x1.1 : Int)) (0 : Int)) ∧
 ((p - List.getD (List.getD (upT p (ecS p x1.2.2 x1.1 x7.2) x1.1 x1.2.1 (ecB p x1.2.2 x1.1 x1.2.1 x7.2) x7.1) (Int.toNat (↑x7.1 : Int)) []) (Int.toNat (↑x1.1 : Int)) (0 : Int) ≤ (7 : Int)) ∧
 (((-100 : Int) ≤ List.getD (List.getD (upT p (ecS p x1.2.2 x1.1 x7.2) x1.1 x1.2.1 (ecB p x1.2.2 x1.1 x1.2.1 x7.2) x7.1) (Int.toNat (↑x7.1 : Int)) []) (Int.toNat (↑x1.1 : Int)) (0 : Int)) ∧
 (List.getD (List.getD (upT p (ecS p x1.2.2 x1.1 x7.2) x1.1 x1.2.1 (ecB p x1.2.2 x1.1 x1.2.1 x7.2) x7.1) (Int.toNat (↑x7.1 : Int)) []) (Int.toNat (↑x1.1 : Int)) (0 : Int) ≤ (100 : Int)))))) ∧
 (True)) ∧
 ((inB (↑x7.1 : Int) (FC.len (FC.rows IntKind.i64 (upT p (ecS p x1.2.2 x1.1 x7.2) x1.1 x1.2.1 (ecB p x1.2.2 x1.1 x1.2.1 x7.2) x7.1)))) ∧
 ((InR ((↑x7.1 : Int) + (1 : Int))) ∧
 (∃ x8 : Nat × Nat, (((x1.2.1 ≤ Prod.snd x8) ∧
 ((Prod.snd x8 < List.length x1.2.2) ∧
 ((x1.1 < ecW R) ∧
 ((at2 x1.2.2 (Prod.snd x8) x1.1 ≠ (0 : Int)) ∧
 (Prod.fst x8 ≤ List.length x1.2.2))))) ∧
 ((List.length x1.2.2 - Prod.fst x8 < List.length x1.2.2 - Prod.fst x7) ∧
 ((p = p) ∧
 (((↑x1.2.1 : Int) = (↑x1.2.1 : Int)) ∧
 (((↑(ecW R) : Int) = (↑(ecW R) : Int)) ∧
 (((↑x1.1 : Int) = (↑x1.1 : Int)) ∧
 ((ecS p x1.2.2 x1.1 x7.2 = ecS p x1.2.2 x1.1 x8.2) ∧
 (((↑x7.1 : Int) + (1 : Int) = (↑x8.1 : Int)) ∧
 (List.set (upT p (ecS p x1.2.2 x1.1 x7.2) x1.1 x1.2.1 (ecB p x1.2.2 x1.1 x1.2.1 x7.2) x7.1) (Int.toNat (↑x7.1 : Int)) (stF p (p - List.getD (List.getD (upT p (ecS p x1.2.2 x1.1 x7.2) x1.1 x1.2.1 (ecB p x1.2.2 x1.1 x1.2.1 x7.2) x7.1) (Int.toNat (↑x7.1 : Int)) []) (Int.toNat (↑x1.1 : Int)) (0 : Int)) (ecS p x1.2.2 x1.1 x7.2) (List.getD (upT p (ecS p x1.2.2 x1.1 x7.2) x1.1 x1.2.1 (ecB p x1.2.2 x1.1 x1.2.1 x7.2) x7.1) (Int.toNat (↑x7.1 : Int)) [])) = upT p (ecS p x1.2.2 x1.1 x8.2) x1.1 x1.2.1 (ecB p x1.2.2 x1.1 x1.2.1 x8.2) x8.1))))))))))))))))
 ((InR ((↑x7.1 : Int) + (1 : Int))) ∧
 (∃ x9 : Nat × Nat, (((x1.2.1 ≤ Prod.snd x9) ∧
 ((Prod.snd x9 < List.length x1.2.2) ∧
 ((x1.1 < ecW R) ∧
 ((at2 x1.2.2 (Prod.snd x9) x1.1 ≠ (0 : Int)) ∧
 (Prod.fst x9 ≤ List.length x1.2.2))))) ∧
 ((List.length x1.2.2 - Prod.fst x9 < List.length x1.2.2 - Prod.fst x7) ∧
 ((p = p) ∧
 (((↑x1.2.1 : Int) = (↑x1.2.1 : Int)) ∧
 (((↑(ecW R) : Int) = (↑(ecW R) : Int)) ∧
 (((↑x1.1 : Int) = (↑x1.1 : Int)) ∧
 ((ecS p x1.2.2 x1.1 x7.2 = ecS p x1.2.2 x1.1 x9.2) ∧
 (((↑x7.1 : Int) + (1 : Int) = (↑x9.1 : Int)) ∧
 (upT p (ecS p x1.2.2 x1.1 x7.2) x1.1 x1.2.1 (ecB p x1.2.2 x1.1 x1.2.1 x7.2) x7.1 = upT p (ecS p x1.2.2 x1.1 x9.2) x1.1 x1.2.1 (ecB p x1.2.2 x1.1 x1.2.1 x9.2) x9.1))))))))))))))
 ((InR ((↑x7.1 : Int) + (1 : Int))) ∧
 (∃ x10 : Nat × Nat, (((x1.2.1 ≤ Prod.snd x10) ∧
 ((Prod.snd x10 < List.length x1.2.2) ∧
 ((x1.1 < ecW R) ∧
 ((at2 x1.2.2 (Prod.snd x10) x1.1 ≠ (0 : Int)) ∧
 (Prod.fst x10 ≤ List.length x1.2.2))))) ∧
 ((List.length x1.2.2 - Prod.fst x10 < List.length x1.2.2 - Prod.fst x7) ∧
 ((p = p) ∧
 (((↑x1.2.1 : Int) = (↑x1.2.1 : Int)) ∧
 (((↑(ecW R) : Int) = (↑(ecW R) : Int)) ∧
 (((↑x1.1 : Int) = (↑x1.1 : Int)) ∧
 ((ecS p x1.2.2 x1.1 x7.2 = ecS p x1.2.2 x1.1 x10.2) ∧
 (((↑x7.1 : Int) + (1 : Int) = (↑x10.1 : Int)) ∧
 (upT p (ecS p x1.2.2 x1.1 x7.2) x1.1 x1.2.1 (ecB p x1.2.2 x1.1 x1.2.1 x7.2) x7.1 = upT p (ecS p x1.2.2 x1.1 x10.2) x1.1 x1.2.1 (ecB p x1.2.2 x1.1 x1.2.1 x10.2) x10.1))))))))))))
 ((InR ((↑x1.2.1 : Int) + (1 : Int))) ∧
 ((InR ((↑x1.1 : Int) + (1 : Int))) ∧
 (∃ x11 : Nat × Nat × List (List Int), (((Prod.fst x11 ≤ ecW R) ∧
 ((List.length (Prod.snd x11.2) = List.length R) ∧
 (EInv p (ecW R) R (Prod.snd x11.2) (Prod.fst x11.2) (Prod.fst x11)))) ∧
 ((ecW R - Prod.fst x11 < ecW R - Prod.fst x1) ∧
 ((p = p) ∧
 (((↑x1.2.1 : Int) + (1 : Int) = (↑x11.2.1 : Int)) ∧
 (((↑(ecW R) : Int) = (↑(ecW R) : Int)) ∧
 (((↑x1.1 : Int) + (1 : Int) = (↑x11.1 : Int)) ∧
 (upT p (ecS p x1.2.2 x1.1 x7.2) x1.1 x1.2.1 (ecB p x1.2.2 x1.1 x1.2.1 x7.2) x7.1 = x11.2.2)))))))))))))))))))))))))))
 (BrP ((↑x3 : Int) == (↑(FC.len (FC.rows IntKind.i64 x1.2.2)) : Int))
 ((InR ((↑x1.1 : Int) + (1 : Int))) ∧
 (∃ x12 : Nat × Nat × List (List Int), (((Prod.fst x12 ≤ ecW R) ∧
 ((List.length (Prod.snd x12.2) = List.length R) ∧
 (EInv p (ecW R) R (Prod.snd x12.2) (Prod.fst x12.2) (Prod.fst x12)))) ∧
 ((ecW R - Prod.fst x12 < ecW R - Prod.fst x1) ∧
 ((p = p) ∧
 (((↑x1.2.1 : Int) = (↑x12.2.1 : Int)) ∧
 (((↑(ecW R) : Int) = (↑(ecW R) : Int)) ∧
 (((↑x1.1 : Int) + (1 : Int) = (↑x12.1 : Int)) ∧
 (x1.2.2 = x12.2.2)))))))))
 ((inB (↑x3 : Int) (FC.len (FC.rows IntKind.i64 x1.2.2))) ∧
 ((inB (↑x1.2.1 : Int) (FC.len (FC.rows IntKind.i64 x1.2.2))) ∧
 ((inB (↑x3 : Int) (FC.len (FC.rows IntKind.i64 x1.2.2))) ∧
 ((((0 : Int) ≤ (↑(ecW R) : Int)) ∧
 (((↑(ecW R) : Int) ≤ (↑(ecW R) : Int)) ∧
 (room (Int.toNat (↑(ecW R) : Int))))) ∧
 ((inB (↑x1.1 : Int) (List.length (List.getD x1.2.2 (Int.toNat (↑x3 : Int)) []))) ∧
 ((((primeB p = Bool.true) ∧
 (((1 : Int) ≤ List.getD (List.getD x1.2.2 (Int.toNat (↑x3 : Int)) []) (Int.toNat (↑x1.1 : Int)) (0 : Int)) ∧
 (List.getD (List.getD x1.2.2 (Int.toNat (↑x3 : Int)) []) (Int.toNat (↑x1.1 : Int)) (0 : Int) ≤ p - (1 : Int)))) ∧
 (True)) ∧
 ((InR (p - ivM p (List.getD (List.getD x1.2.2 (Int.toNat (↑x3 : Int)) []) (Int.toNat (↑x1.1 : Int)) (0 : Int)))) ∧
 ((((twR p (List.replicate (Int.toNat (↑(ecW R) : Int)) (0 : Int)) (List.getD x1.2.2 (Int.toNat (↑x3 : Int)) [])) ∧
 (((0 : Int) ≤ p - (p - ivM p (List.getD (List.getD x1.2.2 (Int.toNat (↑x3 : Int)) []) (Int.toNat (↑x1.1 : Int)) (0 : Int)))) ∧
 ((p - (p - ivM p (List.getD (List.getD x1.2.2 (Int.toNat (↑x3 : Int)) []) (Int.toNat (↑x1.1 : Int)) (0 : Int))) ≤ (7 : Int)) ∧
 (((-100 : Int) ≤ p - ivM p (List.getD (List.getD x1.2.2 (Int.toNat (↑x3 : Int)) []) (Int.toNat (↑x1.1 : Int)) (0 : Int))) ∧
 (p - ivM p (List.getD (List.getD x1.2.2 (Int.toNat (↑x3 : Int)) []) (Int.toNat (↑x1.1 : Int)) (0 : Int)) ≤ (100 : Int)))))) ∧
 (True)) ∧
 ((inB (↑x1.2.1 : Int) (FC.len (FC.rows IntKind.i64 (List.set x1.2.2 (Int.toNat (↑x3 : Int)) (List.getD x1.2.2 (Int.toNat (↑x1.2.1 : Int)) []))))) ∧
 ((∃ x13 : Nat × Nat, (((x1.2.1 ≤ Prod.snd x13) ∧
 ((Prod.snd x13 < List.length x1.2.2) ∧
 ((x1.1 < ecW R) ∧
 ((at2 x1.2.2 (Prod.snd x13) x1.1 ≠ (0 : Int)) ∧
 (Prod.fst x13 ≤ List.length x1.2.2))))) ∧
 ((p = p) ∧
 (((↑x1.2.1 : Int) = (↑x1.2.1 : Int)) ∧
 (((↑(ecW R) : Int) = (↑(ecW R) : Int)) ∧
 (((↑x1.1 : Int) = (↑x1.1 : Int)) ∧
 ((stF p (p - (p - ivM p (List.getD (List.getD x1.2.2 (Int.toNat (↑x3 : Int)) []) (Int.toNat (↑x1.1 : Int)) (0 : Int)))) (List.getD x1.2.2 (Int.toNat (↑x3 : Int)) []) (List.replicate (Int.toNat (↑(ecW R) : Int)) (0 : Int)) = ecS p x1.2.2 x1.1 x13.2) ∧
 (((0 : Int) = (↑x13.1 : Int)) ∧
 (List.set (List.set x1.2.2 (Int.toNat (↑x3 : Int)) (List.getD x1.2.2 (Int.toNat (↑x1.2.1 : Int)) [])) (Int.toNat (↑x1.2.1 : Int)) (stF p (p - (p - ivM p (List.getD (List.getD x1.2.2 (Int.toNat (↑x3 : Int)) []) (Int.toNat (↑x1.1 : Int)) (0 : Int)))) (List.getD x1.2.2 (Int.toNat (↑x3 : Int)) []) (List.replicate (Int.toNat (↑(ecW R) : Int)) (0 : Int))) = upT p (ecS p x1.2.2 x1.1 x13.2) x1.1 x1.2.1 (ecB p x1.2.2 x1.1 x1.2.1 x13.2) x13.1))))))))) ∧
 (∀ x14 : Nat × Nat, (((x1.2.1 ≤ Prod.snd x14) ∧
 ((Prod.snd x14 < List.length x1.2.2) ∧
 ((x1.1 < ecW R) ∧
 ((at2 x1.2.2 (Prod.snd x14) x1.1 ≠ (0 : Int)) ∧
 (Prod.fst x14 ≤ List.length x1.2.2))))) →
 (BrP (Decidable.decide ((↑x14.1 : Int) < (↑(FC.len (FC.rows IntKind.i64 (upT p (ecS p x1.2.2 x1.1 x14.2) x1.1 x1.2.1 (ecB p x1.2.2 x1.1 x1.2.1 x14.2) x14.1))) : Int)))
 (BrP ((↑x14.1 : Int) != (↑x1.2.1 : Int))
 ((inB (↑x14.1 : Int) (FC.len (FC.rows IntKind.i64 (upT p (ecS p x1.2.2 x1.1 x14.2) x1.1 x1.2.1 (ecB p x1.2.2 x1.1 x1.2.1 x14.2) x14.1)))) ∧
 ((inB (↑x1.1 : Int) (List.length (List.getD (upT p (ecS p x1.2.2 x1.1 x14.2) x1.1 x1.2.1 (ecB p x1.2.2 x1.1 x1.2.1 x14.2) x14.1) (Int.toNat (↑x14.1 : Int)) []))) ∧
 (BrP (List.getD (List.getD (upT p (ecS p x1.2.2 x1.1 x14.2) x1.1 x1.2.1 (ecB p x1.2.2 x1.1 x1.2.1 x14.2) x14.1) (Int.toNat (↑x14.1 : Int)) []) (Int.toNat (↑x1.1 : Int)) (0 : Int) != (0 : Int))
 ((inB (↑x14.1 : Int) (FC.len (FC.rows IntKind.i64 (upT p (ecS p x1.2.2 x1.1 x14.2) x1.1 x1.2.1 (ecB p x1.2.2 x1.1 x1.2.1 x14.2) x14.1)))) ∧
 ((inB (↑x14.1 : Int) (FC.len (FC.rows IntKind.i64 (upT p (ecS p x1.2.2 x1.1 x14.2) x1.1 x1.2.1 (ecB p x1.2.2 x1.1 x1.2.1 x14.2) x14.1)))) ∧
 ((inB (↑x1.1 : Int) (List.length (List.getD (upT p (ecS p x1.2.2 x1.1 x14.2) x1.1 x1.2.1 (ecB p x1.2.2 x1.1 x1.2.1 x14.2) x14.1) (Int.toNat (↑x14.1 : Int)) []))) ∧
 ((((twR p (List.getD (upT p (ecS p x1.2.2 x1.1 x14.2) x1.1 x1.2.1 (ecB p x1.2.2 x1.1 x1.2.1 x14.2) x14.1) (Int.toNat (↑x14.1 : Int)) []) (ecS p x1.2.2 x1.1 x14.2)) ∧
 (((0 : Int) ≤ p - List.getD (List.getD (upT p (ecS p x1.2.2 x1.1 x14.2) x1.1 x1.2.1 (ecB p x1.2.2 x1.1 x1.2.1 x14.2) x14.1) (Int.toNat (↑x14.1 : Int)) []) (Int.toNat (↑x1.1 : Int)) (0 : Int)) ∧
 ((p - List.getD (List.getD (upT p (ecS p x1.2.2 x1.1 x14.2) x1.1 x1.2.1 (ecB p x1.2.2 x1.1 x1.2.1 x14.2) x14.1) (Int.toNat (↑x14.1 : Int)) []) (Int.toNat (↑x1.1 : Int)) (0 : Int) ≤ (7 : Int)) ∧
 (((-100 : Int) ≤ List.getD (List.getD (upT p (ecS p x1.2.2 x1.1 x14.2) x1.1 x1.2.1 (ecB p x1.2.2 x1.1 x1.2.1 x14.2) x14.1) (Int.toNat (↑x14.1 : Int)) []) (Int.toNat (↑x1.1 : Int)) (0 : Int)) ∧
 (List.getD (List.getD (upT p (ecS p x1.2.2 x1.1 x14.2) x1.1 x1.2.1 (ecB p x1.2.2 x1.1 x1.2.1 x14.2) x14.1) (Int.toNat (↑x14.1 : Int)) []) (Int.toNat (↑x1.1 : Int)) (0 : Int) ≤ (100 : Int)))))) ∧
 (True)) ∧
 ((inB (↑x14.1 : Int) (FC.len (FC.rows IntKind.i64 (upT p (ecS p x1.2.2 x1.1 x14.2) x1.1 x1.2.1 (ecB p x1.2.2 x1.1 x1.2.1 x14.2) x14.1)))) ∧
 ((InR ((↑x14.1 : Int) + (1 : Int))) ∧
 (∃ x15 : Nat × Nat, (((x1.2.1 ≤ Prod.snd x15) ∧
 ((Prod.snd x15 < List.length x1.2.2) ∧
 ((x1.1 < ecW R) ∧
 ((at2 x1.2.2 (Prod.snd x15) x1.1 ≠ (0 : Int)) ∧
 (Prod.fst x15 ≤ List.length x1.2.2))))) ∧
 ((List.length x1.2.2 - Prod.fst x15 < List.length x1.2.2 - Prod.fst x14) ∧
 ((p = p) ∧
 (((↑x1.2.1 : Int) = (↑x1.2.1 : Int)) ∧
 (((↑(ecW R) : Int) = (↑(ecW R) : Int)) ∧
 (((↑x1.1 : Int) = (↑x1.1 : Int)) ∧
 ((ecS p x1.2.2 x1.1 x14.2 = ecS p x1.2.2 x1.1 x15.2) ∧
 (((↑x14.1 : Int) + (1 : Int) = (↑x15.1 : Int)) ∧
 (List.set (upT p (ecS p x1.2.2 x1.1 x14.2) x1.1 x1.2.1 (ecB p x1.2.2 x1.1 x1.2.1 x14.2) x14.1) (Int.toNat (↑x14.1 : Int)) (stF p (p - List.getD (List.getD (upT p (ecS p x1.2.2 x1.1 x14.2) x1.1 x1.2.1 (ecB p x1.2.2 x1.1 x1.2.1 x14.2) x14.1) (Int.toNat (↑x14.1 : Int)) []) (Int.toNat (↑x1.1 : Int)) (0 : Int)) (ecS p x1.2.2 x1.1 x14.2) (List.getD (upT p (ecS p x1.2.2 x1.1 x14.2) x1.1 x1.2.1 (ecB p x1.2.2 x1.1 x1.2.1 x14.2) x14.1) (Int.toNat (↑x14.1 : Int)) [])) = upT p (ecS p x1.2.2 x1.1 x15.2) x1.1 x1.2.1 (ecB p x1.2.2 x1.1 x1.2.1 x15.2) x15.1))))))))))))))))
 ((InR ((↑x14.1 : Int) + (1 : Int))) ∧
 (∃ x16 : Nat × Nat, (((x1.2.1 ≤ Prod.snd x16) ∧
 ((Prod.snd x16 < List.length x1.2.2) ∧
 ((x1.1 < ecW R) ∧
 ((at2 x1.2.2 (Prod.snd x16) x1.1 ≠ (0 : Int)) ∧
 (Prod.fst x16 ≤ List.length x1.2.2))))) ∧
 ((List.length x1.2.2 - Prod.fst x16 < List.length x1.2.2 - Prod.fst x14) ∧
 ((p = p) ∧
 (((↑x1.2.1 : Int) = (↑x1.2.1 : Int)) ∧
 (((↑(ecW R) : Int) = (↑(ecW R) : Int)) ∧
 (((↑x1.1 : Int) = (↑x1.1 : Int)) ∧
 ((ecS p x1.2.2 x1.1 x14.2 = ecS p x1.2.2 x1.1 x16.2) ∧
 (((↑x14.1 : Int) + (1 : Int) = (↑x16.1 : Int)) ∧
 (upT p (ecS p x1.2.2 x1.1 x14.2) x1.1 x1.2.1 (ecB p x1.2.2 x1.1 x1.2.1 x14.2) x14.1 = upT p (ecS p x1.2.2 x1.1 x16.2) x1.1 x1.2.1 (ecB p x1.2.2 x1.1 x1.2.1 x16.2) x16.1))))))))))))))
 ((InR ((↑x14.1 : Int) + (1 : Int))) ∧
 (∃ x17 : Nat × Nat, (((x1.2.1 ≤ Prod.snd x17) ∧
 ((Prod.snd x17 < List.length x1.2.2) ∧
 ((x1.1 < ecW R) ∧
 ((at2 x1.2.2 (Prod.snd x17) x1.1 ≠ (0 : Int)) ∧
 (Prod.fst x17 ≤ List.length x1.2.2))))) ∧
 ((List.length x1.2.2 - Prod.fst x17 < List.length x1.2.2 - Prod.fst x14) ∧
 ((p = p) ∧
 (((↑x1.2.1 : Int) = (↑x1.2.1 : Int)) ∧
 (((↑(ecW R) : Int) = (↑(ecW R) : Int)) ∧
 (((↑x1.1 : Int) = (↑x1.1 : Int)) ∧
 ((ecS p x1.2.2 x1.1 x14.2 = ecS p x1.2.2 x1.1 x17.2) ∧
 (((↑x14.1 : Int) + (1 : Int) = (↑x17.1 : Int)) ∧
 (upT p (ecS p x1.2.2 x1.1 x14.2) x1.1 x1.2.1 (ecB p x1.2.2 x1.1 x1.2.1 x14.2) x14.1 = upT p (ecS p x1.2.2 x1.1 x17.2) x1.1 x1.2.1 (ecB p x1.2.2 x1.1 x1.2.1 x17.2) x17.1))))))))))))
 ((InR ((↑x1.2.1 : Int) + (1 : Int))) ∧
 ((InR ((↑x1.1 : Int) + (1 : Int))) ∧
 (∃ x18 : Nat × Nat × List (List Int), (((Prod.fst x18 ≤ ecW R) ∧
 ((List.length (Prod.snd x18.2) = List.length R) ∧
 (EInv p (ecW R) R (Prod.snd x18.2) (Prod.fst x18.2) (Prod.fst x18)))) ∧
 ((ecW R - Prod.fst x18 < ecW R - Prod.fst x1) ∧
 ((p = p) ∧
 (((↑x1.2.1 : Int) + (1 : Int) = (↑x18.2.1 : Int)) ∧
 (((↑(ecW R) : Int) = (↑(ecW R) : Int)) ∧
 (((↑x1.1 : Int) + (1 : Int) = (↑x18.1 : Int)) ∧
 (upT p (ecS p x1.2.2 x1.1 x14.2) x1.1 x1.2.1 (ecB p x1.2.2 x1.1 x1.2.1 x14.2) x14.1 = x18.2.2))))))))))))))))))))))))))))
 ((bdsOk (FC.len (FC.rows IntKind.i64 x1.2.2)) Option.none (Option.some (↑x1.2.1 : Int))) ∧
 ((List.take (Int.toNat (↑x1.2.1 : Int)) (List.drop (0 : Nat) x1.2.2) = srtL (imN p R (List.length R))) ∧
 (True))))))))
 ((∃ x19 : Nat × Nat × List (List Int), (((Prod.fst x19 ≤ ecW R) ∧
 ((List.length (Prod.snd x19.2) = List.length R) ∧
 (EInv p (ecW R) R (Prod.snd x19.2) (Prod.fst x19.2) (Prod.fst x19)))) ∧
 ((p = p) ∧
 (((0 : Int) = (↑x19.2.1 : Int)) ∧
 (((0 : Int) = (↑(ecW R) : Int)) ∧
 (((0 : Int) = (↑x19.1 : Int)) ∧
 (R = x19.2.2))))))) ∧
 (∀ x20 : Nat × Nat × List (List Int), (((Prod.fst x20 ≤ ecW R) ∧
 ((List.length (Prod.snd x20.2) = List.length R) ∧
 (EInv p (ecW R) R (Prod.snd x20.2) (Prod.fst x20.2) (Prod.fst x20)))) →
 (BrP (Decidable.decide ((↑x20.1 : Int) < (↑(ecW R) : Int)))
 ((∃ x21 : Nat, (((x20.2.1 ≤ x21) ∧
 ((x21 ≤ List.length x20.2.2) ∧
 ((x20.1 < ecW R) ∧
 (∀ (i : Nat), x20.2.1 ≤ i → i < x21 → at2 x20.2.2 i x20.1 = (0 : Int))))) ∧
 ((p = p) ∧
 (((↑x20.2.1 : Int) = (↑x20.2.1 : Int)) ∧
 (((↑(ecW R) : Int) = (↑(ecW R) : Int)) ∧
 (((↑x20.1 : Int) = (↑x20.1 : Int)) ∧
 (((↑x20.2.1 : Int) = (↑x21 : Int)) ∧
 (x20.2.2 = x20.2.2)))))))) ∧
 (∀ x22 : Nat, (((x20.2.1 ≤ x22) ∧
 ((x22 ≤ List.length x20.2.2) ∧
 ((x20.1 < ecW R) ∧
 (∀ (i : Nat), x20.2.1 ≤ i → i < x22 → at2 x20.2.2 i x20.1 = (0 : Int))))) →
 (BrP (Decidable.decide ((↑x22 : Int) < (↑(FC.len (FC.rows IntKind.i64 x20.2.2)) : Int)))
 ((inB (↑x22 : Int) (FC.len (FC.rows IntKind.i64 x20.2.2))) ∧
 ((inB (↑x20.1 : Int) (List.length (List.getD x20.2.2 (Int.toNat (↑x22 : Int)) []))) ∧
 (BrP (List.getD (List.getD x20.2.2 (Int.toNat (↑x22 : Int)) []) (Int.toNat (↑x20.1 : Int)) (0 : Int) == (0 : Int))
 ((InR ((↑x22 : Int) + (1 : Int))) ∧
 (∃ x23 : Nat, (((x20.2.1 ≤ x23) ∧
 ((x23 ≤ List.length x20.2.2) ∧
 ((x20.1 < ecW R) ∧
 (∀ (i : Nat), x20.2.1 ≤ i → i < x23 → at2 x20.2.2 i x20.1 = (0 : Int))))) ∧
 ((List.length x20.2.2 - x23 < List.length x20.2.2 - x22) ∧
 ((p = p) ∧
 (((↑x20.2.1 : Int) = (↑x20.2.1 : Int)) ∧
 (((↑(ecW R) : Int) = (↑(ecW R) : Int)) ∧
 (((↑x20.1 : Int) = (↑x20.1 : Int)) ∧
 (((↑x22 : Int) + (1 : Int) = (↑x23 : Int)) ∧
 (x20.2.2 = x20.2.2))))))))))
 (BrP ((↑x22 : Int) == (↑(FC.len (FC.rows IntKind.i64 x20.2.2)) : Int))
 ((InR ((↑x20.1 : Int) + (1 : Int))) ∧
 (∃ x24 : Nat × Nat × List (List Int), (((Prod.fst x24 ≤ ecW R) ∧
 ((List.length (Prod.snd x24.2) = List.length R) ∧
 (EInv p (ecW R) R (Prod.snd x24.2) (Prod.fst x24.2) (Prod.fst x24)))) ∧
 ((ecW R - Prod.fst x24 < ecW R - Prod.fst x20) ∧
 ((p = p) ∧
 (((↑x20.2.1 : Int) = (↑x24.2.1 : Int)) ∧
 (((↑(ecW R) : Int) = (↑(ecW R) : Int)) ∧
 (((↑x20.1 : Int) + (1 : Int) = (↑x24.1 : Int)) ∧
 (x20.2.2 = x24.2.2)))))))))
 ((inB (↑x22 : Int) (FC.len (FC.rows IntKind.i64 x20.2.2))) ∧
 ((inB (↑x20.2.1 : Int) (FC.len (FC.rows IntKind.i64 x20.2.2))) ∧
 ((inB (↑x22 : Int) (FC.len (FC.rows IntKind.i64 x20.2.2))) ∧
 ((((0 : Int) ≤ (↑(ecW R) : Int)) ∧
 (((↑(ecW R) : Int) ≤ (↑(ecW R) : Int)) ∧
 (room (Int.toNat (↑(ecW R) : Int))))) ∧
 ((inB (↑x20.1 : Int) (List.length (List.getD x20.2.2 (Int.toNat (↑x22 : Int)) []))) ∧
 ((((primeB p = Bool.true) ∧
 (((1 : Int) ≤ List.getD (List.getD x20.2.2 (Int.toNat (↑x22 : Int)) []) (Int.toNat (↑x20.1 : Int)) (0 : Int)) ∧
 (List.getD (List.getD x20.2.2 (Int.toNat (↑x22 : Int)) []) (Int.toNat (↑x20.1 : Int)) (0 : Int) ≤ p - (1 : Int)))) ∧
 (True)) ∧
 ((InR (p - ivM p (List.getD (List.getD x20.2.2 (Int.toNat (↑x22 : Int)) []) (Int.toNat (↑x20.1 : Int)) (0 : Int)))) ∧
 ((((twR p (List.replicate (Int.toNat (↑(ecW R) : Int)) (0 : Int)) (List.getD x20.2.2 (Int.toNat (↑x22 : Int)) [])) ∧
 (((0 : Int) ≤ p - (p - ivM p (List.getD (List.getD x20.2.2 (Int.toNat (↑x22 : Int)) []) (Int.toNat (↑x20.1 : Int)) (0 : Int)))) ∧
 ((p - (p - ivM p (List.getD (List.getD x20.2.2 (Int.toNat (↑x22 : Int)) []) (Int.toNat (↑x20.1 : Int)) (0 : Int))) ≤ (7 : Int)) ∧
 (((-100 : Int) ≤ p - ivM p (List.getD (List.getD x20.2.2 (Int.toNat (↑x22 : Int)) []) (Int.toNat (↑x20.1 : Int)) (0 : Int))) ∧
 (p - ivM p (List.getD (List.getD x20.2.2 (Int.toNat (↑x22 : Int)) []) (Int.toNat (↑x20.1 : Int)) (0 : Int)) ≤ (100 : Int)))))) ∧
 (True)) ∧
 ((inB (↑x20.2.1 : Int) (FC.len (FC.rows IntKind.i64 (List.set x20.2.2 (Int.toNat (↑x22 : Int)) (List.getD x20.2.2 (Int.toNat (↑x20.2.1 : Int)) []))))) ∧
 ((∃ x25 : Nat × Nat, (((x20.2.1 ≤ Prod.snd x25) ∧
 ((Prod.snd x25 < List.length x20.2.2) ∧
 ((x20.1 < ecW R) ∧
 ((at2 x20.2.2 (Prod.snd x25) x20.1 ≠ (0 : Int)) ∧
 (Prod.fst x25 ≤ List.length x20.2.2))))) ∧
 ((p = p) ∧
 (((↑x20.2.1 : Int) = (↑x20.2.1 : Int)) ∧
 (((↑(ecW R) : Int) = (↑(ecW R) : Int)) ∧
 (((↑x20.1 : Int) = (↑x20.1 : Int)) ∧
 ((stF p (p - (p - ivM p (List.getD (List.getD x20.2.2 (Int.toNat (↑x22 : Int)) []) (Int.toNat (↑x20.1 : Int)) (0 : Int)))) (List.getD x20.2.2 (Int.toNat (↑x22 : Int)) []) (List.replicate (Int.toNat (↑(ecW R) : Int)) (0 : Int)) = ecS p x20.2.2 x20.1 x25.2) ∧
 (((0 : Int) = (↑x25.1 : Int)) ∧
 (List.set (List.set x20.2.2 (Int.toNat (↑x22 : Int)) (List.getD x20.2.2 (Int.toNat (↑x20.2.1 : Int)) [])) (Int.toNat (↑x20.2.1 : Int)) (stF p (p - (p - ivM p (List.getD (List.getD x20.2.2 (Int.toNat (↑x22 : Int)) []) (Int.toNat (↑x20.1 : Int)) (0 : Int)))) (List.getD x20.2.2 (Int.toNat (↑x22 : Int)) []) (List.replicate (Int.toNat (↑(ecW R) : Int)) (0 : Int))) = upT p (ecS p x20.2.2 x20.1 x25.2) x20.1 x20.2.1 (ecB p x20.2.2 x20.1 x20.2.1 x25.2) x25.1))))))))) ∧
 (∀ x26 : Nat × Nat, (((x20.2.1 ≤ Prod.snd x26) ∧
 ((Prod.snd x26 < List.length x20.2.2) ∧
 ((x20.1 < ecW R) ∧
 ((at2 x20.2.2 (Prod.snd x26) x20.1 ≠ (0 : Int)) ∧
 (Prod.fst x26 ≤ List.length x20.2.2))))) →
 (BrP (Decidable.decide ((↑x26.1 : Int) < (↑(FC.len (FC.rows IntKind.i64 (upT p (ecS p x20.2.2 x20.1 x26.2) x20.1 x20.2.1 (ecB p x20.2.2 x20.1 x20.2.1 x26.2) x26.1))) : Int)))
 (BrP ((↑x26.1 : Int) != (↑x20.2.1 : Int))
 ((inB (↑x26.1 : Int) (FC.len (FC.rows IntKind.i64 (upT p (ecS p x20.2.2 x20.1 x26.2) x20.1 x20.2.1 (ecB p x20.2.2 x20.1 x20.2.1 x26.2) x26.1)))) ∧
 ((inB (↑x20.1 : Int) (List.length (List.getD (upT p (ecS p x20.2.2 x20.1 x26.2) x20.1 x20.2.1 (ecB p x20.2.2 x20.1 x20.2.1 x26.2) x26.1) (Int.toNat (↑x26.1 : Int)) []))) ∧
 (BrP (List.getD (List.getD (upT p (ecS p x20.2.2 x20.1 x26.2) x20.1 x20.2.1 (ecB p x20.2.2 x20.1 x20.2.1 x26.2) x26.1) (Int.toNat (↑x26.1 : Int)) []) (Int.toNat (↑x20.1 : Int)) (0 : Int) != (0 : Int))
 ((inB (↑x26.1 : Int) (FC.len (FC.rows IntKind.i64 (upT p (ecS p x20.2.2 x20.1 x26.2) x20.1 x20.2.1 (ecB p x20.2.2 x20.1 x20.2.1 x26.2) x26.1)))) ∧
 ((inB (↑x26.1 : Int) (FC.len (FC.rows IntKind.i64 (upT p (ecS p x20.2.2 x20.1 x26.2) x20.1 x20.2.1 (ecB p x20.2.2 x20.1 x20.2.1 x26.2) x26.1)))) ∧
 ((inB (↑x20.1 : Int) (List.length (List.getD (upT p (ecS p x20.2.2 x20.1 x26.2) x20.1 x20.2.1 (ecB p x20.2.2 x20.1 x20.2.1 x26.2) x26.1) (Int.toNat (↑x26.1 : Int)) []))) ∧
 ((((twR p (List.getD (upT p (ecS p x20.2.2 x20.1 x26.2) x20.1 x20.2.1 (ecB p x20.2.2 x20.1 x20.2.1 x26.2) x26.1) (Int.toNat (↑x26.1 : Int)) []) (ecS p x20.2.2 x20.1 x26.2)) ∧
 (((0 : Int) ≤ p - List.getD (List.getD (upT p (ecS p x20.2.2 x20.1 x26.2) x20.1 x20.2.1 (ecB p x20.2.2 x20.1 x20.2.1 x26.2) x26.1) (Int.toNat (↑x26.1 : Int)) []) (Int.toNat (↑x20.1 : Int)) (0 : Int)) ∧
 ((p - List.getD (List.getD (upT p (ecS p x20.2.2 x20.1 x26.2) x20.1 x20.2.1 (ecB p x20.2.2 x20.1 x20.2.1 x26.2) x26.1) (Int.toNat (↑x26.1 : Int)) []) (Int.toNat (↑x20.1 : Int)) (0 : Int) ≤ (7 : Int)) ∧
 (((-100 : Int) ≤ List.getD (List.getD (upT p (ecS p x20.2.2 x20.1 x26.2) x20.1 x20.2.1 (ecB p x20.2.2 x20.1 x20.2.1 x26.2) x26.1) (Int.toNat (↑x26.1 : Int)) []) (Int.toNat (↑x20.1 : Int)) (0 : Int)) ∧
 (List.getD (List.getD (upT p (ecS p x20.2.2 x20.1 x26.2) x20.1 x20.2.1 (ecB p x20.2.2 x20.1 x20.2.1 x26.2) x26.1) (Int.toNat (↑x26.1 : Int)) []) (Int.toNat (↑x20.1 : Int)) (0 : Int) ≤ (100 : Int)))))) ∧
 (True)) ∧
 ((inB (↑x26.1 : Int) (FC.len (FC.rows IntKind.i64 (upT p (ecS p x20.2.2 x20.1 x26.2) x20.1 x20.2.1 (ecB p x20.2.2 x20.1 x20.2.1 x26.2) x26.1)))) ∧
 ((InR ((↑x26.1 : Int) + (1 : Int))) ∧
 (∃ x27 : Nat × Nat, (((x20.2.1 ≤ Prod.snd x27) ∧
 ((Prod.snd x27 < List.length x20.2.2) ∧
 ((x20.1 < ecW R) ∧
 ((at2 x20.2.2 (Prod.snd x27) x20.1 ≠ (0 : Int)) ∧
 (Prod.fst x27 ≤ List.length x20.2.2))))) ∧
 ((List.length x20.2.2 - Prod.fst x27 < List.length x20.2.2 - Prod.fst x26) ∧
 ((p = p) ∧
 (((↑x20.2.1 : Int) = (↑x20.2.1 : Int)) ∧
 (((↑(ecW R) : Int) = (↑(ecW R) : Int)) ∧
 (((↑x20.1 : Int) = (↑x20.1 : Int)) ∧
 ((ecS p x20.2.2 x20.1 x26.2 = ecS p x20.2.2 x20.1 x27.2) ∧
 (((↑x26.1 : Int) + (1 : Int) = (↑x27.1 : Int)) ∧
 (List.set (upT p (ecS p x20.2.2 x20.1 x26.2) x20.1 x20.2.1 (ecB p x20.2.2 x20.1 x20.2.1 x26.2) x26.1) (Int.toNat (↑x26.1 : Int)) (stF p (p - List.getD (List.getD (upT p (ecS p x20.2.2 x20.1 x26.2) x20.1 x20.2.1 (ecB p x20.2.2 x20.1 x20.2.1 x26.2) x26.1) (Int.toNat (↑x26.1 : Int)) []) (Int.toNat (↑x20.1 : Int)) (0 : Int)) (ecS p x20.2.2 x20.1 x26.2) (List.getD (upT p (ecS p x20.2.2 x20.1 x26.2) x20.1 x20.2.1 (ecB p x20.2.2 x20.1 x20.2.1 x26.2) x26.1) (Int.toNat (↑x26.1 : Int)) [])) = upT p (ecS p x20.2.2 x20.1 x27.2) x20.1 x20.2.1 (ecB p x20.2.2 x20.1 x20.2.1 x27.2) x27.1))))))))))))))))
 ((InR ((↑x26.1 : Int) + (1 : Int))) ∧
 (∃ x28 : Nat × Nat, (((x20.2.1 ≤ Prod.snd x28) ∧
 ((Prod.snd x28 < List.length x20.2.2) ∧
 ((x20.1 < ecW R) ∧
 ((at2 x20.2.2 (Prod.snd x28) x20.1 ≠ (0 : Int)) ∧
 (Prod.fst x28 ≤ List.length x20.2.2))))) ∧
 ((List.length x20.2.2 - Prod.fst x28 < List.length x20.2.2 - Prod.fst x26) ∧
 ((p = p) ∧
 (((↑x20.2.1 : Int) = (↑x20.2.1 : Int)) ∧
 (((↑(ecW R) : Int) = (↑(ecW R) : Int)) ∧
 (((↑x20.1 : Int) = (↑x20.1 : Int)) ∧
 ((ecS p x20.2.2 x20.1 x26.2 = ecS p x20.2.2 x20.1 x28.2) ∧
 (((↑x26.1 : Int) + (1 : Int) = (↑x28.1 : Int)) ∧
 (upT p (ecS p x20.2.2 x20.1 x26.2) x20.1 x20.2.1 (ecB p x20.2.2 x20.1 x20.2.1 x26.2) x26.1 = upT p (ecS p x20.2.2 x20.1 x28.2) x20.1 x20.2.1 (ecB p x20.2.2 x20.1 x20.2.1 x28.2) x28.1))))))))))))))
 ((InR ((↑x26.1 : Int) + (1 : Int))) ∧
 (∃ x29 : Nat × Nat, (((x20.2.1 ≤ Prod.snd x29) ∧
 ((Prod.snd x29 < List.length x20.2.2) ∧
 ((x20.1 < ecW R) ∧
 ((at2 x20.2.2 (Prod.snd x29) x20.1 ≠ (0 : Int)) ∧
 (Prod.fst x29 ≤ List.length x20.2.2))))) ∧
 ((List.length x20.2.2 - Prod.fst x29 < List.length x20.2.2 - Prod.fst x26) ∧
 ((p = p) ∧
 (((↑x20.2.1 : Int) = (↑x20.2.1 : Int)) ∧
 (((↑(ecW R) : Int) = (↑(ecW R) : Int)) ∧
 (((↑x20.1 : Int) = (↑x20.1 : Int)) ∧
 ((ecS p x20.2.2 x20.1 x26.2 = ecS p x20.2.2 x20.1 x29.2) ∧
 (((↑x26.1 : Int) + (1 : Int) = (↑x29.1 : Int)) ∧
 (upT p (ecS p x20.2.2 x20.1 x26.2) x20.1 x20.2.1 (ecB p x20.2.2 x20.1 x20.2.1 x26.2) x26.1 = upT p (ecS p x20.2.2 x20.1 x29.2) x20.1 x20.2.1 (ecB p x20.2.2 x20.1 x20.2.1 x29.2) x29.1))))))))))))
 ((InR ((↑x20.2.1 : Int) + (1 : Int))) ∧
 ((InR ((↑x20.1 : Int) + (1 : Int))) ∧
 (∃ x30 : Nat × Nat × List (List Int), (((Prod.fst x30 ≤ ecW R) ∧
 ((List.length (Prod.snd x30.2) = List.length R) ∧
 (EInv p (ecW R) R (Prod.snd x30.2) (Prod.fst x30.2) (Prod.fst x30)))) ∧
 ((ecW R - Prod.fst x30 < ecW R - Prod.fst x20) ∧
 ((p = p) ∧
 (((↑x20.2.1 : Int) + (1 : Int) = (↑x30.2.1 : Int)) ∧
 (((↑(ecW R) : Int) = (↑(ecW R) : Int)) ∧
 (((↑x20.1 : Int) + (1 : Int) = (↑x30.1 : Int)) ∧
 (upT p (ecS p x20.2.2 x20.1 x26.2) x20.1 x20.2.1 (ecB p x20.2.2 x20.1 x20.2.1 x26.2) x26.1 = x30.2.2)))))))))))))))))))))))))))
 (BrP ((↑x22 : Int) == (↑(FC.len (FC.rows IntKind.i64 x20.2.2)) : Int))
 ((InR ((↑x20.1 : Int) + (1 : Int))) ∧
 (∃ x31 : Nat × Nat × List (List Int), (((Prod.fst x31 ≤ ecW R) ∧
 ((List.length (Prod.snd x31.2) = List.length R) ∧
 (EInv p (ecW R) R (Prod.snd x31.2) (Prod.fst x31.2) (Prod.fst x31)))) ∧
 ((ecW R - Prod.fst x31 < ecW R - Prod.fst x20) ∧
 ((p = p) ∧
 (((↑x20.2.1 : Int) = (↑x31.2.1 : Int)) ∧
 (((↑(ecW R) : Int) = (↑(ecW R) : Int)) ∧
 (((↑x20.1 : Int) + (1 : Int) = (↑x31.1 : Int)) ∧
 (x20.2.2 = x31.2.2)))))))))
 ((inB (↑x22 : Int) (FC.len (FC.rows IntKind.i64 x20.2.2))) ∧
 ((inB (↑x20.2.1 : Int) (FC.len (FC.rows IntKind.i64 x20.2.2))) ∧
 ((inB (↑x22 : Int) (FC.len (FC.rows IntKind.i64 x20.2.2))) ∧
 ((((0 : Int) ≤ (↑(ecW R) : Int)) ∧
 (((↑(ecW R) : Int) ≤ (↑(ecW R) : Int)) ∧
 (room (Int.toNat (↑(ecW R) : Int))))) ∧
 ((inB (↑x20.1 : Int) (List.length (List.getD x20.2.2 (Int.toNat (↑x22 : Int)) []))) ∧
 ((((primeB p = Bool.true) ∧
 (((1 : Int) ≤ List.getD (List.getD x20.2.2 (Int.toNat (↑x22 : Int)) []) (Int.toNat (↑x20.1 : Int)) (0 : Int)) ∧
 (List.getD (List.getD x20.2.2 (Int.toNat (↑x22 : Int)) []) (Int.toNat (↑x20.1 : Int)) (0 : Int) ≤ p - (1 : Int)))) ∧
 (True)) ∧
 ((InR (p - ivM p (List.getD (List.getD x20.2.2 (Int.toNat (↑x22 : Int)) []) (Int.toNat (↑x20.1 : Int)) (0 : Int)))) ∧
 ((((twR p (List.replicate (Int.toNat (↑(ecW R) : Int)) (0 : Int)) (List.getD x20.2.2 (Int.toNat (↑x22 : Int)) [])) ∧
 (((0 : Int) ≤ p - (p - ivM p (List.getD (List.getD x20.2.2 (Int.toNat (↑x22 : Int)) []) (Int.toNat (↑x20.1 : Int)) (0 : Int)))) ∧
 ((p - (p - ivM p (List.getD (List.getD x20.2.2 (Int.toNat (↑x22 : Int)) []) (Int.toNat (↑x20.1 : Int)) (0 : Int))) ≤ (7 : Int)) ∧
 (((-100 : Int) ≤ p - ivM p (List.getD (List.getD x20.2.2 (Int.toNat (↑x22 : Int)) []) (Int.toNat (↑x20.1 : Int)) (0 : Int))) ∧
 (p - ivM p (List.getD (List.getD x20.2.2 (Int.toNat (↑x22 : Int)) []) (Int.toNat (↑x20.1 : Int)) (0 : Int)) ≤ (100 : Int)))))) ∧
 (True)) ∧
 ((inB (↑x20.2.1 : Int) (FC.len (FC.rows IntKind.i64 (List.set x20.2.2 (Int.toNat (↑x22 : Int)) (List.getD x20.2.2 (Int.toNat (↑x20.2.1 : Int)) []))))) ∧
 ((∃ x32 : Nat × Nat, (((x20.2.1 ≤ Prod.snd x32) ∧
 ((Prod.snd x32 < List.length x20.2.2) ∧
 ((x20.1 < ecW R) ∧
 ((at2 x20.2.2 (Prod.snd x32) x20.1 ≠ (0 : Int)) ∧
 (Prod.fst x32 ≤ List.length x20.2.2))))) ∧
 ((p = p) ∧
 (((↑x20.2.1 : Int) = (↑x20.2.1 : Int)) ∧
 (((↑(ecW R) : Int) = (↑(ecW R) : Int)) ∧
 (((↑x20.1 : Int) = (↑x20.1 : Int)) ∧
 ((stF p (p - (p - ivM p (List.getD (List.getD x20.2.2 (Int.toNat (↑x22 : Int)) []) (Int.toNat (↑x20.1 : Int)) (0 : Int)))) (List.getD x20.2.2 (Int.toNat (↑x22 : Int)) []) (List.replicate (Int.toNat (↑(ecW R) : Int)) (0 : Int)) = ecS p x20.2.2 x20.1 x32.2) ∧
 (((0 : Int) = (↑x32.1 : Int)) ∧
 (List.set (List.set x20.2.2 (Int.toNat (↑x22 : Int)) (List.getD x20.2.2 (Int.toNat (↑x20.2.1 : Int)) [])) (Int.toNat (↑x20.2.1 : Int)) (stF p (p - (p - ivM p (List.getD (List.getD x20.2.2 (Int.toNat (↑x22 : Int)) []) (Int.toNat (↑x20.1 : Int)) (0 : Int)))) (List.getD x20.2.2 (Int.toNat (↑x22 : Int)) []) (List.replicate (Int.toNat (↑(ecW R) : Int)) (0 : Int))) = upT p (ecS p x20.2.2 x20.1 x32.2) x20.1 x20.2.1 (ecB p x20.2.2 x20.1 x20.2.1 x32.2) x32.1))))))))) ∧
 (∀ x33 : Nat × Nat, (((x20.2.1 ≤ Prod.snd x33) ∧
 ((Prod.snd x33 < List.length x20.2.2) ∧
 ((x20.1 < ecW R) ∧
 ((at2 x20.2.2 (Prod.snd x33) x20.1 ≠ (0 : Int)) ∧
 (Prod.fst x33 ≤ List.length x20.2.2))))) →
 (BrP (Decidable.decide ((↑x33.1 : Int) < (↑(FC.len (FC.rows IntKind.i64 (upT p (ecS p x20.2.2 x20.1 x33.2) x20.1 x20.2.1 (ecB p x20.2.2 x20.1 x20.2.1 x33.2) x33.1))) : Int)))
 (BrP ((↑x33.1 : Int) != (↑x20.2.1 : Int))
 ((inB (↑x33.1 : Int) (FC.len (FC.rows IntKind.i64 (upT p (ecS p x20.2.2 x20.1 x33.2) x20.1 x20.2.1 (ecB p x20.2.2 x20.1 x20.2.1 x33.2) x33.1)))) ∧
 ((inB (↑x20.1 : Int) (List.length (List.getD (upT p (ecS p x20.2.2 x20.1 x33.2) x20.1 x20.2.1 (ecB p x20.2.2 x20.1 x20.2.1 x33.2) x33.1) (Int.toNat (↑x33.1 : Int)) []))) ∧
 (BrP (List.getD (List.getD (upT p (ecS p x20.2.2 x20.1 x33.2) x20.1 x20.2.1 (ecB p x20.2.2 x20.1 x20.2.1 x33.2) x33.1) (Int.toNat (↑x33.1 : Int)) []) (Int.toNat (↑x20.1 : Int)) (0 : Int) != (0 : Int))
 ((inB (↑x33.1 : Int) (FC.len (FC.rows IntKind.i64 (upT p (ecS p x20.2.2 x20.1 x33.2) x20.1 x20.2.1 (ecB p x20.2.2 x20.1 x20.2.1 x33.2) x33.1)))) ∧
 ((inB (↑x33.1 : Int) (FC.len (FC.rows IntKind.i64 (upT p (ecS p x20.2.2 x20.1 x33.2) x20.1 x20.2.1 (ecB p x20.2.2 x20.1 x20.2.1 x33.2) x33.1)))) ∧
 ((inB (↑x20.1 : Int) (List.length (List.getD (upT p (ecS p x20.2.2 x20.1 x33.2) x20.1 x20.2.1 (ecB p x20.2.2 x20.1 x20.2.1 x33.2) x33.1) (Int.toNat (↑x33.1 : Int)) []))) ∧
 ((((twR p (List.getD (upT p (ecS p x20.2.2 x20.1 x33.2) x20.1 x20.2.1 (ecB p x20.2.2 x20.1 x20.2.1 x33.2) x33.1) (Int.toNat (↑x33.1 : Int)) []) (ecS p x20.2.2 x20.1 x33.2)) ∧
 (((0 : Int) ≤ p - List.getD (List.getD (upT p (ecS p x20.2.2 x20.1 x33.2) x20.1 x20.2.1 (ecB p x20.2.2 x20.1 x20.2.1 x33.2) x33.1) (Int.toNat (↑x33.1 : Int)) []) (Int.toNat (↑x20.1 : Int)) (0 : Int)) ∧
 ((p - List.getD (List.getD (upT p (ecS p x20.2.2 x20.1 x33.2) x20.1 x20.2.1 (ecB p x20.2.2 x20.1 x20.2.1 x33.2) x33.1) (Int.toNat (↑x33.1 : Int)) []) (Int.toNat (↑x20.1 : Int)) (0 : Int) ≤ (7 : Int)) ∧
 (((-100 : Int) ≤ List.getD (List.getD (upT p (ecS p x20.2.2 x20.1 x33.2) x20.1 x20.2.1 (ecB p x20.2.2 x20.1 x20.2.1 x33.2) x33.1) (Int.toNat (↑x33.1 : Int)) []) (Int.toNat (↑x20.1 : Int)) (0 : Int)) ∧
 (List.getD (List.getD (upT p (ecS p x20.2.2 x20.1 x33.2) x20.1 x20.2.1 (ecB p x20.2.2 x20.1 x20.2.1 x33.2) x33.1) (Int.toNat (↑x33.1 : Int)) []) (Int.toNat (↑x20.1 : Int)) (0 : Int) ≤ (100 : Int)))))) ∧
 (True)) ∧
 ((inB (↑x33.1 : Int) (FC.len (FC.rows IntKind.i64 (upT p (ecS p x20.2.2 x20.1 x33.2) x20.1 x20.2.1 (ecB p x20.2.2 x20.1 x20.2.1 x33.2) x33.1)))) ∧
 ((InR ((↑x33.1 : Int) + (1 : Int))) ∧
 (∃ x34 : Nat × Nat, (((x20.2.1 ≤ Prod.snd x34) ∧
 ((Prod.snd x34 < List.length x20.2.2) ∧
 ((x20.1 < ecW R) ∧
 ((at2 x20.2.2 (Prod.snd x34) x20.1 ≠ (0 : Int)) ∧
 (Prod.fst x34 ≤ List.length x20.2.2))))) ∧
 ((List.length x20.2.2 - Prod.fst x34 < List.length x20.2.2 - Prod.fst x33) ∧
 ((p = p) ∧
 (((↑x20.2.1 : Int) = (↑x20.2.1 : Int)) ∧
 (((↑(ecW R) : Int) = (↑(ecW R) : Int)) ∧
 (((↑x20.1 : Int) = (↑x20.1 : Int)) ∧
 ((ecS p x20.2.2 x20.1 x33.2 = ecS p x20.2.2 x20.1 x34.2) ∧
 (((↑x33.1 : Int) + (1 : Int) = (↑x34.1 : Int)) ∧
 (List.set (upT p (ecS p x20.2.2 x20.1 x33.2) x20.1 x20.2.1 (ecB p x20.2.2 x20.1 x20.2.1 x33.2) x33.1) (Int.toNat (↑x33.1 : Int)) (stF p (p - List.getD (List.getD (upT p (ecS p x20.2.2 x20.1 x33.2) x20.1 x20.2.1 (ecB p x20.2.2 x20.1 x20.2.1 x33.2) x33.1) (Int.toNat (↑x33.1 : Int)) []) (Int.toNat (↑x20.1 : Int)) (0 : Int)) (ecS p x20.2.2 x20.1 x33.2) (List.getD (upT p (ecS p x20.2.2 x20.1 x33.2) x20.1 x20.2.1 (ecB p x20.2.2 x20.1 x20.2.1 x33.2) x33.1) (Int.toNat (↑x33.1 : Int)) [])) = upT p (ecS p x20.2.2 x20.1 x34.2) x20.1 x20.2.1 (ecB p x20.2.2 x20.1 x20.2.1 x34.2) x34.1))))))))))))))))
 ((InR ((↑x33.1 : Int) + (1 : Int))) ∧
 (∃ x35 : Nat × Nat, (((x20.2.1 ≤ Prod.snd x35) ∧
 ((Prod.snd x35 < List.length x20.2.2) ∧
 ((x20.1 < ecW R) ∧
 ((at2 x20.2.2 (Prod.snd x35) x20.1 ≠ (0 : Int)) ∧
 (Prod.fst x35 ≤ List.length x20.2.2))))) ∧
 ((List.length x20.2.2 - Prod.fst x35 < List.length x20.2.2 - Prod.fst x33) ∧
 ((p = p) ∧
 (((↑x20.2.1 : Int) = (↑x20.2.1 : Int)) ∧
 (((↑(ecW R) : Int) = (↑(ecW R) : Int)) ∧
 (((↑x20.1 : Int) = (↑x20.1 : Int)) ∧
 ((ecS p x20.2.2 x20.1 x33.2 = ecS p x20.2.2 x20.1 x35.2) ∧
 (((↑x33.1 : Int) + (1 : Int) = (↑x35.1 : Int)) ∧
 (upT p (ecS p x20.2.2 x20.1 x33.2) x20.1 x20.2.1 (ecB p x20.2.2 x20.1 x20.2.1 x33.2) x33.1 = upT p (ecS p x20.2.2 x20.1 x35.2) x20.1 x20.2.1 (ecB p x20.2.2 x20.1 x20.2.1 x35.2) x35.1))))))))))))))
 ((InR ((↑x33.1 : Int) + (1 : Int))) ∧
 (∃ x36 : Nat × Nat, (((x20.2.1 ≤ Prod.snd x36) ∧
 ((Prod.snd x36 < List.length x20.2.2) ∧
 ((x20.1 < ecW R) ∧
 ((at2 x20.2.2 (Prod.snd x36) x20.1 ≠ (0 : Int)) ∧
 (Prod.fst x36 ≤ List.length x20.2.2))))) ∧
 ((List.length x20.2.2 - Prod.fst x36 < List.length x20.2.2 - Prod.fst x33) ∧
 ((p = p) ∧
 (((↑x20.2.1 : Int) = (↑x20.2.1 : Int)) ∧
 (((↑(ecW R) : Int) = (↑(ecW R) : Int)) ∧
 (((↑x20.1 : Int) = (↑x20.1 : Int)) ∧
 ((ecS p x20.2.2 x20.1 x33.2 = ecS p x20.2.2 x20.1 x36.2) ∧
 (((↑x33.1 : Int) + (1 : Int) = (↑x36.1 : Int)) ∧
 (upT p (ecS p x20.2.2 x20.1 x33.2) x20.1 x20.2.1 (ecB p x20.2.2 x20.1 x20.2.1 x33.2) x33.1 = upT p (ecS p x20.2.2 x20.1 x36.2) x20.1 x20.2.1 (ecB p x20.2.2 x20.1 x20.2.1 x36.2) x36.1))))))))))))
 ((InR ((↑x20.2.1 : Int) + (1 : Int))) ∧
 ((InR ((↑x20.1 : Int) + (1 : Int))) ∧
 (∃ x37 : Nat × Nat × List (List Int), (((Prod.fst x37 ≤ ecW R) ∧
 ((List.length (Prod.snd x37.2) = List.length R) ∧
 (EInv p (ecW R) R (Prod.snd x37.2) (Prod.fst x37.2) (Prod.fst x37)))) ∧
 ((ecW R - Prod.fst x37 < ecW R - Prod.fst x20) ∧
 ((p = p) ∧
 (((↑x20.2.1 : Int) + (1 : Int) = (↑x37.2.1 : Int)) ∧
 (((↑(ecW R) : Int) = (↑(ecW R) : Int)) ∧
 (((↑x20.1 : Int) + (1 : Int) = (↑x37.1 : Int)) ∧
 (upT p (ecS p x20.2.2 x20.1 x33.2) x20.1 x20.2.1 (ecB p x20.2.2 x20.1 x20.2.1 x33.2) x33.1 = x37.2.2))))))))))))))))))))))))))))
 ((bdsOk (FC.len (FC.rows IntKind.i64 x20.2.2)) Option.none (Option.some (↑x20.2.1 : Int))) ∧
 ((List.take (Int.toNat (↑x20.2.1 : Int)) (List.drop (0 : Nat) x20.2.2) = srtL (imN p R (List.length R))) ∧
 (True)))))))))
theorem l15Echelon_vc (R : List (List Int)) (p : Int) : runF Try.prog (gam l15Echelon_G) noWr (l15Echelon_ann R p) Try.f46 (bodyOf Try.f46) [] [.c (.rows .i64 (R)), .c (.int .i64 (p))] (l15Echelon_p R p) = l15Echelon_V R p := by kernel_rfl
theorem l15Echelon_ok (R : List (List Int)) (p : Int) (hpre : (l15Echelon_p R p).pre) : l15Echelon_V R p := by
  simp only [l15Echelon_p, l15Echelon_V, BrP_iff, true_and, and_true, decide_eq_true_eq, decide_eq_false_iff_not, bne_iff_ne, beq_iff_eq, bne_eq_false_iff_eq, beq_eq_false_iff_ne, Bool.not_eq_true, Bool.not_eq_false, Bool.not_true, Bool.not_false, Bool.not_eq_eq_eq_not, Int.toNat_natCast, List.length_append, List.length_take, List.length_replicate, List.length_set, List.length_map, List.length_drop, List.length_nil, List.length_cons, markL_length, inB, InR, room, bdsOk] at hpre ⊢
  obtain ⟨hp, ⟨N, hR, N1, N2⟩, hl⟩ := hpre
  obtain ⟨p2, p7⟩ := primeB_le hp
  have hW : ecW R ≤ 512 := by
    unfold ecW
    by_cases h : 0 < R.length
    · have := (hR 0 h).1; omega
    · rw [List.length_eq_zero_iff.1 (by omega : R.length = 0)]; simp
  have hR : rwsP p (ecW R) R := fun i hi => by
    have h0 := (hR 0 (by omega)).1
    have := hR i hi
    rwa [← h0] at this
  have rm : ∀ X : List (List Int), X.length = R.length → rwsP p (ecW R) X → X.length ≤ 1099511627776 ∧ ∀ r ∈ X, r.length ≤ 1099511627776 := fun X hX h => ⟨by omega, fun r hr => by
    obtain ⟨k, hk, e⟩ := List.mem_iff_getElem.1 hr
    have := (h k hk).1
    rw [show X.getD k [] = r by rw [← e]; simp [List.getD, hk]] at this
    omega⟩
  refine ⟨rm R rfl hR, fun h => ⟨by omega, ⟨(0, 0, R), ⟨Nat.zero_le _, rfl, EInv.init hR⟩, rfl, rfl, rfl, rfl⟩, ?_⟩, fun h => ⟨⟨(0, 0, R), ⟨Nat.zero_le _, rfl, EInv.init hR⟩, rfl, ?_, rfl, rfl⟩, ?_⟩⟩
  rotate_left
  · rw [ecW, List.length_eq_zero_iff.1 (by omega : R.length = 0)]; rfl
  all_goals
    rintro ⟨a, d, out⟩ ⟨ha, hl', E⟩
    dsimp only [FC.len] at *
    have dl := E.dl
    refine ⟨fun h1 => ⟨⟨d, ⟨Nat.le_refl _, dl, by omega, fun i h1 h2 => by omega⟩, rfl⟩, fun f ⟨f1, f2, f3, f4⟩ => ⟨fun h3 => ⟨by omega, ?_, fun h4 => ⟨by omega, f + 1, ⟨by omega, by omega, f3, fun i i1 i2 => ?_⟩, by omega, by omega⟩, fun h4 => ⟨fun h5 => by omega, fun h5 => ?_⟩⟩, fun h3 => ⟨fun h4 => ⟨by omega, (a + 1, d, out), ⟨by omega, hl', E.skip fun i i1 i2 => f4 i i1 (by omega)⟩, by omega, rfl, rfl, rfl⟩, fun h4 => by omega⟩⟩⟩, fun h1 => ?_⟩
    · have := (E.row f (by omega)).1; omega
    · rcases Nat.eq_or_lt_of_le (Nat.le_of_lt_succ i2) with e | e
      · rw [e]; exact h4
      · exact f4 i i1 e
    · have rf := E.row f (by omega)
      have rf1 := rf.1
      have c := rf.2 a (by omega)
      have iv := ivM_ok hp (a := (out.getD f []).getD a 0) (by omega) (by omega)
      have S := ecS_ok hp E f1 (by omega) h4
      have S1 := S.1.1
      have st := ec_st (p := p) (out := out) (r := f) (a := a) rf1
      refine ⟨by omega, by omega, by omega, by omega, by omega, ⟨hp, by omega, by omega⟩, by omega, ⟨⟨p2, p7, fun q hq => ?_, rf.2, by rw [List.length_replicate]; omega, by rw [List.length_replicate]; omega⟩, by omega, by omega, by omega, by omega⟩, by simp; omega, ⟨(0, f), ⟨f1, by omega, by omega, h4, by omega⟩, st, rfl, ?_⟩, ?_⟩
      · simp at hq; simp [List.getD, hq]; omega
      · rw [st, upT_zero]; rfl
      · rintro ⟨i, r⟩ ⟨r1, r2, _, r3, r4⟩
        dsimp only [FC.len] at *
        have T := ecS_ok hp E r1 r2 r3
        have T1 := T.1.1
        have BL := ecB_length p out a d r
        have UL := upT_length p (ecS p out a r) a d (ecB p out a d r) i
        refine ⟨fun h6 => ?_, fun h6 => ?_⟩
        · have g := ec_upg (p := p) (s := ecS p out a r) (a := a) (d := d) (B := ecB p out a d r) (i := i) (by omega)
          have rb := ecB_row hp E r1 r2 r3 (i := i) (by omega)
          rw [g]
          have rb1 := rb.1
          have cb := rb.2 a (by omega)
          have up : ((ecB p out a d r).getD i []).getD a 0 = 0 ∨ i = d → upT p (ecS p out a r) a d (ecB p out a d r) i = upT p (ecS p out a r) a d (ecB p out a d r) (i + 1) := fun o => (upT_keep _ _ _ _ _ o.symm).symm
          refine ⟨fun h7 => ⟨by omega, by omega, fun h8 => ⟨by omega, by omega, by omega, ⟨⟨p2, p7, rb.2, T.1.2, by omega, by omega⟩, by omega, by omega, by omega, by omega⟩, by omega, by omega, (i + 1, r), ⟨r1, r2, f3, r3, by omega⟩, by omega, rfl, rfl, ?_⟩, fun h8 => ⟨by omega, (i + 1, r), ⟨r1, r2, f3, r3, by omega⟩, by omega, rfl, rfl, up (.inl h8)⟩⟩, fun h7 => ⟨by omega, (i + 1, r), ⟨r1, r2, f3, r3, by omega⟩, by omega, rfl, rfl, up (.inr (by omega))⟩⟩
          have us := upT_set p (ecS p out a r) a d (ecB p out a d r) (i := i) (by omega) (by omega)
          rw [upR, if_pos h8] at us
          exact us
        · have st := ec_step hp E f3 r1 r2 r3
          have ei : i = out.length := by omega
          subst ei
          exact ⟨by omega, by omega, (a + 1, d + 1, upT p (ecS p out a r) a d (ecB p out a d r) out.length), ⟨by dsimp only; omega, by dsimp only; omega, st⟩, by omega, rfl, rfl, rfl⟩
    · have : a = ecW R := by omega
      subst this
      exact ⟨by omega, red_same hp hR E⟩
theorem l15Echelon_fits : Fits Try.prog 46 ⟨[], l15Echelon_ct⟩ := by
  refine fits_fn (Γ := gam l15Echelon_G) (gok_cons l01Own2_fits (gok_cons l15Less_fits (gok_cons l15Inverse_fits gok_nil))) Try.func46 (by kernel_rfl) (by kernel_rfl) (by kernel_rfl) fun ds p h hp => ?_
  unfold l15Echelon_ct at h
  split at h
  · cases h
    exact ⟨noWr, l15Echelon_ann _ _ , by rw [l15Echelon_vc]; exact l15Echelon_ok _ _  hp⟩
  · cases h

end Go.Sx
end
