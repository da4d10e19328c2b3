/- Coc -/
import Derived.Test.YtcfbmimjffkgdaaBndC
import Derived.Test.YtcfbmimjffkgdaaBit
open Go Go.Proofs
namespace Go.Sx
set_option linter.unusedSimpArgs false
set_option linter.unusedVariables false

/-- The boundary of the tuple of degree 3 with a place. -/
def crF (t : List (List Int)) (p : Int) (i : Nat) : List Int := ptF t p (digN t.length 3 i) 3

def crows (t : List (List Int)) (p : Int) : List (List Int) := (List.range (t.length * t.length * t.length)).map (crF t p)

theorem digN_in {n : Nat} (hn : 1 ≤ n) : ∀ (k : Nat) (p : Int), 0 ≤ p → inT n (digN n k p)
  | 0, _, _ => fun q hq => by simp [digN] at hq
  | k + 1, p, hp => fun q hq => by
    rw [digN_length] at hq
    have hd : 0 ≤ p.tdiv n := Int.tdiv_nonneg hp (by omega)
    by_cases h : q < k
    · rw [digN, getD_append_left' _ _ _ _ (by rw [digN_length]; exact h)]
      exact digN_in hn k _ hd q (by rw [digN_length]; exact h)
    · have e : q = k := by omega
      subst e
      rw [digN, getD_append_right' _ _ _ _ (by rw [digN_length]; exact Nat.le_refl _), digN_length, Nat.sub_self]
      have := tmod_in (a := p) (m := n) hp (by omega)
      simpa using this

theorem sq_le {n : Nat} (h : n ≤ 12) : n * n ≤ 144 := Nat.mul_le_mul h h
theorem cu_le {n : Nat} (h : n ≤ 12) : n * n * n ≤ 1728 := Nat.mul_le_mul (sq_le h) h

theorem dig_ok {t : List (List Int)} {p : Int} (h1 : tabB t = true) (p1 : 2 ≤ p) (p2 : p ≤ 7) {k : Nat} (hk : k ≤ 1000) (hN : (t.length : Int) ^ (k - 1) ≤ 512) {i : Int} (hi : 0 ≤ i) : bdOk t p (digN t.length k i) :=
  ⟨h1, p1, p2, digN_in (tabB_of h1).1 k i hi, by rw [digN_length]; exact hN, by rw [digN_length]; exact hk⟩

theorem sq_512 {t : List (List Int)} (h1 : tabB t = true) : (t.length : Int) ^ (3 - 1) ≤ 512 := by
  have h := sq_le (tabB_of h1).2.1
  rw [← Int.natCast_pow, show 3 - 1 = 2 from rfl, Nat.pow_two]
  omega

theorem stF_zero {p : Int} (hp : 1 ≤ p) {d : List Int} (hd : inP p d) : stF p 1 d (List.replicate d.length 0) = d := by
  refine list_ext (by rw [stF_length, List.length_replicate]) fun q hq => ?_
  rw [stF_length, List.length_replicate] at hq
  rw [stF, tab_getD _ _ _ (by rw [List.length_replicate]; exact hq)]
  have := hd q hq
  have e : (List.replicate d.length (0 : Int)).getD q 0 = 0 := by simp [List.getD_eq_getElem?_getD, hq]
  rw [e, Int.zero_add, Int.one_mul, Int.tmod_eq_emod_of_nonneg this.1, Int.emod_eq_of_lt this.1 (by omega)]

theorem rep_in {p : Int} (hp : 1 ≤ p) (n : Nat) : inP p (List.replicate n 0) := fun q hq => by
  rw [List.length_replicate] at hq
  simp [List.getD_eq_getElem?_getD, hq]; omega

theorem inP_allW {p : Int} {c : List Int} (h : inP p c) : allW 0 (p - 1) c = true := by
  rw [allW, List.all_eq_true]
  intro x hx
  obtain ⟨k, hk, rfl⟩ := List.getElem_of_mem hx
  have := h k hk
  rw [List.getD_eq_getElem?_getD, List.getElem?_eq_getElem hk] at this
  simpa using this

theorem ad_zero {t : List (List Int)} {p : Int} (hp : 2 ≤ p) (x : List Int) (i : Nat) : adF t p x 1 (List.replicate (t.length ^ (x.length - 1)) 0) i = ptF t p x i := by
  rw [ad_eq hp (by omega) (rep_in (by omega) _) (by rw [List.length_replicate])]
  have e := stF_zero (show 1 ≤ p by omega) (ptF_in t hp x i)
  rwa [ptF_length] at e

theorem crows_length (t : List (List Int)) (p : Int) : (crows t p).length = t.length * t.length * t.length := by simp [crows]
theorem crows_getD (t : List (List Int)) (p : Int) (i : Nat) (h : i < t.length * t.length * t.length) : (crows t p).getD i [] = crF t p i := by
  simp [crows, List.getD_eq_getElem?_getD, h]
theorem crF_length (t : List (List Int)) (p : Int) (i : Nat) : (crF t p i).length = t.length * t.length := by
  rw [crF, ptF_length, digN_length, show 3 - 1 = 2 from rfl, Nat.pow_two]

def cocycleRows_p (t : List (List Int)) (p : Int) : Post := ⟨tabB t = true ∧ 2 ≤ p ∧ p ≤ 7, .c (.rows 46 2 .i64 (crows t p)), []⟩
def cocycleRows_ct : List AD → Option Post
  | [.c (.rows .i64 (t)), .c (.int .i64 (p))] => some (cocycleRows_p t p)
  | _ => none
def cocycleRows_ann (t : List (List Int)) (p : Int) : Nat → Option Ann
  | 0 => some (Ann.mk ((Nat)) (fun i => ⟨[(0, .c (.ro (.rows .i64 (t)))), (1, .c (.int .i64 (p))), (5, .c (.int .i64 ((t.length : Int)))), (6, .c (.own (6))), (15, .c (.int .i64 (((t.length * t.length * t.length : Nat) : Int)))), (16, .c (.int .i64 ((i : Int))))], [(6, some (.rows 0 46 2 .i64 ((crows t p).take i)))]⟩) (fun i => i ≤ t.length * t.length * t.length) (fun i => t.length * t.length * t.length - i) (fun _ => noAnn))
  | _ => none
def cocycleRows_G : List (Nat × Ctr) := [(91, ⟨[], tupleOf_ct⟩), (113, ⟨[(4, 0)], addBoundary_ct⟩)]
def cocycleRows_V (t : List (List Int)) (p : Int) : Prop :=
  ((InR ((↑(List.length t) : Int) * (↑(List.length t) : Int))) ∧
 ((InR ((↑(List.length t) : Int) * (↑(List.length t) : Int) * (↑(List.length t) : Int))) ∧
 ((∃ x0 : Nat, ((x0 ≤ List.length t * List.length t * List.length t) ∧
 ((t = t) ∧
 ((p = p) ∧
 (((↑(List.length t) : Int) = (↑(List.length t) : Int)) ∧
 (((↑(List.length t) : Int) * (↑(List.length t) : Int) * (↑(List.length t) : Int) = (↑(List.length t * List.length t * List.length t) : Int)) ∧
 (((0 : Int) = (↑x0 : Int)) ∧
 (List.take x0 (crows t p) = [])))))))) ∧
 (∀ x1 : Nat, ((x1 ≤ List.length t * List.length t * List.length t) →
 (BrP (Decidable.decide ((↑x1 : Int) < (↑(List.length t * List.length t * List.length t) : Int)))
 ((InR ((↑(List.length t) : Int) * (↑(List.length t) : Int))) ∧
 ((((0 : Int) ≤ (↑(List.length t) : Int) * (↑(List.length t) : Int)) ∧
 (((↑(List.length t) : Int) * (↑(List.length t) : Int) ≤ (↑(List.length t) : Int) * (↑(List.length t) : Int)) ∧
 (room (Int.toNat ((↑(List.length t) : Int) * (↑(List.length t) : Int)))))) ∧
 (((((1 : Int) ≤ (↑(List.length t) : Int)) ∧
 (((0 : Int) ≤ (3 : Int)) ∧
 (((3 : Int) ≤ (1000 : Int)) ∧
 (((0 : Int) ≤ (↑x1 : Int)) ∧
 ((↑x1 : Int) ≤ (1000000 : Int)))))) ∧
 (True)) ∧
 ((((bdOk t p (digN (↑(List.length t) : Int) (Int.toNat (3 : Int)) (↑x1 : Int))) ∧
 (((0 : Int) ≤ (1 : Int)) ∧
 (((1 : Int) ≤ p - (1 : Int)) ∧
 ((inP p (List.replicate (Int.toNat ((↑(List.length t) : Int) * (↑(List.length t) : Int))) (0 : Int))) ∧
 (List.length (List.replicate (Int.toNat ((↑(List.length t) : Int) * (↑(List.length t) : Int))) (0 : Int)) = List.length t ^ (List.length (digN (↑(List.length t) : Int) (Int.toNat (3 : Int)) (↑x1 : Int)) - (1 : Nat))))))) ∧
 ((List.length (adF t p (digN (↑(List.length t) : Int) (Int.toNat (3 : Int)) (↑x1 : Int)) (1 : Int) (List.replicate (Int.toNat ((↑(List.length t) : Int) * (↑(List.length t) : Int))) (0 : Int)) (List.length (digN (↑(List.length t) : Int) (Int.toNat (3 : Int)) (↑x1 : Int)))) = List.length (List.replicate (Int.toNat ((↑(List.length t) : Int) * (↑(List.length t) : Int))) (0 : Int))) ∧
 (True))) ∧
 ((room (List.length (List.take x1 (crows t p)) + List.length [adF t p (digN (↑(List.length t) : Int) (Int.toNat (3 : Int)) (↑x1 : Int)) (1 : Int) (List.replicate (Int.toNat ((↑(List.length t) : Int) * (↑(List.length t) : Int))) (0 : Int)) (List.length (digN (↑(List.length t) : Int) (Int.toNat (3 : Int)) (↑x1 : Int)))])) ∧
 ((InR ((↑x1 : Int) + (1 : Int))) ∧
 (∃ x2 : Nat, ((x2 ≤ List.length t * List.length t * List.length t) ∧
 ((List.length t * List.length t * List.length t - x2 < List.length t * List.length t * List.length t - x1) ∧
 ((t = t) ∧
 ((p = p) ∧
 (((↑(List.length t) : Int) = (↑(List.length t) : Int)) ∧
 (((↑(List.length t * List.length t * List.length t) : Int) = (↑(List.length t * List.length t * List.length t) : Int)) ∧
 (((↑x1 : Int) + (1 : Int) = (↑x2 : Int)) ∧
 (List.take x1 (crows t p) ++ [adF t p (digN (↑(List.length t) : Int) (Int.toNat (3 : Int)) (↑x1 : Int)) (1 : Int) (List.replicate (Int.toNat ((↑(List.length t) : Int) * (↑(List.length t) : Int))) (0 : Int)) (List.length (digN (↑(List.length t) : Int) (Int.toNat (3 : Int)) (↑x1 : Int)))] = List.take x2 (crows t p))))))))))))))))
 ((List.take x1 (crows t p) = crows t p) ∧
 (True))))))))
theorem cocycleRows_vc (t : List (List Int)) (p : Int) : runF Try.prog (gam cocycleRows_G) noWr (cocycleRows_ann t p) Try.f54 (bodyOf Try.f54) [] [.c (.rows .i64 (t)), .c (.int .i64 (p))] (cocycleRows_p t p) = cocycleRows_V t p := by kernel_rfl
theorem cocycleRows_ok (t : List (List Int)) (p : Int) (hpre : (cocycleRows_p t p).pre) : cocycleRows_V t p := by
  simp only [cocycleRows_p, cocycleRows_V, BrP_iff, true_and, and_true, decide_eq_true_eq, decide_eq_false_iff_not, bne_iff_ne, beq_iff_eq, bne_eq_false_iff_eq, beq_eq_false_iff_ne, Bool.not_eq_true, Bool.not_eq_false, Bool.not_true, Bool.not_false, Bool.not_eq_eq_eq_not, Int.toNat_natCast, List.length_append, List.length_take, List.length_replicate, List.length_set, List.length_map, List.length_drop, List.length_nil, List.length_cons, markL_length, inB, InR, room, bdsOk] at hpre ⊢
  obtain ⟨h1, p1, p2⟩ := hpre
  obtain ⟨n1, n2, ht⟩ := tabB_of h1
  have q2 := sq_le n2
  have q3 := cu_le n2
  have hcl := crows_length t p
  have hlen : ∀ i : Nat, (digN t.length (Int.toNat 3) (i : Int)).length = 3 := fun i => digN_length _ _ _
  simp only [← Int.natCast_mul, Int.toNat_natCast]
  refine ⟨by omega, by omega, ⟨0, by omega, trivial, rfl, rfl⟩, fun i hi => ⟨fun h => ?_, fun h => List.take_of_length_le (by omega)⟩⟩
  have hx : bdOk t p (digN t.length 3 (i : Int)) := dig_ok h1 p1 p2 (by omega) (sq_512 h1) (by omega)
  rw [hlen i]
  have e2 : t.length ^ (3 - 1) = t.length * t.length := Nat.pow_two _
  have er : adF t p (digN t.length (Int.toNat 3) (i : Int)) 1 (List.replicate (t.length * t.length) 0) 3 = crF t p i := by
    have := ad_zero p1 (digN t.length 3 (i : Int)) 3 (t := t)
    rw [digN_length, e2] at this
    exact this
  rw [er, crF_length]
  refine ⟨by omega, by omega, by omega, ⟨⟨hx, by omega, by omega, rep_in (by omega) _, e2.symm⟩, rfl⟩, by omega, by omega, i + 1, by omega, by omega, by omega, ?_⟩
  rw [← crows_getD t p i (by omega)]
  exact take_snoc _ [] i (by omega)
theorem cocycleRows_fits : Fits Try.prog 54 ⟨[], cocycleRows_ct⟩ := by
  refine fits_fn (Γ := gam cocycleRows_G) (gok_cons tupleOf_fits (gok_cons addBoundary_fits gok_nil)) Try.func54 (by kernel_rfl) (by kernel_rfl) (by kernel_rfl) fun ds p h hp => ?_
  unfold cocycleRows_ct at h
  split at h
  · cases h
    exact ⟨noWr, cocycleRows_ann _ _ , by rw [cocycleRows_vc]; exact cocycleRows_ok _ _  hp⟩
  · cases h

/-- All rows pair with the chain to 0. -/
def cocN (t : List (List Int)) (p : Int) (c : List Int) : Bool := (List.range (t.length * t.length * t.length)).all fun i => decide ((dotN (crF t p i) c (t.length * t.length)).tmod p = 0)
def cocC (t : List (List Int)) (p : Int) (c : List Int) : Bool × Int := if chC t p 2 c = 0 then (cocN t p c, 0) else (false, chC t p 2 c)

theorem cocC_no {t : List (List Int)} {p : Int} {c : List Int} {z : Int} (h : chC t p 2 c = z) (hz : z ≠ 0) : false = (cocC t p c).1 ∧ z = (cocC t p c).2 := by
  rw [cocC, if_neg (by omega)]; exact ⟨rfl, h.symm⟩
theorem cocC_yes {t : List (List Int)} {p : Int} {c : List Int} {b : Bool} (h : chC t p 2 c = 0) (hb : cocN t p c = b) : b = (cocC t p c).1 ∧ 0 = (cocC t p c).2 := by
  rw [cocC, if_pos h]; exact ⟨hb.symm, rfl⟩




end Go.Sx
