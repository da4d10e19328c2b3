/- Contracts on the way of IsCocycle. -/
import Derived.Test.YtegeohcghndpcaaBndC
open Go Go.Proofs
namespace Go.Sx
set_option linter.unusedSimpArgs false
set_option linter.unusedVariables false

/-- The boundary of the tuple of degree 3 with a place. -/
def crF (t : List (List Int)) (p : Int) (i : Nat) : List Int := ptF t p (digN t.length 3 i) 3

def crows (t : List (List Int)) (p : Int) : List (List Int) := (List.range (t.length * t.length * t.length)).map (crF t p)

theorem digN_in {n : Nat} (hn : 1 ≤ n) : ∀ (k : Nat) (p : Int), 0 ≤ p → inT n (digN n k p)
  | 0, _, _ => fun q hq => by simp [digN] at hq
  | k + 1, p, hp => fun q hq => by
    rw [digN_length] at hq
    have hd : 0 ≤ p.tdiv n := Int.tdiv_nonneg hp (by omega)
    by_cases h : q < k
    · rw [digN, getD_append_left' _ _ _ _ (by rw [digN_length]; exact h)]
      exact digN_in hn k _ hd q (by rw [digN_length]; exact h)
    · have e : q = k := by omega
      subst e
      rw [digN, getD_append_right' _ _ _ _ (by rw [digN_length]; exact Nat.le_refl _), digN_length, Nat.sub_self]
      have := tmod_in (a := p) (m := n) hp (by omega)
      simpa using this

theorem sq_le {n : Nat} (h : n ≤ 12) : n * n ≤ 144 := Nat.mul_le_mul h h
theorem cu_le {n : Nat} (h : n ≤ 12) : n * n * n ≤ 1728 := Nat.mul_le_mul (sq_le h) h

theorem dig_ok {t : List (List Int)} {p : Int} (h1 : tabB t = true) (p1 : 2 ≤ p) (p2 : p ≤ 7) {k : Nat} (hk : k ≤ 1000) (hN : (t.length : Int) ^ (k - 1) ≤ 512) {i : Int} (hi : 0 ≤ i) : bdOk t p (digN t.length k i) :=
  ⟨h1, p1, p2, digN_in (tabB_of h1).1 k i hi, by rw [digN_length]; exact hN, by rw [digN_length]; exact hk⟩

theorem sq_512 {t : List (List Int)} (h1 : tabB t = true) : (t.length : Int) ^ (3 - 1) ≤ 512 := by
  have h := sq_le (tabB_of h1).2.1
  rw [← Int.natCast_pow, show 3 - 1 = 2 from rfl, Nat.pow_two]
  omega

theorem stF_zero {p : Int} (hp : 1 ≤ p) {d : List Int} (hd : inP p d) : stF p 1 d (List.replicate d.length 0) = d := by
  refine list_ext (by rw [stF_length, List.length_replicate]) fun q hq => ?_
  rw [stF_length, List.length_replicate] at hq
  rw [stF, tab_getD _ _ _ (by rw [List.length_replicate]; exact hq)]
  have := hd q hq
  have e : (List.replicate d.length (0 : Int)).getD q 0 = 0 := by simp [List.getD_eq_getElem?_getD, hq]
  rw [e, Int.zero_add, Int.one_mul, Int.tmod_eq_emod_of_nonneg this.1, Int.emod_eq_of_lt this.1 (by omega)]

theorem rep_in {p : Int} (hp : 1 ≤ p) (n : Nat) : inP p (List.replicate n 0) := fun q hq => by
  rw [List.length_replicate] at hq
  simp [List.getD_eq_getElem?_getD, hq]; omega

theorem inP_allW {p : Int} {c : List Int} (h : inP p c) : allW 0 (p - 1) c = true := by
  rw [allW, List.all_eq_true]
  intro x hx
  obtain ⟨k, hk, rfl⟩ := List.getElem_of_mem hx
  have := h k hk
  rw [List.getD_eq_getElem?_getD, List.getElem?_eq_getElem hk] at this
  simpa using this

theorem ad_zero {t : List (List Int)} {p : Int} (hp : 2 ≤ p) (x : List Int) (i : Nat) : adF t p x 1 (List.replicate (t.length ^ (x.length - 1)) 0) i = ptF t p x i := by
  rw [ad_eq hp (by omega) (rep_in (by omega) _) (by rw [List.length_replicate])]
  have e := stF_zero (show 1 ≤ p by omega) (ptF_in t hp x i)
  rwa [ptF_length] at e

theorem rg_step (f : Nat → Bool) {i N : Nat} (h : i < N) : (List.range' i (N - i)).all f = (f i && (List.range' (i + 1) (N - (i + 1))).all f) := by
  rw [show N - i = (N - (i + 1)) + 1 by omega, List.range'_succ]; rfl

theorem rg_end (f : Nat → Bool) {i N : Nat} (h : N ≤ i) : (List.range' i (N - i)).all f = true := by
  rw [show N - i = 0 by omega]; rfl

theorem crows_length (t : List (List Int)) (p : Int) : (crows t p).length = t.length * t.length * t.length := by simp [crows]
theorem crows_getD (t : List (List Int)) (p : Int) (i : Nat) (h : i < t.length * t.length * t.length) : (crows t p).getD i [] = crF t p i := by
  simp [crows, List.getD_eq_getElem?_getD, h]
theorem crF_length (t : List (List Int)) (p : Int) (i : Nat) : (crF t p i).length = t.length * t.length := by
  rw [crF, ptF_length, digN_length, show 3 - 1 = 2 from rfl, Nat.pow_two]

def cocycleRows_p (t : List (List Int)) (p : Int) : Post := ⟨tabB t = true ∧ 2 ≤ p ∧ p ≤ 7, .c (.rows 24 2 .i64 (crows t p)), []⟩
def cocycleRows_ct : List AD → Option Post
  | [.c (.rows .i64 (t)), .c (.int .i64 (p))] => some (cocycleRows_p t p)
  | _ => none
def cocycleRows_ann (t : List (List Int)) (p : Int) : Nat → Option Ann
  | 0 => some (Ann.mk ((Nat)) (fun i => ⟨[(0, .c (.ro (.rows .i64 (t)))), (1, .c (.int .i64 (p))), (5, .c (.int .i64 ((t.length : Int)))), (6, .c (.own (6))), (15, .c (.int .i64 (((t.length * t.length * t.length : Nat) : Int)))), (16, .c (.int .i64 ((i : Int))))], [(6, some (.rows 0 24 2 .i64 ((crows t p).take i)))]⟩) (fun i => i ≤ t.length * t.length * t.length) (fun i => t.length * t.length * t.length - i) (fun _ => noAnn))
  | _ => none
def cocycleRows_G : List (Nat × Ctr) := [(120, ⟨[], tupleOf_ct⟩), (119, ⟨[(4, 0)], addBoundary_ct⟩)]
def cocycleRows_V (t : List (List Int)) (p : Int) : Prop :=
  ((Go.Sx.InR ((↑(List.length t) : Int) * (↑(List.length t) : Int))) ∧
  ((Go.Sx.InR ((↑(List.length t) : Int) * (↑(List.length t) : Int) * (↑(List.length t) : Int))) ∧
  ((∃ x0 : Nat, ((x0 ≤ List.length t * List.length t * List.length t) ∧
  ((t = t) ∧
  ((p = p) ∧
  (((↑(List.length t) : Int) = (↑(List.length t) : Int)) ∧
  (((↑(List.length t) : Int) * (↑(List.length t) : Int) * (↑(List.length t) : Int) = (↑(List.length t * List.length t * List.length t) : Int)) ∧
  (((0 : Int) = (↑x0 : Int)) ∧
  (List.take x0 (Go.Sx.crows t p) = [])))))))) ∧
  (∀ x1 : Nat, ((x1 ≤ List.length t * List.length t * List.length t) →
  (BrP (Decidable.decide ((↑x1 : Int) < (↑(List.length t * List.length t * List.length t) : Int)))
    ((Go.Sx.InR ((↑(List.length t) : Int) * (↑(List.length t) : Int))) ∧
    ((((0 : Int) ≤ (↑(List.length t) : Int) * (↑(List.length t) : Int)) ∧
    (((↑(List.length t) : Int) * (↑(List.length t) : Int) ≤ (↑(List.length t) : Int) * (↑(List.length t) : Int)) ∧
    (Go.Sx.room (Int.toNat ((↑(List.length t) : Int) * (↑(List.length t) : Int)))))) ∧
    (((((1 : Int) ≤ (↑(List.length t) : Int)) ∧
    (((0 : Int) ≤ (3 : Int)) ∧
    (((3 : Int) ≤ (1000 : Int)) ∧
    (((0 : Int) ≤ (↑x1 : Int)) ∧
    ((↑x1 : Int) ≤ (1000000 : Int)))))) ∧
    (True)) ∧
    ((((Go.Sx.bdOk t p (Go.Sx.digN (↑(List.length t) : Int) (Int.toNat (3 : Int)) (↑x1 : Int))) ∧
    (((0 : Int) ≤ (1 : Int)) ∧
    (((1 : Int) ≤ p - (1 : Int)) ∧
    ((Go.Sx.inP p (List.replicate (Int.toNat ((↑(List.length t) : Int) * (↑(List.length t) : Int))) (0 : Int))) ∧
    (List.length (List.replicate (Int.toNat ((↑(List.length t) : Int) * (↑(List.length t) : Int))) (0 : Int)) = List.length t ^ (List.length (Go.Sx.digN (↑(List.length t) : Int) (Int.toNat (3 : Int)) (↑x1 : Int)) - (1 : Nat))))))) ∧
    ((List.length (Go.Sx.adF t p (Go.Sx.digN (↑(List.length t) : Int) (Int.toNat (3 : Int)) (↑x1 : Int)) (1 : Int) (List.replicate (Int.toNat ((↑(List.length t) : Int) * (↑(List.length t) : Int))) (0 : Int)) (List.length (Go.Sx.digN (↑(List.length t) : Int) (Int.toNat (3 : Int)) (↑x1 : Int)))) = List.length (List.replicate (Int.toNat ((↑(List.length t) : Int) * (↑(List.length t) : Int))) (0 : Int))) ∧
    (True))) ∧
    ((Go.Sx.room (List.length (List.take x1 (Go.Sx.crows t p)) + List.length [Go.Sx.adF t p (Go.Sx.digN (↑(List.length t) : Int) (Int.toNat (3 : Int)) (↑x1 : Int)) (1 : Int) (List.replicate (Int.toNat ((↑(List.length t) : Int) * (↑(List.length t) : Int))) (0 : Int)) (List.length (Go.Sx.digN (↑(List.length t) : Int) (Int.toNat (3 : Int)) (↑x1 : Int)))])) ∧
    ((Go.Sx.InR ((↑x1 : Int) + (1 : Int))) ∧
    (∃ x2 : Nat, ((x2 ≤ List.length t * List.length t * List.length t) ∧
    ((List.length t * List.length t * List.length t - x2 < List.length t * List.length t * List.length t - x1) ∧
    ((t = t) ∧
    ((p = p) ∧
    (((↑(List.length t) : Int) = (↑(List.length t) : Int)) ∧
    (((↑(List.length t * List.length t * List.length t) : Int) = (↑(List.length t * List.length t * List.length t) : Int)) ∧
    (((↑x1 : Int) + (1 : Int) = (↑x2 : Int)) ∧
    (List.take x1 (Go.Sx.crows t p) ++ [Go.Sx.adF t p (Go.Sx.digN (↑(List.length t) : Int) (Int.toNat (3 : Int)) (↑x1 : Int)) (1 : Int) (List.replicate (Int.toNat ((↑(List.length t) : Int) * (↑(List.length t) : Int))) (0 : Int)) (List.length (Go.Sx.digN (↑(List.length t) : Int) (Int.toNat (3 : Int)) (↑x1 : Int)))] = List.take x2 (Go.Sx.crows t p))))))))))))))))
    ((List.take x1 (Go.Sx.crows t p) = Go.Sx.crows t p) ∧
    (True))))))))
theorem cocycleRows_vc (t : List (List Int)) (p : Int) : runF Try.prog (gam cocycleRows_G) noWr (cocycleRows_ann t p) Try.f74 (bodyOf Try.f74) [] [.c (.rows .i64 (t)), .c (.int .i64 (p))] (cocycleRows_p t p) = cocycleRows_V t p := by kernel_rfl
theorem cocycleRows_ok (t : List (List Int)) (p : Int) (hpre : (cocycleRows_p t p).pre) : cocycleRows_V t p := by
  simp only [cocycleRows_p, cocycleRows_V, BrP_iff, true_and, and_true, decide_eq_true_eq, decide_eq_false_iff_not, bne_iff_ne, beq_iff_eq, bne_eq_false_iff_eq, beq_eq_false_iff_ne, Bool.not_eq_true, Bool.not_eq_false, Bool.not_true, Bool.not_false, Bool.not_eq_eq_eq_not, Int.toNat_natCast, List.length_append, List.length_take, List.length_replicate, List.length_set, List.length_map, List.length_drop, List.length_nil, List.length_cons, markL_length, inB, InR, room, bdsOk] at hpre ⊢
  obtain ⟨h1, p1, p2⟩ := hpre
  obtain ⟨n1, n2, ht⟩ := tabB_of h1
  have q2 := sq_le n2
  have q3 := cu_le n2
  have hcl := crows_length t p
  have hlen : ∀ i : Nat, (digN t.length (Int.toNat 3) (i : Int)).length = 3 := fun i => digN_length _ _ _
  simp only [← Int.natCast_mul, Int.toNat_natCast]
  refine ⟨by omega, by omega, ⟨0, by omega, trivial, rfl, rfl⟩, fun i hi => ⟨fun h => ?_, fun h => List.take_of_length_le (by omega)⟩⟩
  have hx : bdOk t p (digN t.length 3 (i : Int)) := dig_ok h1 p1 p2 (by omega) (sq_512 h1) (by omega)
  rw [hlen i]
  have e2 : t.length ^ (3 - 1) = t.length * t.length := Nat.pow_two _
  have er : adF t p (digN t.length (Int.toNat 3) (i : Int)) 1 (List.replicate (t.length * t.length) 0) 3 = crF t p i := by
    have := ad_zero p1 (digN t.length 3 (i : Int)) 3 (t := t)
    rw [digN_length, e2] at this
    exact this
  rw [er, crF_length]
  refine ⟨by omega, by omega, by omega, ⟨⟨hx, by omega, by omega, rep_in (by omega) _, e2.symm⟩, rfl⟩, by omega, by omega, i + 1, by omega, by omega, by omega, ?_⟩
  rw [← crows_getD t p i (by omega)]
  exact take_snoc _ [] i (by omega)
theorem cocycleRows_fits : Fits Try.prog 74 ⟨[], cocycleRows_ct⟩ := by
  refine fits_fn (Γ := gam cocycleRows_G) (gok_cons tupleOf_fits (gok_cons addBoundary_fits gok_nil)) Try.func74 (by kernel_rfl) (by kernel_rfl) (by kernel_rfl) fun ds p h hp => ?_
  unfold cocycleRows_ct at h
  split at h
  · cases h
    exact ⟨noWr, cocycleRows_ann _ _ , by rw [cocycleRows_vc]; exact cocycleRows_ok _ _  hp⟩
  · cases h

/-- All rows pair with the chain to 0. -/
def cocN (t : List (List Int)) (p : Int) (c : List Int) : Bool := (List.range (t.length * t.length * t.length)).all fun i => decide ((dotN (crF t p i) c (t.length * t.length)).tmod p = 0)
def cocC (t : List (List Int)) (p : Int) (c : List Int) : Bool × Int := if chC t p 2 c = 0 then (cocN t p c, 0) else (false, chC t p 2 c)

theorem cocC_no {t : List (List Int)} {p : Int} {c : List Int} {z : Int} (h : chC t p 2 c = z) (hz : z ≠ 0) : false = (cocC t p c).1 ∧ z = (cocC t p c).2 := by
  rw [cocC, if_neg (by omega)]; exact ⟨rfl, h.symm⟩
theorem cocC_yes {t : List (List Int)} {p : Int} {c : List Int} {b : Bool} (h : chC t p 2 c = 0) (hb : cocN t p c = b) : b = (cocC t p c).1 ∧ 0 = (cocC t p c).2 := by
  rw [cocC, if_pos h]; exact ⟨hb.symm, rfl⟩

def iCoc_p (t : List (List Int)) (p : Int) (c : List Int) : Post := ⟨roomR t ∧ c.length ≤ 1099511627776, .tup [.inl (.bool ((cocC t p c).1)), .inl (.int .i64 ((cocC t p c).2))], []⟩
def iCoc_ct : List AD → Option Post
  | [.agg [.rows .i64 (t)], .c (.int .i64 (p)), .c (.ints .i64 (c))] => some (iCoc_p t p c)
  | _ => none
def iCoc_ann (t : List (List Int)) (p : Int) (c : List Int) : Nat → Option Ann
  | 0 => some (Ann.mk ((Nat)) (fun i => ⟨[(1, .c (.int .i64 (p))), (2, .c (.ro (.ints .i64 (c)))), (21, .c (.own (21))), (22, .c (.int .i64 (((t.length * t.length * t.length : Nat) : Int)))), (23, .c (.int .i64 ((i : Int))))], [(21, some (.rows 0 24 2 .i64 (crows t p)))]⟩) (fun i => i ≤ t.length * t.length * t.length ∧ cocN t p c = (List.range' i (t.length * t.length * t.length - i)).all fun i => decide ((dotN (crF t p i) c (t.length * t.length)).tmod p = 0)) (fun i => t.length * t.length * t.length - i) (fun _ => noAnn))
  | _ => none
def iCoc_G : List (Nat × Ctr) := [(73, ⟨[], checkChain_ct⟩), (74, ⟨[], cocycleRows_ct⟩), (75, ⟨[], pairing_ct⟩)]
def iCoc_V (t : List (List Int)) (p : Int) (c : List Int) : Prop :=
  ((((Go.Sx.roomR t) ∧
  (List.length c ≤ (1099511627776 : Nat))) ∧
  (True)) ∧
  (BrP (Go.Sx.chC t p (2 : Int) c != (0 : Int))
    (((Bool.false = Prod.fst (Go.Sx.cocC t p c)) ∧
    ((Go.Sx.chC t p (2 : Int) c = Prod.snd (Go.Sx.cocC t p c)) ∧
    (True))) ∧
    (True))
    ((((Go.Sx.tabB t = Bool.true) ∧
    (((2 : Int) ≤ p) ∧
    (p ≤ (7 : Int)))) ∧
    (True)) ∧
    ((∃ x0 : Nat, (((x0 ≤ List.length t * List.length t * List.length t) ∧
    (Go.Sx.cocN t p c = List.all (List.range' x0 (List.length t * List.length t * List.length t - x0)) fun (i : Nat) => Decidable.decide (Int.tmod (Go.Sx.dotN (Go.Sx.crF t p i) c (List.length t * List.length t)) p = (0 : Int)))) ∧
    ((p = p) ∧
    ((c = c) ∧
    (((↑(List.length (Go.Sx.crows t p)) : Int) = (↑(List.length t * List.length t * List.length t) : Int)) ∧
    (((0 : Int) = (↑x0 : Int)) ∧
    (Go.Sx.crows t p = Go.Sx.crows t p))))))) ∧
    (∀ x1 : Nat, (((x1 ≤ List.length t * List.length t * List.length t) ∧
    (Go.Sx.cocN t p c = List.all (List.range' x1 (List.length t * List.length t * List.length t - x1)) fun (i : Nat) => Decidable.decide (Int.tmod (Go.Sx.dotN (Go.Sx.crF t p i) c (List.length t * List.length t)) p = (0 : Int)))) →
    (BrP (Decidable.decide ((↑x1 : Int) < (↑(List.length t * List.length t * List.length t) : Int)))
      ((Go.Sx.inB (↑x1 : Int) (List.length (Go.Sx.crows t p))) ∧
      (((((2 : Int) ≤ p) ∧
      ((p ≤ (7 : Int)) ∧
      ((List.length (List.getD (Go.Sx.crows t p) (Int.toNat (↑x1 : Int)) []) ≤ (512 : Nat)) ∧
      ((List.length (List.getD (Go.Sx.crows t p) (Int.toNat (↑x1 : Int)) []) = List.length c) ∧
      ((Go.Sx.allW (0 : Int) (p - (1 : Int)) (List.getD (Go.Sx.crows t p) (Int.toNat (↑x1 : Int)) []) = Bool.true) ∧
      (Go.Sx.allW (0 : Int) (p - (1 : Int)) c = Bool.true)))))) ∧
      (True)) ∧
      (BrP (Int.tmod (Go.Sx.dotN (List.getD (Go.Sx.crows t p) (Int.toNat (↑x1 : Int)) []) c (List.length (List.getD (Go.Sx.crows t p) (Int.toNat (↑x1 : Int)) []))) p != (0 : Int))
        (((Bool.false = Prod.fst (Go.Sx.cocC t p c)) ∧
        (((0 : Int) = Prod.snd (Go.Sx.cocC t p c)) ∧
        (True))) ∧
        (True))
        ((Go.Sx.InR ((↑x1 : Int) + (1 : Int))) ∧
        (∃ x2 : Nat, (((x2 ≤ List.length t * List.length t * List.length t) ∧
        (Go.Sx.cocN t p c = List.all (List.range' x2 (List.length t * List.length t * List.length t - x2)) fun (i : Nat) => Decidable.decide (Int.tmod (Go.Sx.dotN (Go.Sx.crF t p i) c (List.length t * List.length t)) p = (0 : Int)))) ∧
        ((List.length t * List.length t * List.length t - x2 < List.length t * List.length t * List.length t - x1) ∧
        ((p = p) ∧
        ((c = c) ∧
        (((↑(List.length t * List.length t * List.length t) : Int) = (↑(List.length t * List.length t * List.length t) : Int)) ∧
        (((↑x1 : Int) + (1 : Int) = (↑x2 : Int)) ∧
        (Go.Sx.crows t p = Go.Sx.crows t p))))))))))))
      (((Bool.true = Prod.fst (Go.Sx.cocC t p c)) ∧
      (((0 : Int) = Prod.snd (Go.Sx.cocC t p c)) ∧
      (True))) ∧
      (True)))))))))
theorem iCoc_vc (t : List (List Int)) (p : Int) (c : List Int) : runF Try.prog (gam iCoc_G) noWr (iCoc_ann t p c) Try.f31 (bodyOf Try.f31) [] [.agg [.rows .i64 (t)], .c (.int .i64 (p)), .c (.ints .i64 (c))] (iCoc_p t p c) = iCoc_V t p c := by kernel_rfl
theorem iCoc_ok (t : List (List Int)) (p : Int) (c : List Int) (hpre : (iCoc_p t p c).pre) : iCoc_V t p c := by
  simp only [iCoc_p, iCoc_V, BrP_iff, true_and, and_true, decide_eq_true_eq, decide_eq_false_iff_not, bne_iff_ne, beq_iff_eq, bne_eq_false_iff_eq, beq_eq_false_iff_ne, Bool.not_eq_true, Bool.not_eq_false, Bool.not_true, Bool.not_false, Bool.not_eq_eq_eq_not, Int.toNat_natCast, List.length_append, List.length_take, List.length_replicate, List.length_set, List.length_map, List.length_drop, List.length_nil, List.length_cons, markL_length, inB, InR, room, bdsOk] at hpre ⊢
  refine ⟨hpre, fun h => cocC_no rfl h, fun h0 => ?_⟩
  obtain ⟨h1, h2, h3, h4, h5⟩ := chC_ok h0
  have hT := rackB_tab h1
  obtain ⟨n1, n2, ht⟩ := tabB_of hT
  have hp := primeB_le h2
  obtain ⟨c1, c2, c3⟩ := chB_of h4
  have c4 : c.length = t.length * t.length := by rw [c1]; exact Nat.pow_two _
  have q2 := sq_le n2
  have q3 := cu_le n2
  refine ⟨⟨hT, hp.1, hp.2⟩, ⟨0, ⟨by omega, by rw [cocN, List.range_eq_range', Nat.sub_zero]⟩, by rw [crows_length], rfl⟩, fun i ⟨hi, he⟩ => ⟨fun h => ?_, fun h => cocC_yes h0 (by rw [he]; exact rg_end _ (by omega))⟩⟩
  rw [crows_length, crows_getD t p i (by omega), crF_length]
  rw [rg_step _ (by omega)] at he
  refine ⟨by omega, ⟨hp.1, hp.2, by omega, by omega, inP_allW (ptF_in t hp.1 _ _), c3⟩, fun h6 => cocC_yes h0 ?_, fun h6 => ⟨by omega, i + 1, ⟨by omega, ?_⟩, by omega, by omega⟩⟩
  · rw [he, decide_eq_false h6, Bool.false_and]
  · rw [he, decide_eq_true h6, Bool.true_and]
theorem iCoc_fits : Fits Try.prog 31 ⟨[], iCoc_ct⟩ := by
  refine fits_fn (Γ := gam iCoc_G) (gok_cons checkChain_fits (gok_cons cocycleRows_fits (gok_cons pairing_fits gok_nil))) Try.func31 (by kernel_rfl) (by kernel_rfl) (by kernel_rfl) fun ds p h hp => ?_
  unfold iCoc_ct at h
  split at h
  · cases h
    exact ⟨noWr, iCoc_ann _ _ _ , by rw [iCoc_vc]; exact iCoc_ok _ _ _  hp⟩
  · cases h

def sCoc_p (t : List (List Int)) (p : Int) (c : List Int) : Post := ⟨roomR t ∧ c.length ≤ 1099511627776, .tup [.inl (.bool ((cocC t p c).1)), .inl (.int .i64 ((cocC t p c).2))], []⟩
def sCoc_ct : List AD → Option Post
  | [.agg [.rows .i64 (t)], .c (.int .i64 (p)), .c (.ints .i64 (c))] => some (sCoc_p t p c)
  | _ => none
def sCoc_ann (t : List (List Int)) (p : Int) (c : List Int) : Nat → Option Ann
  | 0 => some (Ann.mk ((Nat)) (fun i => ⟨[(1, .c (.int .i64 (p))), (2, .c (.ro (.ints .i64 (c)))), (3, .c (.ptr 3 0)), (9, .c (.int .i64 ((t.length : Int)))), (10, .c (.int .i64 ((i : Int))))], [(3, some (.box [.ro (.rows .i64 (t))]))]⟩) (fun i => i ≤ t.length * t.length * t.length ∧ cocN t p c = (List.range' i (t.length * t.length * t.length - i)).all fun i => decide ((dotN (crF t p i) c (t.length * t.length)).tmod p = 0)) (fun i => t.length * t.length * t.length - i) (fun _ => noAnn))
  | _ => none
def sCoc_G : List (Nat × Ctr) := [(68, ⟨[], l15Code_ct⟩), (69, ⟨[], l15Chain_ct⟩), (72, ⟨[], l15Tuple_ct⟩), (71, ⟨[], l15Tuples_ct⟩), (70, ⟨[], l15Pair_ct⟩)]
def sCoc_V (t : List (List Int)) (p : Int) (c : List Int) : Prop :=
  (((Go.Sx.roomR t) ∧
  (True)) ∧
  (BrP (Go.Sx.dgC t p (2 : Int) == (0 : Int))
    (((((1 : Int) ≤ (↑(List.length t) : Int)) ∧
    (((↑(List.length t) : Int) ≤ (12 : Int)) ∧
    ((Go.Sx.degB (↑(List.length t) : Int) (2 : Int) = Bool.true) ∧
    (((2 : Int) ≤ p) ∧
    ((p ≤ (7 : Int)) ∧
    (List.length c ≤ (1099511627776 : Nat))))))) ∧
    (True)) ∧
    (BrP (!(Decidable.decide ((↑(List.length c) : Int) = (↑(List.length t) : Int) ^ Int.toNat (2 : Int)) && Go.Sx.allW (0 : Int) (p - (1 : Int)) c))
      (((Bool.false = Prod.fst (Go.Sx.cocC t p c)) ∧
      (((2 : Int) = Prod.snd (Go.Sx.cocC t p c)) ∧
      (True))) ∧
      (True))
      (BrP (Go.Sx.dgC t p (2 : Int) != (0 : Int))
        (((Bool.false = Prod.fst (Go.Sx.cocC t p c)) ∧
        ((Go.Sx.dgC t p (2 : Int) = Prod.snd (Go.Sx.cocC t p c)) ∧
        (True))) ∧
        (True))
        ((∃ x0 : Nat, (((x0 ≤ List.length t * List.length t * List.length t) ∧
        (Go.Sx.cocN t p c = List.all (List.range' x0 (List.length t * List.length t * List.length t - x0)) fun (i : Nat) => Decidable.decide (Int.tmod (Go.Sx.dotN (Go.Sx.crF t p i) c (List.length t * List.length t)) p = (0 : Int)))) ∧
        ((p = p) ∧
        ((c = c) ∧
        (((↑(List.length t) : Int) = (↑(List.length t) : Int)) ∧
        (((0 : Int) = (↑x0 : Int)) ∧
        (t = t))))))) ∧
        (∀ x1 : Nat, (((x1 ≤ List.length t * List.length t * List.length t) ∧
        (Go.Sx.cocN t p c = List.all (List.range' x1 (List.length t * List.length t * List.length t - x1)) fun (i : Nat) => Decidable.decide (Int.tmod (Go.Sx.dotN (Go.Sx.crF t p i) c (List.length t * List.length t)) p = (0 : Int)))) →
        ((Go.Sx.InR ((↑(List.length t) : Int) * (↑(List.length t) : Int))) ∧
        ((Go.Sx.InR ((↑(List.length t) : Int) * (↑(List.length t) : Int) * (↑(List.length t) : Int))) ∧
        (BrP (Decidable.decide ((↑x1 : Int) < (↑(List.length t) : Int) * (↑(List.length t) : Int) * (↑(List.length t) : Int)))
          (((((1 : Int) ≤ (↑(List.length t) : Int)) ∧
          (((0 : Int) ≤ (3 : Int)) ∧
          (((3 : Int) ≤ (1000 : Int)) ∧
          (((0 : Int) ≤ (↑x1 : Int)) ∧
          ((↑x1 : Int) ≤ (1000000 : Int)))))) ∧
          (True)) ∧
          ((((Go.Sx.bdOk t p (Go.Sx.digN (↑(List.length t) : Int) (Int.toNat (3 : Int)) (↑x1 : Int))) ∧
          ((1 : Nat) ≤ List.length (Go.Sx.digN (↑(List.length t) : Int) (Int.toNat (3 : Int)) (↑x1 : Int)))) ∧
          (True)) ∧
          (((((2 : Int) ≤ p) ∧
          ((p ≤ (7 : Int)) ∧
          ((List.length (Go.Sx.ptF t p (Go.Sx.digN (↑(List.length t) : Int) (Int.toNat (3 : Int)) (↑x1 : Int)) (List.length (Go.Sx.digN (↑(List.length t) : Int) (Int.toNat (3 : Int)) (↑x1 : Int)))) ≤ (512 : Nat)) ∧
          ((List.length (Go.Sx.ptF t p (Go.Sx.digN (↑(List.length t) : Int) (Int.toNat (3 : Int)) (↑x1 : Int)) (List.length (Go.Sx.digN (↑(List.length t) : Int) (Int.toNat (3 : Int)) (↑x1 : Int)))) = List.length c) ∧
          ((Go.Sx.allW (0 : Int) (p - (1 : Int)) (Go.Sx.ptF t p (Go.Sx.digN (↑(List.length t) : Int) (Int.toNat (3 : Int)) (↑x1 : Int)) (List.length (Go.Sx.digN (↑(List.length t) : Int) (Int.toNat (3 : Int)) (↑x1 : Int)))) = Bool.true) ∧
          (Go.Sx.allW (0 : Int) (p - (1 : Int)) c = Bool.true)))))) ∧
          (True)) ∧
          (BrP (Int.tmod (Go.Sx.dotN (Go.Sx.ptF t p (Go.Sx.digN (↑(List.length t) : Int) (Int.toNat (3 : Int)) (↑x1 : Int)) (List.length (Go.Sx.digN (↑(List.length t) : Int) (Int.toNat (3 : Int)) (↑x1 : Int)))) c (List.length (Go.Sx.ptF t p (Go.Sx.digN (↑(List.length t) : Int) (Int.toNat (3 : Int)) (↑x1 : Int)) (List.length (Go.Sx.digN (↑(List.length t) : Int) (Int.toNat (3 : Int)) (↑x1 : Int)))))) p != (0 : Int))
            (((Bool.false = Prod.fst (Go.Sx.cocC t p c)) ∧
            (((0 : Int) = Prod.snd (Go.Sx.cocC t p c)) ∧
            (True))) ∧
            (True))
            ((Go.Sx.InR ((↑x1 : Int) + (1 : Int))) ∧
            (∃ x2 : Nat, (((x2 ≤ List.length t * List.length t * List.length t) ∧
            (Go.Sx.cocN t p c = List.all (List.range' x2 (List.length t * List.length t * List.length t - x2)) fun (i : Nat) => Decidable.decide (Int.tmod (Go.Sx.dotN (Go.Sx.crF t p i) c (List.length t * List.length t)) p = (0 : Int)))) ∧
            ((List.length t * List.length t * List.length t - x2 < List.length t * List.length t * List.length t - x1) ∧
            ((p = p) ∧
            ((c = c) ∧
            (((↑(List.length t) : Int) = (↑(List.length t) : Int)) ∧
            (((↑x1 : Int) + (1 : Int) = (↑x2 : Int)) ∧
            (t = t)))))))))))))
          (((Bool.true = Prod.fst (Go.Sx.cocC t p c)) ∧
          (((0 : Int) = Prod.snd (Go.Sx.cocC t p c)) ∧
          (True))) ∧
          (True)))))))))))
    (BrP (Go.Sx.dgC t p (2 : Int) != (0 : Int))
      (((Bool.false = Prod.fst (Go.Sx.cocC t p c)) ∧
      ((Go.Sx.dgC t p (2 : Int) = Prod.snd (Go.Sx.cocC t p c)) ∧
      (True))) ∧
      (True))
      ((∃ x3 : Nat, (((x3 ≤ List.length t * List.length t * List.length t) ∧
      (Go.Sx.cocN t p c = List.all (List.range' x3 (List.length t * List.length t * List.length t - x3)) fun (i : Nat) => Decidable.decide (Int.tmod (Go.Sx.dotN (Go.Sx.crF t p i) c (List.length t * List.length t)) p = (0 : Int)))) ∧
      ((p = p) ∧
      ((c = c) ∧
      (((↑(List.length t) : Int) = (↑(List.length t) : Int)) ∧
      (((0 : Int) = (↑x3 : Int)) ∧
      (t = t))))))) ∧
      (∀ x4 : Nat, (((x4 ≤ List.length t * List.length t * List.length t) ∧
      (Go.Sx.cocN t p c = List.all (List.range' x4 (List.length t * List.length t * List.length t - x4)) fun (i : Nat) => Decidable.decide (Int.tmod (Go.Sx.dotN (Go.Sx.crF t p i) c (List.length t * List.length t)) p = (0 : Int)))) →
      ((Go.Sx.InR ((↑(List.length t) : Int) * (↑(List.length t) : Int))) ∧
      ((Go.Sx.InR ((↑(List.length t) : Int) * (↑(List.length t) : Int) * (↑(List.length t) : Int))) ∧
      (BrP (Decidable.decide ((↑x4 : Int) < (↑(List.length t) : Int) * (↑(List.length t) : Int) * (↑(List.length t) : Int)))
        (((((1 : Int) ≤ (↑(List.length t) : Int)) ∧
        (((0 : Int) ≤ (3 : Int)) ∧
        (((3 : Int) ≤ (1000 : Int)) ∧
        (((0 : Int) ≤ (↑x4 : Int)) ∧
        ((↑x4 : Int) ≤ (1000000 : Int)))))) ∧
        (True)) ∧
        ((((Go.Sx.bdOk t p (Go.Sx.digN (↑(List.length t) : Int) (Int.toNat (3 : Int)) (↑x4 : Int))) ∧
        ((1 : Nat) ≤ List.length (Go.Sx.digN (↑(List.length t) : Int) (Int.toNat (3 : Int)) (↑x4 : Int)))) ∧
        (True)) ∧
        (((((2 : Int) ≤ p) ∧
        ((p ≤ (7 : Int)) ∧
        ((List.length (Go.Sx.ptF t p (Go.Sx.digN (↑(List.length t) : Int) (Int.toNat (3 : Int)) (↑x4 : Int)) (List.length (Go.Sx.digN (↑(List.length t) : Int) (Int.toNat (3 : Int)) (↑x4 : Int)))) ≤ (512 : Nat)) ∧
        ((List.length (Go.Sx.ptF t p (Go.Sx.digN (↑(List.length t) : Int) (Int.toNat (3 : Int)) (↑x4 : Int)) (List.length (Go.Sx.digN (↑(List.length t) : Int) (Int.toNat (3 : Int)) (↑x4 : Int)))) = List.length c) ∧
        ((Go.Sx.allW (0 : Int) (p - (1 : Int)) (Go.Sx.ptF t p (Go.Sx.digN (↑(List.length t) : Int) (Int.toNat (3 : Int)) (↑x4 : Int)) (List.length (Go.Sx.digN (↑(List.length t) : Int) (Int.toNat (3 : Int)) (↑x4 : Int)))) = Bool.true) ∧
        (Go.Sx.allW (0 : Int) (p - (1 : Int)) c = Bool.true)))))) ∧
        (True)) ∧
        (BrP (Int.tmod (Go.Sx.dotN (Go.Sx.ptF t p (Go.Sx.digN (↑(List.length t) : Int) (Int.toNat (3 : Int)) (↑x4 : Int)) (List.length (Go.Sx.digN (↑(List.length t) : Int) (Int.toNat (3 : Int)) (↑x4 : Int)))) c (List.length (Go.Sx.ptF t p (Go.Sx.digN (↑(List.length t) : Int) (Int.toNat (3 : Int)) (↑x4 : Int)) (List.length (Go.Sx.digN (↑(List.length t) : Int) (Int.toNat (3 : Int)) (↑x4 : Int)))))) p != (0 : Int))
          (((Bool.false = Prod.fst (Go.Sx.cocC t p c)) ∧
          (((0 : Int) = Prod.snd (Go.Sx.cocC t p c)) ∧
          (True))) ∧
          (True))
          ((Go.Sx.InR ((↑x4 : Int) + (1 : Int))) ∧
          (∃ x5 : Nat, (((x5 ≤ List.length t * List.length t * List.length t) ∧
          (Go.Sx.cocN t p c = List.all (List.range' x5 (List.length t * List.length t * List.length t - x5)) fun (i : Nat) => Decidable.decide (Int.tmod (Go.Sx.dotN (Go.Sx.crF t p i) c (List.length t * List.length t)) p = (0 : Int)))) ∧
          ((List.length t * List.length t * List.length t - x5 < List.length t * List.length t * List.length t - x4) ∧
          ((p = p) ∧
          ((c = c) ∧
          (((↑(List.length t) : Int) = (↑(List.length t) : Int)) ∧
          (((↑x4 : Int) + (1 : Int) = (↑x5 : Int)) ∧
          (t = t)))))))))))))
        (((Bool.true = Prod.fst (Go.Sx.cocC t p c)) ∧
        (((0 : Int) = Prod.snd (Go.Sx.cocC t p c)) ∧
        (True))) ∧
        (True)))))))))))
theorem sCoc_vc (t : List (List Int)) (p : Int) (c : List Int) : runF Try.prog (gam sCoc_G) noWr (sCoc_ann t p c) Try.f28 (bodyOf Try.f28) [] [.agg [.rows .i64 (t)], .c (.int .i64 (p)), .c (.ints .i64 (c))] (sCoc_p t p c) = sCoc_V t p c := by kernel_rfl
theorem sCoc_ok (t : List (List Int)) (p : Int) (c : List Int) (hpre : (sCoc_p t p c).pre) : sCoc_V t p c := by
  simp only [sCoc_p, sCoc_V, BrP_iff, true_and, and_true, decide_eq_true_eq, decide_eq_false_iff_not, bne_iff_ne, beq_iff_eq, bne_eq_false_iff_eq, beq_eq_false_iff_ne, Bool.not_eq_true, Bool.not_eq_false, Bool.not_true, Bool.not_false, Bool.not_eq_eq_eq_not, Int.toNat_natCast, List.length_append, List.length_take, List.length_replicate, List.length_set, List.length_map, List.length_drop, List.length_nil, List.length_cons, markL_length, inB, InR, room, bdsOk] at hpre ⊢
  obtain ⟨hr, hl⟩ := hpre
  refine ⟨hr, fun h0 => ?_, fun h0 => ⟨fun _ => ?_, fun h => absurd h h0⟩⟩
  · obtain ⟨h1, h2, h3, h4⟩ := dgC_ok h0
    have hT := rackB_tab h1
    obtain ⟨n1, n2, ht⟩ := tabB_of hT
    have hp := primeB_le h2
    have q2 := sq_le n2
    have q3 := cu_le n2
    refine ⟨⟨by omega, by omega, h3, hp.1, hp.2, hl⟩, fun h5 => ?_, fun h5 => ⟨fun h => absurd h0 h, fun _ => ?_⟩⟩
    · have h5 : chB t p 2 c = false := h5
      exact cocC_no (by rw [chC, if_pos h1, if_pos h4, if_neg (by rw [h5]; decide)]) (by omega)
    · have h5 : chB t p 2 c = true := h5
      have hz : chC t p 2 c = 0 := by rw [chC, if_pos h1, if_pos h4, if_pos h5]
      obtain ⟨c1, c2, c3⟩ := chB_of h5
      have c4 : c.length = t.length * t.length := by rw [c1]; exact Nat.pow_two _
      simp only [← Int.natCast_mul]
      refine ⟨⟨0, ⟨by omega, by rw [cocN, List.range_eq_range', Nat.sub_zero]⟩, rfl⟩, fun i ⟨hi, he⟩ => ⟨by omega, by omega, fun h => ?_, fun h => cocC_yes hz (by rw [he]; exact rg_end _ (by omega))⟩⟩
      have hx : bdOk t p (digN t.length 3 (i : Int)) := dig_ok hT hp.1 hp.2 (by omega) (sq_512 hT) (by omega)
      have hlen : (digN t.length (Int.toNat 3) (i : Int)).length = 3 := digN_length _ _ _
      rw [hlen]
      have er : ptF t p (digN t.length (Int.toNat 3) (i : Int)) 3 = crF t p i := rfl
      rw [er, crF_length]
      rw [rg_step _ (by omega)] at he
      refine ⟨by omega, ⟨hx, by omega⟩, ⟨hp.1, hp.2, by omega, by omega, inP_allW (ptF_in t hp.1 _ _), c3⟩, fun h6 => cocC_yes hz ?_, fun h6 => ⟨by omega, i + 1, ⟨by omega, ?_⟩, by omega, by omega⟩⟩
      · rw [he, decide_eq_false h6, Bool.false_and]
      · rw [he, decide_eq_true h6, Bool.true_and]
  · exact cocC_no (dgC_no c h0).symm h0
theorem sCoc_fits : Fits Try.prog 28 ⟨[], sCoc_ct⟩ := by
  refine fits_fn (Γ := gam sCoc_G) (gok_cons l15Code_fits (gok_cons l15Chain_fits (gok_cons l15Tuple_fits (gok_cons l15Tuples_fits (gok_cons l15Pair_fits gok_nil))))) Try.func28 (by kernel_rfl) (by kernel_rfl) (by kernel_rfl) fun ds p h hp => ?_
  unfold sCoc_ct at h
  split at h
  · cases h
    exact ⟨noWr, sCoc_ann _ _ _ , by rw [sCoc_vc]; exact sCoc_ok _ _ _  hp⟩
  · cases h

def lCoc_p (t : List (List Int)) (p : Int) (c : List Int) : Post := ⟨(t.length : Int) ≤ 9223372036854775807 ∧ (∀ r ∈ t, (r.length : Int) ≤ 9223372036854775807) ∧ (c.length : Int) ≤ 9223372036854775807, .c (.bool (true)), []⟩
def lCoc_ct : List AD → Option Post
  | [.agg [.rows .i64 (t)], .c (.int .i64 (p)), .c (.ints .i64 (c))] => some (lCoc_p t p c)
  | _ => none
def lCoc_G : List (Nat × Ctr) := [(27, ⟨[], szRack_ct⟩), (9, ⟨[], szInt64SS_ct⟩), (51, ⟨[], szInt64S_ct⟩), (29, ⟨[], toRack_ct⟩), (30, ⟨[], toInt64S_ct⟩), (32, ⟨[], eqRack_ct⟩), (13, ⟨[], eqInt64S_ct⟩), (28, ⟨[], sCoc_ct⟩), (31, ⟨[], iCoc_ct⟩)]
def lCoc_V (t : List (List Int)) (p : Int) (c : List Int) : Prop :=
  (BrP (Decidable.decide ((1048576 : Int) < (↑(List.length c) : Int)))
    ((Bool.true = Bool.true) ∧
    (True))
    (((((↑(List.length t) : Int) ≤ (9223372036854775807 : Int)) ∧
    ((∀ (r : List Int), r ∈ t → (↑(List.length r) : Int) ≤ (9223372036854775807 : Int)) ∧
    (((0 : Int) ≤ (1048576 : Int)) ∧
    ((1048576 : Int) ≤ (1099511627776 : Int))))) ∧
    (True)) ∧
    (BrP (Decidable.decide ((if (1048576 : Int) < (↑(List.length t) : Int) + (↑(Go.Sx.sumL t) : Int) then (-1 : Int) else (1048576 : Int) - (↑(List.length t) : Int) - (↑(Go.Sx.sumL t) : Int)) < (0 : Int)))
      ((Bool.true = Bool.true) ∧
      (True))
      (((Go.Sx.roomR t) ∧
      (True)) ∧
      (((Go.Sx.room (List.length c)) ∧
      (True)) ∧
      ((((Go.Sx.roomR t) ∧
      (List.length c ≤ (1099511627776 : Nat))) ∧
      (True)) ∧
      (((Go.Sx.roomR t) ∧
      (True)) ∧
      (((Go.Sx.room (List.length c)) ∧
      (True)) ∧
      ((((Go.Sx.roomR t) ∧
      (List.length c ≤ (1099511627776 : Nat))) ∧
      (True)) ∧
      (BrP (!Prod.fst (Go.Sx.cocC t p c) == Prod.fst (Go.Sx.cocC t p c))
        ((Bool.false = Bool.true) ∧
        (True))
        (BrP (Prod.snd (Go.Sx.cocC t p c) != Prod.snd (Go.Sx.cocC t p c))
          ((Bool.false = Bool.true) ∧
          (True))
          (((Go.Sx.roomR t) ∧
          (True)) ∧
          (((Go.Sx.roomR t) ∧
          (True)) ∧
          (BrP (!Decidable.decide (t = t))
            ((Bool.false = Bool.true) ∧
            (True))
            (((Go.Sx.room (List.length c)) ∧
            (True)) ∧
            (((Go.Sx.room (List.length c)) ∧
            (True)) ∧
            (BrP (!Decidable.decide (c = c))
              ((Bool.false = Bool.true) ∧
              (True))
              ((Bool.true = Bool.true) ∧
              (True)))))))))))))))))))
theorem lCoc_vc (t : List (List Int)) (p : Int) (c : List Int) : runF Try.prog (gam lCoc_G) noWr noAnn Try.f5 (bodyOf Try.f5) [] [.agg [.rows .i64 (t)], .c (.int .i64 (p)), .c (.ints .i64 (c))] (lCoc_p t p c) = lCoc_V t p c := by kernel_rfl
theorem lCoc_ok (t : List (List Int)) (p : Int) (c : List Int) (hpre : (lCoc_p t p c).pre) : lCoc_V t p c := by
  simp only [lCoc_p, lCoc_V, BrP_iff, true_and, and_true, decide_eq_true_eq, decide_eq_false_iff_not, bne_iff_ne, beq_iff_eq, bne_eq_false_iff_eq, beq_eq_false_iff_ne, Bool.not_eq_true, Bool.not_eq_false, Bool.not_true, Bool.not_false, Bool.not_eq_eq_eq_not, Int.toNat_natCast, List.length_append, List.length_take, List.length_replicate, List.length_set, List.length_map, List.length_drop, List.length_nil, List.length_cons, markL_length, inB, InR, room, bdsOk] at hpre ⊢
  obtain ⟨a1, a2, a3⟩ := hpre
  refine ⟨fun _ => trivial, fun h0 => ⟨⟨a1, a2, by omega, by omega⟩, fun _ => trivial, fun h => ?_⟩⟩
  obtain ⟨e1, e2, e3⟩ := size_of h
  have g1 : c.length ≤ 1099511627776 := by omega
  simp [e3, g1]
theorem lCoc_fits : Fits Try.prog 5 ⟨[], lCoc_ct⟩ := by
  refine fits_fn (Γ := gam lCoc_G) (gok_cons szRack_fits (gok_cons szInt64SS_fits (gok_cons szInt64S_fits (gok_cons toRack_fits (gok_cons toInt64S_fits (gok_cons eqRack_fits (gok_cons eqInt64S_fits (gok_cons sCoc_fits (gok_cons iCoc_fits gok_nil))))))))) Try.func5 (by kernel_rfl) (by kernel_rfl) (by kernel_rfl) fun ds p h hp => ?_
  unfold lCoc_ct at h
  split at h
  · cases h
    exact ⟨noWr, noAnn, by rw [lCoc_vc]; exact lCoc_ok _ _ _  hp⟩
  · cases h

end Go.Sx

