/- Tuple -/
import Derived.Test.YtcfbmimjffkgdaaBase
open Go Go.Proofs
namespace Go.Sx
set_option linter.unusedSimpArgs false
set_option linter.unusedVariables false

def degB (n k : Int) : Bool := decide (0 ≤ k ∧ k ≤ 1000) && decide (n ^ k.toNat ≤ 512)

/-- The k digits of a number, the last one last. -/
def digN (n : Int) : Nat → Int → List Int
  | 0, _ => []
  | k + 1, p => digN n k (p.tdiv n) ++ [p.tmod n]

theorem digN_length (n : Int) : ∀ (k : Nat) (p : Int), (digN n k p).length = k
  | 0, _ => rfl
  | k + 1, p => by simp [digN, digN_length n k]

theorem pow_pos' {n : Int} (h : 1 ≤ n) : ∀ i : Nat, 1 ≤ n ^ i
  | 0 => by simp
  | i + 1 => by
    have h1 := pow_pos' h i
    rw [Int.pow_succ]
    have := Int.mul_le_mul h1 h (by omega) (by omega)
    omega

theorem pow_mono {n : Int} (h : 1 ≤ n) (i : Nat) : ∀ j : Nat, n ^ i ≤ n ^ (i + j)
  | 0 => by simp
  | j + 1 => by
    have h1 := pow_mono h i j
    have h2 := pow_pos' h (i + j)
    rw [← Nat.add_assoc, Int.pow_succ]
    have := Int.mul_le_mul (Int.le_refl (n ^ (i + j))) h (by omega) (by omega)
    omega

theorem pow_le {n : Int} (h : 1 ≤ n) {i k : Nat} (hk : i ≤ k) : n ^ i ≤ n ^ k := by
  have := pow_mono h i (k - i)
  rwa [show i + (k - i) = k by omega] at this

theorem pow_one' : ∀ i : Nat, (1 : Int) ^ i = 1
  | 0 => rfl
  | i + 1 => by rw [Int.pow_succ, pow_one' i]; rfl

def tupOk (n k p : Int) : Bool := decide (1 ≤ n ∧ n ≤ 12) && (degB n k && decide (0 ≤ p ∧ p ≤ n ^ k.toNat - 1))
def tupC (n k p : Int) : List Int × Int := if tupOk n k p = true then (digN n k.toNat p, 0) else ([], 2)

theorem tupC_no {n k p : Int} (h : tupOk n k p = false) : [] = (tupC n k p).1 ∧ 2 = (tupC n k p).2 := by simp [tupC, h]
theorem tupC_yes {n k p : Int} (h : tupOk n k p = true) : digN n k.toNat p = (tupC n k p).1 ∧ 0 = (tupC n k p).2 := by simp [tupC, h]

theorem rep_set (j : Nat) (v : Int) (suf : List Int) : (List.replicate (j + 1) 0 ++ suf).set j v = List.replicate j 0 ++ v :: suf := by
  induction j with
  | zero => rfl
  | succ j ih => rw [List.replicate_succ, List.cons_append, List.set_cons_succ, ih, List.replicate_succ, List.cons_append]

def l15Power_p (n : Int) (k : Int) : Post := ⟨1 ≤ n ∧ n ≤ 12 ∧ 0 ≤ k ∧ k ≤ 1000, .c (.int .i64 (if n ^ k.toNat ≤ 512 then n ^ k.toNat else 513)), []⟩
def l15Power_ct : List AD → Option Post
  | [.c (.int .i64 (n)), .c (.int .i64 (k))] => some (l15Power_p n k)
  | _ => none
def l15Power_ann (n : Int) (k : Int) : Nat → Option Ann
  | 0 => some (Ann.mk ((Nat)) (fun i => ⟨[(0, .c (.int .i64 (n))), (1, .c (.int .i64 (k - (i : Int)))), (5, .c (.int .i64 (n ^ i)))], []⟩) (fun i => i ≤ k.toNat ∧ n ^ i ≤ 512) (fun i => k.toNat - i) (fun _ => noAnn))
  | _ => none
def l15Power_G : List (Nat × Ctr) := []
def l15Power_V (n : Int) (k : Int) : Prop :=
  ((∃ x0 : Nat, (((x0 ≤ Int.toNat k) ∧
 (n ^ x0 ≤ (512 : Int))) ∧
 ((n = n) ∧
 ((k = k - (↑x0 : Int)) ∧
 ((1 : Int) = n ^ x0))))) ∧
 (∀ x1 : Nat, (((x1 ≤ Int.toNat k) ∧
 (n ^ x1 ≤ (512 : Int))) →
 (BrP (Decidable.decide ((0 : Int) < k - (↑x1 : Int)))
 (BrP (Decidable.decide ((1 : Int) < n))
 ((InR (n ^ x1 * n)) ∧
 (BrP (Decidable.decide ((512 : Int) < n ^ x1 * n))
 (((513 : Int) = if n ^ Int.toNat k ≤ (512 : Int) then n ^ Int.toNat k else (513 : Int)) ∧
 (True))
 ((InR (k - (↑x1 : Int) - (1 : Int))) ∧
 (∃ x2 : Nat, (((x2 ≤ Int.toNat k) ∧
 (n ^ x2 ≤ (512 : Int))) ∧
 ((Int.toNat k - x2 < Int.toNat k - x1) ∧
 ((n = n) ∧
 ((k - (↑x1 : Int) - (1 : Int) = k - (↑x2 : Int)) ∧
 (n ^ x1 * n = n ^ x2)))))))))
 ((n ^ x1 = if n ^ Int.toNat k ≤ (512 : Int) then n ^ Int.toNat k else (513 : Int)) ∧
 (True)))
 ((n ^ x1 = if n ^ Int.toNat k ≤ (512 : Int) then n ^ Int.toNat k else (513 : Int)) ∧
 (True))))))
theorem l15Power_vc (n : Int) (k : Int) : runF Try.prog (gam l15Power_G) noWr (l15Power_ann n k) Try.f96 (bodyOf Try.f96) [] [.c (.int .i64 (n)), .c (.int .i64 (k))] (l15Power_p n k) = l15Power_V n k := by kernel_rfl
theorem l15Power_ok (n : Int) (k : Int) (hpre : (l15Power_p n k).pre) : l15Power_V n k := by
  simp only [l15Power_p, l15Power_V, BrP_iff, true_and, and_true, decide_eq_true_eq, decide_eq_false_iff_not, bne_iff_ne, beq_iff_eq, bne_eq_false_iff_eq, beq_eq_false_iff_ne, Bool.not_eq_true, Bool.not_eq_false, Bool.not_true, Bool.not_false, Bool.not_eq_eq_eq_not, Int.toNat_natCast, List.length_append, List.length_take, List.length_replicate, List.length_set, List.length_map, List.length_drop, List.length_nil, List.length_cons, markL_length, inB, InR, room, bdsOk] at hpre ⊢
  obtain ⟨h1, h2, h3, h4⟩ := hpre
  refine ⟨⟨0, ⟨by omega, by simp⟩, by simp, by simp⟩, fun i ⟨hi, hp⟩ => ⟨fun h => ⟨fun hn => ?_, fun hn => ?_⟩, fun h => ?_⟩⟩
  · have e : n ^ i * n = n ^ (i + 1) := (Int.pow_succ n i).symm
    have pos := pow_pos' h1 (i + 1)
    have le := Int.mul_le_mul hp h2 (by omega) (by omega)
    refine ⟨by omega, fun h5 => ?_, fun h5 => ⟨by omega, i + 1, ⟨by omega, by omega⟩, by omega, by omega, e⟩⟩
    have := pow_le h1 (show i + 1 ≤ k.toNat by omega)
    rw [if_neg (by omega)]
  · obtain rfl : n = 1 := by omega
    simp [pow_one']
  · rw [show i = k.toNat by omega] at hp ⊢
    rw [if_pos hp]
theorem l15Power_fits : Fits Try.prog 96 ⟨[], l15Power_ct⟩ := by
  refine fits_fn (Γ := gam l15Power_G) gok_nil Try.func96 (by kernel_rfl) (by kernel_rfl) (by kernel_rfl) fun ds p h hp => ?_
  unfold l15Power_ct at h
  split at h
  · cases h
    exact ⟨noWr, l15Power_ann _ _ , by rw [l15Power_vc]; exact l15Power_ok _ _  hp⟩
  · cases h

def l15Allowed_p (n : Int) (k : Int) : Post := ⟨1 ≤ n ∧ n ≤ 12, .c (.bool (degB n k)), []⟩
def l15Allowed_ct : List AD → Option Post
  | [.c (.int .i64 (n)), .c (.int .i64 (k))] => some (l15Allowed_p n k)
  | _ => none
def l15Allowed_G : List (Nat × Ctr) := [(65, ⟨[], l01In_ct⟩), (96, ⟨[], l15Power_ct⟩)]
def l15Allowed_V (n : Int) (k : Int) : Prop :=
  (((True) ∧
 (True)) ∧
 (BrP (Decidable.decide ((0 : Int) ≤ k ∧ k ≤ (1000 : Int)))
 (((((1 : Int) ≤ n) ∧
 ((n ≤ (12 : Int)) ∧
 (((0 : Int) ≤ k) ∧
 (k ≤ (1000 : Int))))) ∧
 (True)) ∧
 ((Decidable.decide ((if n ^ Int.toNat k ≤ (512 : Int) then n ^ Int.toNat k else (513 : Int)) ≤ (512 : Int)) = degB n k) ∧
 (True)))
 ((Bool.false = degB n k) ∧
 (True))))
theorem l15Allowed_vc (n : Int) (k : Int) : runF Try.prog (gam l15Allowed_G) noWr noAnn Try.f43 (bodyOf Try.f43) [] [.c (.int .i64 (n)), .c (.int .i64 (k))] (l15Allowed_p n k) = l15Allowed_V n k := by kernel_rfl
theorem l15Allowed_ok (n : Int) (k : Int) (hpre : (l15Allowed_p n k).pre) : l15Allowed_V n k := by
  simp only [l15Allowed_p, l15Allowed_V, BrP_iff, true_and, and_true, decide_eq_true_eq, decide_eq_false_iff_not, bne_iff_ne, beq_iff_eq, bne_eq_false_iff_eq, beq_eq_false_iff_ne, Bool.not_eq_true, Bool.not_eq_false, Bool.not_true, Bool.not_false, Bool.not_eq_eq_eq_not, Int.toNat_natCast, List.length_append, List.length_take, List.length_replicate, List.length_set, List.length_map, List.length_drop, List.length_nil, List.length_cons, markL_length, inB, InR, room, bdsOk] at hpre ⊢
  refine ⟨fun h => ⟨⟨hpre.1, hpre.2, h⟩, ?_⟩, fun h => by simp only [degB, decide_eq_false h, Bool.false_and]⟩
  simp only [degB, decide_eq_true h, Bool.true_and]
  apply decide_eq_decide.2
  split <;> omega
theorem l15Allowed_fits : Fits Try.prog 43 ⟨[], l15Allowed_ct⟩ := by
  refine fits_fn (Γ := gam l15Allowed_G) (gok_cons l01In_fits (gok_cons l15Power_fits gok_nil)) Try.func43 (by kernel_rfl) (by kernel_rfl) (by kernel_rfl) fun ds p h hp => ?_
  unfold l15Allowed_ct at h
  split at h
  · cases h
    exact ⟨noWr, noAnn, by rw [l15Allowed_vc]; exact l15Allowed_ok _ _  hp⟩
  · cases h

def l15Tuple_p (n : Int) (k : Int) (p : Int) : Post := ⟨1 ≤ n ∧ 0 ≤ k ∧ k ≤ 1000 ∧ 0 ≤ p ∧ p ≤ 1000000, .c (.ints 2 .i64 (digN n k.toNat p)), []⟩
def l15Tuple_ct : List AD → Option Post
  | [.c (.int .i64 (n)), .c (.int .i64 (k)), .c (.int .i64 (p))] => some (l15Tuple_p n k p)
  | _ => none
def l15Tuple_ann (n : Int) (k : Int) (p : Int) : Nat → Option Ann
  | 0 => some (Ann.mk ((Nat) × (Int) × (List Int)) (fun x => match x with | (j, q, s) => ⟨[(0, .c (.int .i64 (n))), (2, .c (.int .i64 (q))), (7, .c (.own (10))), (8, .c (.int .i64 ((j : Int) - 1)))], [(10, some (.ints 2 .i64 (List.replicate j 0 ++ s)))]⟩) (fun x => match x with | (j, q, s) => j ≤ k.toNat ∧ 0 ≤ q ∧ q ≤ 1000000 ∧ j + s.length = k.toNat ∧ digN n k.toNat p = digN n j q ++ s) (fun x => match x with | (j, q, s) => j) (fun _ => noAnn))
  | _ => none
def l15Tuple_G : List (Nat × Ctr) := []
def l15Tuple_V (n : Int) (k : Int) (p : Int) : Prop :=
  ((((0 : Int) ≤ k) ∧
 ((k ≤ k) ∧
 (room (Int.toNat k)))) ∧
 ((InR (k - (1 : Int))) ∧
 ((∃ x0 : Nat × Int × List Int, (((Prod.fst x0 ≤ Int.toNat k) ∧
 (((0 : Int) ≤ Prod.fst x0.2) ∧
 ((Prod.fst x0.2 ≤ (1000000 : Int)) ∧
 ((Prod.fst x0 + List.length (Prod.snd x0.2) = Int.toNat k) ∧
 (digN n (Int.toNat k) p = digN n (Prod.fst x0) (Prod.fst x0.2) ++ Prod.snd x0.2))))) ∧
 ((n = n) ∧
 ((p = x0.2.1) ∧
 ((k - (1 : Int) = (↑x0.1 : Int) - (1 : Int)) ∧
 (List.replicate (Int.toNat k) (0 : Int) = List.replicate x0.1 (0 : Int) ++ x0.2.2)))))) ∧
 (∀ x1 : Nat × Int × List Int, (((Prod.fst x1 ≤ Int.toNat k) ∧
 (((0 : Int) ≤ Prod.fst x1.2) ∧
 ((Prod.fst x1.2 ≤ (1000000 : Int)) ∧
 ((Prod.fst x1 + List.length (Prod.snd x1.2) = Int.toNat k) ∧
 (digN n (Int.toNat k) p = digN n (Prod.fst x1) (Prod.fst x1.2) ++ Prod.snd x1.2))))) →
 (BrP (Decidable.decide ((0 : Int) ≤ (↑x1.1 : Int) - (1 : Int)))
 ((n ≠ (0 : Int)) ∧
 ((inB ((↑x1.1 : Int) - (1 : Int)) (List.length (List.replicate x1.1 (0 : Int) ++ x1.2.2))) ∧
 (((n ≠ (0 : Int)) ∧
 (InR (Int.tdiv x1.2.1 n))) ∧
 ((InR ((↑x1.1 : Int) - (1 : Int) - (1 : Int))) ∧
 (∃ x2 : Nat × Int × List Int, (((Prod.fst x2 ≤ Int.toNat k) ∧
 (((0 : Int) ≤ Prod.fst x2.2) ∧
 ((Prod.fst x2.2 ≤ (1000000 : Int)) ∧
 ((Prod.fst x2 + List.length (Prod.snd x2.2) = Int.toNat k) ∧
 (digN n (Int.toNat k) p = digN n (Prod.fst x2) (Prod.fst x2.2) ++ Prod.snd x2.2))))) ∧
 ((Prod.fst x2 < Prod.fst x1) ∧
 ((n = n) ∧
 ((Int.tdiv x1.2.1 n = x2.2.1) ∧
 (((↑x1.1 : Int) - (1 : Int) - (1 : Int) = (↑x2.1 : Int) - (1 : Int)) ∧
 (List.set (List.replicate x1.1 (0 : Int) ++ x1.2.2) (Int.toNat ((↑x1.1 : Int) - (1 : Int))) (Int.tmod x1.2.1 n) = List.replicate x2.1 (0 : Int) ++ x2.2.2)))))))))))
 ((List.replicate x1.1 (0 : Int) ++ x1.2.2 = digN n (Int.toNat k) p) ∧
 (True))))))))
theorem l15Tuple_vc (n : Int) (k : Int) (p : Int) : runF Try.prog (gam l15Tuple_G) noWr (l15Tuple_ann n k p) Try.f45 (bodyOf Try.f45) [] [.c (.int .i64 (n)), .c (.int .i64 (k)), .c (.int .i64 (p))] (l15Tuple_p n k p) = l15Tuple_V n k p := by kernel_rfl
theorem l15Tuple_ok (n : Int) (k : Int) (p : Int) (hpre : (l15Tuple_p n k p).pre) : l15Tuple_V n k p := by
  simp only [l15Tuple_p, l15Tuple_V, BrP_iff, true_and, and_true, decide_eq_true_eq, decide_eq_false_iff_not, bne_iff_ne, beq_iff_eq, bne_eq_false_iff_eq, beq_eq_false_iff_ne, Bool.not_eq_true, Bool.not_eq_false, Bool.not_true, Bool.not_false, Bool.not_eq_eq_eq_not, Int.toNat_natCast, List.length_append, List.length_take, List.length_replicate, List.length_set, List.length_map, List.length_drop, List.length_nil, List.length_cons, markL_length, inB, InR, room, bdsOk] at hpre ⊢
  obtain ⟨h1, h2, h3, h4, h5⟩ := hpre
  refine ⟨by omega, by omega, ⟨(k.toNat, p, []), ⟨Nat.le_refl _, h4, h5, by simp, by simp⟩, rfl, by simp only []; omega, by simp⟩, ?_⟩
  rintro ⟨j, q, s⟩ ⟨g1, g2, g3, g4, g5⟩
  simp only [] at g1 g2 g3 g4 g5 ⊢
  refine ⟨fun h => ?_, fun h => ?_⟩
  · obtain ⟨j, rfl⟩ : ∃ i, j = i + 1 := ⟨j - 1, by omega⟩
    have e : q.tdiv n = q / n := Int.tdiv_eq_ediv_of_nonneg g2
    have d1 : 0 ≤ q / n := Int.ediv_nonneg g2 (by omega)
    have d2 : q / n ≤ q := Int.ediv_le_self n g2
    refine ⟨by omega, by omega, ⟨by omega, by omega⟩, by omega, (j, q.tdiv n, q.tmod n :: s), ⟨by simp only []; omega, by simp only []; omega, by simp only []; omega, by simp only [List.length_cons]; omega, ?_⟩, by simp only []; omega, rfl, by simp only []; omega, ?_⟩
    · rw [g5]; simp [digN]
    · rw [show ((j + 1 : Nat) : Int) - 1 = (j : Int) by omega, Int.toNat_natCast]
      exact rep_set j _ s
  · obtain rfl : j = 0 := by omega
    rw [g5]; simp [digN]
theorem l15Tuple_fits : Fits Try.prog 45 ⟨[], l15Tuple_ct⟩ := by
  refine fits_fn (Γ := gam l15Tuple_G) gok_nil Try.func45 (by kernel_rfl) (by kernel_rfl) (by kernel_rfl) fun ds p h hp => ?_
  unfold l15Tuple_ct at h
  split at h
  · cases h
    exact ⟨noWr, l15Tuple_ann _ _ _ , by rw [l15Tuple_vc]; exact l15Tuple_ok _ _ _  hp⟩
  · cases h

def isDegree_p (n : Int) (k : Int) : Post := ⟨1 ≤ n ∧ n ≤ 12, .c (.bool (degB n k)), []⟩
def isDegree_ct : List AD → Option Post
  | [.c (.int .i64 (n)), .c (.int .i64 (k))] => some (isDegree_p n k)
  | _ => none
def isDegree_ann (n : Int) (k : Int) : Nat → Option Ann
  | 0 => some (Ann.mk ((Nat)) (fun i => ⟨[(0, .c (.int .i64 (n))), (5, .c (.int .i64 (n ^ i))), (12, .c (.int .i64 (k))), (13, .c (.int .i64 ((i : Int))))], []⟩) (fun i => i ≤ k.toNat ∧ 0 ≤ k ∧ k ≤ 1000 ∧ n ^ i ≤ 512) (fun i => k.toNat - i) (fun _ => noAnn))
  | _ => none
def isDegree_G : List (Nat × Ctr) := []
def isDegree_V (n : Int) (k : Int) : Prop :=
  (BrP (Decidable.decide (k < (0 : Int)))
 ((Bool.false = degB n k) ∧
 (True))
 (BrP (Decidable.decide ((1000 : Int) < k))
 ((Bool.false = degB n k) ∧
 (True))
 ((∃ x0 : Nat, (((x0 ≤ Int.toNat k) ∧
 (((0 : Int) ≤ k) ∧
 ((k ≤ (1000 : Int)) ∧
 (n ^ x0 ≤ (512 : Int))))) ∧
 ((n = n) ∧
 (((1 : Int) = n ^ x0) ∧
 ((k = k) ∧
 ((0 : Int) = (↑x0 : Int))))))) ∧
 (∀ x1 : Nat, (((x1 ≤ Int.toNat k) ∧
 (((0 : Int) ≤ k) ∧
 ((k ≤ (1000 : Int)) ∧
 (n ^ x1 ≤ (512 : Int))))) →
 (BrP (Decidable.decide ((↑x1 : Int) < k))
 ((InR (n ^ x1 * n)) ∧
 (BrP (Decidable.decide ((512 : Int) < n ^ x1 * n))
 ((Bool.false = degB n k) ∧
 (True))
 ((InR ((↑x1 : Int) + (1 : Int))) ∧
 (∃ x2 : Nat, (((x2 ≤ Int.toNat k) ∧
 (((0 : Int) ≤ k) ∧
 ((k ≤ (1000 : Int)) ∧
 (n ^ x2 ≤ (512 : Int))))) ∧
 ((Int.toNat k - x2 < Int.toNat k - x1) ∧
 ((n = n) ∧
 ((n ^ x1 * n = n ^ x2) ∧
 ((k = k) ∧
 ((↑x1 : Int) + (1 : Int) = (↑x2 : Int)))))))))))
 ((Bool.true = degB n k) ∧
 (True))))))))
theorem isDegree_vc (n : Int) (k : Int) : runF Try.prog (gam isDegree_G) noWr (isDegree_ann n k) Try.f51 (bodyOf Try.f51) [] [.c (.int .i64 (n)), .c (.int .i64 (k))] (isDegree_p n k) = isDegree_V n k := by kernel_rfl
theorem isDegree_ok (n : Int) (k : Int) (hpre : (isDegree_p n k).pre) : isDegree_V n k := by
  simp only [isDegree_p, isDegree_V, BrP_iff, true_and, and_true, decide_eq_true_eq, decide_eq_false_iff_not, bne_iff_ne, beq_iff_eq, bne_eq_false_iff_eq, beq_eq_false_iff_ne, Bool.not_eq_true, Bool.not_eq_false, Bool.not_true, Bool.not_false, Bool.not_eq_eq_eq_not, Int.toNat_natCast, List.length_append, List.length_take, List.length_replicate, List.length_set, List.length_map, List.length_drop, List.length_nil, List.length_cons, markL_length, inB, InR, room, bdsOk] at hpre ⊢
  obtain ⟨h1, h2⟩ := hpre
  refine ⟨fun h => by simp only [degB]; rw [decide_eq_false (by omega)]; rfl, fun h => ⟨fun h3 => by simp only [degB]; rw [decide_eq_false (by omega)]; rfl, fun h3 => ?_⟩⟩
  refine ⟨⟨0, ⟨by omega, by omega, by omega, by simp⟩, by simp, rfl⟩, fun i ⟨hi, _, _, hp⟩ => ⟨fun h4 => ?_, fun h4 => ?_⟩⟩
  · have e : n ^ i * n = n ^ (i + 1) := (Int.pow_succ n i).symm
    have pos := pow_pos' h1 (i + 1)
    have le := Int.mul_le_mul hp h2 (by omega) (by omega)
    refine ⟨by omega, fun h5 => ?_, fun h5 => ⟨by omega, i + 1, ⟨by omega, by omega, by omega, by omega⟩, by omega, e, by omega⟩⟩
    have := pow_le h1 (show i + 1 ≤ k.toNat by omega)
    simp only [degB]
    rw [decide_eq_false (show ¬ n ^ k.toNat ≤ 512 by omega), Bool.and_false]
  · rw [show i = k.toNat by omega] at hp
    simp only [degB]
    rw [decide_eq_true hp, decide_eq_true (by omega)]; rfl
theorem isDegree_fits : Fits Try.prog 51 ⟨[], isDegree_ct⟩ := by
  refine fits_fn (Γ := gam isDegree_G) gok_nil Try.func51 (by kernel_rfl) (by kernel_rfl) (by kernel_rfl) fun ds p h hp => ?_
  unfold isDegree_ct at h
  split at h
  · cases h
    exact ⟨noWr, isDegree_ann _ _ , by rw [isDegree_vc]; exact isDegree_ok _ _  hp⟩
  · cases h

def tuplesOf_p (n : Int) (k : Int) : Post := ⟨1 ≤ n ∧ n ≤ 12 ∧ degB n k = true, .c (.int .i64 (n ^ k.toNat)), []⟩
def tuplesOf_ct : List AD → Option Post
  | [.c (.int .i64 (n)), .c (.int .i64 (k))] => some (tuplesOf_p n k)
  | _ => none
def tuplesOf_ann (n : Int) (k : Int) : Nat → Option Ann
  | 0 => some (Ann.mk ((Nat)) (fun i => ⟨[(0, .c (.int .i64 (n))), (5, .c (.int .i64 (n ^ i))), (6, .c (.int .i64 (k))), (7, .c (.int .i64 ((i : Int))))], []⟩) (fun i => i ≤ k.toNat) (fun i => k.toNat - i) (fun _ => noAnn))
  | _ => none
def tuplesOf_G : List (Nat × Ctr) := []
def tuplesOf_V (n : Int) (k : Int) : Prop :=
  ((∃ x0 : Nat, ((x0 ≤ Int.toNat k) ∧
 ((n = n) ∧
 (((1 : Int) = n ^ x0) ∧
 ((k = k) ∧
 ((0 : Int) = (↑x0 : Int))))))) ∧
 (∀ x1 : Nat, ((x1 ≤ Int.toNat k) →
 (BrP (Decidable.decide ((↑x1 : Int) < k))
 ((InR (n ^ x1 * n)) ∧
 ((InR ((↑x1 : Int) + (1 : Int))) ∧
 (∃ x2 : Nat, ((x2 ≤ Int.toNat k) ∧
 ((Int.toNat k - x2 < Int.toNat k - x1) ∧
 ((n = n) ∧
 ((n ^ x1 * n = n ^ x2) ∧
 ((k = k) ∧
 ((↑x1 : Int) + (1 : Int) = (↑x2 : Int))))))))))
 ((n ^ x1 = n ^ Int.toNat k) ∧
 (True))))))
theorem tuplesOf_vc (n : Int) (k : Int) : runF Try.prog (gam tuplesOf_G) noWr (tuplesOf_ann n k) Try.f90 (bodyOf Try.f90) [] [.c (.int .i64 (n)), .c (.int .i64 (k))] (tuplesOf_p n k) = tuplesOf_V n k := by kernel_rfl
theorem tuplesOf_ok (n : Int) (k : Int) (hpre : (tuplesOf_p n k).pre) : tuplesOf_V n k := by
  simp only [tuplesOf_p, tuplesOf_V, BrP_iff, true_and, and_true, decide_eq_true_eq, decide_eq_false_iff_not, bne_iff_ne, beq_iff_eq, bne_eq_false_iff_eq, beq_eq_false_iff_ne, Bool.not_eq_true, Bool.not_eq_false, Bool.not_true, Bool.not_false, Bool.not_eq_eq_eq_not, Int.toNat_natCast, List.length_append, List.length_take, List.length_replicate, List.length_set, List.length_map, List.length_drop, List.length_nil, List.length_cons, markL_length, inB, InR, room, bdsOk] at hpre ⊢
  obtain ⟨h1, h2, h3⟩ := hpre
  simp only [degB, Bool.and_eq_true, decide_eq_true_eq] at h3
  refine ⟨⟨0, by omega, by simp, rfl⟩, fun i hi => ⟨fun h4 => ?_, fun h4 => by rw [show i = k.toNat by omega]⟩⟩
  have e : n ^ i * n = n ^ (i + 1) := (Int.pow_succ n i).symm
  have pos := pow_pos' h1 (i + 1)
  have le := pow_le h1 (show i + 1 ≤ k.toNat by omega)
  exact ⟨by omega, by omega, i + 1, by omega, by omega, e, by omega⟩
theorem tuplesOf_fits : Fits Try.prog 90 ⟨[], tuplesOf_ct⟩ := by
  refine fits_fn (Γ := gam tuplesOf_G) gok_nil Try.func90 (by kernel_rfl) (by kernel_rfl) (by kernel_rfl) fun ds p h hp => ?_
  unfold tuplesOf_ct at h
  split at h
  · cases h
    exact ⟨noWr, tuplesOf_ann _ _ , by rw [tuplesOf_vc]; exact tuplesOf_ok _ _  hp⟩
  · cases h

def tupleOf_p (n : Int) (k : Int) (p : Int) : Post := ⟨1 ≤ n ∧ 0 ≤ k ∧ k ≤ 1000 ∧ 0 ≤ p ∧ p ≤ 1000000, .c (.ints 2 .i64 (digN n k.toNat p)), []⟩
def tupleOf_ct : List AD → Option Post
  | [.c (.int .i64 (n)), .c (.int .i64 (k)), .c (.int .i64 (p))] => some (tupleOf_p n k p)
  | _ => none
def tupleOf_ann (n : Int) (k : Int) (p : Int) : Nat → Option Ann
  | 0 => some (Ann.mk ((Nat) × (Int) × (List Int)) (fun x => match x with | (j, q, s) => ⟨[(0, .c (.int .i64 (n))), (2, .c (.int .i64 (q))), (7, .c (.own (10))), (8, .c (.int .i64 ((j : Int) - 1)))], [(10, some (.ints 2 .i64 (List.replicate j 0 ++ s)))]⟩) (fun x => match x with | (j, q, s) => j ≤ k.toNat ∧ 0 ≤ q ∧ q ≤ 1000000 ∧ j + s.length = k.toNat ∧ digN n k.toNat p = digN n j q ++ s) (fun x => match x with | (j, q, s) => j) (fun _ => noAnn))
  | _ => none
def tupleOf_G : List (Nat × Ctr) := []
def tupleOf_V (n : Int) (k : Int) (p : Int) : Prop :=
  ((((0 : Int) ≤ k) ∧
 ((k ≤ k) ∧
 (room (Int.toNat k)))) ∧
 ((InR (k - (1 : Int))) ∧
 ((∃ x0 : Nat × Int × List Int, (((Prod.fst x0 ≤ Int.toNat k) ∧
 (((0 : Int) ≤ Prod.fst x0.2) ∧
 ((Prod.fst x0.2 ≤ (1000000 : Int)) ∧
 ((Prod.fst x0 + List.length (Prod.snd x0.2) = Int.toNat k) ∧
 (digN n (Int.toNat k) p = digN n (Prod.fst x0) (Prod.fst x0.2) ++ Prod.snd x0.2))))) ∧
 ((n = n) ∧
 ((p = x0.2.1) ∧
 ((k - (1 : Int) = (↑x0.1 : Int) - (1 : Int)) ∧
 (List.replicate (Int.toNat k) (0 : Int) = List.replicate x0.1 (0 : Int) ++ x0.2.2)))))) ∧
 (∀ x1 : Nat × Int × List Int, (((Prod.fst x1 ≤ Int.toNat k) ∧
 (((0 : Int) ≤ Prod.fst x1.2) ∧
 ((Prod.fst x1.2 ≤ (1000000 : Int)) ∧
 ((Prod.fst x1 + List.length (Prod.snd x1.2) = Int.toNat k) ∧
 (digN n (Int.toNat k) p = digN n (Prod.fst x1) (Prod.fst x1.2) ++ Prod.snd x1.2))))) →
 (BrP (Decidable.decide ((0 : Int) ≤ (↑x1.1 : Int) - (1 : Int)))
 ((n ≠ (0 : Int)) ∧
 ((inB ((↑x1.1 : Int) - (1 : Int)) (List.length (List.replicate x1.1 (0 : Int) ++ x1.2.2))) ∧
 (((n ≠ (0 : Int)) ∧
 (InR (Int.tdiv x1.2.1 n))) ∧
 ((InR ((↑x1.1 : Int) - (1 : Int) - (1 : Int))) ∧
 (∃ x2 : Nat × Int × List Int, (((Prod.fst x2 ≤ Int.toNat k) ∧
 (((0 : Int) ≤ Prod.fst x2.2) ∧
 ((Prod.fst x2.2 ≤ (1000000 : Int)) ∧
 ((Prod.fst x2 + List.length (Prod.snd x2.2) = Int.toNat k) ∧
 (digN n (Int.toNat k) p = digN n (Prod.fst x2) (Prod.fst x2.2) ++ Prod.snd x2.2))))) ∧
 ((Prod.fst x2 < Prod.fst x1) ∧
 ((n = n) ∧
 ((Int.tdiv x1.2.1 n = x2.2.1) ∧
 (((↑x1.1 : Int) - (1 : Int) - (1 : Int) = (↑x2.1 : Int) - (1 : Int)) ∧
 (List.set (List.replicate x1.1 (0 : Int) ++ x1.2.2) (Int.toNat ((↑x1.1 : Int) - (1 : Int))) (Int.tmod x1.2.1 n) = List.replicate x2.1 (0 : Int) ++ x2.2.2)))))))))))
 ((List.replicate x1.1 (0 : Int) ++ x1.2.2 = digN n (Int.toNat k) p) ∧
 (True))))))))
theorem tupleOf_vc (n : Int) (k : Int) (p : Int) : runF Try.prog (gam tupleOf_G) noWr (tupleOf_ann n k p) Try.f91 (bodyOf Try.f91) [] [.c (.int .i64 (n)), .c (.int .i64 (k)), .c (.int .i64 (p))] (tupleOf_p n k p) = tupleOf_V n k p := by kernel_rfl
theorem tupleOf_ok (n : Int) (k : Int) (p : Int) (hpre : (tupleOf_p n k p).pre) : tupleOf_V n k p := by
  simp only [tupleOf_p, tupleOf_V, BrP_iff, true_and, and_true, decide_eq_true_eq, decide_eq_false_iff_not, bne_iff_ne, beq_iff_eq, bne_eq_false_iff_eq, beq_eq_false_iff_ne, Bool.not_eq_true, Bool.not_eq_false, Bool.not_true, Bool.not_false, Bool.not_eq_eq_eq_not, Int.toNat_natCast, List.length_append, List.length_take, List.length_replicate, List.length_set, List.length_map, List.length_drop, List.length_nil, List.length_cons, markL_length, inB, InR, room, bdsOk] at hpre ⊢
  obtain ⟨h1, h2, h3, h4, h5⟩ := hpre
  refine ⟨by omega, by omega, ⟨(k.toNat, p, []), ⟨Nat.le_refl _, h4, h5, by simp, by simp⟩, rfl, by simp only []; omega, by simp⟩, ?_⟩
  rintro ⟨j, q, s⟩ ⟨g1, g2, g3, g4, g5⟩
  simp only [] at g1 g2 g3 g4 g5 ⊢
  refine ⟨fun h => ?_, fun h => ?_⟩
  · obtain ⟨j, rfl⟩ : ∃ i, j = i + 1 := ⟨j - 1, by omega⟩
    have e : q.tdiv n = q / n := Int.tdiv_eq_ediv_of_nonneg g2
    have d1 : 0 ≤ q / n := Int.ediv_nonneg g2 (by omega)
    have d2 : q / n ≤ q := Int.ediv_le_self n g2
    refine ⟨by omega, by omega, ⟨by omega, by omega⟩, by omega, (j, q.tdiv n, q.tmod n :: s), ⟨by simp only []; omega, by simp only []; omega, by simp only []; omega, by simp only [List.length_cons]; omega, ?_⟩, by simp only []; omega, rfl, by simp only []; omega, ?_⟩
    · rw [g5]; simp [digN]
    · rw [show ((j + 1 : Nat) : Int) - 1 = (j : Int) by omega, Int.toNat_natCast]
      exact rep_set j _ s
  · obtain rfl : j = 0 := by omega
    rw [g5]; simp [digN]
theorem tupleOf_fits : Fits Try.prog 91 ⟨[], tupleOf_ct⟩ := by
  refine fits_fn (Γ := gam tupleOf_G) gok_nil Try.func91 (by kernel_rfl) (by kernel_rfl) (by kernel_rfl) fun ds p h hp => ?_
  unfold tupleOf_ct at h
  split at h
  · cases h
    exact ⟨noWr, tupleOf_ann _ _ _ , by rw [tupleOf_vc]; exact tupleOf_ok _ _ _  hp⟩
  · cases h

def iTupleAt_p (n : Int) (k : Int) (p : Int) : Post := ⟨True, .tup [.inl (.ints 2 .i64 ((tupC n k p).1)), .inl (.int .i64 ((tupC n k p).2))], []⟩
def iTupleAt_ct : List AD → Option Post
  | [.c (.int .i64 (n)), .c (.int .i64 (k)), .c (.int .i64 (p))] => some (iTupleAt_p n k p)
  | _ => none
def iTupleAt_G : List (Nat × Ctr) := [(61, ⟨[], within_ct⟩), (51, ⟨[], isDegree_ct⟩), (90, ⟨[], tuplesOf_ct⟩), (91, ⟨[], tupleOf_ct⟩)]
def iTupleAt_V (n : Int) (k : Int) (p : Int) : Prop :=
  (((True) ∧
 (True)) ∧
 (BrP (!Decidable.decide ((1 : Int) ≤ n ∧ n ≤ (12 : Int)))
 ((([] = Prod.fst (tupC n k p)) ∧
 (((2 : Int) = Prod.snd (tupC n k p)) ∧
 (True))) ∧
 (True))
 (((((1 : Int) ≤ n) ∧
 (n ≤ (12 : Int))) ∧
 (True)) ∧
 (BrP (!degB n k)
 ((([] = Prod.fst (tupC n k p)) ∧
 (((2 : Int) = Prod.snd (tupC n k p)) ∧
 (True))) ∧
 (True))
 (((((1 : Int) ≤ n) ∧
 ((n ≤ (12 : Int)) ∧
 (degB n k = Bool.true))) ∧
 (True)) ∧
 ((InR (n ^ Int.toNat k - (1 : Int))) ∧
 (((True) ∧
 (True)) ∧
 (BrP (!Decidable.decide ((0 : Int) ≤ p ∧ p ≤ n ^ Int.toNat k - (1 : Int)))
 ((([] = Prod.fst (tupC n k p)) ∧
 (((2 : Int) = Prod.snd (tupC n k p)) ∧
 (True))) ∧
 (True))
 (((((1 : Int) ≤ n) ∧
 (((0 : Int) ≤ k) ∧
 ((k ≤ (1000 : Int)) ∧
 (((0 : Int) ≤ p) ∧
 (p ≤ (1000000 : Int)))))) ∧
 (True)) ∧
 (((digN n (Int.toNat k) p = Prod.fst (tupC n k p)) ∧
 (((0 : Int) = Prod.snd (tupC n k p)) ∧
 (True))) ∧
 (True)))))))))))
theorem iTupleAt_vc (n : Int) (k : Int) (p : Int) : runF Try.prog (gam iTupleAt_G) noWr noAnn Try.f39 (bodyOf Try.f39) [] [.c (.int .i64 (n)), .c (.int .i64 (k)), .c (.int .i64 (p))] (iTupleAt_p n k p) = iTupleAt_V n k p := by kernel_rfl
theorem iTupleAt_ok (n : Int) (k : Int) (p : Int) (hpre : (iTupleAt_p n k p).pre) : iTupleAt_V n k p := by
  simp only [iTupleAt_p, iTupleAt_V, BrP_iff, true_and, and_true, decide_eq_true_eq, decide_eq_false_iff_not, bne_iff_ne, beq_iff_eq, bne_eq_false_iff_eq, beq_eq_false_iff_ne, Bool.not_eq_true, Bool.not_eq_false, Bool.not_true, Bool.not_false, Bool.not_eq_eq_eq_not, Int.toNat_natCast, List.length_append, List.length_take, List.length_replicate, List.length_set, List.length_map, List.length_drop, List.length_nil, List.length_cons, markL_length, inB, InR, room, bdsOk] at hpre ⊢
  refine ⟨fun h => tupC_no (by simp only [tupOk, decide_eq_false h, Bool.false_and]), fun h => ⟨h, fun h3 => tupC_no (by simp only [tupOk, h3, Bool.false_and, Bool.and_false]), fun h3 => ?_⟩⟩
  have h4 := h3
  simp only [degB, Bool.and_eq_true, decide_eq_true_eq] at h4
  have pos := pow_pos' h.1 k.toNat
  refine ⟨⟨h.1, h.2, h3⟩, by omega, fun h5 => tupC_no (by simp only [tupOk, decide_eq_false h5, Bool.and_false]), fun h5 => ⟨⟨h.1, by omega, by omega, by omega, by omega⟩, tupC_yes ?_⟩⟩
  simp only [tupOk, h3, decide_eq_true h, decide_eq_true h5, Bool.and_true]
theorem iTupleAt_fits : Fits Try.prog 39 ⟨[], iTupleAt_ct⟩ := by
  refine fits_fn (Γ := gam iTupleAt_G) (gok_cons within_fits (gok_cons isDegree_fits (gok_cons tuplesOf_fits (gok_cons tupleOf_fits gok_nil)))) Try.func39 (by kernel_rfl) (by kernel_rfl) (by kernel_rfl) fun ds p h hp => ?_
  unfold iTupleAt_ct at h
  split at h
  · cases h
    exact ⟨noWr, noAnn, by rw [iTupleAt_vc]; exact iTupleAt_ok _ _ _  hp⟩
  · cases h

end Go.Sx
