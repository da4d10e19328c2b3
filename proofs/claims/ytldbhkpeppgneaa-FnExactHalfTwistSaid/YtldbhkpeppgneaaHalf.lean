/- Contracts on the way of HalfTwist: strands 2 to 6, so all is reckoned. -/
import Derived.Test.YtldbhkpeppgneaaPerm
import Derived.Test.YtldbhkpeppgneaaInv
open Go Go.Proofs
namespace Go.Sx
set_option linter.unusedSimpArgs false
set_option linter.unusedVariables false

/-- The first place where the numbers do not rise. -/
def descF : List Int → Nat
  | x :: y :: r => if x < y then descF (y :: r) + 1 else 0
  | _ => 0

def htStep (q : List Int × List Int) : List Int × List Int := (swapAt q.1 (descF q.1), q.2 ++ [(descF q.1 : Int) + 1])

def htN (n : Nat) : Nat → List Int × List Int
  | 0 => ((unitL n).reverse, [])
  | t + 1 => htStep (htN n t)

def htT (n : Nat) : Nat := n * (n - 1) / 2

/-- What every step needs. -/
def htOk (n t : Nat) : Bool :=
  let p := (htN n t).1
  decide (p.length = n) && decide ((htN n t).2.length = t) && (if t < htT n then !(incB p) && decide (descF p + 1 < n) && (List.range (descF p)).all (fun k => decide (p.getD k 0 < p.getD (k + 1) 0)) && decide (¬ p.getD (descF p) 0 < p.getD (descF p + 1) 0) else incB p)

theorem htAll : ∀ n : Nat, 2 ≤ n → n ≤ 6 → ∀ t : Nat, t ≤ htT n → htOk n t = true := by
  have h2 : (List.range (htT 2 + 1)).all (htOk 2) = true := by decide +kernel
  have h3 : (List.range (htT 3 + 1)).all (htOk 3) = true := by decide +kernel
  have h4 : (List.range (htT 4 + 1)).all (htOk 4) = true := by decide +kernel
  have h5 : (List.range (htT 5 + 1)).all (htOk 5) = true := by decide +kernel
  have h6 : (List.range (htT 6 + 1)).all (htOk 6) = true := by decide +kernel
  intro n l1 l2 t ht
  have : n = 2 ∨ n = 3 ∨ n = 4 ∨ n = 5 ∨ n = 6 := by omega
  rcases this with rfl | rfl | rfl | rfl | rfl
  · exact List.all_eq_true.1 h2 t (List.mem_range.2 (by omega))
  · exact List.all_eq_true.1 h3 t (List.mem_range.2 (by omega))
  · exact List.all_eq_true.1 h4 t (List.mem_range.2 (by omega))
  · exact List.all_eq_true.1 h5 t (List.mem_range.2 (by omega))
  · exact List.all_eq_true.1 h6 t (List.mem_range.2 (by omega))

theorem ht_more {n t : Nat} (h1 : 2 ≤ n) (h2 : n ≤ 6) (ht : t < htT n) : (htN n t).1.length = n ∧ (htN n t).2.length = t ∧ incB (htN n t).1 = false ∧ descF (htN n t).1 + 1 < n ∧
    (∀ k, k < descF (htN n t).1 → (htN n t).1.getD k 0 < (htN n t).1.getD (k + 1) 0) ∧ ¬ (htN n t).1.getD (descF (htN n t).1) 0 < (htN n t).1.getD (descF (htN n t).1 + 1) 0 := by
  have := htAll n h1 h2 t (by omega)
  simp only [htOk, if_pos ht, Bool.and_eq_true, decide_eq_true_eq, Bool.not_eq_true', List.all_eq_true, List.mem_range] at this
  obtain ⟨⟨a, b⟩, ⟨⟨c, d⟩, e⟩, f⟩ := this
  exact ⟨a, b, c, d, e, f⟩

theorem ht_last {n : Nat} (h1 : 2 ≤ n) (h2 : n ≤ 6) : (htN n (htT n)).1.length = n ∧ (htN n (htT n)).2.length = htT n ∧ incB (htN n (htT n)).1 = true := by
  have := htAll n h1 h2 (htT n) (by omega)
  simp only [htOk, if_neg (Nat.lt_irrefl _), Bool.and_eq_true, decide_eq_true_eq] at this
  exact ⟨this.1.1, this.1.2, this.2⟩

/-- k, k - 1, .. 1. -/
def downL : Nat → List Int
  | 0 => []
  | k + 1 => ((k : Int) + 1) :: downL k

/-- The first i - 1 limbs of the word. -/
def htW : Nat → List Int
  | 0 => []
  | i + 1 => htW i ++ downL (i + 1)

theorem ht_same : ∀ n : Nat, 2 ≤ n → n ≤ 6 → htW (n - 1) = (htN n (htT n)).2 := by
  have h : (List.range 5).all (fun i => decide (htW (i + 1) = (htN (i + 2) (htT (i + 2))).2)) = true := by decide +kernel
  intro n l1 l2
  have := List.all_eq_true.1 h (n - 2) (List.mem_range.2 (by omega))
  rw [decide_eq_true_eq, show n - 2 + 1 = n - 1 by omega, show n - 2 + 2 = n by omega] at this
  exact this

def htC (s : Int) : (Int × List Int) × Int := if 2 ≤ s ∧ s ≤ 6 then ((s, htW (s.toNat - 1)), 0) else ((0, []), 2)

theorem downL_length : ∀ k, (downL k).length = k
  | 0 => rfl
  | k + 1 => by simp [downL, downL_length k]

theorem htW_length : ∀ i : Nat, (htW i).length ≤ i * (i + 1)
  | 0 => by simp [htW]
  | i + 1 => by
    have := htW_length i
    simp only [htW, List.length_append, downL_length]
    have : i * (i + 1) + (i + 1) ≤ (i + 1) * (i + 1 + 1) := by
      rw [Nat.mul_comm (i + 1) (i + 1 + 1), Nat.add_mul, Nat.add_mul]
      have := Nat.mul_comm i (i + 1)
      omega
    omega

theorem htC_len (s : Int) : (htC s).1.2.length ≤ 30 := by
  unfold htC
  split
  · rename_i h
    have := ht_same s.toNat (by omega) (by omega)
    have h2 := ht_last (n := s.toNat) (by omega) (by omega)
    simp only [this, h2.2.1]
    have : s.toNat = 2 ∨ s.toNat = 3 ∨ s.toNat = 4 ∨ s.toNat = 5 ∨ s.toNat = 6 := by omega
    rcases this with e | e | e | e | e <;> simp [htT, e]
  · simp

def sHalfTwist_p (s : Int) : Post := ⟨True, .tup [.inr [.int .i64 ((htC s).1.1), .ints 2 .i64 ((htC s).1.2)], .inl (.int .i64 ((htC s).2))], []⟩
def sHalfTwist_ct : List AD → Option Post
  | [.c (.int .i64 (s))] => some (sHalfTwist_p s)
  | _ => none
def sHalfTwist_ann (s : Int) : Nat → Option Ann
  | 0 => some (Ann.mk ((Nat)) (fun i => ⟨[(0, .c (.int .i64 (s))), (2, .c (.ptr 2 0)), (4, .c (.ptr 4 0)), (5, .c (.int .i64 ((i : Int) + 1)))], [(2, some (.box [.int .i64 (0), .nil])), (4, some (.box [.int .i64 (s), .own (10)])), (10, some (.ints 2 .i64 (htW i)))]⟩) (fun i => 2 ≤ s ∧ s ≤ 6 ∧ (i : Int) ≤ s - 1) (fun i => s.toNat - i) (fun i => fun n => match n with | 2 => some (Ann.mk ((Nat) × (List Int)) (fun x => match x with | (k, l) => ⟨[(0, .c (.int .i64 (s))), (2, .c (.ptr 2 0)), (4, .c (.ptr 4 0)), (5, .c (.int .i64 ((i : Int) + 1))), (6, .c (.int .i64 ((k : Int))))], [(2, some (.box [.int .i64 (0), .nil])), (4, some (.box [.int .i64 (s), .own (10)])), (10, some (.ints 2 .i64 (l)))]⟩) (fun x => match x with | (k, l) => 2 ≤ s ∧ s ≤ 6 ∧ (i : Int) < s - 1 ∧ k ≤ i + 1 ∧ l ++ downL k = htW (i + 1)) (fun x => match x with | (k, l) => k) (fun _ => noAnn)) | _ => none))
  | _ => none
def sHalfTwist_G : List (Nat × Ctr) := [(61, ⟨[], l01In_ct⟩)]
def sHalfTwist_V (s : Int) : Prop :=
  (((True) ∧
  (True)) ∧
  (BrP (!Decidable.decide ((2 : Int) ≤ s ∧ s ≤ (6 : Int)))
    (((((0 : Int) = Prod.fst (Prod.fst (Go.Sx.htC s))) ∧
    (([] = Prod.snd (Prod.fst (Go.Sx.htC s))) ∧
    (True))) ∧
    (((2 : Int) = Prod.snd (Go.Sx.htC s)) ∧
    (True))) ∧
    (True))
    ((∃ x0 : Nat, ((((2 : Int) ≤ s) ∧
    ((s ≤ (6 : Int)) ∧
    ((↑x0 : Int) ≤ s - (1 : Int)))) ∧
    ((s = s) ∧
    (((1 : Int) = (↑x0 : Int) + (1 : Int)) ∧
    (((0 : Int) = (0 : Int)) ∧
    ((s = s) ∧
    (Go.Sx.htW x0 = []))))))) ∧
    (∀ x1 : Nat, ((((2 : Int) ≤ s) ∧
    ((s ≤ (6 : Int)) ∧
    ((↑x1 : Int) ≤ s - (1 : Int)))) →
    (BrP (Decidable.decide ((↑x1 : Int) + (1 : Int) < s))
      ((∃ x2 : Nat × List Int, ((((2 : Int) ≤ s) ∧
      ((s ≤ (6 : Int)) ∧
      (((↑x1 : Int) < s - (1 : Int)) ∧
      ((Prod.fst x2 ≤ x1 + (1 : Nat)) ∧
      (Prod.snd x2 ++ Go.Sx.downL (Prod.fst x2) = Go.Sx.htW (x1 + (1 : Nat))))))) ∧
      ((s = s) ∧
      (((↑x1 : Int) + (1 : Int) = (↑x1 : Int) + (1 : Int)) ∧
      (((↑x1 : Int) + (1 : Int) = (↑x2.1 : Int)) ∧
      (((0 : Int) = (0 : Int)) ∧
      ((s = s) ∧
      (Go.Sx.htW x1 = x2.2)))))))) ∧
      (∀ x3 : Nat × List Int, ((((2 : Int) ≤ s) ∧
      ((s ≤ (6 : Int)) ∧
      (((↑x1 : Int) < s - (1 : Int)) ∧
      ((Prod.fst x3 ≤ x1 + (1 : Nat)) ∧
      (Prod.snd x3 ++ Go.Sx.downL (Prod.fst x3) = Go.Sx.htW (x1 + (1 : Nat))))))) →
      (BrP (Decidable.decide ((1 : Int) ≤ (↑x3.1 : Int)))
        ((Go.Sx.room (List.length x3.2 + List.length [(↑x3.1 : Int)])) ∧
        ((Go.Sx.InR ((↑x3.1 : Int) - (1 : Int))) ∧
        (∃ x4 : Nat × List Int, ((((2 : Int) ≤ s) ∧
        ((s ≤ (6 : Int)) ∧
        (((↑x1 : Int) < s - (1 : Int)) ∧
        ((Prod.fst x4 ≤ x1 + (1 : Nat)) ∧
        (Prod.snd x4 ++ Go.Sx.downL (Prod.fst x4) = Go.Sx.htW (x1 + (1 : Nat))))))) ∧
        ((Prod.fst x4 < Prod.fst x3) ∧
        ((s = s) ∧
        (((↑x1 : Int) + (1 : Int) = (↑x1 : Int) + (1 : Int)) ∧
        (((↑x3.1 : Int) - (1 : Int) = (↑x4.1 : Int)) ∧
        (((0 : Int) = (0 : Int)) ∧
        ((s = s) ∧
        (x3.2 ++ [(↑x3.1 : Int)] = x4.2)))))))))))
        ((Go.Sx.InR ((↑x1 : Int) + (1 : Int) + (1 : Int))) ∧
        (∃ x5 : Nat, ((((2 : Int) ≤ s) ∧
        ((s ≤ (6 : Int)) ∧
        ((↑x5 : Int) ≤ s - (1 : Int)))) ∧
        ((Int.toNat s - x5 < Int.toNat s - x1) ∧
        ((s = s) ∧
        (((↑x1 : Int) + (1 : Int) + (1 : Int) = (↑x5 : Int) + (1 : Int)) ∧
        (((0 : Int) = (0 : Int)) ∧
        ((s = s) ∧
        (x3.2 = Go.Sx.htW x5)))))))))))))
      ((((s = Prod.fst (Prod.fst (Go.Sx.htC s))) ∧
      ((Go.Sx.htW x1 = Prod.snd (Prod.fst (Go.Sx.htC s))) ∧
      (True))) ∧
      (((0 : Int) = Prod.snd (Go.Sx.htC s)) ∧
      (True))) ∧
      (True))))))))
theorem sHalfTwist_vc (s : Int) : runF Try.prog (gam sHalfTwist_G) noWr (sHalfTwist_ann s) Try.f33 (bodyOf Try.f33) [] [.c (.int .i64 (s))] (sHalfTwist_p s) = sHalfTwist_V s := by kernel_rfl
theorem sHalfTwist_ok (s : Int) (hpre : (sHalfTwist_p s).pre) : sHalfTwist_V s := by
  simp only [sHalfTwist_p, sHalfTwist_V, BrP_iff, true_and, and_true, decide_eq_true_eq, decide_eq_false_iff_not, bne_iff_ne, beq_iff_eq, bne_eq_false_iff_eq, beq_eq_false_iff_ne, Bool.not_eq_true, Bool.not_eq_false, Bool.not_true, Bool.not_false, Bool.not_eq_eq_eq_not, Int.toNat_natCast, List.length_append, List.length_take, List.length_replicate, List.length_set, List.length_map, List.length_drop, List.length_nil, List.length_cons, markL_length, inB, InR, room, bdsOk] at hpre ⊢
  refine ⟨fun h => by simp [htC, h], fun hs => ⟨⟨0, ⟨hs.1, hs.2, by omega⟩, rfl, rfl⟩, fun i ⟨_, _, hi⟩ => ⟨fun h => ⟨⟨(i + 1, htW i), ⟨hs.1, hs.2, by omega, by simp only []; omega, rfl⟩, by simp only []; omega, rfl⟩, ?_⟩, fun h => ?_⟩⟩⟩
  · rintro ⟨k, l⟩ ⟨_, _, g1, g2, g3⟩
    simp only [] at g1 g2 g3 ⊢
    have hlen := congrArg List.length g3
    have hlw := htW_length (i + 1)
    have : (i + 1) * (i + 1 + 1) ≤ 6 * 7 := Nat.mul_le_mul (by omega) (by omega)
    rw [List.length_append, downL_length] at hlen
    refine ⟨fun h1 => ⟨by omega, by omega, (k - 1, l ++ [(k : Int)]), ⟨hs.1, hs.2, by omega, by simp only []; omega, ?_⟩, by simp only []; omega, by simp only []; omega, rfl⟩, fun h1 => ⟨by omega, i + 1, ⟨hs.1, hs.2, by omega⟩, by omega, by omega, ?_⟩⟩
    · obtain ⟨k, rfl⟩ : ∃ j, k = j + 1 := ⟨k - 1, by omega⟩
      rw [← g3]; simp [downL]
    · obtain rfl : k = 0 := by omega
      rw [← g3]; simp [downL]
  · rw [show i = s.toNat - 1 by omega]; simp [htC, hs]
theorem sHalfTwist_fits : Fits Try.prog 33 ⟨[], sHalfTwist_ct⟩ := by
  refine fits_fn (Γ := gam sHalfTwist_G) (gok_cons l01In_fits gok_nil) Try.func33 (by kernel_rfl) (by kernel_rfl) (by kernel_rfl) fun ds p h hp => ?_
  unfold sHalfTwist_ct at h
  split at h
  · cases h
    exact ⟨noWr, sHalfTwist_ann _ , by rw [sHalfTwist_vc]; exact sHalfTwist_ok _  hp⟩
  · cases h

def halfTwist_p (n : Int) : Post := ⟨0 ≤ n ∧ n ≤ 1099511627776, .c (.ints 2 .i64 ((unitL n.toNat).reverse)), []⟩
def halfTwist_ct : List AD → Option Post
  | [.c (.int .i64 (n))] => some (halfTwist_p n)
  | _ => none
def halfTwist_G : List (Nat × Ctr) := [(103, ⟨[], identity_ct⟩), (87, ⟨[(0, 0)], Reverse_ct⟩)]
def halfTwist_V (n : Int) : Prop :=
  (((((0 : Int) ≤ n) ∧
  (n ≤ (1099511627776 : Int))) ∧
  (True)) ∧
  (((Go.Sx.room (List.length (Go.Sx.unitL (Int.toNat n)))) ∧
  ((List.length (List.reverse (Go.Sx.unitL (Int.toNat n))) = List.length (Go.Sx.unitL (Int.toNat n))) ∧
  (True))) ∧
  ((List.reverse (Go.Sx.unitL (Int.toNat n)) = List.reverse (Go.Sx.unitL (Int.toNat n))) ∧
  (True))))
theorem halfTwist_vc (n : Int) : runF Try.prog (gam halfTwist_G) noWr noAnn Try.f80 (bodyOf Try.f80) [] [.c (.int .i64 (n))] (halfTwist_p n) = halfTwist_V n := by kernel_rfl
theorem halfTwist_ok (n : Int) (hpre : (halfTwist_p n).pre) : halfTwist_V n := by
  simp only [halfTwist_p, halfTwist_V, BrP_iff, true_and, and_true, decide_eq_true_eq, decide_eq_false_iff_not, bne_iff_ne, beq_iff_eq, bne_eq_false_iff_eq, beq_eq_false_iff_ne, Bool.not_eq_true, Bool.not_eq_false, Bool.not_true, Bool.not_false, Bool.not_eq_eq_eq_not, Int.toNat_natCast, List.length_append, List.length_take, List.length_replicate, List.length_set, List.length_map, List.length_drop, List.length_nil, List.length_cons, markL_length, inB, InR, room, bdsOk] at hpre ⊢
  have : (unitL n.toNat).length = n.toNat := by simp [unitL, tab_length]
  exact ⟨hpre, by omega, by simp⟩
theorem halfTwist_fits : Fits Try.prog 80 ⟨[], halfTwist_ct⟩ := by
  refine fits_fn (Γ := gam halfTwist_G) (gok_cons identity_fits (gok_cons Reverse_fits gok_nil)) Try.func80 (by kernel_rfl) (by kernel_rfl) (by kernel_rfl) fun ds p h hp => ?_
  unfold halfTwist_ct at h
  split at h
  · cases h
    exact ⟨noWr, noAnn, by rw [halfTwist_vc]; exact halfTwist_ok _  hp⟩
  · cases h

def iHalfTwist_p (s : Int) : Post := ⟨True, .tup [.inr [.int .i64 ((htC s).1.1), .ints 2 .i64 ((htC s).1.2)], .inl (.int .i64 ((htC s).2))], []⟩
def iHalfTwist_ct : List AD → Option Post
  | [.c (.int .i64 (s))] => some (iHalfTwist_p s)
  | _ => none
def iHalfTwist_ann (s : Int) : Nat → Option Ann
  | 0 => some (Ann.mk ((Nat)) (fun t => ⟨[(2, .c (.ptr 2 0)), (4, .c (.ptr 4 0)), (5, .c (.own (11)))], [(2, some (.box [.int .i64 (0), .nil])), (4, some (.box [.int .i64 (s), .own (10)])), (10, some (.ints 2 .i64 ((htN s.toNat t).2))), (11, some (.ints 2 .i64 ((htN s.toNat t).1)))]⟩) (fun t => 2 ≤ s ∧ s ≤ 6 ∧ t ≤ htT s.toNat) (fun t => htT s.toNat - t) (fun t => fun n => match n with | 2 => some (Ann.mk ((Nat)) (fun k => ⟨[(2, .c (.ptr 2 0)), (4, .c (.ptr 4 0)), (5, .c (.own (11))), (6, .c (.int .i64 ((k : Int))))], [(2, some (.box [.int .i64 (0), .nil])), (4, some (.box [.int .i64 (s), .own (10)])), (10, some (.ints 2 .i64 ((htN s.toNat t).2))), (11, some (.ints 2 .i64 ((htN s.toNat t).1)))]⟩) (fun k => 2 ≤ s ∧ s ≤ 6 ∧ t < htT s.toNat ∧ k ≤ descF (htN s.toNat t).1) (fun k => descF (htN s.toNat t).1 - k) (fun _ => noAnn)) | _ => none))
  | _ => none
def iHalfTwist_G : List (Nat × Ctr) := [(68, ⟨[], within_ct⟩), (80, ⟨[], halfTwist_ct⟩), (81, ⟨[], isIdentity_ct⟩)]
def iHalfTwist_V (s : Int) : Prop :=
  (((True) ∧
  (True)) ∧
  (BrP (!Decidable.decide ((2 : Int) ≤ s ∧ s ≤ (6 : Int)))
    (((((0 : Int) = Prod.fst (Prod.fst (Go.Sx.htC s))) ∧
    (([] = Prod.snd (Prod.fst (Go.Sx.htC s))) ∧
    (True))) ∧
    (((2 : Int) = Prod.snd (Go.Sx.htC s)) ∧
    (True))) ∧
    (True))
    (((((0 : Int) ≤ s) ∧
    (s ≤ (1099511627776 : Int))) ∧
    (True)) ∧
    ((∃ x0 : Nat, ((((2 : Int) ≤ s) ∧
    ((s ≤ (6 : Int)) ∧
    (x0 ≤ Go.Sx.htT (Int.toNat s)))) ∧
    (((0 : Int) = (0 : Int)) ∧
    ((s = s) ∧
    ((Prod.snd (Go.Sx.htN (Int.toNat s) x0) = []) ∧
    (List.reverse (Go.Sx.unitL (Int.toNat s)) = Prod.fst (Go.Sx.htN (Int.toNat s) x0))))))) ∧
    (∀ x1 : Nat, ((((2 : Int) ≤ s) ∧
    ((s ≤ (6 : Int)) ∧
    (x1 ≤ Go.Sx.htT (Int.toNat s)))) →
    (((Go.Sx.room (List.length (Prod.fst (Go.Sx.htN (Int.toNat s) x1)))) ∧
    (True)) ∧
    (BrP (!Go.Sx.incB (Prod.fst (Go.Sx.htN (Int.toNat s) x1)))
      ((∃ x2 : Nat, ((((2 : Int) ≤ s) ∧
      ((s ≤ (6 : Int)) ∧
      ((x1 < Go.Sx.htT (Int.toNat s)) ∧
      (x2 ≤ Go.Sx.descF (Prod.fst (Go.Sx.htN (Int.toNat s) x1)))))) ∧
      (((0 : Int) = (↑x2 : Int)) ∧
      (((0 : Int) = (0 : Int)) ∧
      ((s = s) ∧
      ((Prod.snd (Go.Sx.htN (Int.toNat s) x1) = Prod.snd (Go.Sx.htN (Int.toNat s) x1)) ∧
      (Prod.fst (Go.Sx.htN (Int.toNat s) x1) = Prod.fst (Go.Sx.htN (Int.toNat s) x1)))))))) ∧
      (∀ x3 : Nat, ((((2 : Int) ≤ s) ∧
      ((s ≤ (6 : Int)) ∧
      ((x1 < Go.Sx.htT (Int.toNat s)) ∧
      (x3 ≤ Go.Sx.descF (Prod.fst (Go.Sx.htN (Int.toNat s) x1)))))) →
      ((Go.Sx.inB (↑x3 : Int) (List.length (Prod.fst (Go.Sx.htN (Int.toNat s) x1)))) ∧
      ((Go.Sx.InR ((↑x3 : Int) + (1 : Int))) ∧
      ((Go.Sx.inB ((↑x3 : Int) + (1 : Int)) (List.length (Prod.fst (Go.Sx.htN (Int.toNat s) x1)))) ∧
      (BrP (Decidable.decide (List.getD (Prod.fst (Go.Sx.htN (Int.toNat s) x1)) (Int.toNat (↑x3 : Int)) (0 : Int) < List.getD (Prod.fst (Go.Sx.htN (Int.toNat s) x1)) (Int.toNat ((↑x3 : Int) + (1 : Int))) (0 : Int)))
        ((Go.Sx.InR ((↑x3 : Int) + (1 : Int))) ∧
        (∃ x4 : Nat, ((((2 : Int) ≤ s) ∧
        ((s ≤ (6 : Int)) ∧
        ((x1 < Go.Sx.htT (Int.toNat s)) ∧
        (x4 ≤ Go.Sx.descF (Prod.fst (Go.Sx.htN (Int.toNat s) x1)))))) ∧
        ((Go.Sx.descF (Prod.fst (Go.Sx.htN (Int.toNat s) x1)) - x4 < Go.Sx.descF (Prod.fst (Go.Sx.htN (Int.toNat s) x1)) - x3) ∧
        (((↑x3 : Int) + (1 : Int) = (↑x4 : Int)) ∧
        (((0 : Int) = (0 : Int)) ∧
        ((s = s) ∧
        ((Prod.snd (Go.Sx.htN (Int.toNat s) x1) = Prod.snd (Go.Sx.htN (Int.toNat s) x1)) ∧
        (Prod.fst (Go.Sx.htN (Int.toNat s) x1) = Prod.fst (Go.Sx.htN (Int.toNat s) x1))))))))))
        ((Go.Sx.InR ((↑x3 : Int) + (1 : Int))) ∧
        ((Go.Sx.room (List.length (Prod.snd (Go.Sx.htN (Int.toNat s) x1)) + List.length [(↑x3 : Int) + (1 : Int)])) ∧
        ((Go.Sx.InR ((↑x3 : Int) + (1 : Int))) ∧
        ((Go.Sx.InR ((↑x3 : Int) + (1 : Int))) ∧
        ((Go.Sx.inB ((↑x3 : Int) + (1 : Int)) (List.length (Prod.fst (Go.Sx.htN (Int.toNat s) x1)))) ∧
        ((Go.Sx.inB (↑x3 : Int) (List.length (Prod.fst (Go.Sx.htN (Int.toNat s) x1)))) ∧
        ((Go.Sx.inB (↑x3 : Int) (List.length (Prod.fst (Go.Sx.htN (Int.toNat s) x1)))) ∧
        ((Go.Sx.inB ((↑x3 : Int) + (1 : Int)) (List.length (List.set (Prod.fst (Go.Sx.htN (Int.toNat s) x1)) (Int.toNat (↑x3 : Int)) (List.getD (Prod.fst (Go.Sx.htN (Int.toNat s) x1)) (Int.toNat ((↑x3 : Int) + (1 : Int))) (0 : Int))))) ∧
        (∃ x5 : Nat, ((((2 : Int) ≤ s) ∧
        ((s ≤ (6 : Int)) ∧
        (x5 ≤ Go.Sx.htT (Int.toNat s)))) ∧
        ((Go.Sx.htT (Int.toNat s) - x5 < Go.Sx.htT (Int.toNat s) - x1) ∧
        (((0 : Int) = (0 : Int)) ∧
        ((s = s) ∧
        ((Prod.snd (Go.Sx.htN (Int.toNat s) x1) ++ [(↑x3 : Int) + (1 : Int)] = Prod.snd (Go.Sx.htN (Int.toNat s) x5)) ∧
        (List.set (List.set (Prod.fst (Go.Sx.htN (Int.toNat s) x1)) (Int.toNat (↑x3 : Int)) (List.getD (Prod.fst (Go.Sx.htN (Int.toNat s) x1)) (Int.toNat ((↑x3 : Int) + (1 : Int))) (0 : Int))) (Int.toNat ((↑x3 : Int) + (1 : Int))) (List.getD (Prod.fst (Go.Sx.htN (Int.toNat s) x1)) (Int.toNat (↑x3 : Int)) (0 : Int)) = Prod.fst (Go.Sx.htN (Int.toNat s) x5)))))))))))))))))))))))
      ((((s = Prod.fst (Prod.fst (Go.Sx.htC s))) ∧
      ((Prod.snd (Go.Sx.htN (Int.toNat s) x1) = Prod.snd (Prod.fst (Go.Sx.htC s))) ∧
      (True))) ∧
      (((0 : Int) = Prod.snd (Go.Sx.htC s)) ∧
      (True))) ∧
      (True))))))))))
theorem iHalfTwist_vc (s : Int) : runF Try.prog (gam iHalfTwist_G) noWr (iHalfTwist_ann s) Try.f34 (bodyOf Try.f34) [] [.c (.int .i64 (s))] (iHalfTwist_p s) = iHalfTwist_V s := by kernel_rfl
theorem iHalfTwist_ok (s : Int) (hpre : (iHalfTwist_p s).pre) : iHalfTwist_V s := by
  simp only [iHalfTwist_p, iHalfTwist_V, BrP_iff, true_and, and_true, decide_eq_true_eq, decide_eq_false_iff_not, bne_iff_ne, beq_iff_eq, bne_eq_false_iff_eq, beq_eq_false_iff_ne, Bool.not_eq_true, Bool.not_eq_false, Bool.not_true, Bool.not_false, Bool.not_eq_eq_eq_not, Int.toNat_natCast, List.length_append, List.length_take, List.length_replicate, List.length_set, List.length_map, List.length_drop, List.length_nil, List.length_cons, markL_length, inB, InR, room, bdsOk] at hpre ⊢
  refine ⟨fun h => by simp [htC, h], fun hs => ⟨by omega, ⟨0, ⟨hs.1, hs.2, Nat.zero_le _⟩, rfl, rfl⟩, fun t ⟨_, _, ht⟩ => ?_⟩⟩
  have n2 : 2 ≤ s.toNat := by omega
  have n6 : s.toNat ≤ 6 := by omega
  have hL := ht_last n2 n6
  by_cases hlt : t < htT s.toNat
  · obtain ⟨m1, m2, m3, m4, m5, m6⟩ := ht_more n2 n6 hlt
    have hT : htT s.toNat ≤ 15 := by
      have : s.toNat = 2 ∨ s.toNat = 3 ∨ s.toNat = 4 ∨ s.toNat = 5 ∨ s.toNat = 6 := by omega
      rcases this with e | e | e | e | e <;> simp [htT, e]
    refine ⟨by omega, fun _ => ⟨⟨0, ⟨hs.1, hs.2, hlt, Nat.zero_le _⟩, rfl⟩, fun k ⟨_, _, _, hk⟩ => ?_⟩, fun h => by rw [m3] at h; cases h⟩
    rw [m1, m2, show ((k : Int) + 1).toNat = k + 1 by omega]
    refine ⟨by omega, by omega, by omega, fun h => ⟨by omega, k + 1, ⟨hs.1, hs.2, hlt, ?_⟩, ?_, by omega⟩, fun h => ?_⟩
    · by_cases hc : k = descF (htN s.toNat t).1
      · subst hc; exact absurd h m6
      · omega
    · by_cases hc : k = descF (htN s.toNat t).1
      · subst hc; exact absurd h m6
      · omega
    · have hc : k = descF (htN s.toNat t).1 := by
        by_cases hc : k < descF (htN s.toNat t).1
        · exact absurd (m5 k hc) h
        · omega
      subst hc
      exact ⟨by omega, by omega, by omega, by omega, by omega, by omega, by omega, by omega, t + 1, ⟨hs.1, hs.2, by omega⟩, by omega, rfl, rfl⟩
  · obtain rfl : t = htT s.toNat := by omega
    refine ⟨by omega, fun h => (by rw [hL.2.2] at h; cases h), fun _ => ?_⟩
    rw [← ht_same s.toNat n2 n6]
    simp [htC, hs]
theorem iHalfTwist_fits : Fits Try.prog 34 ⟨[], iHalfTwist_ct⟩ := by
  refine fits_fn (Γ := gam iHalfTwist_G) (gok_cons within_fits (gok_cons halfTwist_fits (gok_cons isIdentity_fits gok_nil))) Try.func34 (by kernel_rfl) (by kernel_rfl) (by kernel_rfl) fun ds p h hp => ?_
  unfold iHalfTwist_ct at h
  split at h
  · cases h
    exact ⟨noWr, iHalfTwist_ann _ , by rw [iHalfTwist_vc]; exact iHalfTwist_ok _  hp⟩
  · cases h

def lHalfTwist_p (s : Int) : Post := ⟨True, .c (.bool (true)), []⟩
def lHalfTwist_ct : List AD → Option Post
  | [.c (.int .i64 (s))] => some (lHalfTwist_p s)
  | _ => none
def lHalfTwist_G : List (Nat × Ctr) := [(26, ⟨[], eqBraid_ct⟩), (35, ⟨[(0, 1)], markBraid_ct⟩), (36, ⟨[], heldBraid_ct⟩), (33, ⟨[], sHalfTwist_ct⟩), (34, ⟨[], iHalfTwist_ct⟩)]
def lHalfTwist_V (s : Int) : Prop :=
  (((True) ∧
  (True)) ∧
  (((True) ∧
  (True)) ∧
  (((Go.Sx.room (List.length (Prod.snd (Prod.fst (Go.Sx.htC s))))) ∧
  (True)) ∧
  (BrP (!Decidable.decide (Prod.fst (Prod.fst (Go.Sx.htC s)) = Prod.fst (Prod.fst (Go.Sx.htC s)) ∧ Prod.snd (Prod.fst (Go.Sx.htC s)) = Prod.snd (Prod.fst (Go.Sx.htC s))))
    ((Bool.false = Bool.true) ∧
    (True))
    (BrP (Prod.snd (Go.Sx.htC s) != Prod.snd (Go.Sx.htC s))
      ((Bool.false = Bool.true) ∧
      (True))
      ((((Go.Sx.room (List.length (Prod.snd (Prod.fst (Go.Sx.htC s))))) ∧
      (((0 : Int) ≤ (1 : Int)) ∧
      ((1 : Int) ≤ (1099511627776 : Int)))) ∧
      ((List.length (Go.Sx.markL (1 : Int) (List.length (Prod.snd (Prod.fst (Go.Sx.htC s))))) = List.length (Prod.snd (Prod.fst (Go.Sx.htC s)))) ∧
      (True))) ∧
      ((((Go.Sx.room (List.length (Go.Sx.markL (1 : Int) (List.length (Prod.snd (Prod.fst (Go.Sx.htC s))))))) ∧
      (((0 : Int) ≤ (1 : Int)) ∧
      ((1 : Int) ≤ (1099511627776 : Int)))) ∧
      (True)) ∧
      (BrP (Decidable.decide ((if Go.Sx.markL (1 : Int) (List.length (Prod.snd (Prod.fst (Go.Sx.htC s)))) = Go.Sx.markL (1 : Int) (List.length (Go.Sx.markL (1 : Int) (List.length (Prod.snd (Prod.fst (Go.Sx.htC s)))))) then (1 : Int) + (↑(List.length (Go.Sx.markL (1 : Int) (List.length (Prod.snd (Prod.fst (Go.Sx.htC s)))))) : Int) else (-1 : Int)) < (0 : Int)))
        ((Bool.false = Bool.true) ∧
        (True))
        (BrP ((if Go.Sx.markL (1 : Int) (List.length (Prod.snd (Prod.fst (Go.Sx.htC s)))) = Go.Sx.markL (1 : Int) (List.length (Go.Sx.markL (1 : Int) (List.length (Prod.snd (Prod.fst (Go.Sx.htC s)))))) then (1 : Int) + (↑(List.length (Go.Sx.markL (1 : Int) (List.length (Prod.snd (Prod.fst (Go.Sx.htC s)))))) : Int) else (-1 : Int)) != (1 : Int) + (↑(List.length (Prod.snd (Prod.fst (Go.Sx.htC s)))) : Int))
          ((Bool.false = Bool.true) ∧
          (True))
          (((True) ∧
          (True)) ∧
          (((Go.Sx.room (List.length (Prod.snd (Prod.fst (Go.Sx.htC s))))) ∧
          (True)) ∧
          (BrP (!Decidable.decide (Prod.fst (Prod.fst (Go.Sx.htC s)) = Prod.fst (Prod.fst (Go.Sx.htC s)) ∧ Prod.snd (Prod.fst (Go.Sx.htC s)) = Prod.snd (Prod.fst (Go.Sx.htC s))))
            ((Bool.false = Bool.true) ∧
            (True))
            (BrP (Prod.snd (Go.Sx.htC s) != Prod.snd (Go.Sx.htC s))
              ((Bool.false = Bool.true) ∧
              (True))
              ((((Go.Sx.room (List.length (Go.Sx.markL (1 : Int) (List.length (Prod.snd (Prod.fst (Go.Sx.htC s))))))) ∧
              (((0 : Int) ≤ (1 : Int)) ∧
              ((1 : Int) ≤ (1099511627776 : Int)))) ∧
              (True)) ∧
              (BrP (Decidable.decide ((if Go.Sx.markL (1 : Int) (List.length (Prod.snd (Prod.fst (Go.Sx.htC s)))) = Go.Sx.markL (1 : Int) (List.length (Go.Sx.markL (1 : Int) (List.length (Prod.snd (Prod.fst (Go.Sx.htC s)))))) then (1 : Int) + (↑(List.length (Go.Sx.markL (1 : Int) (List.length (Prod.snd (Prod.fst (Go.Sx.htC s)))))) : Int) else (-1 : Int)) < (0 : Int)))
                ((Bool.false = Bool.true) ∧
                (True))
                (BrP ((if Go.Sx.markL (1 : Int) (List.length (Prod.snd (Prod.fst (Go.Sx.htC s)))) = Go.Sx.markL (1 : Int) (List.length (Go.Sx.markL (1 : Int) (List.length (Prod.snd (Prod.fst (Go.Sx.htC s)))))) then (1 : Int) + (↑(List.length (Go.Sx.markL (1 : Int) (List.length (Prod.snd (Prod.fst (Go.Sx.htC s)))))) : Int) else (-1 : Int)) != (1 : Int) + (↑(List.length (Prod.snd (Prod.fst (Go.Sx.htC s)))) : Int))
                  ((Bool.false = Bool.true) ∧
                  (True))
                  ((Bool.true = Bool.true) ∧
                  (True))))))))))))))))))
theorem lHalfTwist_vc (s : Int) : runF Try.prog (gam lHalfTwist_G) noWr noAnn Try.f7 (bodyOf Try.f7) [] [.c (.int .i64 (s))] (lHalfTwist_p s) = lHalfTwist_V s := by kernel_rfl
theorem lHalfTwist_ok (s : Int) (hpre : (lHalfTwist_p s).pre) : lHalfTwist_V s := by
  simp only [lHalfTwist_p, lHalfTwist_V, BrP_iff, true_and, and_true, decide_eq_true_eq, decide_eq_false_iff_not, bne_iff_ne, beq_iff_eq, bne_eq_false_iff_eq, beq_eq_false_iff_ne, Bool.not_eq_true, Bool.not_eq_false, Bool.not_true, Bool.not_false, Bool.not_eq_eq_eq_not, Int.toNat_natCast, List.length_append, List.length_take, List.length_replicate, List.length_set, List.length_map, List.length_drop, List.length_nil, List.length_cons, markL_length, inB, InR, room, bdsOk] at hpre ⊢
  have hl := htC_len s
  have h1 : (htC s).1.2.length ≤ 1099511627776 := by omega
  have h2 : ¬ (1 + ((htC s).1.2.length : Int) < 0) := by omega
  simp [h1, h2]
theorem lHalfTwist_fits : Fits Try.prog 7 ⟨[], lHalfTwist_ct⟩ := by
  refine fits_fn (Γ := gam lHalfTwist_G) (gok_cons eqBraid_fits (gok_cons markBraid_fits (gok_cons heldBraid_fits (gok_cons sHalfTwist_fits (gok_cons iHalfTwist_fits gok_nil))))) Try.func7 (by kernel_rfl) (by kernel_rfl) (by kernel_rfl) fun ds p h hp => ?_
  unfold lHalfTwist_ct at h
  split at h
  · cases h
    exact ⟨noWr, noAnn, by rw [lHalfTwist_vc]; exact lHalfTwist_ok _  hp⟩
  · cases h

end Go.Sx

