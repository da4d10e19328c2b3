/- NbI NbM -/
import Derived.Test.YtcdmndagoafcgaaNbS
import Derived.Test.YtcdmndagoafcgaaInv
import Derived.Test.YtcdmndagoafcgaaNbW
section
open Go Go.Proofs
namespace Go.Sx
set_option linter.unusedSimpArgs false
set_option linter.unusedVariables false

def halfTw_p (n : Int) : Post := ⟨0 ≤ n ∧ n ≤ 1000, .c (.ints 2 .i64 (halfL n.toNat)), []⟩
def halfTw_ct : List AD → Option Post
  | [.c (.int .i64 (n))] => some (halfTw_p n)
  | _ => none
def halfTw_G : List (Nat × Ctr) := [(119, ⟨[], identity_ct⟩), (120, ⟨[(0, 0)], Reverse_ct⟩)]
def halfTw_V (n : Int) : Prop :=
  (((((0 : Int) ≤ n) ∧
 (n ≤ (1099511627776 : Int))) ∧
 (True)) ∧
 (((room (List.length (unitL (Int.toNat n)))) ∧
 ((List.length (List.reverse (unitL (Int.toNat n))) = List.length (unitL (Int.toNat n))) ∧
 (True))) ∧
 ((List.reverse (unitL (Int.toNat n)) = halfL (Int.toNat n)) ∧
 (True))))
theorem halfTw_vc (n : Int) : runF Try.prog (gam halfTw_G) noWr noAnn Try.f88 (bodyOf Try.f88) [] [.c (.int .i64 (n))] (halfTw_p n) = halfTw_V n := by kernel_rfl
theorem halfTw_ok (n : Int) (hpre : (halfTw_p n).pre) : halfTw_V n := by
  simp only [halfTw_p, halfTw_V, BrP_iff, true_and, and_true, decide_eq_true_eq, decide_eq_false_iff_not, bne_iff_ne, beq_iff_eq, bne_eq_false_iff_eq, beq_eq_false_iff_ne, Bool.not_eq_true, Bool.not_eq_false, Bool.not_true, Bool.not_false, Bool.not_eq_eq_eq_not, Int.toNat_natCast, List.length_append, List.length_take, List.length_replicate, List.length_set, List.length_map, List.length_drop, List.length_nil, List.length_cons, markL_length, inB, InR, room, bdsOk] at hpre ⊢
  have : (unitL n.toNat).length = n.toNat := by simp [unitL, tab_length]
  have hr : (unitL n.toNat).reverse.length = n.toNat := by rw [List.length_reverse]; exact this
  exact ⟨by omega, by omega, half_rev _⟩
theorem halfTw_fits : Fits Try.prog 88 ⟨[], halfTw_ct⟩ := by
  refine fits_fn (Γ := gam halfTw_G) (gok_cons identity_fits (gok_cons Reverse_fits gok_nil)) Try.func88 (by kernel_rfl) (by kernel_rfl) (by kernel_rfl) fun ds p h hp => ?_
  unfold halfTw_ct at h
  split at h
  · cases h
    exact ⟨noWr, noAnn, by rw [halfTw_vc]; exact halfTw_ok _  hp⟩
  · cases h

theorem edB_lt {n k : Nat} {p : List Int} (h : PmP n p) (hk : k + 1 < n) : edB p k = false ↔ (backL p).getD k 0 < (backL p).getD (k + 1) 0 := by
  have P := back_pm h
  have := P.inj k (k + 1) (by omega) hk
  rw [edB, bgB, decide_eq_false_iff_not]
  constructor
  · intro h1
    by_cases e : (backL p).getD k 0 = (backL p).getD (k + 1) 0
    · have := this e; omega
    · omega
  · intro h1; omega

def slide_p (a : List Int) (b : List Int) : Post := ⟨1 ≤ a.length ∧ a.length ≤ 6 ∧ PmP a.length a ∧ PmP a.length b, .tup [.inl (.ints 2 .i64 ((nfL a.length [a, b]).getD 0 [])), .inl (.ints 2 .i64 ((nfL a.length [a, b]).getD 1 [])), .inl (.bool (decide (nfL a.length [a, b] ≠ [a, b])))], [.gone (.ints 2 .i64 (a)), .gone (.ints 2 .i64 (b))]⟩
def slide_ct : List AD → Option Post
  | [.c (.ints .i64 (a)), .c (.ints .i64 (b))] => some (slide_p a b)
  | _ => none
def slide_ann (a : List Int) (b : List Int) : Nat → Option Ann
  | 0 => some (Ann.mk ((Nat) × (List Int) × (List Int) × (Bool)) (fun x => match x with | (k, x, y, c) => ⟨[(0, .c (.own (100))), (1, .c (.own (101))), (7, .c (.bool (c))), (8, .c (.int .i64 ((k : Int))))], [(100, some (.ints 2 .i64 (x))), (101, some (.ints 2 .i64 (y)))]⟩) (fun x => match x with | (k, x, y, c) => k ≤ a.length ∧ PmP a.length x ∧ PmP a.length y ∧ Rch a.length [a, b] [x, y] ∧ (c = true → vL a.length [x, y] < vL a.length [a, b]) ∧ (c = false → [x, y] = [a, b]) ∧ ∀ j, j < k → j + 1 < a.length → tst [x, y] 0 j = false) (fun x => match x with | (k, x, y, c) => vL a.length [x, y] * 7 + (a.length - k)) (fun _ => noAnn))
  | _ => none
def slide_G : List (Nat × Ctr) := [(122, ⟨[], inverse_ct⟩), (66, ⟨[], thenP_ct⟩), (89, ⟨[], swapOf_ct⟩)]
def slide_V (a : List Int) (b : List Int) : Prop :=
  ((∃ x0 : Nat × List Int × List Int × Bool, (((Prod.fst x0 ≤ List.length a) ∧
 ((PmP (List.length a) (Prod.fst x0.2)) ∧
 ((PmP (List.length a) (Prod.fst x0.2.2)) ∧
 ((Rch (List.length a) (a :: b :: ([] : List (List Int))) (Prod.fst x0.2 :: Prod.fst x0.2.2 :: ([] : List (List Int)))) ∧
 ((Prod.snd x0.2.2 = Bool.true → vL (List.length a) (Prod.fst x0.2 :: Prod.fst x0.2.2 :: ([] : List (List Int))) < vL (List.length a) (a :: b :: ([] : List (List Int)))) ∧
 ((Prod.snd x0.2.2 = Bool.false → Prod.fst x0.2 :: Prod.fst x0.2.2 :: ([] : List (List Int)) = a :: b :: ([] : List (List Int))) ∧
 (∀ (j : Nat), j < Prod.fst x0 → j + (1 : Nat) < List.length a → tst (Prod.fst x0.2 :: Prod.fst x0.2.2 :: ([] : List (List Int))) (0 : Nat) j = Bool.false))))))) ∧
 ((Bool.false = x0.2.2.2) ∧
 (((0 : Int) = (↑x0.1 : Int)) ∧
 ((a = x0.2.1) ∧
 (b = x0.2.2.1)))))) ∧
 (∀ x1 : Nat × List Int × List Int × Bool, (((Prod.fst x1 ≤ List.length a) ∧
 ((PmP (List.length a) (Prod.fst x1.2)) ∧
 ((PmP (List.length a) (Prod.fst x1.2.2)) ∧
 ((Rch (List.length a) (a :: b :: ([] : List (List Int))) (Prod.fst x1.2 :: Prod.fst x1.2.2 :: ([] : List (List Int)))) ∧
 ((Prod.snd x1.2.2 = Bool.true → vL (List.length a) (Prod.fst x1.2 :: Prod.fst x1.2.2 :: ([] : List (List Int))) < vL (List.length a) (a :: b :: ([] : List (List Int)))) ∧
 ((Prod.snd x1.2.2 = Bool.false → Prod.fst x1.2 :: Prod.fst x1.2.2 :: ([] : List (List Int)) = a :: b :: ([] : List (List Int))) ∧
 (∀ (j : Nat), j < Prod.fst x1 → j + (1 : Nat) < List.length a → tst (Prod.fst x1.2 :: Prod.fst x1.2.2 :: ([] : List (List Int))) (0 : Nat) j = Bool.false))))))) →
 ((InR ((↑(List.length x1.2.1) : Int) - (1 : Int))) ∧
 (BrP (Decidable.decide ((↑x1.1 : Int) < (↑(List.length x1.2.1) : Int) - (1 : Int)))
 ((((room (List.length x1.2.1)) ∧
 (rngB (↑(List.length x1.2.1) : Int) x1.2.1)) ∧
 (True)) ∧
 ((inB (↑x1.1 : Int) (List.length x1.2.2.1)) ∧
 ((InR ((↑x1.1 : Int) + (1 : Int))) ∧
 ((inB ((↑x1.1 : Int) + (1 : Int)) (List.length x1.2.2.1)) ∧
 (BrP (Decidable.decide (List.getD x1.2.2.1 (Int.toNat ((↑x1.1 : Int) + (1 : Int))) (0 : Int) < List.getD x1.2.2.1 (Int.toNat (↑x1.1 : Int)) (0 : Int)))
 ((inB (↑x1.1 : Int) (List.length (backL x1.2.1))) ∧
 ((InR ((↑x1.1 : Int) + (1 : Int))) ∧
 ((inB ((↑x1.1 : Int) + (1 : Int)) (List.length (backL x1.2.1))) ∧
 (BrP (Decidable.decide (List.getD (backL x1.2.1) (Int.toNat (↑x1.1 : Int)) (0 : Int) < List.getD (backL x1.2.1) (Int.toNat ((↑x1.1 : Int) + (1 : Int))) (0 : Int)))
 (((((0 : Int) ≤ (↑x1.1 : Int)) ∧
 (((↑x1.1 : Int) + (1 : Int) < (↑(List.length x1.2.1) : Int)) ∧
 ((↑(List.length x1.2.1) : Int) ≤ (1000 : Int)))) ∧
 (True)) ∧
 ((((List.length x1.2.1 ≤ (1000 : Nat)) ∧
 ((List.length (stepP (Int.toNat (↑(List.length x1.2.1) : Int)) (Int.toNat (↑x1.1 : Int))) = List.length x1.2.1) ∧
 (rngB (↑(List.length x1.2.1) : Int) x1.2.1))) ∧
 (True)) ∧
 ((((List.length (stepP (Int.toNat (↑(List.length x1.2.1) : Int)) (Int.toNat (↑x1.1 : Int))) ≤ (1000 : Nat)) ∧
 ((List.length x1.2.2.1 = List.length (stepP (Int.toNat (↑(List.length x1.2.1) : Int)) (Int.toNat (↑x1.1 : Int)))) ∧
 (rngB (↑(List.length (stepP (Int.toNat (↑(List.length x1.2.1) : Int)) (Int.toNat (↑x1.1 : Int)))) : Int) (stepP (Int.toNat (↑(List.length x1.2.1) : Int)) (Int.toNat (↑x1.1 : Int)))))) ∧
 (True)) ∧
 ((InR ((-1 : Int) + (1 : Int))) ∧
 (∃ x2 : Nat × List Int × List Int × Bool, (((Prod.fst x2 ≤ List.length a) ∧
 ((PmP (List.length a) (Prod.fst x2.2)) ∧
 ((PmP (List.length a) (Prod.fst x2.2.2)) ∧
 ((Rch (List.length a) (a :: b :: ([] : List (List Int))) (Prod.fst x2.2 :: Prod.fst x2.2.2 :: ([] : List (List Int)))) ∧
 ((Prod.snd x2.2.2 = Bool.true → vL (List.length a) (Prod.fst x2.2 :: Prod.fst x2.2.2 :: ([] : List (List Int))) < vL (List.length a) (a :: b :: ([] : List (List Int)))) ∧
 ((Prod.snd x2.2.2 = Bool.false → Prod.fst x2.2 :: Prod.fst x2.2.2 :: ([] : List (List Int)) = a :: b :: ([] : List (List Int))) ∧
 (∀ (j : Nat), j < Prod.fst x2 → j + (1 : Nat) < List.length a → tst (Prod.fst x2.2 :: Prod.fst x2.2.2 :: ([] : List (List Int))) (0 : Nat) j = Bool.false))))))) ∧
 ((vL (List.length a) (Prod.fst x2.2 :: Prod.fst x2.2.2 :: ([] : List (List Int))) * (7 : Nat) + (List.length a - Prod.fst x2) < vL (List.length a) (Prod.fst x1.2 :: Prod.fst x1.2.2 :: ([] : List (List Int))) * (7 : Nat) + (List.length a - Prod.fst x1)) ∧
 ((Bool.true = x2.2.2.2) ∧
 (((0 : Int) = (↑x2.1 : Int)) ∧
 ((thP x1.2.1 (stepP (Int.toNat (↑(List.length x1.2.1) : Int)) (Int.toNat (↑x1.1 : Int))) = x2.2.1) ∧
 (thP (stepP (Int.toNat (↑(List.length x1.2.1) : Int)) (Int.toNat (↑x1.1 : Int))) x1.2.2.1 = x2.2.2.1)))))))))))
 ((InR ((↑x1.1 : Int) + (1 : Int))) ∧
 (∃ x3 : Nat × List Int × List Int × Bool, (((Prod.fst x3 ≤ List.length a) ∧
 ((PmP (List.length a) (Prod.fst x3.2)) ∧
 ((PmP (List.length a) (Prod.fst x3.2.2)) ∧
 ((Rch (List.length a) (a :: b :: ([] : List (List Int))) (Prod.fst x3.2 :: Prod.fst x3.2.2 :: ([] : List (List Int)))) ∧
 ((Prod.snd x3.2.2 = Bool.true → vL (List.length a) (Prod.fst x3.2 :: Prod.fst x3.2.2 :: ([] : List (List Int))) < vL (List.length a) (a :: b :: ([] : List (List Int)))) ∧
 ((Prod.snd x3.2.2 = Bool.false → Prod.fst x3.2 :: Prod.fst x3.2.2 :: ([] : List (List Int)) = a :: b :: ([] : List (List Int))) ∧
 (∀ (j : Nat), j < Prod.fst x3 → j + (1 : Nat) < List.length a → tst (Prod.fst x3.2 :: Prod.fst x3.2.2 :: ([] : List (List Int))) (0 : Nat) j = Bool.false))))))) ∧
 ((vL (List.length a) (Prod.fst x3.2 :: Prod.fst x3.2.2 :: ([] : List (List Int))) * (7 : Nat) + (List.length a - Prod.fst x3) < vL (List.length a) (Prod.fst x1.2 :: Prod.fst x1.2.2 :: ([] : List (List Int))) * (7 : Nat) + (List.length a - Prod.fst x1)) ∧
 ((x1.2.2.2 = x3.2.2.2) ∧
 (((↑x1.1 : Int) + (1 : Int) = (↑x3.1 : Int)) ∧
 ((x1.2.1 = x3.2.1) ∧
 (x1.2.2.1 = x3.2.2.1))))))))))))
 ((InR ((↑x1.1 : Int) + (1 : Int))) ∧
 (∃ x4 : Nat × List Int × List Int × Bool, (((Prod.fst x4 ≤ List.length a) ∧
 ((PmP (List.length a) (Prod.fst x4.2)) ∧
 ((PmP (List.length a) (Prod.fst x4.2.2)) ∧
 ((Rch (List.length a) (a :: b :: ([] : List (List Int))) (Prod.fst x4.2 :: Prod.fst x4.2.2 :: ([] : List (List Int)))) ∧
 ((Prod.snd x4.2.2 = Bool.true → vL (List.length a) (Prod.fst x4.2 :: Prod.fst x4.2.2 :: ([] : List (List Int))) < vL (List.length a) (a :: b :: ([] : List (List Int)))) ∧
 ((Prod.snd x4.2.2 = Bool.false → Prod.fst x4.2 :: Prod.fst x4.2.2 :: ([] : List (List Int)) = a :: b :: ([] : List (List Int))) ∧
 (∀ (j : Nat), j < Prod.fst x4 → j + (1 : Nat) < List.length a → tst (Prod.fst x4.2 :: Prod.fst x4.2.2 :: ([] : List (List Int))) (0 : Nat) j = Bool.false))))))) ∧
 ((vL (List.length a) (Prod.fst x4.2 :: Prod.fst x4.2.2 :: ([] : List (List Int))) * (7 : Nat) + (List.length a - Prod.fst x4) < vL (List.length a) (Prod.fst x1.2 :: Prod.fst x1.2.2 :: ([] : List (List Int))) * (7 : Nat) + (List.length a - Prod.fst x1)) ∧
 ((x1.2.2.2 = x4.2.2.2) ∧
 (((↑x1.1 : Int) + (1 : Int) = (↑x4.1 : Int)) ∧
 ((x1.2.1 = x4.2.1) ∧
 (x1.2.2.1 = x4.2.2.1)))))))))))))
 (((x1.2.1 = List.getD (nfL (List.length a) (a :: b :: ([] : List (List Int)))) (0 : Nat) []) ∧
 ((x1.2.2.1 = List.getD (nfL (List.length a) (a :: b :: ([] : List (List Int)))) (1 : Nat) []) ∧
 ((x1.2.2.2 = Decidable.decide (nfL (List.length a) (a :: b :: ([] : List (List Int))) ≠ a :: b :: ([] : List (List Int)))) ∧
 (True)))) ∧
 (True)))))))
theorem slide_vc (a : List Int) (b : List Int) : runF Try.prog (gam slide_G) noWr (slide_ann a b) Try.f91 (bodyOf Try.f91) [(0, 0), (1, 0)] [.c (.ints .i64 (a)), .c (.ints .i64 (b))] (slide_p a b) = slide_V a b := by kernel_rfl
theorem slide_ok (a : List Int) (b : List Int) (hpre : (slide_p a b).pre) : slide_V a b := by
  simp only [slide_p, slide_V, BrP_iff, true_and, and_true, decide_eq_true_eq, decide_eq_false_iff_not, bne_iff_ne, beq_iff_eq, bne_eq_false_iff_eq, beq_eq_false_iff_ne, Bool.not_eq_true, Bool.not_eq_false, Bool.not_true, Bool.not_false, Bool.not_eq_eq_eq_not, Int.toNat_natCast, List.length_append, List.length_take, List.length_replicate, List.length_set, List.length_map, List.length_drop, List.length_nil, List.length_cons, markL_length, inB, InR, room, bdsOk] at hpre ⊢
  obtain ⟨n1, n2, pa, pb⟩ := hpre
  have ok : okL a.length [a, b] := fun i hi => by
    rcases i with _ | _ | i
    · exact pa
    · exact pb
    · simp at hi; omega
  refine ⟨⟨(0, a, b, false), ⟨Nat.zero_le _, pa, pb, .rfl _, fun h => (by cases h), fun _ => rfl, fun j hj => absurd hj (Nat.not_lt_zero _)⟩, rfl, rfl, rfl, rfl⟩, ?_⟩
  rintro ⟨k, x, y, c⟩ ⟨k0, px, py, r, c1, c2, t⟩
  dsimp only at k0 px py r c1 c2 t ⊢
  have lx := px.len
  have ly := py.len
  have lb : (backL x).length = a.length := back_length px
  have ek : ((k : Int) + 1).toNat = k + 1 := by omega
  rw [ek]
  have oxy := (r.ok ok).1
  have next : (k : Int) < (x.length : Int) - 1 → tst [x, y] 0 k = false → ∃ x3 : Nat × List Int × List Int × Bool, (x3.1 ≤ a.length ∧ PmP a.length x3.2.1 ∧ PmP a.length x3.2.2.1 ∧ Rch a.length [a, b] [x3.2.1, x3.2.2.1] ∧ (x3.2.2.2 = true → vL a.length [x3.2.1, x3.2.2.1] < vL a.length [a, b]) ∧ (x3.2.2.2 = false → [x3.2.1, x3.2.2.1] = [a, b]) ∧ ∀ (j : Nat), j < x3.1 → j + 1 < a.length → tst [x3.2.1, x3.2.2.1] 0 j = false) ∧
      vL a.length [x3.2.1, x3.2.2.1] * 7 + (a.length - x3.1) < vL a.length [x, y] * 7 + (a.length - k) ∧ c = x3.2.2.2 ∧ (k : Int) + 1 = (x3.1 : Int) ∧ x = x3.2.1 ∧ y = x3.2.2.1 := fun hl ht =>
    ⟨(k + 1, x, y, c), ⟨by show k + 1 ≤ _; omega, px, py, r, c1, c2, fun j hj hj2 => by
      by_cases e : j = k
      · rw [e]; exact ht
      · exact t j (by have : j < k + 1 := hj; omega) hj2⟩, by show vL a.length [x, y] * 7 + (a.length - (k + 1)) < _; omega, rfl, by show _ = ((k + 1 : Nat) : Int); omega, rfl, rfl⟩
  refine ⟨by omega, fun hl => ⟨⟨by omega, pm_rng px⟩, by omega, by omega, by omega, fun b1 => ⟨by omega, by omega, by omega, fun e1 => ?_, fun e1 => ?_⟩, fun b1 => ?_⟩, fun hl => ?_⟩
  · have SP := stepP_pm (n := a.length) (k := k) (by omega)
    have sl := SP.len
    have tt : tst [x, y] 0 k = true := tst_iff.2 ⟨decide_eq_true b1, (edB_lt px (by omega)).2 e1⟩
    have dec := vL_stp (n := a.length) (k := k) (by omega) 0 [x, y] oxy (by simp) tt
    rw [lx]
    refine ⟨by omega, ⟨by omega, by omega, by rw [← lx]; exact pm_rng px⟩, ⟨by omega, by omega, pm_rng SP⟩, by omega, (0, vsw x k, swapAt y k, true), ⟨Nat.zero_le _, vsw_pm px (by omega), swap_pm py (by omega), r.trans (Rch.one (by simp) (by omega) tt), fun _ => ?_, fun h => (by cases h), fun j hj => absurd hj (Nat.not_lt_zero _)⟩, ?_, rfl, rfl, th_vsw px (by omega), th_swap py (by omega)⟩
    · show vL a.length (stp [x, y] 0 k) < vL a.length [a, b]
      cases hc : c with
      | true => have := c1 hc; omega
      | false => rw [← c2 hc]; exact dec
    · show vL a.length (stp [x, y] 0 k) * 7 + (a.length - 0) < _
      omega
  · exact ⟨by omega, next hl (by
      have : edB x k = true := by
        cases he : edB x k with
        | true => rfl
        | false => exact absurd ((edB_lt px (by omega)).1 he) e1
      show (bgB y k && !edB x k) = false
      rw [this]; simp)⟩
  · exact ⟨by omega, next hl (by
      show (bgB y k && !edB x k) = false
      rw [bgB, decide_eq_false b1, Bool.false_and])⟩
  · have nr : Nrm a.length [x, y] := fun i j hi hj => by
      have : i = 0 := by simp at hi; omega
      rw [this]
      exact t j (by omega) hj
    have e := nf_eq ok r nr
    rw [← e]
    refine ⟨rfl, rfl, ?_⟩
    cases hc : c with
    | true => symm; rw [decide_eq_true_iff]; intro h; have := c1 hc; rw [h] at this; omega
    | false => symm; rw [decide_eq_false_iff_not]; exact fun h => h (c2 hc)
theorem slide_fits : Fits Try.prog 91 ⟨[(0, 0), (1, 0)], slide_ct⟩ := by
  refine fits_fn (Γ := gam slide_G) (gok_cons inverse_fits (gok_cons thenP_fits (gok_cons swapOf_fits gok_nil))) Try.func91 (by kernel_rfl) (by kernel_rfl) (by kernel_rfl) fun ds p h hp => ?_
  unfold slide_ct at h
  split at h
  · cases h
    exact ⟨noWr, slide_ann _ _ , by rw [slide_vc]; exact slide_ok _ _  hp⟩
  · cases h

end Go.Sx
end

section
open Go Go.Proofs
namespace Go.Sx
set_option linter.unusedSimpArgs false
set_option linter.unusedVariables false

theorem rch_dec {n : Nat} {A B : List (List Int)} (h : Rch n A B) (hA : okL n A) : B = A ∨ vL n B < vL n A := by
  induction h with
  | rfl => exact .inl (Eq.refl _)
  | st hi hk ht _ ih =>
    have d := vL_stp hk _ _ hA hi ht
    rcases ih (stp_ok hA hi hk) with e | e
    · rw [e]; exact .inr d
    · exact .inr (by omega)

theorem rch_pair {n : Nat} {M : List (List Int)} {i : Nat} (hi : i + 1 < M.length) {P Q : List (List Int)} (h : Rch n P Q) (hP : P.length = 2) : Rch n (up2 M i (P.getD 0 []) (P.getD 1 [])) (up2 M i (Q.getD 0 []) (Q.getD 1 [])) := by
  induction h with
  | rfl => exact .rfl _
  | @st L L' i0 k h0 hk ht _ ih =>
    have z : i0 = 0 := by omega
    subst z
    have ih := ih (by rw [stp_length]; exact hP)
    have a : (stp L 0 k).getD 0 [] = vsw (L.getD 0 []) k := by rw [stp_get h0, if_neg (by omega), if_pos rfl]
    have b : (stp L 0 k).getD 1 [] = swapAt (L.getD 1 []) k := by rw [stp_get h0, if_pos rfl]
    rw [a, b, ← stp_up2 hi] at ih
    exact .st (by rw [up2_length]; exact hi) hk (by rw [tst_up2 hi]; exact ht) ih

/-- What one call of slide does to the list. -/
theorem slide_list {n : Nat} {M : List (List Int)} (hM : okL n M) {i : Nat} (hi : i + 1 < M.length) :
    let Q := nfL n [M.getD i [], M.getD (i + 1) []]
    Rch n M ((M.set i (Q.getD 0 [])).set (i + 1) (Q.getD 1 [])) ∧ (Q ≠ [M.getD i [], M.getD (i + 1) []] → vL n ((M.set i (Q.getD 0 [])).set (i + 1) (Q.getD 1 [])) < vL n M) ∧
      (Q = [M.getD i [], M.getD (i + 1) []] → (M.set i (Q.getD 0 [])).set (i + 1) (Q.getD 1 []) = M ∧ ∀ k, k + 1 < n → tst M i k = false) := by
  intro Q
  have ok2 : okL n [M.getD i [], M.getD (i + 1) []] := fun j hj => by
    rcases j with _ | _ | j
    · exact hM i (by omega)
    · exact hM (i + 1) hi
    · simp at hj; omega
  obtain ⟨r, nr⟩ := nfL_ok ok2
  have R := rch_pair hi r rfl
  have e0 : up2 M i (([M.getD i [], M.getD (i + 1) []] : List (List Int)).getD 0 []) (([M.getD i [], M.getD (i + 1) []] : List (List Int)).getD 1 []) = M := up2_self hi
  rw [e0] at R
  have R : Rch n M ((M.set i (Q.getD 0 [])).set (i + 1) (Q.getD 1 [])) := R
  have l2 : Q.length = 2 := (r.ok ok2).2
  refine ⟨R, fun h => ?_, fun h => ⟨?_, fun k hk => ?_⟩⟩
  · rcases rch_dec R hM with e | e
    · refine absurd ?_ h
      have g0 : (up2 M i (Q.getD 0 []) (Q.getD 1 [])).getD i [] = M.getD i [] := congrArg (fun L => List.getD L i []) e
      have g1 : (up2 M i (Q.getD 0 []) (Q.getD 1 [])).getD (i + 1) [] = M.getD (i + 1) [] := congrArg (fun L => List.getD L (i + 1) []) e
      rw [up2_get hi, if_neg (by omega), if_pos rfl] at g0
      rw [up2_get hi, if_pos rfl] at g1
      rw [← g0, ← g1]
      match Q, l2 with
      | [a, b], _ => rfl
    · exact e
  · rw [h]; exact up2_self hi
  · have := nr 0 k (by show 0 + 1 < Q.length; omega) hk
    have this : tst Q 0 k = false := this
    rw [h] at this
    exact this

end Go.Sx
end
