/- NbF -/
import Derived.Test.YtcdmndagoafcgaaNbM
import Derived.Test.YtcdmndagoafcgaaDelH
open Go Go.Proofs
namespace Go.Sx
set_option linter.unusedSimpArgs false
set_option linter.unusedVariables false

def Equal_p (a : List Int) (b : List Int) : Post := ⟨a.length ≤ 9223372036854775807 ∧ b.length ≤ 9223372036854775807, .c (.bool (decide (a = b))), []⟩
def Equal_ct : List AD → Option Post
  | [.c (.ints .i64 (a)), .c (.ints .i64 (b))] => some (Equal_p a b)
  | _ => none
def Equal_ann (a : List Int) (b : List Int) : Nat → Option Ann
  | 0 => some (Ann.mk ((Nat)) (fun i => ⟨[(0, .c (.ro (.ints .i64 (a)))), (1, .c (.ro (.ints .i64 (b)))), (12, .c (.int .i64 ((a.length : Int)))), (13, .c (.int .i64 ((i : Int))))], []⟩) (fun i => i ≤ a.length ∧ a.length = b.length ∧ decide (a = b) = decide (a.drop i = b.drop i)) (fun i => a.length - i) (fun _ => noAnn))
  | _ => none
def Equal_G : List (Nat × Ctr) := []
def Equal_V (a : List Int) (b : List Int) : Prop :=
  (BrP ((↑(List.length a) : Int) != (↑(List.length b) : Int))
 ((Bool.false = Decidable.decide (a = b)) ∧
 (True))
 ((∃ x0 : Nat, (((x0 ≤ List.length a) ∧
 ((List.length a = List.length b) ∧
 (Decidable.decide (a = b) = Decidable.decide (List.drop x0 a = List.drop x0 b)))) ∧
 ((a = a) ∧
 ((b = b) ∧
 (((↑(List.length a) : Int) = (↑(List.length a) : Int)) ∧
 ((0 : Int) = (↑x0 : Int))))))) ∧
 (∀ x1 : Nat, (((x1 ≤ List.length a) ∧
 ((List.length a = List.length b) ∧
 (Decidable.decide (a = b) = Decidable.decide (List.drop x1 a = List.drop x1 b)))) →
 (BrP (Decidable.decide ((↑x1 : Int) < (↑(List.length a) : Int)))
 ((inB (↑x1 : Int) (List.length a)) ∧
 ((inB (↑x1 : Int) (List.length b)) ∧
 (BrP (List.getD a (Int.toNat (↑x1 : Int)) (0 : Int) != List.getD b (Int.toNat (↑x1 : Int)) (0 : Int))
 ((Bool.false = Decidable.decide (a = b)) ∧
 (True))
 ((InR ((↑x1 : Int) + (1 : Int))) ∧
 (∃ x2 : Nat, (((x2 ≤ List.length a) ∧
 ((List.length a = List.length b) ∧
 (Decidable.decide (a = b) = Decidable.decide (List.drop x2 a = List.drop x2 b)))) ∧
 ((List.length a - x2 < List.length a - x1) ∧
 ((a = a) ∧
 ((b = b) ∧
 (((↑(List.length a) : Int) = (↑(List.length a) : Int)) ∧
 ((↑x1 : Int) + (1 : Int) = (↑x2 : Int))))))))))))
 ((Bool.true = Decidable.decide (a = b)) ∧
 (True)))))))
theorem Equal_vc (a : List Int) (b : List Int) : runF Try.prog (gam Equal_G) noWr (Equal_ann a b) Try.f70 (bodyOf Try.f70) [] [.c (.ints .i64 (a)), .c (.ints .i64 (b))] (Equal_p a b) = Equal_V a b := by kernel_rfl
theorem Equal_ok (a : List Int) (b : List Int) (hpre : (Equal_p a b).pre) : Equal_V a b := by
  simp only [Equal_p, Equal_V, BrP_iff, true_and, and_true, decide_eq_true_eq, decide_eq_false_iff_not, bne_iff_ne, beq_iff_eq, bne_eq_false_iff_eq, beq_eq_false_iff_ne, Bool.not_eq_true, Bool.not_eq_false, Bool.not_true, Bool.not_false, Bool.not_eq_eq_eq_not, Int.toNat_natCast, List.length_append, List.length_take, List.length_replicate, List.length_set, List.length_map, List.length_drop, List.length_nil, List.length_cons, markL_length, inB, InR, room, bdsOk] at hpre ⊢
  refine ⟨fun h => ?_, fun h => ⟨⟨0, ⟨by omega, by omega, rfl⟩, rfl⟩, fun i ⟨hi, hl, he⟩ => ⟨fun h2 => ?_, fun h2 => ?_⟩⟩⟩
  · exact (decide_eq_false fun e => h (by rw [e])).symm
  · have ea := drop_cons' a 0 i (by omega)
    have eb := drop_cons' b 0 i (by omega)
    refine ⟨by omega, by omega, fun h3 => ?_, fun h3 => ⟨by omega, i + 1, ⟨by omega, hl, ?_⟩, by omega, by omega⟩⟩
    · rw [he, ea, eb]
      exact (decide_eq_false fun e => h3 (by injection e)).symm
    · rw [he, ea, eb, h3]
      simp
  · rw [he, List.drop_eq_nil_of_le (by omega), List.drop_eq_nil_of_le (by omega)]; rfl
theorem Equal_fits : Fits Try.prog 70 ⟨[], Equal_ct⟩ := by
  refine fits_fn (Γ := gam Equal_G) gok_nil Try.func70 (by kernel_rfl) (by kernel_rfl) (by kernel_rfl) fun ds p h hp => ?_
  unfold Equal_ct at h
  split at h
  · cases h
    exact ⟨noWr, Equal_ann _ _ , by rw [Equal_vc]; exact Equal_ok _ _  hp⟩
  · cases h

theorem th_pm {n : Nat} {p q : List Int} (h : PmP n p) (h2 : PmP n q) : PmP n (thP p q) := by
  have l := h.len
  refine ⟨by rw [thP_length, l], fun i hi => ?_, fun i j hi hj e => ?_⟩
  · have r := h.rng i hi
    rw [thP_get (by omega)]
    exact h2.rng _ (by omega)
  · have r := h.rng i hi
    have r2 := h.rng j hj
    rw [thP_get (by omega), thP_get (by omega)] at e
    have := h2.inj _ _ (by omega) (by omega) e
    exact h.inj i j hi hj (by omega)

theorem keep_nb {s : Int} {w : List Int} (h : braidB s w = true) : keepL (nbR s w) = (nbR s w).take (nbC s w) :=
  nb_filter h incB fun q hq => by
    have := inc_unit (l := q) (pm_rng hq)
    rw [hq.len] at this
    exact this

def normalForm_p (s : Int) (w : List Int) : Post := ⟨braidB s w = true, .tup [.inl (.int .i64 (nbE s w)), .inl (.cut (nbJ s w) (nbC s w) 22 2 .i64 ((nbN s w).take (nbJ s w + nbC s w) ++ List.replicate ((nbR s w).length - nbC s w) []))], []⟩
def normalForm_ct : List AD → Option Post
  | [.agg [.int .i64 (s), .ints .i64 (w)]] => some (normalForm_p s w)
  | _ => none
def normalForm_ann (s : Int) (w : List Int) : Nat → Option Ann
  | 0 => some (Ann.mk ((Nat)) (fun i => ⟨[(4, .c (.int .i64 (s))), (5, .c (.own (101))), (6, .c (.int .i64 (expN w i))), (7, .c (.own (100))), (23, .c (.ro (.ints .i64 (w)))), (24, .c (.int .i64 ((w.length : Int)))), (25, .c (.int .i64 ((i : Int))))], [(100, some (.rows 0 22 2 .i64 (facN s.toNat w i))), (101, some (.ints 2 .i64 (halfL s.toNat)))]⟩) (fun i => i ≤ w.length) (fun i => w.length - i) (fun i => fun b_ => match b_ with | 2 => some (Ann.mk ((Nat)) (fun j => ⟨[(4, .c (.int .i64 (s))), (5, .c (.own (101))), (6, .c (.int .i64 (expN w i - 1))), (7, .c (.own (100))), (10, .c (.own (102))), (23, .c (.ro (.ints .i64 (w)))), (24, .c (.int .i64 ((w.length : Int)))), (25, .c (.int .i64 ((i : Int)))), (41, .c (.own (100))), (42, .c (.int .i64 ((i : Int)))), (43, .c (.int .i64 ((j : Int))))], [(100, some (.rows 0 22 2 .i64 (((facN s.toNat w i).map turnL).take j ++ (facN s.toNat w i).drop j))), (101, some (.ints 2 .i64 (halfL s.toNat))), (102, some (.ints 2 .i64 (stepP s.toNat (plc (w.getD i 0)).toNat)))]⟩) (fun j => j ≤ i ∧ i < w.length ∧ ¬ 0 < w.getD i 0) (fun j => i - j) (fun _ => noAnn)) | _ => none))
  | 4 => some (Ann.mk ((List (List Int)) × (Bool)) (fun x => match x with | (L, g) => ⟨[(4, .c (.int .i64 (s))), (5, .c (.own (101))), (6, .c (.int .i64 (expN w w.length))), (7, .c (.own (100))), (13, .c (.bool (g)))], [(100, some (.rows 0 22 2 .i64 (L))), (101, some (.ints 2 .i64 (halfL s.toNat)))]⟩) (fun x => match x with | (L, g) => okL s.toNat L ∧ L.length = w.length ∧ Rch s.toNat (facN s.toNat w w.length) L ∧ (g = false → Nrm s.toNat L)) (fun x => match x with | (L, g) => 2 * vL s.toNat L + (if g = true then 1 else 0)) (fun x => match x with | (L, g) => fun b_ => match b_ with | 6 => some (Ann.mk ((Nat) × (List (List Int)) × (Bool)) (fun x => match x with | (j, M, c) => ⟨[(4, .c (.int .i64 (s))), (5, .c (.own (101))), (6, .c (.int .i64 (expN w w.length))), (7, .c (.own (100))), (13, .c (.bool (c))), (14, .c (.int .i64 ((j : Int))))], [(100, some (.rows 0 22 2 .i64 (M))), (101, some (.ints 2 .i64 (halfL s.toNat)))]⟩) (fun x => match x with | (j, M, c) => 1 ≤ j ∧ j ≤ w.length + 1 ∧ okL s.toNat M ∧ M.length = w.length ∧ Rch s.toNat L M ∧ (c = true → vL s.toNat M < vL s.toNat L) ∧ (c = false → M = L ∧ ∀ a k, a + 1 < j → k + 1 < s.toNat → tst L a k = false)) (fun x => match x with | (j, M, c) => w.length + 1 - j) (fun _ => noAnn)) | _ => none))
  | 8 => some (Ann.mk ((Nat)) (fun j => ⟨[(5, .c (.own (101))), (6, .c (.int .i64 (expN w w.length + (j : Int)))), (7, .c (.sub 100 j (w.length - j)))], [(100, some (.rows 0 22 2 .i64 (nbN s w))), (101, some (.ints 2 .i64 (halfL s.toNat)))]⟩) (fun j => j ≤ w.length ∧ ∀ i, i < j → (nbN s w).getD i [] = halfL s.toNat) (fun j => w.length - j) (fun _ => noAnn))
  | _ => none
def normalForm_G : List (Nat × Ctr) := [(88, ⟨[], halfTw_ct⟩), (90, ⟨[], placeOf_ct⟩), (89, ⟨[], swapOf_ct⟩), (66, ⟨[], thenP_ct⟩), (91, ⟨[(0, 0), (1, 0)], slide_ct⟩), (70, ⟨[], Equal_ct⟩), (92, ⟨[(0,96),(0,96)], sDel_ct⟩)]
def normalForm_V (s : Int) (w : List Int) : Prop :=
  (((((0 : Int) ≤ s) ∧
 (s ≤ (1000 : Int))) ∧
 (True)) ∧
 ((∃ x0 : Nat, ((x0 ≤ List.length w) ∧
 ((s = s) ∧
 (((0 : Int) = expN w x0) ∧
 ((w = w) ∧
 (((↑(List.length w) : Int) = (↑(List.length w) : Int)) ∧
 (((0 : Int) = (↑x0 : Int)) ∧
 ((facN (Int.toNat s) w x0 = ([] : List (List Int))) ∧
 (halfL (Int.toNat s) = halfL (Int.toNat s)))))))))) ∧
 (∀ x1 : Nat, ((x1 ≤ List.length w) →
 (BrP (Decidable.decide ((↑x1 : Int) < (↑(List.length w) : Int)))
 ((inB (↑x1 : Int) (List.length w)) ∧
 (((((-1000000 : Int) ≤ List.getD w (Int.toNat (↑x1 : Int)) (0 : Int)) ∧
 (List.getD w (Int.toNat (↑x1 : Int)) (0 : Int) ≤ (1000000 : Int))) ∧
 (True)) ∧
 (((((0 : Int) ≤ plc (List.getD w (Int.toNat (↑x1 : Int)) (0 : Int))) ∧
 ((plc (List.getD w (Int.toNat (↑x1 : Int)) (0 : Int)) + (1 : Int) < s) ∧
 (s ≤ (1000 : Int)))) ∧
 (True)) ∧
 (BrP (Decidable.decide ((0 : Int) < List.getD w (Int.toNat (↑x1 : Int)) (0 : Int)))
 ((room (List.length (facN (Int.toNat s) w x1) + List.length (stepP (Int.toNat s) (Int.toNat (plc (List.getD w (Int.toNat (↑x1 : Int)) (0 : Int)))) :: ([] : List (List Int))))) ∧
 ((InR ((↑x1 : Int) + (1 : Int))) ∧
 (∃ x2 : Nat, ((x2 ≤ List.length w) ∧
 ((List.length w - x2 < List.length w - x1) ∧
 ((s = s) ∧
 ((expN w x1 = expN w x2) ∧
 ((w = w) ∧
 (((↑(List.length w) : Int) = (↑(List.length w) : Int)) ∧
 (((↑x1 : Int) + (1 : Int) = (↑x2 : Int)) ∧
 ((facN (Int.toNat s) w x1 ++ stepP (Int.toNat s) (Int.toNat (plc (List.getD w (Int.toNat (↑x1 : Int)) (0 : Int)))) :: ([] : List (List Int)) = facN (Int.toNat s) w x2) ∧
 (halfL (Int.toNat s) = halfL (Int.toNat s)))))))))))))
 ((InR (expN w x1 - (1 : Int))) ∧
 ((∃ x3 : Nat, (((x3 ≤ x1) ∧
 ((x1 < List.length w) ∧
 (¬(0 : Int) < List.getD w x1 (0 : Int)))) ∧
 ((s = s) ∧
 ((expN w x1 - (1 : Int) = expN w x1 - (1 : Int)) ∧
 ((w = w) ∧
 (((↑(List.length w) : Int) = (↑(List.length w) : Int)) ∧
 (((↑x1 : Int) = (↑x1 : Int)) ∧
 (((↑(List.length (facN (Int.toNat s) w x1)) : Int) = (↑x1 : Int)) ∧
 (((0 : Int) = (↑x3 : Int)) ∧
 ((facN (Int.toNat s) w x1 = List.take x3 (List.map turnL (facN (Int.toNat s) w x1)) ++ List.drop x3 (facN (Int.toNat s) w x1)) ∧
 ((halfL (Int.toNat s) = halfL (Int.toNat s)) ∧
 (stepP (Int.toNat s) (Int.toNat (plc (List.getD w (Int.toNat (↑x1 : Int)) (0 : Int)))) = stepP (Int.toNat s) (Int.toNat (plc (List.getD w x1 (0 : Int)))))))))))))))) ∧
 (∀ x4 : Nat, (((x4 ≤ x1) ∧
 ((x1 < List.length w) ∧
 (¬(0 : Int) < List.getD w x1 (0 : Int)))) →
 (BrP (Decidable.decide ((↑x4 : Int) < (↑x1 : Int)))
 ((inB (↑x4 : Int) (List.length (List.take x4 (List.map turnL (facN (Int.toNat s) w x1)) ++ List.drop x4 (facN (Int.toNat s) w x1)))) ∧
 ((((List.length (halfL (Int.toNat s)) ≤ (1000 : Nat)) ∧
 ((List.length (List.getD (List.take x4 (List.map turnL (facN (Int.toNat s) w x1)) ++ List.drop x4 (facN (Int.toNat s) w x1)) (Int.toNat (↑x4 : Int)) []) = List.length (halfL (Int.toNat s))) ∧
 (rngB (↑(List.length (halfL (Int.toNat s))) : Int) (halfL (Int.toNat s))))) ∧
 (True)) ∧
 ((((List.length (thP (halfL (Int.toNat s)) (List.getD (List.take x4 (List.map turnL (facN (Int.toNat s) w x1)) ++ List.drop x4 (facN (Int.toNat s) w x1)) (Int.toNat (↑x4 : Int)) [])) ≤ (1000 : Nat)) ∧
 ((List.length (halfL (Int.toNat s)) = List.length (thP (halfL (Int.toNat s)) (List.getD (List.take x4 (List.map turnL (facN (Int.toNat s) w x1)) ++ List.drop x4 (facN (Int.toNat s) w x1)) (Int.toNat (↑x4 : Int)) []))) ∧
 (rngB (↑(List.length (thP (halfL (Int.toNat s)) (List.getD (List.take x4 (List.map turnL (facN (Int.toNat s) w x1)) ++ List.drop x4 (facN (Int.toNat s) w x1)) (Int.toNat (↑x4 : Int)) []))) : Int) (thP (halfL (Int.toNat s)) (List.getD (List.take x4 (List.map turnL (facN (Int.toNat s) w x1)) ++ List.drop x4 (facN (Int.toNat s) w x1)) (Int.toNat (↑x4 : Int)) []))))) ∧
 (True)) ∧
 ((inB (↑x4 : Int) (List.length (List.take x4 (List.map turnL (facN (Int.toNat s) w x1)) ++ List.drop x4 (facN (Int.toNat s) w x1)))) ∧
 ((InR ((↑x4 : Int) + (1 : Int))) ∧
 (∃ x5 : Nat, (((x5 ≤ x1) ∧
 ((x1 < List.length w) ∧
 (¬(0 : Int) < List.getD w x1 (0 : Int)))) ∧
 ((x1 - x5 < x1 - x4) ∧
 ((s = s) ∧
 ((expN w x1 - (1 : Int) = expN w x1 - (1 : Int)) ∧
 ((w = w) ∧
 (((↑(List.length w) : Int) = (↑(List.length w) : Int)) ∧
 (((↑x1 : Int) = (↑x1 : Int)) ∧
 (((↑x1 : Int) = (↑x1 : Int)) ∧
 (((↑x4 : Int) + (1 : Int) = (↑x5 : Int)) ∧
 ((List.set (List.take x4 (List.map turnL (facN (Int.toNat s) w x1)) ++ List.drop x4 (facN (Int.toNat s) w x1)) (Int.toNat (↑x4 : Int)) (thP (thP (halfL (Int.toNat s)) (List.getD (List.take x4 (List.map turnL (facN (Int.toNat s) w x1)) ++ List.drop x4 (facN (Int.toNat s) w x1)) (Int.toNat (↑x4 : Int)) [])) (halfL (Int.toNat s))) = List.take x5 (List.map turnL (facN (Int.toNat s) w x1)) ++ List.drop x5 (facN (Int.toNat s) w x1)) ∧
 ((halfL (Int.toNat s) = halfL (Int.toNat s)) ∧
 (stepP (Int.toNat s) (Int.toNat (plc (List.getD w x1 (0 : Int)))) = stepP (Int.toNat s) (Int.toNat (plc (List.getD w x1 (0 : Int))))))))))))))))))))))
 ((((List.length (halfL (Int.toNat s)) ≤ (1000 : Nat)) ∧
 ((List.length (stepP (Int.toNat s) (Int.toNat (plc (List.getD w x1 (0 : Int))))) = List.length (halfL (Int.toNat s))) ∧
 (rngB (↑(List.length (halfL (Int.toNat s))) : Int) (halfL (Int.toNat s))))) ∧
 (True)) ∧
 ((room (List.length (List.take x4 (List.map turnL (facN (Int.toNat s) w x1)) ++ List.drop x4 (facN (Int.toNat s) w x1)) + List.length (thP (halfL (Int.toNat s)) (stepP (Int.toNat s) (Int.toNat (plc (List.getD w x1 (0 : Int))))) :: ([] : List (List Int))))) ∧
 ((InR ((↑x1 : Int) + (1 : Int))) ∧
 (∃ x6 : Nat, ((x6 ≤ List.length w) ∧
 ((List.length w - x6 < List.length w - x1) ∧
 ((s = s) ∧
 ((expN w x1 - (1 : Int) = expN w x6) ∧
 ((w = w) ∧
 (((↑(List.length w) : Int) = (↑(List.length w) : Int)) ∧
 (((↑x1 : Int) + (1 : Int) = (↑x6 : Int)) ∧
 ((List.take x4 (List.map turnL (facN (Int.toNat s) w x1)) ++ List.drop x4 (facN (Int.toNat s) w x1) ++ thP (halfL (Int.toNat s)) (stepP (Int.toNat s) (Int.toNat (plc (List.getD w x1 (0 : Int))))) :: ([] : List (List Int)) = facN (Int.toNat s) w x6) ∧
 (halfL (Int.toNat s) = halfL (Int.toNat s)))))))))))))))))))))))
 ((∃ x7 : List (List Int) × Bool, (((okL (Int.toNat s) (Prod.fst x7)) ∧
 ((List.length (Prod.fst x7) = List.length w) ∧
 ((Rch (Int.toNat s) (facN (Int.toNat s) w (List.length w)) (Prod.fst x7)) ∧
 (Prod.snd x7 = Bool.false → Nrm (Int.toNat s) (Prod.fst x7))))) ∧
 ((s = s) ∧
 ((expN w x1 = expN w (List.length w)) ∧
 ((Bool.true = x7.2) ∧
 ((facN (Int.toNat s) w x1 = x7.1) ∧
 (halfL (Int.toNat s) = halfL (Int.toNat s)))))))) ∧
 (∀ x8 : List (List Int) × Bool, (((okL (Int.toNat s) (Prod.fst x8)) ∧
 ((List.length (Prod.fst x8) = List.length w) ∧
 ((Rch (Int.toNat s) (facN (Int.toNat s) w (List.length w)) (Prod.fst x8)) ∧
 (Prod.snd x8 = Bool.false → Nrm (Int.toNat s) (Prod.fst x8))))) →
 (BrP (x8.2)
 ((∃ x9 : Nat × List (List Int) × Bool, ((((1 : Nat) ≤ Prod.fst x9) ∧
 ((Prod.fst x9 ≤ List.length w + (1 : Nat)) ∧
 ((okL (Int.toNat s) (Prod.fst x9.2)) ∧
 ((List.length (Prod.fst x9.2) = List.length w) ∧
 ((Rch (Int.toNat s) x8.1 (Prod.fst x9.2)) ∧
 ((Prod.snd x9.2 = Bool.true → vL (Int.toNat s) (Prod.fst x9.2) < vL (Int.toNat s) x8.1) ∧
 (Prod.snd x9.2 = Bool.false → Prod.fst x9.2 = x8.1 ∧ ∀ (a k : Nat), a + (1 : Nat) < Prod.fst x9 → k + (1 : Nat) < Int.toNat s → tst x8.1 a k = Bool.false))))))) ∧
 ((s = s) ∧
 ((expN w (List.length w) = expN w (List.length w)) ∧
 ((Bool.false = x9.2.2) ∧
 (((1 : Int) = (↑x9.1 : Int)) ∧
 ((x8.1 = x9.2.1) ∧
 (halfL (Int.toNat s) = halfL (Int.toNat s))))))))) ∧
 (∀ x10 : Nat × List (List Int) × Bool, ((((1 : Nat) ≤ Prod.fst x10) ∧
 ((Prod.fst x10 ≤ List.length w + (1 : Nat)) ∧
 ((okL (Int.toNat s) (Prod.fst x10.2)) ∧
 ((List.length (Prod.fst x10.2) = List.length w) ∧
 ((Rch (Int.toNat s) x8.1 (Prod.fst x10.2)) ∧
 ((Prod.snd x10.2 = Bool.true → vL (Int.toNat s) (Prod.fst x10.2) < vL (Int.toNat s) x8.1) ∧
 (Prod.snd x10.2 = Bool.false → Prod.fst x10.2 = x8.1 ∧ ∀ (a k : Nat), a + (1 : Nat) < Prod.fst x10 → k + (1 : Nat) < Int.toNat s → tst x8.1 a k = Bool.false))))))) →
 (BrP (Decidable.decide ((↑x10.1 : Int) < (↑(List.length x10.2.1) : Int)))
 ((InR ((↑x10.1 : Int) - (1 : Int))) ∧
 ((inB ((↑x10.1 : Int) - (1 : Int)) (List.length x10.2.1)) ∧
 ((inB (↑x10.1 : Int) (List.length x10.2.1)) ∧
 ((((((1 : Nat) ≤ List.length (List.getD x10.2.1 (Int.toNat ((↑x10.1 : Int) - (1 : Int))) [])) ∧
 ((List.length (List.getD x10.2.1 (Int.toNat ((↑x10.1 : Int) - (1 : Int))) []) ≤ (6 : Nat)) ∧
 ((PmP (List.length (List.getD x10.2.1 (Int.toNat ((↑x10.1 : Int) - (1 : Int))) [])) (List.getD x10.2.1 (Int.toNat ((↑x10.1 : Int) - (1 : Int))) [])) ∧
 (PmP (List.length (List.getD x10.2.1 (Int.toNat ((↑x10.1 : Int) - (1 : Int))) [])) (List.getD x10.2.1 (Int.toNat (↑x10.1 : Int)) []))))) ∧
 ((True) ∧
 (True))) ∧
 (Int.toNat ((↑x10.1 : Int) - (1 : Int)) ≠ Int.toNat (↑x10.1 : Int))) ∧
 ((InR ((↑x10.1 : Int) - (1 : Int))) ∧
 ((inB ((↑x10.1 : Int) - (1 : Int)) (List.length x10.2.1)) ∧
 (((Int.toNat ((↑x10.1 : Int) - (1 : Int)) = Int.toNat ((↑x10.1 : Int) - (1 : Int))) ∧
 (¬Int.toNat ((↑x10.1 : Int) - (1 : Int)) ∈ [Int.toNat (↑x10.1 : Int)])) ∧
 ((inB (↑x10.1 : Int) (List.length (List.set x10.2.1 (Int.toNat ((↑x10.1 : Int) - (1 : Int))) (List.getD (nfL (List.length (List.getD x10.2.1 (Int.toNat ((↑x10.1 : Int) - (1 : Int))) [])) (List.getD x10.2.1 (Int.toNat ((↑x10.1 : Int) - (1 : Int))) [] :: List.getD x10.2.1 (Int.toNat (↑x10.1 : Int)) [] :: ([] : List (List Int)))) (0 : Nat) [])))) ∧
 ((Int.toNat (↑x10.1 : Int) = Int.toNat (↑x10.1 : Int)) ∧
 (BrP (x10.2.2)
 ((InR ((↑x10.1 : Int) + (1 : Int))) ∧
 (∃ x11 : Nat × List (List Int) × Bool, ((((1 : Nat) ≤ Prod.fst x11) ∧
 ((Prod.fst x11 ≤ List.length w + (1 : Nat)) ∧
 ((okL (Int.toNat s) (Prod.fst x11.2)) ∧
 ((List.length (Prod.fst x11.2) = List.length w) ∧
 ((Rch (Int.toNat s) x8.1 (Prod.fst x11.2)) ∧
 ((Prod.snd x11.2 = Bool.true → vL (Int.toNat s) (Prod.fst x11.2) < vL (Int.toNat s) x8.1) ∧
 (Prod.snd x11.2 = Bool.false → Prod.fst x11.2 = x8.1 ∧ ∀ (a k : Nat), a + (1 : Nat) < Prod.fst x11 → k + (1 : Nat) < Int.toNat s → tst x8.1 a k = Bool.false))))))) ∧
 ((List.length w + (1 : Nat) - Prod.fst x11 < List.length w + (1 : Nat) - Prod.fst x10) ∧
 ((s = s) ∧
 ((expN w (List.length w) = expN w (List.length w)) ∧
 ((Bool.true = x11.2.2) ∧
 (((↑x10.1 : Int) + (1 : Int) = (↑x11.1 : Int)) ∧
 ((List.set (List.set x10.2.1 (Int.toNat ((↑x10.1 : Int) - (1 : Int))) (List.getD (nfL (List.length (List.getD x10.2.1 (Int.toNat ((↑x10.1 : Int) - (1 : Int))) [])) (List.getD x10.2.1 (Int.toNat ((↑x10.1 : Int) - (1 : Int))) [] :: List.getD x10.2.1 (Int.toNat (↑x10.1 : Int)) [] :: ([] : List (List Int)))) (0 : Nat) [])) (Int.toNat (↑x10.1 : Int)) (List.getD (nfL (List.length (List.getD x10.2.1 (Int.toNat ((↑x10.1 : Int) - (1 : Int))) [])) (List.getD x10.2.1 (Int.toNat ((↑x10.1 : Int) - (1 : Int))) [] :: List.getD x10.2.1 (Int.toNat (↑x10.1 : Int)) [] :: ([] : List (List Int)))) (1 : Nat) []) = x11.2.1) ∧
 (halfL (Int.toNat s) = halfL (Int.toNat s)))))))))))
 ((InR ((↑x10.1 : Int) + (1 : Int))) ∧
 (∃ x12 : Nat × List (List Int) × Bool, ((((1 : Nat) ≤ Prod.fst x12) ∧
 ((Prod.fst x12 ≤ List.length w + (1 : Nat)) ∧
 ((okL (Int.toNat s) (Prod.fst x12.2)) ∧
 ((List.length (Prod.fst x12.2) = List.length w) ∧
 ((Rch (Int.toNat s) x8.1 (Prod.fst x12.2)) ∧
 ((Prod.snd x12.2 = Bool.true → vL (Int.toNat s) (Prod.fst x12.2) < vL (Int.toNat s) x8.1) ∧
 (Prod.snd x12.2 = Bool.false → Prod.fst x12.2 = x8.1 ∧ ∀ (a k : Nat), a + (1 : Nat) < Prod.fst x12 → k + (1 : Nat) < Int.toNat s → tst x8.1 a k = Bool.false))))))) ∧
 ((List.length w + (1 : Nat) - Prod.fst x12 < List.length w + (1 : Nat) - Prod.fst x10) ∧
 ((s = s) ∧
 ((expN w (List.length w) = expN w (List.length w)) ∧
 ((Decidable.decide (nfL (List.length (List.getD x10.2.1 (Int.toNat ((↑x10.1 : Int) - (1 : Int))) [])) (List.getD x10.2.1 (Int.toNat ((↑x10.1 : Int) - (1 : Int))) [] :: List.getD x10.2.1 (Int.toNat (↑x10.1 : Int)) [] :: ([] : List (List Int))) ≠ List.getD x10.2.1 (Int.toNat ((↑x10.1 : Int) - (1 : Int))) [] :: List.getD x10.2.1 (Int.toNat (↑x10.1 : Int)) [] :: ([] : List (List Int))) = x12.2.2) ∧
 (((↑x10.1 : Int) + (1 : Int) = (↑x12.1 : Int)) ∧
 ((List.set (List.set x10.2.1 (Int.toNat ((↑x10.1 : Int) - (1 : Int))) (List.getD (nfL (List.length (List.getD x10.2.1 (Int.toNat ((↑x10.1 : Int) - (1 : Int))) [])) (List.getD x10.2.1 (Int.toNat ((↑x10.1 : Int) - (1 : Int))) [] :: List.getD x10.2.1 (Int.toNat (↑x10.1 : Int)) [] :: ([] : List (List Int)))) (0 : Nat) [])) (Int.toNat (↑x10.1 : Int)) (List.getD (nfL (List.length (List.getD x10.2.1 (Int.toNat ((↑x10.1 : Int) - (1 : Int))) [])) (List.getD x10.2.1 (Int.toNat ((↑x10.1 : Int) - (1 : Int))) [] :: List.getD x10.2.1 (Int.toNat (↑x10.1 : Int)) [] :: ([] : List (List Int)))) (1 : Nat) []) = x12.2.1) ∧
 (halfL (Int.toNat s) = halfL (Int.toNat s)))))))))))))))))))))
 (∃ x13 : List (List Int) × Bool, (((okL (Int.toNat s) (Prod.fst x13)) ∧
 ((List.length (Prod.fst x13) = List.length w) ∧
 ((Rch (Int.toNat s) (facN (Int.toNat s) w (List.length w)) (Prod.fst x13)) ∧
 (Prod.snd x13 = Bool.false → Nrm (Int.toNat s) (Prod.fst x13))))) ∧
 ((((2 : Nat) * vL (Int.toNat s) (Prod.fst x13) + if Prod.snd x13 = Bool.true then (1 : Nat) else (0 : Nat)) < (2 : Nat) * vL (Int.toNat s) (Prod.fst x8) + if Prod.snd x8 = Bool.true then (1 : Nat) else (0 : Nat)) ∧
 ((s = s) ∧
 ((expN w (List.length w) = expN w (List.length w)) ∧
 ((x10.2.2 = x13.2) ∧
 ((x10.2.1 = x13.1) ∧
 (halfL (Int.toNat s) = halfL (Int.toNat s)))))))))))))
 ((∃ x14 : Nat, (((x14 ≤ List.length w) ∧
 (∀ (i : Nat), i < x14 → List.getD (nbN s w) i [] = halfL (Int.toNat s))) ∧
 ((expN w (List.length w) = expN w (List.length w) + (↑x14 : Int)) ∧
 (((0 : Nat) = x14) ∧
 ((List.length x8.1 = List.length w - x14) ∧
 ((x8.1 = nbN s w) ∧
 (halfL (Int.toNat s) = halfL (Int.toNat s)))))))) ∧
 (∀ x15 : Nat, (((x15 ≤ List.length w) ∧
 (∀ (i : Nat), i < x15 → List.getD (nbN s w) i [] = halfL (Int.toNat s))) →
 (BrP (Decidable.decide ((0 : Int) < (↑(List.length w - x15) : Int)))
 ((inB (0 : Int) (List.length w - x15)) ∧
 ((((List.length (List.getD (nbN s w) (x15 + Int.toNat (0 : Int)) []) ≤ (9223372036854775807 : Nat)) ∧
 (List.length (halfL (Int.toNat s)) ≤ (9223372036854775807 : Nat))) ∧
 (True)) ∧
 (BrP (Decidable.decide (List.getD (nbN s w) (x15 + Int.toNat (0 : Int)) [] = halfL (Int.toNat s)))
 ((InR (expN w (List.length w) + (↑x15 : Int) + (1 : Int))) ∧
 ((bdsOk (List.length w - x15) (Option.some (1 : Int)) Option.none) ∧
 (∃ x16 : Nat, (((x16 ≤ List.length w) ∧
 (∀ (i : Nat), i < x16 → List.getD (nbN s w) i [] = halfL (Int.toNat s))) ∧
 ((List.length w - x16 < List.length w - x15) ∧
 ((expN w (List.length w) + (↑x15 : Int) + (1 : Int) = expN w (List.length w) + (↑x16 : Int)) ∧
 ((x15 + Int.toNat (1 : Int) = x16) ∧
 ((List.length w - x15 - Int.toNat (1 : Int) = List.length w - x16) ∧
 ((nbN s w = nbN s w) ∧
 (halfL (Int.toNat s) = halfL (Int.toNat s)))))))))))
 (((∀ (r : List Int), r ∈ List.take (List.length w - x15) (List.drop x15 (nbN s w)) → List.length r ≤ (1000 : Nat)) ∧
 (keepL (List.take (List.length w - x15) (List.drop x15 (nbN s w))) = List.take (List.length (keepL (List.take (List.length w - x15) (List.drop x15 (nbN s w))))) (List.take (List.length w - x15) (List.drop x15 (nbN s w))))) ∧
 (((expN w (List.length w) + (↑x15 : Int) = nbE s w) ∧
 (((x15 = nbJ s w) ∧
 ((List.length (keepL (List.take (List.length w - x15) (List.drop x15 (nbN s w)))) = nbC s w) ∧
 (List.take (x15 + List.length (keepL (List.take (List.length w - x15) (List.drop x15 (nbN s w))))) (nbN s w) ++ List.replicate (List.length w - x15 - List.length (keepL (List.take (List.length w - x15) (List.drop x15 (nbN s w))))) [] ++ List.drop (x15 + (List.length w - x15)) (nbN s w) = List.take (nbJ s w + nbC s w) (nbN s w) ++ List.replicate (List.length (nbR s w) - nbC s w) ([] : List Int)))) ∧
 (True))) ∧
 (True))))))
 (((∀ (r : List Int), r ∈ List.take (List.length w - x15) (List.drop x15 (nbN s w)) → List.length r ≤ (1000 : Nat)) ∧
 (keepL (List.take (List.length w - x15) (List.drop x15 (nbN s w))) = List.take (List.length (keepL (List.take (List.length w - x15) (List.drop x15 (nbN s w))))) (List.take (List.length w - x15) (List.drop x15 (nbN s w))))) ∧
 (((expN w (List.length w) + (↑x15 : Int) = nbE s w) ∧
 (((x15 = nbJ s w) ∧
 ((List.length (keepL (List.take (List.length w - x15) (List.drop x15 (nbN s w)))) = nbC s w) ∧
 (List.take (x15 + List.length (keepL (List.take (List.length w - x15) (List.drop x15 (nbN s w))))) (nbN s w) ++ List.replicate (List.length w - x15 - List.length (keepL (List.take (List.length w - x15) (List.drop x15 (nbN s w))))) [] ++ List.drop (x15 + (List.length w - x15)) (nbN s w) = List.take (nbJ s w + nbC s w) (nbN s w) ++ List.replicate (List.length (nbR s w) - nbC s w) ([] : List Int)))) ∧
 (True))) ∧
 (True))))))))))))))))
theorem normalForm_vc (s : Int) (w : List Int) : runF Try.prog (gam normalForm_G) noWr (normalForm_ann s w) Try.f43 (bodyOf Try.f43) [] [.agg [.int .i64 (s), .ints .i64 (w)]] (normalForm_p s w) = normalForm_V s w := by kernel_rfl
theorem normalForm_ok (s : Int) (w : List Int) (hpre : (normalForm_p s w).pre) : normalForm_V s w := by
  simp only [normalForm_p, normalForm_V, BrP_iff, true_and, and_true, decide_eq_true_eq, decide_eq_false_iff_not, bne_iff_ne, beq_iff_eq, bne_eq_false_iff_eq, beq_eq_false_iff_ne, Bool.not_eq_true, Bool.not_eq_false, Bool.not_true, Bool.not_false, Bool.not_eq_eq_eq_not, Int.toNat_natCast, List.length_append, List.length_take, List.length_replicate, List.length_set, List.length_map, List.length_drop, List.length_nil, List.length_cons, markL_length, inB, InR, room, bdsOk] at hpre ⊢
  have hs : 2 ≤ s ∧ s ≤ 6 ∧ w.length ≤ 30 := by
    simp only [braidB, Bool.and_eq_true, decide_eq_true_eq] at hpre; omega
  have en : ((s.toNat : Nat) : Int) = s := by omega
  have lh := half_len s.toNat
  have HP := half_pm s.toNat
  have FL := facN_len s.toNat w
  refine ⟨by omega, ⟨0, by omega, rfl, rfl, rfl⟩, fun i hi => ⟨fun hl => ?_, fun hl => ?_⟩⟩
  · have P := plc_in hpre i (by omega)
    have G := braidB_get hpre i (by omega)
    have E := expN_in w i
    have F := facN_ok hpre i (by omega)
    have fl := FL i
    refine ⟨by omega, by omega, by omega, fun hp => ?_, fun hp => ?_⟩
    · refine ⟨by omega, by omega, i + 1, by omega, by omega, ?_, by omega, ?_⟩
      · rw [expN, if_pos hp]
      · rw [facN, if_pos hp]
    · refine ⟨by omega, ⟨0, ⟨by omega, by omega, hp⟩, by omega, rfl, by simp⟩, fun j ⟨hj, _, _⟩ => ?_⟩
      have lm : ((facN s.toNat w i).map turnL).length = i := by rw [List.length_map, fl]
      have lt : (((facN s.toNat w i).map turnL).take j).length = j := by rw [List.length_take, lm]; omega
      have sp := (stepP_pm (n := s.toNat) (k := (plc (w.getD i 0)).toNat) (by omega)).len
      refine ⟨fun hl2 => ?_, fun hl2 => ?_⟩
      · have hj2 : j < i := by omega
        have pj := F j (by omega)
        have pl := pj.len
        have tp := th_pm HP pj
        have tl := tp.len
        rw [drop_cons' (facN s.toNat w i) [] j (by omega), at_getD _ _ _ _ _ lt, at_set _ _ _ _ _ lt, th_turn pj]
        refine ⟨by omega, ⟨by omega, by omega, pm_rng HP⟩, ⟨by omega, by omega, pm_rng tp⟩, by omega, by omega, j + 1, ⟨by omega, by omega, hp⟩, by omega, by omega, ?_⟩
        rw [← take_snoc ((facN s.toNat w i).map turnL) [] j (by omega), getD_map _ _ [] _ j (by omega), List.append_assoc]; rfl
      · refine ⟨⟨by omega, by omega, pm_rng HP⟩, by omega, by omega, i + 1, by omega, by omega, ?_, by omega, ?_⟩
        · rw [expN, if_neg hp]
        · rw [facN, if_neg hp, th_vsw HP (by omega), List.take_of_length_le (by omega), List.drop_of_length_le (by omega), List.append_nil]
  · obtain rfl : i = w.length := by omega
    have F := facN_ok hpre w.length (Nat.le_refl _)
    have fl := FL w.length
    have NF : ∀ L, Rch s.toNat (facN s.toNat w w.length) L → Nrm s.toNat L → L = nbN s w := fun L h1 h2 => nf_eq F h1 h2
    obtain ⟨nk1, nk2, nk3⟩ := nbN_ok hpre
    have E := expN_in w w.length
    generalize facN s.toNat w w.length = A at *
    refine ⟨⟨(A, true), ⟨F, fl, .rfl _, fun h => by cases h⟩, rfl, rfl, rfl⟩, ?_⟩
    rintro ⟨L, g⟩ ⟨l1, l2, l3, l4⟩
    dsimp only at l1 l2 l3 l4 ⊢
    refine ⟨fun hg => ⟨⟨(1, L, false), ⟨Nat.le_refl _, by omega, l1, l2, .rfl _, fun h => (by cases h), fun _ => ⟨rfl, fun a k ha => absurd ha (by show ¬ a + 1 < 1; omega)⟩⟩, rfl, rfl, rfl⟩, ?_⟩, fun hg => ?_⟩
    · rintro ⟨j, M, c⟩ ⟨m00, m0, m1, m2, m3, m4, m5⟩
      dsimp only at m00 m0 m1 m2 m3 m4 m5 ⊢
      obtain ⟨i, rfl⟩ : ∃ i, j = i + 1 := ⟨j - 1, by omega⟩
      have ei : (((i + 1 : Nat) : Int) - 1).toNat = i := by omega
      rw [ei]
      refine ⟨fun hl2 => ?_, fun hl2 => ?_⟩
      · have p0 := m1 i (by omega)
        have p1 := m1 (i + 1) (by omega)
        have q0 := p0.len
        obtain ⟨S1, S2, S3⟩ := slide_list m1 (i := i) (by omega)
        rw [q0]
        have okZ := S1.ok m1
        generalize (M.set i ((nfL s.toNat [M.getD i [], M.getD (i + 1) []]).getD 0 [])).set (i + 1) ((nfL s.toNat [M.getD i [], M.getD (i + 1) []]).getD 1 []) = Z at *
        refine ⟨by omega, by omega, by omega, ⟨⟨by omega, by omega, p0, p1⟩, by omega⟩, by omega, by omega, by simp, by omega,
          fun hc => ⟨by omega, (i + 2, Z, true), ⟨by show 1 ≤ i + 2; omega, by show i + 2 ≤ _; omega, okZ.1, okZ.2.trans m2, m3.trans S1, fun _ => ?_, fun h => (by cases h)⟩, by show w.length + 1 - (i + 2) < _; omega, rfl, by show _ = ((i + 2 : Nat) : Int); omega, rfl⟩,
          fun hc => ⟨by omega, ⟨(i + 2, Z, _), ⟨by show 1 ≤ i + 2; omega, by show i + 2 ≤ _; omega, okZ.1, okZ.2.trans m2, m3.trans S1, fun h => ?_, fun h => ?_⟩, by show w.length + 1 - (i + 2) < _; omega, rfl, by show _ = ((i + 2 : Nat) : Int); omega, rfl⟩⟩⟩
        · show vL s.toNat Z < vL s.toNat L
          have := m4 hc
          by_cases e : nfL s.toNat [M.getD i [], M.getD (i + 1) []] = [M.getD i [], M.getD (i + 1) []]
          · rw [(S3 e).1]; exact this
          · have := S2 e; omega
        · have h : nfL s.toNat [M.getD i [], M.getD (i + 1) []] ≠ [M.getD i [], M.getD (i + 1) []] := of_decide_eq_true h
          have := S2 h
          show vL s.toNat Z < vL s.toNat L
          rw [← (m5 hc).1]; exact this
        · have h : nfL s.toNat [M.getD i [], M.getD (i + 1) []] = [M.getD i [], M.getD (i + 1) []] := Classical.byContradiction fun hn => of_decide_eq_false h hn
          obtain ⟨z1, z2⟩ := S3 h
          obtain ⟨y1, y2⟩ := m5 hc
          refine ⟨z1.trans y1, fun a k ha hk => ?_⟩
          have ha : a + 1 < i + 2 := ha
          by_cases ea : a = i
          · rw [ea, ← y1]; exact z2 k hk
          · exact y2 a k (by omega) hk
      · refine ⟨(M, c), ⟨m1, m2, l3.trans m3, fun h => ?_⟩, ?_, rfl, rfl⟩
        · obtain ⟨h1, h2⟩ := m5 h
          intro a k ha hk
          show tst M a k = false
          rw [h1]
          exact h2 a k (by have : a + 1 < M.length := ha; omega) hk
        · show 2 * vL s.toNat M + (if c = true then 1 else 0) < 2 * vL s.toNat L + (if g = true then 1 else 0)
          rw [if_pos hg]
          cases hc : c with
          | true => have := m4 hc; rw [if_pos rfl]; omega
          | false => rw [(m5 hc).1, if_neg (by decide)]; omega
    · obtain rfl : L = nbN s w := NF L l3 (l4 hg)
      have room_ : ∀ i, i < w.length → ((nbN s w).getD i []).length ≤ 9223372036854775807 := fun i hi => by have := (nk1 i (by omega)).len; omega
      have rl := nbR_len s w
      have jl : nbJ s w ≤ (nbN s w).length := ldH_le _ _
      have cl : nbC s w ≤ (nbR s w).length := ctU_le _ _
      have kn := keep_nb hpre
      have part : List.take (w.length - nbJ s w) (List.drop (nbJ s w) (nbN s w)) = nbR s w := List.take_of_length_le (by rw [List.length_drop]; omega)
      have kc : (List.take (nbC s w) (nbR s w)).length = nbC s w := by rw [List.length_take]; omega
      have leaf : ((∀ (r : List Int), r ∈ nbR s w → r.length ≤ 1000) ∧ List.take (nbC s w) (nbR s w) = List.take (List.take (nbC s w) (nbR s w)).length (nbR s w)) ∧ expN w w.length + (nbJ s w : Int) = nbE s w ∧ nbJ s w = nbJ s w ∧ (List.take (nbC s w) (nbR s w)).length = nbC s w ∧
          List.take (nbJ s w + (List.take (nbC s w) (nbR s w)).length) (nbN s w) ++ List.replicate (w.length - nbJ s w - (List.take (nbC s w) (nbR s w)).length) [] ++ List.drop (nbJ s w + (w.length - nbJ s w)) (nbN s w) = List.take (nbJ s w + nbC s w) (nbN s w) ++ List.replicate ((nbR s w).length - nbC s w) [] := by
        refine ⟨⟨fun r hr => ?_, by rw [kc]⟩, rfl, rfl, kc, ?_⟩
        · have hr := List.mem_of_mem_drop hr
          obtain ⟨i, hi, rfl⟩ := List.getElem_of_mem hr
          have := (nk1 i hi).len
          rw [getD_lt _ [] i hi] at this
          omega
        · rw [kc, List.drop_of_length_le (by omega), List.append_nil, show w.length - nbJ s w - nbC s w = (nbR s w).length - nbC s w by omega]
      have S : ∀ j, j ≤ w.length → (∀ i, i < j → (nbN s w).getD i [] = halfL s.toNat) → ¬ (j < w.length ∧ (nbN s w).getD j [] = halfL s.toNat) → j = nbJ s w := fun j hj h1 h2 => by
        have a := ldH_iff (halfL s.toNat) (nbN s w) j h1 (by omega)
        have b := ldH_iff (halfL s.toNat) (nbN s w) (nbJ s w)
        rw [nk3] at a
        have n1 : ¬ j < nbJ s w := fun h => h2 (a.1 h)
        by_cases n2 : nbJ s w < j
        · have := (b (fun i hi => h1 i (by omega)) jl).2 ⟨by omega, h1 _ n2⟩
          exact absurd this (Nat.lt_irrefl _)
        · omega
      refine ⟨⟨0, ⟨Nat.zero_le _, fun i hi => absurd hi (Nat.not_lt_zero _)⟩, by omega, rfl, by omega, rfl⟩, fun j ⟨hj, h1⟩ => ⟨fun hl2 => ?_, fun hl2 => ?_⟩⟩
      · have z : j + Int.toNat 0 = j := rfl
        have z1 : j + Int.toNat 1 = j + 1 := rfl
        rw [z, z1]
        refine ⟨by omega, ⟨room_ _ (by omega), by omega⟩, fun hh => ⟨by omega, by omega, j + 1, ⟨by omega, fun i hi => ?_⟩, by omega, by omega, rfl, by show w.length - j - 1 = _; omega⟩, fun hh => ?_⟩
        · by_cases ei : i = j
          · rw [ei]; exact hh
          · exact h1 i (by omega)
        · have e := S j hj h1 fun h => hh h.2
          subst e
          rw [part, kn]
          exact leaf
      · have e := S j hj h1 fun h => hl2 (by omega)
        subst e
        rw [part, kn]
        exact leaf
theorem normalForm_fits : Fits Try.prog 43 ⟨[], normalForm_ct⟩ := by
  refine fits_fn (Γ := gam normalForm_G) (gok_cons halfTw_fits (gok_cons placeOf_fits (gok_cons swapOf_fits (gok_cons thenP_fits (gok_cons slide_fits (gok_cons Equal_fits (gok_cons sDel_fits gok_nil))))))) Try.func43 (by kernel_rfl) (by kernel_rfl) (by kernel_rfl) fun ds p h hp => ?_
  unfold normalForm_ct at h
  split at h
  · cases h
    exact ⟨noWr, normalForm_ann _ _ , by rw [normalForm_vc]; exact normalForm_ok _ _  hp⟩
  · cases h

end Go.Sx
