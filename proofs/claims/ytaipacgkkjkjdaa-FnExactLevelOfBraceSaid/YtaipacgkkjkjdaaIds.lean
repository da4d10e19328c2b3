/- Contracts on the way of IdealsOf. -/
import Derived.Test.YtaipacgkkjkjdaaIdlC
import Derived.Test.YtaipacgkkjkjdaaExt
open Go Go.Proofs
namespace Go.Sx
set_option linter.unusedSimpArgs false
set_option linter.unusedVariables false

theorem pow_half {n : Nat} (h : 1 ≤ n) : (2 : Int) ^ n = 2 * ((2 ^ (n - 1) : Nat) : Int) := by
  obtain ⟨m, rfl⟩ : ∃ m, n = m + 1 := ⟨n - 1, by omega⟩
  rw [Int.pow_succ, Nat.add_sub_cancel, Int.natCast_pow, Int.mul_comm]; rfl

theorem pow_half_le {n : Nat} (h : n ≤ 12) : 2 ^ (n - 1) ≤ 2048 := Nat.pow_le_pow_right (n := 2) (by omega) (show n - 1 ≤ 11 by omega)

theorem odd_ok {a : List (List Int)} (h : tabB a = true) {k : Nat} (hk : k < 2 ^ (a.length - 1)) : setOk a (2 * (k : Int) + 1) := by
  have n1 := (tabB_of h).1
  refine ⟨h, by omega, ?_⟩
  obtain ⟨m, hm⟩ : ∃ m, a.length = m + 1 := ⟨a.length - 1, by omega⟩
  rw [hm, Nat.add_sub_cancel] at hk
  rw [hm, Nat.pow_succ]
  omega

theorem odN_mem {p : Int → Bool} {k : Nat} {x : Int} (h : x ∈ odN p k) : ∃ j, j < k ∧ x = 2 * (j : Int) + 1 := by
  simp only [odN, List.mem_map, List.mem_filter, List.mem_range] at h
  obtain ⟨j, ⟨hj, _⟩, rfl⟩ := h
  exact ⟨j, hj, rfl⟩

def setsWith_p (a : List (List Int)) (c : List (List Int)) (q : Int → Prop) (p : Int → Bool) : Post := ⟨tabB a = true ∧ (∀ s : Int, setOk a s → q s), .c (.ints 2 .i64 (odN p (2 ^ (a.length - 1)))), []⟩
def setsWith_ct : List AD → Option Post
  | [.agg [.rows .i64 (a), .rows .i64 (c)], .fv (.ib q p)] => some (setsWith_p a c q p)
  | _ => none
def setsWith_ann (a : List (List Int)) (c : List (List Int)) (q : Int → Prop) (p : Int → Bool) : Nat → Option Ann
  | 0 => some (Ann.mk ((Nat)) (fun k => ⟨[(1, .fv (.ib q p)), (2, .c (.ptr 2 0)), (5, .c (.own (5))), (6, .c (.int .i64 (2 * (k : Int) + 1)))], [(2, some (.box [.ro (.rows .i64 (a)), .ro (.rows .i64 (c))])), (5, some (.ints 2 .i64 (odN p k)))]⟩) (fun k => k ≤ 2 ^ (a.length - 1)) (fun k => 2 ^ (a.length - 1) - k) (fun _ => noAnn))
  | _ => none
def setsWith_G : List (Nat × Ctr) := []
def setsWith_V (a : List (List Int)) (c : List (List Int)) (q : Int → Prop) (p : Int → Bool) : Prop :=
  ((∃ x0 : Nat, ((x0 ≤ (2 : Nat) ^ (List.length a - (1 : Nat))) ∧
  ((Go.Sx.FV.ib q p = Go.Sx.FV.ib q p) ∧
  (((1 : Int) = (2 : Int) * (↑x0 : Int) + (1 : Int)) ∧
  ((a = a) ∧
  ((c = c) ∧
  (Go.Sx.odN p x0 = []))))))) ∧
  (∀ x1 : Nat, ((x1 ≤ (2 : Nat) ^ (List.length a - (1 : Nat))) →
  (((((0 : Int) ≤ (↑(List.length a) : Int)) ∧
  ((↑(List.length a) : Int) ≤ (62 : Int))) ∧
  (Go.Sx.InR ((1 : Int) * (2 : Int) ^ Int.toNat (↑(List.length a) : Int)))) ∧
  (BrP (Decidable.decide ((2 : Int) * (↑x1 : Int) + (1 : Int) < (1 : Int) * (2 : Int) ^ Int.toNat (↑(List.length a) : Int)))
    ((q ((2 : Int) * (↑x1 : Int) + (1 : Int))) ∧
    (BrP (p ((2 : Int) * (↑x1 : Int) + (1 : Int)))
      ((Go.Sx.room (List.length (Go.Sx.odN p x1) + List.length [(2 : Int) * (↑x1 : Int) + (1 : Int)])) ∧
      ((Go.Sx.InR ((2 : Int) * (↑x1 : Int) + (1 : Int) + (2 : Int))) ∧
      (∃ x2 : Nat, ((x2 ≤ (2 : Nat) ^ (List.length a - (1 : Nat))) ∧
      (((2 : Nat) ^ (List.length a - (1 : Nat)) - x2 < (2 : Nat) ^ (List.length a - (1 : Nat)) - x1) ∧
      ((Go.Sx.FV.ib q p = Go.Sx.FV.ib q p) ∧
      (((2 : Int) * (↑x1 : Int) + (1 : Int) + (2 : Int) = (2 : Int) * (↑x2 : Int) + (1 : Int)) ∧
      ((a = a) ∧
      ((c = c) ∧
      (Go.Sx.odN p x1 ++ [(2 : Int) * (↑x1 : Int) + (1 : Int)] = Go.Sx.odN p x2))))))))))
      ((Go.Sx.InR ((2 : Int) * (↑x1 : Int) + (1 : Int) + (2 : Int))) ∧
      (∃ x3 : Nat, ((x3 ≤ (2 : Nat) ^ (List.length a - (1 : Nat))) ∧
      (((2 : Nat) ^ (List.length a - (1 : Nat)) - x3 < (2 : Nat) ^ (List.length a - (1 : Nat)) - x1) ∧
      ((Go.Sx.FV.ib q p = Go.Sx.FV.ib q p) ∧
      (((2 : Int) * (↑x1 : Int) + (1 : Int) + (2 : Int) = (2 : Int) * (↑x3 : Int) + (1 : Int)) ∧
      ((a = a) ∧
      ((c = c) ∧
      (Go.Sx.odN p x1 = Go.Sx.odN p x3)))))))))))
    ((Go.Sx.odN p x1 = Go.Sx.odN p ((2 : Nat) ^ (List.length a - (1 : Nat)))) ∧
    (True)))))))
theorem setsWith_vc (a : List (List Int)) (c : List (List Int)) (q : Int → Prop) (p : Int → Bool) : runF Try.prog (gam setsWith_G) noWr (setsWith_ann a c q p) Try.f92 (bodyOf Try.f92) [] [.agg [.rows .i64 (a), .rows .i64 (c)], .fv (.ib q p)] (setsWith_p a c q p) = setsWith_V a c q p := by kernel_rfl
theorem setsWith_ok (a : List (List Int)) (c : List (List Int)) (q : Int → Prop) (p : Int → Bool) (hpre : (setsWith_p a c q p).pre) : setsWith_V a c q p := by
  simp only [setsWith_p, setsWith_V, BrP_iff, true_and, and_true, decide_eq_true_eq, decide_eq_false_iff_not, bne_iff_ne, beq_iff_eq, bne_eq_false_iff_eq, beq_eq_false_iff_ne, Bool.not_eq_true, Bool.not_eq_false, Bool.not_true, Bool.not_false, Bool.not_eq_eq_eq_not, Int.toNat_natCast, List.length_append, List.length_take, List.length_replicate, List.length_set, List.length_map, List.length_drop, List.length_nil, List.length_cons, markL_length, inB, InR, room, bdsOk] at hpre ⊢
  obtain ⟨h1, hq⟩ := hpre
  obtain ⟨n1, n2, ht⟩ := tabB_of h1
  have e := pow_half (n := a.length) (by omega)
  have q2 := pow_half_le (n := a.length) (by omega)
  have q3 := Int.natCast_nonneg (2 ^ (a.length - 1))
  refine ⟨⟨0, by omega, rfl, rfl⟩, fun k hk => ?_⟩
  have ol := odN_len p k
  rw [Int.one_mul, e]
  refine ⟨by omega, fun h => ⟨hq _ (odd_ok h1 (by omega)), fun hp => ⟨by omega, by omega, k + 1, by omega, by omega, by omega, ?_⟩, fun hp => ⟨by omega, k + 1, by omega, by omega, by omega, ?_⟩⟩, fun h => by rw [show k = 2 ^ (a.length - 1) by omega]⟩
  · rw [odN_step, if_pos hp]
  · rw [odN_step, if_neg (by rw [hp]; decide)]
theorem setsWith_fits : Fits Try.prog 92 ⟨[], setsWith_ct⟩ := by
  refine fits_fn (Γ := gam setsWith_G) gok_nil Try.func92 (by kernel_rfl) (by kernel_rfl) (by kernel_rfl) fun ds p h hp => ?_
  unfold setsWith_ct at h
  split at h
  · cases h
    exact ⟨noWr, setsWith_ann _ _ _ _ , by rw [setsWith_vc]; exact setsWith_ok _ _ _ _  hp⟩
  · cases h

def l10Subgroups_p (t : List (List Int)) : Post := ⟨tabB t = true, .c (.ints 2 .i64 (odN (clB t) (2 ^ (t.length - 1)))), []⟩
def l10Subgroups_ct : List AD → Option Post
  | [.c (.rows .i64 (t))] => some (l10Subgroups_p t)
  | _ => none
def l10Subgroups_ann (t : List (List Int)) : Nat → Option Ann
  | 0 => some (Ann.mk ((Nat)) (fun k => ⟨[(0, .c (.ro (.rows .i64 (t)))), (3, .c (.own (5))), (4, .c (.int .i64 (2 * (k : Int) + 1)))], [(5, some (.ints 2 .i64 (odN (clB t) k)))]⟩) (fun k => k ≤ 2 ^ (t.length - 1)) (fun k => 2 ^ (t.length - 1) - k) (fun _ => noAnn))
  | _ => none
def l10Subgroups_G : List (Nat × Ctr) := [(98, ⟨[], l04Closed_ct⟩)]
def l10Subgroups_V (t : List (List Int)) : Prop :=
  ((∃ x0 : Nat, ((x0 ≤ (2 : Nat) ^ (List.length t - (1 : Nat))) ∧
  ((t = t) ∧
  (((1 : Int) = (2 : Int) * (↑x0 : Int) + (1 : Int)) ∧
  ([] = Go.Sx.odN (Go.Sx.clB t) x0))))) ∧
  (∀ x1 : Nat, ((x1 ≤ (2 : Nat) ^ (List.length t - (1 : Nat))) →
  (((((0 : Int) ≤ Go.IntKind.wrap Go.IntKind.u64 (↑(List.length t) : Int)) ∧
  (Go.IntKind.wrap Go.IntKind.u64 (↑(List.length t) : Int) ≤ (62 : Int))) ∧
  (Go.Sx.InR ((1 : Int) * (2 : Int) ^ Int.toNat (Go.IntKind.wrap Go.IntKind.u64 (↑(List.length t) : Int))))) ∧
  (BrP (Decidable.decide ((2 : Int) * (↑x1 : Int) + (1 : Int) < (1 : Int) * (2 : Int) ^ Int.toNat (Go.IntKind.wrap Go.IntKind.u64 (↑(List.length t) : Int))))
    (((Go.Sx.setOk t ((2 : Int) * (↑x1 : Int) + (1 : Int))) ∧
    (True)) ∧
    (BrP (Go.Sx.clB t ((2 : Int) * (↑x1 : Int) + (1 : Int)))
      ((Go.Sx.room (List.length (Go.Sx.odN (Go.Sx.clB t) x1) + List.length [(2 : Int) * (↑x1 : Int) + (1 : Int)])) ∧
      ((Go.Sx.InR ((2 : Int) * (↑x1 : Int) + (1 : Int) + (2 : Int))) ∧
      (∃ x2 : Nat, ((x2 ≤ (2 : Nat) ^ (List.length t - (1 : Nat))) ∧
      (((2 : Nat) ^ (List.length t - (1 : Nat)) - x2 < (2 : Nat) ^ (List.length t - (1 : Nat)) - x1) ∧
      ((t = t) ∧
      (((2 : Int) * (↑x1 : Int) + (1 : Int) + (2 : Int) = (2 : Int) * (↑x2 : Int) + (1 : Int)) ∧
      (Go.Sx.odN (Go.Sx.clB t) x1 ++ [(2 : Int) * (↑x1 : Int) + (1 : Int)] = Go.Sx.odN (Go.Sx.clB t) x2))))))))
      ((Go.Sx.InR ((2 : Int) * (↑x1 : Int) + (1 : Int) + (2 : Int))) ∧
      (∃ x3 : Nat, ((x3 ≤ (2 : Nat) ^ (List.length t - (1 : Nat))) ∧
      (((2 : Nat) ^ (List.length t - (1 : Nat)) - x3 < (2 : Nat) ^ (List.length t - (1 : Nat)) - x1) ∧
      ((t = t) ∧
      (((2 : Int) * (↑x1 : Int) + (1 : Int) + (2 : Int) = (2 : Int) * (↑x3 : Int) + (1 : Int)) ∧
      (Go.Sx.odN (Go.Sx.clB t) x1 = Go.Sx.odN (Go.Sx.clB t) x3)))))))))
    ((Go.Sx.odN (Go.Sx.clB t) x1 = Go.Sx.odN (Go.Sx.clB t) ((2 : Nat) ^ (List.length t - (1 : Nat)))) ∧
    (True)))))))
theorem l10Subgroups_vc (t : List (List Int)) : runF Try.prog (gam l10Subgroups_G) noWr (l10Subgroups_ann t) Try.f91 (bodyOf Try.f91) [] [.c (.rows .i64 (t))] (l10Subgroups_p t) = l10Subgroups_V t := by kernel_rfl
theorem l10Subgroups_ok (t : List (List Int)) (hpre : (l10Subgroups_p t).pre) : l10Subgroups_V t := by
  simp only [l10Subgroups_p, l10Subgroups_V, BrP_iff, true_and, and_true, decide_eq_true_eq, decide_eq_false_iff_not, bne_iff_ne, beq_iff_eq, bne_eq_false_iff_eq, beq_eq_false_iff_ne, Bool.not_eq_true, Bool.not_eq_false, Bool.not_true, Bool.not_false, Bool.not_eq_eq_eq_not, Int.toNat_natCast, List.length_append, List.length_take, List.length_replicate, List.length_set, List.length_map, List.length_drop, List.length_nil, List.length_cons, markL_length, inB, InR, room, bdsOk] at hpre ⊢
  obtain ⟨n1, n2, ht⟩ := tabB_of hpre
  have e := pow_half (n := t.length) (by omega)
  have q2 := pow_half_le (n := t.length) (by omega)
  have q3 := Int.natCast_nonneg (2 ^ (t.length - 1))
  have w : IntKind.u64.wrap (t.length : Int) = (t.length : Int) := wu64 (by omega)
  refine ⟨⟨0, by omega, rfl, rfl⟩, fun k hk => ?_⟩
  have ol := odN_len (clB t) k
  rw [w, Int.toNat_natCast, Int.one_mul, e]
  refine ⟨by omega, fun h => ⟨odd_ok hpre (by omega), fun hp => ⟨by omega, by omega, k + 1, by omega, by omega, by omega, ?_⟩, fun hp => ⟨by omega, k + 1, by omega, by omega, by omega, ?_⟩⟩, fun h => by rw [show k = 2 ^ (t.length - 1) by omega]⟩
  · rw [odN_step, if_pos hp]
  · rw [odN_step, if_neg (by rw [hp]; decide)]
theorem l10Subgroups_fits : Fits Try.prog 91 ⟨[], l10Subgroups_ct⟩ := by
  refine fits_fn (Γ := gam l10Subgroups_G) (gok_cons l04Closed_fits gok_nil) Try.func91 (by kernel_rfl) (by kernel_rfl) (by kernel_rfl) fun ds p h hp => ?_
  unfold l10Subgroups_ct at h
  split at h
  · cases h
    exact ⟨noWr, l10Subgroups_ann _ , by rw [l10Subgroups_vc]; exact l10Subgroups_ok _  hp⟩
  · cases h

def idealsOf1_p (s : Int) (a : List (List Int)) (c : List (List Int)) (l : List (List Int)) : Post := ⟨twoG a c ∧ l = lamT a c ∧ setOk a s, .c (.bool (idB a c s)), []⟩
def idealsOf1_ct : List AD → Option Post
  | [.c (.int .i64 (s)), .box [.rows .i64 (a), .rows .i64 (c)], .box [.rows .i64 (l)]] => some (idealsOf1_p s a c l)
  | _ => none
def idealsOf1_G : List (Nat × Ctr) := [(61, ⟨[], isIdeal_ct⟩)]
def idealsOf1_V (s : Int) (a : List (List Int)) (c : List (List Int)) (l : List (List Int)) : Prop :=
  ((((Go.Sx.twoG a c) ∧
  ((l = Go.Sx.lamT a c) ∧
  (Go.Sx.setOk a s))) ∧
  (True)) ∧
  ((Go.Sx.idB a c s = Go.Sx.idB a c s) ∧
  (True)))
theorem idealsOf1_vc (s : Int) (a : List (List Int)) (c : List (List Int)) (l : List (List Int)) : runF Try.prog (gam idealsOf1_G) noWr noAnn Try.f93 (bodyOf Try.f93) [] [.c (.int .i64 (s)), .box [.rows .i64 (a), .rows .i64 (c)], .box [.rows .i64 (l)]] (idealsOf1_p s a c l) = idealsOf1_V s a c l := by kernel_rfl
theorem idealsOf1_ok (s : Int) (a : List (List Int)) (c : List (List Int)) (l : List (List Int)) (hpre : (idealsOf1_p s a c l).pre) : idealsOf1_V s a c l := by
  simp only [idealsOf1_p, idealsOf1_V, BrP_iff, true_and, and_true, decide_eq_true_eq, decide_eq_false_iff_not, bne_iff_ne, beq_iff_eq, bne_eq_false_iff_eq, beq_eq_false_iff_ne, Bool.not_eq_true, Bool.not_eq_false, Bool.not_true, Bool.not_false, Bool.not_eq_eq_eq_not, Int.toNat_natCast, List.length_append, List.length_take, List.length_replicate, List.length_set, List.length_map, List.length_drop, List.length_nil, List.length_cons, markL_length, inB, InR, room, bdsOk] at hpre ⊢
  exact hpre
theorem idealsOf1_fits : Fits Try.prog 93 ⟨[], idealsOf1_ct⟩ := by
  refine fits_fn (Γ := gam idealsOf1_G) (gok_cons isIdeal_fits gok_nil) Try.func93 (by kernel_rfl) (by kernel_rfl) (by kernel_rfl) fun ds p h hp => ?_
  unfold idealsOf1_ct at h
  split at h
  · cases h
    exact ⟨noWr, noAnn, by rw [idealsOf1_vc]; exact idealsOf1_ok _ _ _ _  hp⟩
  · cases h

def idealsOf_p (a : List (List Int)) (c : List (List Int)) : Post := ⟨twoG a c, .c (.ints 2 .i64 (odN (idB a c) (2 ^ (a.length - 1)))), []⟩
def idealsOf_ct : List AD → Option Post
  | [.agg [.rows .i64 (a), .rows .i64 (c)]] => some (idealsOf_p a c)
  | _ => none
def idealsOf_G : List (Nat × Ctr) := [(62, ⟨[], lambdaTable_ct⟩), (92, ⟨[], setsWith_ct⟩), (93, ⟨[], idealsOf1_ct⟩)]
def idealsOf_V (a : List (List Int)) (c : List (List Int)) : Prop :=
  (((Go.Sx.twoG a c) ∧
  (True)) ∧
  ((((Go.Sx.tabB a = Bool.true) ∧
  (∀ (s : Int), Go.Sx.setOk a s → Go.Sx.twoG a c ∧ Go.Sx.lamT a c = Go.Sx.lamT a c ∧ Go.Sx.setOk a s)) ∧
  (True)) ∧
  ((Go.Sx.odN (fun (x : Int) => Go.Sx.idB a c x) ((2 : Nat) ^ (List.length a - (1 : Nat))) = Go.Sx.odN (Go.Sx.idB a c) ((2 : Nat) ^ (List.length a - (1 : Nat)))) ∧
  (True))))
theorem idealsOf_vc (a : List (List Int)) (c : List (List Int)) : runF Try.prog (gam idealsOf_G) noWr noAnn Try.f55 (bodyOf Try.f55) [] [.agg [.rows .i64 (a), .rows .i64 (c)]] (idealsOf_p a c) = idealsOf_V a c := by kernel_rfl
theorem idealsOf_ok (a : List (List Int)) (c : List (List Int)) (hpre : (idealsOf_p a c).pre) : idealsOf_V a c := by
  simp only [idealsOf_p, idealsOf_V, BrP_iff, true_and, and_true, decide_eq_true_eq, decide_eq_false_iff_not, bne_iff_ne, beq_iff_eq, bne_eq_false_iff_eq, beq_eq_false_iff_ne, Bool.not_eq_true, Bool.not_eq_false, Bool.not_true, Bool.not_false, Bool.not_eq_eq_eq_not, Int.toNat_natCast, List.length_append, List.length_take, List.length_replicate, List.length_set, List.length_map, List.length_drop, List.length_nil, List.length_cons, markL_length, inB, InR, room, bdsOk] at hpre ⊢
  exact ⟨hpre, grp_tab hpre.1, fun s hs => ⟨hpre, hs⟩⟩
theorem idealsOf_fits : Fits Try.prog 55 ⟨[], idealsOf_ct⟩ := by
  refine fits_fn (Γ := gam idealsOf_G) (gok_cons lambdaTable_fits (gok_cons setsWith_fits (gok_cons idealsOf1_fits gok_nil))) Try.func55 (by kernel_rfl) (by kernel_rfl) (by kernel_rfl) fun ds p h hp => ?_
  unfold idealsOf_ct at h
  split at h
  · cases h
    exact ⟨noWr, noAnn, by rw [idealsOf_vc]; exact idealsOf_ok _ _  hp⟩
  · cases h

def l12Ideals_p (a : List (List Int)) (c : List (List Int)) : Post := ⟨twoG a c, .c (.ints 2 .i64 (odN (idB a c) (2 ^ (a.length - 1)))), []⟩
def l12Ideals_ct : List AD → Option Post
  | [.agg [.rows .i64 (a), .rows .i64 (c)]] => some (l12Ideals_p a c)
  | _ => none
def l12Ideals_ann (a : List (List Int)) (c : List (List Int)) : Nat → Option Ann
  | 0 => some (Ann.mk ((Nat)) (fun i => ⟨[(1, .c (.ptr 1 0)), (3, .c (.own (8))), (4, .c (.own (9))), (5, .c (.int .i64 ((i : Int))))], [(1, some (.box [.ro (.rows .i64 (a)), .ro (.rows .i64 (c))])), (8, some (.ints 2 .i64 (odN (clB a) (2 ^ (a.length - 1))))), (9, some (.ints 2 .i64 (((odN (clB a) (2 ^ (a.length - 1))).take i).filter (idB a c))))]⟩) (fun i => i ≤ (odN (clB a) (2 ^ (a.length - 1))).length) (fun i => (odN (clB a) (2 ^ (a.length - 1))).length - i) (fun _ => noAnn))
  | _ => none
def l12Ideals_G : List (Nat × Ctr) := [(91, ⟨[], l10Subgroups_ct⟩), (59, ⟨[], l12Ideal_ct⟩)]
def l12Ideals_V (a : List (List Int)) (c : List (List Int)) : Prop :=
  (((Go.Sx.tabB a = Bool.true) ∧
  (True)) ∧
  ((∃ x0 : Nat, ((x0 ≤ List.length (Go.Sx.odN (Go.Sx.clB a) ((2 : Nat) ^ (List.length a - (1 : Nat))))) ∧
  (((0 : Int) = (↑x0 : Int)) ∧
  ((a = a) ∧
  ((c = c) ∧
  ((Go.Sx.odN (Go.Sx.clB a) ((2 : Nat) ^ (List.length a - (1 : Nat))) = Go.Sx.odN (Go.Sx.clB a) ((2 : Nat) ^ (List.length a - (1 : Nat)))) ∧
  ([] = List.filter (Go.Sx.idB a c) (List.take x0 (Go.Sx.odN (Go.Sx.clB a) ((2 : Nat) ^ (List.length a - (1 : Nat)))))))))))) ∧
  (∀ x1 : Nat, ((x1 ≤ List.length (Go.Sx.odN (Go.Sx.clB a) ((2 : Nat) ^ (List.length a - (1 : Nat))))) →
  (BrP (Decidable.decide ((↑x1 : Int) < (↑(List.length (Go.Sx.odN (Go.Sx.clB a) ((2 : Nat) ^ (List.length a - (1 : Nat))))) : Int)))
    ((Go.Sx.inB (↑x1 : Int) (List.length (Go.Sx.odN (Go.Sx.clB a) ((2 : Nat) ^ (List.length a - (1 : Nat)))))) ∧
    ((((Go.Sx.twoG a c) ∧
    (Go.Sx.setOk a (List.getD (Go.Sx.odN (Go.Sx.clB a) ((2 : Nat) ^ (List.length a - (1 : Nat)))) (Int.toNat (↑x1 : Int)) (0 : Int)))) ∧
    (True)) ∧
    (BrP (Go.Sx.idB a c (List.getD (Go.Sx.odN (Go.Sx.clB a) ((2 : Nat) ^ (List.length a - (1 : Nat)))) (Int.toNat (↑x1 : Int)) (0 : Int)))
      ((Go.Sx.inB (↑x1 : Int) (List.length (Go.Sx.odN (Go.Sx.clB a) ((2 : Nat) ^ (List.length a - (1 : Nat)))))) ∧
      ((Go.Sx.room (List.length (List.filter (Go.Sx.idB a c) (List.take x1 (Go.Sx.odN (Go.Sx.clB a) ((2 : Nat) ^ (List.length a - (1 : Nat)))))) + List.length [List.getD (Go.Sx.odN (Go.Sx.clB a) ((2 : Nat) ^ (List.length a - (1 : Nat)))) (Int.toNat (↑x1 : Int)) (0 : Int)])) ∧
      ((Go.Sx.InR ((↑x1 : Int) + (1 : Int))) ∧
      (∃ x2 : Nat, ((x2 ≤ List.length (Go.Sx.odN (Go.Sx.clB a) ((2 : Nat) ^ (List.length a - (1 : Nat))))) ∧
      ((List.length (Go.Sx.odN (Go.Sx.clB a) ((2 : Nat) ^ (List.length a - (1 : Nat)))) - x2 < List.length (Go.Sx.odN (Go.Sx.clB a) ((2 : Nat) ^ (List.length a - (1 : Nat)))) - x1) ∧
      (((↑x1 : Int) + (1 : Int) = (↑x2 : Int)) ∧
      ((a = a) ∧
      ((c = c) ∧
      ((Go.Sx.odN (Go.Sx.clB a) ((2 : Nat) ^ (List.length a - (1 : Nat))) = Go.Sx.odN (Go.Sx.clB a) ((2 : Nat) ^ (List.length a - (1 : Nat)))) ∧
      (List.filter (Go.Sx.idB a c) (List.take x1 (Go.Sx.odN (Go.Sx.clB a) ((2 : Nat) ^ (List.length a - (1 : Nat))))) ++ [List.getD (Go.Sx.odN (Go.Sx.clB a) ((2 : Nat) ^ (List.length a - (1 : Nat)))) (Int.toNat (↑x1 : Int)) (0 : Int)] = List.filter (Go.Sx.idB a c) (List.take x2 (Go.Sx.odN (Go.Sx.clB a) ((2 : Nat) ^ (List.length a - (1 : Nat))))))))))))))))
      ((Go.Sx.InR ((↑x1 : Int) + (1 : Int))) ∧
      (∃ x3 : Nat, ((x3 ≤ List.length (Go.Sx.odN (Go.Sx.clB a) ((2 : Nat) ^ (List.length a - (1 : Nat))))) ∧
      ((List.length (Go.Sx.odN (Go.Sx.clB a) ((2 : Nat) ^ (List.length a - (1 : Nat)))) - x3 < List.length (Go.Sx.odN (Go.Sx.clB a) ((2 : Nat) ^ (List.length a - (1 : Nat)))) - x1) ∧
      (((↑x1 : Int) + (1 : Int) = (↑x3 : Int)) ∧
      ((a = a) ∧
      ((c = c) ∧
      ((Go.Sx.odN (Go.Sx.clB a) ((2 : Nat) ^ (List.length a - (1 : Nat))) = Go.Sx.odN (Go.Sx.clB a) ((2 : Nat) ^ (List.length a - (1 : Nat)))) ∧
      (List.filter (Go.Sx.idB a c) (List.take x1 (Go.Sx.odN (Go.Sx.clB a) ((2 : Nat) ^ (List.length a - (1 : Nat))))) = List.filter (Go.Sx.idB a c) (List.take x3 (Go.Sx.odN (Go.Sx.clB a) ((2 : Nat) ^ (List.length a - (1 : Nat)))))))))))))))))
    ((List.filter (Go.Sx.idB a c) (List.take x1 (Go.Sx.odN (Go.Sx.clB a) ((2 : Nat) ^ (List.length a - (1 : Nat))))) = Go.Sx.odN (Go.Sx.idB a c) ((2 : Nat) ^ (List.length a - (1 : Nat)))) ∧
    (True)))))))
theorem l12Ideals_vc (a : List (List Int)) (c : List (List Int)) : runF Try.prog (gam l12Ideals_G) noWr (l12Ideals_ann a c) Try.f54 (bodyOf Try.f54) [] [.agg [.rows .i64 (a), .rows .i64 (c)]] (l12Ideals_p a c) = l12Ideals_V a c := by kernel_rfl
theorem l12Ideals_ok (a : List (List Int)) (c : List (List Int)) (hpre : (l12Ideals_p a c).pre) : l12Ideals_V a c := by
  simp only [l12Ideals_p, l12Ideals_V, BrP_iff, true_and, and_true, decide_eq_true_eq, decide_eq_false_iff_not, bne_iff_ne, beq_iff_eq, bne_eq_false_iff_eq, beq_eq_false_iff_ne, Bool.not_eq_true, Bool.not_eq_false, Bool.not_true, Bool.not_false, Bool.not_eq_eq_eq_not, Int.toNat_natCast, List.length_append, List.length_take, List.length_replicate, List.length_set, List.length_map, List.length_drop, List.length_nil, List.length_cons, markL_length, inB, InR, room, bdsOk] at hpre ⊢
  have h1 := grp_tab hpre.1
  have n2 := (tabB_of h1).2.1
  have n1 := (tabB_of h1).1
  have q2 := pow_half_le (n := a.length) (by omega)
  have ol := odN_len (clB a) (2 ^ (a.length - 1))
  refine ⟨h1, ⟨0, by omega, rfl, rfl⟩, fun i hi => ⟨fun h => ?_, fun h => ?_⟩⟩
  · obtain ⟨j, hj, ej⟩ := odN_mem (getD_mem (odN (clB a) (2 ^ (a.length - 1))) 0 i (by omega))
    have hs : setOk a ((odN (clB a) (2 ^ (a.length - 1))).getD i 0) := by rw [ej]; exact odd_ok h1 hj
    have fl : ((odN (clB a) (2 ^ (a.length - 1))).take i |>.filter (idB a c)).length ≤ i := by
      have := List.length_filter_le (idB a c) ((odN (clB a) (2 ^ (a.length - 1))).take i)
      rw [List.length_take] at this
      omega
    refine ⟨by omega, ⟨hpre, hs⟩, fun hp => ⟨by omega, by omega, by omega, i + 1, by omega, by omega, by omega, ?_⟩, fun hp => ⟨by omega, i + 1, by omega, by omega, by omega, ?_⟩⟩
    · rw [← take_snoc _ 0 i (by omega), List.filter_append, List.filter_cons, if_pos hp]; rfl
    · rw [← take_snoc _ 0 i (by omega), List.filter_append, List.filter_cons, if_neg (by rw [hp]; decide)]; simp
  · rw [List.take_of_length_le (by omega)]
    refine odN_filter _ _ (fun s h2 => ?_) _
    simp only [idB, sgB, Bool.and_eq_true] at h2
    exact h2.1.1.1.2
theorem l12Ideals_fits : Fits Try.prog 54 ⟨[], l12Ideals_ct⟩ := by
  refine fits_fn (Γ := gam l12Ideals_G) (gok_cons l10Subgroups_fits (gok_cons l12Ideal_fits gok_nil)) Try.func54 (by kernel_rfl) (by kernel_rfl) (by kernel_rfl) fun ds p h hp => ?_
  unfold l12Ideals_ct at h
  split at h
  · cases h
    exact ⟨noWr, l12Ideals_ann _ _ , by rw [l12Ideals_vc]; exact l12Ideals_ok _ _  hp⟩
  · cases h

def idsC (a c : List (List Int)) : List Int × Int := if brcB a c = true then (odN (idB a c) (2 ^ (a.length - 1)), 0) else ([], 1)

def iIds_p (a : List (List Int)) (c : List (List Int)) : Post := ⟨roomR a ∧ roomR c, .tup [.inl (.ints 2 .i64 ((idsC a c).1)), .inl (.int .i64 ((idsC a c).2))], []⟩
def iIds_ct : List AD → Option Post
  | [.agg [.rows .i64 (a), .rows .i64 (c)]] => some (iIds_p a c)
  | _ => none
def iIds_G : List (Nat × Ctr) := [(51, ⟨[], IsBrace_ct⟩), (55, ⟨[], idealsOf_ct⟩)]
def iIds_V (a : List (List Int)) (c : List (List Int)) : Prop :=
  ((((Go.Sx.roomR a) ∧
  (Go.Sx.roomR c)) ∧
  (True)) ∧
  (BrP (!Go.Sx.brcB a c)
    ((([] = Prod.fst (Go.Sx.idsC a c)) ∧
    (((1 : Int) = Prod.snd (Go.Sx.idsC a c)) ∧
    (True))) ∧
    (True))
    (((Go.Sx.twoG a c) ∧
    (True)) ∧
    (((Go.Sx.odN (Go.Sx.idB a c) ((2 : Nat) ^ (List.length a - (1 : Nat))) = Prod.fst (Go.Sx.idsC a c)) ∧
    (((0 : Int) = Prod.snd (Go.Sx.idsC a c)) ∧
    (True))) ∧
    (True)))))
theorem iIds_vc (a : List (List Int)) (c : List (List Int)) : runF Try.prog (gam iIds_G) noWr noAnn Try.f27 (bodyOf Try.f27) [] [.agg [.rows .i64 (a), .rows .i64 (c)]] (iIds_p a c) = iIds_V a c := by kernel_rfl
theorem iIds_ok (a : List (List Int)) (c : List (List Int)) (hpre : (iIds_p a c).pre) : iIds_V a c := by
  simp only [iIds_p, iIds_V, BrP_iff, true_and, and_true, decide_eq_true_eq, decide_eq_false_iff_not, bne_iff_ne, beq_iff_eq, bne_eq_false_iff_eq, beq_eq_false_iff_ne, Bool.not_eq_true, Bool.not_eq_false, Bool.not_true, Bool.not_false, Bool.not_eq_eq_eq_not, Int.toNat_natCast, List.length_append, List.length_take, List.length_replicate, List.length_set, List.length_map, List.length_drop, List.length_nil, List.length_cons, markL_length, inB, InR, room, bdsOk] at hpre ⊢
  exact ⟨hpre, fun h => by simp [idsC, h], fun h => ⟨⟨(brcB_of h).1, (brcB_of h).2.1, (brcB_of h).2.2.1⟩, by simp [idsC, h]⟩⟩
theorem iIds_fits : Fits Try.prog 27 ⟨[], iIds_ct⟩ := by
  refine fits_fn (Γ := gam iIds_G) (gok_cons IsBrace_fits (gok_cons idealsOf_fits gok_nil)) Try.func27 (by kernel_rfl) (by kernel_rfl) (by kernel_rfl) fun ds p h hp => ?_
  unfold iIds_ct at h
  split at h
  · cases h
    exact ⟨noWr, noAnn, by rw [iIds_vc]; exact iIds_ok _ _  hp⟩
  · cases h

def sIds_p (a : List (List Int)) (c : List (List Int)) : Post := ⟨roomR a ∧ roomR c, .tup [.inl (.ints 2 .i64 ((idsC a c).1)), .inl (.int .i64 ((idsC a c).2))], []⟩
def sIds_ct : List AD → Option Post
  | [.agg [.rows .i64 (a), .rows .i64 (c)]] => some (sIds_p a c)
  | _ => none
def sIds_G : List (Nat × Ctr) := [(48, ⟨[], l11Is_ct⟩), (54, ⟨[], l12Ideals_ct⟩)]
def sIds_V (a : List (List Int)) (c : List (List Int)) : Prop :=
  ((((Go.Sx.roomR a) ∧
  (Go.Sx.roomR c)) ∧
  (True)) ∧
  (BrP (!Go.Sx.brcB a c)
    ((([] = Prod.fst (Go.Sx.idsC a c)) ∧
    (((1 : Int) = Prod.snd (Go.Sx.idsC a c)) ∧
    (True))) ∧
    (True))
    (((Go.Sx.twoG a c) ∧
    (True)) ∧
    (((Go.Sx.odN (Go.Sx.idB a c) ((2 : Nat) ^ (List.length a - (1 : Nat))) = Prod.fst (Go.Sx.idsC a c)) ∧
    (((0 : Int) = Prod.snd (Go.Sx.idsC a c)) ∧
    (True))) ∧
    (True)))))
theorem sIds_vc (a : List (List Int)) (c : List (List Int)) : runF Try.prog (gam sIds_G) noWr noAnn Try.f26 (bodyOf Try.f26) [] [.agg [.rows .i64 (a), .rows .i64 (c)]] (sIds_p a c) = sIds_V a c := by kernel_rfl
theorem sIds_ok (a : List (List Int)) (c : List (List Int)) (hpre : (sIds_p a c).pre) : sIds_V a c := by
  simp only [sIds_p, sIds_V, BrP_iff, true_and, and_true, decide_eq_true_eq, decide_eq_false_iff_not, bne_iff_ne, beq_iff_eq, bne_eq_false_iff_eq, beq_eq_false_iff_ne, Bool.not_eq_true, Bool.not_eq_false, Bool.not_true, Bool.not_false, Bool.not_eq_eq_eq_not, Int.toNat_natCast, List.length_append, List.length_take, List.length_replicate, List.length_set, List.length_map, List.length_drop, List.length_nil, List.length_cons, markL_length, inB, InR, room, bdsOk] at hpre ⊢
  exact ⟨hpre, fun h => by simp [idsC, h], fun h => ⟨⟨(brcB_of h).1, (brcB_of h).2.1, (brcB_of h).2.2.1⟩, by simp [idsC, h]⟩⟩
theorem sIds_fits : Fits Try.prog 26 ⟨[], sIds_ct⟩ := by
  refine fits_fn (Γ := gam sIds_G) (gok_cons l11Is_fits (gok_cons l12Ideals_fits gok_nil)) Try.func26 (by kernel_rfl) (by kernel_rfl) (by kernel_rfl) fun ds p h hp => ?_
  unfold sIds_ct at h
  split at h
  · cases h
    exact ⟨noWr, noAnn, by rw [sIds_vc]; exact sIds_ok _ _  hp⟩
  · cases h

def szB (a c : List (List Int)) (k : Int) : Int :=
  if (if k < (a.length : Int) + (sumL a : Int) then -1 else k - (a.length : Int) - (sumL a : Int)) < 0 then -1
  else if k - (a.length : Int) - (sumL a : Int) < (c.length : Int) + (sumL c : Int) then -1 else k - (a.length : Int) - (sumL a : Int) - (c.length : Int) - (sumL c : Int)

def szBrace_p (a : List (List Int)) (c : List (List Int)) (k : Int) : Post := ⟨((a.length : Int) ≤ 9223372036854775807 ∧ (∀ r ∈ a, (r.length : Int) ≤ 9223372036854775807)) ∧ ((c.length : Int) ≤ 9223372036854775807 ∧ (∀ r ∈ c, (r.length : Int) ≤ 9223372036854775807)) ∧ 0 ≤ k ∧ k ≤ 1099511627776, .c (.int .i64 (szB a c k)), []⟩
def szBrace_ct : List AD → Option Post
  | [.agg [.rows .i64 (a), .rows .i64 (c)], .c (.int .i64 (k))] => some (szBrace_p a c k)
  | _ => none
def szBrace_G : List (Nat × Ctr) := [(34, ⟨[], szInt64SS_ct⟩)]
def szBrace_V (a : List (List Int)) (c : List (List Int)) (k : Int) : Prop :=
  (((((↑(List.length a) : Int) ≤ (9223372036854775807 : Int)) ∧
  ((∀ (r : List Int), r ∈ a → (↑(List.length r) : Int) ≤ (9223372036854775807 : Int)) ∧
  (((0 : Int) ≤ k) ∧
  (k ≤ (1099511627776 : Int))))) ∧
  (True)) ∧
  (BrP (Decidable.decide ((if k < (↑(List.length a) : Int) + (↑(Go.Sx.sumL a) : Int) then (-1 : Int) else k - (↑(List.length a) : Int) - (↑(Go.Sx.sumL a) : Int)) < (0 : Int)))
    (((-1 : Int) = Go.Sx.szB a c k) ∧
    (True))
    (((((↑(List.length c) : Int) ≤ (9223372036854775807 : Int)) ∧
    ((∀ (r : List Int), r ∈ c → (↑(List.length r) : Int) ≤ (9223372036854775807 : Int)) ∧
    (((0 : Int) ≤ if k < (↑(List.length a) : Int) + (↑(Go.Sx.sumL a) : Int) then (-1 : Int) else k - (↑(List.length a) : Int) - (↑(Go.Sx.sumL a) : Int)) ∧
    ((if k < (↑(List.length a) : Int) + (↑(Go.Sx.sumL a) : Int) then (-1 : Int) else k - (↑(List.length a) : Int) - (↑(Go.Sx.sumL a) : Int)) ≤ (1099511627776 : Int))))) ∧
    (True)) ∧
    (BrP (Decidable.decide ((if (if k < (↑(List.length a) : Int) + (↑(Go.Sx.sumL a) : Int) then (-1 : Int) else k - (↑(List.length a) : Int) - (↑(Go.Sx.sumL a) : Int)) < (↑(List.length c) : Int) + (↑(Go.Sx.sumL c) : Int) then (-1 : Int) else (if k < (↑(List.length a) : Int) + (↑(Go.Sx.sumL a) : Int) then (-1 : Int) else k - (↑(List.length a) : Int) - (↑(Go.Sx.sumL a) : Int)) - (↑(List.length c) : Int) - (↑(Go.Sx.sumL c) : Int)) < (0 : Int)))
      (((-1 : Int) = Go.Sx.szB a c k) ∧
      (True))
      (((if (if k < (↑(List.length a) : Int) + (↑(Go.Sx.sumL a) : Int) then (-1 : Int) else k - (↑(List.length a) : Int) - (↑(Go.Sx.sumL a) : Int)) < (↑(List.length c) : Int) + (↑(Go.Sx.sumL c) : Int) then (-1 : Int) else (if k < (↑(List.length a) : Int) + (↑(Go.Sx.sumL a) : Int) then (-1 : Int) else k - (↑(List.length a) : Int) - (↑(Go.Sx.sumL a) : Int)) - (↑(List.length c) : Int) - (↑(Go.Sx.sumL c) : Int)) = Go.Sx.szB a c k) ∧
      (True))))))
theorem szBrace_vc (a : List (List Int)) (c : List (List Int)) (k : Int) : runF Try.prog (gam szBrace_G) noWr noAnn Try.f21 (bodyOf Try.f21) [] [.agg [.rows .i64 (a), .rows .i64 (c)], .c (.int .i64 (k))] (szBrace_p a c k) = szBrace_V a c k := by kernel_rfl
theorem szBrace_ok (a : List (List Int)) (c : List (List Int)) (k : Int) (hpre : (szBrace_p a c k).pre) : szBrace_V a c k := by
  simp only [szBrace_p, szBrace_V, BrP_iff, true_and, and_true, decide_eq_true_eq, decide_eq_false_iff_not, bne_iff_ne, beq_iff_eq, bne_eq_false_iff_eq, beq_eq_false_iff_ne, Bool.not_eq_true, Bool.not_eq_false, Bool.not_true, Bool.not_false, Bool.not_eq_eq_eq_not, Int.toNat_natCast, List.length_append, List.length_take, List.length_replicate, List.length_set, List.length_map, List.length_drop, List.length_nil, List.length_cons, markL_length, inB, InR, room, bdsOk] at hpre ⊢
  obtain ⟨⟨a1, a2⟩, ⟨c1, c2⟩, k1, k2⟩ := hpre
  refine ⟨⟨a1, a2, k1, k2⟩, fun h => ?_, fun h => ⟨⟨c1, c2, by omega, by split <;> omega⟩, fun h2 => ?_, fun h2 => ?_⟩⟩
  · rw [szB, if_pos h]
  · have hk : ¬ k < (a.length : Int) + (sumL a : Int) := by split at h <;> omega
    rw [if_neg hk] at h h2
    rw [szB, if_neg hk, if_neg h]
    split at h2
    · rename_i h3; rw [if_pos h3]
    · omega
  · have hk : ¬ k < (a.length : Int) + (sumL a : Int) := by split at h <;> omega
    rw [if_neg hk] at h
    rw [szB, if_neg hk, if_neg h]
theorem szBrace_fits : Fits Try.prog 21 ⟨[], szBrace_ct⟩ := by
  refine fits_fn (Γ := gam szBrace_G) (gok_cons szInt64SS_fits gok_nil) Try.func21 (by kernel_rfl) (by kernel_rfl) (by kernel_rfl) fun ds p h hp => ?_
  unfold szBrace_ct at h
  split at h
  · cases h
    exact ⟨noWr, noAnn, by rw [szBrace_vc]; exact szBrace_ok _ _ _  hp⟩
  · cases h

def toBrace_p (a : List (List Int)) (c : List (List Int)) : Post := ⟨roomR a ∧ roomR c, .agg [.rows 25 2 .i64 (a), .rows 25 2 .i64 (c)], []⟩
def toBrace_ct : List AD → Option Post
  | [.agg [.rows .i64 (a), .rows .i64 (c)]] => some (toBrace_p a c)
  | _ => none
def toBrace_G : List (Nat × Ctr) := [(38, ⟨[], toInt64SS_ct⟩)]
def toBrace_V (a : List (List Int)) (c : List (List Int)) : Prop :=
  (((Go.Sx.roomR a) ∧
  (True)) ∧
  (((Go.Sx.roomR c) ∧
  (True)) ∧
  (((a = a) ∧
  ((c = c) ∧
  (True))) ∧
  (True))))
theorem toBrace_vc (a : List (List Int)) (c : List (List Int)) : runF Try.prog (gam toBrace_G) noWr noAnn Try.f23 (bodyOf Try.f23) [] [.agg [.rows .i64 (a), .rows .i64 (c)]] (toBrace_p a c) = toBrace_V a c := by kernel_rfl
theorem toBrace_ok (a : List (List Int)) (c : List (List Int)) (hpre : (toBrace_p a c).pre) : toBrace_V a c := by
  simp only [toBrace_p, toBrace_V, BrP_iff, true_and, and_true, decide_eq_true_eq, decide_eq_false_iff_not, bne_iff_ne, beq_iff_eq, bne_eq_false_iff_eq, beq_eq_false_iff_ne, Bool.not_eq_true, Bool.not_eq_false, Bool.not_true, Bool.not_false, Bool.not_eq_eq_eq_not, Int.toNat_natCast, List.length_append, List.length_take, List.length_replicate, List.length_set, List.length_map, List.length_drop, List.length_nil, List.length_cons, markL_length, inB, InR, room, bdsOk] at hpre ⊢
  exact hpre
theorem toBrace_fits : Fits Try.prog 23 ⟨[], toBrace_ct⟩ := by
  refine fits_fn (Γ := gam toBrace_G) (gok_cons toInt64SS_fits gok_nil) Try.func23 (by kernel_rfl) (by kernel_rfl) (by kernel_rfl) fun ds p h hp => ?_
  unfold toBrace_ct at h
  split at h
  · cases h
    exact ⟨noWr, noAnn, by rw [toBrace_vc]; exact toBrace_ok _ _  hp⟩
  · cases h

def eqBrace_p (a : List (List Int)) (c : List (List Int)) (a2 : List (List Int)) (c2 : List (List Int)) : Post := ⟨roomR a ∧ roomR c, .c (.bool (decide (a = a2 ∧ c = c2))), []⟩
def eqBrace_ct : List AD → Option Post
  | [.agg [.rows .i64 (a), .rows .i64 (c)], .agg [.rows .i64 (a2), .rows .i64 (c2)]] => some (eqBrace_p a c a2 c2)
  | _ => none
def eqBrace_G : List (Nat × Ctr) := [(41, ⟨[], eqInt64SS_ct⟩)]
def eqBrace_V (a : List (List Int)) (c : List (List Int)) (a2 : List (List Int)) (c2 : List (List Int)) : Prop :=
  (((Go.Sx.roomR a) ∧
  (True)) ∧
  (BrP (!Decidable.decide (a = a2))
    ((Bool.false = Decidable.decide (a = a2 ∧ c = c2)) ∧
    (True))
    (((Go.Sx.roomR c) ∧
    (True)) ∧
    (BrP (!Decidable.decide (c = c2))
      ((Bool.false = Decidable.decide (a = a2 ∧ c = c2)) ∧
      (True))
      ((Bool.true = Decidable.decide (a = a2 ∧ c = c2)) ∧
      (True))))))
theorem eqBrace_vc (a : List (List Int)) (c : List (List Int)) (a2 : List (List Int)) (c2 : List (List Int)) : runF Try.prog (gam eqBrace_G) noWr noAnn Try.f25 (bodyOf Try.f25) [] [.agg [.rows .i64 (a), .rows .i64 (c)], .agg [.rows .i64 (a2), .rows .i64 (c2)]] (eqBrace_p a c a2 c2) = eqBrace_V a c a2 c2 := by kernel_rfl
theorem eqBrace_ok (a : List (List Int)) (c : List (List Int)) (a2 : List (List Int)) (c2 : List (List Int)) (hpre : (eqBrace_p a c a2 c2).pre) : eqBrace_V a c a2 c2 := by
  simp only [eqBrace_p, eqBrace_V, BrP_iff, true_and, and_true, decide_eq_true_eq, decide_eq_false_iff_not, bne_iff_ne, beq_iff_eq, bne_eq_false_iff_eq, beq_eq_false_iff_ne, Bool.not_eq_true, Bool.not_eq_false, Bool.not_true, Bool.not_false, Bool.not_eq_eq_eq_not, Int.toNat_natCast, List.length_append, List.length_take, List.length_replicate, List.length_set, List.length_map, List.length_drop, List.length_nil, List.length_cons, markL_length, inB, InR, room, bdsOk] at hpre ⊢
  refine ⟨hpre.1, fun h => (decide_eq_false fun e => h e.1).symm, fun h => ⟨hpre.2, fun h2 => (decide_eq_false fun e => h2 e.2).symm, fun h2 => (decide_eq_true ⟨h, h2⟩).symm⟩⟩
theorem eqBrace_fits : Fits Try.prog 25 ⟨[], eqBrace_ct⟩ := by
  refine fits_fn (Γ := gam eqBrace_G) (gok_cons eqInt64SS_fits gok_nil) Try.func25 (by kernel_rfl) (by kernel_rfl) (by kernel_rfl) fun ds p h hp => ?_
  unfold eqBrace_ct at h
  split at h
  · cases h
    exact ⟨noWr, noAnn, by rw [eqBrace_vc]; exact eqBrace_ok _ _ _ _  hp⟩
  · cases h

def markBrace_p (a : List (List Int)) (c : List (List Int)) (k : Int) : Post := ⟨a.length ≤ 1048576 ∧ sumL a ≤ 1048576 ∧ c.length ≤ 1048576 ∧ sumL c ≤ 1048576 ∧ 0 ≤ k ∧ k ≤ 1000000000, .c (.int .i64 (k + (sumL a : Int) + (sumL c : Int))), [.rows 25 2 .i64 (markR a k), .rows 25 2 .i64 (markR c (k + (sumL a : Int)))]⟩
def markBrace_ct : List AD → Option Post
  | [.agg [.rows .i64 (a), .rows .i64 (c)], .c (.int .i64 (k))] => some (markBrace_p a c k)
  | _ => none
def markBrace_G : List (Nat × Ctr) := [(42, ⟨[(0, 0)], markInt64SS_ct⟩)]
def markBrace_V (a : List (List Int)) (c : List (List Int)) (k : Int) : Prop :=
  ((((List.length a ≤ (1048576 : Nat)) ∧
  ((Go.Sx.sumL a ≤ (1048576 : Nat)) ∧
  (((0 : Int) ≤ k) ∧
  (k ≤ (1073741824 : Int))))) ∧
  ((List.map List.length (Go.Sx.markR a k) = List.map List.length a) ∧
  (True))) ∧
  ((((List.length c ≤ (1048576 : Nat)) ∧
  ((Go.Sx.sumL c ≤ (1048576 : Nat)) ∧
  (((0 : Int) ≤ k + (↑(Go.Sx.sumL a) : Int)) ∧
  (k + (↑(Go.Sx.sumL a) : Int) ≤ (1073741824 : Int))))) ∧
  ((List.map List.length (Go.Sx.markR c (k + (↑(Go.Sx.sumL a) : Int))) = List.map List.length c) ∧
  (True))) ∧
  ((k + (↑(Go.Sx.sumL a) : Int) + (↑(Go.Sx.sumL c) : Int) = k + (↑(Go.Sx.sumL a) : Int) + (↑(Go.Sx.sumL c) : Int)) ∧
  ((Go.Sx.markR a k = Go.Sx.markR a k) ∧
  ((Go.Sx.markR c (k + (↑(Go.Sx.sumL a) : Int)) = Go.Sx.markR c (k + (↑(Go.Sx.sumL a) : Int))) ∧
  (True))))))
theorem markBrace_vc (a : List (List Int)) (c : List (List Int)) (k : Int) : runF Try.prog (gam markBrace_G) noWr noAnn Try.f28 (bodyOf Try.f28) [(0, 0), (0, 1)] [.agg [.rows .i64 (a), .rows .i64 (c)], .c (.int .i64 (k))] (markBrace_p a c k) = markBrace_V a c k := by kernel_rfl
theorem markBrace_ok (a : List (List Int)) (c : List (List Int)) (k : Int) (hpre : (markBrace_p a c k).pre) : markBrace_V a c k := by
  simp only [markBrace_p, markBrace_V, BrP_iff, true_and, and_true, decide_eq_true_eq, decide_eq_false_iff_not, bne_iff_ne, beq_iff_eq, bne_eq_false_iff_eq, beq_eq_false_iff_ne, Bool.not_eq_true, Bool.not_eq_false, Bool.not_true, Bool.not_false, Bool.not_eq_eq_eq_not, Int.toNat_natCast, List.length_append, List.length_take, List.length_replicate, List.length_set, List.length_map, List.length_drop, List.length_nil, List.length_cons, markL_length, inB, InR, room, bdsOk] at hpre ⊢
  obtain ⟨a1, a2, c1, c2, k1, k2⟩ := hpre
  exact ⟨⟨⟨a1, a2, k1, by omega⟩, markR_lens a k⟩, ⟨c1, c2, by omega, by omega⟩, markR_lens c _⟩
theorem markBrace_fits : Fits Try.prog 28 ⟨[(0, 0), (0, 1)], markBrace_ct⟩ := by
  refine fits_fn (Γ := gam markBrace_G) (gok_cons markInt64SS_fits gok_nil) Try.func28 (by kernel_rfl) (by kernel_rfl) (by kernel_rfl) fun ds p h hp => ?_
  unfold markBrace_ct at h
  split at h
  · cases h
    exact ⟨noWr, noAnn, by rw [markBrace_vc]; exact markBrace_ok _ _ _  hp⟩
  · cases h

end Go.Sx

