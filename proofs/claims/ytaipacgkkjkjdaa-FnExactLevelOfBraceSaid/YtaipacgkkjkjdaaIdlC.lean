/- Contracts of ideals. -/
import Derived.Test.YtaipacgkkjkjdaaBrcC
import Derived.Test.YtaipacgkkjkjdaaIdl
open Go Go.Proofs
namespace Go.Sx
set_option linter.unusedSimpArgs false
set_option linter.unusedVariables false

theorem els_in {t : List (List Int)} {s : Int} (h : setOk t s) : ∀ i, i < (elN s 12).length → 0 ≤ (elN s 12).getD i 0 ∧ (elN s 12).getD i 0 ≤ (t.length : Int) - 1 := fun i hi => by
  have hn := (tabB_of h.1).2.1
  have e := elN_stop h.2.2 (12 - t.length)
  rw [show t.length + (12 - t.length) = 12 by omega] at e
  have := elN_in s t.length ((elN s 12).getD i 0) (by rw [← e]; exact getD_mem _ _ _ hi)
  omega

def isSubgroup_p (t : List (List Int)) (s : Int) : Post := ⟨setOk t s, .c (.bool (sgB t s)), []⟩
def isSubgroup_ct : List AD → Option Post
  | [.c (.rows .i64 (t)), .c (.int .i64 (s))] => some (isSubgroup_p t s)
  | _ => none
def isSubgroup_ann (t : List (List Int)) (s : Int) : Nat → Option Ann
  | 0 => some (Ann.mk ((Nat)) (fun i => ⟨[(0, .c (.ro (.rows .i64 (t)))), (1, .c (.int .i64 (s))), (5, .c (.own (14))), (15, .c (.own (14))), (16, .c (.int .i64 (((elN s 12).length : Int)))), (17, .c (.int .i64 ((i : Int))))], [(14, some (.ints 2 .i64 (elN s 12)))]⟩) (fun i => i ≤ (elN s 12).length ∧ bitB s 0 = true ∧ clB t s = ((elN s 12).drop i).all (clL t s)) (fun i => (elN s 12).length - i) (fun i => fun b_ => match b_ with | 2 => some (Ann.mk ((Nat)) (fun j => ⟨[(0, .c (.ro (.rows .i64 (t)))), (1, .c (.int .i64 (s))), (5, .c (.own (14))), (15, .c (.own (14))), (16, .c (.int .i64 (((elN s 12).length : Int)))), (17, .c (.int .i64 ((i : Int)))), (7, .c (.int .i64 ((elN s 12).getD i 0))), (21, .c (.own (14))), (22, .c (.int .i64 (((elN s 12).length : Int)))), (23, .c (.int .i64 ((j : Int))))], [(14, some (.ints 2 .i64 (elN s 12)))]⟩) (fun j => j ≤ (elN s 12).length ∧ i < (elN s 12).length ∧ clB t s = (((elN s 12).drop j).all (fun y => bitB s (en t ((elN s 12).getD i 0).toNat y.toNat).toNat) && ((elN s 12).drop (i + 1)).all (clL t s))) (fun j => (elN s 12).length - j) (fun _ => noAnn)) | _ => none))
  | _ => none
def isSubgroup_G : List (Nat × Ctr) := [(127, ⟨[], hasBit_ct⟩), (118, ⟨[], elementsOf_ct⟩)]
def isSubgroup_V (t : List (List Int)) (s : Int) : Prop :=
  (((((0 : Int) ≤ s) ∧
  ((s ≤ (9223372036854775807 : Int)) ∧
  (((0 : Int) ≤ (0 : Int)) ∧
  ((0 : Int) ≤ (62 : Int))))) ∧
  (True)) ∧
  (BrP (!Go.Sx.bitB s (Int.toNat (0 : Int)))
    ((Bool.false = Go.Sx.sgB t s) ∧
    (True))
    (((((0 : Int) ≤ s) ∧
    (s < (4096 : Int))) ∧
    (True)) ∧
    ((∃ x0 : Nat, (((x0 ≤ List.length (Go.Sx.elN s (12 : Nat))) ∧
    ((Go.Sx.bitB s (0 : Nat) = Bool.true) ∧
    (Go.Sx.clB t s = List.all (List.drop x0 (Go.Sx.elN s (12 : Nat))) (Go.Sx.clL t s)))) ∧
    ((t = t) ∧
    ((s = s) ∧
    (((↑(List.length (Go.Sx.elN s (12 : Nat))) : Int) = (↑(List.length (Go.Sx.elN s (12 : Nat))) : Int)) ∧
    (((0 : Int) = (↑x0 : Int)) ∧
    (Go.Sx.elN s (12 : Nat) = Go.Sx.elN s (12 : Nat)))))))) ∧
    (∀ x1 : Nat, (((x1 ≤ List.length (Go.Sx.elN s (12 : Nat))) ∧
    ((Go.Sx.bitB s (0 : Nat) = Bool.true) ∧
    (Go.Sx.clB t s = List.all (List.drop x1 (Go.Sx.elN s (12 : Nat))) (Go.Sx.clL t s)))) →
    (BrP (Decidable.decide ((↑x1 : Int) < (↑(List.length (Go.Sx.elN s (12 : Nat))) : Int)))
      ((Go.Sx.inB (↑x1 : Int) (List.length (Go.Sx.elN s (12 : Nat)))) ∧
      ((∃ x2 : Nat, (((x2 ≤ List.length (Go.Sx.elN s (12 : Nat))) ∧
      ((x1 < List.length (Go.Sx.elN s (12 : Nat))) ∧
      (Go.Sx.clB t s = ((List.all (List.drop x2 (Go.Sx.elN s (12 : Nat))) fun (y : Int) => Go.Sx.bitB s (Int.toNat (Go.Sx.en t (Int.toNat (List.getD (Go.Sx.elN s (12 : Nat)) x1 (0 : Int))) (Int.toNat y)))) && List.all (List.drop (x1 + (1 : Nat)) (Go.Sx.elN s (12 : Nat))) (Go.Sx.clL t s))))) ∧
      ((t = t) ∧
      ((s = s) ∧
      (((↑(List.length (Go.Sx.elN s (12 : Nat))) : Int) = (↑(List.length (Go.Sx.elN s (12 : Nat))) : Int)) ∧
      (((↑x1 : Int) = (↑x1 : Int)) ∧
      ((List.getD (Go.Sx.elN s (12 : Nat)) (Int.toNat (↑x1 : Int)) (0 : Int) = List.getD (Go.Sx.elN s (12 : Nat)) x1 (0 : Int)) ∧
      (((↑(List.length (Go.Sx.elN s (12 : Nat))) : Int) = (↑(List.length (Go.Sx.elN s (12 : Nat))) : Int)) ∧
      (((0 : Int) = (↑x2 : Int)) ∧
      (Go.Sx.elN s (12 : Nat) = Go.Sx.elN s (12 : Nat))))))))))) ∧
      (∀ x3 : Nat, (((x3 ≤ List.length (Go.Sx.elN s (12 : Nat))) ∧
      ((x1 < List.length (Go.Sx.elN s (12 : Nat))) ∧
      (Go.Sx.clB t s = ((List.all (List.drop x3 (Go.Sx.elN s (12 : Nat))) fun (y : Int) => Go.Sx.bitB s (Int.toNat (Go.Sx.en t (Int.toNat (List.getD (Go.Sx.elN s (12 : Nat)) x1 (0 : Int))) (Int.toNat y)))) && List.all (List.drop (x1 + (1 : Nat)) (Go.Sx.elN s (12 : Nat))) (Go.Sx.clL t s))))) →
      (BrP (Decidable.decide ((↑x3 : Int) < (↑(List.length (Go.Sx.elN s (12 : Nat))) : Int)))
        ((Go.Sx.inB (↑x3 : Int) (List.length (Go.Sx.elN s (12 : Nat)))) ∧
        ((Go.Sx.inB (List.getD (Go.Sx.elN s (12 : Nat)) x1 (0 : Int)) (List.length t)) ∧
        ((Go.Sx.inB (List.getD (Go.Sx.elN s (12 : Nat)) (Int.toNat (↑x3 : Int)) (0 : Int)) (List.length (List.getD t (Int.toNat (List.getD (Go.Sx.elN s (12 : Nat)) x1 (0 : Int))) []))) ∧
        (((((0 : Int) ≤ s) ∧
        ((s ≤ (9223372036854775807 : Int)) ∧
        (((0 : Int) ≤ List.getD (List.getD t (Int.toNat (List.getD (Go.Sx.elN s (12 : Nat)) x1 (0 : Int))) []) (Int.toNat (List.getD (Go.Sx.elN s (12 : Nat)) (Int.toNat (↑x3 : Int)) (0 : Int))) (0 : Int)) ∧
        (List.getD (List.getD t (Int.toNat (List.getD (Go.Sx.elN s (12 : Nat)) x1 (0 : Int))) []) (Int.toNat (List.getD (Go.Sx.elN s (12 : Nat)) (Int.toNat (↑x3 : Int)) (0 : Int))) (0 : Int) ≤ (62 : Int))))) ∧
        (True)) ∧
        (BrP (!Go.Sx.bitB s (Int.toNat (List.getD (List.getD t (Int.toNat (List.getD (Go.Sx.elN s (12 : Nat)) x1 (0 : Int))) []) (Int.toNat (List.getD (Go.Sx.elN s (12 : Nat)) (Int.toNat (↑x3 : Int)) (0 : Int))) (0 : Int))))
          ((Bool.false = Go.Sx.sgB t s) ∧
          (True))
          ((Go.Sx.InR ((↑x3 : Int) + (1 : Int))) ∧
          (∃ x4 : Nat, (((x4 ≤ List.length (Go.Sx.elN s (12 : Nat))) ∧
          ((x1 < List.length (Go.Sx.elN s (12 : Nat))) ∧
          (Go.Sx.clB t s = ((List.all (List.drop x4 (Go.Sx.elN s (12 : Nat))) fun (y : Int) => Go.Sx.bitB s (Int.toNat (Go.Sx.en t (Int.toNat (List.getD (Go.Sx.elN s (12 : Nat)) x1 (0 : Int))) (Int.toNat y)))) && List.all (List.drop (x1 + (1 : Nat)) (Go.Sx.elN s (12 : Nat))) (Go.Sx.clL t s))))) ∧
          ((List.length (Go.Sx.elN s (12 : Nat)) - x4 < List.length (Go.Sx.elN s (12 : Nat)) - x3) ∧
          ((t = t) ∧
          ((s = s) ∧
          (((↑(List.length (Go.Sx.elN s (12 : Nat))) : Int) = (↑(List.length (Go.Sx.elN s (12 : Nat))) : Int)) ∧
          (((↑x1 : Int) = (↑x1 : Int)) ∧
          ((List.getD (Go.Sx.elN s (12 : Nat)) x1 (0 : Int) = List.getD (Go.Sx.elN s (12 : Nat)) x1 (0 : Int)) ∧
          (((↑(List.length (Go.Sx.elN s (12 : Nat))) : Int) = (↑(List.length (Go.Sx.elN s (12 : Nat))) : Int)) ∧
          (((↑x3 : Int) + (1 : Int) = (↑x4 : Int)) ∧
          (Go.Sx.elN s (12 : Nat) = Go.Sx.elN s (12 : Nat))))))))))))))))))
        ((Go.Sx.InR ((↑x1 : Int) + (1 : Int))) ∧
        (∃ x5 : Nat, (((x5 ≤ List.length (Go.Sx.elN s (12 : Nat))) ∧
        ((Go.Sx.bitB s (0 : Nat) = Bool.true) ∧
        (Go.Sx.clB t s = List.all (List.drop x5 (Go.Sx.elN s (12 : Nat))) (Go.Sx.clL t s)))) ∧
        ((List.length (Go.Sx.elN s (12 : Nat)) - x5 < List.length (Go.Sx.elN s (12 : Nat)) - x1) ∧
        ((t = t) ∧
        ((s = s) ∧
        (((↑(List.length (Go.Sx.elN s (12 : Nat))) : Int) = (↑(List.length (Go.Sx.elN s (12 : Nat))) : Int)) ∧
        (((↑x1 : Int) + (1 : Int) = (↑x5 : Int)) ∧
        (Go.Sx.elN s (12 : Nat) = Go.Sx.elN s (12 : Nat)))))))))))))))
      ((Bool.true = Go.Sx.sgB t s) ∧
      (True)))))))))
theorem isSubgroup_vc (t : List (List Int)) (s : Int) : runF Try.prog (gam isSubgroup_G) noWr (isSubgroup_ann t s) Try.f126 (bodyOf Try.f126) [] [.c (.rows .i64 (t)), .c (.int .i64 (s))] (isSubgroup_p t s) = isSubgroup_V t s := by kernel_rfl
theorem isSubgroup_ok (t : List (List Int)) (s : Int) (hpre : (isSubgroup_p t s).pre) : isSubgroup_V t s := by
  simp only [isSubgroup_p, isSubgroup_V, BrP_iff, true_and, and_true, decide_eq_true_eq, decide_eq_false_iff_not, bne_iff_ne, beq_iff_eq, bne_eq_false_iff_eq, beq_eq_false_iff_ne, Bool.not_eq_true, Bool.not_eq_false, Bool.not_true, Bool.not_false, Bool.not_eq_eq_eq_not, Int.toNat_natCast, List.length_append, List.length_take, List.length_replicate, List.length_set, List.length_map, List.length_drop, List.length_nil, List.length_cons, markL_length, inB, InR, room, bdsOk] at hpre ⊢
  have S := setOk_of hpre
  obtain ⟨n1, n2, ht⟩ := tabB_of hpre.1
  have E := els_in hpre
  have eL := elN_len s 12
  refine ⟨by omega, fun h => by rw [sgB, show bitB s 0 = false from h]; rfl, fun h => ⟨by omega, ⟨0, ⟨by omega, h, (clL_eq hpre).symm⟩, rfl⟩, fun i ⟨hi, _, he⟩ => ⟨fun h3 => ⟨by omega, ⟨0, ⟨by omega, by omega, ?_⟩, rfl⟩, fun j ⟨hj, _, hy⟩ => ⟨fun h4 => ?_, fun h4 => ?_⟩⟩, fun h3 => ?_⟩⟩⟩
  · rw [he, allG_drop 0 _ (by omega)]; rfl
  · have A := E i (by omega)
    have B := E j (by omega)
    have r := ht ((elN s 12).getD i 0).toNat (by omega)
    have v := r.2 ((elN s 12).getD j 0).toNat (by omega)
    rw [allG_drop 0 _ (by omega)] at hy
    refine ⟨by omega, by omega, by omega, ⟨by omega, by omega, by omega, by omega⟩, fun hb => ?_, fun hb => ⟨by omega, j + 1, ⟨by omega, by omega, ?_⟩, by omega, by omega⟩⟩
    · have e : bitB s (en t ((elN s 12).getD i 0).toNat ((elN s 12).getD j 0).toNat).toNat = false := hb
      rw [sgB, hy, e]; simp
    · have e : bitB s (en t ((elN s 12).getD i 0).toNat ((elN s 12).getD j 0).toNat).toNat = true := hb
      rw [hy, e, Bool.true_and]
  · refine ⟨by omega, i + 1, ⟨by omega, h, ?_⟩, by omega, by omega⟩
    rw [hy, List.drop_of_length_le (by omega)]; rfl
  · rw [sgB, show bitB s 0 = true from h, he, List.drop_of_length_le (by omega)]; rfl
theorem isSubgroup_fits : Fits Try.prog 126 ⟨[], isSubgroup_ct⟩ := by
  refine fits_fn (Γ := gam isSubgroup_G) (gok_cons hasBit_fits (gok_cons elementsOf_fits gok_nil)) Try.func126 (by kernel_rfl) (by kernel_rfl) (by kernel_rfl) fun ds p h hp => ?_
  unfold isSubgroup_ct at h
  split at h
  · cases h
    exact ⟨noWr, isSubgroup_ann _ _ , by rw [isSubgroup_vc]; exact isSubgroup_ok _ _  hp⟩
  · cases h

def nmP (t : List (List Int)) (s : Int) (x : Nat) (y : Int) : Bool := bitB s (en t (en t x y.toNat).toNat (bk t x).toNat).toNat

def isNormal_p (t : List (List Int)) (s : Int) : Post := ⟨grpB t = true ∧ setOk t s, .c (.bool (nmB t s)), []⟩
def isNormal_ct : List AD → Option Post
  | [.c (.rows .i64 (t)), .c (.int .i64 (s))] => some (isNormal_p t s)
  | _ => none
def isNormal_ann (t : List (List Int)) (s : Int) : Nat → Option Ann
  | 0 => some (Ann.mk ((Nat)) (fun i => ⟨[(0, .c (.ro (.rows .i64 (t)))), (1, .c (.int .i64 (s))), (5, .c (.own (10))), (12, .c (.int .i64 ((t.length : Int)))), (13, .c (.int .i64 ((i : Int))))], [(10, some (.ints 2 .i64 (bkL t)))]⟩) (fun i => i ≤ t.length ∧ nmB t s = (List.range' i (t.length - i)).all (nmL t s)) (fun i => t.length - i) (fun i => fun b_ => match b_ with | 2 => some (Ann.mk ((Nat)) (fun j => ⟨[(0, .c (.ro (.rows .i64 (t)))), (1, .c (.int .i64 (s))), (5, .c (.own (10))), (12, .c (.int .i64 ((t.length : Int)))), (13, .c (.int .i64 ((i : Int)))), (6, .c (.int .i64 ((i : Int)))), (17, .c (.own (17))), (18, .c (.int .i64 (((elN s 12).length : Int)))), (19, .c (.int .i64 ((j : Int))))], [(10, some (.ints 2 .i64 (bkL t))), (17, some (.ints 2 .i64 (elN s 12)))]⟩) (fun j => j ≤ (elN s 12).length ∧ i < t.length ∧ nmB t s = (((elN s 12).drop j).all (nmP t s i) && (List.range' (i + 1) (t.length - (i + 1))).all (nmL t s))) (fun j => (elN s 12).length - j) (fun _ => noAnn)) | _ => none))
  | _ => none
def isNormal_G : List (Nat × Ctr) := [(95, ⟨[], groupInverses_ct⟩), (118, ⟨[], elementsOf_ct⟩), (127, ⟨[], hasBit_ct⟩)]
def isNormal_V (t : List (List Int)) (s : Int) : Prop :=
  (((Go.Sx.tabB t = Bool.true) ∧
  (True)) ∧
  ((∃ x0 : Nat, (((x0 ≤ List.length t) ∧
  (Go.Sx.nmB t s = List.all (List.range' x0 (List.length t - x0)) (Go.Sx.nmL t s))) ∧
  ((t = t) ∧
  ((s = s) ∧
  (((↑(List.length t) : Int) = (↑(List.length t) : Int)) ∧
  (((0 : Int) = (↑x0 : Int)) ∧
  (Go.Sx.bkL t = Go.Sx.bkL t))))))) ∧
  (∀ x1 : Nat, (((x1 ≤ List.length t) ∧
  (Go.Sx.nmB t s = List.all (List.range' x1 (List.length t - x1)) (Go.Sx.nmL t s))) →
  (BrP (Decidable.decide ((↑x1 : Int) < (↑(List.length t) : Int)))
    (((((0 : Int) ≤ s) ∧
    (s < (4096 : Int))) ∧
    (True)) ∧
    ((∃ x2 : Nat, (((x2 ≤ List.length (Go.Sx.elN s (12 : Nat))) ∧
    ((x1 < List.length t) ∧
    (Go.Sx.nmB t s = (List.all (List.drop x2 (Go.Sx.elN s (12 : Nat))) (Go.Sx.nmP t s x1) && List.all (List.range' (x1 + (1 : Nat)) (List.length t - (x1 + (1 : Nat)))) (Go.Sx.nmL t s))))) ∧
    ((t = t) ∧
    ((s = s) ∧
    (((↑(List.length t) : Int) = (↑(List.length t) : Int)) ∧
    (((↑x1 : Int) = (↑x1 : Int)) ∧
    (((↑x1 : Int) = (↑x1 : Int)) ∧
    (((↑(List.length (Go.Sx.elN s (12 : Nat))) : Int) = (↑(List.length (Go.Sx.elN s (12 : Nat))) : Int)) ∧
    (((0 : Int) = (↑x2 : Int)) ∧
    ((Go.Sx.bkL t = Go.Sx.bkL t) ∧
    (Go.Sx.elN s (12 : Nat) = Go.Sx.elN s (12 : Nat)))))))))))) ∧
    (∀ x3 : Nat, (((x3 ≤ List.length (Go.Sx.elN s (12 : Nat))) ∧
    ((x1 < List.length t) ∧
    (Go.Sx.nmB t s = (List.all (List.drop x3 (Go.Sx.elN s (12 : Nat))) (Go.Sx.nmP t s x1) && List.all (List.range' (x1 + (1 : Nat)) (List.length t - (x1 + (1 : Nat)))) (Go.Sx.nmL t s))))) →
    (BrP (Decidable.decide ((↑x3 : Int) < (↑(List.length (Go.Sx.elN s (12 : Nat))) : Int)))
      ((Go.Sx.inB (↑x3 : Int) (List.length (Go.Sx.elN s (12 : Nat)))) ∧
      ((Go.Sx.inB (↑x1 : Int) (List.length t)) ∧
      ((Go.Sx.inB (List.getD (Go.Sx.elN s (12 : Nat)) (Int.toNat (↑x3 : Int)) (0 : Int)) (List.length (List.getD t (Int.toNat (↑x1 : Int)) []))) ∧
      ((Go.Sx.inB (List.getD (List.getD t (Int.toNat (↑x1 : Int)) []) (Int.toNat (List.getD (Go.Sx.elN s (12 : Nat)) (Int.toNat (↑x3 : Int)) (0 : Int))) (0 : Int)) (List.length t)) ∧
      ((Go.Sx.inB (↑x1 : Int) (List.length (Go.Sx.bkL t))) ∧
      ((Go.Sx.inB (List.getD (Go.Sx.bkL t) (Int.toNat (↑x1 : Int)) (0 : Int)) (List.length (List.getD t (Int.toNat (List.getD (List.getD t (Int.toNat (↑x1 : Int)) []) (Int.toNat (List.getD (Go.Sx.elN s (12 : Nat)) (Int.toNat (↑x3 : Int)) (0 : Int))) (0 : Int))) []))) ∧
      (((((0 : Int) ≤ s) ∧
      ((s ≤ (9223372036854775807 : Int)) ∧
      (((0 : Int) ≤ List.getD (List.getD t (Int.toNat (List.getD (List.getD t (Int.toNat (↑x1 : Int)) []) (Int.toNat (List.getD (Go.Sx.elN s (12 : Nat)) (Int.toNat (↑x3 : Int)) (0 : Int))) (0 : Int))) []) (Int.toNat (List.getD (Go.Sx.bkL t) (Int.toNat (↑x1 : Int)) (0 : Int))) (0 : Int)) ∧
      (List.getD (List.getD t (Int.toNat (List.getD (List.getD t (Int.toNat (↑x1 : Int)) []) (Int.toNat (List.getD (Go.Sx.elN s (12 : Nat)) (Int.toNat (↑x3 : Int)) (0 : Int))) (0 : Int))) []) (Int.toNat (List.getD (Go.Sx.bkL t) (Int.toNat (↑x1 : Int)) (0 : Int))) (0 : Int) ≤ (62 : Int))))) ∧
      (True)) ∧
      (BrP (!Go.Sx.bitB s (Int.toNat (List.getD (List.getD t (Int.toNat (List.getD (List.getD t (Int.toNat (↑x1 : Int)) []) (Int.toNat (List.getD (Go.Sx.elN s (12 : Nat)) (Int.toNat (↑x3 : Int)) (0 : Int))) (0 : Int))) []) (Int.toNat (List.getD (Go.Sx.bkL t) (Int.toNat (↑x1 : Int)) (0 : Int))) (0 : Int))))
        ((Bool.false = Go.Sx.nmB t s) ∧
        (True))
        ((Go.Sx.InR ((↑x3 : Int) + (1 : Int))) ∧
        (∃ x4 : Nat, (((x4 ≤ List.length (Go.Sx.elN s (12 : Nat))) ∧
        ((x1 < List.length t) ∧
        (Go.Sx.nmB t s = (List.all (List.drop x4 (Go.Sx.elN s (12 : Nat))) (Go.Sx.nmP t s x1) && List.all (List.range' (x1 + (1 : Nat)) (List.length t - (x1 + (1 : Nat)))) (Go.Sx.nmL t s))))) ∧
        ((List.length (Go.Sx.elN s (12 : Nat)) - x4 < List.length (Go.Sx.elN s (12 : Nat)) - x3) ∧
        ((t = t) ∧
        ((s = s) ∧
        (((↑(List.length t) : Int) = (↑(List.length t) : Int)) ∧
        (((↑x1 : Int) = (↑x1 : Int)) ∧
        (((↑x1 : Int) = (↑x1 : Int)) ∧
        (((↑(List.length (Go.Sx.elN s (12 : Nat))) : Int) = (↑(List.length (Go.Sx.elN s (12 : Nat))) : Int)) ∧
        (((↑x3 : Int) + (1 : Int) = (↑x4 : Int)) ∧
        ((Go.Sx.bkL t = Go.Sx.bkL t) ∧
        (Go.Sx.elN s (12 : Nat) = Go.Sx.elN s (12 : Nat))))))))))))))))))))))
      ((Go.Sx.InR ((↑x1 : Int) + (1 : Int))) ∧
      (∃ x5 : Nat, (((x5 ≤ List.length t) ∧
      (Go.Sx.nmB t s = List.all (List.range' x5 (List.length t - x5)) (Go.Sx.nmL t s))) ∧
      ((List.length t - x5 < List.length t - x1) ∧
      ((t = t) ∧
      ((s = s) ∧
      (((↑(List.length t) : Int) = (↑(List.length t) : Int)) ∧
      (((↑x1 : Int) + (1 : Int) = (↑x5 : Int)) ∧
      (Go.Sx.bkL t = Go.Sx.bkL t))))))))))))))
    ((Bool.true = Go.Sx.nmB t s) ∧
    (True)))))))
theorem isNormal_vc (t : List (List Int)) (s : Int) : runF Try.prog (gam isNormal_G) noWr (isNormal_ann t s) Try.f103 (bodyOf Try.f103) [] [.c (.rows .i64 (t)), .c (.int .i64 (s))] (isNormal_p t s) = isNormal_V t s := by kernel_rfl
theorem isNormal_ok (t : List (List Int)) (s : Int) (hpre : (isNormal_p t s).pre) : isNormal_V t s := by
  simp only [isNormal_p, isNormal_V, BrP_iff, true_and, and_true, decide_eq_true_eq, decide_eq_false_iff_not, bne_iff_ne, beq_iff_eq, bne_eq_false_iff_eq, beq_eq_false_iff_ne, Bool.not_eq_true, Bool.not_eq_false, Bool.not_true, Bool.not_false, Bool.not_eq_eq_eq_not, Int.toNat_natCast, List.length_append, List.length_take, List.length_replicate, List.length_set, List.length_map, List.length_drop, List.length_nil, List.length_cons, markL_length, inB, InR, room, bdsOk] at hpre ⊢
  obtain ⟨hg, hs⟩ := hpre
  have S := setOk_of hs
  obtain ⟨n1, n2, ht⟩ := tabB_of hs.1
  have E := els_in hs
  have eL := elN_len s 12
  have hbl := bkL_length t
  refine ⟨hs.1, ⟨0, ⟨by omega, by rw [← nmL_eq hs, rg_start]⟩, rfl⟩, fun i ⟨hi, he⟩ => ⟨fun h3 => ⟨by omega, ⟨0, ⟨by omega, by omega, ?_⟩, rfl⟩, fun j ⟨hj, _, hy⟩ => ⟨fun h4 => ?_, fun h4 => ?_⟩⟩, fun h3 => by rw [he, rg_end _ (by omega)]⟩⟩
  · rw [he, rg_step _ (by omega)]; rfl
  · have B := E j (by omega)
    have r := ht i (by omega)
    have v := r.2 ((elN s 12).getD j 0).toNat (by omega)
    have r2 := ht ((t.getD i []).getD ((elN s 12).getD j 0).toNat 0).toNat (by omega)
    have bi := bk_in hg (x := i) (by omega)
    have v2 := r2.2 (bk t i).toNat (by omega)
    rw [bkL_getD t i (by omega)]
    rw [allG_drop 0 _ (by omega)] at hy
    refine ⟨by omega, by omega, by omega, by omega, by omega, by omega, ⟨by omega, by omega, by omega, by omega⟩, fun hb => ?_, fun hb => ⟨by omega, j + 1, ⟨by omega, by omega, ?_⟩, by omega, by omega⟩⟩
    · rw [hy, show nmP t s i ((elN s 12).getD j 0) = false from hb]; rfl
    · rw [hy, show nmP t s i ((elN s 12).getD j 0) = true from hb, Bool.true_and]
  · refine ⟨by omega, i + 1, ⟨by omega, ?_⟩, by omega, by omega⟩
    rw [hy, List.drop_of_length_le (by omega)]; rfl
theorem isNormal_fits : Fits Try.prog 103 ⟨[], isNormal_ct⟩ := by
  refine fits_fn (Γ := gam isNormal_G) (gok_cons groupInverses_fits (gok_cons elementsOf_fits (gok_cons hasBit_fits gok_nil))) Try.func103 (by kernel_rfl) (by kernel_rfl) (by kernel_rfl) fun ds p h hp => ?_
  unfold isNormal_ct at h
  split at h
  · cases h
    exact ⟨noWr, isNormal_ann _ _ , by rw [isNormal_vc]; exact isNormal_ok _ _  hp⟩
  · cases h

def lamOk (n : Nat) (l : List (List Int)) : Prop := l.length = n ∧ ∀ x, x < n → (l.getD x []).length = n ∧ ∀ y, y < n → 0 ≤ (l.getD x []).getD y 0 ∧ (l.getD x []).getD y 0 ≤ (n : Int) - 1

theorem lamT_ok {a c : List (List Int)} (h : twoG a c) : lamOk a.length (lamT a c) := by
  obtain ⟨n1, n2, hl, ha, hc, hb⟩ := twoG_in h
  refine ⟨tabR_length _ _, fun x hx => ?_⟩
  rw [lamT, tabR_getD _ _ _ hx]
  refine ⟨tab_length _ _, fun y hy => ?_⟩
  rw [tab_getD _ _ _ hy]
  have B := hb x hx
  have C := (hc x hx).2 y hy
  exact (ha (bk a x).toNat (by omega)).2 ((c.getD x []).getD y 0).toNat (by omega)

def isLeftIdeal_p (a : List (List Int)) (c : List (List Int)) (l : List (List Int)) (s : Int) : Post := ⟨setOk a s ∧ lamOk a.length l, .c (.bool (sgB a s && lfB a.length l s)), []⟩
def isLeftIdeal_ct : List AD → Option Post
  | [.agg [.rows .i64 (a), .rows .i64 (c)], .c (.rows .i64 (l)), .c (.int .i64 (s))] => some (isLeftIdeal_p a c l s)
  | _ => none
def isLeftIdeal_ann (a : List (List Int)) (c : List (List Int)) (l : List (List Int)) (s : Int) : Nat → Option Ann
  | 0 => some (Ann.mk ((Nat)) (fun i => ⟨[(1, .c (.ro (.rows .i64 (l)))), (2, .c (.int .i64 (s))), (3, .c (.ptr 3 0)), (17, .c (.own (17))), (18, .c (.int .i64 (((elN s 12).length : Int)))), (19, .c (.int .i64 ((i : Int))))], [(3, some (.box [.ro (.rows .i64 (a)), .ro (.rows .i64 (c))])), (17, some (.ints 2 .i64 (elN s 12)))]⟩) (fun i => i ≤ (elN s 12).length ∧ sgB a s = true ∧ lfB a.length l s = ((elN s 12).drop i).all (lfL l s)) (fun i => (elN s 12).length - i) (fun i => fun b_ => match b_ with | 2 => some (Ann.mk ((Nat)) (fun j => ⟨[(1, .c (.ro (.rows .i64 (l)))), (2, .c (.int .i64 (s))), (3, .c (.ptr 3 0)), (17, .c (.own (17))), (18, .c (.int .i64 (((elN s 12).length : Int)))), (19, .c (.int .i64 ((i : Int)))), (8, .c (.int .i64 ((elN s 12).getD i 0))), (23, .c (.ro (.rows .i64 (l)))), (24, .c (.int .i64 ((l.length : Int)))), (25, .c (.int .i64 ((j : Int))))], [(3, some (.box [.ro (.rows .i64 (a)), .ro (.rows .i64 (c))])), (17, some (.ints 2 .i64 (elN s 12)))]⟩) (fun j => j ≤ l.length ∧ i < (elN s 12).length ∧ lfB a.length l s = ((l.drop j).all (fun r => bitB s (r.getD ((elN s 12).getD i 0).toNat 0).toNat) && ((elN s 12).drop (i + 1)).all (lfL l s))) (fun j => l.length - j) (fun _ => noAnn)) | _ => none))
  | _ => none
def isLeftIdeal_G : List (Nat × Ctr) := [(126, ⟨[], isSubgroup_ct⟩), (118, ⟨[], elementsOf_ct⟩), (127, ⟨[], hasBit_ct⟩)]
def isLeftIdeal_V (a : List (List Int)) (c : List (List Int)) (l : List (List Int)) (s : Int) : Prop :=
  (((Go.Sx.setOk a s) ∧
  (True)) ∧
  (BrP (!Go.Sx.sgB a s)
    ((Bool.false = (Go.Sx.sgB a s && Go.Sx.lfB (List.length a) l s)) ∧
    (True))
    (((((0 : Int) ≤ s) ∧
    (s < (4096 : Int))) ∧
    (True)) ∧
    ((∃ x0 : Nat, (((x0 ≤ List.length (Go.Sx.elN s (12 : Nat))) ∧
    ((Go.Sx.sgB a s = Bool.true) ∧
    (Go.Sx.lfB (List.length a) l s = List.all (List.drop x0 (Go.Sx.elN s (12 : Nat))) (Go.Sx.lfL l s)))) ∧
    ((l = l) ∧
    ((s = s) ∧
    (((↑(List.length (Go.Sx.elN s (12 : Nat))) : Int) = (↑(List.length (Go.Sx.elN s (12 : Nat))) : Int)) ∧
    (((0 : Int) = (↑x0 : Int)) ∧
    ((a = a) ∧
    ((c = c) ∧
    (Go.Sx.elN s (12 : Nat) = Go.Sx.elN s (12 : Nat)))))))))) ∧
    (∀ x1 : Nat, (((x1 ≤ List.length (Go.Sx.elN s (12 : Nat))) ∧
    ((Go.Sx.sgB a s = Bool.true) ∧
    (Go.Sx.lfB (List.length a) l s = List.all (List.drop x1 (Go.Sx.elN s (12 : Nat))) (Go.Sx.lfL l s)))) →
    (BrP (Decidable.decide ((↑x1 : Int) < (↑(List.length (Go.Sx.elN s (12 : Nat))) : Int)))
      ((Go.Sx.inB (↑x1 : Int) (List.length (Go.Sx.elN s (12 : Nat)))) ∧
      ((∃ x2 : Nat, (((x2 ≤ List.length l) ∧
      ((x1 < List.length (Go.Sx.elN s (12 : Nat))) ∧
      (Go.Sx.lfB (List.length a) l s = ((List.all (List.drop x2 l) fun (r : List Int) => Go.Sx.bitB s (Int.toNat (List.getD r (Int.toNat (List.getD (Go.Sx.elN s (12 : Nat)) x1 (0 : Int))) (0 : Int)))) && List.all (List.drop (x1 + (1 : Nat)) (Go.Sx.elN s (12 : Nat))) (Go.Sx.lfL l s))))) ∧
      ((l = l) ∧
      ((s = s) ∧
      (((↑(List.length (Go.Sx.elN s (12 : Nat))) : Int) = (↑(List.length (Go.Sx.elN s (12 : Nat))) : Int)) ∧
      (((↑x1 : Int) = (↑x1 : Int)) ∧
      ((List.getD (Go.Sx.elN s (12 : Nat)) (Int.toNat (↑x1 : Int)) (0 : Int) = List.getD (Go.Sx.elN s (12 : Nat)) x1 (0 : Int)) ∧
      ((l = l) ∧
      (((↑(List.length l) : Int) = (↑(List.length l) : Int)) ∧
      (((0 : Int) = (↑x2 : Int)) ∧
      ((a = a) ∧
      ((c = c) ∧
      (Go.Sx.elN s (12 : Nat) = Go.Sx.elN s (12 : Nat)))))))))))))) ∧
      (∀ x3 : Nat, (((x3 ≤ List.length l) ∧
      ((x1 < List.length (Go.Sx.elN s (12 : Nat))) ∧
      (Go.Sx.lfB (List.length a) l s = ((List.all (List.drop x3 l) fun (r : List Int) => Go.Sx.bitB s (Int.toNat (List.getD r (Int.toNat (List.getD (Go.Sx.elN s (12 : Nat)) x1 (0 : Int))) (0 : Int)))) && List.all (List.drop (x1 + (1 : Nat)) (Go.Sx.elN s (12 : Nat))) (Go.Sx.lfL l s))))) →
      (BrP (Decidable.decide ((↑x3 : Int) < (↑(List.length l) : Int)))
        ((Go.Sx.inB (↑x3 : Int) (List.length l)) ∧
        ((Go.Sx.inB (List.getD (Go.Sx.elN s (12 : Nat)) x1 (0 : Int)) (List.length (List.getD l (Int.toNat (↑x3 : Int)) []))) ∧
        (((((0 : Int) ≤ s) ∧
        ((s ≤ (9223372036854775807 : Int)) ∧
        (((0 : Int) ≤ List.getD (List.getD l (Int.toNat (↑x3 : Int)) []) (Int.toNat (List.getD (Go.Sx.elN s (12 : Nat)) x1 (0 : Int))) (0 : Int)) ∧
        (List.getD (List.getD l (Int.toNat (↑x3 : Int)) []) (Int.toNat (List.getD (Go.Sx.elN s (12 : Nat)) x1 (0 : Int))) (0 : Int) ≤ (62 : Int))))) ∧
        (True)) ∧
        (BrP (!Go.Sx.bitB s (Int.toNat (List.getD (List.getD l (Int.toNat (↑x3 : Int)) []) (Int.toNat (List.getD (Go.Sx.elN s (12 : Nat)) x1 (0 : Int))) (0 : Int))))
          ((Bool.false = (Go.Sx.sgB a s && Go.Sx.lfB (List.length a) l s)) ∧
          (True))
          ((Go.Sx.InR ((↑x3 : Int) + (1 : Int))) ∧
          (∃ x4 : Nat, (((x4 ≤ List.length l) ∧
          ((x1 < List.length (Go.Sx.elN s (12 : Nat))) ∧
          (Go.Sx.lfB (List.length a) l s = ((List.all (List.drop x4 l) fun (r : List Int) => Go.Sx.bitB s (Int.toNat (List.getD r (Int.toNat (List.getD (Go.Sx.elN s (12 : Nat)) x1 (0 : Int))) (0 : Int)))) && List.all (List.drop (x1 + (1 : Nat)) (Go.Sx.elN s (12 : Nat))) (Go.Sx.lfL l s))))) ∧
          ((List.length l - x4 < List.length l - x3) ∧
          ((l = l) ∧
          ((s = s) ∧
          (((↑(List.length (Go.Sx.elN s (12 : Nat))) : Int) = (↑(List.length (Go.Sx.elN s (12 : Nat))) : Int)) ∧
          (((↑x1 : Int) = (↑x1 : Int)) ∧
          ((List.getD (Go.Sx.elN s (12 : Nat)) x1 (0 : Int) = List.getD (Go.Sx.elN s (12 : Nat)) x1 (0 : Int)) ∧
          ((l = l) ∧
          (((↑(List.length l) : Int) = (↑(List.length l) : Int)) ∧
          (((↑x3 : Int) + (1 : Int) = (↑x4 : Int)) ∧
          ((a = a) ∧
          ((c = c) ∧
          (Go.Sx.elN s (12 : Nat) = Go.Sx.elN s (12 : Nat))))))))))))))))))))
        ((Go.Sx.InR ((↑x1 : Int) + (1 : Int))) ∧
        (∃ x5 : Nat, (((x5 ≤ List.length (Go.Sx.elN s (12 : Nat))) ∧
        ((Go.Sx.sgB a s = Bool.true) ∧
        (Go.Sx.lfB (List.length a) l s = List.all (List.drop x5 (Go.Sx.elN s (12 : Nat))) (Go.Sx.lfL l s)))) ∧
        ((List.length (Go.Sx.elN s (12 : Nat)) - x5 < List.length (Go.Sx.elN s (12 : Nat)) - x1) ∧
        ((l = l) ∧
        ((s = s) ∧
        (((↑(List.length (Go.Sx.elN s (12 : Nat))) : Int) = (↑(List.length (Go.Sx.elN s (12 : Nat))) : Int)) ∧
        (((↑x1 : Int) + (1 : Int) = (↑x5 : Int)) ∧
        ((a = a) ∧
        ((c = c) ∧
        (Go.Sx.elN s (12 : Nat) = Go.Sx.elN s (12 : Nat)))))))))))))))))
      ((Bool.true = (Go.Sx.sgB a s && Go.Sx.lfB (List.length a) l s)) ∧
      (True)))))))))
theorem isLeftIdeal_vc (a : List (List Int)) (c : List (List Int)) (l : List (List Int)) (s : Int) : runF Try.prog (gam isLeftIdeal_G) noWr (isLeftIdeal_ann a c l s) Try.f102 (bodyOf Try.f102) [] [.agg [.rows .i64 (a), .rows .i64 (c)], .c (.rows .i64 (l)), .c (.int .i64 (s))] (isLeftIdeal_p a c l s) = isLeftIdeal_V a c l s := by kernel_rfl
theorem isLeftIdeal_ok (a : List (List Int)) (c : List (List Int)) (l : List (List Int)) (s : Int) (hpre : (isLeftIdeal_p a c l s).pre) : isLeftIdeal_V a c l s := by
  simp only [isLeftIdeal_p, isLeftIdeal_V, BrP_iff, true_and, and_true, decide_eq_true_eq, decide_eq_false_iff_not, bne_iff_ne, beq_iff_eq, bne_eq_false_iff_eq, beq_eq_false_iff_ne, Bool.not_eq_true, Bool.not_eq_false, Bool.not_true, Bool.not_false, Bool.not_eq_eq_eq_not, Int.toNat_natCast, List.length_append, List.length_take, List.length_replicate, List.length_set, List.length_map, List.length_drop, List.length_nil, List.length_cons, markL_length, inB, InR, room, bdsOk] at hpre ⊢
  obtain ⟨hs, hl, hL⟩ := hpre
  have S := setOk_of hs
  obtain ⟨n1, n2, ht⟩ := tabB_of hs.1
  have E := els_in hs
  have eL := elN_len s 12
  refine ⟨hs, fun h => by rw [h]; rfl, fun h => ⟨by omega, ⟨0, ⟨by omega, h, (lfL_eq hs hl).symm⟩, rfl⟩, fun i ⟨hi, _, he⟩ => ⟨fun h3 => ⟨by omega, ⟨0, ⟨by omega, by omega, ?_⟩, rfl⟩, fun j ⟨hj, _, hy⟩ => ⟨fun h4 => ?_, fun h4 => ?_⟩⟩, fun h3 => ?_⟩⟩⟩
  · rw [he, allG_drop 0 _ (by omega)]; rfl
  · have A := E i (by omega)
    have r := hL j (by omega)
    have v := r.2 ((elN s 12).getD i 0).toNat (by omega)
    rw [allG_drop [] _ (by omega)] at hy
    refine ⟨by omega, by omega, ⟨by omega, by omega, by omega, by omega⟩, fun hb => ?_, fun hb => ⟨by omega, j + 1, ⟨by omega, by omega, ?_⟩, by omega, by omega⟩⟩
    · rw [hy, hb]; simp
    · rw [hy, hb, Bool.true_and]
  · refine ⟨by omega, i + 1, ⟨by omega, h, ?_⟩, by omega, by omega⟩
    rw [hy, List.drop_of_length_le (by omega)]; rfl
  · rw [h, he, List.drop_of_length_le (by omega)]; rfl
theorem isLeftIdeal_fits : Fits Try.prog 102 ⟨[], isLeftIdeal_ct⟩ := by
  refine fits_fn (Γ := gam isLeftIdeal_G) (gok_cons isSubgroup_fits (gok_cons elementsOf_fits (gok_cons hasBit_fits gok_nil))) Try.func102 (by kernel_rfl) (by kernel_rfl) (by kernel_rfl) fun ds p h hp => ?_
  unfold isLeftIdeal_ct at h
  split at h
  · cases h
    exact ⟨noWr, isLeftIdeal_ann _ _ _ _ , by rw [isLeftIdeal_vc]; exact isLeftIdeal_ok _ _ _ _  hp⟩
  · cases h

def isIdeal_p (a : List (List Int)) (c : List (List Int)) (l : List (List Int)) (s : Int) : Post := ⟨twoG a c ∧ l = lamT a c ∧ setOk a s, .c (.bool (idB a c s)), []⟩
def isIdeal_ct : List AD → Option Post
  | [.agg [.rows .i64 (a), .rows .i64 (c)], .c (.rows .i64 (l)), .c (.int .i64 (s))] => some (isIdeal_p a c l s)
  | _ => none
def isIdeal_G : List (Nat × Ctr) := [(102, ⟨[], isLeftIdeal_ct⟩), (103, ⟨[], isNormal_ct⟩)]
def isIdeal_V (a : List (List Int)) (c : List (List Int)) (l : List (List Int)) (s : Int) : Prop :=
  ((((Go.Sx.setOk a s) ∧
  (Go.Sx.lamOk (List.length a) l)) ∧
  (True)) ∧
  (BrP (Go.Sx.sgB a s && Go.Sx.lfB (List.length a) l s)
    ((((Go.Sx.grpB a = Bool.true) ∧
    (Go.Sx.setOk a s)) ∧
    (True)) ∧
    (BrP (Go.Sx.nmB a s)
      ((((Go.Sx.grpB c = Bool.true) ∧
      (Go.Sx.setOk c s)) ∧
      (True)) ∧
      ((Go.Sx.nmB c s = Go.Sx.idB a c s) ∧
      (True)))
      ((Bool.false = Go.Sx.idB a c s) ∧
      (True))))
    ((Bool.false = Go.Sx.idB a c s) ∧
    (True))))
theorem isIdeal_vc (a : List (List Int)) (c : List (List Int)) (l : List (List Int)) (s : Int) : runF Try.prog (gam isIdeal_G) noWr noAnn Try.f61 (bodyOf Try.f61) [] [.agg [.rows .i64 (a), .rows .i64 (c)], .c (.rows .i64 (l)), .c (.int .i64 (s))] (isIdeal_p a c l s) = isIdeal_V a c l s := by kernel_rfl
theorem isIdeal_ok (a : List (List Int)) (c : List (List Int)) (l : List (List Int)) (s : Int) (hpre : (isIdeal_p a c l s).pre) : isIdeal_V a c l s := by
  simp only [isIdeal_p, isIdeal_V, BrP_iff, true_and, and_true, decide_eq_true_eq, decide_eq_false_iff_not, bne_iff_ne, beq_iff_eq, bne_eq_false_iff_eq, beq_eq_false_iff_ne, Bool.not_eq_true, Bool.not_eq_false, Bool.not_true, Bool.not_false, Bool.not_eq_eq_eq_not, Int.toNat_natCast, List.length_append, List.length_take, List.length_replicate, List.length_set, List.length_map, List.length_drop, List.length_nil, List.length_cons, markL_length, inB, InR, room, bdsOk] at hpre ⊢
  obtain ⟨hg, rfl, hs⟩ := hpre
  have hs2 : setOk c s := ⟨grp_tab hg.2.1, hs.2.1, by rw [← hg.2.2]; exact hs.2.2⟩
  refine ⟨⟨hs, lamT_ok hg⟩, fun h => ⟨⟨hg.1, hs⟩, fun h2 => ⟨⟨hg.2.1, hs2⟩, by rw [idB, h, h2]; rfl⟩, fun h2 => by rw [idB, h, h2]; rfl⟩, fun h => by rw [idB, h]; rfl⟩
theorem isIdeal_fits : Fits Try.prog 61 ⟨[], isIdeal_ct⟩ := by
  refine fits_fn (Γ := gam isIdeal_G) (gok_cons isLeftIdeal_fits (gok_cons isNormal_fits gok_nil)) Try.func61 (by kernel_rfl) (by kernel_rfl) (by kernel_rfl) fun ds p h hp => ?_
  unfold isIdeal_ct at h
  split at h
  · cases h
    exact ⟨noWr, noAnn, by rw [isIdeal_vc]; exact isIdeal_ok _ _ _ _  hp⟩
  · cases h

def l04Closed_p (t : List (List Int)) (s : Int) : Post := ⟨setOk t s, .c (.bool (clB t s)), []⟩
def l04Closed_ct : List AD → Option Post
  | [.c (.rows .i64 (t)), .c (.int .i64 (s))] => some (l04Closed_p t s)
  | _ => none
def l04Closed_ann (t : List (List Int)) (s : Int) : Nat → Option Ann
  | 0 => some (Ann.mk ((Nat)) (fun i => ⟨[(0, .c (.ro (.rows .i64 (t)))), (1, .c (.int .i64 (s))), (5, .c (.int .i64 ((i : Int))))], []⟩) (fun i => i ≤ t.length ∧ clB t s = (List.range' i (t.length - i)).all (clY t s)) (fun i => t.length - i) (fun i => fun b_ => match b_ with | 2 => some (Ann.mk ((Nat)) (fun j => ⟨[(0, .c (.ro (.rows .i64 (t)))), (1, .c (.int .i64 (s))), (5, .c (.int .i64 ((i : Int)))), (6, .c (.int .i64 ((j : Int))))], []⟩) (fun j => j ≤ t.length ∧ i < t.length ∧ clB t s = ((List.range' j (t.length - j)).all (clZ t s i) && (List.range' (i + 1) (t.length - (i + 1))).all (clY t s))) (fun j => t.length - j) (fun _ => noAnn)) | _ => none))
  | _ => none
def l04Closed_G : List (Nat × Ctr) := []
def l04Closed_V (t : List (List Int)) (s : Int) : Prop :=
  ((∃ x0 : Nat, (((x0 ≤ List.length t) ∧
  (Go.Sx.clB t s = List.all (List.range' x0 (List.length t - x0)) (Go.Sx.clY t s))) ∧
  ((t = t) ∧
  ((s = s) ∧
  ((0 : Int) = (↑x0 : Int)))))) ∧
  (∀ x1 : Nat, (((x1 ≤ List.length t) ∧
  (Go.Sx.clB t s = List.all (List.range' x1 (List.length t - x1)) (Go.Sx.clY t s))) →
  (BrP (Decidable.decide ((↑x1 : Int) < (↑(List.length t) : Int)))
    ((∃ x2 : Nat, (((x2 ≤ List.length t) ∧
    ((x1 < List.length t) ∧
    (Go.Sx.clB t s = (List.all (List.range' x2 (List.length t - x2)) (Go.Sx.clZ t s x1) && List.all (List.range' (x1 + (1 : Nat)) (List.length t - (x1 + (1 : Nat)))) (Go.Sx.clY t s))))) ∧
    ((t = t) ∧
    ((s = s) ∧
    (((↑x1 : Int) = (↑x1 : Int)) ∧
    ((0 : Int) = (↑x2 : Int))))))) ∧
    (∀ x3 : Nat, (((x3 ≤ List.length t) ∧
    ((x1 < List.length t) ∧
    (Go.Sx.clB t s = (List.all (List.range' x3 (List.length t - x3)) (Go.Sx.clZ t s x1) && List.all (List.range' (x1 + (1 : Nat)) (List.length t - (x1 + (1 : Nat)))) (Go.Sx.clY t s))))) →
    (BrP (Decidable.decide ((↑x3 : Int) < (↑(List.length t) : Int)))
      ((((0 : Int) ≤ Go.IntKind.wrap Go.IntKind.u64 (↑x1 : Int)) ∧
      (Go.IntKind.wrap Go.IntKind.u64 (↑x1 : Int) ≤ (62 : Int))) ∧
      (((Go.IntKind.i64 = Go.IntKind.i64) ∧
      ((((0 : Int) ≤ s / (2 : Int) ^ Int.toNat (Go.IntKind.wrap Go.IntKind.u64 (↑x1 : Int))) ∧
      (s / (2 : Int) ^ Int.toNat (Go.IntKind.wrap Go.IntKind.u64 (↑x1 : Int)) ≤ (9223372036854775807 : Int))) ∧
      (((0 : Int) ≤ (1 : Int)) ∧
      ((1 : Int) ≤ (9223372036854775807 : Int))))) ∧
      (BrP ((↑(Int.toNat (s / (2 : Int) ^ Int.toNat (Go.IntKind.wrap Go.IntKind.u64 (↑x1 : Int))) &&& Int.toNat (1 : Int)) : Int) == (1 : Int))
        ((((0 : Int) ≤ Go.IntKind.wrap Go.IntKind.u64 (↑x3 : Int)) ∧
        (Go.IntKind.wrap Go.IntKind.u64 (↑x3 : Int) ≤ (62 : Int))) ∧
        (((Go.IntKind.i64 = Go.IntKind.i64) ∧
        ((((0 : Int) ≤ s / (2 : Int) ^ Int.toNat (Go.IntKind.wrap Go.IntKind.u64 (↑x3 : Int))) ∧
        (s / (2 : Int) ^ Int.toNat (Go.IntKind.wrap Go.IntKind.u64 (↑x3 : Int)) ≤ (9223372036854775807 : Int))) ∧
        (((0 : Int) ≤ (1 : Int)) ∧
        ((1 : Int) ≤ (9223372036854775807 : Int))))) ∧
        (BrP ((↑(Int.toNat (s / (2 : Int) ^ Int.toNat (Go.IntKind.wrap Go.IntKind.u64 (↑x3 : Int))) &&& Int.toNat (1 : Int)) : Int) == (1 : Int))
          ((Go.Sx.inB (↑x1 : Int) (List.length t)) ∧
          ((Go.Sx.inB (↑x3 : Int) (List.length (List.getD t (Int.toNat (↑x1 : Int)) []))) ∧
          ((((0 : Int) ≤ Go.IntKind.wrap Go.IntKind.u64 (List.getD (List.getD t (Int.toNat (↑x1 : Int)) []) (Int.toNat (↑x3 : Int)) (0 : Int))) ∧
          (Go.IntKind.wrap Go.IntKind.u64 (List.getD (List.getD t (Int.toNat (↑x1 : Int)) []) (Int.toNat (↑x3 : Int)) (0 : Int)) ≤ (62 : Int))) ∧
          (((Go.IntKind.i64 = Go.IntKind.i64) ∧
          ((((0 : Int) ≤ s / (2 : Int) ^ Int.toNat (Go.IntKind.wrap Go.IntKind.u64 (List.getD (List.getD t (Int.toNat (↑x1 : Int)) []) (Int.toNat (↑x3 : Int)) (0 : Int)))) ∧
          (s / (2 : Int) ^ Int.toNat (Go.IntKind.wrap Go.IntKind.u64 (List.getD (List.getD t (Int.toNat (↑x1 : Int)) []) (Int.toNat (↑x3 : Int)) (0 : Int))) ≤ (9223372036854775807 : Int))) ∧
          (((0 : Int) ≤ (1 : Int)) ∧
          ((1 : Int) ≤ (9223372036854775807 : Int))))) ∧
          (BrP ((↑(Int.toNat (s / (2 : Int) ^ Int.toNat (Go.IntKind.wrap Go.IntKind.u64 (List.getD (List.getD t (Int.toNat (↑x1 : Int)) []) (Int.toNat (↑x3 : Int)) (0 : Int)))) &&& Int.toNat (1 : Int)) : Int) == (0 : Int))
            ((Bool.false = Go.Sx.clB t s) ∧
            (True))
            ((Go.Sx.InR ((↑x3 : Int) + (1 : Int))) ∧
            (∃ x4 : Nat, (((x4 ≤ List.length t) ∧
            ((x1 < List.length t) ∧
            (Go.Sx.clB t s = (List.all (List.range' x4 (List.length t - x4)) (Go.Sx.clZ t s x1) && List.all (List.range' (x1 + (1 : Nat)) (List.length t - (x1 + (1 : Nat)))) (Go.Sx.clY t s))))) ∧
            ((List.length t - x4 < List.length t - x3) ∧
            ((t = t) ∧
            ((s = s) ∧
            (((↑x1 : Int) = (↑x1 : Int)) ∧
            ((↑x3 : Int) + (1 : Int) = (↑x4 : Int))))))))))))))
          ((Go.Sx.InR ((↑x3 : Int) + (1 : Int))) ∧
          (∃ x5 : Nat, (((x5 ≤ List.length t) ∧
          ((x1 < List.length t) ∧
          (Go.Sx.clB t s = (List.all (List.range' x5 (List.length t - x5)) (Go.Sx.clZ t s x1) && List.all (List.range' (x1 + (1 : Nat)) (List.length t - (x1 + (1 : Nat)))) (Go.Sx.clY t s))))) ∧
          ((List.length t - x5 < List.length t - x3) ∧
          ((t = t) ∧
          ((s = s) ∧
          (((↑x1 : Int) = (↑x1 : Int)) ∧
          ((↑x3 : Int) + (1 : Int) = (↑x5 : Int))))))))))))
        ((Go.Sx.InR ((↑x3 : Int) + (1 : Int))) ∧
        (∃ x6 : Nat, (((x6 ≤ List.length t) ∧
        ((x1 < List.length t) ∧
        (Go.Sx.clB t s = (List.all (List.range' x6 (List.length t - x6)) (Go.Sx.clZ t s x1) && List.all (List.range' (x1 + (1 : Nat)) (List.length t - (x1 + (1 : Nat)))) (Go.Sx.clY t s))))) ∧
        ((List.length t - x6 < List.length t - x3) ∧
        ((t = t) ∧
        ((s = s) ∧
        (((↑x1 : Int) = (↑x1 : Int)) ∧
        ((↑x3 : Int) + (1 : Int) = (↑x6 : Int))))))))))))
      ((Go.Sx.InR ((↑x1 : Int) + (1 : Int))) ∧
      (∃ x7 : Nat, (((x7 ≤ List.length t) ∧
      (Go.Sx.clB t s = List.all (List.range' x7 (List.length t - x7)) (Go.Sx.clY t s))) ∧
      ((List.length t - x7 < List.length t - x1) ∧
      ((t = t) ∧
      ((s = s) ∧
      ((↑x1 : Int) + (1 : Int) = (↑x7 : Int))))))))))))
    ((Bool.true = Go.Sx.clB t s) ∧
    (True))))))
theorem l04Closed_vc (t : List (List Int)) (s : Int) : runF Try.prog (gam l04Closed_G) noWr (l04Closed_ann t s) Try.f98 (bodyOf Try.f98) [] [.c (.rows .i64 (t)), .c (.int .i64 (s))] (l04Closed_p t s) = l04Closed_V t s := by kernel_rfl
theorem l04Closed_ok (t : List (List Int)) (s : Int) (hpre : (l04Closed_p t s).pre) : l04Closed_V t s := by
  simp only [l04Closed_p, l04Closed_V, BrP_iff, true_and, and_true, decide_eq_true_eq, decide_eq_false_iff_not, bne_iff_ne, beq_iff_eq, bne_eq_false_iff_eq, beq_eq_false_iff_ne, Bool.not_eq_true, Bool.not_eq_false, Bool.not_true, Bool.not_false, Bool.not_eq_eq_eq_not, Int.toNat_natCast, List.length_append, List.length_take, List.length_replicate, List.length_set, List.length_map, List.length_drop, List.length_nil, List.length_cons, markL_length, inB, InR, room, bdsOk] at hpre ⊢
  have S := setOk_of hpre
  obtain ⟨n1, n2, ht⟩ := tabB_of hpre.1
  refine ⟨⟨0, ⟨by omega, by rw [clB, rg_start]⟩, rfl⟩, fun i ⟨hi, he⟩ => ⟨fun h3 => ⟨⟨0, ⟨by omega, by omega, ?_⟩, rfl⟩, fun j ⟨hj, _, hy⟩ => ⟨fun h4 => ?_, fun h4 => ?_⟩⟩, fun h3 => by rw [he, rg_end _ (by omega)]⟩⟩
  · rw [he, rg_step _ (by omega), clY, rg_start]
  · have r := ht i (by omega)
    have v := r.2 j (by omega)
    rw [rg_step _ (by omega)] at hy
    have w1 : IntKind.u64.wrap (i : Int) = (i : Int) := wu64 (by omega)
    have w2 : IntKind.u64.wrap (j : Int) = (j : Int) := wu64 (by omega)
    have w3 : IntKind.u64.wrap ((t.getD i []).getD j 0) = (t.getD i []).getD j 0 := wu64 (by omega)
    have sh : ∀ k, 0 ≤ s / 2 ^ k ∧ s / 2 ^ k ≤ 9223372036854775807 := fun k => shr_le S.1 k (by omega)
    have e0 : clZ t s i j = (!(bitB s i && bitB s j) || bitB s ((t.getD i []).getD j 0).toNat) := rfl
    have next : clZ t s i j = true → (-9223372036854775808 ≤ (j : Int) + 1 ∧ (j : Int) + 1 ≤ 9223372036854775807) ∧ ∃ x4, (x4 ≤ t.length ∧ i < t.length ∧ clB t s = ((List.range' x4 (t.length - x4)).all (clZ t s i) && (List.range' (i + 1) (t.length - (i + 1))).all (clY t s))) ∧ t.length - x4 < t.length - j ∧ (j : Int) + 1 = (x4 : Int) := fun h =>
      ⟨by omega, j + 1, ⟨by omega, by omega, by rw [hy, h, Bool.true_and]⟩, by omega, by omega⟩
    simp only [w1, w2, w3, Int.toNat_natCast, bit_oneT S.1, bit_zeroT S.1, bit_nT S.1, bit_nzT S.1]
    refine ⟨by omega, ⟨sh _, by omega, by omega⟩, fun b1 => ⟨by omega, ⟨sh _, by omega, by omega⟩, fun b2 => ⟨by omega, by omega, by omega, ⟨sh _, by omega, by omega⟩, fun b3 => ?_, fun b3 => next ?_⟩, fun b2 => next ?_⟩, fun b1 => next ?_⟩
    · rw [hy, e0, b1, b2, b3]; rfl
    · rw [e0, b3]; simp
    · rw [e0, b2]; simp
    · rw [e0, b1]; simp
  · refine ⟨by omega, i + 1, ⟨by omega, ?_⟩, by omega, by omega⟩
    rw [hy, rg_end _ (by omega), Bool.true_and]
theorem l04Closed_fits : Fits Try.prog 98 ⟨[], l04Closed_ct⟩ := by
  refine fits_fn (Γ := gam l04Closed_G) gok_nil Try.func98 (by kernel_rfl) (by kernel_rfl) (by kernel_rfl) fun ds p h hp => ?_
  unfold l04Closed_ct at h
  split at h
  · cases h
    exact ⟨noWr, l04Closed_ann _ _ , by rw [l04Closed_vc]; exact l04Closed_ok _ _  hp⟩
  · cases h

def l12Left_p (a : List (List Int)) (c : List (List Int)) (s : Int) : Post := ⟨twoG a c ∧ setOk a s, .c (.bool (lfB a.length (lamT a c) s)), []⟩
def l12Left_ct : List AD → Option Post
  | [.agg [.rows .i64 (a), .rows .i64 (c)], .c (.int .i64 (s))] => some (l12Left_p a c s)
  | _ => none
def l12Left_ann (a : List (List Int)) (c : List (List Int)) (s : Int) : Nat → Option Ann
  | 0 => some (Ann.mk ((Nat)) (fun i => ⟨[(1, .c (.int .i64 (s))), (2, .c (.ptr 2 0)), (5, .c (.own (9))), (6, .c (.int .i64 ((i : Int))))], [(2, some (.box [.ro (.rows .i64 (a)), .ro (.rows .i64 (c))])), (9, some (.rows 0 25 2 .i64 (lamT a c)))]⟩) (fun i => i ≤ a.length ∧ lfB a.length (lamT a c) s = (List.range' i (a.length - i)).all (lfY a.length (lamT a c) s)) (fun i => a.length - i) (fun i => fun b_ => match b_ with | 2 => some (Ann.mk ((Nat)) (fun j => ⟨[(1, .c (.int .i64 (s))), (2, .c (.ptr 2 0)), (5, .c (.own (9))), (6, .c (.int .i64 ((i : Int)))), (7, .c (.int .i64 ((j : Int))))], [(2, some (.box [.ro (.rows .i64 (a)), .ro (.rows .i64 (c))])), (9, some (.rows 0 25 2 .i64 (lamT a c)))]⟩) (fun j => j ≤ a.length ∧ i < a.length ∧ lfB a.length (lamT a c) s = ((List.range' j (a.length - j)).all (lfZ (lamT a c) s i) && (List.range' (i + 1) (a.length - (i + 1))).all (lfY a.length (lamT a c) s))) (fun j => a.length - j) (fun _ => noAnn)) | _ => none))
  | _ => none
def l12Left_G : List (Nat × Ctr) := [(124, ⟨[], l11Lambda_ct⟩)]
def l12Left_V (a : List (List Int)) (c : List (List Int)) (s : Int) : Prop :=
  (((Go.Sx.twoG a c) ∧
  (True)) ∧
  ((∃ x0 : Nat, (((x0 ≤ List.length a) ∧
  (Go.Sx.lfB (List.length a) (Go.Sx.lamT a c) s = List.all (List.range' x0 (List.length a - x0)) (Go.Sx.lfY (List.length a) (Go.Sx.lamT a c) s))) ∧
  ((s = s) ∧
  (((0 : Int) = (↑x0 : Int)) ∧
  ((a = a) ∧
  ((c = c) ∧
  (Go.Sx.lamT a c = Go.Sx.lamT a c))))))) ∧
  (∀ x1 : Nat, (((x1 ≤ List.length a) ∧
  (Go.Sx.lfB (List.length a) (Go.Sx.lamT a c) s = List.all (List.range' x1 (List.length a - x1)) (Go.Sx.lfY (List.length a) (Go.Sx.lamT a c) s))) →
  (BrP (Decidable.decide ((↑x1 : Int) < (↑(List.length a) : Int)))
    ((∃ x2 : Nat, (((x2 ≤ List.length a) ∧
    ((x1 < List.length a) ∧
    (Go.Sx.lfB (List.length a) (Go.Sx.lamT a c) s = (List.all (List.range' x2 (List.length a - x2)) (Go.Sx.lfZ (Go.Sx.lamT a c) s x1) && List.all (List.range' (x1 + (1 : Nat)) (List.length a - (x1 + (1 : Nat)))) (Go.Sx.lfY (List.length a) (Go.Sx.lamT a c) s))))) ∧
    ((s = s) ∧
    (((↑x1 : Int) = (↑x1 : Int)) ∧
    (((0 : Int) = (↑x2 : Int)) ∧
    ((a = a) ∧
    ((c = c) ∧
    (Go.Sx.lamT a c = Go.Sx.lamT a c)))))))) ∧
    (∀ x3 : Nat, (((x3 ≤ List.length a) ∧
    ((x1 < List.length a) ∧
    (Go.Sx.lfB (List.length a) (Go.Sx.lamT a c) s = (List.all (List.range' x3 (List.length a - x3)) (Go.Sx.lfZ (Go.Sx.lamT a c) s x1) && List.all (List.range' (x1 + (1 : Nat)) (List.length a - (x1 + (1 : Nat)))) (Go.Sx.lfY (List.length a) (Go.Sx.lamT a c) s))))) →
    (BrP (Decidable.decide ((↑x3 : Int) < (↑(List.length a) : Int)))
      ((((0 : Int) ≤ Go.IntKind.wrap Go.IntKind.u64 (↑x3 : Int)) ∧
      (Go.IntKind.wrap Go.IntKind.u64 (↑x3 : Int) ≤ (62 : Int))) ∧
      (((Go.IntKind.i64 = Go.IntKind.i64) ∧
      ((((0 : Int) ≤ s / (2 : Int) ^ Int.toNat (Go.IntKind.wrap Go.IntKind.u64 (↑x3 : Int))) ∧
      (s / (2 : Int) ^ Int.toNat (Go.IntKind.wrap Go.IntKind.u64 (↑x3 : Int)) ≤ (9223372036854775807 : Int))) ∧
      (((0 : Int) ≤ (1 : Int)) ∧
      ((1 : Int) ≤ (9223372036854775807 : Int))))) ∧
      (BrP ((↑(Int.toNat (s / (2 : Int) ^ Int.toNat (Go.IntKind.wrap Go.IntKind.u64 (↑x3 : Int))) &&& Int.toNat (1 : Int)) : Int) == (1 : Int))
        ((Go.Sx.inB (↑x1 : Int) (List.length (Go.Sx.lamT a c))) ∧
        ((Go.Sx.inB (↑x3 : Int) (List.length (List.getD (Go.Sx.lamT a c) (Int.toNat (↑x1 : Int)) []))) ∧
        ((((0 : Int) ≤ Go.IntKind.wrap Go.IntKind.u64 (List.getD (List.getD (Go.Sx.lamT a c) (Int.toNat (↑x1 : Int)) []) (Int.toNat (↑x3 : Int)) (0 : Int))) ∧
        (Go.IntKind.wrap Go.IntKind.u64 (List.getD (List.getD (Go.Sx.lamT a c) (Int.toNat (↑x1 : Int)) []) (Int.toNat (↑x3 : Int)) (0 : Int)) ≤ (62 : Int))) ∧
        (((Go.IntKind.i64 = Go.IntKind.i64) ∧
        ((((0 : Int) ≤ s / (2 : Int) ^ Int.toNat (Go.IntKind.wrap Go.IntKind.u64 (List.getD (List.getD (Go.Sx.lamT a c) (Int.toNat (↑x1 : Int)) []) (Int.toNat (↑x3 : Int)) (0 : Int)))) ∧
        (s / (2 : Int) ^ Int.toNat (Go.IntKind.wrap Go.IntKind.u64 (List.getD (List.getD (Go.Sx.lamT a c) (Int.toNat (↑x1 : Int)) []) (Int.toNat (↑x3 : Int)) (0 : Int))) ≤ (9223372036854775807 : Int))) ∧
        (((0 : Int) ≤ (1 : Int)) ∧
        ((1 : Int) ≤ (9223372036854775807 : Int))))) ∧
        (BrP ((↑(Int.toNat (s / (2 : Int) ^ Int.toNat (Go.IntKind.wrap Go.IntKind.u64 (List.getD (List.getD (Go.Sx.lamT a c) (Int.toNat (↑x1 : Int)) []) (Int.toNat (↑x3 : Int)) (0 : Int)))) &&& Int.toNat (1 : Int)) : Int) == (0 : Int))
          ((Bool.false = Go.Sx.lfB (List.length a) (Go.Sx.lamT a c) s) ∧
          (True))
          ((Go.Sx.InR ((↑x3 : Int) + (1 : Int))) ∧
          (∃ x4 : Nat, (((x4 ≤ List.length a) ∧
          ((x1 < List.length a) ∧
          (Go.Sx.lfB (List.length a) (Go.Sx.lamT a c) s = (List.all (List.range' x4 (List.length a - x4)) (Go.Sx.lfZ (Go.Sx.lamT a c) s x1) && List.all (List.range' (x1 + (1 : Nat)) (List.length a - (x1 + (1 : Nat)))) (Go.Sx.lfY (List.length a) (Go.Sx.lamT a c) s))))) ∧
          ((List.length a - x4 < List.length a - x3) ∧
          ((s = s) ∧
          (((↑x1 : Int) = (↑x1 : Int)) ∧
          (((↑x3 : Int) + (1 : Int) = (↑x4 : Int)) ∧
          ((a = a) ∧
          ((c = c) ∧
          (Go.Sx.lamT a c = Go.Sx.lamT a c)))))))))))))))
        ((Go.Sx.InR ((↑x3 : Int) + (1 : Int))) ∧
        (∃ x5 : Nat, (((x5 ≤ List.length a) ∧
        ((x1 < List.length a) ∧
        (Go.Sx.lfB (List.length a) (Go.Sx.lamT a c) s = (List.all (List.range' x5 (List.length a - x5)) (Go.Sx.lfZ (Go.Sx.lamT a c) s x1) && List.all (List.range' (x1 + (1 : Nat)) (List.length a - (x1 + (1 : Nat)))) (Go.Sx.lfY (List.length a) (Go.Sx.lamT a c) s))))) ∧
        ((List.length a - x5 < List.length a - x3) ∧
        ((s = s) ∧
        (((↑x1 : Int) = (↑x1 : Int)) ∧
        (((↑x3 : Int) + (1 : Int) = (↑x5 : Int)) ∧
        ((a = a) ∧
        ((c = c) ∧
        (Go.Sx.lamT a c = Go.Sx.lamT a c)))))))))))))
      ((Go.Sx.InR ((↑x1 : Int) + (1 : Int))) ∧
      (∃ x6 : Nat, (((x6 ≤ List.length a) ∧
      (Go.Sx.lfB (List.length a) (Go.Sx.lamT a c) s = List.all (List.range' x6 (List.length a - x6)) (Go.Sx.lfY (List.length a) (Go.Sx.lamT a c) s))) ∧
      ((List.length a - x6 < List.length a - x1) ∧
      ((s = s) ∧
      (((↑x1 : Int) + (1 : Int) = (↑x6 : Int)) ∧
      ((a = a) ∧
      ((c = c) ∧
      (Go.Sx.lamT a c = Go.Sx.lamT a c)))))))))))))
    ((Bool.true = Go.Sx.lfB (List.length a) (Go.Sx.lamT a c) s) ∧
    (True)))))))
theorem l12Left_vc (a : List (List Int)) (c : List (List Int)) (s : Int) : runF Try.prog (gam l12Left_G) noWr (l12Left_ann a c s) Try.f99 (bodyOf Try.f99) [] [.agg [.rows .i64 (a), .rows .i64 (c)], .c (.int .i64 (s))] (l12Left_p a c s) = l12Left_V a c s := by kernel_rfl
theorem l12Left_ok (a : List (List Int)) (c : List (List Int)) (s : Int) (hpre : (l12Left_p a c s).pre) : l12Left_V a c s := by
  simp only [l12Left_p, l12Left_V, BrP_iff, true_and, and_true, decide_eq_true_eq, decide_eq_false_iff_not, bne_iff_ne, beq_iff_eq, bne_eq_false_iff_eq, beq_eq_false_iff_ne, Bool.not_eq_true, Bool.not_eq_false, Bool.not_true, Bool.not_false, Bool.not_eq_eq_eq_not, Int.toNat_natCast, List.length_append, List.length_take, List.length_replicate, List.length_set, List.length_map, List.length_drop, List.length_nil, List.length_cons, markL_length, inB, InR, room, bdsOk] at hpre ⊢
  obtain ⟨hg, hs⟩ := hpre
  have S := setOk_of hs
  obtain ⟨n1, n2, ht⟩ := tabB_of hs.1
  obtain ⟨hl, hL⟩ := lamT_ok hg
  refine ⟨hg, ⟨0, ⟨by omega, by rw [lfB, rg_start]⟩, rfl⟩, fun i ⟨hi, he⟩ => ⟨fun h3 => ⟨⟨0, ⟨by omega, by omega, ?_⟩, rfl⟩, fun j ⟨hj, _, hy⟩ => ⟨fun h4 => ?_, fun h4 => ?_⟩⟩, fun h3 => by rw [he, rg_end _ (by omega)]⟩⟩
  · rw [he, rg_step _ (by omega), lfY, rg_start]
  · have r := hL i (by omega)
    have v := r.2 j (by omega)
    rw [rg_step _ (by omega)] at hy
    have w2 : IntKind.u64.wrap (j : Int) = (j : Int) := wu64 (by omega)
    have w3 : IntKind.u64.wrap (((lamT a c).getD i []).getD j 0) = ((lamT a c).getD i []).getD j 0 := wu64 (by omega)
    have sh : ∀ k, 0 ≤ s / 2 ^ k ∧ s / 2 ^ k ≤ 9223372036854775807 := fun k => shr_le S.1 k (by omega)
    have e0 : lfZ (lamT a c) s i j = (!bitB s j || bitB s (((lamT a c).getD i []).getD j 0).toNat) := rfl
    have next : lfZ (lamT a c) s i j = true → (-9223372036854775808 ≤ (j : Int) + 1 ∧ (j : Int) + 1 ≤ 9223372036854775807) ∧ ∃ x4, (x4 ≤ a.length ∧ i < a.length ∧ lfB a.length (lamT a c) s = ((List.range' x4 (a.length - x4)).all (lfZ (lamT a c) s i) && (List.range' (i + 1) (a.length - (i + 1))).all (lfY a.length (lamT a c) s))) ∧ a.length - x4 < a.length - j ∧ (j : Int) + 1 = (x4 : Int) := fun h =>
      ⟨by omega, j + 1, ⟨by omega, by omega, by rw [hy, h, Bool.true_and]⟩, by omega, by omega⟩
    simp only [w2, w3, Int.toNat_natCast, bit_oneT S.1, bit_zeroT S.1, bit_nT S.1, bit_nzT S.1]
    refine ⟨by omega, ⟨sh _, by omega, by omega⟩, fun b2 => ⟨by omega, by omega, by omega, ⟨sh _, by omega, by omega⟩, fun b3 => ?_, fun b3 => next ?_⟩, fun b2 => next ?_⟩
    · rw [hy, e0, b2, b3]; rfl
    · rw [e0, b3]; simp
    · rw [e0, b2]; simp
  · refine ⟨by omega, i + 1, ⟨by omega, ?_⟩, by omega, by omega⟩
    rw [hy, rg_end _ (by omega), Bool.true_and]
theorem l12Left_fits : Fits Try.prog 99 ⟨[], l12Left_ct⟩ := by
  refine fits_fn (Γ := gam l12Left_G) (gok_cons l11Lambda_fits gok_nil) Try.func99 (by kernel_rfl) (by kernel_rfl) (by kernel_rfl) fun ds p h hp => ?_
  unfold l12Left_ct at h
  split at h
  · cases h
    exact ⟨noWr, l12Left_ann _ _ _ , by rw [l12Left_vc]; exact l12Left_ok _ _ _  hp⟩
  · cases h

def ivF (t : List (List Int)) (x y : Nat) : Int := en t (en t x y).toNat (bk t x).toNat

def l10Inner_p (t : List (List Int)) : Post := ⟨grpB t = true, .c (.rows 25 2 .i64 (tabR t.length (ivF t))), []⟩
def l10Inner_ct : List AD → Option Post
  | [.c (.rows .i64 (t))] => some (l10Inner_p t)
  | _ => none
def l10Inner_ann (t : List (List Int)) : Nat → Option Ann
  | 0 => some (Ann.mk ((Nat)) (fun i => ⟨[(0, .c (.ro (.rows .i64 (t)))), (3, .c (.own (7))), (4, .c (.int .i64 ((i : Int))))], [(7, some (.rows 0 25 2 .i64 ((tabR t.length (ivF t)).take i)))]⟩) (fun i => i ≤ t.length) (fun i => t.length - i) (fun i => fun b_ => match b_ with | 2 => some (Ann.mk ((Nat)) (fun j => ⟨[(0, .c (.ro (.rows .i64 (t)))), (3, .c (.own (7))), (4, .c (.int .i64 ((i : Int)))), (5, .c (.own (14))), (6, .c (.int .i64 ((j : Int))))], [(7, some (.rows 0 25 2 .i64 ((tabR t.length (ivF t)).take i))), (14, some (.ints 2 .i64 ((tab t.length (ivF t i)).take j)))]⟩) (fun j => j ≤ t.length ∧ i < t.length) (fun j => t.length - j) (fun _ => noAnn)) | _ => none))
  | _ => none
def l10Inner_G : List (Nat × Ctr) := [(94, ⟨[], l10Back_ct⟩)]
def l10Inner_V (t : List (List Int)) : Prop :=
  ((∃ x0 : Nat, ((x0 ≤ List.length t) ∧
  ((t = t) ∧
  (((0 : Int) = (↑x0 : Int)) ∧
  ([] = List.take x0 (Go.Sx.tabR (List.length t) (Go.Sx.ivF t))))))) ∧
  (∀ x1 : Nat, ((x1 ≤ List.length t) →
  (BrP (Decidable.decide ((↑x1 : Int) < (↑(List.length t) : Int)))
    ((∃ x2 : Nat, (((x2 ≤ List.length t) ∧
    (x1 < List.length t)) ∧
    ((t = t) ∧
    (((↑x1 : Int) = (↑x1 : Int)) ∧
    (((0 : Int) = (↑x2 : Int)) ∧
    ((List.take x1 (Go.Sx.tabR (List.length t) (Go.Sx.ivF t)) = List.take x1 (Go.Sx.tabR (List.length t) (Go.Sx.ivF t))) ∧
    ([] = List.take x2 (Go.Sx.tab (List.length t) (Go.Sx.ivF t x1))))))))) ∧
    (∀ x3 : Nat, (((x3 ≤ List.length t) ∧
    (x1 < List.length t)) →
    (BrP (Decidable.decide ((↑x3 : Int) < (↑(List.length t) : Int)))
      ((Go.Sx.inB (↑x1 : Int) (List.length t)) ∧
      ((Go.Sx.inB (↑x3 : Int) (List.length (List.getD t (Int.toNat (↑x1 : Int)) []))) ∧
      ((Go.Sx.inB (List.getD (List.getD t (Int.toNat (↑x1 : Int)) []) (Int.toNat (↑x3 : Int)) (0 : Int)) (List.length t)) ∧
      ((((Go.Sx.tabB t = Bool.true) ∧
      (((0 : Int) ≤ (↑x1 : Int)) ∧
      ((↑x1 : Int) ≤ (↑(List.length t) : Int) - (1 : Int)))) ∧
      (True)) ∧
      ((Go.Sx.inB (Go.Sx.bk t (Int.toNat (↑x1 : Int))) (List.length (List.getD t (Int.toNat (List.getD (List.getD t (Int.toNat (↑x1 : Int)) []) (Int.toNat (↑x3 : Int)) (0 : Int))) []))) ∧
      ((Go.Sx.room (List.length (List.take x3 (Go.Sx.tab (List.length t) (Go.Sx.ivF t x1))) + List.length [List.getD (List.getD t (Int.toNat (List.getD (List.getD t (Int.toNat (↑x1 : Int)) []) (Int.toNat (↑x3 : Int)) (0 : Int))) []) (Int.toNat (Go.Sx.bk t (Int.toNat (↑x1 : Int)))) (0 : Int)])) ∧
      ((Go.Sx.InR ((↑x3 : Int) + (1 : Int))) ∧
      (∃ x4 : Nat, (((x4 ≤ List.length t) ∧
      (x1 < List.length t)) ∧
      ((List.length t - x4 < List.length t - x3) ∧
      ((t = t) ∧
      (((↑x1 : Int) = (↑x1 : Int)) ∧
      (((↑x3 : Int) + (1 : Int) = (↑x4 : Int)) ∧
      ((List.take x1 (Go.Sx.tabR (List.length t) (Go.Sx.ivF t)) = List.take x1 (Go.Sx.tabR (List.length t) (Go.Sx.ivF t))) ∧
      (List.take x3 (Go.Sx.tab (List.length t) (Go.Sx.ivF t x1)) ++ [List.getD (List.getD t (Int.toNat (List.getD (List.getD t (Int.toNat (↑x1 : Int)) []) (Int.toNat (↑x3 : Int)) (0 : Int))) []) (Int.toNat (Go.Sx.bk t (Int.toNat (↑x1 : Int)))) (0 : Int)] = List.take x4 (Go.Sx.tab (List.length t) (Go.Sx.ivF t x1)))))))))))))))))
      ((Go.Sx.room (List.length (List.take x1 (Go.Sx.tabR (List.length t) (Go.Sx.ivF t))) + List.length [List.take x3 (Go.Sx.tab (List.length t) (Go.Sx.ivF t x1))])) ∧
      ((Go.Sx.InR ((↑x1 : Int) + (1 : Int))) ∧
      (∃ x5 : Nat, ((x5 ≤ List.length t) ∧
      ((List.length t - x5 < List.length t - x1) ∧
      ((t = t) ∧
      (((↑x1 : Int) + (1 : Int) = (↑x5 : Int)) ∧
      (List.take x1 (Go.Sx.tabR (List.length t) (Go.Sx.ivF t)) ++ [List.take x3 (Go.Sx.tab (List.length t) (Go.Sx.ivF t x1))] = List.take x5 (Go.Sx.tabR (List.length t) (Go.Sx.ivF t))))))))))))))
    ((List.take x1 (Go.Sx.tabR (List.length t) (Go.Sx.ivF t)) = Go.Sx.tabR (List.length t) (Go.Sx.ivF t)) ∧
    (True))))))
theorem l10Inner_vc (t : List (List Int)) : runF Try.prog (gam l10Inner_G) noWr (l10Inner_ann t) Try.f125 (bodyOf Try.f125) [] [.c (.rows .i64 (t))] (l10Inner_p t) = l10Inner_V t := by kernel_rfl
theorem l10Inner_ok (t : List (List Int)) (hpre : (l10Inner_p t).pre) : l10Inner_V t := by
  simp only [l10Inner_p, l10Inner_V, BrP_iff, true_and, and_true, decide_eq_true_eq, decide_eq_false_iff_not, bne_iff_ne, beq_iff_eq, bne_eq_false_iff_eq, beq_eq_false_iff_ne, Bool.not_eq_true, Bool.not_eq_false, Bool.not_true, Bool.not_false, Bool.not_eq_eq_eq_not, Int.toNat_natCast, List.length_append, List.length_take, List.length_replicate, List.length_set, List.length_map, List.length_drop, List.length_nil, List.length_cons, markL_length, inB, InR, room, bdsOk] at hpre ⊢
  obtain ⟨n1, n2, ht⟩ := tabB_of (grp_tab hpre)
  have hT := tabR_length t.length (ivF t)
  have hr : ∀ i : Nat, (tab t.length (ivF t i)).length = t.length := fun i => tab_length _ _
  refine ⟨⟨0, by omega, rfl, by simp⟩, fun i hi => ⟨fun h => ⟨⟨0, by omega, rfl, by simp⟩, fun j ⟨hj, _⟩ => ⟨fun h3 => ?_, fun h3 => ?_⟩⟩, fun h => List.take_of_length_le (by omega)⟩⟩
  · have r := ht i (by omega)
    have v := r.2 j (by omega)
    have r2 := ht ((t.getD i []).getD j 0).toNat (by omega)
    have b := bk_in hpre (x := i) (by omega)
    have := hr i
    refine ⟨by omega, by omega, by omega, ⟨grp_tab hpre, by omega, by omega⟩, by omega, by omega, by omega, j + 1, by omega, by omega, by omega, ?_⟩
    rw [← take_snoc _ 0 j (by omega), tab_getD _ _ _ (by omega)]
    rfl
  · refine ⟨by omega, by omega, i + 1, by omega, by omega, by omega, ?_⟩
    have e : (tab t.length (ivF t i)).take j = tab t.length (ivF t i) := List.take_of_length_le (by rw [hr]; omega)
    rw [← take_snoc _ [] i (by omega), tabR_getD _ _ _ (by omega), e]
theorem l10Inner_fits : Fits Try.prog 125 ⟨[], l10Inner_ct⟩ := by
  refine fits_fn (Γ := gam l10Inner_G) (gok_cons l10Back_fits gok_nil) Try.func125 (by kernel_rfl) (by kernel_rfl) (by kernel_rfl) fun ds p h hp => ?_
  unfold l10Inner_ct at h
  split at h
  · cases h
    exact ⟨noWr, l10Inner_ann _ , by rw [l10Inner_vc]; exact l10Inner_ok _  hp⟩
  · cases h

def l10Normal_p (t : List (List Int)) (s : Int) : Post := ⟨grpB t = true ∧ setOk t s, .c (.bool (nmB t s)), []⟩
def l10Normal_ct : List AD → Option Post
  | [.c (.rows .i64 (t)), .c (.int .i64 (s))] => some (l10Normal_p t s)
  | _ => none
def l10Normal_ann (t : List (List Int)) (s : Int) : Nat → Option Ann
  | 0 => some (Ann.mk ((Nat)) (fun i => ⟨[(0, .c (.ro (.rows .i64 (t)))), (1, .c (.int .i64 (s))), (5, .c (.own (9))), (6, .c (.int .i64 ((i : Int))))], [(9, some (.rows 0 25 2 .i64 (tabR t.length (ivF t))))]⟩) (fun i => i ≤ t.length ∧ nmB t s = (List.range' i (t.length - i)).all (nmY t s)) (fun i => t.length - i) (fun i => fun b_ => match b_ with | 2 => some (Ann.mk ((Nat)) (fun j => ⟨[(0, .c (.ro (.rows .i64 (t)))), (1, .c (.int .i64 (s))), (5, .c (.own (9))), (6, .c (.int .i64 ((i : Int)))), (7, .c (.int .i64 ((j : Int))))], [(9, some (.rows 0 25 2 .i64 (tabR t.length (ivF t))))]⟩) (fun j => j ≤ t.length ∧ i < t.length ∧ nmB t s = ((List.range' j (t.length - j)).all (nmZ t s i) && (List.range' (i + 1) (t.length - (i + 1))).all (nmY t s))) (fun j => t.length - j) (fun _ => noAnn)) | _ => none))
  | _ => none
def l10Normal_G : List (Nat × Ctr) := [(125, ⟨[], l10Inner_ct⟩)]
def l10Normal_V (t : List (List Int)) (s : Int) : Prop :=
  (((Go.Sx.grpB t = Bool.true) ∧
  (True)) ∧
  ((∃ x0 : Nat, (((x0 ≤ List.length t) ∧
  (Go.Sx.nmB t s = List.all (List.range' x0 (List.length t - x0)) (Go.Sx.nmY t s))) ∧
  ((t = t) ∧
  ((s = s) ∧
  (((0 : Int) = (↑x0 : Int)) ∧
  (Go.Sx.tabR (List.length t) (Go.Sx.ivF t) = Go.Sx.tabR (List.length t) (Go.Sx.ivF t))))))) ∧
  (∀ x1 : Nat, (((x1 ≤ List.length t) ∧
  (Go.Sx.nmB t s = List.all (List.range' x1 (List.length t - x1)) (Go.Sx.nmY t s))) →
  (BrP (Decidable.decide ((↑x1 : Int) < (↑(List.length t) : Int)))
    ((∃ x2 : Nat, (((x2 ≤ List.length t) ∧
    ((x1 < List.length t) ∧
    (Go.Sx.nmB t s = (List.all (List.range' x2 (List.length t - x2)) (Go.Sx.nmZ t s x1) && List.all (List.range' (x1 + (1 : Nat)) (List.length t - (x1 + (1 : Nat)))) (Go.Sx.nmY t s))))) ∧
    ((t = t) ∧
    ((s = s) ∧
    (((↑x1 : Int) = (↑x1 : Int)) ∧
    (((0 : Int) = (↑x2 : Int)) ∧
    (Go.Sx.tabR (List.length t) (Go.Sx.ivF t) = Go.Sx.tabR (List.length t) (Go.Sx.ivF t)))))))) ∧
    (∀ x3 : Nat, (((x3 ≤ List.length t) ∧
    ((x1 < List.length t) ∧
    (Go.Sx.nmB t s = (List.all (List.range' x3 (List.length t - x3)) (Go.Sx.nmZ t s x1) && List.all (List.range' (x1 + (1 : Nat)) (List.length t - (x1 + (1 : Nat)))) (Go.Sx.nmY t s))))) →
    (BrP (Decidable.decide ((↑x3 : Int) < (↑(List.length t) : Int)))
      ((((0 : Int) ≤ Go.IntKind.wrap Go.IntKind.u64 (↑x3 : Int)) ∧
      (Go.IntKind.wrap Go.IntKind.u64 (↑x3 : Int) ≤ (62 : Int))) ∧
      (((Go.IntKind.i64 = Go.IntKind.i64) ∧
      ((((0 : Int) ≤ s / (2 : Int) ^ Int.toNat (Go.IntKind.wrap Go.IntKind.u64 (↑x3 : Int))) ∧
      (s / (2 : Int) ^ Int.toNat (Go.IntKind.wrap Go.IntKind.u64 (↑x3 : Int)) ≤ (9223372036854775807 : Int))) ∧
      (((0 : Int) ≤ (1 : Int)) ∧
      ((1 : Int) ≤ (9223372036854775807 : Int))))) ∧
      (BrP ((↑(Int.toNat (s / (2 : Int) ^ Int.toNat (Go.IntKind.wrap Go.IntKind.u64 (↑x3 : Int))) &&& Int.toNat (1 : Int)) : Int) == (1 : Int))
        ((Go.Sx.inB (↑x1 : Int) (List.length (Go.Sx.tabR (List.length t) (Go.Sx.ivF t)))) ∧
        ((Go.Sx.inB (↑x3 : Int) (List.length (List.getD (Go.Sx.tabR (List.length t) (Go.Sx.ivF t)) (Int.toNat (↑x1 : Int)) []))) ∧
        ((((0 : Int) ≤ Go.IntKind.wrap Go.IntKind.u64 (List.getD (List.getD (Go.Sx.tabR (List.length t) (Go.Sx.ivF t)) (Int.toNat (↑x1 : Int)) []) (Int.toNat (↑x3 : Int)) (0 : Int))) ∧
        (Go.IntKind.wrap Go.IntKind.u64 (List.getD (List.getD (Go.Sx.tabR (List.length t) (Go.Sx.ivF t)) (Int.toNat (↑x1 : Int)) []) (Int.toNat (↑x3 : Int)) (0 : Int)) ≤ (62 : Int))) ∧
        (((Go.IntKind.i64 = Go.IntKind.i64) ∧
        ((((0 : Int) ≤ s / (2 : Int) ^ Int.toNat (Go.IntKind.wrap Go.IntKind.u64 (List.getD (List.getD (Go.Sx.tabR (List.length t) (Go.Sx.ivF t)) (Int.toNat (↑x1 : Int)) []) (Int.toNat (↑x3 : Int)) (0 : Int)))) ∧
        (s / (2 : Int) ^ Int.toNat (Go.IntKind.wrap Go.IntKind.u64 (List.getD (List.getD (Go.Sx.tabR (List.length t) (Go.Sx.ivF t)) (Int.toNat (↑x1 : Int)) []) (Int.toNat (↑x3 : Int)) (0 : Int))) ≤ (9223372036854775807 : Int))) ∧
        (((0 : Int) ≤ (1 : Int)) ∧
        ((1 : Int) ≤ (9223372036854775807 : Int))))) ∧
        (BrP ((↑(Int.toNat (s / (2 : Int) ^ Int.toNat (Go.IntKind.wrap Go.IntKind.u64 (List.getD (List.getD (Go.Sx.tabR (List.length t) (Go.Sx.ivF t)) (Int.toNat (↑x1 : Int)) []) (Int.toNat (↑x3 : Int)) (0 : Int)))) &&& Int.toNat (1 : Int)) : Int) == (0 : Int))
          ((Bool.false = Go.Sx.nmB t s) ∧
          (True))
          ((Go.Sx.InR ((↑x3 : Int) + (1 : Int))) ∧
          (∃ x4 : Nat, (((x4 ≤ List.length t) ∧
          ((x1 < List.length t) ∧
          (Go.Sx.nmB t s = (List.all (List.range' x4 (List.length t - x4)) (Go.Sx.nmZ t s x1) && List.all (List.range' (x1 + (1 : Nat)) (List.length t - (x1 + (1 : Nat)))) (Go.Sx.nmY t s))))) ∧
          ((List.length t - x4 < List.length t - x3) ∧
          ((t = t) ∧
          ((s = s) ∧
          (((↑x1 : Int) = (↑x1 : Int)) ∧
          (((↑x3 : Int) + (1 : Int) = (↑x4 : Int)) ∧
          (Go.Sx.tabR (List.length t) (Go.Sx.ivF t) = Go.Sx.tabR (List.length t) (Go.Sx.ivF t)))))))))))))))
        ((Go.Sx.InR ((↑x3 : Int) + (1 : Int))) ∧
        (∃ x5 : Nat, (((x5 ≤ List.length t) ∧
        ((x1 < List.length t) ∧
        (Go.Sx.nmB t s = (List.all (List.range' x5 (List.length t - x5)) (Go.Sx.nmZ t s x1) && List.all (List.range' (x1 + (1 : Nat)) (List.length t - (x1 + (1 : Nat)))) (Go.Sx.nmY t s))))) ∧
        ((List.length t - x5 < List.length t - x3) ∧
        ((t = t) ∧
        ((s = s) ∧
        (((↑x1 : Int) = (↑x1 : Int)) ∧
        (((↑x3 : Int) + (1 : Int) = (↑x5 : Int)) ∧
        (Go.Sx.tabR (List.length t) (Go.Sx.ivF t) = Go.Sx.tabR (List.length t) (Go.Sx.ivF t)))))))))))))
      ((Go.Sx.InR ((↑x1 : Int) + (1 : Int))) ∧
      (∃ x6 : Nat, (((x6 ≤ List.length t) ∧
      (Go.Sx.nmB t s = List.all (List.range' x6 (List.length t - x6)) (Go.Sx.nmY t s))) ∧
      ((List.length t - x6 < List.length t - x1) ∧
      ((t = t) ∧
      ((s = s) ∧
      (((↑x1 : Int) + (1 : Int) = (↑x6 : Int)) ∧
      (Go.Sx.tabR (List.length t) (Go.Sx.ivF t) = Go.Sx.tabR (List.length t) (Go.Sx.ivF t)))))))))))))
    ((Bool.true = Go.Sx.nmB t s) ∧
    (True)))))))
theorem l10Normal_vc (t : List (List Int)) (s : Int) : runF Try.prog (gam l10Normal_G) noWr (l10Normal_ann t s) Try.f100 (bodyOf Try.f100) [] [.c (.rows .i64 (t)), .c (.int .i64 (s))] (l10Normal_p t s) = l10Normal_V t s := by kernel_rfl
theorem l10Normal_ok (t : List (List Int)) (s : Int) (hpre : (l10Normal_p t s).pre) : l10Normal_V t s := by
  simp only [l10Normal_p, l10Normal_V, BrP_iff, true_and, and_true, decide_eq_true_eq, decide_eq_false_iff_not, bne_iff_ne, beq_iff_eq, bne_eq_false_iff_eq, beq_eq_false_iff_ne, Bool.not_eq_true, Bool.not_eq_false, Bool.not_true, Bool.not_false, Bool.not_eq_eq_eq_not, Int.toNat_natCast, List.length_append, List.length_take, List.length_replicate, List.length_set, List.length_map, List.length_drop, List.length_nil, List.length_cons, markL_length, inB, InR, room, bdsOk] at hpre ⊢
  obtain ⟨hg, hs⟩ := hpre
  have S := setOk_of hs
  obtain ⟨n1, n2, ht⟩ := tabB_of hs.1
  have hT := tabR_length t.length (ivF t)
  refine ⟨hg, ⟨0, ⟨by omega, by rw [nmB, rg_start]⟩, rfl⟩, fun i ⟨hi, he⟩ => ⟨fun h3 => ⟨⟨0, ⟨by omega, by omega, ?_⟩, rfl⟩, fun j ⟨hj, _, hy⟩ => ⟨fun h4 => ?_, fun h4 => ?_⟩⟩, fun h3 => by rw [he, rg_end _ (by omega)]⟩⟩
  · rw [he, rg_step _ (by omega), nmY, rg_start]
  · have r := ht i (by omega)
    have v := r.2 j (by omega)
    have r2 := ht ((t.getD i []).getD j 0).toNat (by omega)
    have b := bk_in hg (x := i) (by omega)
    have v2 := r2.2 (bk t i).toNat (by omega)
    have ev : ((tabR t.length (ivF t)).getD i []).getD j 0 = (t.getD ((t.getD i []).getD j 0).toNat []).getD (bk t i).toNat 0 := by
      rw [tabR_getD _ _ _ (by omega), tab_getD _ _ _ (by omega)]; rfl
    have el : ((tabR t.length (ivF t)).getD i []).length = t.length := by rw [tabR_getD _ _ _ (by omega), tab_length]
    rw [rg_step _ (by omega)] at hy
    have w2 : IntKind.u64.wrap (j : Int) = (j : Int) := wu64 (by omega)
    have w3 : IntKind.u64.wrap ((t.getD ((t.getD i []).getD j 0).toNat []).getD (bk t i).toNat 0) = (t.getD ((t.getD i []).getD j 0).toNat []).getD (bk t i).toNat 0 := wu64 (by omega)
    have sh : ∀ k, 0 ≤ s / 2 ^ k ∧ s / 2 ^ k ≤ 9223372036854775807 := fun k => shr_le S.1 k (by omega)
    have e0 : nmZ t s i j = (!bitB s j || bitB s ((t.getD ((t.getD i []).getD j 0).toNat []).getD (bk t i).toNat 0).toNat) := rfl
    have next : nmZ t s i j = true → (-9223372036854775808 ≤ (j : Int) + 1 ∧ (j : Int) + 1 ≤ 9223372036854775807) ∧ ∃ x4, (x4 ≤ t.length ∧ i < t.length ∧ nmB t s = ((List.range' x4 (t.length - x4)).all (nmZ t s i) && (List.range' (i + 1) (t.length - (i + 1))).all (nmY t s))) ∧ t.length - x4 < t.length - j ∧ (j : Int) + 1 = (x4 : Int) := fun h =>
      ⟨by omega, j + 1, ⟨by omega, by omega, by rw [hy, h, Bool.true_and]⟩, by omega, by omega⟩
    rw [ev, el]
    simp only [w2, w3, Int.toNat_natCast, bit_oneT S.1, bit_zeroT S.1, bit_nT S.1, bit_nzT S.1]
    refine ⟨by omega, ⟨sh _, by omega, by omega⟩, fun b2 => ⟨by omega, by omega, by omega, ⟨sh _, by omega, by omega⟩, fun b3 => ?_, fun b3 => next ?_⟩, fun b2 => next ?_⟩
    · rw [hy, e0, b2, b3]; rfl
    · rw [e0, b3]; simp
    · rw [e0, b2]; simp
  · refine ⟨by omega, i + 1, ⟨by omega, ?_⟩, by omega, by omega⟩
    rw [hy, rg_end _ (by omega), Bool.true_and]
theorem l10Normal_fits : Fits Try.prog 100 ⟨[], l10Normal_ct⟩ := by
  refine fits_fn (Γ := gam l10Normal_G) (gok_cons l10Inner_fits gok_nil) Try.func100 (by kernel_rfl) (by kernel_rfl) (by kernel_rfl) fun ds p h hp => ?_
  unfold l10Normal_ct at h
  split at h
  · cases h
    exact ⟨noWr, l10Normal_ann _ _ , by rw [l10Normal_vc]; exact l10Normal_ok _ _  hp⟩
  · cases h

theorem odd_bit {s : Int} (h : 0 ≤ s) : s.tmod 2 = 1 ↔ bitB s 0 = true := by
  rw [bitB, Nat.testBit_zero, decide_eq_true_iff, Int.tmod_eq_emod_of_nonneg h]
  omega

def l12Ideal_p (a : List (List Int)) (c : List (List Int)) (s : Int) : Post := ⟨twoG a c ∧ setOk a s, .c (.bool (idB a c s)), []⟩
def l12Ideal_ct : List AD → Option Post
  | [.agg [.rows .i64 (a), .rows .i64 (c)], .c (.int .i64 (s))] => some (l12Ideal_p a c s)
  | _ => none
def l12Ideal_G : List (Nat × Ctr) := [(98, ⟨[], l04Closed_ct⟩), (99, ⟨[], l12Left_ct⟩), (100, ⟨[], l10Normal_ct⟩)]
def l12Ideal_V (a : List (List Int)) (c : List (List Int)) (s : Int) : Prop :=
  (((2 : Int) ≠ (0 : Int)) ∧
  (BrP (Int.tmod s (2 : Int) == (1 : Int))
    (((Go.Sx.setOk a s) ∧
    (True)) ∧
    (BrP (Go.Sx.clB a s)
      ((((Go.Sx.twoG a c) ∧
      (Go.Sx.setOk a s)) ∧
      (True)) ∧
      (BrP (Go.Sx.lfB (List.length a) (Go.Sx.lamT a c) s)
        ((((Go.Sx.grpB a = Bool.true) ∧
        (Go.Sx.setOk a s)) ∧
        (True)) ∧
        (BrP (Go.Sx.nmB a s)
          ((((Go.Sx.grpB c = Bool.true) ∧
          (Go.Sx.setOk c s)) ∧
          (True)) ∧
          ((Go.Sx.nmB c s = Go.Sx.idB a c s) ∧
          (True)))
          ((Bool.false = Go.Sx.idB a c s) ∧
          (True))))
        ((Bool.false = Go.Sx.idB a c s) ∧
        (True))))
      ((Bool.false = Go.Sx.idB a c s) ∧
      (True))))
    ((Bool.false = Go.Sx.idB a c s) ∧
    (True))))
theorem l12Ideal_vc (a : List (List Int)) (c : List (List Int)) (s : Int) : runF Try.prog (gam l12Ideal_G) noWr noAnn Try.f59 (bodyOf Try.f59) [] [.agg [.rows .i64 (a), .rows .i64 (c)], .c (.int .i64 (s))] (l12Ideal_p a c s) = l12Ideal_V a c s := by kernel_rfl
theorem l12Ideal_ok (a : List (List Int)) (c : List (List Int)) (s : Int) (hpre : (l12Ideal_p a c s).pre) : l12Ideal_V a c s := by
  simp only [l12Ideal_p, l12Ideal_V, BrP_iff, true_and, and_true, decide_eq_true_eq, decide_eq_false_iff_not, bne_iff_ne, beq_iff_eq, bne_eq_false_iff_eq, beq_eq_false_iff_ne, Bool.not_eq_true, Bool.not_eq_false, Bool.not_true, Bool.not_false, Bool.not_eq_eq_eq_not, Int.toNat_natCast, List.length_append, List.length_take, List.length_replicate, List.length_set, List.length_map, List.length_drop, List.length_nil, List.length_cons, markL_length, inB, InR, room, bdsOk] at hpre ⊢
  obtain ⟨hg, hs⟩ := hpre
  have hs2 : setOk c s := ⟨grp_tab hg.2.1, hs.2.1, by rw [← hg.2.2]; exact hs.2.2⟩
  have ob := odd_bit hs.2.1
  refine ⟨by omega, fun h => ?_, fun h => ?_⟩
  · have b0 := ob.1 h
    refine ⟨hs, fun h1 => ⟨⟨hg, hs⟩, fun h2 => ⟨⟨hg.1, hs⟩, fun h3 => ⟨⟨hg.2.1, hs2⟩, ?_⟩, fun h3 => ?_⟩, fun h2 => ?_⟩, fun h1 => ?_⟩
    · rw [idB, sgB, b0, h1, h2, h3]; rfl
    · rw [idB, sgB, b0, h1, h2, h3]; rfl
    · rw [idB, sgB, b0, h1, h2]; rfl
    · rw [idB, sgB, b0, h1]; rfl
  · have b0 : bitB s 0 = false := by
      cases hb : bitB s 0 with
      | false => rfl
      | true => exact absurd (ob.2 hb) h
    rw [idB, sgB, b0]; rfl
theorem l12Ideal_fits : Fits Try.prog 59 ⟨[], l12Ideal_ct⟩ := by
  refine fits_fn (Γ := gam l12Ideal_G) (gok_cons l04Closed_fits (gok_cons l12Left_fits (gok_cons l10Normal_fits gok_nil))) Try.func59 (by kernel_rfl) (by kernel_rfl) (by kernel_rfl) fun ds p h hp => ?_
  unfold l12Ideal_ct at h
  split at h
  · cases h
    exact ⟨noWr, noAnn, by rw [l12Ideal_vc]; exact l12Ideal_ok _ _ _  hp⟩
  · cases h

end Go.Sx

