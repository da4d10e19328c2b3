/- Rb -/
import Derived.Test.YtbcalfnpmehicaaBndC
import Derived.Test.YtbcalfnpmehicaaCoc
import Derived.Test.YtbcalfnpmehicaaExt
open Go Go.Proofs
namespace Go.Sx
set_option linter.unusedSimpArgs false
set_option linter.unusedVariables false

/-- A chain of degree k. -/
def cnOk (t : List (List Int)) (p k : Int) (c : List Int) : Prop := tabB t = true ∧ 2 ≤ p ∧ p ≤ 7 ∧ 1 ≤ k ∧ degB t.length k = true ∧ inP p c ∧ c.length = t.length ^ k.toNat

theorem bdF_length (t : List (List Int)) (p : Int) (k : Nat) (c : List Int) : ∀ i, (bdF t p k c i).length = t.length ^ (k - 1)
  | 0 => by simp [bdF]
  | i + 1 => by
    simp only [bdF]
    split
    · exact bdF_length t p k c i
    · rw [stF_length, bdF_length t p k c i]

theorem bdF_in (t : List (List Int)) {p : Int} (hp : 2 ≤ p) (k : Nat) {c : List Int} (hc : inP p c) : ∀ i, i ≤ c.length → inP p (bdF t p k c i)
  | 0, _ => rep_in (by omega) _
  | i + 1, h => by
    have ih := bdF_in t hp k hc i (by omega)
    simp only [bdF]
    split
    · exact ih
    · refine stF_in (by omega) (hc i (by omega)).1 (by rw [bdF_length, ptF_length, digN_length]) (ptF_in t hp _ _) ih

theorem deg_sub {t : List (List Int)} (h1 : tabB t = true) {k : Int} (hk : 1 ≤ k) (hd : degB t.length k = true) : degB t.length (k - 1) = true ∧ (t.length : Int) ^ (k.toNat - 1) ≤ 512 ∧ k ≤ 1000 ∧ (t.length : Int) ^ k.toNat ≤ 512 ∧ (k - 1).toNat = k.toNat - 1 := by
  have d := degB_of hd
  have hn := (tabB_of h1).1
  have := pow_le (n := (t.length : Int)) (by omega) (show k.toNat - 1 ≤ k.toNat by omega)
  have e : (k - 1).toNat = k.toNat - 1 := by omega
  refine ⟨?_, by omega, by omega, by omega, e⟩
  simp only [degB, Bool.and_eq_true, decide_eq_true_eq]
  rw [e]
  omega

def boundaryOf_p (t : List (List Int)) (p : Int) (k : Int) (c : List Int) : Post := ⟨cnOk t p k c, .c (.ints 2 .i64 (bdF t p k.toNat c c.length)), []⟩
def boundaryOf_ct : List AD → Option Post
  | [.c (.rows .i64 (t)), .c (.int .i64 (p)), .c (.int .i64 (k)), .c (.ints .i64 (c))] => some (boundaryOf_p t p k c)
  | _ => none
def boundaryOf_ann (t : List (List Int)) (p : Int) (k : Int) (c : List Int) : Nat → Option Ann
  | 0 => some (Ann.mk ((Nat)) (fun i => ⟨[(0, .c (.ro (.rows .i64 (t)))), (1, .c (.int .i64 (p))), (2, .c (.int .i64 (k))), (9, .c (.int .i64 ((t.length : Int)))), (10, .c (.own (19))), (20, .c (.ro (.ints .i64 (c)))), (21, .c (.int .i64 ((c.length : Int)))), (22, .c (.int .i64 ((i : Int))))], [(19, some (.ints 2 .i64 (bdF t p k.toNat c i)))]⟩) (fun i => i ≤ c.length) (fun i => c.length - i) (fun _ => noAnn))
  | _ => none
def boundaryOf_G : List (Nat × Ctr) := [(60, ⟨[], tuplesOf_ct⟩), (61, ⟨[], tupleOf_ct⟩), (93, ⟨[(4, 0)], addBoundary_ct⟩)]
def boundaryOf_V (t : List (List Int)) (p : Int) (k : Int) (c : List Int) : Prop :=
  ((InR (k - (1 : Int))) ∧
 (((((1 : Int) ≤ (↑(List.length t) : Int)) ∧
 (((↑(List.length t) : Int) ≤ (12 : Int)) ∧
 (degB (↑(List.length t) : Int) (k - (1 : Int)) = Bool.true))) ∧
 (True)) ∧
 ((((0 : Int) ≤ (↑(List.length t) : Int) ^ Int.toNat (k - (1 : Int))) ∧
 (((↑(List.length t) : Int) ^ Int.toNat (k - (1 : Int)) ≤ (↑(List.length t) : Int) ^ Int.toNat (k - (1 : Int))) ∧
 (room (Int.toNat ((↑(List.length t) : Int) ^ Int.toNat (k - (1 : Int))))))) ∧
 ((∃ x0 : Nat, ((x0 ≤ List.length c) ∧
 ((t = t) ∧
 ((p = p) ∧
 ((k = k) ∧
 (((↑(List.length t) : Int) = (↑(List.length t) : Int)) ∧
 ((c = c) ∧
 (((↑(List.length c) : Int) = (↑(List.length c) : Int)) ∧
 (((0 : Int) = (↑x0 : Int)) ∧
 (List.replicate (Int.toNat ((↑(List.length t) : Int) ^ Int.toNat (k - (1 : Int)))) (0 : Int) = bdF t p (Int.toNat k) c x0)))))))))) ∧
 (∀ x1 : Nat, ((x1 ≤ List.length c) →
 (BrP (Decidable.decide ((↑x1 : Int) < (↑(List.length c) : Int)))
 ((inB (↑x1 : Int) (List.length c)) ∧
 (BrP (List.getD c (Int.toNat (↑x1 : Int)) (0 : Int) != (0 : Int))
 (((((1 : Int) ≤ (↑(List.length t) : Int)) ∧
 (((0 : Int) ≤ k) ∧
 ((k ≤ (1000 : Int)) ∧
 (((0 : Int) ≤ (↑x1 : Int)) ∧
 ((↑x1 : Int) ≤ (1000000 : Int)))))) ∧
 (True)) ∧
 ((((bdOk t p (digN (↑(List.length t) : Int) (Int.toNat k) (↑x1 : Int))) ∧
 (((0 : Int) ≤ List.getD c (Int.toNat (↑x1 : Int)) (0 : Int)) ∧
 ((List.getD c (Int.toNat (↑x1 : Int)) (0 : Int) ≤ p - (1 : Int)) ∧
 ((inP p (bdF t p (Int.toNat k) c x1)) ∧
 (List.length (bdF t p (Int.toNat k) c x1) = List.length t ^ (List.length (digN (↑(List.length t) : Int) (Int.toNat k) (↑x1 : Int)) - (1 : Nat))))))) ∧
 ((List.length (adF t p (digN (↑(List.length t) : Int) (Int.toNat k) (↑x1 : Int)) (List.getD c (Int.toNat (↑x1 : Int)) (0 : Int)) (bdF t p (Int.toNat k) c x1) (List.length (digN (↑(List.length t) : Int) (Int.toNat k) (↑x1 : Int)))) = List.length (bdF t p (Int.toNat k) c x1)) ∧
 (True))) ∧
 ((InR ((↑x1 : Int) + (1 : Int))) ∧
 (∃ x2 : Nat, ((x2 ≤ List.length c) ∧
 ((List.length c - x2 < List.length c - x1) ∧
 ((t = t) ∧
 ((p = p) ∧
 ((k = k) ∧
 (((↑(List.length t) : Int) = (↑(List.length t) : Int)) ∧
 ((c = c) ∧
 (((↑(List.length c) : Int) = (↑(List.length c) : Int)) ∧
 (((↑x1 : Int) + (1 : Int) = (↑x2 : Int)) ∧
 (adF t p (digN (↑(List.length t) : Int) (Int.toNat k) (↑x1 : Int)) (List.getD c (Int.toNat (↑x1 : Int)) (0 : Int)) (bdF t p (Int.toNat k) c x1) (List.length (digN (↑(List.length t) : Int) (Int.toNat k) (↑x1 : Int))) = bdF t p (Int.toNat k) c x2))))))))))))))
 ((InR ((↑x1 : Int) + (1 : Int))) ∧
 (∃ x3 : Nat, ((x3 ≤ List.length c) ∧
 ((List.length c - x3 < List.length c - x1) ∧
 ((t = t) ∧
 ((p = p) ∧
 ((k = k) ∧
 (((↑(List.length t) : Int) = (↑(List.length t) : Int)) ∧
 ((c = c) ∧
 (((↑(List.length c) : Int) = (↑(List.length c) : Int)) ∧
 (((↑x1 : Int) + (1 : Int) = (↑x3 : Int)) ∧
 (bdF t p (Int.toNat k) c x1 = bdF t p (Int.toNat k) c x3))))))))))))))
 ((bdF t p (Int.toNat k) c x1 = bdF t p (Int.toNat k) c (List.length c)) ∧
 (True)))))))))
theorem boundaryOf_vc (t : List (List Int)) (p : Int) (k : Int) (c : List Int) : runF Try.prog (gam boundaryOf_G) noWr (boundaryOf_ann t p k c) Try.f49 (bodyOf Try.f49) [] [.c (.rows .i64 (t)), .c (.int .i64 (p)), .c (.int .i64 (k)), .c (.ints .i64 (c))] (boundaryOf_p t p k c) = boundaryOf_V t p k c := by kernel_rfl
theorem boundaryOf_ok (t : List (List Int)) (p : Int) (k : Int) (c : List Int) (hpre : (boundaryOf_p t p k c).pre) : boundaryOf_V t p k c := by
  simp only [boundaryOf_p, boundaryOf_V, BrP_iff, true_and, and_true, decide_eq_true_eq, decide_eq_false_iff_not, bne_iff_ne, beq_iff_eq, bne_eq_false_iff_eq, beq_eq_false_iff_ne, Bool.not_eq_true, Bool.not_eq_false, Bool.not_true, Bool.not_false, Bool.not_eq_eq_eq_not, Int.toNat_natCast, List.length_append, List.length_take, List.length_replicate, List.length_set, List.length_map, List.length_drop, List.length_nil, List.length_cons, markL_length, inB, InR, room, bdsOk] at hpre ⊢
  obtain ⟨h1, p1, p2, hk, hd, hc, hcl⟩ := hpre
  obtain ⟨n1, n2, ht⟩ := tabB_of h1
  obtain ⟨d1, d2, d3, d4, d5⟩ := deg_sub h1 hk hd
  have eN : (t.length : Int) ^ (k.toNat - 1) = ((t.length ^ (k.toNat - 1) : Nat) : Int) := (Int.natCast_pow _ _).symm
  have eC : (c.length : Int) = (t.length : Int) ^ k.toNat := by rw [hcl, Int.natCast_pow]
  rw [d5, eN, Int.toNat_natCast]
  rw [eN] at d2
  refine ⟨by omega, ⟨by omega, by omega, d1⟩, by omega, ⟨0, by omega, rfl, rfl⟩, fun i hi => ⟨fun h => ⟨by omega, fun h2 => ?_, fun h2 => ⟨by omega, i + 1, by omega, by omega, by omega, by rw [bdF, if_pos h2]⟩⟩, fun h => by rw [show i = c.length by omega]⟩⟩
  have ci := hc i (by omega)
  have hx : bdOk t p (digN t.length k.toNat (i : Int)) := dig_ok h1 p1 p2 (by omega) (by rw [eN]; omega) (by omega)
  have hb := bdF_in t p1 k.toNat hc i hi
  have hl := bdF_length t p k.toNat c i
  rw [digN_length, adF_length]
  refine ⟨by omega, ⟨⟨hx, ci.1, ci.2, hb, hl⟩, rfl⟩, by omega, i + 1, by omega, by omega, by omega, ?_⟩
  rw [bdF, if_neg h2, ad_eq p1 ci hb (by rw [digN_length, hl])]
theorem boundaryOf_fits : Fits Try.prog 49 ⟨[], boundaryOf_ct⟩ := by
  refine fits_fn (Γ := gam boundaryOf_G) (gok_cons tuplesOf_fits (gok_cons tupleOf_fits (gok_cons addBoundary_fits gok_nil))) Try.func49 (by kernel_rfl) (by kernel_rfl) (by kernel_rfl) fun ds p h hp => ?_
  unfold boundaryOf_ct at h
  split at h
  · cases h
    exact ⟨noWr, boundaryOf_ann _ _ _ _ , by rw [boundaryOf_vc]; exact boundaryOf_ok _ _ _ _  hp⟩
  · cases h

def l15Boundary_p (t : List (List Int)) (p : Int) (k : Int) (c : List Int) : Post := ⟨cnOk t p k c, .c (.ints 2 .i64 (bdF t p k.toNat c c.length)), []⟩
def l15Boundary_ct : List AD → Option Post
  | [.c (.rows .i64 (t)), .c (.int .i64 (p)), .c (.int .i64 (k)), .c (.ints .i64 (c))] => some (l15Boundary_p t p k c)
  | _ => none
def l15Boundary_ann (t : List (List Int)) (p : Int) (k : Int) (c : List Int) : Nat → Option Ann
  | 0 => some (Ann.mk ((Nat)) (fun i => ⟨[(0, .c (.ro (.rows .i64 (t)))), (1, .c (.int .i64 (p))), (2, .c (.int .i64 (k))), (3, .c (.ro (.ints .i64 (c)))), (9, .c (.int .i64 ((t.length : Int)))), (10, .c (.own (20))), (11, .c (.int .i64 ((i : Int))))], [(20, some (.ints 2 .i64 (bdF t p k.toNat c i)))]⟩) (fun i => i ≤ c.length) (fun i => c.length - i) (fun i => fun b_ => match b_ with | 2 => some (Ann.mk ((Nat)) (fun j => ⟨[(0, .c (.ro (.rows .i64 (t)))), (1, .c (.int .i64 (p))), (2, .c (.int .i64 (k))), (3, .c (.ro (.ints .i64 (c)))), (9, .c (.int .i64 ((t.length : Int)))), (10, .c (.own (20))), (11, .c (.int .i64 ((i : Int)))), (12, .c (.own (38))), (13, .c (.int .i64 ((j : Int))))], [(20, some (.ints 2 .i64 ((bdF t p k.toNat c (i + 1)).take j ++ (bdF t p k.toNat c i).drop j))), (38, some (.ints 2 .i64 (ptF t p (digN t.length k.toNat i) k.toNat)))]⟩) (fun j => j ≤ t.length ^ (k.toNat - 1) ∧ i < c.length ∧ c.getD i 0 ≠ 0) (fun j => t.length ^ (k.toNat - 1) - j) (fun _ => noAnn)) | _ => none))
  | _ => none
def l15Boundary_G : List (Nat × Ctr) := [(64, ⟨[], l15Power_ct⟩), (66, ⟨[], l15Tuple_ct⟩), (65, ⟨[], l15Tuples_ct⟩)]
def l15Boundary_V (t : List (List Int)) (p : Int) (k : Int) (c : List Int) : Prop :=
  ((InR (k - (1 : Int))) ∧
 (((((1 : Int) ≤ (↑(List.length t) : Int)) ∧
 (((↑(List.length t) : Int) ≤ (12 : Int)) ∧
 (((0 : Int) ≤ k - (1 : Int)) ∧
 (k - (1 : Int) ≤ (1000 : Int))))) ∧
 (True)) ∧
 ((((0 : Int) ≤ if (↑(List.length t) : Int) ^ Int.toNat (k - (1 : Int)) ≤ (512 : Int) then (↑(List.length t) : Int) ^ Int.toNat (k - (1 : Int)) else (513 : Int)) ∧
 (((if (↑(List.length t) : Int) ^ Int.toNat (k - (1 : Int)) ≤ (512 : Int) then (↑(List.length t) : Int) ^ Int.toNat (k - (1 : Int)) else (513 : Int)) ≤ if (↑(List.length t) : Int) ^ Int.toNat (k - (1 : Int)) ≤ (512 : Int) then (↑(List.length t) : Int) ^ Int.toNat (k - (1 : Int)) else (513 : Int)) ∧
 (room (Int.toNat (if (↑(List.length t) : Int) ^ Int.toNat (k - (1 : Int)) ≤ (512 : Int) then (↑(List.length t) : Int) ^ Int.toNat (k - (1 : Int)) else (513 : Int)))))) ∧
 ((∃ x0 : Nat, ((x0 ≤ List.length c) ∧
 ((t = t) ∧
 ((p = p) ∧
 ((k = k) ∧
 ((c = c) ∧
 (((↑(List.length t) : Int) = (↑(List.length t) : Int)) ∧
 (((0 : Int) = (↑x0 : Int)) ∧
 (List.replicate (Int.toNat (if (↑(List.length t) : Int) ^ Int.toNat (k - (1 : Int)) ≤ (512 : Int) then (↑(List.length t) : Int) ^ Int.toNat (k - (1 : Int)) else (513 : Int))) (0 : Int) = bdF t p (Int.toNat k) c x0))))))))) ∧
 (∀ x1 : Nat, ((x1 ≤ List.length c) →
 (BrP (Decidable.decide ((↑x1 : Int) < (↑(List.length c) : Int)))
 ((inB (↑x1 : Int) (List.length c)) ∧
 (BrP (List.getD c (Int.toNat (↑x1 : Int)) (0 : Int) == (0 : Int))
 ((InR ((↑x1 : Int) + (1 : Int))) ∧
 (∃ x2 : Nat, ((x2 ≤ List.length c) ∧
 ((List.length c - x2 < List.length c - x1) ∧
 ((t = t) ∧
 ((p = p) ∧
 ((k = k) ∧
 ((c = c) ∧
 (((↑(List.length t) : Int) = (↑(List.length t) : Int)) ∧
 (((↑x1 : Int) + (1 : Int) = (↑x2 : Int)) ∧
 (bdF t p (Int.toNat k) c x1 = bdF t p (Int.toNat k) c x2)))))))))))
 (((((1 : Int) ≤ (↑(List.length t) : Int)) ∧
 (((0 : Int) ≤ k) ∧
 ((k ≤ (1000 : Int)) ∧
 (((0 : Int) ≤ (↑x1 : Int)) ∧
 ((↑x1 : Int) ≤ (1000000 : Int)))))) ∧
 (True)) ∧
 ((((bdOk t p (digN (↑(List.length t) : Int) (Int.toNat k) (↑x1 : Int))) ∧
 ((1 : Nat) ≤ List.length (digN (↑(List.length t) : Int) (Int.toNat k) (↑x1 : Int)))) ∧
 (True)) ∧
 ((∃ x3 : Nat, (((x3 ≤ List.length t ^ (Int.toNat k - (1 : Nat))) ∧
 ((x1 < List.length c) ∧
 (List.getD c x1 (0 : Int) ≠ (0 : Int)))) ∧
 ((t = t) ∧
 ((p = p) ∧
 ((k = k) ∧
 ((c = c) ∧
 (((↑(List.length t) : Int) = (↑(List.length t) : Int)) ∧
 (((↑x1 : Int) = (↑x1 : Int)) ∧
 (((0 : Int) = (↑x3 : Int)) ∧
 ((bdF t p (Int.toNat k) c x1 = List.take x3 (bdF t p (Int.toNat k) c (x1 + (1 : Nat))) ++ List.drop x3 (bdF t p (Int.toNat k) c x1)) ∧
 (ptF t p (digN (↑(List.length t) : Int) (Int.toNat k) (↑x1 : Int)) (List.length (digN (↑(List.length t) : Int) (Int.toNat k) (↑x1 : Int))) = ptF t p (digN (↑(List.length t) : Int) (Int.toNat k) (↑x1 : Int)) (Int.toNat k)))))))))))) ∧
 (∀ x4 : Nat, (((x4 ≤ List.length t ^ (Int.toNat k - (1 : Nat))) ∧
 ((x1 < List.length c) ∧
 (List.getD c x1 (0 : Int) ≠ (0 : Int)))) →
 (BrP (Decidable.decide ((↑x4 : Int) < (↑(List.length (List.take x4 (bdF t p (Int.toNat k) c (x1 + (1 : Nat))) ++ List.drop x4 (bdF t p (Int.toNat k) c x1))) : Int)))
 ((inB (↑x4 : Int) (List.length (List.take x4 (bdF t p (Int.toNat k) c (x1 + (1 : Nat))) ++ List.drop x4 (bdF t p (Int.toNat k) c x1)))) ∧
 ((inB (↑x1 : Int) (List.length c)) ∧
 ((inB (↑x4 : Int) (List.length (ptF t p (digN (↑(List.length t) : Int) (Int.toNat k) (↑x1 : Int)) (Int.toNat k)))) ∧
 ((InR (List.getD c (Int.toNat (↑x1 : Int)) (0 : Int) * List.getD (ptF t p (digN (↑(List.length t) : Int) (Int.toNat k) (↑x1 : Int)) (Int.toNat k)) (Int.toNat (↑x4 : Int)) (0 : Int))) ∧
 ((InR (List.getD (List.take x4 (bdF t p (Int.toNat k) c (x1 + (1 : Nat))) ++ List.drop x4 (bdF t p (Int.toNat k) c x1)) (Int.toNat (↑x4 : Int)) (0 : Int) + List.getD c (Int.toNat (↑x1 : Int)) (0 : Int) * List.getD (ptF t p (digN (↑(List.length t) : Int) (Int.toNat k) (↑x1 : Int)) (Int.toNat k)) (Int.toNat (↑x4 : Int)) (0 : Int))) ∧
 ((p ≠ (0 : Int)) ∧
 ((inB (↑x4 : Int) (List.length (List.take x4 (bdF t p (Int.toNat k) c (x1 + (1 : Nat))) ++ List.drop x4 (bdF t p (Int.toNat k) c x1)))) ∧
 ((InR ((↑x4 : Int) + (1 : Int))) ∧
 (∃ x5 : Nat, (((x5 ≤ List.length t ^ (Int.toNat k - (1 : Nat))) ∧
 ((x1 < List.length c) ∧
 (List.getD c x1 (0 : Int) ≠ (0 : Int)))) ∧
 ((List.length t ^ (Int.toNat k - (1 : Nat)) - x5 < List.length t ^ (Int.toNat k - (1 : Nat)) - x4) ∧
 ((t = t) ∧
 ((p = p) ∧
 ((k = k) ∧
 ((c = c) ∧
 (((↑(List.length t) : Int) = (↑(List.length t) : Int)) ∧
 (((↑x1 : Int) = (↑x1 : Int)) ∧
 (((↑x4 : Int) + (1 : Int) = (↑x5 : Int)) ∧
 ((List.set (List.take x4 (bdF t p (Int.toNat k) c (x1 + (1 : Nat))) ++ List.drop x4 (bdF t p (Int.toNat k) c x1)) (Int.toNat (↑x4 : Int)) (Int.tmod (List.getD (List.take x4 (bdF t p (Int.toNat k) c (x1 + (1 : Nat))) ++ List.drop x4 (bdF t p (Int.toNat k) c x1)) (Int.toNat (↑x4 : Int)) (0 : Int) + List.getD c (Int.toNat (↑x1 : Int)) (0 : Int) * List.getD (ptF t p (digN (↑(List.length t) : Int) (Int.toNat k) (↑x1 : Int)) (Int.toNat k)) (Int.toNat (↑x4 : Int)) (0 : Int)) p) = List.take x5 (bdF t p (Int.toNat k) c (x1 + (1 : Nat))) ++ List.drop x5 (bdF t p (Int.toNat k) c x1)) ∧
 (ptF t p (digN (↑(List.length t) : Int) (Int.toNat k) (↑x1 : Int)) (Int.toNat k) = ptF t p (digN (↑(List.length t) : Int) (Int.toNat k) (↑x1 : Int)) (Int.toNat k)))))))))))))))))))))
 ((InR ((↑x1 : Int) + (1 : Int))) ∧
 (∃ x6 : Nat, ((x6 ≤ List.length c) ∧
 ((List.length c - x6 < List.length c - x1) ∧
 ((t = t) ∧
 ((p = p) ∧
 ((k = k) ∧
 ((c = c) ∧
 (((↑(List.length t) : Int) = (↑(List.length t) : Int)) ∧
 (((↑x1 : Int) + (1 : Int) = (↑x6 : Int)) ∧
 (List.take x4 (bdF t p (Int.toNat k) c (x1 + (1 : Nat))) ++ List.drop x4 (bdF t p (Int.toNat k) c x1) = bdF t p (Int.toNat k) c x6)))))))))))))))))))
 ((bdF t p (Int.toNat k) c x1 = bdF t p (Int.toNat k) c (List.length c)) ∧
 (True)))))))))
theorem l15Boundary_vc (t : List (List Int)) (p : Int) (k : Int) (c : List Int) : runF Try.prog (gam l15Boundary_G) noWr (l15Boundary_ann t p k c) Try.f52 (bodyOf Try.f52) [] [.c (.rows .i64 (t)), .c (.int .i64 (p)), .c (.int .i64 (k)), .c (.ints .i64 (c))] (l15Boundary_p t p k c) = l15Boundary_V t p k c := by kernel_rfl
theorem l15Boundary_ok (t : List (List Int)) (p : Int) (k : Int) (c : List Int) (hpre : (l15Boundary_p t p k c).pre) : l15Boundary_V t p k c := by
  simp only [l15Boundary_p, l15Boundary_V, BrP_iff, true_and, and_true, decide_eq_true_eq, decide_eq_false_iff_not, bne_iff_ne, beq_iff_eq, bne_eq_false_iff_eq, beq_eq_false_iff_ne, Bool.not_eq_true, Bool.not_eq_false, Bool.not_true, Bool.not_false, Bool.not_eq_eq_eq_not, Int.toNat_natCast, List.length_append, List.length_take, List.length_replicate, List.length_set, List.length_map, List.length_drop, List.length_nil, List.length_cons, markL_length, inB, InR, room, bdsOk] at hpre ⊢
  obtain ⟨h1, p1, p2, hk, hd, hc, hcl⟩ := hpre
  obtain ⟨n1, n2, ht⟩ := tabB_of h1
  obtain ⟨d1, d2, d3, d4, d5⟩ := deg_sub h1 hk hd
  have eN : (t.length : Int) ^ (k.toNat - 1) = ((t.length ^ (k.toNat - 1) : Nat) : Int) := (Int.natCast_pow _ _).symm
  have eC : (c.length : Int) = (t.length : Int) ^ k.toNat := by rw [hcl, Int.natCast_pow]
  rw [d5, if_pos d2, eN, Int.toNat_natCast]
  have d6 := d2
  rw [eN] at d2
  refine ⟨by omega, by omega, by omega, ⟨0, by omega, rfl, rfl⟩, fun i hi => ⟨fun h => ⟨by omega, fun h2 => ⟨by omega, i + 1, by omega, by omega, by omega, by rw [bdF, if_pos h2]⟩, fun h2 => ?_⟩, fun h => by rw [show i = c.length by omega]⟩⟩
  have ci := hc i (by omega)
  have hx : bdOk t p (digN t.length k.toNat (i : Int)) := dig_ok h1 p1 p2 (by omega) d6 (by omega)
  have hb := bdF_in t p1 k.toNat hc i hi
  have hl := bdF_length t p k.toNat c i
  have hl2 := bdF_length t p k.toNat c (i + 1)
  have hp := ptF_in t p1 (digN t.length k.toNat (i : Int)) k.toNat
  have hpl : (ptF t p (digN t.length k.toNat (i : Int)) k.toNat).length = t.length ^ (k.toNat - 1) := by rw [ptF_length, digN_length]
  rw [digN_length]
  refine ⟨by omega, ⟨hx, by omega⟩, ⟨0, by omega, rfl, by simp, rfl⟩, fun j ⟨hj, _, _⟩ => ⟨fun h3 => ?_, fun h3 => ?_⟩⟩
  · have hj2 : j < t.length ^ (k.toNat - 1) := by omega
    have e0 : (List.take j (bdF t p k.toNat c (i + 1)) ++ List.drop j (bdF t p k.toNat c i)).getD j 0 = (bdF t p k.toNat c i).getD j 0 := by
      rw [getD_append_right' _ _ _ _ (by rw [List.length_take]; omega), List.length_take, Nat.min_eq_left (by omega), Nat.sub_self, drop_getD, Nat.add_zero]
    have e1 : (bdF t p k.toNat c (i + 1)).getD j 0 = ((bdF t p k.toNat c i).getD j 0 + c.getD i 0 * (ptF t p (digN t.length k.toNat (i : Int)) k.toNat).getD j 0).tmod p := by
      rw [bdF, if_neg h2, stF, tab_getD _ _ _ (by omega)]
    have v1 := hb j (by omega)
    have v2 := hp j (by omega)
    have v3 := mul_le36 (x := c.getD i 0) (y := (ptF t p (digN t.length k.toNat (i : Int)) k.toNat).getD j 0) (by omega) (by omega)
    rw [e0]
    refine ⟨by omega, by omega, by omega, by omega, by omega, by omega, by omega, by omega, j + 1, ⟨by omega, by omega, h2⟩, by omega, by omega, ?_⟩
    rw [← e1]
    exact set_take_drop _ _ 0 j (by omega) (by omega)
  · have ej : j = t.length ^ (k.toNat - 1) := by omega
    refine ⟨by omega, i + 1, by omega, by omega, by omega, ?_⟩
    rw [List.take_of_length_le (by omega), List.drop_of_length_le (by omega), List.append_nil]
theorem l15Boundary_fits : Fits Try.prog 52 ⟨[], l15Boundary_ct⟩ := by
  refine fits_fn (Γ := gam l15Boundary_G) (gok_cons l15Power_fits (gok_cons l15Tuple_fits (gok_cons l15Tuples_fits gok_nil))) Try.func52 (by kernel_rfl) (by kernel_rfl) (by kernel_rfl) fun ds p h hp => ?_
  unfold l15Boundary_ct at h
  split at h
  · cases h
    exact ⟨noWr, l15Boundary_ann _ _ _ _ , by rw [l15Boundary_vc]; exact l15Boundary_ok _ _ _ _  hp⟩
  · cases h

/-- The answer of RackBoundary. -/
def rbC (t : List (List Int)) (p k : Int) (c : List Int) : List Int × Int :=
  if chC t p k c = 0 then (if k = 0 then ([], 2) else (bdF t p k.toNat c c.length, 0)) else ([], chC t p k c)

theorem rbC_no {t : List (List Int)} {p k : Int} {c : List Int} {z : Int} (h : chC t p k c = z) (hz : z ≠ 0) : [] = (rbC t p k c).1 ∧ z = (rbC t p k c).2 := by
  rw [rbC, if_neg (by omega)]; exact ⟨rfl, h.symm⟩
theorem rbC_zero {t : List (List Int)} {p k : Int} {c : List Int} (h : chC t p k c = 0) (hk : k = 0) : [] = (rbC t p k c).1 ∧ 2 = (rbC t p k c).2 := by
  rw [rbC, if_pos h, if_pos hk]; exact ⟨rfl, rfl⟩
theorem rbC_yes {t : List (List Int)} {p k : Int} {c : List Int} (h : chC t p k c = 0) (hk : k ≠ 0) : bdF t p k.toNat c c.length = (rbC t p k c).1 ∧ 0 = (rbC t p k c).2 := by
  rw [rbC, if_pos h, if_neg hk]; exact ⟨rfl, rfl⟩

theorem ch_cnOk {t : List (List Int)} {p k : Int} {c : List Int} (h : chC t p k c = 0) (hk : k ≠ 0) : cnOk t p k c := by
  obtain ⟨h1, h2, h3, h4, h5⟩ := chC_ok h
  have hp := primeB_le h2
  have hd := degB_of h3
  obtain ⟨c1, c2, c3⟩ := chB_of h4
  exact ⟨rackB_tab h1, hp.1, hp.2, by omega, h3, c2, c1⟩

theorem rbC_len (t : List (List Int)) (p k : Int) (c : List Int) : (rbC t p k c).1.length ≤ 512 := by
  unfold rbC
  split
  · split
    · simp
    · rename_i h hk
      obtain ⟨h1, p1, p2, hk1, hd, hc, hcl⟩ := ch_cnOk h hk
      have := (deg_sub h1 hk1 hd).2.1
      rw [← Int.natCast_pow] at this
      simp only [bdF_length]
      omega
  · simp

def iRB_p (t : List (List Int)) (p : Int) (k : Int) (c : List Int) : Post := ⟨roomR t ∧ c.length ≤ 1099511627776, .tup [.inl (.ints 2 .i64 ((rbC t p k c).1)), .inl (.int .i64 ((rbC t p k c).2))], []⟩
def iRB_ct : List AD → Option Post
  | [.agg [.rows .i64 (t)], .c (.int .i64 (p)), .c (.int .i64 (k)), .c (.ints .i64 (c))] => some (iRB_p t p k c)
  | _ => none
def iRB_G : List (Nat × Ctr) := [(48, ⟨[], checkChain_ct⟩), (49, ⟨[], boundaryOf_ct⟩)]
def iRB_V (t : List (List Int)) (p : Int) (k : Int) (c : List Int) : Prop :=
  ((((roomR t) ∧
 (List.length c ≤ (1099511627776 : Nat))) ∧
 (True)) ∧
 (BrP (chC t p k c != (0 : Int))
 ((([] = Prod.fst (rbC t p k c)) ∧
 ((chC t p k c = Prod.snd (rbC t p k c)) ∧
 (True))) ∧
 (True))
 (BrP (k == (0 : Int))
 ((([] = Prod.fst (rbC t p k c)) ∧
 (((2 : Int) = Prod.snd (rbC t p k c)) ∧
 (True))) ∧
 (True))
 (((cnOk t p k c) ∧
 (True)) ∧
 (((bdF t p (Int.toNat k) c (List.length c) = Prod.fst (rbC t p k c)) ∧
 (((0 : Int) = Prod.snd (rbC t p k c)) ∧
 (True))) ∧
 (True))))))
theorem iRB_vc (t : List (List Int)) (p : Int) (k : Int) (c : List Int) : runF Try.prog (gam iRB_G) noWr noAnn Try.f16 (bodyOf Try.f16) [] [.agg [.rows .i64 (t)], .c (.int .i64 (p)), .c (.int .i64 (k)), .c (.ints .i64 (c))] (iRB_p t p k c) = iRB_V t p k c := by kernel_rfl
theorem iRB_ok (t : List (List Int)) (p : Int) (k : Int) (c : List Int) (hpre : (iRB_p t p k c).pre) : iRB_V t p k c := by
  simp only [iRB_p, iRB_V, BrP_iff, true_and, and_true, decide_eq_true_eq, decide_eq_false_iff_not, bne_iff_ne, beq_iff_eq, bne_eq_false_iff_eq, beq_eq_false_iff_ne, Bool.not_eq_true, Bool.not_eq_false, Bool.not_true, Bool.not_false, Bool.not_eq_eq_eq_not, Int.toNat_natCast, List.length_append, List.length_take, List.length_replicate, List.length_set, List.length_map, List.length_drop, List.length_nil, List.length_cons, markL_length, inB, InR, room, bdsOk] at hpre ⊢
  refine ⟨hpre, fun h => rbC_no rfl h, fun h => ⟨fun h2 => rbC_zero h h2, fun h2 => ⟨ch_cnOk h h2, rbC_yes h h2⟩⟩⟩
theorem iRB_fits : Fits Try.prog 16 ⟨[], iRB_ct⟩ := by
  refine fits_fn (Γ := gam iRB_G) (gok_cons checkChain_fits (gok_cons boundaryOf_fits gok_nil)) Try.func16 (by kernel_rfl) (by kernel_rfl) (by kernel_rfl) fun ds p h hp => ?_
  unfold iRB_ct at h
  split at h
  · cases h
    exact ⟨noWr, noAnn, by rw [iRB_vc]; exact iRB_ok _ _ _ _  hp⟩
  · cases h




end Go.Sx
