/- Ext Rb Inc Qb -/
import Derived.Test.YtcfbmimjffkgdaaRackC
import Derived.Test.YtcfbmimjffkgdaaBndC
import Derived.Test.YtcfbmimjffkgdaaCoc
import Derived.Test.YtcfbmimjffkgdaaBase
section
open Go Go.Proofs
namespace Go.Sx
set_option linter.unusedSimpArgs false
set_option linter.unusedVariables false

end Go.Sx
end

section
open Go Go.Proofs
namespace Go.Sx
set_option linter.unusedSimpArgs false
set_option linter.unusedVariables false

/-- A chain of degree k. -/
def cnOk (t : List (List Int)) (p k : Int) (c : List Int) : Prop := tabB t = true ∧ 2 ≤ p ∧ p ≤ 7 ∧ 1 ≤ k ∧ degB t.length k = true ∧ inP p c ∧ c.length = t.length ^ k.toNat

theorem bdF_length (t : List (List Int)) (p : Int) (k : Nat) (c : List Int) : ∀ i, (bdF t p k c i).length = t.length ^ (k - 1)
  | 0 => by simp [bdF]
  | i + 1 => by
    simp only [bdF]
    split
    · exact bdF_length t p k c i
    · rw [stF_length, bdF_length t p k c i]

theorem bdF_in (t : List (List Int)) {p : Int} (hp : 2 ≤ p) (k : Nat) {c : List Int} (hc : inP p c) : ∀ i, i ≤ c.length → inP p (bdF t p k c i)
  | 0, _ => rep_in (by omega) _
  | i + 1, h => by
    have ih := bdF_in t hp k hc i (by omega)
    simp only [bdF]
    split
    · exact ih
    · refine stF_in (by omega) (hc i (by omega)).1 (by rw [bdF_length, ptF_length, digN_length]) (ptF_in t hp _ _) ih

theorem deg_sub {t : List (List Int)} (h1 : tabB t = true) {k : Int} (hk : 1 ≤ k) (hd : degB t.length k = true) : degB t.length (k - 1) = true ∧ (t.length : Int) ^ (k.toNat - 1) ≤ 512 ∧ k ≤ 1000 ∧ (t.length : Int) ^ k.toNat ≤ 512 ∧ (k - 1).toNat = k.toNat - 1 := by
  have d := degB_of hd
  have hn := (tabB_of h1).1
  have := pow_le (n := (t.length : Int)) (by omega) (show k.toNat - 1 ≤ k.toNat by omega)
  have e : (k - 1).toNat = k.toNat - 1 := by omega
  refine ⟨?_, by omega, by omega, by omega, e⟩
  simp only [degB, Bool.and_eq_true, decide_eq_true_eq]
  rw [e]
  omega

def boundaryOf_p (t : List (List Int)) (p : Int) (k : Int) (c : List Int) : Post := ⟨cnOk t p k c, .c (.ints 2 .i64 (bdF t p k.toNat c c.length)), []⟩
def boundaryOf_ct : List AD → Option Post
  | [.c (.rows .i64 (t)), .c (.int .i64 (p)), .c (.int .i64 (k)), .c (.ints .i64 (c))] => some (boundaryOf_p t p k c)
  | _ => none
def boundaryOf_ann (t : List (List Int)) (p : Int) (k : Int) (c : List Int) : Nat → Option Ann
  | 0 => some (Ann.mk ((Nat)) (fun i => ⟨[(0, .c (.ro (.rows .i64 (t)))), (1, .c (.int .i64 (p))), (2, .c (.int .i64 (k))), (9, .c (.int .i64 ((t.length : Int)))), (10, .c (.own (19))), (20, .c (.ro (.ints .i64 (c)))), (21, .c (.int .i64 ((c.length : Int)))), (22, .c (.int .i64 ((i : Int))))], [(19, some (.ints 2 .i64 (bdF t p k.toNat c i)))]⟩) (fun i => i ≤ c.length) (fun i => c.length - i) (fun _ => noAnn))
  | _ => none
def boundaryOf_G : List (Nat × Ctr) := [(90, ⟨[], tuplesOf_ct⟩), (91, ⟨[], tupleOf_ct⟩), (113, ⟨[(4, 0)], addBoundary_ct⟩)]
def boundaryOf_V (t : List (List Int)) (p : Int) (k : Int) (c : List Int) : Prop :=
  ((InR (k - (1 : Int))) ∧
 (((((1 : Int) ≤ (↑(List.length t) : Int)) ∧
 (((↑(List.length t) : Int) ≤ (12 : Int)) ∧
 (degB (↑(List.length t) : Int) (k - (1 : Int)) = Bool.true))) ∧
 (True)) ∧
 ((((0 : Int) ≤ (↑(List.length t) : Int) ^ Int.toNat (k - (1 : Int))) ∧
 (((↑(List.length t) : Int) ^ Int.toNat (k - (1 : Int)) ≤ (↑(List.length t) : Int) ^ Int.toNat (k - (1 : Int))) ∧
 (room (Int.toNat ((↑(List.length t) : Int) ^ Int.toNat (k - (1 : Int))))))) ∧
 ((∃ x0 : Nat, ((x0 ≤ List.length c) ∧
 ((t = t) ∧
 ((p = p) ∧
 ((k = k) ∧
 (((↑(List.length t) : Int) = (↑(List.length t) : Int)) ∧
 ((c = c) ∧
 (((↑(List.length c) : Int) = (↑(List.length c) : Int)) ∧
 (((0 : Int) = (↑x0 : Int)) ∧
 (List.replicate (Int.toNat ((↑(List.length t) : Int) ^ Int.toNat (k - (1 : Int)))) (0 : Int) = bdF t p (Int.toNat k) c x0)))))))))) ∧
 (∀ x1 : Nat, ((x1 ≤ List.length c) →
 (BrP (Decidable.decide ((↑x1 : Int) < (↑(List.length c) : Int)))
 ((inB (↑x1 : Int) (List.length c)) ∧
 (BrP (List.getD c (Int.toNat (↑x1 : Int)) (0 : Int) != (0 : Int))
 (((((1 : Int) ≤ (↑(List.length t) : Int)) ∧
 (((0 : Int) ≤ k) ∧
 ((k ≤ (1000 : Int)) ∧
 (((0 : Int) ≤ (↑x1 : Int)) ∧
 ((↑x1 : Int) ≤ (1000000 : Int)))))) ∧
 (True)) ∧
 ((((bdOk t p (digN (↑(List.length t) : Int) (Int.toNat k) (↑x1 : Int))) ∧
 (((0 : Int) ≤ List.getD c (Int.toNat (↑x1 : Int)) (0 : Int)) ∧
 ((List.getD c (Int.toNat (↑x1 : Int)) (0 : Int) ≤ p - (1 : Int)) ∧
 ((inP p (bdF t p (Int.toNat k) c x1)) ∧
 (List.length (bdF t p (Int.toNat k) c x1) = List.length t ^ (List.length (digN (↑(List.length t) : Int) (Int.toNat k) (↑x1 : Int)) - (1 : Nat))))))) ∧
 ((List.length (adF t p (digN (↑(List.length t) : Int) (Int.toNat k) (↑x1 : Int)) (List.getD c (Int.toNat (↑x1 : Int)) (0 : Int)) (bdF t p (Int.toNat k) c x1) (List.length (digN (↑(List.length t) : Int) (Int.toNat k) (↑x1 : Int)))) = List.length (bdF t p (Int.toNat k) c x1)) ∧
 (True))) ∧
 ((InR ((↑x1 : Int) + (1 : Int))) ∧
 (∃ x2 : Nat, ((x2 ≤ List.length c) ∧
 ((List.length c - x2 < List.length c - x1) ∧
 ((t = t) ∧
 ((p = p) ∧
 ((k = k) ∧
 (((↑(List.length t) : Int) = (↑(List.length t) : Int)) ∧
 ((c = c) ∧
 (((↑(List.length c) : Int) = (↑(List.length c) : Int)) ∧
 (((↑x1 : Int) + (1 : Int) = (↑x2 : Int)) ∧
 (adF t p (digN (↑(List.length t) : Int) (Int.toNat k) (↑x1 : Int)) (List.getD c (Int.toNat (↑x1 : Int)) (0 : Int)) (bdF t p (Int.toNat k) c x1) (List.length (digN (↑(List.length t) : Int) (Int.toNat k) (↑x1 : Int))) = bdF t p (Int.toNat k) c x2))))))))))))))
 ((InR ((↑x1 : Int) + (1 : Int))) ∧
 (∃ x3 : Nat, ((x3 ≤ List.length c) ∧
 ((List.length c - x3 < List.length c - x1) ∧
 ((t = t) ∧
 ((p = p) ∧
 ((k = k) ∧
 (((↑(List.length t) : Int) = (↑(List.length t) : Int)) ∧
 ((c = c) ∧
 (((↑(List.length c) : Int) = (↑(List.length c) : Int)) ∧
 (((↑x1 : Int) + (1 : Int) = (↑x3 : Int)) ∧
 (bdF t p (Int.toNat k) c x1 = bdF t p (Int.toNat k) c x3))))))))))))))
 ((bdF t p (Int.toNat k) c x1 = bdF t p (Int.toNat k) c (List.length c)) ∧
 (True)))))))))
theorem boundaryOf_vc (t : List (List Int)) (p : Int) (k : Int) (c : List Int) : runF Try.prog (gam boundaryOf_G) noWr (boundaryOf_ann t p k c) Try.f81 (bodyOf Try.f81) [] [.c (.rows .i64 (t)), .c (.int .i64 (p)), .c (.int .i64 (k)), .c (.ints .i64 (c))] (boundaryOf_p t p k c) = boundaryOf_V t p k c := by kernel_rfl
theorem boundaryOf_ok (t : List (List Int)) (p : Int) (k : Int) (c : List Int) (hpre : (boundaryOf_p t p k c).pre) : boundaryOf_V t p k c := by
  simp only [boundaryOf_p, boundaryOf_V, BrP_iff, true_and, and_true, decide_eq_true_eq, decide_eq_false_iff_not, bne_iff_ne, beq_iff_eq, bne_eq_false_iff_eq, beq_eq_false_iff_ne, Bool.not_eq_true, Bool.not_eq_false, Bool.not_true, Bool.not_false, Bool.not_eq_eq_eq_not, Int.toNat_natCast, List.length_append, List.length_take, List.length_replicate, List.length_set, List.length_map, List.length_drop, List.length_nil, List.length_cons, markL_length, inB, InR, room, bdsOk] at hpre ⊢
  obtain ⟨h1, p1, p2, hk, hd, hc, hcl⟩ := hpre
  obtain ⟨n1, n2, ht⟩ := tabB_of h1
  obtain ⟨d1, d2, d3, d4, d5⟩ := deg_sub h1 hk hd
  have eN : (t.length : Int) ^ (k.toNat - 1) = ((t.length ^ (k.toNat - 1) : Nat) : Int) := (Int.natCast_pow _ _).symm
  have eC : (c.length : Int) = (t.length : Int) ^ k.toNat := by rw [hcl, Int.natCast_pow]
  rw [d5, eN, Int.toNat_natCast]
  rw [eN] at d2
  refine ⟨by omega, ⟨by omega, by omega, d1⟩, by omega, ⟨0, by omega, rfl, rfl⟩, fun i hi => ⟨fun h => ⟨by omega, fun h2 => ?_, fun h2 => ⟨by omega, i + 1, by omega, by omega, by omega, by rw [bdF, if_pos h2]⟩⟩, fun h => by rw [show i = c.length by omega]⟩⟩
  have ci := hc i (by omega)
  have hx : bdOk t p (digN t.length k.toNat (i : Int)) := dig_ok h1 p1 p2 (by omega) (by rw [eN]; omega) (by omega)
  have hb := bdF_in t p1 k.toNat hc i hi
  have hl := bdF_length t p k.toNat c i
  rw [digN_length, adF_length]
  refine ⟨by omega, ⟨⟨hx, ci.1, ci.2, hb, hl⟩, rfl⟩, by omega, i + 1, by omega, by omega, by omega, ?_⟩
  rw [bdF, if_neg h2, ad_eq p1 ci hb (by rw [digN_length, hl])]
theorem boundaryOf_fits : Fits Try.prog 81 ⟨[], boundaryOf_ct⟩ := by
  refine fits_fn (Γ := gam boundaryOf_G) (gok_cons tuplesOf_fits (gok_cons tupleOf_fits (gok_cons addBoundary_fits gok_nil))) Try.func81 (by kernel_rfl) (by kernel_rfl) (by kernel_rfl) fun ds p h hp => ?_
  unfold boundaryOf_ct at h
  split at h
  · cases h
    exact ⟨noWr, boundaryOf_ann _ _ _ _ , by rw [boundaryOf_vc]; exact boundaryOf_ok _ _ _ _  hp⟩
  · cases h

def l15Boundary_p (t : List (List Int)) (p : Int) (k : Int) (c : List Int) : Post := ⟨cnOk t p k c, .c (.ints 2 .i64 (bdF t p k.toNat c c.length)), []⟩
def l15Boundary_ct : List AD → Option Post
  | [.c (.rows .i64 (t)), .c (.int .i64 (p)), .c (.int .i64 (k)), .c (.ints .i64 (c))] => some (l15Boundary_p t p k c)
  | _ => none
def l15Boundary_ann (t : List (List Int)) (p : Int) (k : Int) (c : List Int) : Nat → Option Ann
  | 0 => some (Ann.mk ((Nat)) (fun i => ⟨[(0, .c (.ro (.rows .i64 (t)))), (1, .c (.int .i64 (p))), (2, .c (.int .i64 (k))), (3, .c (.ro (.ints .i64 (c)))), (9, .c (.int .i64 ((t.length : Int)))), (10, .c (.own (20))), (11, .c (.int .i64 ((i : Int))))], [(20, some (.ints 2 .i64 (bdF t p k.toNat c i)))]⟩) (fun i => i ≤ c.length) (fun i => c.length - i) (fun i => fun b_ => match b_ with | 2 => some (Ann.mk ((Nat)) (fun j => ⟨[(0, .c (.ro (.rows .i64 (t)))), (1, .c (.int .i64 (p))), (2, .c (.int .i64 (k))), (3, .c (.ro (.ints .i64 (c)))), (9, .c (.int .i64 ((t.length : Int)))), (10, .c (.own (20))), (11, .c (.int .i64 ((i : Int)))), (12, .c (.own (38))), (13, .c (.int .i64 ((j : Int))))], [(20, some (.ints 2 .i64 ((bdF t p k.toNat c (i + 1)).take j ++ (bdF t p k.toNat c i).drop j))), (38, some (.ints 2 .i64 (ptF t p (digN t.length k.toNat i) k.toNat)))]⟩) (fun j => j ≤ t.length ^ (k.toNat - 1) ∧ i < c.length ∧ c.getD i 0 ≠ 0) (fun j => t.length ^ (k.toNat - 1) - j) (fun _ => noAnn)) | _ => none))
  | _ => none
def l15Boundary_G : List (Nat × Ctr) := [(96, ⟨[], l15Power_ct⟩), (45, ⟨[], l15Tuple_ct⟩), (44, ⟨[], l15Tuples_ct⟩)]
def l15Boundary_V (t : List (List Int)) (p : Int) (k : Int) (c : List Int) : Prop :=
  ((InR (k - (1 : Int))) ∧
 (((((1 : Int) ≤ (↑(List.length t) : Int)) ∧
 (((↑(List.length t) : Int) ≤ (12 : Int)) ∧
 (((0 : Int) ≤ k - (1 : Int)) ∧
 (k - (1 : Int) ≤ (1000 : Int))))) ∧
 (True)) ∧
 ((((0 : Int) ≤ if (↑(List.length t) : Int) ^ Int.toNat (k - (1 : Int)) ≤ (512 : Int) then (↑(List.length t) : Int) ^ Int.toNat (k - (1 : Int)) else (513 : Int)) ∧
 (((if (↑(List.length t) : Int) ^ Int.toNat (k - (1 : Int)) ≤ (512 : Int) then (↑(List.length t) : Int) ^ Int.toNat (k - (1 : Int)) else (513 : Int)) ≤ if (↑(List.length t) : Int) ^ Int.toNat (k - (1 : Int)) ≤ (512 : Int) then (↑(List.length t) : Int) ^ Int.toNat (k - (1 : Int)) else (513 : Int)) ∧
 (room (Int.toNat (if (↑(List.length t) : Int) ^ Int.toNat (k - (1 : Int)) ≤ (512 : Int) then (↑(List.length t) : Int) ^ Int.toNat (k - (1 : Int)) else (513 : Int)))))) ∧
 ((∃ x0 : Nat, ((x0 ≤ List.length c) ∧
 ((t = t) ∧
 ((p = p) ∧
 ((k = k) ∧
 ((c = c) ∧
 (((↑(List.length t) : Int) = (↑(List.length t) : Int)) ∧
 (((0 : Int) = (↑x0 : Int)) ∧
 (List.replicate (Int.toNat (if (↑(List.length t) : Int) ^ Int.toNat (k - (1 : Int)) ≤ (512 : Int) then (↑(List.length t) : Int) ^ Int.toNat (k - (1 : Int)) else (513 : Int))) (0 : Int) = bdF t p (Int.toNat k) c x0))))))))) ∧
 (∀ x1 : Nat, ((x1 ≤ List.length c) →
 (BrP (Decidable.decide ((↑x1 : Int) < (↑(List.length c) : Int)))
 ((inB (↑x1 : Int) (List.length c)) ∧
 (BrP (List.getD c (Int.toNat (↑x1 : Int)) (0 : Int) == (0 : Int))
 ((InR ((↑x1 : Int) + (1 : Int))) ∧
 (∃ x2 : Nat, ((x2 ≤ List.length c) ∧
 ((List.length c - x2 < List.length c - x1) ∧
 ((t = t) ∧
 ((p = p) ∧
 ((k = k) ∧
 ((c = c) ∧
 (((↑(List.length t) : Int) = (↑(List.length t) : Int)) ∧
 (((↑x1 : Int) + (1 : Int) = (↑x2 : Int)) ∧
 (bdF t p (Int.toNat k) c x1 = bdF t p (Int.toNat k) c x2)))))))))))
 (((((1 : Int) ≤ (↑(List.length t) : Int)) ∧
 (((0 : Int) ≤ k) ∧
 ((k ≤ (1000 : Int)) ∧
 (((0 : Int) ≤ (↑x1 : Int)) ∧
 ((↑x1 : Int) ≤ (1000000 : Int)))))) ∧
 (True)) ∧
 ((((bdOk t p (digN (↑(List.length t) : Int) (Int.toNat k) (↑x1 : Int))) ∧
 ((1 : Nat) ≤ List.length (digN (↑(List.length t) : Int) (Int.toNat k) (↑x1 : Int)))) ∧
 (True)) ∧
 ((∃ x3 : Nat, (((x3 ≤ List.length t ^ (Int.toNat k - (1 : Nat))) ∧
 ((x1 < List.length c) ∧
 (List.getD c x1 (0 : Int) ≠ (0 : Int)))) ∧
 ((t = t) ∧
 ((p = p) ∧
 ((k = k) ∧
 ((c = c) ∧
 (((↑(List.length t) : Int) = (↑(List.length t) : Int)) ∧
 (((↑x1 : Int) = (↑x1 : Int)) ∧
 (((0 : Int) = (↑x3 : Int)) ∧
 ((bdF t p (Int.toNat k) c x1 = List.take x3 (bdF t p (Int.toNat k) c (x1 + (1 : Nat))) ++ List.drop x3 (bdF t p (Int.toNat k) c x1)) ∧
 (ptF t p (digN (↑(List.length t) : Int) (Int.toNat k) (↑x1 : Int)) (List.length (digN (↑(List.length t) : Int) (Int.toNat k) (↑x1 : Int))) = ptF t p (digN (↑(List.length t) : Int) (Int.toNat k) (↑x1 : Int)) (Int.toNat k)))))))))))) ∧
 (∀ x4 : Nat, (((x4 ≤ List.length t ^ (Int.toNat k - (1 : Nat))) ∧
 ((x1 < List.length c) ∧
 (List.getD c x1 (0 : Int) ≠ (0 : Int)))) →
 (BrP (Decidable.decide ((↑x4 : Int) < (↑(List.length (List.take x4 (bdF t p (Int.toNat k) c (x1 + (1 : Nat))) ++ List.drop x4 (bdF t p (Int.toNat k) c x1))) : Int)))
 ((inB (↑x4 : Int) (List.length (List.take x4 (bdF t p (Int.toNat k) c (x1 + (1 : Nat))) ++ List.drop x4 (bdF t p (Int.toNat k) c x1)))) ∧
 ((inB (↑x1 : Int) (List.length c)) ∧
 ((inB (↑x4 : Int) (List.length (ptF t p (digN (↑(List.length t) : Int) (Int.toNat k) (↑x1 : Int)) (Int.toNat k)))) ∧
 ((InR (List.getD c (Int.toNat (↑x1 : Int)) (0 : Int) * List.getD (ptF t p (digN (↑(List.length t) : Int) (Int.toNat k) (↑x1 : Int)) (Int.toNat k)) (Int.toNat (↑x4 : Int)) (0 : Int))) ∧
 ((InR (List.getD (List.take x4 (bdF t p (Int.toNat k) c (x1 + (1 : Nat))) ++ List.drop x4 (bdF t p (Int.toNat k) c x1)) (Int.toNat (↑x4 : Int)) (0 : Int) + List.getD c (Int.toNat (↑x1 : Int)) (0 : Int) * List.getD (ptF t p (digN (↑(List.length t) : Int) (Int.toNat k) (↑x1 : Int)) (Int.toNat k)) (Int.toNat (↑x4 : Int)) (0 : Int))) ∧
 ((p ≠ (0 : Int)) ∧
 ((inB (↑x4 : Int) (List.length (List.take x4 (bdF t p (Int.toNat k) c (x1 + (1 : Nat))) ++ List.drop x4 (bdF t p (Int.toNat k) c x1)))) ∧
 ((InR ((↑x4 : Int) + (1 : Int))) ∧
 (∃ x5 : Nat, (((x5 ≤ List.length t ^ (Int.toNat k - (1 : Nat))) ∧
 ((x1 < List.length c) ∧
 (List.getD c x1 (0 : Int) ≠ (0 : Int)))) ∧
 ((List.length t ^ (Int.toNat k - (1 : Nat)) - x5 < List.length t ^ (Int.toNat k - (1 : Nat)) - x4) ∧
 ((t = t) ∧
 ((p = p) ∧
 ((k = k) ∧
 ((c = c) ∧
 (((↑(List.length t) : Int) = (↑(List.length t) : Int)) ∧
 (((↑x1 : Int) = (↑x1 : Int)) ∧
 (((↑x4 : Int) + (1 : Int) = (↑x5 : Int)) ∧
 ((List.set (List.take x4 (bdF t p (Int.toNat k) c (x1 + (1 : Nat))) ++ List.drop x4 (bdF t p (Int.toNat k) c x1)) (Int.toNat (↑x4 : Int)) (Int.tmod (List.getD (List.take x4 (bdF t p (Int.toNat k) c (x1 + (1 : Nat))) ++ List.drop x4 (bdF t p (Int.toNat k) c x1)) (Int.toNat (↑x4 : Int)) (0 : Int) + List.getD c (Int.toNat (↑x1 : Int)) (0 : Int) * List.getD (ptF t p (digN (↑(List.length t) : Int) (Int.toNat k) (↑x1 : Int)) (Int.toNat k)) (Int.toNat (↑x4 : Int)) (0 : Int)) p) = List.take x5 (bdF t p (Int.toNat k) c (x1 + (1 : Nat))) ++ List.drop x5 (bdF t p (Int.toNat k) c x1)) ∧
 (ptF t p (digN (↑(List.length t) : Int) (Int.toNat k) (↑x1 : Int)) (Int.toNat k) = ptF t p (digN (↑(List.length t) : Int) (Int.toNat k) (↑x1 : Int)) (Int.toNat k)))))))))))))))))))))
 ((InR ((↑x1 : Int) + (1 : Int))) ∧
 (∃ x6 : Nat, ((x6 ≤ List.length c) ∧
 ((List.length c - x6 < List.length c - x1) ∧
 ((t = t) ∧
 ((p = p) ∧
 ((k = k) ∧
 ((c = c) ∧
 (((↑(List.length t) : Int) = (↑(List.length t) : Int)) ∧
 (((↑x1 : Int) + (1 : Int) = (↑x6 : Int)) ∧
 (List.take x4 (bdF t p (Int.toNat k) c (x1 + (1 : Nat))) ++ List.drop x4 (bdF t p (Int.toNat k) c x1) = bdF t p (Int.toNat k) c x6)))))))))))))))))))
 ((bdF t p (Int.toNat k) c x1 = bdF t p (Int.toNat k) c (List.length c)) ∧
 (True)))))))))
theorem l15Boundary_vc (t : List (List Int)) (p : Int) (k : Int) (c : List Int) : runF Try.prog (gam l15Boundary_G) noWr (l15Boundary_ann t p k c) Try.f84 (bodyOf Try.f84) [] [.c (.rows .i64 (t)), .c (.int .i64 (p)), .c (.int .i64 (k)), .c (.ints .i64 (c))] (l15Boundary_p t p k c) = l15Boundary_V t p k c := by kernel_rfl
theorem l15Boundary_ok (t : List (List Int)) (p : Int) (k : Int) (c : List Int) (hpre : (l15Boundary_p t p k c).pre) : l15Boundary_V t p k c := by
  simp only [l15Boundary_p, l15Boundary_V, BrP_iff, true_and, and_true, decide_eq_true_eq, decide_eq_false_iff_not, bne_iff_ne, beq_iff_eq, bne_eq_false_iff_eq, beq_eq_false_iff_ne, Bool.not_eq_true, Bool.not_eq_false, Bool.not_true, Bool.not_false, Bool.not_eq_eq_eq_not, Int.toNat_natCast, List.length_append, List.length_take, List.length_replicate, List.length_set, List.length_map, List.length_drop, List.length_nil, List.length_cons, markL_length, inB, InR, room, bdsOk] at hpre ⊢
  obtain ⟨h1, p1, p2, hk, hd, hc, hcl⟩ := hpre
  obtain ⟨n1, n2, ht⟩ := tabB_of h1
  obtain ⟨d1, d2, d3, d4, d5⟩ := deg_sub h1 hk hd
  have eN : (t.length : Int) ^ (k.toNat - 1) = ((t.length ^ (k.toNat - 1) : Nat) : Int) := (Int.natCast_pow _ _).symm
  have eC : (c.length : Int) = (t.length : Int) ^ k.toNat := by rw [hcl, Int.natCast_pow]
  rw [d5, if_pos d2, eN, Int.toNat_natCast]
  have d6 := d2
  rw [eN] at d2
  refine ⟨by omega, by omega, by omega, ⟨0, by omega, rfl, rfl⟩, fun i hi => ⟨fun h => ⟨by omega, fun h2 => ⟨by omega, i + 1, by omega, by omega, by omega, by rw [bdF, if_pos h2]⟩, fun h2 => ?_⟩, fun h => by rw [show i = c.length by omega]⟩⟩
  have ci := hc i (by omega)
  have hx : bdOk t p (digN t.length k.toNat (i : Int)) := dig_ok h1 p1 p2 (by omega) d6 (by omega)
  have hb := bdF_in t p1 k.toNat hc i hi
  have hl := bdF_length t p k.toNat c i
  have hl2 := bdF_length t p k.toNat c (i + 1)
  have hp := ptF_in t p1 (digN t.length k.toNat (i : Int)) k.toNat
  have hpl : (ptF t p (digN t.length k.toNat (i : Int)) k.toNat).length = t.length ^ (k.toNat - 1) := by rw [ptF_length, digN_length]
  rw [digN_length]
  refine ⟨by omega, ⟨hx, by omega⟩, ⟨0, by omega, rfl, by simp, rfl⟩, fun j ⟨hj, _, _⟩ => ⟨fun h3 => ?_, fun h3 => ?_⟩⟩
  · have hj2 : j < t.length ^ (k.toNat - 1) := by omega
    have e0 : (List.take j (bdF t p k.toNat c (i + 1)) ++ List.drop j (bdF t p k.toNat c i)).getD j 0 = (bdF t p k.toNat c i).getD j 0 := by
      rw [getD_append_right' _ _ _ _ (by rw [List.length_take]; omega), List.length_take, Nat.min_eq_left (by omega), Nat.sub_self, drop_getD, Nat.add_zero]
    have e1 : (bdF t p k.toNat c (i + 1)).getD j 0 = ((bdF t p k.toNat c i).getD j 0 + c.getD i 0 * (ptF t p (digN t.length k.toNat (i : Int)) k.toNat).getD j 0).tmod p := by
      rw [bdF, if_neg h2, stF, tab_getD _ _ _ (by omega)]
    have v1 := hb j (by omega)
    have v2 := hp j (by omega)
    have v3 := mul_le36 (x := c.getD i 0) (y := (ptF t p (digN t.length k.toNat (i : Int)) k.toNat).getD j 0) (by omega) (by omega)
    rw [e0]
    refine ⟨by omega, by omega, by omega, by omega, by omega, by omega, by omega, by omega, j + 1, ⟨by omega, by omega, h2⟩, by omega, by omega, ?_⟩
    rw [← e1]
    exact set_take_drop _ _ 0 j (by omega) (by omega)
  · have ej : j = t.length ^ (k.toNat - 1) := by omega
    refine ⟨by omega, i + 1, by omega, by omega, by omega, ?_⟩
    rw [List.take_of_length_le (by omega), List.drop_of_length_le (by omega), List.append_nil]
theorem l15Boundary_fits : Fits Try.prog 84 ⟨[], l15Boundary_ct⟩ := by
  refine fits_fn (Γ := gam l15Boundary_G) (gok_cons l15Power_fits (gok_cons l15Tuple_fits (gok_cons l15Tuples_fits gok_nil))) Try.func84 (by kernel_rfl) (by kernel_rfl) (by kernel_rfl) fun ds p h hp => ?_
  unfold l15Boundary_ct at h
  split at h
  · cases h
    exact ⟨noWr, l15Boundary_ann _ _ _ _ , by rw [l15Boundary_vc]; exact l15Boundary_ok _ _ _ _  hp⟩
  · cases h

/-- The answer of RackBoundary. -/
def rbC (t : List (List Int)) (p k : Int) (c : List Int) : List Int × Int :=
  if chC t p k c = 0 then (if k = 0 then ([], 2) else (bdF t p k.toNat c c.length, 0)) else ([], chC t p k c)

theorem rbC_no {t : List (List Int)} {p k : Int} {c : List Int} {z : Int} (h : chC t p k c = z) (hz : z ≠ 0) : [] = (rbC t p k c).1 ∧ z = (rbC t p k c).2 := by
  rw [rbC, if_neg (by omega)]; exact ⟨rfl, h.symm⟩
theorem rbC_zero {t : List (List Int)} {p k : Int} {c : List Int} (h : chC t p k c = 0) (hk : k = 0) : [] = (rbC t p k c).1 ∧ 2 = (rbC t p k c).2 := by
  rw [rbC, if_pos h, if_pos hk]; exact ⟨rfl, rfl⟩
theorem rbC_yes {t : List (List Int)} {p k : Int} {c : List Int} (h : chC t p k c = 0) (hk : k ≠ 0) : bdF t p k.toNat c c.length = (rbC t p k c).1 ∧ 0 = (rbC t p k c).2 := by
  rw [rbC, if_pos h, if_neg hk]; exact ⟨rfl, rfl⟩

theorem ch_cnOk {t : List (List Int)} {p k : Int} {c : List Int} (h : chC t p k c = 0) (hk : k ≠ 0) : cnOk t p k c := by
  obtain ⟨h1, h2, h3, h4, h5⟩ := chC_ok h
  have hp := primeB_le h2
  have hd := degB_of h3
  obtain ⟨c1, c2, c3⟩ := chB_of h4
  exact ⟨rackB_tab h1, hp.1, hp.2, by omega, h3, c2, c1⟩

theorem rbC_len (t : List (List Int)) (p k : Int) (c : List Int) : (rbC t p k c).1.length ≤ 512 := by
  unfold rbC
  split
  · split
    · simp
    · rename_i h hk
      obtain ⟨h1, p1, p2, hk1, hd, hc, hcl⟩ := ch_cnOk h hk
      have := (deg_sub h1 hk1 hd).2.1
      rw [← Int.natCast_pow] at this
      simp only [bdF_length]
      omega
  · simp

def iRB_p (t : List (List Int)) (p : Int) (k : Int) (c : List Int) : Post := ⟨roomR t ∧ c.length ≤ 1099511627776, .tup [.inl (.ints 2 .i64 ((rbC t p k c).1)), .inl (.int .i64 ((rbC t p k c).2))], []⟩
def iRB_ct : List AD → Option Post
  | [.agg [.rows .i64 (t)], .c (.int .i64 (p)), .c (.int .i64 (k)), .c (.ints .i64 (c))] => some (iRB_p t p k c)
  | _ => none
def iRB_G : List (Nat × Ctr) := [(80, ⟨[], checkChain_ct⟩), (81, ⟨[], boundaryOf_ct⟩)]
def iRB_V (t : List (List Int)) (p : Int) (k : Int) (c : List Int) : Prop :=
  ((((roomR t) ∧
 (List.length c ≤ (1099511627776 : Nat))) ∧
 (True)) ∧
 (BrP (chC t p k c != (0 : Int))
 ((([] = Prod.fst (rbC t p k c)) ∧
 ((chC t p k c = Prod.snd (rbC t p k c)) ∧
 (True))) ∧
 (True))
 (BrP (k == (0 : Int))
 ((([] = Prod.fst (rbC t p k c)) ∧
 (((2 : Int) = Prod.snd (rbC t p k c)) ∧
 (True))) ∧
 (True))
 (((cnOk t p k c) ∧
 (True)) ∧
 (((bdF t p (Int.toNat k) c (List.length c) = Prod.fst (rbC t p k c)) ∧
 (((0 : Int) = Prod.snd (rbC t p k c)) ∧
 (True))) ∧
 (True))))))
theorem iRB_vc (t : List (List Int)) (p : Int) (k : Int) (c : List Int) : runF Try.prog (gam iRB_G) noWr noAnn Try.f29 (bodyOf Try.f29) [] [.agg [.rows .i64 (t)], .c (.int .i64 (p)), .c (.int .i64 (k)), .c (.ints .i64 (c))] (iRB_p t p k c) = iRB_V t p k c := by kernel_rfl
theorem iRB_ok (t : List (List Int)) (p : Int) (k : Int) (c : List Int) (hpre : (iRB_p t p k c).pre) : iRB_V t p k c := by
  simp only [iRB_p, iRB_V, BrP_iff, true_and, and_true, decide_eq_true_eq, decide_eq_false_iff_not, bne_iff_ne, beq_iff_eq, bne_eq_false_iff_eq, beq_eq_false_iff_ne, Bool.not_eq_true, Bool.not_eq_false, Bool.not_true, Bool.not_false, Bool.not_eq_eq_eq_not, Int.toNat_natCast, List.length_append, List.length_take, List.length_replicate, List.length_set, List.length_map, List.length_drop, List.length_nil, List.length_cons, markL_length, inB, InR, room, bdsOk] at hpre ⊢
  refine ⟨hpre, fun h => rbC_no rfl h, fun h => ⟨fun h2 => rbC_zero h h2, fun h2 => ⟨ch_cnOk h h2, rbC_yes h h2⟩⟩⟩
theorem iRB_fits : Fits Try.prog 29 ⟨[], iRB_ct⟩ := by
  refine fits_fn (Γ := gam iRB_G) (gok_cons checkChain_fits (gok_cons boundaryOf_fits gok_nil)) Try.func29 (by kernel_rfl) (by kernel_rfl) (by kernel_rfl) fun ds p h hp => ?_
  unfold iRB_ct at h
  split at h
  · cases h
    exact ⟨noWr, noAnn, by rw [iRB_vc]; exact iRB_ok _ _ _ _  hp⟩
  · cases h

def sRB_p (t : List (List Int)) (p : Int) (k : Int) (c : List Int) : Post := ⟨roomR t ∧ c.length ≤ 1099511627776, .tup [.inl (.ints 2 .i64 ((rbC t p k c).1)), .inl (.int .i64 ((rbC t p k c).2))], []⟩
def sRB_ct : List AD → Option Post
  | [.agg [.rows .i64 (t)], .c (.int .i64 (p)), .c (.int .i64 (k)), .c (.ints .i64 (c))] => some (sRB_p t p k c)
  | _ => none
def sRB_G : List (Nat × Ctr) := [(82, ⟨[], l15Code_ct⟩), (83, ⟨[], l15Chain_ct⟩), (84, ⟨[], l15Boundary_ct⟩)]
def sRB_V (t : List (List Int)) (p : Int) (k : Int) (c : List Int) : Prop :=
  (((roomR t) ∧
 (True)) ∧
 (BrP (dgC t p k == (0 : Int))
 (BrP (k == (0 : Int))
 ((([] = Prod.fst (rbC t p k c)) ∧
 (((2 : Int) = Prod.snd (rbC t p k c)) ∧
 (True))) ∧
 (True))
 (((((1 : Int) ≤ (↑(List.length t) : Int)) ∧
 (((↑(List.length t) : Int) ≤ (12 : Int)) ∧
 ((degB (↑(List.length t) : Int) k = Bool.true) ∧
 (((2 : Int) ≤ p) ∧
 ((p ≤ (7 : Int)) ∧
 (List.length c ≤ (1099511627776 : Nat))))))) ∧
 (True)) ∧
 (BrP (!(Decidable.decide ((↑(List.length c) : Int) = (↑(List.length t) : Int) ^ Int.toNat k) && allW (0 : Int) (p - (1 : Int)) c))
 ((([] = Prod.fst (rbC t p k c)) ∧
 (((2 : Int) = Prod.snd (rbC t p k c)) ∧
 (True))) ∧
 (True))
 (BrP (dgC t p k != (0 : Int))
 ((([] = Prod.fst (rbC t p k c)) ∧
 ((dgC t p k = Prod.snd (rbC t p k c)) ∧
 (True))) ∧
 (True))
 (((cnOk t p k c) ∧
 (True)) ∧
 (((bdF t p (Int.toNat k) c (List.length c) = Prod.fst (rbC t p k c)) ∧
 (((0 : Int) = Prod.snd (rbC t p k c)) ∧
 (True))) ∧
 (True)))))))
 (BrP (dgC t p k != (0 : Int))
 ((([] = Prod.fst (rbC t p k c)) ∧
 ((dgC t p k = Prod.snd (rbC t p k c)) ∧
 (True))) ∧
 (True))
 (((cnOk t p k c) ∧
 (True)) ∧
 (((bdF t p (Int.toNat k) c (List.length c) = Prod.fst (rbC t p k c)) ∧
 (((0 : Int) = Prod.snd (rbC t p k c)) ∧
 (True))) ∧
 (True))))))
theorem sRB_vc (t : List (List Int)) (p : Int) (k : Int) (c : List Int) : runF Try.prog (gam sRB_G) noWr noAnn Try.f30 (bodyOf Try.f30) [] [.agg [.rows .i64 (t)], .c (.int .i64 (p)), .c (.int .i64 (k)), .c (.ints .i64 (c))] (sRB_p t p k c) = sRB_V t p k c := by kernel_rfl
theorem sRB_ok (t : List (List Int)) (p : Int) (k : Int) (c : List Int) (hpre : (sRB_p t p k c).pre) : sRB_V t p k c := by
  simp only [sRB_p, sRB_V, BrP_iff, true_and, and_true, decide_eq_true_eq, decide_eq_false_iff_not, bne_iff_ne, beq_iff_eq, bne_eq_false_iff_eq, beq_eq_false_iff_ne, Bool.not_eq_true, Bool.not_eq_false, Bool.not_true, Bool.not_false, Bool.not_eq_eq_eq_not, Int.toNat_natCast, List.length_append, List.length_take, List.length_replicate, List.length_set, List.length_map, List.length_drop, List.length_nil, List.length_cons, markL_length, inB, InR, room, bdsOk] at hpre ⊢
  obtain ⟨hr, hl⟩ := hpre
  refine ⟨hr, fun h0 => ?_, fun h0 => ⟨fun _ => rbC_no (dgC_no c h0).symm h0, fun h => absurd h h0⟩⟩
  obtain ⟨h1, h2, h3, h4⟩ := dgC_ok h0
  obtain ⟨n1, n2, ht⟩ := tabB_of (rackB_tab h1)
  have hp := primeB_le h2
  have no : chB t p k c = false → [] = (rbC t p k c).1 ∧ 2 = (rbC t p k c).2 := fun h5 =>
    rbC_no (by rw [chC, if_pos h1, if_pos h4, if_neg (by rw [h5]; decide)]) (by omega)
  have yes : chB t p k c = true → chC t p k c = 0 := fun h5 => by rw [chC, if_pos h1, if_pos h4, if_pos h5]
  refine ⟨fun hk => ?_, fun hk => ⟨⟨by omega, by omega, h3, hp.1, hp.2, hl⟩, fun h5 => no h5, fun h5 => ⟨fun h => absurd h0 h, fun _ => ⟨ch_cnOk (yes h5) hk, rbC_yes (yes h5) hk⟩⟩⟩⟩
  cases h5 : chB t p k c with
  | false => exact no h5
  | true => exact rbC_zero (yes h5) hk
theorem sRB_fits : Fits Try.prog 30 ⟨[], sRB_ct⟩ := by
  refine fits_fn (Γ := gam sRB_G) (gok_cons l15Code_fits (gok_cons l15Chain_fits (gok_cons l15Boundary_fits gok_nil))) Try.func30 (by kernel_rfl) (by kernel_rfl) (by kernel_rfl) fun ds p h hp => ?_
  unfold sRB_ct at h
  split at h
  · cases h
    exact ⟨noWr, noAnn, by rw [sRB_vc]; exact sRB_ok _ _ _ _  hp⟩
  · cases h

end Go.Sx
end

section
open Go Go.Proofs
namespace Go.Sx
set_option linter.unusedSimpArgs false
set_option linter.unusedVariables false

def unitL (n : Nat) : List Int := tab n fun i => (i : Int)

def rngB (n : Int) (l : List Int) : Prop := ∀ x ∈ l, 0 ≤ x ∧ x < n

theorem rngB_get {n : Int} {l : List Int} (h : rngB n l) (i : Nat) (hi : i < l.length) : 0 ≤ l.getD i 0 ∧ l.getD i 0 < n := h _ (getD_mem l 0 i hi)

def incB : List Int → Bool
  | x :: y :: r => decide (x < y) && incB (y :: r)
  | _ => true

theorem incB_drop (l : List Int) (i : Nat) (h : i + 1 < l.length) : incB (l.drop i) = (decide (l.getD i 0 < l.getD (i + 1) 0) && incB (l.drop (i + 1))) := by
  rw [drop_cons' l 0 i (by omega), drop_cons' l 0 (i + 1) h]
  rfl

theorem incB_short (l : List Int) (i : Nat) (h : l.length ≤ i + 1) : incB (l.drop i) = true := by
  by_cases hi : i < l.length
  · rw [drop_cons' l 0 i hi, List.drop_of_length_le h]; rfl
  · rw [List.drop_of_length_le (by omega)]; rfl

theorem incB_get {l : List Int} (h : incB l = true) (i : Nat) (hi : i + 1 < l.length) : l.getD i 0 < l.getD (i + 1) 0 := by
  have : ∀ j, j ≤ i → incB (l.drop j) = true := fun j => by
    induction j with
    | zero => intro _; simpa using h
    | succ j ih =>
      intro hj
      have := ih (by omega)
      rw [incB_drop l j (by omega), Bool.and_eq_true] at this
      exact this.2
  have := this i (Nat.le_refl _)
  rw [incB_drop l i hi, Bool.and_eq_true] at this
  exact of_decide_eq_true this.1

/-- Increasing numbers of 0..n-1, n of them, are all in order. -/
theorem inc_unit {l : List Int} (hr : rngB (l.length : Int) l) : incB l = decide (l = unitL l.length) := by
  cases hc : incB l with
  | true =>
    symm
    apply decide_eq_true
    have low : ∀ i, i < l.length → (i : Int) ≤ l.getD i 0 := fun i => by
      induction i with
      | zero => intro hi; exact (rngB_get hr 0 hi).1
      | succ i ih =>
        intro hi
        have h1 := ih (by omega)
        have h2 := incB_get hc i hi
        omega
    have high : ∀ j i, i + j + 1 = l.length → l.getD i 0 ≤ (i : Int) := fun j => by
      induction j with
      | zero =>
        intro i hi
        have := rngB_get hr i (by omega)
        omega
      | succ j ih =>
        intro i hi
        have h1 := ih (i + 1) (by omega)
        have h2 := incB_get hc i (by omega)
        omega
    apply list_ext (by simp [unitL, tab_length])
    intro i hi
    rw [unitL, tab_getD _ _ _ hi]
    have h1 := low i hi
    have h2 := high (l.length - i - 1) i (by omega)
    omega
  | false =>
    symm
    apply decide_eq_false
    intro he
    have : ∀ n i, n - i ≤ n → incB ((unitL n).drop (n - i)) = true := fun n i => by
      induction i with
      | zero => intro _; exact incB_short _ _ (by simp [unitL, tab_length])
      | succ i ih =>
        intro hi
        by_cases hn : i + 1 ≤ n
        · by_cases h1 : i = 0
          · subst h1; exact incB_short _ _ (by simp [unitL, tab_length]; omega)
          · rw [incB_drop _ _ (by simp [unitL, tab_length]; omega), Bool.and_eq_true]
            refine ⟨decide_eq_true ?_, ?_⟩
            · rw [unitL, tab_getD _ _ _ (by omega), tab_getD _ _ _ (by omega)]; omega
            · rw [show n - (i + 1) + 1 = n - i by omega]; exact ih (by omega)
        · have := ih (by omega)
          rwa [show n - (i + 1) = n - i by omega]
    have := this l.length l.length (by omega)
    rw [Nat.sub_self, List.drop_zero, ← he, hc] at this
    cases this

def increasing_p (l : List Int) : Post := ⟨room l.length, .c (.bool (incB l)), []⟩
def increasing_ct : List AD → Option Post
  | [.c (.ints .i64 (l))] => some (increasing_p l)
  | _ => none
def increasing_ann (l : List Int) : Nat → Option Ann
  | 0 => some (Ann.mk ((Nat)) (fun i => ⟨[(0, .c (.ro (.ints .i64 (l)))), (3, .c (.int .i64 ((i : Int) + 1)))], []⟩) (fun i => incB l = incB (l.drop i)) (fun i => l.length - i) (fun _ => noAnn))
  | _ => none
def increasing_G : List (Nat × Ctr) := []
def increasing_V (l : List Int) : Prop :=
  ((∃ x0 : Nat, ((incB l = incB (List.drop x0 l)) ∧
 ((l = l) ∧
 ((1 : Int) = (↑x0 : Int) + (1 : Int))))) ∧
 (∀ x1 : Nat, ((incB l = incB (List.drop x1 l)) →
 (BrP (Decidable.decide ((↑x1 : Int) + (1 : Int) < (↑(List.length l) : Int)))
 ((InR ((↑x1 : Int) + (1 : Int) - (1 : Int))) ∧
 ((inB ((↑x1 : Int) + (1 : Int) - (1 : Int)) (List.length l)) ∧
 ((inB ((↑x1 : Int) + (1 : Int)) (List.length l)) ∧
 (BrP (Decidable.decide (List.getD l (Int.toNat ((↑x1 : Int) + (1 : Int))) (0 : Int) ≤ List.getD l (Int.toNat ((↑x1 : Int) + (1 : Int) - (1 : Int))) (0 : Int)))
 ((Bool.false = incB l) ∧
 (True))
 ((InR ((↑x1 : Int) + (1 : Int) + (1 : Int))) ∧
 (∃ x2 : Nat, ((incB l = incB (List.drop x2 l)) ∧
 ((List.length l - x2 < List.length l - x1) ∧
 ((l = l) ∧
 ((↑x1 : Int) + (1 : Int) + (1 : Int) = (↑x2 : Int) + (1 : Int)))))))))))
 ((Bool.true = incB l) ∧
 (True))))))
theorem increasing_vc (l : List Int) : runF Try.prog (gam increasing_G) noWr (increasing_ann l) Try.f127 (bodyOf Try.f127) [] [.c (.ints .i64 (l))] (increasing_p l) = increasing_V l := by kernel_rfl
theorem increasing_ok (l : List Int) (hpre : (increasing_p l).pre) : increasing_V l := by
  simp only [increasing_p, increasing_V, BrP_iff, true_and, and_true, decide_eq_true_eq, decide_eq_false_iff_not, bne_iff_ne, beq_iff_eq, bne_eq_false_iff_eq, beq_eq_false_iff_ne, Bool.not_eq_true, Bool.not_eq_false, Bool.not_true, Bool.not_false, Bool.not_eq_eq_eq_not, Int.toNat_natCast, List.length_append, List.length_take, List.length_replicate, List.length_set, List.length_map, List.length_drop, List.length_nil, List.length_cons, markL_length, inB, InR, room, bdsOk] at hpre ⊢
  refine ⟨⟨0, rfl, rfl⟩, fun i he => ⟨fun h => ?_, fun h => ?_⟩⟩
  · have hd := incB_drop l i (by omega)
    rw [show ((i : Int) + 1).toNat = i + 1 by omega, show ((i : Int) + 1 - 1).toNat = i by omega]
    refine ⟨by omega, by omega, by omega, fun h1 => ?_, fun h1 => ⟨by omega, i + 1, ?_, by omega, by omega⟩⟩
    · rw [he, hd, decide_eq_false (by omega)]; rfl
    · rw [he, hd, decide_eq_true (by omega)]; rfl
  · rw [he, incB_short l i (by omega)]
theorem increasing_fits : Fits Try.prog 127 ⟨[], increasing_ct⟩ := by
  refine fits_fn (Γ := gam increasing_G) gok_nil Try.func127 (by kernel_rfl) (by kernel_rfl) (by kernel_rfl) fun ds p h hp => ?_
  unfold increasing_ct at h
  split at h
  · cases h
    exact ⟨noWr, increasing_ann _ , by rw [increasing_vc]; exact increasing_ok _  hp⟩
  · cases h

def isIdentity_p (l : List Int) : Post := ⟨room l.length, .c (.bool (incB l)), []⟩
def isIdentity_ct : List AD → Option Post
  | [.c (.ints .i64 (l))] => some (isIdentity_p l)
  | _ => none
def isIdentity_G : List (Nat × Ctr) := [(127, ⟨[], increasing_ct⟩)]
def isIdentity_V (l : List Int) : Prop :=
  (((room (List.length l)) ∧
 (True)) ∧
 ((incB l = incB l) ∧
 (True)))
theorem isIdentity_vc (l : List Int) : runF Try.prog (gam isIdentity_G) noWr noAnn Try.f75 (bodyOf Try.f75) [] [.c (.ints .i64 (l))] (isIdentity_p l) = isIdentity_V l := by kernel_rfl
theorem isIdentity_ok (l : List Int) (hpre : (isIdentity_p l).pre) : isIdentity_V l := by
  simp only [isIdentity_p, isIdentity_V, BrP_iff, true_and, and_true, decide_eq_true_eq, decide_eq_false_iff_not, bne_iff_ne, beq_iff_eq, bne_eq_false_iff_eq, beq_eq_false_iff_ne, Bool.not_eq_true, Bool.not_eq_false, Bool.not_true, Bool.not_false, Bool.not_eq_eq_eq_not, Int.toNat_natCast, List.length_append, List.length_take, List.length_replicate, List.length_set, List.length_map, List.length_drop, List.length_nil, List.length_cons, markL_length, inB, InR, room, bdsOk] at hpre ⊢
  exact hpre
theorem isIdentity_fits : Fits Try.prog 75 ⟨[], isIdentity_ct⟩ := by
  refine fits_fn (Γ := gam isIdentity_G) (gok_cons increasing_fits gok_nil) Try.func75 (by kernel_rfl) (by kernel_rfl) (by kernel_rfl) fun ds p h hp => ?_
  unfold isIdentity_ct at h
  split at h
  · cases h
    exact ⟨noWr, noAnn, by rw [isIdentity_vc]; exact isIdentity_ok _  hp⟩
  · cases h

end Go.Sx
end

section
open Go Go.Proofs
namespace Go.Sx
set_option linter.unusedSimpArgs false
set_option linter.unusedVariables false

/-- Two neighbours are equal. -/
def flB (x : List Int) : Bool := !((List.range (x.length - 1)).all fun i => decide (x.getD (i + 1) 0 ≠ x.getD i 0))

def l15Flat_p (x : List Int) : Post := ⟨x.length ≤ 1000, .c (.bool (flB x)), []⟩
def l15Flat_ct : List AD → Option Post
  | [.c (.ints .i64 (x))] => some (l15Flat_p x)
  | _ => none
def l15Flat_ann (x : List Int) : Nat → Option Ann
  | 0 => some (Ann.mk ((Nat)) (fun i => ⟨[(0, .c (.ro (.ints .i64 (x)))), (3, .c (.int .i64 ((i : Int) + 1)))], []⟩) (fun i => i ≤ x.length ∧ flB x = !((List.range' i (x.length - 1 - i)).all fun i => decide (x.getD (i + 1) 0 ≠ x.getD i 0))) (fun i => x.length - i) (fun _ => noAnn))
  | _ => none
def l15Flat_G : List (Nat × Ctr) := []
def l15Flat_V (x : List Int) : Prop :=
  ((∃ x0 : Nat, (((x0 ≤ List.length x) ∧
 (flB x = !List.all (List.range' x0 (List.length x - (1 : Nat) - x0)) fun (i : Nat) => Decidable.decide (List.getD x (i + (1 : Nat)) (0 : Int) ≠ List.getD x i (0 : Int)))) ∧
 ((x = x) ∧
 ((1 : Int) = (↑x0 : Int) + (1 : Int))))) ∧
 (∀ x1 : Nat, (((x1 ≤ List.length x) ∧
 (flB x = !List.all (List.range' x1 (List.length x - (1 : Nat) - x1)) fun (i : Nat) => Decidable.decide (List.getD x (i + (1 : Nat)) (0 : Int) ≠ List.getD x i (0 : Int)))) →
 (BrP (Decidable.decide ((↑x1 : Int) + (1 : Int) < (↑(List.length x) : Int)))
 ((inB ((↑x1 : Int) + (1 : Int)) (List.length x)) ∧
 ((InR ((↑x1 : Int) + (1 : Int) - (1 : Int))) ∧
 ((inB ((↑x1 : Int) + (1 : Int) - (1 : Int)) (List.length x)) ∧
 (BrP (List.getD x (Int.toNat ((↑x1 : Int) + (1 : Int))) (0 : Int) == List.getD x (Int.toNat ((↑x1 : Int) + (1 : Int) - (1 : Int))) (0 : Int))
 ((Bool.true = flB x) ∧
 (True))
 ((InR ((↑x1 : Int) + (1 : Int) + (1 : Int))) ∧
 (∃ x2 : Nat, (((x2 ≤ List.length x) ∧
 (flB x = !List.all (List.range' x2 (List.length x - (1 : Nat) - x2)) fun (i : Nat) => Decidable.decide (List.getD x (i + (1 : Nat)) (0 : Int) ≠ List.getD x i (0 : Int)))) ∧
 ((List.length x - x2 < List.length x - x1) ∧
 ((x = x) ∧
 ((↑x1 : Int) + (1 : Int) + (1 : Int) = (↑x2 : Int) + (1 : Int)))))))))))
 ((Bool.false = flB x) ∧
 (True))))))
theorem l15Flat_vc (x : List Int) : runF Try.prog (gam l15Flat_G) noWr (l15Flat_ann x) Try.f132 (bodyOf Try.f132) [] [.c (.ints .i64 (x))] (l15Flat_p x) = l15Flat_V x := by kernel_rfl
theorem l15Flat_ok (x : List Int) (hpre : (l15Flat_p x).pre) : l15Flat_V x := by
  simp only [l15Flat_p, l15Flat_V, BrP_iff, true_and, and_true, decide_eq_true_eq, decide_eq_false_iff_not, bne_iff_ne, beq_iff_eq, bne_eq_false_iff_eq, beq_eq_false_iff_ne, Bool.not_eq_true, Bool.not_eq_false, Bool.not_true, Bool.not_false, Bool.not_eq_eq_eq_not, Int.toNat_natCast, List.length_append, List.length_take, List.length_replicate, List.length_set, List.length_map, List.length_drop, List.length_nil, List.length_cons, markL_length, inB, InR, room, bdsOk] at hpre ⊢
  refine ⟨⟨0, ⟨by omega, by rw [flB, rg_start, Nat.sub_zero]⟩, by omega⟩, fun i ⟨hi, he⟩ => ⟨fun h => ?_, fun h => ?_⟩⟩
  · rw [rg_step _ (by omega)] at he
    rw [show ((i : Int) + 1).toNat = i + 1 by omega, show ((i : Int) + 1 - 1).toNat = i by omega]
    refine ⟨by omega, by omega, by omega, fun h2 => ?_, fun h2 => ⟨by omega, i + 1, ⟨by omega, ?_⟩, by omega, by omega⟩⟩
    · rw [he, decide_eq_false (by rw [h2]; simp)]; rfl
    · rw [he, decide_eq_true h2, Bool.true_and]
  · rw [he, rg_end _ (by omega)]; rfl
theorem l15Flat_fits : Fits Try.prog 132 ⟨[], l15Flat_ct⟩ := by
  refine fits_fn (Γ := gam l15Flat_G) gok_nil Try.func132 (by kernel_rfl) (by kernel_rfl) (by kernel_rfl) fun ds p h hp => ?_
  unfold l15Flat_ct at h
  split at h
  · cases h
    exact ⟨noWr, l15Flat_ann _ , by rw [l15Flat_vc]; exact l15Flat_ok _  hp⟩
  · cases h

def isDegenerate_p (x : List Int) : Post := ⟨x.length ≤ 1000, .c (.bool (flB x)), []⟩
def isDegenerate_ct : List AD → Option Post
  | [.c (.ints .i64 (x))] => some (isDegenerate_p x)
  | _ => none
def isDegenerate_ann (x : List Int) : Nat → Option Ann
  | 0 => some (Ann.mk ((Nat)) (fun i => ⟨[(0, .c (.ro (.ints .i64 (x)))), (3, .c (.int .i64 ((i : Int) + 1)))], []⟩) (fun i => i ≤ x.length ∧ flB x = !((List.range' i (x.length - 1 - i)).all fun i => decide (x.getD (i + 1) 0 ≠ x.getD i 0))) (fun i => x.length - i) (fun _ => noAnn))
  | _ => none
def isDegenerate_G : List (Nat × Ctr) := []
def isDegenerate_V (x : List Int) : Prop :=
  ((∃ x0 : Nat, (((x0 ≤ List.length x) ∧
 (flB x = !List.all (List.range' x0 (List.length x - (1 : Nat) - x0)) fun (i : Nat) => Decidable.decide (List.getD x (i + (1 : Nat)) (0 : Int) ≠ List.getD x i (0 : Int)))) ∧
 ((x = x) ∧
 ((1 : Int) = (↑x0 : Int) + (1 : Int))))) ∧
 (∀ x1 : Nat, (((x1 ≤ List.length x) ∧
 (flB x = !List.all (List.range' x1 (List.length x - (1 : Nat) - x1)) fun (i : Nat) => Decidable.decide (List.getD x (i + (1 : Nat)) (0 : Int) ≠ List.getD x i (0 : Int)))) →
 (BrP (Decidable.decide ((↑x1 : Int) + (1 : Int) < (↑(List.length x) : Int)))
 ((inB ((↑x1 : Int) + (1 : Int)) (List.length x)) ∧
 ((InR ((↑x1 : Int) + (1 : Int) - (1 : Int))) ∧
 ((inB ((↑x1 : Int) + (1 : Int) - (1 : Int)) (List.length x)) ∧
 (BrP (List.getD x (Int.toNat ((↑x1 : Int) + (1 : Int))) (0 : Int) == List.getD x (Int.toNat ((↑x1 : Int) + (1 : Int) - (1 : Int))) (0 : Int))
 ((Bool.true = flB x) ∧
 (True))
 ((InR ((↑x1 : Int) + (1 : Int) + (1 : Int))) ∧
 (∃ x2 : Nat, (((x2 ≤ List.length x) ∧
 (flB x = !List.all (List.range' x2 (List.length x - (1 : Nat) - x2)) fun (i : Nat) => Decidable.decide (List.getD x (i + (1 : Nat)) (0 : Int) ≠ List.getD x i (0 : Int)))) ∧
 ((List.length x - x2 < List.length x - x1) ∧
 ((x = x) ∧
 ((↑x1 : Int) + (1 : Int) + (1 : Int) = (↑x2 : Int) + (1 : Int)))))))))))
 ((Bool.false = flB x) ∧
 (True))))))
theorem isDegenerate_vc (x : List Int) : runF Try.prog (gam isDegenerate_G) noWr (isDegenerate_ann x) Try.f131 (bodyOf Try.f131) [] [.c (.ints .i64 (x))] (isDegenerate_p x) = isDegenerate_V x := by kernel_rfl
theorem isDegenerate_ok (x : List Int) (hpre : (isDegenerate_p x).pre) : isDegenerate_V x := by
  simp only [isDegenerate_p, isDegenerate_V, BrP_iff, true_and, and_true, decide_eq_true_eq, decide_eq_false_iff_not, bne_iff_ne, beq_iff_eq, bne_eq_false_iff_eq, beq_eq_false_iff_ne, Bool.not_eq_true, Bool.not_eq_false, Bool.not_true, Bool.not_false, Bool.not_eq_eq_eq_not, Int.toNat_natCast, List.length_append, List.length_take, List.length_replicate, List.length_set, List.length_map, List.length_drop, List.length_nil, List.length_cons, markL_length, inB, InR, room, bdsOk] at hpre ⊢
  refine ⟨⟨0, ⟨by omega, by rw [flB, rg_start, Nat.sub_zero]⟩, by omega⟩, fun i ⟨hi, he⟩ => ⟨fun h => ?_, fun h => ?_⟩⟩
  · rw [rg_step _ (by omega)] at he
    rw [show ((i : Int) + 1).toNat = i + 1 by omega, show ((i : Int) + 1 - 1).toNat = i by omega]
    refine ⟨by omega, by omega, by omega, fun h2 => ?_, fun h2 => ⟨by omega, i + 1, ⟨by omega, ?_⟩, by omega, by omega⟩⟩
    · rw [he, decide_eq_false (by rw [h2]; simp)]; rfl
    · rw [he, decide_eq_true h2, Bool.true_and]
  · rw [he, rg_end _ (by omega)]; rfl
theorem isDegenerate_fits : Fits Try.prog 131 ⟨[], isDegenerate_ct⟩ := by
  refine fits_fn (Γ := gam isDegenerate_G) gok_nil Try.func131 (by kernel_rfl) (by kernel_rfl) (by kernel_rfl) fun ds p h hp => ?_
  unfold isDegenerate_ct at h
  split at h
  · cases h
    exact ⟨noWr, isDegenerate_ann _ , by rw [isDegenerate_vc]; exact isDegenerate_ok _  hp⟩
  · cases h

/-- The chain with the coefficients of flat tuples below i replaced by 0. -/
def clrN (n k : Int) (c : List Int) (i : Nat) : List Int := tab c.length fun q => if q < i ∧ flB (digN n k.toNat (q : Int)) = true then 0 else c.getD q 0

theorem clrN_length (n k : Int) (c : List Int) (i : Nat) : (clrN n k c i).length = c.length := tab_length _ _
theorem clrN_zero (n k : Int) (c : List Int) : clrN n k c 0 = c := by
  conv => rhs; rw [eq_tab c]
  exact tab_ext fun q _ => if_neg (by omega)
theorem clrN_yes {n k : Int} {c : List Int} {i : Nat} (h : flB (digN n k.toNat (i : Int)) = true) : (clrN n k c i).set i 0 = clrN n k c (i + 1) := by
  rw [clrN, tab_set]
  refine tab_ext fun q _ => ?_
  by_cases hq : q = i
  · subst hq; rw [if_pos rfl, if_pos ⟨by omega, h⟩]
  · rw [if_neg hq]
    by_cases h2 : q < i ∧ flB (digN n k.toNat (q : Int)) = true
    · rw [if_pos h2, if_pos ⟨by omega, h2.2⟩]
    · rw [if_neg h2, if_neg fun h3 => h2 ⟨by omega, h3.2⟩]
theorem clrN_no {n k : Int} {c : List Int} {i : Nat} (h : flB (digN n k.toNat (i : Int)) = false) : clrN n k c i = clrN n k c (i + 1) := by
  refine tab_ext fun q _ => ?_
  by_cases hq : q = i
  · subst hq; rw [if_neg (by omega), if_neg (by rw [h]; simp)]
  · by_cases h2 : q < i ∧ flB (digN n k.toNat (q : Int)) = true
    · rw [if_pos h2, if_pos ⟨by omega, h2.2⟩]
    · rw [if_neg h2, if_neg fun h3 => h2 ⟨by omega, h3.2⟩]

def withoutDegenerate_p (n : Int) (k : Int) (c : List Int) : Post := ⟨1 ≤ n ∧ 0 ≤ k ∧ k ≤ 1000 ∧ c.length ≤ 1000000, .tup [], [.ints 2 .i64 (clrN n k c c.length)]⟩
def withoutDegenerate_ct : List AD → Option Post
  | [.c (.int .i64 (n)), .c (.int .i64 (k)), .c (.ints .i64 (c))] => some (withoutDegenerate_p n k c)
  | _ => none
def withoutDegenerate_ann (n : Int) (k : Int) (c : List Int) : Nat → Option Ann
  | 0 => some (Ann.mk ((Nat)) (fun i => ⟨[(0, .c (.int .i64 (n))), (1, .c (.int .i64 (k))), (2, .c (.own (732))), (8, .c (.int .i64 ((c.length : Int)))), (9, .c (.int .i64 ((i : Int))))], [(732, some (.ints 2 .i64 (clrN n k c i)))]⟩) (fun i => i ≤ c.length) (fun i => c.length - i) (fun _ => noAnn))
  | _ => none
def withoutDegenerate_G : List (Nat × Ctr) := [(91, ⟨[], tupleOf_ct⟩), (131, ⟨[], isDegenerate_ct⟩)]
def withoutDegenerate_V (n : Int) (k : Int) (c : List Int) : Prop :=
  ((∃ x0 : Nat, ((x0 ≤ List.length c) ∧
 ((n = n) ∧
 ((k = k) ∧
 (((↑(List.length c) : Int) = (↑(List.length c) : Int)) ∧
 (((0 : Int) = (↑x0 : Int)) ∧
 (c = clrN n k c x0))))))) ∧
 (∀ x1 : Nat, ((x1 ≤ List.length c) →
 (BrP (Decidable.decide ((↑x1 : Int) < (↑(List.length c) : Int)))
 (((((1 : Int) ≤ n) ∧
 (((0 : Int) ≤ k) ∧
 ((k ≤ (1000 : Int)) ∧
 (((0 : Int) ≤ (↑x1 : Int)) ∧
 ((↑x1 : Int) ≤ (1000000 : Int)))))) ∧
 (True)) ∧
 (((List.length (digN n (Int.toNat k) (↑x1 : Int)) ≤ (1000 : Nat)) ∧
 (True)) ∧
 (BrP (flB (digN n (Int.toNat k) (↑x1 : Int)))
 ((inB (↑x1 : Int) (List.length (clrN n k c x1))) ∧
 ((InR ((↑x1 : Int) + (1 : Int))) ∧
 (∃ x2 : Nat, ((x2 ≤ List.length c) ∧
 ((List.length c - x2 < List.length c - x1) ∧
 ((n = n) ∧
 ((k = k) ∧
 (((↑(List.length c) : Int) = (↑(List.length c) : Int)) ∧
 (((↑x1 : Int) + (1 : Int) = (↑x2 : Int)) ∧
 (List.set (clrN n k c x1) (Int.toNat (↑x1 : Int)) (0 : Int) = clrN n k c x2))))))))))
 ((InR ((↑x1 : Int) + (1 : Int))) ∧
 (∃ x3 : Nat, ((x3 ≤ List.length c) ∧
 ((List.length c - x3 < List.length c - x1) ∧
 ((n = n) ∧
 ((k = k) ∧
 (((↑(List.length c) : Int) = (↑(List.length c) : Int)) ∧
 (((↑x1 : Int) + (1 : Int) = (↑x3 : Int)) ∧
 (clrN n k c x1 = clrN n k c x3))))))))))))
 ((True) ∧
 ((clrN n k c x1 = clrN n k c (List.length c)) ∧
 (True)))))))
theorem withoutDegenerate_vc (n : Int) (k : Int) (c : List Int) : runF Try.prog (gam withoutDegenerate_G) noWr (withoutDegenerate_ann n k c) Try.f87 (bodyOf Try.f87) [(2, 0)] [.c (.int .i64 (n)), .c (.int .i64 (k)), .c (.ints .i64 (c))] (withoutDegenerate_p n k c) = withoutDegenerate_V n k c := by kernel_rfl
theorem withoutDegenerate_ok (n : Int) (k : Int) (c : List Int) (hpre : (withoutDegenerate_p n k c).pre) : withoutDegenerate_V n k c := by
  simp only [withoutDegenerate_p, withoutDegenerate_V, BrP_iff, true_and, and_true, decide_eq_true_eq, decide_eq_false_iff_not, bne_iff_ne, beq_iff_eq, bne_eq_false_iff_eq, beq_eq_false_iff_ne, Bool.not_eq_true, Bool.not_eq_false, Bool.not_true, Bool.not_false, Bool.not_eq_eq_eq_not, Int.toNat_natCast, List.length_append, List.length_take, List.length_replicate, List.length_set, List.length_map, List.length_drop, List.length_nil, List.length_cons, markL_length, inB, InR, room, bdsOk] at hpre ⊢
  obtain ⟨h1, h2, h3, h4⟩ := hpre
  refine ⟨⟨0, by omega, rfl, (clrN_zero n k c).symm⟩, fun i hi => ⟨fun h => ?_, fun h => by rw [show i = c.length by omega]⟩⟩
  rw [digN_length, clrN_length]
  exact ⟨by omega, by omega, fun hf => ⟨by omega, by omega, i + 1, by omega, by omega, by omega, clrN_yes hf⟩, fun hf => ⟨by omega, i + 1, by omega, by omega, by omega, clrN_no hf⟩⟩
theorem withoutDegenerate_fits : Fits Try.prog 87 ⟨[(2, 0)], withoutDegenerate_ct⟩ := by
  refine fits_fn (Γ := gam withoutDegenerate_G) (gok_cons tupleOf_fits (gok_cons isDegenerate_fits gok_nil)) Try.func87 (by kernel_rfl) (by kernel_rfl) (by kernel_rfl) fun ds p h hp => ?_
  unfold withoutDegenerate_ct at h
  split at h
  · cases h
    exact ⟨noWr, withoutDegenerate_ann _ _ _ , by rw [withoutDegenerate_vc]; exact withoutDegenerate_ok _ _ _  hp⟩
  · cases h

def l15Clear_p (n : Int) (k : Int) (c : List Int) : Post := ⟨1 ≤ n ∧ 0 ≤ k ∧ k ≤ 1000 ∧ c.length ≤ 1000000, .c (.ints 2 .i64 (clrN n k c c.length)), []⟩
def l15Clear_ct : List AD → Option Post
  | [.c (.int .i64 (n)), .c (.int .i64 (k)), .c (.ints .i64 (c))] => some (l15Clear_p n k c)
  | _ => none
def l15Clear_ann (n : Int) (k : Int) (c : List Int) : Nat → Option Ann
  | 0 => some (Ann.mk ((Nat)) (fun i => ⟨[(0, .c (.int .i64 (n))), (1, .c (.int .i64 (k))), (7, .c (.own (10))), (8, .c (.int .i64 ((i : Int))))], [(10, some (.ints 2 .i64 (clrN n k c i)))]⟩) (fun i => i ≤ c.length) (fun i => c.length - i) (fun _ => noAnn))
  | _ => none
def l15Clear_G : List (Nat × Ctr) := [(97, ⟨[], l01Own_ct⟩), (45, ⟨[], l15Tuple_ct⟩), (132, ⟨[], l15Flat_ct⟩)]
def l15Clear_V (n : Int) (k : Int) (c : List Int) : Prop :=
  (((room (List.length c)) ∧
 (True)) ∧
 ((∃ x0 : Nat, ((x0 ≤ List.length c) ∧
 ((n = n) ∧
 ((k = k) ∧
 (((0 : Int) = (↑x0 : Int)) ∧
 (c = clrN n k c x0)))))) ∧
 (∀ x1 : Nat, ((x1 ≤ List.length c) →
 (BrP (Decidable.decide ((↑x1 : Int) < (↑(List.length (clrN n k c x1)) : Int)))
 (((((1 : Int) ≤ n) ∧
 (((0 : Int) ≤ k) ∧
 ((k ≤ (1000 : Int)) ∧
 (((0 : Int) ≤ (↑x1 : Int)) ∧
 ((↑x1 : Int) ≤ (1000000 : Int)))))) ∧
 (True)) ∧
 (((List.length (digN n (Int.toNat k) (↑x1 : Int)) ≤ (1000 : Nat)) ∧
 (True)) ∧
 (BrP (flB (digN n (Int.toNat k) (↑x1 : Int)))
 ((inB (↑x1 : Int) (List.length (clrN n k c x1))) ∧
 ((InR ((↑x1 : Int) + (1 : Int))) ∧
 (∃ x2 : Nat, ((x2 ≤ List.length c) ∧
 ((List.length c - x2 < List.length c - x1) ∧
 ((n = n) ∧
 ((k = k) ∧
 (((↑x1 : Int) + (1 : Int) = (↑x2 : Int)) ∧
 (List.set (clrN n k c x1) (Int.toNat (↑x1 : Int)) (0 : Int) = clrN n k c x2)))))))))
 ((InR ((↑x1 : Int) + (1 : Int))) ∧
 (∃ x3 : Nat, ((x3 ≤ List.length c) ∧
 ((List.length c - x3 < List.length c - x1) ∧
 ((n = n) ∧
 ((k = k) ∧
 (((↑x1 : Int) + (1 : Int) = (↑x3 : Int)) ∧
 (clrN n k c x1 = clrN n k c x3)))))))))))
 ((clrN n k c x1 = clrN n k c (List.length c)) ∧
 (True)))))))
theorem l15Clear_vc (n : Int) (k : Int) (c : List Int) : runF Try.prog (gam l15Clear_G) noWr (l15Clear_ann n k c) Try.f89 (bodyOf Try.f89) [] [.c (.int .i64 (n)), .c (.int .i64 (k)), .c (.ints .i64 (c))] (l15Clear_p n k c) = l15Clear_V n k c := by kernel_rfl
theorem l15Clear_ok (n : Int) (k : Int) (c : List Int) (hpre : (l15Clear_p n k c).pre) : l15Clear_V n k c := by
  simp only [l15Clear_p, l15Clear_V, BrP_iff, true_and, and_true, decide_eq_true_eq, decide_eq_false_iff_not, bne_iff_ne, beq_iff_eq, bne_eq_false_iff_eq, beq_eq_false_iff_ne, Bool.not_eq_true, Bool.not_eq_false, Bool.not_true, Bool.not_false, Bool.not_eq_eq_eq_not, Int.toNat_natCast, List.length_append, List.length_take, List.length_replicate, List.length_set, List.length_map, List.length_drop, List.length_nil, List.length_cons, markL_length, inB, InR, room, bdsOk] at hpre ⊢
  obtain ⟨h1, h2, h3, h4⟩ := hpre
  refine ⟨by omega, ⟨0, by omega, rfl, (clrN_zero n k c).symm⟩, fun i hi => ?_⟩
  rw [clrN_length]
  refine ⟨fun h => ?_, fun h => by rw [show i = c.length by omega]⟩
  rw [digN_length]
  exact ⟨by omega, by omega, fun hf => ⟨by omega, by omega, i + 1, by omega, by omega, by omega, clrN_yes hf⟩, fun hf => ⟨by omega, i + 1, by omega, by omega, by omega, clrN_no hf⟩⟩
theorem l15Clear_fits : Fits Try.prog 89 ⟨[], l15Clear_ct⟩ := by
  refine fits_fn (Γ := gam l15Clear_G) (gok_cons l01Own_fits (gok_cons l15Tuple_fits (gok_cons l15Flat_fits gok_nil))) Try.func89 (by kernel_rfl) (by kernel_rfl) (by kernel_rfl) fun ds p h hp => ?_
  unfold l15Clear_ct at h
  split at h
  · cases h
    exact ⟨noWr, l15Clear_ann _ _ _ , by rw [l15Clear_vc]; exact l15Clear_ok _ _ _  hp⟩
  · cases h

/-- The kink; is it the identity? -/
def kkL (t : List (List Int)) : List Int := tab t.length fun x => en t x x
def qdB (t : List (List Int)) : Bool := (List.range t.length).all fun x => decide (en t x x = (x : Int))

theorem kk_inc {t : List (List Int)} (h : tabB t = true) : incB (kkL t) = qdB t := by
  obtain ⟨n1, n2, ht⟩ := tabB_of h
  have hl : (kkL t).length = t.length := tab_length _ _
  have hr : rngB ((kkL t).length : Int) (kkL t) := fun x hx => by
    simp only [kkL, tab, List.mem_map, List.mem_range] at hx
    obtain ⟨i, hi, rfl⟩ := hx
    have := (ht i hi).2 i hi
    rw [hl]
    unfold en
    omega
  rw [inc_unit hr, hl, Bool.eq_iff_iff, decide_eq_true_iff, qdB, List.all_eq_true]
  constructor
  · intro e x hx
    rw [List.mem_range] at hx
    refine decide_eq_true ?_
    have : (kkL t).getD x 0 = (unitL t.length).getD x 0 := by rw [e]
    rwa [kkL, unitL, tab_getD _ _ _ hx, tab_getD _ _ _ hx] at this
  · intro e
    exact tab_ext fun x hx => of_decide_eq_true (e x (by simpa using hx))

def kinkOf_p (t : List (List Int)) : Post := ⟨tabB t = true, .c (.ints 2 .i64 (kkL t)), []⟩
def kinkOf_ct : List AD → Option Post
  | [.agg [.rows .i64 (t)]] => some (kinkOf_p t)
  | _ => none
def kinkOf_ann (t : List (List Int)) : Nat → Option Ann
  | 0 => some (Ann.mk ((Nat)) (fun i => ⟨[(1, .c (.ptr 1 0)), (3, .c (.own (8))), (10, .c (.int .i64 ((t.length : Int)))), (11, .c (.int .i64 ((i : Int))))], [(1, some (.box [.ro (.rows .i64 (t))])), (8, some (.ints 2 .i64 ((kkL t).take i ++ List.replicate ((kkL t).length - i) 0)))]⟩) (fun i => i ≤ t.length) (fun i => t.length - i) (fun _ => noAnn))
  | _ => none
def kinkOf_G : List (Nat × Ctr) := []
def kinkOf_V (t : List (List Int)) : Prop :=
  ((((0 : Int) ≤ (↑(List.length t) : Int)) ∧
 (((↑(List.length t) : Int) ≤ (↑(List.length t) : Int)) ∧
 (room (Int.toNat (↑(List.length t) : Int))))) ∧
 ((∃ x0 : Nat, ((x0 ≤ List.length t) ∧
 (((↑(List.length (List.replicate (Int.toNat (↑(List.length t) : Int)) (0 : Int))) : Int) = (↑(List.length t) : Int)) ∧
 (((0 : Int) = (↑x0 : Int)) ∧
 ((t = t) ∧
 (List.replicate (Int.toNat (↑(List.length t) : Int)) (0 : Int) = List.take x0 (kkL t) ++ List.replicate (List.length (kkL t) - x0) (0 : Int))))))) ∧
 (∀ x1 : Nat, ((x1 ≤ List.length t) →
 (BrP (Decidable.decide ((↑x1 : Int) < (↑(List.length t) : Int)))
 ((inB (↑x1 : Int) (List.length t)) ∧
 ((inB (↑x1 : Int) (List.length (List.getD t (Int.toNat (↑x1 : Int)) []))) ∧
 ((inB (↑x1 : Int) (List.length (List.take x1 (kkL t) ++ List.replicate (List.length (kkL t) - x1) (0 : Int)))) ∧
 ((InR ((↑x1 : Int) + (1 : Int))) ∧
 (∃ x2 : Nat, ((x2 ≤ List.length t) ∧
 ((List.length t - x2 < List.length t - x1) ∧
 (((↑(List.length t) : Int) = (↑(List.length t) : Int)) ∧
 (((↑x1 : Int) + (1 : Int) = (↑x2 : Int)) ∧
 ((t = t) ∧
 (List.set (List.take x1 (kkL t) ++ List.replicate (List.length (kkL t) - x1) (0 : Int)) (Int.toNat (↑x1 : Int)) (List.getD (List.getD t (Int.toNat (↑x1 : Int)) []) (Int.toNat (↑x1 : Int)) (0 : Int)) = List.take x2 (kkL t) ++ List.replicate (List.length (kkL t) - x2) (0 : Int))))))))))))
 ((List.take x1 (kkL t) ++ List.replicate (List.length (kkL t) - x1) (0 : Int) = kkL t) ∧
 (True)))))))
theorem kinkOf_vc (t : List (List Int)) : runF Try.prog (gam kinkOf_G) noWr (kinkOf_ann t) Try.f76 (bodyOf Try.f76) [] [.agg [.rows .i64 (t)]] (kinkOf_p t) = kinkOf_V t := by kernel_rfl
theorem kinkOf_ok (t : List (List Int)) (hpre : (kinkOf_p t).pre) : kinkOf_V t := by
  simp only [kinkOf_p, kinkOf_V, BrP_iff, true_and, and_true, decide_eq_true_eq, decide_eq_false_iff_not, bne_iff_ne, beq_iff_eq, bne_eq_false_iff_eq, beq_eq_false_iff_ne, Bool.not_eq_true, Bool.not_eq_false, Bool.not_true, Bool.not_false, Bool.not_eq_eq_eq_not, Int.toNat_natCast, List.length_append, List.length_take, List.length_replicate, List.length_set, List.length_map, List.length_drop, List.length_nil, List.length_cons, markL_length, inB, InR, room, bdsOk] at hpre ⊢
  obtain ⟨n1, n2, ht⟩ := tabB_of hpre
  have hl : (kkL t).length = t.length := tab_length _ _
  rw [hl]
  refine ⟨by omega, ⟨0, by omega, rfl, by simp⟩, fun i hi => ⟨fun h => ?_, fun h => ?_⟩⟩
  · have r := ht i (by omega)
    have e : (t.getD i []).getD i 0 = (kkL t).getD i 0 := (tab_getD _ (fun x => en t x x) i (by omega)).symm
    refine ⟨by omega, by omega, by omega, by omega, i + 1, by omega, by omega, by omega, ?_⟩
    rw [e]
    have := fill_step (kkL t) 0 0 i (by omega)
    rwa [hl] at this
  · rw [List.take_of_length_le (by omega), show t.length - i = 0 by omega]; simp
theorem kinkOf_fits : Fits Try.prog 76 ⟨[], kinkOf_ct⟩ := by
  refine fits_fn (Γ := gam kinkOf_G) gok_nil Try.func76 (by kernel_rfl) (by kernel_rfl) (by kernel_rfl) fun ds p h hp => ?_
  unfold kinkOf_ct at h
  split at h
  · cases h
    exact ⟨noWr, kinkOf_ann _ , by rw [kinkOf_vc]; exact kinkOf_ok _  hp⟩
  · cases h

def l03Quandle_p (t : List (List Int)) : Post := ⟨tabB t = true, .c (.bool (qdB t)), []⟩
def l03Quandle_ct : List AD → Option Post
  | [.agg [.rows .i64 (t)]] => some (l03Quandle_p t)
  | _ => none
def l03Quandle_ann (t : List (List Int)) : Nat → Option Ann
  | 0 => some (Ann.mk ((Nat)) (fun i => ⟨[(1, .c (.ptr 1 0)), (3, .c (.int .i64 ((i : Int))))], [(1, some (.box [.ro (.rows .i64 (t))]))]⟩) (fun i => i ≤ t.length ∧ qdB t = (List.range' i (t.length - i)).all fun x => decide (en t x x = (x : Int))) (fun i => t.length - i) (fun _ => noAnn))
  | _ => none
def l03Quandle_G : List (Nat × Ctr) := []
def l03Quandle_V (t : List (List Int)) : Prop :=
  ((∃ x0 : Nat, (((x0 ≤ List.length t) ∧
 (qdB t = List.all (List.range' x0 (List.length t - x0)) fun (x : Nat) => Decidable.decide (en t x x = (↑x : Int)))) ∧
 (((0 : Int) = (↑x0 : Int)) ∧
 (t = t)))) ∧
 (∀ x1 : Nat, (((x1 ≤ List.length t) ∧
 (qdB t = List.all (List.range' x1 (List.length t - x1)) fun (x : Nat) => Decidable.decide (en t x x = (↑x : Int)))) →
 (BrP (Decidable.decide ((↑x1 : Int) < (↑(List.length t) : Int)))
 ((inB (↑x1 : Int) (List.length t)) ∧
 ((inB (↑x1 : Int) (List.length (List.getD t (Int.toNat (↑x1 : Int)) []))) ∧
 (BrP (List.getD (List.getD t (Int.toNat (↑x1 : Int)) []) (Int.toNat (↑x1 : Int)) (0 : Int) != (↑x1 : Int))
 ((Bool.false = qdB t) ∧
 (True))
 ((InR ((↑x1 : Int) + (1 : Int))) ∧
 (∃ x2 : Nat, (((x2 ≤ List.length t) ∧
 (qdB t = List.all (List.range' x2 (List.length t - x2)) fun (x : Nat) => Decidable.decide (en t x x = (↑x : Int)))) ∧
 ((List.length t - x2 < List.length t - x1) ∧
 (((↑x1 : Int) + (1 : Int) = (↑x2 : Int)) ∧
 (t = t)))))))))
 ((Bool.true = qdB t) ∧
 (True))))))
theorem l03Quandle_vc (t : List (List Int)) : runF Try.prog (gam l03Quandle_G) noWr (l03Quandle_ann t) Try.f88 (bodyOf Try.f88) [] [.agg [.rows .i64 (t)]] (l03Quandle_p t) = l03Quandle_V t := by kernel_rfl
theorem l03Quandle_ok (t : List (List Int)) (hpre : (l03Quandle_p t).pre) : l03Quandle_V t := by
  simp only [l03Quandle_p, l03Quandle_V, BrP_iff, true_and, and_true, decide_eq_true_eq, decide_eq_false_iff_not, bne_iff_ne, beq_iff_eq, bne_eq_false_iff_eq, beq_eq_false_iff_ne, Bool.not_eq_true, Bool.not_eq_false, Bool.not_true, Bool.not_false, Bool.not_eq_eq_eq_not, Int.toNat_natCast, List.length_append, List.length_take, List.length_replicate, List.length_set, List.length_map, List.length_drop, List.length_nil, List.length_cons, markL_length, inB, InR, room, bdsOk] at hpre ⊢
  obtain ⟨n1, n2, ht⟩ := tabB_of hpre
  refine ⟨⟨0, ⟨by omega, rg_start _ _⟩, rfl⟩, fun i ⟨hi, he⟩ => ⟨fun h => ?_, fun h => by rw [he, rg_end _ (by omega)]⟩⟩
  have r := ht i (by omega)
  rw [rg_step _ (by omega)] at he
  refine ⟨by omega, by omega, fun h2 => ?_, fun h2 => ⟨by omega, i + 1, ⟨by omega, ?_⟩, by omega, by omega⟩⟩
  · rw [he, show decide (en t i i = (i : Int)) = false from decide_eq_false h2]; rfl
  · rw [he, show decide (en t i i = (i : Int)) = true from decide_eq_true h2, Bool.true_and]
theorem l03Quandle_fits : Fits Try.prog 88 ⟨[], l03Quandle_ct⟩ := by
  refine fits_fn (Γ := gam l03Quandle_G) gok_nil Try.func88 (by kernel_rfl) (by kernel_rfl) (by kernel_rfl) fun ds p h hp => ?_
  unfold l03Quandle_ct at h
  split at h
  · cases h
    exact ⟨noWr, l03Quandle_ann _ , by rw [l03Quandle_vc]; exact l03Quandle_ok _  hp⟩
  · cases h

/-- The answer of QuandleBoundary. -/
def qbC (t : List (List Int)) (p k : Int) (c : List Int) : List Int × Int :=
  if (rbC t p k c).2 = 0 then (if qdB t = true then (clrN t.length (k - 1) (rbC t p k c).1 (rbC t p k c).1.length, 0) else ([], 5)) else ([], (rbC t p k c).2)

theorem qbC_len (t : List (List Int)) (p k : Int) (c : List Int) : (qbC t p k c).1.length ≤ 512 := by
  unfold qbC
  split
  · split
    · simp only [clrN_length]; exact rbC_len t p k c
    · simp
  · simp

theorem qbC_no {t : List (List Int)} {p k : Int} {c : List Int} {z : Int} (h : (rbC t p k c).2 = z) (hz : z ≠ 0) : [] = (qbC t p k c).1 ∧ z = (qbC t p k c).2 := by
  rw [qbC, if_neg (by omega)]; exact ⟨rfl, h.symm⟩
theorem qbC_five {t : List (List Int)} {p k : Int} {c : List Int} (h : (rbC t p k c).2 = 0) (hq : qdB t = false) : [] = (qbC t p k c).1 ∧ 5 = (qbC t p k c).2 := by
  rw [qbC, if_pos h, if_neg (by rw [hq]; decide)]; exact ⟨rfl, rfl⟩
theorem qbC_yes {t : List (List Int)} {p k : Int} {c : List Int} (h : (rbC t p k c).2 = 0) (hq : qdB t = true) : clrN t.length (k - 1) (rbC t p k c).1 (rbC t p k c).1.length = (qbC t p k c).1 ∧ 0 = (qbC t p k c).2 := by
  rw [qbC, if_pos h, if_pos hq]; exact ⟨rfl, rfl⟩

theorem rbC_ok {t : List (List Int)} {p k : Int} {c : List Int} (h : (rbC t p k c).2 = 0) : chC t p k c = 0 ∧ k ≠ 0 := by
  unfold rbC at h
  split at h
  · rename_i e
    split at h
    · cases h
    · rename_i hk; exact ⟨e, hk⟩
  · rename_i e; exact absurd h e

def iQB_p (t : List (List Int)) (p : Int) (k : Int) (c : List Int) : Post := ⟨roomR t ∧ c.length ≤ 1099511627776, .tup [.inl (.ints 2 .i64 ((qbC t p k c).1)), .inl (.int .i64 ((qbC t p k c).2))], []⟩
def iQB_ct : List AD → Option Post
  | [.agg [.rows .i64 (t)], .c (.int .i64 (p)), .c (.int .i64 (k)), .c (.ints .i64 (c))] => some (iQB_p t p k c)
  | _ => none
def iQB_G : List (Nat × Ctr) := [(80, ⟨[], checkChain_ct⟩), (76, ⟨[], kinkOf_ct⟩), (75, ⟨[], isIdentity_ct⟩), (81, ⟨[], boundaryOf_ct⟩), (87, ⟨[(2, 0)], withoutDegenerate_ct⟩)]
def iQB_V (t : List (List Int)) (p : Int) (k : Int) (c : List Int) : Prop :=
  ((((roomR t) ∧
 (List.length c ≤ (1099511627776 : Nat))) ∧
 (True)) ∧
 (BrP (chC t p k c != (0 : Int))
 ((([] = Prod.fst (qbC t p k c)) ∧
 ((chC t p k c = Prod.snd (qbC t p k c)) ∧
 (True))) ∧
 (True))
 (BrP (k == (0 : Int))
 ((([] = Prod.fst (qbC t p k c)) ∧
 (((2 : Int) = Prod.snd (qbC t p k c)) ∧
 (True))) ∧
 (True))
 (((tabB t = Bool.true) ∧
 (True)) ∧
 (((room (List.length (kkL t))) ∧
 (True)) ∧
 (BrP (!incB (kkL t))
 ((([] = Prod.fst (qbC t p k c)) ∧
 (((5 : Int) = Prod.snd (qbC t p k c)) ∧
 (True))) ∧
 (True))
 (((cnOk t p k c) ∧
 (True)) ∧
 ((InR (k - (1 : Int))) ∧
 (((((1 : Int) ≤ (↑(List.length t) : Int)) ∧
 (((0 : Int) ≤ k - (1 : Int)) ∧
 ((k - (1 : Int) ≤ (1000 : Int)) ∧
 (List.length (bdF t p (Int.toNat k) c (List.length c)) ≤ (1000000 : Nat))))) ∧
 ((List.length (clrN (↑(List.length t) : Int) (k - (1 : Int)) (bdF t p (Int.toNat k) c (List.length c)) (List.length (bdF t p (Int.toNat k) c (List.length c)))) = List.length (bdF t p (Int.toNat k) c (List.length c))) ∧
 (True))) ∧
 (((clrN (↑(List.length t) : Int) (k - (1 : Int)) (bdF t p (Int.toNat k) c (List.length c)) (List.length (bdF t p (Int.toNat k) c (List.length c))) = Prod.fst (qbC t p k c)) ∧
 (((0 : Int) = Prod.snd (qbC t p k c)) ∧
 (True))) ∧
 (True)))))))))))
theorem iQB_vc (t : List (List Int)) (p : Int) (k : Int) (c : List Int) : runF Try.prog (gam iQB_G) noWr noAnn Try.f37 (bodyOf Try.f37) [] [.agg [.rows .i64 (t)], .c (.int .i64 (p)), .c (.int .i64 (k)), .c (.ints .i64 (c))] (iQB_p t p k c) = iQB_V t p k c := by kernel_rfl
theorem iQB_ok (t : List (List Int)) (p : Int) (k : Int) (c : List Int) (hpre : (iQB_p t p k c).pre) : iQB_V t p k c := by
  simp only [iQB_p, iQB_V, BrP_iff, true_and, and_true, decide_eq_true_eq, decide_eq_false_iff_not, bne_iff_ne, beq_iff_eq, bne_eq_false_iff_eq, beq_eq_false_iff_ne, Bool.not_eq_true, Bool.not_eq_false, Bool.not_true, Bool.not_false, Bool.not_eq_eq_eq_not, Int.toNat_natCast, List.length_append, List.length_take, List.length_replicate, List.length_set, List.length_map, List.length_drop, List.length_nil, List.length_cons, markL_length, inB, InR, room, bdsOk] at hpre ⊢
  refine ⟨hpre, fun h => qbC_no (rbC_no rfl h).2.symm h, fun h => ⟨fun h2 => qbC_no (rbC_zero h h2).2.symm (by omega), fun h2 => ?_⟩⟩
  have hc := ch_cnOk h h2
  obtain ⟨h1, p1, p2, hk, hd, hcp, hcl⟩ := ch_cnOk h h2
  obtain ⟨n1, n2, ht⟩ := tabB_of h1
  have d := deg_sub h1 hk hd
  have y := rbC_yes h h2
  have ln := rbC_len t p k c
  rw [← y.1] at ln
  rw [kk_inc h1, clrN_length]
  refine ⟨h1, by rw [kkL, tab_length]; omega, fun h5 => qbC_five y.2.symm h5, fun h5 => ⟨hc, by omega, ⟨⟨by omega, by omega, by omega, by omega⟩, rfl⟩, ?_⟩⟩
  rw [y.1]
  exact qbC_yes y.2.symm h5
theorem iQB_fits : Fits Try.prog 37 ⟨[], iQB_ct⟩ := by
  refine fits_fn (Γ := gam iQB_G) (gok_cons checkChain_fits (gok_cons kinkOf_fits (gok_cons isIdentity_fits (gok_cons boundaryOf_fits (gok_cons withoutDegenerate_fits gok_nil))))) Try.func37 (by kernel_rfl) (by kernel_rfl) (by kernel_rfl) fun ds p h hp => ?_
  unfold iQB_ct at h
  split at h
  · cases h
    exact ⟨noWr, noAnn, by rw [iQB_vc]; exact iQB_ok _ _ _ _  hp⟩
  · cases h

def sQB_p (t : List (List Int)) (p : Int) (k : Int) (c : List Int) : Post := ⟨roomR t ∧ c.length ≤ 1099511627776, .tup [.inl (.ints 2 .i64 ((qbC t p k c).1)), .inl (.int .i64 ((qbC t p k c).2))], []⟩
def sQB_ct : List AD → Option Post
  | [.agg [.rows .i64 (t)], .c (.int .i64 (p)), .c (.int .i64 (k)), .c (.ints .i64 (c))] => some (sQB_p t p k c)
  | _ => none
def sQB_G : List (Nat × Ctr) := [(30, ⟨[], sRB_ct⟩), (88, ⟨[], l03Quandle_ct⟩), (89, ⟨[], l15Clear_ct⟩)]
def sQB_V (t : List (List Int)) (p : Int) (k : Int) (c : List Int) : Prop :=
  ((((roomR t) ∧
 (List.length c ≤ (1099511627776 : Nat))) ∧
 (True)) ∧
 (BrP (Prod.snd (rbC t p k c) == (0 : Int))
 (((tabB t = Bool.true) ∧
 (True)) ∧
 (BrP (!qdB t)
 ((([] = Prod.fst (qbC t p k c)) ∧
 (((5 : Int) = Prod.snd (qbC t p k c)) ∧
 (True))) ∧
 (True))
 (BrP (Prod.snd (rbC t p k c) != (0 : Int))
 ((([] = Prod.fst (qbC t p k c)) ∧
 ((Prod.snd (rbC t p k c) = Prod.snd (qbC t p k c)) ∧
 (True))) ∧
 (True))
 ((InR (k - (1 : Int))) ∧
 (((((1 : Int) ≤ (↑(List.length t) : Int)) ∧
 (((0 : Int) ≤ k - (1 : Int)) ∧
 ((k - (1 : Int) ≤ (1000 : Int)) ∧
 (List.length (Prod.fst (rbC t p k c)) ≤ (1000000 : Nat))))) ∧
 (True)) ∧
 (((clrN (↑(List.length t) : Int) (k - (1 : Int)) (Prod.fst (rbC t p k c)) (List.length (Prod.fst (rbC t p k c))) = Prod.fst (qbC t p k c)) ∧
 (((0 : Int) = Prod.snd (qbC t p k c)) ∧
 (True))) ∧
 (True)))))))
 (BrP (Prod.snd (rbC t p k c) != (0 : Int))
 ((([] = Prod.fst (qbC t p k c)) ∧
 ((Prod.snd (rbC t p k c) = Prod.snd (qbC t p k c)) ∧
 (True))) ∧
 (True))
 ((InR (k - (1 : Int))) ∧
 (((((1 : Int) ≤ (↑(List.length t) : Int)) ∧
 (((0 : Int) ≤ k - (1 : Int)) ∧
 ((k - (1 : Int) ≤ (1000 : Int)) ∧
 (List.length (Prod.fst (rbC t p k c)) ≤ (1000000 : Nat))))) ∧
 (True)) ∧
 (((clrN (↑(List.length t) : Int) (k - (1 : Int)) (Prod.fst (rbC t p k c)) (List.length (Prod.fst (rbC t p k c))) = Prod.fst (qbC t p k c)) ∧
 (((0 : Int) = Prod.snd (qbC t p k c)) ∧
 (True))) ∧
 (True)))))))
theorem sQB_vc (t : List (List Int)) (p : Int) (k : Int) (c : List Int) : runF Try.prog (gam sQB_G) noWr noAnn Try.f38 (bodyOf Try.f38) [] [.agg [.rows .i64 (t)], .c (.int .i64 (p)), .c (.int .i64 (k)), .c (.ints .i64 (c))] (sQB_p t p k c) = sQB_V t p k c := by kernel_rfl
theorem sQB_ok (t : List (List Int)) (p : Int) (k : Int) (c : List Int) (hpre : (sQB_p t p k c).pre) : sQB_V t p k c := by
  simp only [sQB_p, sQB_V, BrP_iff, true_and, and_true, decide_eq_true_eq, decide_eq_false_iff_not, bne_iff_ne, beq_iff_eq, bne_eq_false_iff_eq, beq_eq_false_iff_ne, Bool.not_eq_true, Bool.not_eq_false, Bool.not_true, Bool.not_false, Bool.not_eq_eq_eq_not, Int.toNat_natCast, List.length_append, List.length_take, List.length_replicate, List.length_set, List.length_map, List.length_drop, List.length_nil, List.length_cons, markL_length, inB, InR, room, bdsOk] at hpre ⊢
  refine ⟨hpre, fun h => ?_, fun h => ⟨fun _ => qbC_no rfl h, fun h2 => absurd h2 h⟩⟩
  obtain ⟨e, hk⟩ : chC t p k c = 0 ∧ k ≠ 0 := rbC_ok h
  obtain ⟨h1, p1, p2, hk1, hd, hcp, hcl⟩ := ch_cnOk e hk
  obtain ⟨n1, n2, ht⟩ := tabB_of h1
  have d := deg_sub h1 hk1 hd
  have ln := rbC_len t p k c
  exact ⟨h1, fun h5 => qbC_five h h5, fun h5 => ⟨fun h6 => absurd h h6, fun _ => ⟨by omega, ⟨by omega, by omega, by omega, by omega⟩, qbC_yes h h5⟩⟩⟩
theorem sQB_fits : Fits Try.prog 38 ⟨[], sQB_ct⟩ := by
  refine fits_fn (Γ := gam sQB_G) (gok_cons sRB_fits (gok_cons l03Quandle_fits (gok_cons l15Clear_fits gok_nil))) Try.func38 (by kernel_rfl) (by kernel_rfl) (by kernel_rfl) fun ds p h hp => ?_
  unfold sQB_ct at h
  split at h
  · cases h
    exact ⟨noWr, noAnn, by rw [sQB_vc]; exact sQB_ok _ _ _ _  hp⟩
  · cases h

end Go.Sx
end
