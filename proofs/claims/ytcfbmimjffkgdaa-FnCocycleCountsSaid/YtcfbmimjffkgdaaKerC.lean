/- KerC -/
import Derived.Test.YtcfbmimjffkgdaaKer
import Derived.Test.YtcfbmimjffkgdaaRnkR
open Go Go.Proofs
namespace Go.Sx
set_option linter.unusedSimpArgs false
set_option linter.unusedVariables false

/-- The keys of the map after i rows: the places of their first numbers. -/
def mpK (B : List (List Int)) : Nat → List Int
  | 0 => []
  | i + 1 => mpI (ldF (B.getD i [])) (mpK B i)

theorem mpI_has (n : Int) (l : List Int) (x : Int) : (mpI n l).contains x = (l.contains x || decide (x = n)) := by
  unfold mpI
  by_cases h : l.contains n = true
  · rw [if_pos h]
    by_cases e : x = n
    · subst e; rw [h]; simp
    · simp [e]
  · rw [if_neg h]
    by_cases e : x = n
    · subst e; simp
    · simp [e]

theorem mpK_has (B : List (List Int)) (x : Int) : ∀ i, i ≤ B.length → (mpK B i).contains x = ((B.take i).map ldF).contains x
  | 0, _ => by simp [mpK]
  | i + 1, h => by
    rw [mpK, mpI_has, mpK_has B x i (by omega), take_row B (by omega), List.map_append]
    by_cases e : x = ldF (B.getD i [])
    · simp [e]
    · simp [e]

theorem mpK_pv (B : List (List Int)) (a : Nat) : (mpK B B.length).contains (a : Int) = pvB B a := by
  rw [mpK_has B _ _ (Nat.le_refl _), List.take_length]; rfl

theorem kn_one {p : Int} {N : Nat} {B : List (List Int)} {a : Nat} (ha : a < N) (h : rwsP p N B) (hp : 2 ≤ p) (i : Nat) (hi : i ≤ B.length) : rwP p N (knS p B a i ((List.replicate N 0).set a 1)) :=
  knS_rw hp ha h i hi _ (rwP_set ⟨List.length_replicate .., fun q hq => by simp at hq; simp [List.getD, hq]; omega⟩ (by omega) (by omega))

def kernelOf_p (p : Int) (n : Int) (B : List (List Int)) : Post := ⟨2 ≤ p ∧ p ≤ 7 ∧ 0 ≤ n ∧ n ≤ 512 ∧ rwsP p n.toNat B ∧ (∀ i, i < B.length → 0 ≤ ldF (B.getD i [])) ∧ B.length ≤ 512, .c (.rows 46 2 .i64 (kerN p n.toNat B n.toNat)), []⟩
def kernelOf_ct : List AD → Option Post
  | [.c (.int .i64 (p)), .c (.int .i64 (n)), .c (.rows .i64 (B))] => some (kernelOf_p p n B)
  | _ => none
def kernelOf_ann (p : Int) (n : Int) (B : List (List Int)) : Nat → Option Ann
  | 0 => some (Ann.mk ((Nat)) (fun i => ⟨[(0, .c (.int .i64 (p))), (1, .c (.int .i64 (n))), (2, .c (.ro (.rows .i64 (B)))), (7, .c (.own (15))), (16, .c (.ro (.rows .i64 (B)))), (17, .c (.int .i64 ((B.length : Int)))), (18, .c (.int .i64 ((i : Int))))], [(15, some (.mp (mpK B i)))]⟩) (fun i => i ≤ B.length) (fun i => B.length - i) (fun _ => noAnn))
  | 2 => some (Ann.mk ((Nat)) (fun a => ⟨[(0, .c (.int .i64 (p))), (1, .c (.int .i64 (n))), (2, .c (.ro (.rows .i64 (B)))), (7, .c (.own (15))), (10, .c (.own (100))), (26, .c (.int .i64 (n))), (27, .c (.int .i64 ((a : Int))))], [(15, some (.mp (mpK B B.length))), (100, some (.rows 0 46 2 .i64 (kerN p n.toNat B a)))]⟩) (fun a => (a : Int) ≤ n) (fun a => n.toNat - a) (fun a => fun b_ => match b_ with | 4 => some (Ann.mk ((Nat)) (fun i => ⟨[(0, .c (.int .i64 (p))), (1, .c (.int .i64 (n))), (2, .c (.ro (.rows .i64 (B)))), (7, .c (.own (15))), (10, .c (.own (100))), (26, .c (.int .i64 (n))), (27, .c (.int .i64 ((a : Int)))), (11, .c (.int .i64 ((a : Int)))), (12, .c (.own (34))), (38, .c (.ro (.rows .i64 (B)))), (39, .c (.int .i64 ((B.length : Int)))), (40, .c (.int .i64 ((i : Int))))], [(15, some (.mp (mpK B B.length))), (100, some (.rows 0 46 2 .i64 (kerN p n.toNat B a))), (34, some (.ints 2 .i64 (knS p B a i ((List.replicate n.toNat 0).set a 1))))]⟩) (fun i => i ≤ B.length ∧ (a : Int) < n ∧ ¬ pvB B a = true) (fun i => B.length - i) (fun _ => noAnn)) | _ => none))
  | _ => none
def kernelOf_G : List (Nat × Ctr) := [(105, ⟨[], leading_ct⟩)]
def kernelOf_V (p : Int) (n : Int) (B : List (List Int)) : Prop :=
  ((∃ x0 : Nat, ((x0 ≤ List.length B) ∧
 ((p = p) ∧
 ((n = n) ∧
 ((B = B) ∧
 ((B = B) ∧
 (((↑(List.length B) : Int) = (↑(List.length B) : Int)) ∧
 (((0 : Int) = (↑x0 : Int)) ∧
 ([] = mpK B x0))))))))) ∧
 (∀ x1 : Nat, ((x1 ≤ List.length B) →
 (BrP (Decidable.decide ((↑x1 : Int) < (↑(List.length B) : Int)))
 ((inB (↑x1 : Int) (List.length B)) ∧
 (((List.length (List.getD B (Int.toNat (↑x1 : Int)) []) ≤ (1000 : Nat)) ∧
 (True)) ∧
 ((InR ((↑x1 : Int) + (1 : Int))) ∧
 (∃ x2 : Nat, ((x2 ≤ List.length B) ∧
 ((List.length B - x2 < List.length B - x1) ∧
 ((p = p) ∧
 ((n = n) ∧
 ((B = B) ∧
 ((B = B) ∧
 (((↑(List.length B) : Int) = (↑(List.length B) : Int)) ∧
 (((↑x1 : Int) + (1 : Int) = (↑x2 : Int)) ∧
 (mpI (ldF (List.getD B (Int.toNat (↑x1 : Int)) [])) (mpK B x1) = mpK B x2)))))))))))))
 ((∃ x3 : Nat, (((↑x3 : Int) ≤ n) ∧
 ((p = p) ∧
 ((n = n) ∧
 ((B = B) ∧
 ((n = n) ∧
 (((0 : Int) = (↑x3 : Int)) ∧
 ((mpK B x1 = mpK B (List.length B)) ∧
 (kerN p (Int.toNat n) B x3 = []))))))))) ∧
 (∀ x4 : Nat, (((↑x4 : Int) ≤ n) →
 (BrP (Decidable.decide ((↑x4 : Int) < n))
 (BrP (List.contains (mpK B (List.length B)) (↑x4 : Int))
 ((InR ((↑x4 : Int) + (1 : Int))) ∧
 (∃ x5 : Nat, (((↑x5 : Int) ≤ n) ∧
 ((Int.toNat n - x5 < Int.toNat n - x4) ∧
 ((p = p) ∧
 ((n = n) ∧
 ((B = B) ∧
 ((n = n) ∧
 (((↑x4 : Int) + (1 : Int) = (↑x5 : Int)) ∧
 ((mpK B (List.length B) = mpK B (List.length B)) ∧
 (kerN p (Int.toNat n) B x4 = kerN p (Int.toNat n) B x5)))))))))))
 ((((0 : Int) ≤ n) ∧
 ((n ≤ n) ∧
 (room (Int.toNat n)))) ∧
 ((inB (↑x4 : Int) (List.length (List.replicate (Int.toNat n) (0 : Int)))) ∧
 ((∃ x6 : Nat, (((x6 ≤ List.length B) ∧
 (((↑x4 : Int) < n) ∧
 (¬pvB B x4 = Bool.true))) ∧
 ((p = p) ∧
 ((n = n) ∧
 ((B = B) ∧
 ((n = n) ∧
 (((↑x4 : Int) = (↑x4 : Int)) ∧
 (((↑x4 : Int) = (↑x4 : Int)) ∧
 ((B = B) ∧
 (((↑(List.length B) : Int) = (↑(List.length B) : Int)) ∧
 (((0 : Int) = (↑x6 : Int)) ∧
 ((mpK B (List.length B) = mpK B (List.length B)) ∧
 ((kerN p (Int.toNat n) B x4 = kerN p (Int.toNat n) B x4) ∧
 (List.set (List.replicate (Int.toNat n) (0 : Int)) (Int.toNat (↑x4 : Int)) (1 : Int) = knS p B x4 x6 (List.set (List.replicate (Int.toNat n) (0 : Int)) x4 (1 : Int)))))))))))))))) ∧
 (∀ x7 : Nat, (((x7 ≤ List.length B) ∧
 (((↑x4 : Int) < n) ∧
 (¬pvB B x4 = Bool.true))) →
 (BrP (Decidable.decide ((↑x7 : Int) < (↑(List.length B) : Int)))
 ((inB (↑x7 : Int) (List.length B)) ∧
 (((List.length (List.getD B (Int.toNat (↑x7 : Int)) []) ≤ (1000 : Nat)) ∧
 (True)) ∧
 ((inB (↑x4 : Int) (List.length (List.getD B (Int.toNat (↑x7 : Int)) []))) ∧
 ((InR (p - List.getD (List.getD B (Int.toNat (↑x7 : Int)) []) (Int.toNat (↑x4 : Int)) (0 : Int))) ∧
 ((p ≠ (0 : Int)) ∧
 ((inB (ldF (List.getD B (Int.toNat (↑x7 : Int)) [])) (List.length (knS p B x4 x7 (List.set (List.replicate (Int.toNat n) (0 : Int)) x4 (1 : Int))))) ∧
 ((InR ((↑x7 : Int) + (1 : Int))) ∧
 (∃ x8 : Nat, (((x8 ≤ List.length B) ∧
 (((↑x4 : Int) < n) ∧
 (¬pvB B x4 = Bool.true))) ∧
 ((List.length B - x8 < List.length B - x7) ∧
 ((p = p) ∧
 ((n = n) ∧
 ((B = B) ∧
 ((n = n) ∧
 (((↑x4 : Int) = (↑x4 : Int)) ∧
 (((↑x4 : Int) = (↑x4 : Int)) ∧
 ((B = B) ∧
 (((↑(List.length B) : Int) = (↑(List.length B) : Int)) ∧
 (((↑x7 : Int) + (1 : Int) = (↑x8 : Int)) ∧
 ((mpK B (List.length B) = mpK B (List.length B)) ∧
 ((kerN p (Int.toNat n) B x4 = kerN p (Int.toNat n) B x4) ∧
 (List.set (knS p B x4 x7 (List.set (List.replicate (Int.toNat n) (0 : Int)) x4 (1 : Int))) (Int.toNat (ldF (List.getD B (Int.toNat (↑x7 : Int)) []))) (Int.tmod (p - List.getD (List.getD B (Int.toNat (↑x7 : Int)) []) (Int.toNat (↑x4 : Int)) (0 : Int)) p) = knS p B x4 x8 (List.set (List.replicate (Int.toNat n) (0 : Int)) x4 (1 : Int))))))))))))))))))))))))
 ((room (List.length (kerN p (Int.toNat n) B x4) + List.length [knS p B x4 x7 (List.set (List.replicate (Int.toNat n) (0 : Int)) x4 (1 : Int))])) ∧
 ((InR ((↑x4 : Int) + (1 : Int))) ∧
 (∃ x9 : Nat, (((↑x9 : Int) ≤ n) ∧
 ((Int.toNat n - x9 < Int.toNat n - x4) ∧
 ((p = p) ∧
 ((n = n) ∧
 ((B = B) ∧
 ((n = n) ∧
 (((↑x4 : Int) + (1 : Int) = (↑x9 : Int)) ∧
 ((mpK B (List.length B) = mpK B (List.length B)) ∧
 (kerN p (Int.toNat n) B x4 ++ [knS p B x4 x7 (List.set (List.replicate (Int.toNat n) (0 : Int)) x4 (1 : Int))] = kerN p (Int.toNat n) B x9)))))))))))))))))))
 ((kerN p (Int.toNat n) B x4 = kerN p (Int.toNat n) B (Int.toNat n)) ∧
 (True))))))))))
theorem kernelOf_vc (p : Int) (n : Int) (B : List (List Int)) : runF Try.prog (gam kernelOf_G) noWr (kernelOf_ann p n B) Try.f52 (bodyOf Try.f52) [] [.c (.int .i64 (p)), .c (.int .i64 (n)), .c (.rows .i64 (B))] (kernelOf_p p n B) = kernelOf_V p n B := by kernel_rfl
theorem kernelOf_ok (p : Int) (n : Int) (B : List (List Int)) (hpre : (kernelOf_p p n B).pre) : kernelOf_V p n B := by
  simp only [kernelOf_p, kernelOf_V, BrP_iff, true_and, and_true, decide_eq_true_eq, decide_eq_false_iff_not, bne_iff_ne, beq_iff_eq, bne_eq_false_iff_eq, beq_eq_false_iff_ne, Bool.not_eq_true, Bool.not_eq_false, Bool.not_true, Bool.not_false, Bool.not_eq_eq_eq_not, Int.toNat_natCast, List.length_append, List.length_take, List.length_replicate, List.length_set, List.length_map, List.length_drop, List.length_nil, List.length_cons, markL_length, inB, InR, room, bdsOk] at hpre ⊢
  obtain ⟨p2, p7, n0, n5, hB, hnn, hl⟩ := hpre
  refine ⟨⟨0, by omega, rfl, rfl⟩, fun i hi => ⟨fun h => ?_, fun h => ⟨⟨0, by omega, rfl, ?_, rfl⟩, fun a ha => ⟨fun h2 => ⟨fun g => ?_, fun g => ?_⟩, fun h2 => ?_⟩⟩⟩⟩
  · have r := (hB i (by omega)).1
    exact ⟨by omega, by omega, by omega, i + 1, by omega, by omega, by omega, rfl⟩
  · rw [show i = B.length by omega]
  · rw [mpK_pv] at g
    refine ⟨by omega, a + 1, by omega, by omega, by omega, ?_⟩
    rw [kerN, if_pos g]
  · rw [mpK_pv] at g
    have K := (kerN_rws (M := n.toNat) p2 hB a (by omega)).2
    have G : ¬ pvB B a = true := by rw [g]; decide
    refine ⟨⟨n0, by omega⟩, by omega, ⟨0, ⟨by omega, by omega, g⟩, rfl, rfl⟩, fun j ⟨hj, _, _⟩ => ⟨fun h3 => ?_, fun h3 => ?_⟩⟩
    · have b := hB j (by omega)
      have b1 := b.1
      have c := b.2 a (by omega)
      have nj := hnn j (by omega)
      have y := ld_yes nj
      have w := (kn_one (a := a) (by omega) hB p2 j (by omega)).1
      exact ⟨by omega, by omega, by omega, by omega, by omega, by omega, by omega, j + 1, ⟨by omega, by omega, g⟩, by omega, by omega, rfl⟩
    · refine ⟨by omega, by omega, a + 1, by omega, by omega, by omega, ?_⟩
      rw [kerN, if_neg G, knL, show j = B.length by omega]
  · rw [show a = n.toNat by omega]
theorem kernelOf_fits : Fits Try.prog 52 ⟨[], kernelOf_ct⟩ := by
  refine fits_fn (Γ := gam kernelOf_G) (gok_cons leading_fits gok_nil) Try.func52 (by kernel_rfl) (by kernel_rfl) (by kernel_rfl) fun ds p h hp => ?_
  unfold kernelOf_ct at h
  split at h
  · cases h
    exact ⟨noWr, kernelOf_ann _ _ _ , by rw [kernelOf_vc]; exact kernelOf_ok _ _ _  hp⟩
  · cases h

end Go.Sx
