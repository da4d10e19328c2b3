/- Own2 -/
import Derived.Test.YtcfbmimjffkgdaaOwn
import Derived.Test.YtcfbmimjffkgdaaLists
open Go Go.Proofs
namespace Go.Sx
set_option linter.unusedSimpArgs false
set_option linter.unusedVariables false

def l01Own2_p (t : List (List Int)) : Post := ⟨roomR t, .c (.rows 46 2 .i64 (t)), []⟩
def l01Own2_ct : List AD → Option Post
  | [.c (.rows .i64 (t))] => some (l01Own2_p t)
  | _ => none
def l01Own2_ann (t : List (List Int)) : Nat → Option Ann
  | 0 => some (Ann.mk ((Nat)) (fun i => ⟨[(0, .c (.ro (.rows .i64 (t)))), (3, .c (.own (5))), (4, .c (.int .i64 ((i : Int))))], [(5, some (.rows 0 46 2 .i64 (t.take i)))]⟩) (fun i => i ≤ t.length) (fun i => t.length - i) (fun _ => noAnn))
  | _ => none
def l01Own2_G : List (Nat × Ctr) := [(97, ⟨[], l01Own_ct⟩)]
def l01Own2_V (t : List (List Int)) : Prop :=
  ((∃ x0 : Nat, ((x0 ≤ List.length t) ∧
 ((t = t) ∧
 (((0 : Int) = (↑x0 : Int)) ∧
 ([] = List.take x0 t))))) ∧
 (∀ x1 : Nat, ((x1 ≤ List.length t) →
 (BrP (Decidable.decide ((↑x1 : Int) < (↑(List.length t) : Int)))
 ((inB (↑x1 : Int) (List.length t)) ∧
 (((room (List.length (List.getD t (Int.toNat (↑x1 : Int)) []))) ∧
 (True)) ∧
 ((room (List.length (List.take x1 t) + List.length [List.getD t (Int.toNat (↑x1 : Int)) []])) ∧
 ((InR ((↑x1 : Int) + (1 : Int))) ∧
 (∃ x2 : Nat, ((x2 ≤ List.length t) ∧
 ((List.length t - x2 < List.length t - x1) ∧
 ((t = t) ∧
 (((↑x1 : Int) + (1 : Int) = (↑x2 : Int)) ∧
 (List.take x1 t ++ [List.getD t (Int.toNat (↑x1 : Int)) []] = List.take x2 t))))))))))
 ((List.take x1 t = t) ∧
 (True))))))
theorem l01Own2_vc (t : List (List Int)) : runF Try.prog (gam l01Own2_G) noWr (l01Own2_ann t) Try.f99 (bodyOf Try.f99) [] [.c (.rows .i64 (t))] (l01Own2_p t) = l01Own2_V t := by kernel_rfl
theorem l01Own2_ok (t : List (List Int)) (hpre : (l01Own2_p t).pre) : l01Own2_V t := by
  simp only [l01Own2_p, l01Own2_V, BrP_iff, true_and, and_true, decide_eq_true_eq, decide_eq_false_iff_not, bne_iff_ne, beq_iff_eq, bne_eq_false_iff_eq, beq_eq_false_iff_ne, Bool.not_eq_true, Bool.not_eq_false, Bool.not_true, Bool.not_false, Bool.not_eq_eq_eq_not, Int.toNat_natCast, List.length_append, List.length_take, List.length_replicate, List.length_set, List.length_map, List.length_drop, List.length_nil, List.length_cons, markL_length, inB, InR, room, bdsOk] at hpre ⊢
  have h1 := hpre.1
  refine ⟨⟨0, by omega, rfl, by simp⟩, fun i hi => ⟨fun h => ⟨by omega, roomR_get hpre i (by omega), by omega, by omega, i + 1, by omega, by omega, by omega, take_snoc _ _ _ (by omega)⟩, fun h => List.take_of_length_le (by omega)⟩⟩
theorem l01Own2_fits : Fits Try.prog 99 ⟨[], l01Own2_ct⟩ := by
  refine fits_fn (Γ := gam l01Own2_G) (gok_cons l01Own_fits gok_nil) Try.func99 (by kernel_rfl) (by kernel_rfl) (by kernel_rfl) fun ds p h hp => ?_
  unfold l01Own2_ct at h
  split at h
  · cases h
    exact ⟨noWr, l01Own2_ann _ , by rw [l01Own2_vc]; exact l01Own2_ok _  hp⟩
  · cases h

end Go.Sx
