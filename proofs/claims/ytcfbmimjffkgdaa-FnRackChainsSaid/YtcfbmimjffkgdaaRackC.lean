/- RackC -/
import Derived.Test.YtcfbmimjffkgdaaRack
open Go Go.Proofs
namespace Go.Sx
set_option linter.unusedSimpArgs false
set_option linter.unusedVariables false

def rackB (t : List (List Int)) : Bool := tabB t && t.all permB && (rkF t).isNone

theorem rackB_tab {t : List (List Int)} (h : rackB t = true) : tabB t = true := by
  simp only [rackB, Bool.and_eq_true] at h
  exact h.1.1

theorem firstO_some {α : Type} {n : Nat} {q : Nat → Option α} {r : α} : ∀ {k : Nat}, firstO n q k = some r → ∃ i, q i = some r
  | 0, h => by cases h
  | k + 1, h => by
    simp only [firstO, Option.or_eq_some_iff] at h
    rcases h with h | ⟨_, h⟩
    · exact ⟨_, h⟩
    · exact firstO_some h

theorem rkF_len {t : List (List Int)} {l : List Int} (h : rkF t = some l) : l.length = 3 := by
  obtain ⟨x, h⟩ := firstO_some h
  obtain ⟨y, h⟩ := firstO_some h
  obtain ⟨z, h⟩ := firstO_some h
  unfold rkZ at h
  split at h
  · cases h
  · cases h; rfl

def l03Is_p (t : List (List Int)) : Post := ⟨roomR t, .c (.bool (rackB t)), []⟩
def l03Is_ct : List AD → Option Post
  | [.agg [.rows .i64 (t)]] => some (l03Is_p t)
  | _ => none
def l03Is_ann (t : List (List Int)) : Nat → Option Ann
  | 0 => some (Ann.mk ((Nat)) (fun i => ⟨[(1, .c (.ptr 1 0)), (3, .c (.int .i64 ((i : Int))))], [(1, some (.box [.ro (.rows .i64 (t))]))]⟩) (fun i => i ≤ t.length ∧ tabB t = true ∧ t.all permB = (t.drop i).all permB) (fun i => t.length - i) (fun _ => noAnn))
  | _ => none
def l03Is_G : List (Nat × Ctr) := [(93, ⟨[], l01Table_ct⟩), (94, ⟨[], l01Perm_ct⟩), (95, ⟨[], l03Fault_ct⟩)]
def l03Is_V (t : List (List Int)) : Prop :=
  (((roomR t) ∧
 (True)) ∧
 (BrP (!tabB t)
 ((Bool.false = rackB t) ∧
 (True))
 ((∃ x0 : Nat, (((x0 ≤ List.length t) ∧
 ((tabB t = Bool.true) ∧
 (List.all t permB = List.all (List.drop x0 t) permB))) ∧
 (((0 : Int) = (↑x0 : Int)) ∧
 (t = t)))) ∧
 (∀ x1 : Nat, (((x1 ≤ List.length t) ∧
 ((tabB t = Bool.true) ∧
 (List.all t permB = List.all (List.drop x1 t) permB))) →
 (BrP (Decidable.decide ((↑x1 : Int) < (↑(List.length t) : Int)))
 ((inB (↑x1 : Int) (List.length t)) ∧
 (((List.length (List.getD t (Int.toNat (↑x1 : Int)) []) ≤ (1099511627776 : Nat)) ∧
 (True)) ∧
 (BrP (!(Decidable.decide ((1 : Int) ≤ (↑(List.length (List.getD t (Int.toNat (↑x1 : Int)) [])) : Int) ∧ (↑(List.length (List.getD t (Int.toNat (↑x1 : Int)) [])) : Int) ≤ (12 : Int)) && permB (List.getD t (Int.toNat (↑x1 : Int)) [])))
 ((Bool.false = rackB t) ∧
 (True))
 ((InR ((↑x1 : Int) + (1 : Int))) ∧
 (∃ x2 : Nat, (((x2 ≤ List.length t) ∧
 ((tabB t = Bool.true) ∧
 (List.all t permB = List.all (List.drop x2 t) permB))) ∧
 ((List.length t - x2 < List.length t - x1) ∧
 (((↑x1 : Int) + (1 : Int) = (↑x2 : Int)) ∧
 (t = t)))))))))
 (((tabB t = Bool.true) ∧
 (True)) ∧
 ((((↑(List.length (Option.getD (rkF t) [])) : Int) == (0 : Int)) = rackB t) ∧
 (True)))))))))
theorem l03Is_vc (t : List (List Int)) : runF Try.prog (gam l03Is_G) noWr (l03Is_ann t) Try.f41 (bodyOf Try.f41) [] [.agg [.rows .i64 (t)]] (l03Is_p t) = l03Is_V t := by kernel_rfl
theorem l03Is_ok (t : List (List Int)) (hpre : (l03Is_p t).pre) : l03Is_V t := by
  simp only [l03Is_p, l03Is_V, BrP_iff, true_and, and_true, decide_eq_true_eq, decide_eq_false_iff_not, bne_iff_ne, beq_iff_eq, bne_eq_false_iff_eq, beq_eq_false_iff_ne, Bool.not_eq_true, Bool.not_eq_false, Bool.not_true, Bool.not_false, Bool.not_eq_eq_eq_not, Int.toNat_natCast, List.length_append, List.length_take, List.length_replicate, List.length_set, List.length_map, List.length_drop, List.length_nil, List.length_cons, markL_length, inB, InR, room, bdsOk] at hpre ⊢
  have h0 := hpre.1
  refine ⟨hpre, fun h => by rw [rackB, h]; rfl, fun h => ⟨⟨0, ⟨by omega, h, rfl⟩, rfl⟩, fun i ⟨hi, _, he⟩ => ⟨fun h2 => ?_, fun h2 => ⟨h, ?_⟩⟩⟩⟩
  · have hd := allG_drop [] permB (show i < t.length by omega)
    obtain ⟨n1, n2, ht⟩ := tabB_of h
    have hl := (ht i (by omega)).1
    refine ⟨by omega, roomR_get hpre i (by omega), fun h3 => ?_, fun h3 => ⟨by omega, i + 1, ⟨by omega, h, ?_⟩, by omega, by omega⟩⟩
    · rw [decide_eq_true (by omega), Bool.true_and] at h3
      rw [rackB, he, hd, h3]; simp
    · rw [decide_eq_true (by omega), Bool.true_and] at h3
      rw [he, hd, h3]; rfl
  · have ha : t.all permB = true := by rw [he, List.drop_of_length_le (by omega)]; rfl
    rw [rackB, h, ha]
    cases hf : rkF t with
    | none => rfl
    | some l =>
      have hl := rkF_len hf
      simp only [Option.getD_some, Option.isNone_some, Bool.and_false]
      rw [beq_eq_false_iff_ne]
      omega
theorem l03Is_fits : Fits Try.prog 41 ⟨[], l03Is_ct⟩ := by
  refine fits_fn (Γ := gam l03Is_G) (gok_cons l01Table_fits (gok_cons l01Perm_fits (gok_cons l03Fault_fits gok_nil))) Try.func41 (by kernel_rfl) (by kernel_rfl) (by kernel_rfl) fun ds p h hp => ?_
  unfold l03Is_ct at h
  split at h
  · cases h
    exact ⟨noWr, l03Is_ann _ , by rw [l03Is_vc]; exact l03Is_ok _  hp⟩
  · cases h

def IsRack_p (t : List (List Int)) : Post := ⟨roomR t, .c (.bool (rackB t)), []⟩
def IsRack_ct : List AD → Option Post
  | [.agg [.rows .i64 (t)]] => some (IsRack_p t)
  | _ => none
def IsRack_G : List (Nat × Ctr) := [(72, ⟨[], IsTable_ct⟩), (73, ⟨[], permutationRows_ct⟩), (74, ⟨[], rackFault_ct⟩)]
def IsRack_V (t : List (List Int)) : Prop :=
  (((roomR t) ∧
 (True)) ∧
 (BrP (tabB t)
 (((roomR t) ∧
 (True)) ∧
 (BrP (List.all t permB)
 (((tabB t = Bool.true) ∧
 (True)) ∧
 ((Option.isNone (rkF t) = rackB t) ∧
 (True)))
 ((Bool.false = rackB t) ∧
 (True))))
 ((Bool.false = rackB t) ∧
 (True))))
theorem IsRack_vc (t : List (List Int)) : runF Try.prog (gam IsRack_G) noWr noAnn Try.f26 (bodyOf Try.f26) [] [.agg [.rows .i64 (t)]] (IsRack_p t) = IsRack_V t := by kernel_rfl
theorem IsRack_ok (t : List (List Int)) (hpre : (IsRack_p t).pre) : IsRack_V t := by
  simp only [IsRack_p, IsRack_V, BrP_iff, true_and, and_true, decide_eq_true_eq, decide_eq_false_iff_not, bne_iff_ne, beq_iff_eq, bne_eq_false_iff_eq, beq_eq_false_iff_ne, Bool.not_eq_true, Bool.not_eq_false, Bool.not_true, Bool.not_false, Bool.not_eq_eq_eq_not, Int.toNat_natCast, List.length_append, List.length_take, List.length_replicate, List.length_set, List.length_map, List.length_drop, List.length_nil, List.length_cons, markL_length, inB, InR, room, bdsOk] at hpre ⊢
  refine ⟨hpre, fun h => ⟨hpre, fun h2 => ⟨h, ?_⟩, fun h2 => ?_⟩, fun h => ?_⟩
  · rw [rackB, h, h2]; rfl
  · rw [rackB, h2]; simp
  · rw [rackB, h]; rfl
theorem IsRack_fits : Fits Try.prog 26 ⟨[], IsRack_ct⟩ := by
  refine fits_fn (Γ := gam IsRack_G) (gok_cons IsTable_fits (gok_cons permutationRows_fits (gok_cons rackFault_fits gok_nil))) Try.func26 (by kernel_rfl) (by kernel_rfl) (by kernel_rfl) fun ds p h hp => ?_
  unfold IsRack_ct at h
  split at h
  · cases h
    exact ⟨noWr, noAnn, by rw [IsRack_vc]; exact IsRack_ok _  hp⟩
  · cases h

end Go.Sx
