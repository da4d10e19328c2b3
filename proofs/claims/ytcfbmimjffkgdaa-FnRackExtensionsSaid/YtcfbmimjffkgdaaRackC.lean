/- RackC -/
import Derived.Test.YtcfbmimjffkgdaaRack
open Go Go.Proofs
namespace Go.Sx
set_option linter.unusedSimpArgs false
set_option linter.unusedVariables false








def rackB (t : List (List Int)) : Bool := tabB t && t.all permB && (rkF t).isNone

theorem rackB_tab {t : List (List Int)} (h : rackB t = true) : tabB t = true := by
  simp only [rackB, Bool.and_eq_true] at h
  exact h.1.1

theorem firstO_some {α : Type} {n : Nat} {q : Nat → Option α} {r : α} : ∀ {k : Nat}, firstO n q k = some r → ∃ i, q i = some r
  | 0, h => by cases h
  | k + 1, h => by
    simp only [firstO, Option.or_eq_some_iff] at h
    rcases h with h | ⟨_, h⟩
    · exact ⟨_, h⟩
    · exact firstO_some h

theorem rkF_len {t : List (List Int)} {l : List Int} (h : rkF t = some l) : l.length = 3 := by
  obtain ⟨x, h⟩ := firstO_some h
  obtain ⟨y, h⟩ := firstO_some h
  obtain ⟨z, h⟩ := firstO_some h
  unfold rkZ at h
  split at h
  · cases h
  · cases h; rfl

theorem tmod_sub {a b m : Int} (ha : 0 ≤ a) (hb : 0 ≤ b) (hm : 1 ≤ m) : a.tmod m = b.tmod m ↔ (a - b).tmod m = 0 := by
  rw [Int.tmod_eq_emod_of_nonneg ha, Int.tmod_eq_emod_of_nonneg hb, Int.emod_eq_emod_iff_emod_sub_eq_zero]
  exact ⟨fun h => Int.tmod_eq_zero_of_dvd (Int.dvd_of_emod_eq_zero h), fun h => Int.emod_eq_zero_of_dvd (Int.dvd_of_tmod_eq_zero h)⟩

def l03Is_p (t : List (List Int)) : Post := ⟨roomR t, .c (.bool (rackB t)), []⟩
def l03Is_ct : List AD → Option Post
  | [.agg [.rows .i64 (t)]] => some (l03Is_p t)
  | _ => none
def l03Is_ann (t : List (List Int)) : Nat → Option Ann
  | 0 => some (Ann.mk ((Nat)) (fun i => ⟨[(1, .c (.ptr 1 0)), (3, .c (.int .i64 ((i : Int))))], [(1, some (.box [.ro (.rows .i64 (t))]))]⟩) (fun i => i ≤ t.length ∧ tabB t = true ∧ t.all permB = (t.drop i).all permB) (fun i => t.length - i) (fun _ => noAnn))
  | _ => none
def l03Is_G : List (Nat × Ctr) := [(93, ⟨[], l01Table_ct⟩), (94, ⟨[], l01Perm_ct⟩), (95, ⟨[], l03Fault_ct⟩)]
def l03Is_V (t : List (List Int)) : Prop :=
  (((roomR t) ∧
 (True)) ∧
 (BrP (!tabB t)
 ((Bool.false = rackB t) ∧
 (True))
 ((∃ x0 : Nat, (((x0 ≤ List.length t) ∧
 ((tabB t = Bool.true) ∧
 (List.all t permB = List.all (List.drop x0 t) permB))) ∧
 (((0 : Int) = (↑x0 : Int)) ∧
 (t = t)))) ∧
 (∀ x1 : Nat, (((x1 ≤ List.length t) ∧
 ((tabB t = Bool.true) ∧
 (List.all t permB = List.all (List.drop x1 t) permB))) →
 (BrP (Decidable.decide ((↑x1 : Int) < (↑(List.length t) : Int)))
 ((inB (↑x1 : Int) (List.length t)) ∧
 (((List.length (List.getD t (Int.toNat (↑x1 : Int)) []) ≤ (1099511627776 : Nat)) ∧
 (True)) ∧
 (BrP (!(Decidable.decide ((1 : Int) ≤ (↑(List.length (List.getD t (Int.toNat (↑x1 : Int)) [])) : Int) ∧ (↑(List.length (List.getD t (Int.toNat (↑x1 : Int)) [])) : Int) ≤ (12 : Int)) && permB (List.getD t (Int.toNat (↑x1 : Int)) [])))
 ((Bool.false = rackB t) ∧
 (True))
 ((InR ((↑x1 : Int) + (1 : Int))) ∧
 (∃ x2 : Nat, (((x2 ≤ List.length t) ∧
 ((tabB t = Bool.true) ∧
 (List.all t permB = List.all (List.drop x2 t) permB))) ∧
 ((List.length t - x2 < List.length t - x1) ∧
 (((↑x1 : Int) + (1 : Int) = (↑x2 : Int)) ∧
 (t = t)))))))))
 (((tabB t = Bool.true) ∧
 (True)) ∧
 ((((↑(List.length (Option.getD (rkF t) [])) : Int) == (0 : Int)) = rackB t) ∧
 (True)))))))))
theorem l03Is_vc (t : List (List Int)) : runF Try.prog (gam l03Is_G) noWr (l03Is_ann t) Try.f41 (bodyOf Try.f41) [] [.agg [.rows .i64 (t)]] (l03Is_p t) = l03Is_V t := by kernel_rfl
theorem l03Is_ok (t : List (List Int)) (hpre : (l03Is_p t).pre) : l03Is_V t := by
  simp only [l03Is_p, l03Is_V, BrP_iff, true_and, and_true, decide_eq_true_eq, decide_eq_false_iff_not, bne_iff_ne, beq_iff_eq, bne_eq_false_iff_eq, beq_eq_false_iff_ne, Bool.not_eq_true, Bool.not_eq_false, Bool.not_true, Bool.not_false, Bool.not_eq_eq_eq_not, Int.toNat_natCast, List.length_append, List.length_take, List.length_replicate, List.length_set, List.length_map, List.length_drop, List.length_nil, List.length_cons, markL_length, inB, InR, room, bdsOk] at hpre ⊢
  have h0 := hpre.1
  refine ⟨hpre, fun h => by rw [rackB, h]; rfl, fun h => ⟨⟨0, ⟨by omega, h, rfl⟩, rfl⟩, fun i ⟨hi, _, he⟩ => ⟨fun h2 => ?_, fun h2 => ⟨h, ?_⟩⟩⟩⟩
  · have hd := allG_drop [] permB (show i < t.length by omega)
    obtain ⟨n1, n2, ht⟩ := tabB_of h
    have hl := (ht i (by omega)).1
    refine ⟨by omega, roomR_get hpre i (by omega), fun h3 => ?_, fun h3 => ⟨by omega, i + 1, ⟨by omega, h, ?_⟩, by omega, by omega⟩⟩
    · rw [decide_eq_true (by omega), Bool.true_and] at h3
      rw [rackB, he, hd, h3]; simp
    · rw [decide_eq_true (by omega), Bool.true_and] at h3
      rw [he, hd, h3]; rfl
  · have ha : t.all permB = true := by rw [he, List.drop_of_length_le (by omega)]; rfl
    rw [rackB, h, ha]
    cases hf : rkF t with
    | none => rfl
    | some l =>
      have hl := rkF_len hf
      simp only [Option.getD_some, Option.isNone_some, Bool.and_false]
      rw [beq_eq_false_iff_ne]
      omega
theorem l03Is_fits : Fits Try.prog 41 ⟨[], l03Is_ct⟩ := by
  refine fits_fn (Γ := gam l03Is_G) (gok_cons l01Table_fits (gok_cons l01Perm_fits (gok_cons l03Fault_fits gok_nil))) Try.func41 (by kernel_rfl) (by kernel_rfl) (by kernel_rfl) fun ds p h hp => ?_
  unfold l03Is_ct at h
  split at h
  · cases h
    exact ⟨noWr, l03Is_ann _ , by rw [l03Is_vc]; exact l03Is_ok _  hp⟩
  · cases h

def IsRack_p (t : List (List Int)) : Post := ⟨roomR t, .c (.bool (rackB t)), []⟩
def IsRack_ct : List AD → Option Post
  | [.agg [.rows .i64 (t)]] => some (IsRack_p t)
  | _ => none
def IsRack_G : List (Nat × Ctr) := [(72, ⟨[], IsTable_ct⟩), (73, ⟨[], permutationRows_ct⟩), (74, ⟨[], rackFault_ct⟩)]
def IsRack_V (t : List (List Int)) : Prop :=
  (((roomR t) ∧
 (True)) ∧
 (BrP (tabB t)
 (((roomR t) ∧
 (True)) ∧
 (BrP (List.all t permB)
 (((tabB t = Bool.true) ∧
 (True)) ∧
 ((Option.isNone (rkF t) = rackB t) ∧
 (True)))
 ((Bool.false = rackB t) ∧
 (True))))
 ((Bool.false = rackB t) ∧
 (True))))
theorem IsRack_vc (t : List (List Int)) : runF Try.prog (gam IsRack_G) noWr noAnn Try.f26 (bodyOf Try.f26) [] [.agg [.rows .i64 (t)]] (IsRack_p t) = IsRack_V t := by kernel_rfl
theorem IsRack_ok (t : List (List Int)) (hpre : (IsRack_p t).pre) : IsRack_V t := by
  simp only [IsRack_p, IsRack_V, BrP_iff, true_and, and_true, decide_eq_true_eq, decide_eq_false_iff_not, bne_iff_ne, beq_iff_eq, bne_eq_false_iff_eq, beq_eq_false_iff_ne, Bool.not_eq_true, Bool.not_eq_false, Bool.not_true, Bool.not_false, Bool.not_eq_eq_eq_not, Int.toNat_natCast, List.length_append, List.length_take, List.length_replicate, List.length_set, List.length_map, List.length_drop, List.length_nil, List.length_cons, markL_length, inB, InR, room, bdsOk] at hpre ⊢
  refine ⟨hpre, fun h => ⟨hpre, fun h2 => ⟨h, ?_⟩, fun h2 => ?_⟩, fun h => ?_⟩
  · rw [rackB, h, h2]; rfl
  · rw [rackB, h2]; simp
  · rw [rackB, h]; rfl
theorem IsRack_fits : Fits Try.prog 26 ⟨[], IsRack_ct⟩ := by
  refine fits_fn (Γ := gam IsRack_G) (gok_cons IsTable_fits (gok_cons permutationRows_fits (gok_cons rackFault_fits gok_nil))) Try.func26 (by kernel_rfl) (by kernel_rfl) (by kernel_rfl) fun ds p h hp => ?_
  unfold IsRack_ct at h
  split at h
  · cases h
    exact ⟨noWr, noAnn, by rw [IsRack_vc]; exact IsRack_ok _  hp⟩
  · cases h

def rcZ (t : List (List Int)) (m : Int) (f : List (List Int)) (x y z : Nat) : Option Unit := if (en f y z + en f x (en t y z).toNat).tmod m = (en f x z + en f (en t x y).toNat (en t x z).toNat).tmod m then none else some ()
def rcY (t : List (List Int)) (m : Int) (f : List (List Int)) (x y : Nat) : Option Unit := firstO t.length (rcZ t m f x y) t.length
def rcX (t : List (List Int)) (m : Int) (f : List (List Int)) (x : Nat) : Option Unit := firstO t.length (rcY t m f x) t.length
def rcF (t : List (List Int)) (m : Int) (f : List (List Int)) : Option Unit := firstO t.length (rcX t m f) t.length

def l14Rack_p (t : List (List Int)) (m : Int) (f : List (List Int)) : Post := ⟨tabB t = true ∧ matB (t.length : Int) m f = true, .c (.bool ((rcF t m f).isNone)), []⟩
def l14Rack_ct : List AD → Option Post
  | [.c (.rows .i64 (t)), .c (.int .i64 (m)), .c (.rows .i64 (f))] => some (l14Rack_p t m f)
  | _ => none
def l14Rack_ann (t : List (List Int)) (m : Int) (f : List (List Int)) : Nat → Option Ann
  | 0 => some (Ann.mk ((Nat)) (fun i => ⟨[(0, .c (.ro (.rows .i64 (t)))), (1, .c (.int .i64 (m))), (2, .c (.ro (.rows .i64 (f)))), (7, .c (.int .i64 ((i : Int))))], []⟩) (fun i => i ≤ t.length ∧ rcF t m f = firstO t.length (rcX t m f) (t.length - i)) (fun i => t.length - i) (fun i => fun b_ => match b_ with | 2 => some (Ann.mk ((Nat)) (fun j => ⟨[(0, .c (.ro (.rows .i64 (t)))), (1, .c (.int .i64 (m))), (2, .c (.ro (.rows .i64 (f)))), (7, .c (.int .i64 ((i : Int)))), (8, .c (.int .i64 ((j : Int))))], []⟩) (fun j => j ≤ t.length ∧ i < t.length ∧ rcF t m f = (firstO t.length (rcY t m f i) (t.length - j)).or (firstO t.length (rcX t m f) (t.length - (i + 1)))) (fun j => t.length - j) (fun j => fun b_ => match b_ with | 4 => some (Ann.mk ((Nat)) (fun k => ⟨[(0, .c (.ro (.rows .i64 (t)))), (1, .c (.int .i64 (m))), (2, .c (.ro (.rows .i64 (f)))), (7, .c (.int .i64 ((i : Int)))), (8, .c (.int .i64 ((j : Int)))), (9, .c (.int .i64 ((k : Int))))], []⟩) (fun k => k ≤ t.length ∧ j < t.length ∧ rcF t m f = ((firstO t.length (rcZ t m f i j) (t.length - k)).or (firstO t.length (rcY t m f i) (t.length - (j + 1)))).or (firstO t.length (rcX t m f) (t.length - (i + 1)))) (fun k => t.length - k) (fun _ => noAnn)) | _ => none)) | _ => none))
  | _ => none
def l14Rack_G : List (Nat × Ctr) := []
def l14Rack_V (t : List (List Int)) (m : Int) (f : List (List Int)) : Prop :=
  ((∃ x0 : Nat, (((x0 ≤ List.length t) ∧
 (rcF t m f = firstO (List.length t) (rcX t m f) (List.length t - x0))) ∧
 ((t = t) ∧
 ((m = m) ∧
 ((f = f) ∧
 ((0 : Int) = (↑x0 : Int))))))) ∧
 (∀ x1 : Nat, (((x1 ≤ List.length t) ∧
 (rcF t m f = firstO (List.length t) (rcX t m f) (List.length t - x1))) →
 (BrP (Decidable.decide ((↑x1 : Int) < (↑(List.length t) : Int)))
 ((∃ x2 : Nat, (((x2 ≤ List.length t) ∧
 ((x1 < List.length t) ∧
 (rcF t m f = Option.or (firstO (List.length t) (rcY t m f x1) (List.length t - x2)) (firstO (List.length t) (rcX t m f) (List.length t - (x1 + (1 : Nat))))))) ∧
 ((t = t) ∧
 ((m = m) ∧
 ((f = f) ∧
 (((↑x1 : Int) = (↑x1 : Int)) ∧
 ((0 : Int) = (↑x2 : Int)))))))) ∧
 (∀ x3 : Nat, (((x3 ≤ List.length t) ∧
 ((x1 < List.length t) ∧
 (rcF t m f = Option.or (firstO (List.length t) (rcY t m f x1) (List.length t - x3)) (firstO (List.length t) (rcX t m f) (List.length t - (x1 + (1 : Nat))))))) →
 (BrP (Decidable.decide ((↑x3 : Int) < (↑(List.length t) : Int)))
 ((∃ x4 : Nat, (((x4 ≤ List.length t) ∧
 ((x3 < List.length t) ∧
 (rcF t m f = Option.or (Option.or (firstO (List.length t) (rcZ t m f x1 x3) (List.length t - x4)) (firstO (List.length t) (rcY t m f x1) (List.length t - (x3 + (1 : Nat))))) (firstO (List.length t) (rcX t m f) (List.length t - (x1 + (1 : Nat))))))) ∧
 ((t = t) ∧
 ((m = m) ∧
 ((f = f) ∧
 (((↑x1 : Int) = (↑x1 : Int)) ∧
 (((↑x3 : Int) = (↑x3 : Int)) ∧
 ((0 : Int) = (↑x4 : Int))))))))) ∧
 (∀ x5 : Nat, (((x5 ≤ List.length t) ∧
 ((x3 < List.length t) ∧
 (rcF t m f = Option.or (Option.or (firstO (List.length t) (rcZ t m f x1 x3) (List.length t - x5)) (firstO (List.length t) (rcY t m f x1) (List.length t - (x3 + (1 : Nat))))) (firstO (List.length t) (rcX t m f) (List.length t - (x1 + (1 : Nat))))))) →
 (BrP (Decidable.decide ((↑x5 : Int) < (↑(List.length t) : Int)))
 ((inB (↑x3 : Int) (List.length f)) ∧
 ((inB (↑x5 : Int) (List.length (List.getD f (Int.toNat (↑x3 : Int)) []))) ∧
 ((inB (↑x1 : Int) (List.length f)) ∧
 ((inB (↑x3 : Int) (List.length t)) ∧
 ((inB (↑x5 : Int) (List.length (List.getD t (Int.toNat (↑x3 : Int)) []))) ∧
 ((inB (List.getD (List.getD t (Int.toNat (↑x3 : Int)) []) (Int.toNat (↑x5 : Int)) (0 : Int)) (List.length (List.getD f (Int.toNat (↑x1 : Int)) []))) ∧
 ((InR (List.getD (List.getD f (Int.toNat (↑x3 : Int)) []) (Int.toNat (↑x5 : Int)) (0 : Int) + List.getD (List.getD f (Int.toNat (↑x1 : Int)) []) (Int.toNat (List.getD (List.getD t (Int.toNat (↑x3 : Int)) []) (Int.toNat (↑x5 : Int)) (0 : Int))) (0 : Int))) ∧
 ((m ≠ (0 : Int)) ∧
 ((inB (↑x1 : Int) (List.length f)) ∧
 ((inB (↑x5 : Int) (List.length (List.getD f (Int.toNat (↑x1 : Int)) []))) ∧
 ((inB (↑x1 : Int) (List.length t)) ∧
 ((inB (↑x3 : Int) (List.length (List.getD t (Int.toNat (↑x1 : Int)) []))) ∧
 ((inB (List.getD (List.getD t (Int.toNat (↑x1 : Int)) []) (Int.toNat (↑x3 : Int)) (0 : Int)) (List.length f)) ∧
 ((inB (↑x1 : Int) (List.length t)) ∧
 ((inB (↑x5 : Int) (List.length (List.getD t (Int.toNat (↑x1 : Int)) []))) ∧
 ((inB (List.getD (List.getD t (Int.toNat (↑x1 : Int)) []) (Int.toNat (↑x5 : Int)) (0 : Int)) (List.length (List.getD f (Int.toNat (List.getD (List.getD t (Int.toNat (↑x1 : Int)) []) (Int.toNat (↑x3 : Int)) (0 : Int))) []))) ∧
 ((InR (List.getD (List.getD f (Int.toNat (↑x1 : Int)) []) (Int.toNat (↑x5 : Int)) (0 : Int) + List.getD (List.getD f (Int.toNat (List.getD (List.getD t (Int.toNat (↑x1 : Int)) []) (Int.toNat (↑x3 : Int)) (0 : Int))) []) (Int.toNat (List.getD (List.getD t (Int.toNat (↑x1 : Int)) []) (Int.toNat (↑x5 : Int)) (0 : Int))) (0 : Int))) ∧
 ((m ≠ (0 : Int)) ∧
 (BrP (Int.tmod (List.getD (List.getD f (Int.toNat (↑x3 : Int)) []) (Int.toNat (↑x5 : Int)) (0 : Int) + List.getD (List.getD f (Int.toNat (↑x1 : Int)) []) (Int.toNat (List.getD (List.getD t (Int.toNat (↑x3 : Int)) []) (Int.toNat (↑x5 : Int)) (0 : Int))) (0 : Int)) m != Int.tmod (List.getD (List.getD f (Int.toNat (↑x1 : Int)) []) (Int.toNat (↑x5 : Int)) (0 : Int) + List.getD (List.getD f (Int.toNat (List.getD (List.getD t (Int.toNat (↑x1 : Int)) []) (Int.toNat (↑x3 : Int)) (0 : Int))) []) (Int.toNat (List.getD (List.getD t (Int.toNat (↑x1 : Int)) []) (Int.toNat (↑x5 : Int)) (0 : Int))) (0 : Int)) m)
 ((Bool.false = Option.isNone (rcF t m f)) ∧
 (True))
 ((InR ((↑x5 : Int) + (1 : Int))) ∧
 (∃ x6 : Nat, (((x6 ≤ List.length t) ∧
 ((x3 < List.length t) ∧
 (rcF t m f = Option.or (Option.or (firstO (List.length t) (rcZ t m f x1 x3) (List.length t - x6)) (firstO (List.length t) (rcY t m f x1) (List.length t - (x3 + (1 : Nat))))) (firstO (List.length t) (rcX t m f) (List.length t - (x1 + (1 : Nat))))))) ∧
 ((List.length t - x6 < List.length t - x5) ∧
 ((t = t) ∧
 ((m = m) ∧
 ((f = f) ∧
 (((↑x1 : Int) = (↑x1 : Int)) ∧
 (((↑x3 : Int) = (↑x3 : Int)) ∧
 ((↑x5 : Int) + (1 : Int) = (↑x6 : Int))))))))))))))))))))))))))))))
 ((InR ((↑x3 : Int) + (1 : Int))) ∧
 (∃ x7 : Nat, (((x7 ≤ List.length t) ∧
 ((x1 < List.length t) ∧
 (rcF t m f = Option.or (firstO (List.length t) (rcY t m f x1) (List.length t - x7)) (firstO (List.length t) (rcX t m f) (List.length t - (x1 + (1 : Nat))))))) ∧
 ((List.length t - x7 < List.length t - x3) ∧
 ((t = t) ∧
 ((m = m) ∧
 ((f = f) ∧
 (((↑x1 : Int) = (↑x1 : Int)) ∧
 ((↑x3 : Int) + (1 : Int) = (↑x7 : Int))))))))))))))
 ((InR ((↑x1 : Int) + (1 : Int))) ∧
 (∃ x8 : Nat, (((x8 ≤ List.length t) ∧
 (rcF t m f = firstO (List.length t) (rcX t m f) (List.length t - x8))) ∧
 ((List.length t - x8 < List.length t - x1) ∧
 ((t = t) ∧
 ((m = m) ∧
 ((f = f) ∧
 ((↑x1 : Int) + (1 : Int) = (↑x8 : Int)))))))))))))
 ((Bool.true = Option.isNone (rcF t m f)) ∧
 (True))))))
theorem l14Rack_vc (t : List (List Int)) (m : Int) (f : List (List Int)) : runF Try.prog (gam l14Rack_G) noWr (l14Rack_ann t m f) Try.f66 (bodyOf Try.f66) [] [.c (.rows .i64 (t)), .c (.int .i64 (m)), .c (.rows .i64 (f))] (l14Rack_p t m f) = l14Rack_V t m f := by kernel_rfl
theorem l14Rack_ok (t : List (List Int)) (m : Int) (f : List (List Int)) (hpre : (l14Rack_p t m f).pre) : l14Rack_V t m f := by
  simp only [l14Rack_p, l14Rack_V, BrP_iff, true_and, and_true, decide_eq_true_eq, decide_eq_false_iff_not, bne_iff_ne, beq_iff_eq, bne_eq_false_iff_eq, beq_eq_false_iff_ne, Bool.not_eq_true, Bool.not_eq_false, Bool.not_true, Bool.not_false, Bool.not_eq_eq_eq_not, Int.toNat_natCast, List.length_append, List.length_take, List.length_replicate, List.length_set, List.length_map, List.length_drop, List.length_nil, List.length_cons, markL_length, inB, InR, room, bdsOk] at hpre ⊢
  obtain ⟨hp1, hp2⟩ := hpre
  obtain ⟨n1, n2, ht⟩ := tabB_of hp1
  obtain ⟨m1, m2, m3, hf⟩ := matB_of hp2
  refine ⟨⟨0, ⟨by omega, rfl⟩, rfl⟩, fun i ⟨hi, hx⟩ => ⟨fun h => ⟨⟨0, ⟨by omega, by omega, ?_⟩, rfl⟩, fun j ⟨hj, _, hy⟩ => ⟨fun h2 => ⟨⟨0, ⟨by omega, by omega, ?_⟩, rfl⟩, fun k ⟨hk, _, hz⟩ => ⟨fun h3 => ?_, fun h3 => ?_⟩⟩, fun h2 => ?_⟩⟩, fun h => ?_⟩⟩
  · rw [hx, firstO_step _ _ i (by omega)]; rfl
  · rw [hy, firstO_step _ _ j (by omega)]; rfl
  · skip
    have a := ht i (by omega)
    have b := ht j (by omega)
    have c := b.2 k (by omega)
    have d := a.2 j (by omega)
    have e := a.2 k (by omega)
    have fi := hf i (by omega)
    have fj := hf j (by omega)
    have fd := hf ((t.getD i []).getD j 0).toNat (by omega)
    have g1 := fj.2 k (by omega)
    have g2 := fi.2 ((t.getD j []).getD k 0).toNat (by omega)
    have g3 := fi.2 k (by omega)
    have g4 := fd.2 ((t.getD i []).getD k 0).toNat (by omega)
    refine ⟨by omega, by omega, by omega, by omega, by omega, by omega, by omega, by omega, by omega, by omega, by omega, by omega, by omega, by omega, by omega, by omega, by omega, by omega, fun h4 => ?_, fun h4 => ⟨by omega, k + 1, ⟨by omega, by omega, ?_⟩, by omega, by omega⟩⟩
    · rw [hz, firstO_step _ _ k (by omega), show rcZ t m f i j k = some () from if_neg h4]; rfl
    · rw [hz, firstO_step _ _ k (by omega), show rcZ t m f i j k = none from if_pos h4]; rfl
  · refine ⟨by omega, j + 1, ⟨by omega, by omega, ?_⟩, by omega, by omega⟩
    rw [hz, show t.length - k = 0 by omega]; rfl
  · refine ⟨by omega, i + 1, ⟨by omega, ?_⟩, by omega, by omega⟩
    rw [hy, show t.length - j = 0 by omega]; rfl
  · rw [hx, show t.length - i = 0 by omega]; rfl
theorem l14Rack_fits : Fits Try.prog 66 ⟨[], l14Rack_ct⟩ := by
  refine fits_fn (Γ := gam l14Rack_G) gok_nil Try.func66 (by kernel_rfl) (by kernel_rfl) (by kernel_rfl) fun ds p h hp => ?_
  unfold l14Rack_ct at h
  split at h
  · cases h
    exact ⟨noWr, l14Rack_ann _ _ _ , by rw [l14Rack_vc]; exact l14Rack_ok _ _ _  hp⟩
  · cases h

def isRackCocycle_p (t : List (List Int)) (m : Int) (f : List (List Int)) : Post := ⟨tabB t = true ∧ matB (t.length : Int) m f = true, .c (.bool ((rcF t m f).isNone)), []⟩
def isRackCocycle_ct : List AD → Option Post
  | [.c (.rows .i64 (t)), .c (.int .i64 (m)), .c (.rows .i64 (f))] => some (isRackCocycle_p t m f)
  | _ => none
def isRackCocycle_ann (t : List (List Int)) (m : Int) (f : List (List Int)) : Nat → Option Ann
  | 0 => some (Ann.mk ((Nat)) (fun i => ⟨[(0, .c (.ro (.rows .i64 (t)))), (1, .c (.int .i64 (m))), (2, .c (.ro (.rows .i64 (f)))), (14, .c (.int .i64 ((t.length : Int)))), (15, .c (.int .i64 ((i : Int))))], []⟩) (fun i => i ≤ t.length ∧ rcF t m f = firstO t.length (rcX t m f) (t.length - i)) (fun i => t.length - i) (fun i => fun b_ => match b_ with | 2 => some (Ann.mk ((Nat)) (fun j => ⟨[(0, .c (.ro (.rows .i64 (t)))), (1, .c (.int .i64 (m))), (2, .c (.ro (.rows .i64 (f)))), (14, .c (.int .i64 ((t.length : Int)))), (15, .c (.int .i64 ((i : Int)))), (7, .c (.int .i64 ((i : Int)))), (21, .c (.ro (.ints .i64 ((t.getD i []))))), (22, .c (.int .i64 ((t.length : Int)))), (23, .c (.int .i64 ((j : Int))))], []⟩) (fun j => j ≤ t.length ∧ i < t.length ∧ rcF t m f = (firstO t.length (rcY t m f i) (t.length - j)).or (firstO t.length (rcX t m f) (t.length - (i + 1)))) (fun j => t.length - j) (fun j => fun b_ => match b_ with | 4 => some (Ann.mk ((Nat)) (fun k => ⟨[(0, .c (.ro (.rows .i64 (t)))), (1, .c (.int .i64 (m))), (2, .c (.ro (.rows .i64 (f)))), (14, .c (.int .i64 ((t.length : Int)))), (15, .c (.int .i64 ((i : Int)))), (7, .c (.int .i64 ((i : Int)))), (21, .c (.ro (.ints .i64 ((t.getD i []))))), (22, .c (.int .i64 ((t.length : Int)))), (23, .c (.int .i64 ((j : Int)))), (8, .c (.int .i64 ((j : Int)))), (9, .c (.int .i64 ((t.getD i []).getD j 0))), (31, .c (.ro (.ints .i64 ((t.getD i []))))), (32, .c (.int .i64 ((t.length : Int)))), (33, .c (.int .i64 ((k : Int))))], []⟩) (fun k => k ≤ t.length ∧ j < t.length ∧ rcF t m f = ((firstO t.length (rcZ t m f i j) (t.length - k)).or (firstO t.length (rcY t m f i) (t.length - (j + 1)))).or (firstO t.length (rcX t m f) (t.length - (i + 1)))) (fun k => t.length - k) (fun _ => noAnn)) | _ => none)) | _ => none))
  | _ => none
def isRackCocycle_G : List (Nat × Ctr) := []
def isRackCocycle_V (t : List (List Int)) (m : Int) (f : List (List Int)) : Prop :=
  ((∃ x0 : Nat, (((x0 ≤ List.length t) ∧
 (rcF t m f = firstO (List.length t) (rcX t m f) (List.length t - x0))) ∧
 ((t = t) ∧
 ((m = m) ∧
 ((f = f) ∧
 (((↑(List.length t) : Int) = (↑(List.length t) : Int)) ∧
 ((0 : Int) = (↑x0 : Int)))))))) ∧
 (∀ x1 : Nat, (((x1 ≤ List.length t) ∧
 (rcF t m f = firstO (List.length t) (rcX t m f) (List.length t - x1))) →
 (BrP (Decidable.decide ((↑x1 : Int) < (↑(List.length t) : Int)))
 ((inB (↑x1 : Int) (List.length t)) ∧
 ((∃ x2 : Nat, (((x2 ≤ List.length t) ∧
 ((x1 < List.length t) ∧
 (rcF t m f = Option.or (firstO (List.length t) (rcY t m f x1) (List.length t - x2)) (firstO (List.length t) (rcX t m f) (List.length t - (x1 + (1 : Nat))))))) ∧
 ((t = t) ∧
 ((m = m) ∧
 ((f = f) ∧
 (((↑(List.length t) : Int) = (↑(List.length t) : Int)) ∧
 (((↑x1 : Int) = (↑x1 : Int)) ∧
 (((↑x1 : Int) = (↑x1 : Int)) ∧
 ((List.getD t (Int.toNat (↑x1 : Int)) [] = List.getD t x1 []) ∧
 (((↑(List.length (List.getD t (Int.toNat (↑x1 : Int)) [])) : Int) = (↑(List.length t) : Int)) ∧
 ((0 : Int) = (↑x2 : Int)))))))))))) ∧
 (∀ x3 : Nat, (((x3 ≤ List.length t) ∧
 ((x1 < List.length t) ∧
 (rcF t m f = Option.or (firstO (List.length t) (rcY t m f x1) (List.length t - x3)) (firstO (List.length t) (rcX t m f) (List.length t - (x1 + (1 : Nat))))))) →
 (BrP (Decidable.decide ((↑x3 : Int) < (↑(List.length t) : Int)))
 ((inB (↑x3 : Int) (List.length (List.getD t x1 []))) ∧
 ((inB (↑x1 : Int) (List.length t)) ∧
 ((∃ x4 : Nat, (((x4 ≤ List.length t) ∧
 ((x3 < List.length t) ∧
 (rcF t m f = Option.or (Option.or (firstO (List.length t) (rcZ t m f x1 x3) (List.length t - x4)) (firstO (List.length t) (rcY t m f x1) (List.length t - (x3 + (1 : Nat))))) (firstO (List.length t) (rcX t m f) (List.length t - (x1 + (1 : Nat))))))) ∧
 ((t = t) ∧
 ((m = m) ∧
 ((f = f) ∧
 (((↑(List.length t) : Int) = (↑(List.length t) : Int)) ∧
 (((↑x1 : Int) = (↑x1 : Int)) ∧
 (((↑x1 : Int) = (↑x1 : Int)) ∧
 ((List.getD t x1 [] = List.getD t x1 []) ∧
 (((↑(List.length t) : Int) = (↑(List.length t) : Int)) ∧
 (((↑x3 : Int) = (↑x3 : Int)) ∧
 (((↑x3 : Int) = (↑x3 : Int)) ∧
 ((List.getD (List.getD t x1 []) (Int.toNat (↑x3 : Int)) (0 : Int) = List.getD (List.getD t x1 []) x3 (0 : Int)) ∧
 ((List.getD t (Int.toNat (↑x1 : Int)) [] = List.getD t x1 []) ∧
 (((↑(List.length (List.getD t (Int.toNat (↑x1 : Int)) [])) : Int) = (↑(List.length t) : Int)) ∧
 ((0 : Int) = (↑x4 : Int))))))))))))))))) ∧
 (∀ x5 : Nat, (((x5 ≤ List.length t) ∧
 ((x3 < List.length t) ∧
 (rcF t m f = Option.or (Option.or (firstO (List.length t) (rcZ t m f x1 x3) (List.length t - x5)) (firstO (List.length t) (rcY t m f x1) (List.length t - (x3 + (1 : Nat))))) (firstO (List.length t) (rcX t m f) (List.length t - (x1 + (1 : Nat))))))) →
 (BrP (Decidable.decide ((↑x5 : Int) < (↑(List.length t) : Int)))
 ((inB (↑x5 : Int) (List.length (List.getD t x1 []))) ∧
 ((inB (↑x3 : Int) (List.length t)) ∧
 ((inB (↑x5 : Int) (List.length (List.getD t (Int.toNat (↑x3 : Int)) []))) ∧
 ((inB (↑x3 : Int) (List.length f)) ∧
 ((inB (↑x5 : Int) (List.length (List.getD f (Int.toNat (↑x3 : Int)) []))) ∧
 ((inB (↑x1 : Int) (List.length f)) ∧
 ((inB (List.getD (List.getD t (Int.toNat (↑x3 : Int)) []) (Int.toNat (↑x5 : Int)) (0 : Int)) (List.length (List.getD f (Int.toNat (↑x1 : Int)) []))) ∧
 ((InR (List.getD (List.getD f (Int.toNat (↑x3 : Int)) []) (Int.toNat (↑x5 : Int)) (0 : Int) + List.getD (List.getD f (Int.toNat (↑x1 : Int)) []) (Int.toNat (List.getD (List.getD t (Int.toNat (↑x3 : Int)) []) (Int.toNat (↑x5 : Int)) (0 : Int))) (0 : Int))) ∧
 ((inB (↑x1 : Int) (List.length f)) ∧
 ((inB (↑x5 : Int) (List.length (List.getD f (Int.toNat (↑x1 : Int)) []))) ∧
 ((InR (List.getD (List.getD f (Int.toNat (↑x3 : Int)) []) (Int.toNat (↑x5 : Int)) (0 : Int) + List.getD (List.getD f (Int.toNat (↑x1 : Int)) []) (Int.toNat (List.getD (List.getD t (Int.toNat (↑x3 : Int)) []) (Int.toNat (↑x5 : Int)) (0 : Int))) (0 : Int) - List.getD (List.getD f (Int.toNat (↑x1 : Int)) []) (Int.toNat (↑x5 : Int)) (0 : Int))) ∧
 ((inB (List.getD (List.getD t x1 []) x3 (0 : Int)) (List.length f)) ∧
 ((inB (List.getD (List.getD t x1 []) (Int.toNat (↑x5 : Int)) (0 : Int)) (List.length (List.getD f (Int.toNat (List.getD (List.getD t x1 []) x3 (0 : Int))) []))) ∧
 ((InR (List.getD (List.getD f (Int.toNat (↑x3 : Int)) []) (Int.toNat (↑x5 : Int)) (0 : Int) + List.getD (List.getD f (Int.toNat (↑x1 : Int)) []) (Int.toNat (List.getD (List.getD t (Int.toNat (↑x3 : Int)) []) (Int.toNat (↑x5 : Int)) (0 : Int))) (0 : Int) - List.getD (List.getD f (Int.toNat (↑x1 : Int)) []) (Int.toNat (↑x5 : Int)) (0 : Int) - List.getD (List.getD f (Int.toNat (List.getD (List.getD t x1 []) x3 (0 : Int))) []) (Int.toNat (List.getD (List.getD t x1 []) (Int.toNat (↑x5 : Int)) (0 : Int))) (0 : Int))) ∧
 ((m ≠ (0 : Int)) ∧
 (BrP (Int.tmod (List.getD (List.getD f (Int.toNat (↑x3 : Int)) []) (Int.toNat (↑x5 : Int)) (0 : Int) + List.getD (List.getD f (Int.toNat (↑x1 : Int)) []) (Int.toNat (List.getD (List.getD t (Int.toNat (↑x3 : Int)) []) (Int.toNat (↑x5 : Int)) (0 : Int))) (0 : Int) - List.getD (List.getD f (Int.toNat (↑x1 : Int)) []) (Int.toNat (↑x5 : Int)) (0 : Int) - List.getD (List.getD f (Int.toNat (List.getD (List.getD t x1 []) x3 (0 : Int))) []) (Int.toNat (List.getD (List.getD t x1 []) (Int.toNat (↑x5 : Int)) (0 : Int))) (0 : Int)) m != (0 : Int))
 ((Bool.false = Option.isNone (rcF t m f)) ∧
 (True))
 ((InR ((↑x5 : Int) + (1 : Int))) ∧
 (∃ x6 : Nat, (((x6 ≤ List.length t) ∧
 ((x3 < List.length t) ∧
 (rcF t m f = Option.or (Option.or (firstO (List.length t) (rcZ t m f x1 x3) (List.length t - x6)) (firstO (List.length t) (rcY t m f x1) (List.length t - (x3 + (1 : Nat))))) (firstO (List.length t) (rcX t m f) (List.length t - (x1 + (1 : Nat))))))) ∧
 ((List.length t - x6 < List.length t - x5) ∧
 ((t = t) ∧
 ((m = m) ∧
 ((f = f) ∧
 (((↑(List.length t) : Int) = (↑(List.length t) : Int)) ∧
 (((↑x1 : Int) = (↑x1 : Int)) ∧
 (((↑x1 : Int) = (↑x1 : Int)) ∧
 ((List.getD t x1 [] = List.getD t x1 []) ∧
 (((↑(List.length t) : Int) = (↑(List.length t) : Int)) ∧
 (((↑x3 : Int) = (↑x3 : Int)) ∧
 (((↑x3 : Int) = (↑x3 : Int)) ∧
 ((List.getD (List.getD t x1 []) x3 (0 : Int) = List.getD (List.getD t x1 []) x3 (0 : Int)) ∧
 ((List.getD t x1 [] = List.getD t x1 []) ∧
 (((↑(List.length t) : Int) = (↑(List.length t) : Int)) ∧
 ((↑x5 : Int) + (1 : Int) = (↑x6 : Int)))))))))))))))))))))))))))))))))))
 ((InR ((↑x3 : Int) + (1 : Int))) ∧
 (∃ x7 : Nat, (((x7 ≤ List.length t) ∧
 ((x1 < List.length t) ∧
 (rcF t m f = Option.or (firstO (List.length t) (rcY t m f x1) (List.length t - x7)) (firstO (List.length t) (rcX t m f) (List.length t - (x1 + (1 : Nat))))))) ∧
 ((List.length t - x7 < List.length t - x3) ∧
 ((t = t) ∧
 ((m = m) ∧
 ((f = f) ∧
 (((↑(List.length t) : Int) = (↑(List.length t) : Int)) ∧
 (((↑x1 : Int) = (↑x1 : Int)) ∧
 (((↑x1 : Int) = (↑x1 : Int)) ∧
 ((List.getD t x1 [] = List.getD t x1 []) ∧
 (((↑(List.length t) : Int) = (↑(List.length t) : Int)) ∧
 ((↑x3 : Int) + (1 : Int) = (↑x7 : Int))))))))))))))))))))
 ((InR ((↑x1 : Int) + (1 : Int))) ∧
 (∃ x8 : Nat, (((x8 ≤ List.length t) ∧
 (rcF t m f = firstO (List.length t) (rcX t m f) (List.length t - x8))) ∧
 ((List.length t - x8 < List.length t - x1) ∧
 ((t = t) ∧
 ((m = m) ∧
 ((f = f) ∧
 (((↑(List.length t) : Int) = (↑(List.length t) : Int)) ∧
 ((↑x1 : Int) + (1 : Int) = (↑x8 : Int)))))))))))))))
 ((Bool.true = Option.isNone (rcF t m f)) ∧
 (True))))))
theorem isRackCocycle_vc (t : List (List Int)) (m : Int) (f : List (List Int)) : runF Try.prog (gam isRackCocycle_G) noWr (isRackCocycle_ann t m f) Try.f64 (bodyOf Try.f64) [] [.c (.rows .i64 (t)), .c (.int .i64 (m)), .c (.rows .i64 (f))] (isRackCocycle_p t m f) = isRackCocycle_V t m f := by kernel_rfl
theorem isRackCocycle_ok (t : List (List Int)) (m : Int) (f : List (List Int)) (hpre : (isRackCocycle_p t m f).pre) : isRackCocycle_V t m f := by
  simp only [isRackCocycle_p, isRackCocycle_V, BrP_iff, true_and, and_true, decide_eq_true_eq, decide_eq_false_iff_not, bne_iff_ne, beq_iff_eq, bne_eq_false_iff_eq, beq_eq_false_iff_ne, Bool.not_eq_true, Bool.not_eq_false, Bool.not_true, Bool.not_false, Bool.not_eq_eq_eq_not, Int.toNat_natCast, List.length_append, List.length_take, List.length_replicate, List.length_set, List.length_map, List.length_drop, List.length_nil, List.length_cons, markL_length, inB, InR, room, bdsOk] at hpre ⊢
  obtain ⟨hp1, hp2⟩ := hpre
  obtain ⟨n1, n2, ht⟩ := tabB_of hp1
  obtain ⟨m1, m2, m3, hf⟩ := matB_of hp2
  refine ⟨⟨0, ⟨by omega, rfl⟩, rfl⟩, fun i ⟨hi, hx⟩ => ⟨fun h => ⟨by omega, ⟨0, ⟨by omega, by omega, ?_⟩, by have := ht i (by omega); omega, rfl⟩, fun j ⟨hj, _, hy⟩ => ⟨fun h2 => ⟨by have := ht i (by omega); omega, by omega, ⟨0, ⟨by omega, by omega, ?_⟩, by have := ht i (by omega); omega, rfl⟩, fun k ⟨hk, _, hz⟩ => ⟨fun h3 => ?_, fun h3 => ?_⟩⟩, fun h2 => ?_⟩⟩, fun h => ?_⟩⟩
  · rw [hx, firstO_step _ _ i (by omega)]; rfl
  · rw [hy, firstO_step _ _ j (by omega)]; rfl
  · skip
    have a := ht i (by omega)
    have b := ht j (by omega)
    have c := b.2 k (by omega)
    have d := a.2 j (by omega)
    have e := a.2 k (by omega)
    have fi := hf i (by omega)
    have fj := hf j (by omega)
    have fd := hf ((t.getD i []).getD j 0).toNat (by omega)
    have g1 := fj.2 k (by omega)
    have g2 := fi.2 ((t.getD j []).getD k 0).toNat (by omega)
    have g3 := fi.2 k (by omega)
    have g4 := fd.2 ((t.getD i []).getD k 0).toNat (by omega)
    have key := tmod_sub (a := (f.getD j []).getD k 0 + (f.getD i []).getD ((t.getD j []).getD k 0).toNat 0) (b := (f.getD i []).getD k 0 + (f.getD ((t.getD i []).getD j 0).toNat []).getD ((t.getD i []).getD k 0).toNat 0) (m := m) (by omega) (by omega) m1
    rw [← Int.sub_sub] at key
    refine ⟨by omega, by omega, by omega, by omega, by omega, by omega, by omega, by omega, by omega, by omega, by omega, by omega, by omega, by omega, by omega, fun h4 => ?_, fun h4 => ⟨by omega, k + 1, ⟨by omega, by omega, ?_⟩, by omega, by omega⟩⟩
    · rw [hz, firstO_step _ _ k (by omega), show rcZ t m f i j k = some () from if_neg fun e => h4 (key.1 e)]; rfl
    · rw [hz, firstO_step _ _ k (by omega), show rcZ t m f i j k = none from if_pos (key.2 h4)]; rfl
  · refine ⟨by omega, j + 1, ⟨by omega, by omega, ?_⟩, by omega, by omega⟩
    rw [hz, show t.length - k = 0 by omega]; rfl
  · refine ⟨by omega, i + 1, ⟨by omega, ?_⟩, by omega, by omega⟩
    rw [hy, show t.length - j = 0 by omega]; rfl
  · rw [hx, show t.length - i = 0 by omega]; rfl
theorem isRackCocycle_fits : Fits Try.prog 64 ⟨[], isRackCocycle_ct⟩ := by
  refine fits_fn (Γ := gam isRackCocycle_G) gok_nil Try.func64 (by kernel_rfl) (by kernel_rfl) (by kernel_rfl) fun ds p h hp => ?_
  unfold isRackCocycle_ct at h
  split at h
  · cases h
    exact ⟨noWr, isRackCocycle_ann _ _ _ , by rw [isRackCocycle_vc]; exact isRackCocycle_ok _ _ _  hp⟩
  · cases h

def rcC (t : List (List Int)) (m : Int) (f : List (List Int)) : Bool × Int := if rackB t = true then (if matB (t.length : Int) m f = true then ((rcF t m f).isNone, 0) else (false, 2)) else (false, 1)

def sIsRC_p (t : List (List Int)) (m : Int) (f : List (List Int)) : Post := ⟨roomR t ∧ roomR f, .tup [.inl (.bool ((rcC t m f).1)), .inl (.int .i64 ((rcC t m f).2))], []⟩
def sIsRC_ct : List AD → Option Post
  | [.agg [.rows .i64 (t)], .c (.int .i64 (m)), .c (.rows .i64 (f))] => some (sIsRC_p t m f)
  | _ => none
def sIsRC_G : List (Nat × Ctr) := [(41, ⟨[], l03Is_ct⟩), (71, ⟨[], l14Code_ct⟩), (66, ⟨[], l14Rack_ct⟩)]
def sIsRC_V (t : List (List Int)) (m : Int) (f : List (List Int)) : Prop :=
  (((roomR t) ∧
 (True)) ∧
 (BrP (!rackB t)
 (((Bool.false = Prod.fst (rcC t m f)) ∧
 (((1 : Int) = Prod.snd (rcC t m f)) ∧
 (True))) ∧
 (True))
 (((roomR f) ∧
 (True)) ∧
 (BrP ((if matB (↑(List.length t) : Int) m f = Bool.true then (0 : Int) else (2 : Int)) != (0 : Int))
 (((Bool.false = Prod.fst (rcC t m f)) ∧
 (((if matB (↑(List.length t) : Int) m f = Bool.true then (0 : Int) else (2 : Int)) = Prod.snd (rcC t m f)) ∧
 (True))) ∧
 (True))
 ((((tabB t = Bool.true) ∧
 (matB (↑(List.length t) : Int) m f = Bool.true)) ∧
 (True)) ∧
 (((Option.isNone (rcF t m f) = Prod.fst (rcC t m f)) ∧
 (((0 : Int) = Prod.snd (rcC t m f)) ∧
 (True))) ∧
 (True)))))))
theorem sIsRC_vc (t : List (List Int)) (m : Int) (f : List (List Int)) : runF Try.prog (gam sIsRC_G) noWr noAnn Try.f24 (bodyOf Try.f24) [] [.agg [.rows .i64 (t)], .c (.int .i64 (m)), .c (.rows .i64 (f))] (sIsRC_p t m f) = sIsRC_V t m f := by kernel_rfl
theorem sIsRC_ok (t : List (List Int)) (m : Int) (f : List (List Int)) (hpre : (sIsRC_p t m f).pre) : sIsRC_V t m f := by
  simp only [sIsRC_p, sIsRC_V, BrP_iff, true_and, and_true, decide_eq_true_eq, decide_eq_false_iff_not, bne_iff_ne, beq_iff_eq, bne_eq_false_iff_eq, beq_eq_false_iff_ne, Bool.not_eq_true, Bool.not_eq_false, Bool.not_true, Bool.not_false, Bool.not_eq_eq_eq_not, Int.toNat_natCast, List.length_append, List.length_take, List.length_replicate, List.length_set, List.length_map, List.length_drop, List.length_nil, List.length_cons, markL_length, inB, InR, room, bdsOk] at hpre ⊢
  refine ⟨hpre.1, fun h => by simp [rcC, h], fun h => ⟨hpre.2, fun h2 => ?_, fun h2 => ?_⟩⟩
  · have hm : ¬ matB (t.length : Int) m f = true := fun e => h2 (if_pos e)
    rw [if_neg hm, rcC, if_pos h, if_neg hm]
    exact ⟨rfl, rfl⟩
  · have hm : matB (t.length : Int) m f = true := by
      split at h2
      · assumption
      · omega
    rw [rcC, if_pos h, if_pos hm]
    exact ⟨⟨rackB_tab h, hm⟩, rfl, rfl⟩
theorem sIsRC_fits : Fits Try.prog 24 ⟨[], sIsRC_ct⟩ := by
  refine fits_fn (Γ := gam sIsRC_G) (gok_cons l03Is_fits (gok_cons l14Code_fits (gok_cons l14Rack_fits gok_nil))) Try.func24 (by kernel_rfl) (by kernel_rfl) (by kernel_rfl) fun ds p h hp => ?_
  unfold sIsRC_ct at h
  split at h
  · cases h
    exact ⟨noWr, noAnn, by rw [sIsRC_vc]; exact sIsRC_ok _ _ _  hp⟩
  · cases h

def iIsRC_p (t : List (List Int)) (m : Int) (f : List (List Int)) : Post := ⟨roomR t ∧ roomR f, .tup [.inl (.bool ((rcC t m f).1)), .inl (.int .i64 ((rcC t m f).2))], []⟩
def iIsRC_ct : List AD → Option Post
  | [.agg [.rows .i64 (t)], .c (.int .i64 (m)), .c (.rows .i64 (f))] => some (iIsRC_p t m f)
  | _ => none
def iIsRC_G : List (Nat × Ctr) := [(26, ⟨[], IsRack_ct⟩), (68, ⟨[], isMatrix_ct⟩), (64, ⟨[], isRackCocycle_ct⟩)]
def iIsRC_V (t : List (List Int)) (m : Int) (f : List (List Int)) : Prop :=
  (((roomR t) ∧
 (True)) ∧
 (BrP (!rackB t)
 (((Bool.false = Prod.fst (rcC t m f)) ∧
 (((1 : Int) = Prod.snd (rcC t m f)) ∧
 (True))) ∧
 (True))
 (((roomR f) ∧
 (True)) ∧
 (BrP (!matB (↑(List.length t) : Int) m f)
 (((Bool.false = Prod.fst (rcC t m f)) ∧
 (((2 : Int) = Prod.snd (rcC t m f)) ∧
 (True))) ∧
 (True))
 ((((tabB t = Bool.true) ∧
 (matB (↑(List.length t) : Int) m f = Bool.true)) ∧
 (True)) ∧
 (((Option.isNone (rcF t m f) = Prod.fst (rcC t m f)) ∧
 (((0 : Int) = Prod.snd (rcC t m f)) ∧
 (True))) ∧
 (True)))))))
theorem iIsRC_vc (t : List (List Int)) (m : Int) (f : List (List Int)) : runF Try.prog (gam iIsRC_G) noWr noAnn Try.f23 (bodyOf Try.f23) [] [.agg [.rows .i64 (t)], .c (.int .i64 (m)), .c (.rows .i64 (f))] (iIsRC_p t m f) = iIsRC_V t m f := by kernel_rfl
theorem iIsRC_ok (t : List (List Int)) (m : Int) (f : List (List Int)) (hpre : (iIsRC_p t m f).pre) : iIsRC_V t m f := by
  simp only [iIsRC_p, iIsRC_V, BrP_iff, true_and, and_true, decide_eq_true_eq, decide_eq_false_iff_not, bne_iff_ne, beq_iff_eq, bne_eq_false_iff_eq, beq_eq_false_iff_ne, Bool.not_eq_true, Bool.not_eq_false, Bool.not_true, Bool.not_false, Bool.not_eq_eq_eq_not, Int.toNat_natCast, List.length_append, List.length_take, List.length_replicate, List.length_set, List.length_map, List.length_drop, List.length_nil, List.length_cons, markL_length, inB, InR, room, bdsOk] at hpre ⊢
  refine ⟨hpre.1, fun h => by simp [rcC, h], fun h => ⟨hpre.2, fun h2 => by simp [rcC, h, h2], fun hm => ?_⟩⟩
  rw [rcC, if_pos h, if_pos hm]
  exact ⟨⟨rackB_tab h, hm⟩, rfl, rfl⟩
theorem iIsRC_fits : Fits Try.prog 23 ⟨[], iIsRC_ct⟩ := by
  refine fits_fn (Γ := gam iIsRC_G) (gok_cons IsRack_fits (gok_cons isMatrix_fits (gok_cons isRackCocycle_fits gok_nil))) Try.func23 (by kernel_rfl) (by kernel_rfl) (by kernel_rfl) fun ds p h hp => ?_
  unfold iIsRC_ct at h
  split at h
  · cases h
    exact ⟨noWr, noAnn, by rw [iIsRC_vc]; exact iIsRC_ok _ _ _  hp⟩
  · cases h


end Go.Sx
