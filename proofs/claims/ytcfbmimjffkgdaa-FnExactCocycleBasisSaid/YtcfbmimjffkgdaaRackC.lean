/- RackC -/
import Derived.Test.YtcfbmimjffkgdaaRack
open Go Go.Proofs
namespace Go.Sx
set_option linter.unusedSimpArgs false
set_option linter.unusedVariables false

def szRack_p (l : List (List Int)) (k : Int) : Post := ⟨(l.length : Int) ≤ 9223372036854775807 ∧ (∀ r ∈ l, (r.length : Int) ≤ 9223372036854775807) ∧ 0 ≤ k ∧ k ≤ 1099511627776, .c (.int .i64 (if k < (l.length : Int) + (sumL l : Int) then -1 else k - (l.length : Int) - (sumL l : Int))), []⟩
def szRack_ct : List AD → Option Post
  | [.agg [.rows .i64 (l)], .c (.int .i64 (k))] => some (szRack_p l k)
  | _ => none
def szRack_G : List (Nat × Ctr) := [(40, ⟨[], szInt64SS_ct⟩)]
def szRack_V (l : List (List Int)) (k : Int) : Prop :=
  (((((↑(List.length l) : Int) ≤ (9223372036854775807 : Int)) ∧
 ((∀ (r : List Int), r ∈ l → (↑(List.length r) : Int) ≤ (9223372036854775807 : Int)) ∧
 (((0 : Int) ≤ k) ∧
 (k ≤ (1099511627776 : Int))))) ∧
 (True)) ∧
 (BrP (Decidable.decide ((if k < (↑(List.length l) : Int) + (↑(sumL l) : Int) then (-1 : Int) else k - (↑(List.length l) : Int) - (↑(sumL l) : Int)) < (0 : Int)))
 (((-1 : Int) = if k < (↑(List.length l) : Int) + (↑(sumL l) : Int) then (-1 : Int) else k - (↑(List.length l) : Int) - (↑(sumL l) : Int)) ∧
 (True))
 (((if k < (↑(List.length l) : Int) + (↑(sumL l) : Int) then (-1 : Int) else k - (↑(List.length l) : Int) - (↑(sumL l) : Int)) = if k < (↑(List.length l) : Int) + (↑(sumL l) : Int) then (-1 : Int) else k - (↑(List.length l) : Int) - (↑(sumL l) : Int)) ∧
 (True))))
theorem szRack_vc (l : List (List Int)) (k : Int) : runF Try.prog (gam szRack_G) noWr noAnn Try.f7 (bodyOf Try.f7) [] [.agg [.rows .i64 (l)], .c (.int .i64 (k))] (szRack_p l k) = szRack_V l k := by kernel_rfl
theorem szRack_ok (l : List (List Int)) (k : Int) (hpre : (szRack_p l k).pre) : szRack_V l k := by
  simp only [szRack_p, szRack_V, BrP_iff, true_and, and_true, decide_eq_true_eq, decide_eq_false_iff_not, bne_iff_ne, beq_iff_eq, bne_eq_false_iff_eq, beq_eq_false_iff_ne, Bool.not_eq_true, Bool.not_eq_false, Bool.not_true, Bool.not_false, Bool.not_eq_eq_eq_not, Int.toNat_natCast, List.length_append, List.length_take, List.length_replicate, List.length_set, List.length_map, List.length_drop, List.length_nil, List.length_cons, markL_length, inB, InR, room, bdsOk] at hpre ⊢
  refine ⟨hpre, fun h => ?_, fun h => trivial⟩
  split at h
  · rename_i h1; rw [if_pos h1]
  · omega
theorem szRack_fits : Fits Try.prog 7 ⟨[], szRack_ct⟩ := by
  refine fits_fn (Γ := gam szRack_G) (gok_cons szInt64SS_fits gok_nil) Try.func7 (by kernel_rfl) (by kernel_rfl) (by kernel_rfl) fun ds p h hp => ?_
  unfold szRack_ct at h
  split at h
  · cases h
    exact ⟨noWr, noAnn, by rw [szRack_vc]; exact szRack_ok _ _  hp⟩
  · cases h

def toRack_p (l : List (List Int)) : Post := ⟨roomR l, .agg [.rows 46 2 .i64 (l)], []⟩
def toRack_ct : List AD → Option Post
  | [.agg [.rows .i64 (l)]] => some (toRack_p l)
  | _ => none
def toRack_G : List (Nat × Ctr) := [(49, ⟨[], toInt64SS_ct⟩)]
def toRack_V (l : List (List Int)) : Prop :=
  (((roomR l) ∧
 (True)) ∧
 (((l = l) ∧
 (True)) ∧
 (True)))
theorem toRack_vc (l : List (List Int)) : runF Try.prog (gam toRack_G) noWr noAnn Try.f9 (bodyOf Try.f9) [] [.agg [.rows .i64 (l)]] (toRack_p l) = toRack_V l := by kernel_rfl
theorem toRack_ok (l : List (List Int)) (hpre : (toRack_p l).pre) : toRack_V l := by
  simp only [toRack_p, toRack_V, BrP_iff, true_and, and_true, decide_eq_true_eq, decide_eq_false_iff_not, bne_iff_ne, beq_iff_eq, bne_eq_false_iff_eq, beq_eq_false_iff_ne, Bool.not_eq_true, Bool.not_eq_false, Bool.not_true, Bool.not_false, Bool.not_eq_eq_eq_not, Int.toNat_natCast, List.length_append, List.length_take, List.length_replicate, List.length_set, List.length_map, List.length_drop, List.length_nil, List.length_cons, markL_length, inB, InR, room, bdsOk] at hpre ⊢
  exact hpre
theorem toRack_fits : Fits Try.prog 9 ⟨[], toRack_ct⟩ := by
  refine fits_fn (Γ := gam toRack_G) (gok_cons toInt64SS_fits gok_nil) Try.func9 (by kernel_rfl) (by kernel_rfl) (by kernel_rfl) fun ds p h hp => ?_
  unfold toRack_ct at h
  split at h
  · cases h
    exact ⟨noWr, noAnn, by rw [toRack_vc]; exact toRack_ok _  hp⟩
  · cases h

def eqRack_p (a : List (List Int)) (b : List (List Int)) : Post := ⟨roomR a, .c (.bool (decide (a = b))), []⟩
def eqRack_ct : List AD → Option Post
  | [.agg [.rows .i64 (a)], .agg [.rows .i64 (b)]] => some (eqRack_p a b)
  | _ => none
def eqRack_G : List (Nat × Ctr) := [(11, ⟨[], eqInt64SS_ct⟩)]
def eqRack_V (a : List (List Int)) (b : List (List Int)) : Prop :=
  (((roomR a) ∧
 (True)) ∧
 (BrP (!Decidable.decide (a = b))
 ((Bool.false = Decidable.decide (a = b)) ∧
 (True))
 ((Bool.true = Decidable.decide (a = b)) ∧
 (True))))
theorem eqRack_vc (a : List (List Int)) (b : List (List Int)) : runF Try.prog (gam eqRack_G) noWr noAnn Try.f12 (bodyOf Try.f12) [] [.agg [.rows .i64 (a)], .agg [.rows .i64 (b)]] (eqRack_p a b) = eqRack_V a b := by kernel_rfl
theorem eqRack_ok (a : List (List Int)) (b : List (List Int)) (hpre : (eqRack_p a b).pre) : eqRack_V a b := by
  simp only [eqRack_p, eqRack_V, BrP_iff, true_and, and_true, decide_eq_true_eq, decide_eq_false_iff_not, bne_iff_ne, beq_iff_eq, bne_eq_false_iff_eq, beq_eq_false_iff_ne, Bool.not_eq_true, Bool.not_eq_false, Bool.not_true, Bool.not_false, Bool.not_eq_eq_eq_not, Int.toNat_natCast, List.length_append, List.length_take, List.length_replicate, List.length_set, List.length_map, List.length_drop, List.length_nil, List.length_cons, markL_length, inB, InR, room, bdsOk] at hpre ⊢
  exact ⟨hpre, fun h => (decide_eq_false h).symm, fun h => (decide_eq_true h).symm⟩
theorem eqRack_fits : Fits Try.prog 12 ⟨[], eqRack_ct⟩ := by
  refine fits_fn (Γ := gam eqRack_G) (gok_cons eqInt64SS_fits gok_nil) Try.func12 (by kernel_rfl) (by kernel_rfl) (by kernel_rfl) fun ds p h hp => ?_
  unfold eqRack_ct at h
  split at h
  · cases h
    exact ⟨noWr, noAnn, by rw [eqRack_vc]; exact eqRack_ok _ _  hp⟩
  · cases h


def rackB (t : List (List Int)) : Bool := tabB t && t.all permB && (rkF t).isNone

theorem rackB_tab {t : List (List Int)} (h : rackB t = true) : tabB t = true := by
  simp only [rackB, Bool.and_eq_true] at h
  exact h.1.1

theorem firstO_some {α : Type} {n : Nat} {q : Nat → Option α} {r : α} : ∀ {k : Nat}, firstO n q k = some r → ∃ i, q i = some r
  | 0, h => by cases h
  | k + 1, h => by
    simp only [firstO, Option.or_eq_some_iff] at h
    rcases h with h | ⟨_, h⟩
    · exact ⟨_, h⟩
    · exact firstO_some h

theorem rkF_len {t : List (List Int)} {l : List Int} (h : rkF t = some l) : l.length = 3 := by
  obtain ⟨x, h⟩ := firstO_some h
  obtain ⟨y, h⟩ := firstO_some h
  obtain ⟨z, h⟩ := firstO_some h
  unfold rkZ at h
  split at h
  · cases h
  · cases h; rfl

theorem tmod_sub {a b m : Int} (ha : 0 ≤ a) (hb : 0 ≤ b) (hm : 1 ≤ m) : a.tmod m = b.tmod m ↔ (a - b).tmod m = 0 := by
  rw [Int.tmod_eq_emod_of_nonneg ha, Int.tmod_eq_emod_of_nonneg hb, Int.emod_eq_emod_iff_emod_sub_eq_zero]
  exact ⟨fun h => Int.tmod_eq_zero_of_dvd (Int.dvd_of_emod_eq_zero h), fun h => Int.emod_eq_zero_of_dvd (Int.dvd_of_tmod_eq_zero h)⟩

def l03Is_p (t : List (List Int)) : Post := ⟨roomR t, .c (.bool (rackB t)), []⟩
def l03Is_ct : List AD → Option Post
  | [.agg [.rows .i64 (t)]] => some (l03Is_p t)
  | _ => none
def l03Is_ann (t : List (List Int)) : Nat → Option Ann
  | 0 => some (Ann.mk ((Nat)) (fun i => ⟨[(1, .c (.ptr 1 0)), (3, .c (.int .i64 ((i : Int))))], [(1, some (.box [.ro (.rows .i64 (t))]))]⟩) (fun i => i ≤ t.length ∧ tabB t = true ∧ t.all permB = (t.drop i).all permB) (fun i => t.length - i) (fun _ => noAnn))
  | _ => none
def l03Is_G : List (Nat × Ctr) := [(93, ⟨[], l01Table_ct⟩), (94, ⟨[], l01Perm_ct⟩), (95, ⟨[], l03Fault_ct⟩)]
def l03Is_V (t : List (List Int)) : Prop :=
  (((roomR t) ∧
 (True)) ∧
 (BrP (!tabB t)
 ((Bool.false = rackB t) ∧
 (True))
 ((∃ x0 : Nat, (((x0 ≤ List.length t) ∧
 ((tabB t = Bool.true) ∧
 (List.all t permB = List.all (List.drop x0 t) permB))) ∧
 (((0 : Int) = (↑x0 : Int)) ∧
 (t = t)))) ∧
 (∀ x1 : Nat, (((x1 ≤ List.length t) ∧
 ((tabB t = Bool.true) ∧
 (List.all t permB = List.all (List.drop x1 t) permB))) →
 (BrP (Decidable.decide ((↑x1 : Int) < (↑(List.length t) : Int)))
 ((inB (↑x1 : Int) (List.length t)) ∧
 (((List.length (List.getD t (Int.toNat (↑x1 : Int)) []) ≤ (1099511627776 : Nat)) ∧
 (True)) ∧
 (BrP (!(Decidable.decide ((1 : Int) ≤ (↑(List.length (List.getD t (Int.toNat (↑x1 : Int)) [])) : Int) ∧ (↑(List.length (List.getD t (Int.toNat (↑x1 : Int)) [])) : Int) ≤ (12 : Int)) && permB (List.getD t (Int.toNat (↑x1 : Int)) [])))
 ((Bool.false = rackB t) ∧
 (True))
 ((InR ((↑x1 : Int) + (1 : Int))) ∧
 (∃ x2 : Nat, (((x2 ≤ List.length t) ∧
 ((tabB t = Bool.true) ∧
 (List.all t permB = List.all (List.drop x2 t) permB))) ∧
 ((List.length t - x2 < List.length t - x1) ∧
 (((↑x1 : Int) + (1 : Int) = (↑x2 : Int)) ∧
 (t = t)))))))))
 (((tabB t = Bool.true) ∧
 (True)) ∧
 ((((↑(List.length (Option.getD (rkF t) [])) : Int) == (0 : Int)) = rackB t) ∧
 (True)))))))))
theorem l03Is_vc (t : List (List Int)) : runF Try.prog (gam l03Is_G) noWr (l03Is_ann t) Try.f41 (bodyOf Try.f41) [] [.agg [.rows .i64 (t)]] (l03Is_p t) = l03Is_V t := by kernel_rfl
theorem l03Is_ok (t : List (List Int)) (hpre : (l03Is_p t).pre) : l03Is_V t := by
  simp only [l03Is_p, l03Is_V, BrP_iff, true_and, and_true, decide_eq_true_eq, decide_eq_false_iff_not, bne_iff_ne, beq_iff_eq, bne_eq_false_iff_eq, beq_eq_false_iff_ne, Bool.not_eq_true, Bool.not_eq_false, Bool.not_true, Bool.not_false, Bool.not_eq_eq_eq_not, Int.toNat_natCast, List.length_append, List.length_take, List.length_replicate, List.length_set, List.length_map, List.length_drop, List.length_nil, List.length_cons, markL_length, inB, InR, room, bdsOk] at hpre ⊢
  have h0 := hpre.1
  refine ⟨hpre, fun h => by rw [rackB, h]; rfl, fun h => ⟨⟨0, ⟨by omega, h, rfl⟩, rfl⟩, fun i ⟨hi, _, he⟩ => ⟨fun h2 => ?_, fun h2 => ⟨h, ?_⟩⟩⟩⟩
  · have hd := allG_drop [] permB (show i < t.length by omega)
    obtain ⟨n1, n2, ht⟩ := tabB_of h
    have hl := (ht i (by omega)).1
    refine ⟨by omega, roomR_get hpre i (by omega), fun h3 => ?_, fun h3 => ⟨by omega, i + 1, ⟨by omega, h, ?_⟩, by omega, by omega⟩⟩
    · rw [decide_eq_true (by omega), Bool.true_and] at h3
      rw [rackB, he, hd, h3]; simp
    · rw [decide_eq_true (by omega), Bool.true_and] at h3
      rw [he, hd, h3]; rfl
  · have ha : t.all permB = true := by rw [he, List.drop_of_length_le (by omega)]; rfl
    rw [rackB, h, ha]
    cases hf : rkF t with
    | none => rfl
    | some l =>
      have hl := rkF_len hf
      simp only [Option.getD_some, Option.isNone_some, Bool.and_false]
      rw [beq_eq_false_iff_ne]
      omega
theorem l03Is_fits : Fits Try.prog 41 ⟨[], l03Is_ct⟩ := by
  refine fits_fn (Γ := gam l03Is_G) (gok_cons l01Table_fits (gok_cons l01Perm_fits (gok_cons l03Fault_fits gok_nil))) Try.func41 (by kernel_rfl) (by kernel_rfl) (by kernel_rfl) fun ds p h hp => ?_
  unfold l03Is_ct at h
  split at h
  · cases h
    exact ⟨noWr, l03Is_ann _ , by rw [l03Is_vc]; exact l03Is_ok _  hp⟩
  · cases h

def IsRack_p (t : List (List Int)) : Post := ⟨roomR t, .c (.bool (rackB t)), []⟩
def IsRack_ct : List AD → Option Post
  | [.agg [.rows .i64 (t)]] => some (IsRack_p t)
  | _ => none
def IsRack_G : List (Nat × Ctr) := [(72, ⟨[], IsTable_ct⟩), (73, ⟨[], permutationRows_ct⟩), (74, ⟨[], rackFault_ct⟩)]
def IsRack_V (t : List (List Int)) : Prop :=
  (((roomR t) ∧
 (True)) ∧
 (BrP (tabB t)
 (((roomR t) ∧
 (True)) ∧
 (BrP (List.all t permB)
 (((tabB t = Bool.true) ∧
 (True)) ∧
 ((Option.isNone (rkF t) = rackB t) ∧
 (True)))
 ((Bool.false = rackB t) ∧
 (True))))
 ((Bool.false = rackB t) ∧
 (True))))
theorem IsRack_vc (t : List (List Int)) : runF Try.prog (gam IsRack_G) noWr noAnn Try.f26 (bodyOf Try.f26) [] [.agg [.rows .i64 (t)]] (IsRack_p t) = IsRack_V t := by kernel_rfl
theorem IsRack_ok (t : List (List Int)) (hpre : (IsRack_p t).pre) : IsRack_V t := by
  simp only [IsRack_p, IsRack_V, BrP_iff, true_and, and_true, decide_eq_true_eq, decide_eq_false_iff_not, bne_iff_ne, beq_iff_eq, bne_eq_false_iff_eq, beq_eq_false_iff_ne, Bool.not_eq_true, Bool.not_eq_false, Bool.not_true, Bool.not_false, Bool.not_eq_eq_eq_not, Int.toNat_natCast, List.length_append, List.length_take, List.length_replicate, List.length_set, List.length_map, List.length_drop, List.length_nil, List.length_cons, markL_length, inB, InR, room, bdsOk] at hpre ⊢
  refine ⟨hpre, fun h => ⟨hpre, fun h2 => ⟨h, ?_⟩, fun h2 => ?_⟩, fun h => ?_⟩
  · rw [rackB, h, h2]; rfl
  · rw [rackB, h2]; simp
  · rw [rackB, h]; rfl
theorem IsRack_fits : Fits Try.prog 26 ⟨[], IsRack_ct⟩ := by
  refine fits_fn (Γ := gam IsRack_G) (gok_cons IsTable_fits (gok_cons permutationRows_fits (gok_cons rackFault_fits gok_nil))) Try.func26 (by kernel_rfl) (by kernel_rfl) (by kernel_rfl) fun ds p h hp => ?_
  unfold IsRack_ct at h
  split at h
  · cases h
    exact ⟨noWr, noAnn, by rw [IsRack_vc]; exact IsRack_ok _  hp⟩
  · cases h

def rcZ (t : List (List Int)) (m : Int) (f : List (List Int)) (x y z : Nat) : Option Unit := if (en f y z + en f x (en t y z).toNat).tmod m = (en f x z + en f (en t x y).toNat (en t x z).toNat).tmod m then none else some ()
def rcY (t : List (List Int)) (m : Int) (f : List (List Int)) (x y : Nat) : Option Unit := firstO t.length (rcZ t m f x y) t.length
def rcX (t : List (List Int)) (m : Int) (f : List (List Int)) (x : Nat) : Option Unit := firstO t.length (rcY t m f x) t.length
def rcF (t : List (List Int)) (m : Int) (f : List (List Int)) : Option Unit := firstO t.length (rcX t m f) t.length





def rcC (t : List (List Int)) (m : Int) (f : List (List Int)) : Bool × Int := if rackB t = true then (if matB (t.length : Int) m f = true then ((rcF t m f).isNone, 0) else (false, 2)) else (false, 1)






end Go.Sx
