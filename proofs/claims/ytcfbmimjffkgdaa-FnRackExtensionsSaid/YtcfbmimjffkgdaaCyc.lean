/- Cyc -/
import Derived.Test.YtcfbmimjffkgdaaRackC
open Go Go.Proofs
namespace Go.Sx
set_option linter.unusedSimpArgs false
set_option linter.unusedVariables false

def cyZ (t : List (List Int)) (x y z : Nat) : Option (List Int) := if en t (en t x y).toNat (en t x z).toNat = en t (en t y x).toNat (en t y z).toNat then none else some [(x : Int), (y : Int), (z : Int)]
def cyY (t : List (List Int)) (x y : Nat) : Option (List Int) := firstO t.length (cyZ t x y) t.length
def cyX (t : List (List Int)) (x : Nat) : Option (List Int) := firstO t.length (cyY t x) t.length
def cyF (t : List (List Int)) : Option (List Int) := firstO t.length (cyX t) t.length

theorem cyF_len {t : List (List Int)} {l : List Int} (h : cyF t = some l) : l.length = 3 := by
  obtain ⟨x, h⟩ := firstO_some h
  obtain ⟨y, h⟩ := firstO_some h
  obtain ⟨z, h⟩ := firstO_some h
  unfold cyZ at h
  split at h
  · cases h
  · cases h; rfl



def l01Rows_p (t : List (List Int)) : Post := ⟨tabB t = true, .c (.bool (t.all permB)), []⟩
def l01Rows_ct : List AD → Option Post
  | [.c (.rows .i64 (t))] => some (l01Rows_p t)
  | _ => none
def l01Rows_ann (t : List (List Int)) : Nat → Option Ann
  | 0 => some (Ann.mk ((Nat)) (fun i => ⟨[(0, .c (.ro (.rows .i64 (t)))), (3, .c (.int .i64 ((i : Int))))], []⟩) (fun i => i ≤ t.length ∧ t.all permB = (t.drop i).all permB) (fun i => t.length - i) (fun _ => noAnn))
  | _ => none
def l01Rows_G : List (Nat × Ctr) := [(94, ⟨[], l01Perm_ct⟩)]
def l01Rows_V (t : List (List Int)) : Prop :=
  ((∃ x0 : Nat, (((x0 ≤ List.length t) ∧
 (List.all t permB = List.all (List.drop x0 t) permB)) ∧
 ((t = t) ∧
 ((0 : Int) = (↑x0 : Int))))) ∧
 (∀ x1 : Nat, (((x1 ≤ List.length t) ∧
 (List.all t permB = List.all (List.drop x1 t) permB)) →
 (BrP (Decidable.decide ((↑x1 : Int) < (↑(List.length t) : Int)))
 ((inB (↑x1 : Int) (List.length t)) ∧
 (((List.length (List.getD t (Int.toNat (↑x1 : Int)) []) ≤ (1099511627776 : Nat)) ∧
 (True)) ∧
 (BrP (!(Decidable.decide ((1 : Int) ≤ (↑(List.length (List.getD t (Int.toNat (↑x1 : Int)) [])) : Int) ∧ (↑(List.length (List.getD t (Int.toNat (↑x1 : Int)) [])) : Int) ≤ (12 : Int)) && permB (List.getD t (Int.toNat (↑x1 : Int)) [])))
 ((Bool.false = List.all t permB) ∧
 (True))
 ((InR ((↑x1 : Int) + (1 : Int))) ∧
 (∃ x2 : Nat, (((x2 ≤ List.length t) ∧
 (List.all t permB = List.all (List.drop x2 t) permB)) ∧
 ((List.length t - x2 < List.length t - x1) ∧
 ((t = t) ∧
 ((↑x1 : Int) + (1 : Int) = (↑x2 : Int))))))))))
 ((Bool.true = List.all t permB) ∧
 (True))))))
theorem l01Rows_vc (t : List (List Int)) : runF Try.prog (gam l01Rows_G) noWr (l01Rows_ann t) Try.f144 (bodyOf Try.f144) [] [.c (.rows .i64 (t))] (l01Rows_p t) = l01Rows_V t := by kernel_rfl
theorem l01Rows_ok (t : List (List Int)) (hpre : (l01Rows_p t).pre) : l01Rows_V t := by
  simp only [l01Rows_p, l01Rows_V, BrP_iff, true_and, and_true, decide_eq_true_eq, decide_eq_false_iff_not, bne_iff_ne, beq_iff_eq, bne_eq_false_iff_eq, beq_eq_false_iff_ne, Bool.not_eq_true, Bool.not_eq_false, Bool.not_true, Bool.not_false, Bool.not_eq_eq_eq_not, Int.toNat_natCast, List.length_append, List.length_take, List.length_replicate, List.length_set, List.length_map, List.length_drop, List.length_nil, List.length_cons, markL_length, inB, InR, room, bdsOk] at hpre ⊢
  obtain ⟨n1, n2, ht⟩ := tabB_of hpre
  refine ⟨⟨0, ⟨by omega, rfl⟩, rfl⟩, fun i ⟨hi, he⟩ => ⟨fun h2 => ?_, fun h2 => ?_⟩⟩
  · have hd := allG_drop [] permB (show i < t.length by omega)
    have hl := (ht i (by omega)).1
    refine ⟨by omega, by omega, fun h3 => ?_, fun h3 => ⟨by omega, i + 1, ⟨by omega, ?_⟩, by omega, by omega⟩⟩
    · rw [decide_eq_true (by omega), Bool.true_and] at h3
      rw [he, hd, h3]; rfl
    · rw [decide_eq_true (by omega), Bool.true_and] at h3
      rw [he, hd, h3]; rfl
  · rw [he, List.drop_of_length_le (by omega)]; rfl
theorem l01Rows_fits : Fits Try.prog 144 ⟨[], l01Rows_ct⟩ := by
  refine fits_fn (Γ := gam l01Rows_G) (gok_cons l01Perm_fits gok_nil) Try.func144 (by kernel_rfl) (by kernel_rfl) (by kernel_rfl) fun ds p h hp => ?_
  unfold l01Rows_ct at h
  split at h
  · cases h
    exact ⟨noWr, l01Rows_ann _ , by rw [l01Rows_vc]; exact l01Rows_ok _  hp⟩
  · cases h

def sqL (t : List (List Int)) : List Int := tab t.length fun x => en t x x



def cycB (t : List (List Int)) : Bool := tabB t && t.all permB && permB (sqL t) && (cyF t).isNone

theorem cycB_tab {t : List (List Int)} (h : cycB t = true) : tabB t = true := by
  simp only [cycB, Bool.and_eq_true] at h
  exact h.1.1.1

theorem sqL_length (t : List (List Int)) : (sqL t).length = t.length := tab_length _ _



def ccZ (t : List (List Int)) (m : Int) (f : List (List Int)) (x y z : Nat) : Option Unit := if (en f x z + en f (en t x y).toNat (en t x z).toNat).tmod m = (en f y z + en f (en t y x).toNat (en t y z).toNat).tmod m then none else some ()
def ccY (t : List (List Int)) (m : Int) (f : List (List Int)) (x y : Nat) : Option Unit := firstO t.length (ccZ t m f x y) t.length
def ccX (t : List (List Int)) (m : Int) (f : List (List Int)) (x : Nat) : Option Unit := firstO t.length (ccY t m f x) t.length
def ccF (t : List (List Int)) (m : Int) (f : List (List Int)) : Option Unit := firstO t.length (ccX t m f) t.length



def ccC (t : List (List Int)) (m : Int) (f : List (List Int)) : Bool × Int := if cycB t = true then (if matB (t.length : Int) m f = true then ((ccF t m f).isNone, 0) else (false, 2)) else (false, 1)







end Go.Sx
