/- Contracts of braces. -/
import Derived.Test.YtaipacgkkjkjdaaGrpC
open Go Go.Proofs
namespace Go.Sx
set_option linter.unusedSimpArgs false
set_option linter.unusedVariables false

/-- Two groups with equally many elements. -/
def twoG (a c : List (List Int)) : Prop := grpB a = true ∧ grpB c = true ∧ a.length = c.length

theorem twoG_in {a c : List (List Int)} (h : twoG a c) : 1 ≤ a.length ∧ a.length ≤ 12 ∧ c.length = a.length ∧
    (∀ x, x < a.length → (a.getD x []).length = a.length ∧ ∀ y, y < a.length → 0 ≤ (a.getD x []).getD y 0 ∧ (a.getD x []).getD y 0 ≤ (a.length : Int) - 1) ∧
    (∀ x, x < a.length → (c.getD x []).length = a.length ∧ ∀ y, y < a.length → 0 ≤ (c.getD x []).getD y 0 ∧ (c.getD x []).getD y 0 ≤ (a.length : Int) - 1) ∧
    (∀ x, x < a.length → 0 ≤ bk a x ∧ bk a x ≤ (a.length : Int) - 1) := by
  obtain ⟨h1, h2, h3⟩ := h
  obtain ⟨n1, n2, ha⟩ := tabB_of (grp_tab h1)
  obtain ⟨_, _, hc⟩ := tabB_of (grp_tab h2)
  rw [← h3] at hc
  exact ⟨n1, n2, h3.symm, ha, hc, fun x hx => bk_in h1 hx⟩

def l11Fault_p (a : List (List Int)) (c : List (List Int)) : Post := ⟨twoG a c, .c (.ints 2 .i64 ((brF a c).getD [])), []⟩
def l11Fault_ct : List AD → Option Post
  | [.agg [.rows .i64 (a), .rows .i64 (c)]] => some (l11Fault_p a c)
  | _ => none
def l11Fault_ann (a : List (List Int)) (c : List (List Int)) : Nat → Option Ann
  | 0 => some (Ann.mk ((Nat)) (fun i => ⟨[(1, .c (.ptr 1 0)), (3, .c (.int .i64 ((a.length : Int)))), (4, .c (.int .i64 ((i : Int))))], [(1, some (.box [.ro (.rows .i64 (a)), .ro (.rows .i64 (c))]))]⟩) (fun i => i ≤ a.length ∧ brF a c = firstO a.length (brX a c) (a.length - i)) (fun i => a.length - i) (fun i => fun b_ => match b_ with | 2 => some (Ann.mk ((Nat)) (fun j => ⟨[(1, .c (.ptr 1 0)), (3, .c (.int .i64 ((a.length : Int)))), (4, .c (.int .i64 ((i : Int)))), (5, .c (.int .i64 (bk a i))), (6, .c (.int .i64 ((j : Int))))], [(1, some (.box [.ro (.rows .i64 (a)), .ro (.rows .i64 (c))]))]⟩) (fun j => j ≤ a.length ∧ i < a.length ∧ brF a c = (firstO a.length (brY a c i) (a.length - j)).or (firstO a.length (brX a c) (a.length - (i + 1)))) (fun j => a.length - j) (fun j => fun b_ => match b_ with | 4 => some (Ann.mk ((Nat)) (fun k => ⟨[(1, .c (.ptr 1 0)), (3, .c (.int .i64 ((a.length : Int)))), (4, .c (.int .i64 ((i : Int)))), (5, .c (.int .i64 (bk a i))), (6, .c (.int .i64 ((j : Int)))), (7, .c (.int .i64 ((k : Int))))], [(1, some (.box [.ro (.rows .i64 (a)), .ro (.rows .i64 (c))]))]⟩) (fun k => k ≤ a.length ∧ j < a.length ∧ brF a c = ((firstO a.length (brZ a c i j) (a.length - k)).or (firstO a.length (brY a c i) (a.length - (j + 1)))).or (firstO a.length (brX a c) (a.length - (i + 1)))) (fun k => a.length - k) (fun _ => noAnn)) | _ => none)) | _ => none))
  | _ => none
def l11Fault_G : List (Nat × Ctr) := [(94, ⟨[], l10Back_ct⟩)]
def l11Fault_V (a : List (List Int)) (c : List (List Int)) : Prop :=
  ((∃ x0 : Nat, (((x0 ≤ List.length a) ∧
  (Go.Sx.brF a c = Go.Sx.firstO (List.length a) (Go.Sx.brX a c) (List.length a - x0))) ∧
  (((↑(List.length a) : Int) = (↑(List.length a) : Int)) ∧
  (((0 : Int) = (↑x0 : Int)) ∧
  ((a = a) ∧
  (c = c)))))) ∧
  (∀ x1 : Nat, (((x1 ≤ List.length a) ∧
  (Go.Sx.brF a c = Go.Sx.firstO (List.length a) (Go.Sx.brX a c) (List.length a - x1))) →
  (BrP (Decidable.decide ((↑x1 : Int) < (↑(List.length a) : Int)))
    ((((Go.Sx.tabB a = Bool.true) ∧
    (((0 : Int) ≤ (↑x1 : Int)) ∧
    ((↑x1 : Int) ≤ (↑(List.length a) : Int) - (1 : Int)))) ∧
    (True)) ∧
    ((∃ x2 : Nat, (((x2 ≤ List.length a) ∧
    ((x1 < List.length a) ∧
    (Go.Sx.brF a c = Option.or (Go.Sx.firstO (List.length a) (Go.Sx.brY a c x1) (List.length a - x2)) (Go.Sx.firstO (List.length a) (Go.Sx.brX a c) (List.length a - (x1 + (1 : Nat))))))) ∧
    (((↑(List.length a) : Int) = (↑(List.length a) : Int)) ∧
    (((↑x1 : Int) = (↑x1 : Int)) ∧
    ((Go.Sx.bk a (Int.toNat (↑x1 : Int)) = Go.Sx.bk a x1) ∧
    (((0 : Int) = (↑x2 : Int)) ∧
    ((a = a) ∧
    (c = c)))))))) ∧
    (∀ x3 : Nat, (((x3 ≤ List.length a) ∧
    ((x1 < List.length a) ∧
    (Go.Sx.brF a c = Option.or (Go.Sx.firstO (List.length a) (Go.Sx.brY a c x1) (List.length a - x3)) (Go.Sx.firstO (List.length a) (Go.Sx.brX a c) (List.length a - (x1 + (1 : Nat))))))) →
    (BrP (Decidable.decide ((↑x3 : Int) < (↑(List.length a) : Int)))
      ((∃ x4 : Nat, (((x4 ≤ List.length a) ∧
      ((x3 < List.length a) ∧
      (Go.Sx.brF a c = Option.or (Option.or (Go.Sx.firstO (List.length a) (Go.Sx.brZ a c x1 x3) (List.length a - x4)) (Go.Sx.firstO (List.length a) (Go.Sx.brY a c x1) (List.length a - (x3 + (1 : Nat))))) (Go.Sx.firstO (List.length a) (Go.Sx.brX a c) (List.length a - (x1 + (1 : Nat))))))) ∧
      (((↑(List.length a) : Int) = (↑(List.length a) : Int)) ∧
      (((↑x1 : Int) = (↑x1 : Int)) ∧
      ((Go.Sx.bk a x1 = Go.Sx.bk a x1) ∧
      (((↑x3 : Int) = (↑x3 : Int)) ∧
      (((0 : Int) = (↑x4 : Int)) ∧
      ((a = a) ∧
      (c = c))))))))) ∧
      (∀ x5 : Nat, (((x5 ≤ List.length a) ∧
      ((x3 < List.length a) ∧
      (Go.Sx.brF a c = Option.or (Option.or (Go.Sx.firstO (List.length a) (Go.Sx.brZ a c x1 x3) (List.length a - x5)) (Go.Sx.firstO (List.length a) (Go.Sx.brY a c x1) (List.length a - (x3 + (1 : Nat))))) (Go.Sx.firstO (List.length a) (Go.Sx.brX a c) (List.length a - (x1 + (1 : Nat))))))) →
      (BrP (Decidable.decide ((↑x5 : Int) < (↑(List.length a) : Int)))
        ((Go.Sx.inB (↑x1 : Int) (List.length c)) ∧
        ((Go.Sx.inB (↑x3 : Int) (List.length a)) ∧
        ((Go.Sx.inB (↑x5 : Int) (List.length (List.getD a (Int.toNat (↑x3 : Int)) []))) ∧
        ((Go.Sx.inB (List.getD (List.getD a (Int.toNat (↑x3 : Int)) []) (Int.toNat (↑x5 : Int)) (0 : Int)) (List.length (List.getD c (Int.toNat (↑x1 : Int)) []))) ∧
        ((Go.Sx.inB (↑x1 : Int) (List.length c)) ∧
        ((Go.Sx.inB (↑x3 : Int) (List.length (List.getD c (Int.toNat (↑x1 : Int)) []))) ∧
        ((Go.Sx.inB (List.getD (List.getD c (Int.toNat (↑x1 : Int)) []) (Int.toNat (↑x3 : Int)) (0 : Int)) (List.length a)) ∧
        ((Go.Sx.inB (Go.Sx.bk a x1) (List.length (List.getD a (Int.toNat (List.getD (List.getD c (Int.toNat (↑x1 : Int)) []) (Int.toNat (↑x3 : Int)) (0 : Int))) []))) ∧
        ((Go.Sx.inB (List.getD (List.getD a (Int.toNat (List.getD (List.getD c (Int.toNat (↑x1 : Int)) []) (Int.toNat (↑x3 : Int)) (0 : Int))) []) (Int.toNat (Go.Sx.bk a x1)) (0 : Int)) (List.length a)) ∧
        ((Go.Sx.inB (↑x1 : Int) (List.length c)) ∧
        ((Go.Sx.inB (↑x5 : Int) (List.length (List.getD c (Int.toNat (↑x1 : Int)) []))) ∧
        ((Go.Sx.inB (List.getD (List.getD c (Int.toNat (↑x1 : Int)) []) (Int.toNat (↑x5 : Int)) (0 : Int)) (List.length (List.getD a (Int.toNat (List.getD (List.getD a (Int.toNat (List.getD (List.getD c (Int.toNat (↑x1 : Int)) []) (Int.toNat (↑x3 : Int)) (0 : Int))) []) (Int.toNat (Go.Sx.bk a x1)) (0 : Int))) []))) ∧
        (BrP (List.getD (List.getD c (Int.toNat (↑x1 : Int)) []) (Int.toNat (List.getD (List.getD a (Int.toNat (↑x3 : Int)) []) (Int.toNat (↑x5 : Int)) (0 : Int))) (0 : Int) != List.getD (List.getD a (Int.toNat (List.getD (List.getD a (Int.toNat (List.getD (List.getD c (Int.toNat (↑x1 : Int)) []) (Int.toNat (↑x3 : Int)) (0 : Int))) []) (Int.toNat (Go.Sx.bk a x1)) (0 : Int))) []) (Int.toNat (List.getD (List.getD c (Int.toNat (↑x1 : Int)) []) (Int.toNat (↑x5 : Int)) (0 : Int))) (0 : Int))
          (([(↑x1 : Int), (↑x3 : Int), (↑x5 : Int)] = Option.getD (Go.Sx.brF a c) []) ∧
          (True))
          ((Go.Sx.InR ((↑x5 : Int) + (1 : Int))) ∧
          (∃ x6 : Nat, (((x6 ≤ List.length a) ∧
          ((x3 < List.length a) ∧
          (Go.Sx.brF a c = Option.or (Option.or (Go.Sx.firstO (List.length a) (Go.Sx.brZ a c x1 x3) (List.length a - x6)) (Go.Sx.firstO (List.length a) (Go.Sx.brY a c x1) (List.length a - (x3 + (1 : Nat))))) (Go.Sx.firstO (List.length a) (Go.Sx.brX a c) (List.length a - (x1 + (1 : Nat))))))) ∧
          ((List.length a - x6 < List.length a - x5) ∧
          (((↑(List.length a) : Int) = (↑(List.length a) : Int)) ∧
          (((↑x1 : Int) = (↑x1 : Int)) ∧
          ((Go.Sx.bk a x1 = Go.Sx.bk a x1) ∧
          (((↑x3 : Int) = (↑x3 : Int)) ∧
          (((↑x5 : Int) + (1 : Int) = (↑x6 : Int)) ∧
          ((a = a) ∧
          (c = c))))))))))))))))))))))))
        ((Go.Sx.InR ((↑x3 : Int) + (1 : Int))) ∧
        (∃ x7 : Nat, (((x7 ≤ List.length a) ∧
        ((x1 < List.length a) ∧
        (Go.Sx.brF a c = Option.or (Go.Sx.firstO (List.length a) (Go.Sx.brY a c x1) (List.length a - x7)) (Go.Sx.firstO (List.length a) (Go.Sx.brX a c) (List.length a - (x1 + (1 : Nat))))))) ∧
        ((List.length a - x7 < List.length a - x3) ∧
        (((↑(List.length a) : Int) = (↑(List.length a) : Int)) ∧
        (((↑x1 : Int) = (↑x1 : Int)) ∧
        ((Go.Sx.bk a x1 = Go.Sx.bk a x1) ∧
        (((↑x3 : Int) + (1 : Int) = (↑x7 : Int)) ∧
        ((a = a) ∧
        (c = c))))))))))))))
      ((Go.Sx.InR ((↑x1 : Int) + (1 : Int))) ∧
      (∃ x8 : Nat, (((x8 ≤ List.length a) ∧
      (Go.Sx.brF a c = Go.Sx.firstO (List.length a) (Go.Sx.brX a c) (List.length a - x8))) ∧
      ((List.length a - x8 < List.length a - x1) ∧
      (((↑(List.length a) : Int) = (↑(List.length a) : Int)) ∧
      (((↑x1 : Int) + (1 : Int) = (↑x8 : Int)) ∧
      ((a = a) ∧
      (c = c)))))))))))))
    (([] = Option.getD (Go.Sx.brF a c) []) ∧
    (True))))))
theorem l11Fault_vc (a : List (List Int)) (c : List (List Int)) : runF Try.prog (gam l11Fault_G) noWr (l11Fault_ann a c) Try.f82 (bodyOf Try.f82) [] [.agg [.rows .i64 (a), .rows .i64 (c)]] (l11Fault_p a c) = l11Fault_V a c := by kernel_rfl
theorem l11Fault_ok (a : List (List Int)) (c : List (List Int)) (hpre : (l11Fault_p a c).pre) : l11Fault_V a c := by
  simp only [l11Fault_p, l11Fault_V, BrP_iff, true_and, and_true, decide_eq_true_eq, decide_eq_false_iff_not, bne_iff_ne, beq_iff_eq, bne_eq_false_iff_eq, beq_eq_false_iff_ne, Bool.not_eq_true, Bool.not_eq_false, Bool.not_true, Bool.not_false, Bool.not_eq_eq_eq_not, Int.toNat_natCast, List.length_append, List.length_take, List.length_replicate, List.length_set, List.length_map, List.length_drop, List.length_nil, List.length_cons, markL_length, inB, InR, room, bdsOk] at hpre ⊢
  obtain ⟨n1, n2, hl, ha, hc, hb⟩ := twoG_in hpre
  have h1 := grp_tab hpre.1
  refine ⟨⟨0, ⟨by omega, rfl⟩, rfl⟩, fun i ⟨hi, hx⟩ => ⟨fun h => ⟨⟨h1, by omega, by omega⟩, ⟨0, ⟨by omega, by omega, ?_⟩, rfl⟩, fun j ⟨hj, _, hy⟩ => ⟨fun h2 => ⟨⟨0, ⟨by omega, by omega, ?_⟩, rfl⟩, fun k ⟨hk, _, hz⟩ => ⟨fun h3 => ?_, fun h3 => ?_⟩⟩, fun h2 => ?_⟩⟩, fun h => ?_⟩⟩
  · rw [hx, firstO_step _ _ i (by omega)]; rfl
  · rw [hy, firstO_step _ _ j (by omega)]; rfl
  · have A := ha j (by omega)
    have A2 := A.2 k (by omega)
    have C := hc i (by omega)
    have C1 := C.2 j (by omega)
    have C2 := C.2 k (by omega)
    have B := hb i (by omega)
    have R1 := ha ((c.getD i []).getD j 0).toNat (by omega)
    have V := R1.2 (bk a i).toNat (by omega)
    have R2 := ha ((a.getD ((c.getD i []).getD j 0).toNat []).getD (bk a i).toNat 0).toNat (by omega)
    refine ⟨by omega, by omega, by omega, by omega, by omega, by omega, by omega, by omega, by omega, by omega, by omega, by omega, fun h4 => ?_, fun h4 => ⟨by omega, k + 1, ⟨by omega, by omega, ?_⟩, by omega, by omega⟩⟩
    · rw [hz, firstO_step _ _ k (by omega), show brZ a c i j k = some [(i : Int), (j : Int), (k : Int)] from if_neg h4]; rfl
    · rw [hz, firstO_step _ _ k (by omega), show brZ a c i j k = none from if_pos h4]; rfl
  · refine ⟨by omega, j + 1, ⟨by omega, by omega, ?_⟩, by omega, by omega⟩
    rw [hz, show a.length - k = 0 by omega]; rfl
  · refine ⟨by omega, i + 1, ⟨by omega, ?_⟩, by omega, by omega⟩
    rw [hy, show a.length - j = 0 by omega]; rfl
  · rw [hx, show a.length - i = 0 by omega]; rfl
theorem l11Fault_fits : Fits Try.prog 82 ⟨[], l11Fault_ct⟩ := by
  refine fits_fn (Γ := gam l11Fault_G) (gok_cons l10Back_fits gok_nil) Try.func82 (by kernel_rfl) (by kernel_rfl) (by kernel_rfl) fun ds p h hp => ?_
  unfold l11Fault_ct at h
  split at h
  · cases h
    exact ⟨noWr, l11Fault_ann _ _ , by rw [l11Fault_vc]; exact l11Fault_ok _ _  hp⟩
  · cases h

def braceFault_p (a : List (List Int)) (c : List (List Int)) : Post := ⟨twoG a c, .c (.nilq ((brF a c).isNone)), []⟩
def braceFault_ct : List AD → Option Post
  | [.agg [.rows .i64 (a), .rows .i64 (c)]] => some (braceFault_p a c)
  | _ => none
def braceFault_ann (a : List (List Int)) (c : List (List Int)) : Nat → Option Ann
  | 0 => some (Ann.mk ((Nat)) (fun i => ⟨[(1, .c (.ptr 1 0)), (3, .c (.own (10))), (4, .c (.int .i64 ((a.length : Int)))), (14, .c (.int .i64 ((a.length : Int)))), (15, .c (.int .i64 ((i : Int))))], [(1, some (.box [.ro (.rows .i64 (a)), .ro (.rows .i64 (c))])), (10, some (.ints 2 .i64 (bkL a)))]⟩) (fun i => i ≤ a.length ∧ brF a c = firstO a.length (brX a c) (a.length - i)) (fun i => a.length - i) (fun i => fun b_ => match b_ with | 2 => some (Ann.mk ((Nat)) (fun j => ⟨[(1, .c (.ptr 1 0)), (3, .c (.own (10))), (4, .c (.int .i64 ((a.length : Int)))), (14, .c (.int .i64 ((a.length : Int)))), (15, .c (.int .i64 ((i : Int)))), (5, .c (.int .i64 ((i : Int)))), (18, .c (.int .i64 ((a.length : Int)))), (19, .c (.int .i64 ((j : Int))))], [(1, some (.box [.ro (.rows .i64 (a)), .ro (.rows .i64 (c))])), (10, some (.ints 2 .i64 (bkL a)))]⟩) (fun j => j ≤ a.length ∧ i < a.length ∧ brF a c = (firstO a.length (brY a c i) (a.length - j)).or (firstO a.length (brX a c) (a.length - (i + 1)))) (fun j => a.length - j) (fun j => fun b_ => match b_ with | 4 => some (Ann.mk ((Nat)) (fun k => ⟨[(1, .c (.ptr 1 0)), (3, .c (.own (10))), (4, .c (.int .i64 ((a.length : Int)))), (14, .c (.int .i64 ((a.length : Int)))), (15, .c (.int .i64 ((i : Int)))), (5, .c (.int .i64 ((i : Int)))), (18, .c (.int .i64 ((a.length : Int)))), (19, .c (.int .i64 ((j : Int)))), (6, .c (.int .i64 ((j : Int)))), (22, .c (.int .i64 ((a.length : Int)))), (23, .c (.int .i64 ((k : Int))))], [(1, some (.box [.ro (.rows .i64 (a)), .ro (.rows .i64 (c))])), (10, some (.ints 2 .i64 (bkL a)))]⟩) (fun k => k ≤ a.length ∧ j < a.length ∧ brF a c = ((firstO a.length (brZ a c i j) (a.length - k)).or (firstO a.length (brY a c i) (a.length - (j + 1)))).or (firstO a.length (brX a c) (a.length - (i + 1)))) (fun k => a.length - k) (fun _ => noAnn)) | _ => none)) | _ => none))
  | _ => none
def braceFault_G : List (Nat × Ctr) := [(95, ⟨[], groupInverses_ct⟩)]
def braceFault_V (a : List (List Int)) (c : List (List Int)) : Prop :=
  (((Go.Sx.tabB a = Bool.true) ∧
  (True)) ∧
  ((∃ x0 : Nat, (((x0 ≤ List.length a) ∧
  (Go.Sx.brF a c = Go.Sx.firstO (List.length a) (Go.Sx.brX a c) (List.length a - x0))) ∧
  (((↑(List.length a) : Int) = (↑(List.length a) : Int)) ∧
  (((↑(List.length a) : Int) = (↑(List.length a) : Int)) ∧
  (((0 : Int) = (↑x0 : Int)) ∧
  ((a = a) ∧
  ((c = c) ∧
  (Go.Sx.bkL a = Go.Sx.bkL a)))))))) ∧
  (∀ x1 : Nat, (((x1 ≤ List.length a) ∧
  (Go.Sx.brF a c = Go.Sx.firstO (List.length a) (Go.Sx.brX a c) (List.length a - x1))) →
  (BrP (Decidable.decide ((↑x1 : Int) < (↑(List.length a) : Int)))
    ((∃ x2 : Nat, (((x2 ≤ List.length a) ∧
    ((x1 < List.length a) ∧
    (Go.Sx.brF a c = Option.or (Go.Sx.firstO (List.length a) (Go.Sx.brY a c x1) (List.length a - x2)) (Go.Sx.firstO (List.length a) (Go.Sx.brX a c) (List.length a - (x1 + (1 : Nat))))))) ∧
    (((↑(List.length a) : Int) = (↑(List.length a) : Int)) ∧
    (((↑(List.length a) : Int) = (↑(List.length a) : Int)) ∧
    (((↑x1 : Int) = (↑x1 : Int)) ∧
    (((↑x1 : Int) = (↑x1 : Int)) ∧
    (((↑(List.length a) : Int) = (↑(List.length a) : Int)) ∧
    (((0 : Int) = (↑x2 : Int)) ∧
    ((a = a) ∧
    ((c = c) ∧
    (Go.Sx.bkL a = Go.Sx.bkL a))))))))))) ∧
    (∀ x3 : Nat, (((x3 ≤ List.length a) ∧
    ((x1 < List.length a) ∧
    (Go.Sx.brF a c = Option.or (Go.Sx.firstO (List.length a) (Go.Sx.brY a c x1) (List.length a - x3)) (Go.Sx.firstO (List.length a) (Go.Sx.brX a c) (List.length a - (x1 + (1 : Nat))))))) →
    (BrP (Decidable.decide ((↑x3 : Int) < (↑(List.length a) : Int)))
      ((∃ x4 : Nat, (((x4 ≤ List.length a) ∧
      ((x3 < List.length a) ∧
      (Go.Sx.brF a c = Option.or (Option.or (Go.Sx.firstO (List.length a) (Go.Sx.brZ a c x1 x3) (List.length a - x4)) (Go.Sx.firstO (List.length a) (Go.Sx.brY a c x1) (List.length a - (x3 + (1 : Nat))))) (Go.Sx.firstO (List.length a) (Go.Sx.brX a c) (List.length a - (x1 + (1 : Nat))))))) ∧
      (((↑(List.length a) : Int) = (↑(List.length a) : Int)) ∧
      (((↑(List.length a) : Int) = (↑(List.length a) : Int)) ∧
      (((↑x1 : Int) = (↑x1 : Int)) ∧
      (((↑x1 : Int) = (↑x1 : Int)) ∧
      (((↑(List.length a) : Int) = (↑(List.length a) : Int)) ∧
      (((↑x3 : Int) = (↑x3 : Int)) ∧
      (((↑x3 : Int) = (↑x3 : Int)) ∧
      (((↑(List.length a) : Int) = (↑(List.length a) : Int)) ∧
      (((0 : Int) = (↑x4 : Int)) ∧
      ((a = a) ∧
      ((c = c) ∧
      (Go.Sx.bkL a = Go.Sx.bkL a)))))))))))))) ∧
      (∀ x5 : Nat, (((x5 ≤ List.length a) ∧
      ((x3 < List.length a) ∧
      (Go.Sx.brF a c = Option.or (Option.or (Go.Sx.firstO (List.length a) (Go.Sx.brZ a c x1 x3) (List.length a - x5)) (Go.Sx.firstO (List.length a) (Go.Sx.brY a c x1) (List.length a - (x3 + (1 : Nat))))) (Go.Sx.firstO (List.length a) (Go.Sx.brX a c) (List.length a - (x1 + (1 : Nat))))))) →
      (BrP (Decidable.decide ((↑x5 : Int) < (↑(List.length a) : Int)))
        ((Go.Sx.inB (↑x1 : Int) (List.length c)) ∧
        ((Go.Sx.inB (↑x3 : Int) (List.length a)) ∧
        ((Go.Sx.inB (↑x5 : Int) (List.length (List.getD a (Int.toNat (↑x3 : Int)) []))) ∧
        ((Go.Sx.inB (List.getD (List.getD a (Int.toNat (↑x3 : Int)) []) (Int.toNat (↑x5 : Int)) (0 : Int)) (List.length (List.getD c (Int.toNat (↑x1 : Int)) []))) ∧
        ((Go.Sx.inB (↑x1 : Int) (List.length c)) ∧
        ((Go.Sx.inB (↑x3 : Int) (List.length (List.getD c (Int.toNat (↑x1 : Int)) []))) ∧
        ((Go.Sx.inB (List.getD (List.getD c (Int.toNat (↑x1 : Int)) []) (Int.toNat (↑x3 : Int)) (0 : Int)) (List.length a)) ∧
        ((Go.Sx.inB (↑x1 : Int) (List.length (Go.Sx.bkL a))) ∧
        ((Go.Sx.inB (List.getD (Go.Sx.bkL a) (Int.toNat (↑x1 : Int)) (0 : Int)) (List.length (List.getD a (Int.toNat (List.getD (List.getD c (Int.toNat (↑x1 : Int)) []) (Int.toNat (↑x3 : Int)) (0 : Int))) []))) ∧
        ((Go.Sx.inB (List.getD (List.getD a (Int.toNat (List.getD (List.getD c (Int.toNat (↑x1 : Int)) []) (Int.toNat (↑x3 : Int)) (0 : Int))) []) (Int.toNat (List.getD (Go.Sx.bkL a) (Int.toNat (↑x1 : Int)) (0 : Int))) (0 : Int)) (List.length a)) ∧
        ((Go.Sx.inB (↑x1 : Int) (List.length c)) ∧
        ((Go.Sx.inB (↑x5 : Int) (List.length (List.getD c (Int.toNat (↑x1 : Int)) []))) ∧
        ((Go.Sx.inB (List.getD (List.getD c (Int.toNat (↑x1 : Int)) []) (Int.toNat (↑x5 : Int)) (0 : Int)) (List.length (List.getD a (Int.toNat (List.getD (List.getD a (Int.toNat (List.getD (List.getD c (Int.toNat (↑x1 : Int)) []) (Int.toNat (↑x3 : Int)) (0 : Int))) []) (Int.toNat (List.getD (Go.Sx.bkL a) (Int.toNat (↑x1 : Int)) (0 : Int))) (0 : Int))) []))) ∧
        (BrP (List.getD (List.getD c (Int.toNat (↑x1 : Int)) []) (Int.toNat (List.getD (List.getD a (Int.toNat (↑x3 : Int)) []) (Int.toNat (↑x5 : Int)) (0 : Int))) (0 : Int) != List.getD (List.getD a (Int.toNat (List.getD (List.getD a (Int.toNat (List.getD (List.getD c (Int.toNat (↑x1 : Int)) []) (Int.toNat (↑x3 : Int)) (0 : Int))) []) (Int.toNat (List.getD (Go.Sx.bkL a) (Int.toNat (↑x1 : Int)) (0 : Int))) (0 : Int))) []) (Int.toNat (List.getD (List.getD c (Int.toNat (↑x1 : Int)) []) (Int.toNat (↑x5 : Int)) (0 : Int))) (0 : Int))
          (((Bool.false = Option.isNone (Go.Sx.brF a c)) ∧
          (List.length [(↑x1 : Int), (↑x3 : Int), (↑x5 : Int)] ≠ (0 : Nat))) ∧
          (True))
          ((Go.Sx.InR ((↑x5 : Int) + (1 : Int))) ∧
          (∃ x6 : Nat, (((x6 ≤ List.length a) ∧
          ((x3 < List.length a) ∧
          (Go.Sx.brF a c = Option.or (Option.or (Go.Sx.firstO (List.length a) (Go.Sx.brZ a c x1 x3) (List.length a - x6)) (Go.Sx.firstO (List.length a) (Go.Sx.brY a c x1) (List.length a - (x3 + (1 : Nat))))) (Go.Sx.firstO (List.length a) (Go.Sx.brX a c) (List.length a - (x1 + (1 : Nat))))))) ∧
          ((List.length a - x6 < List.length a - x5) ∧
          (((↑(List.length a) : Int) = (↑(List.length a) : Int)) ∧
          (((↑(List.length a) : Int) = (↑(List.length a) : Int)) ∧
          (((↑x1 : Int) = (↑x1 : Int)) ∧
          (((↑x1 : Int) = (↑x1 : Int)) ∧
          (((↑(List.length a) : Int) = (↑(List.length a) : Int)) ∧
          (((↑x3 : Int) = (↑x3 : Int)) ∧
          (((↑x3 : Int) = (↑x3 : Int)) ∧
          (((↑(List.length a) : Int) = (↑(List.length a) : Int)) ∧
          (((↑x5 : Int) + (1 : Int) = (↑x6 : Int)) ∧
          ((a = a) ∧
          ((c = c) ∧
          (Go.Sx.bkL a = Go.Sx.bkL a))))))))))))))))))))))))))))))
        ((Go.Sx.InR ((↑x3 : Int) + (1 : Int))) ∧
        (∃ x7 : Nat, (((x7 ≤ List.length a) ∧
        ((x1 < List.length a) ∧
        (Go.Sx.brF a c = Option.or (Go.Sx.firstO (List.length a) (Go.Sx.brY a c x1) (List.length a - x7)) (Go.Sx.firstO (List.length a) (Go.Sx.brX a c) (List.length a - (x1 + (1 : Nat))))))) ∧
        ((List.length a - x7 < List.length a - x3) ∧
        (((↑(List.length a) : Int) = (↑(List.length a) : Int)) ∧
        (((↑(List.length a) : Int) = (↑(List.length a) : Int)) ∧
        (((↑x1 : Int) = (↑x1 : Int)) ∧
        (((↑x1 : Int) = (↑x1 : Int)) ∧
        (((↑(List.length a) : Int) = (↑(List.length a) : Int)) ∧
        (((↑x3 : Int) + (1 : Int) = (↑x7 : Int)) ∧
        ((a = a) ∧
        ((c = c) ∧
        (Go.Sx.bkL a = Go.Sx.bkL a)))))))))))))))))
      ((Go.Sx.InR ((↑x1 : Int) + (1 : Int))) ∧
      (∃ x8 : Nat, (((x8 ≤ List.length a) ∧
      (Go.Sx.brF a c = Go.Sx.firstO (List.length a) (Go.Sx.brX a c) (List.length a - x8))) ∧
      ((List.length a - x8 < List.length a - x1) ∧
      (((↑(List.length a) : Int) = (↑(List.length a) : Int)) ∧
      (((↑(List.length a) : Int) = (↑(List.length a) : Int)) ∧
      (((↑x1 : Int) + (1 : Int) = (↑x8 : Int)) ∧
      ((a = a) ∧
      ((c = c) ∧
      (Go.Sx.bkL a = Go.Sx.bkL a))))))))))))))
    ((Bool.true = Option.isNone (Go.Sx.brF a c)) ∧
    (True)))))))
theorem braceFault_vc (a : List (List Int)) (c : List (List Int)) : runF Try.prog (gam braceFault_G) noWr (braceFault_ann a c) Try.f86 (bodyOf Try.f86) [] [.agg [.rows .i64 (a), .rows .i64 (c)]] (braceFault_p a c) = braceFault_V a c := by kernel_rfl
theorem braceFault_ok (a : List (List Int)) (c : List (List Int)) (hpre : (braceFault_p a c).pre) : braceFault_V a c := by
  simp only [braceFault_p, braceFault_V, BrP_iff, true_and, and_true, decide_eq_true_eq, decide_eq_false_iff_not, bne_iff_ne, beq_iff_eq, bne_eq_false_iff_eq, beq_eq_false_iff_ne, Bool.not_eq_true, Bool.not_eq_false, Bool.not_true, Bool.not_false, Bool.not_eq_eq_eq_not, Int.toNat_natCast, List.length_append, List.length_take, List.length_replicate, List.length_set, List.length_map, List.length_drop, List.length_nil, List.length_cons, markL_length, inB, InR, room, bdsOk] at hpre ⊢
  obtain ⟨n1, n2, hl, ha, hc, hb⟩ := twoG_in hpre
  have h1 := grp_tab hpre.1
  have hbl := bkL_length a
  refine ⟨h1, ⟨0, ⟨by omega, rfl⟩, rfl⟩, fun i ⟨hi, hx⟩ => ⟨fun h => ⟨⟨0, ⟨by omega, by omega, ?_⟩, rfl⟩, fun j ⟨hj, _, hy⟩ => ⟨fun h2 => ⟨⟨0, ⟨by omega, by omega, ?_⟩, rfl⟩, fun k ⟨hk, _, hz⟩ => ⟨fun h3 => ?_, fun h3 => ?_⟩⟩, fun h2 => ?_⟩⟩, fun h => ?_⟩⟩
  · rw [hx, firstO_step _ _ i (by omega)]; rfl
  · rw [hy, firstO_step _ _ j (by omega)]; rfl
  · have A := ha j (by omega)
    have A2 := A.2 k (by omega)
    have C := hc i (by omega)
    have C1 := C.2 j (by omega)
    have C2 := C.2 k (by omega)
    have B := hb i (by omega)
    have R1 := ha ((c.getD i []).getD j 0).toNat (by omega)
    have V := R1.2 (bk a i).toNat (by omega)
    have R2 := ha ((a.getD ((c.getD i []).getD j 0).toNat []).getD (bk a i).toNat 0).toNat (by omega)
    rw [bkL_getD a i (by omega)]
    refine ⟨by omega, by omega, by omega, by omega, by omega, by omega, by omega, by omega, by omega, by omega, by omega, by omega, by omega, fun h4 => ⟨?_, by omega⟩, fun h4 => ⟨by omega, k + 1, ⟨by omega, by omega, ?_⟩, by omega, by omega⟩⟩
    · rw [hz, firstO_step _ _ k (by omega), show brZ a c i j k = some [(i : Int), (j : Int), (k : Int)] from if_neg h4]; rfl
    · rw [hz, firstO_step _ _ k (by omega), show brZ a c i j k = none from if_pos h4]; rfl
  · refine ⟨by omega, j + 1, ⟨by omega, by omega, ?_⟩, by omega, by omega⟩
    rw [hz, show a.length - k = 0 by omega]; rfl
  · refine ⟨by omega, i + 1, ⟨by omega, ?_⟩, by omega, by omega⟩
    rw [hy, show a.length - j = 0 by omega]; rfl
  · rw [hx, show a.length - i = 0 by omega]; rfl
theorem braceFault_fits : Fits Try.prog 86 ⟨[], braceFault_ct⟩ := by
  refine fits_fn (Γ := gam braceFault_G) (gok_cons groupInverses_fits gok_nil) Try.func86 (by kernel_rfl) (by kernel_rfl) (by kernel_rfl) fun ds p h hp => ?_
  unfold braceFault_ct at h
  split at h
  · cases h
    exact ⟨noWr, braceFault_ann _ _ , by rw [braceFault_vc]; exact braceFault_ok _ _  hp⟩
  · cases h

def areBraceTables_p (a : List (List Int)) (c : List (List Int)) : Post := ⟨roomR a ∧ roomR c, .c (.bool (grpB a && grpB c && decide (a.length = c.length))), []⟩
def areBraceTables_ct : List AD → Option Post
  | [.agg [.rows .i64 (a), .rows .i64 (c)]] => some (areBraceTables_p a c)
  | _ => none
def areBraceTables_G : List (Nat × Ctr) := [(116, ⟨[], isGroupTable_ct⟩)]
def areBraceTables_V (a : List (List Int)) (c : List (List Int)) : Prop :=
  (((Go.Sx.roomR a) ∧
  (True)) ∧
  (BrP (Go.Sx.grpB a)
    (((Go.Sx.roomR c) ∧
    (True)) ∧
    (BrP (Go.Sx.grpB c)
      ((((↑(List.length a) : Int) == (↑(List.length c) : Int)) = (Go.Sx.grpB a && Go.Sx.grpB c && Decidable.decide (List.length a = List.length c))) ∧
      (True))
      ((Bool.false = (Go.Sx.grpB a && Go.Sx.grpB c && Decidable.decide (List.length a = List.length c))) ∧
      (True))))
    ((Bool.false = (Go.Sx.grpB a && Go.Sx.grpB c && Decidable.decide (List.length a = List.length c))) ∧
    (True))))
theorem areBraceTables_vc (a : List (List Int)) (c : List (List Int)) : runF Try.prog (gam areBraceTables_G) noWr noAnn Try.f85 (bodyOf Try.f85) [] [.agg [.rows .i64 (a), .rows .i64 (c)]] (areBraceTables_p a c) = areBraceTables_V a c := by kernel_rfl
theorem areBraceTables_ok (a : List (List Int)) (c : List (List Int)) (hpre : (areBraceTables_p a c).pre) : areBraceTables_V a c := by
  simp only [areBraceTables_p, areBraceTables_V, BrP_iff, true_and, and_true, decide_eq_true_eq, decide_eq_false_iff_not, bne_iff_ne, beq_iff_eq, bne_eq_false_iff_eq, beq_eq_false_iff_ne, Bool.not_eq_true, Bool.not_eq_false, Bool.not_true, Bool.not_false, Bool.not_eq_eq_eq_not, Int.toNat_natCast, List.length_append, List.length_take, List.length_replicate, List.length_set, List.length_map, List.length_drop, List.length_nil, List.length_cons, markL_length, inB, InR, room, bdsOk] at hpre ⊢
  obtain ⟨r1, r2⟩ := hpre
  refine ⟨r1, fun h => ⟨r2, fun h2 => ?_, fun h2 => by simp [h, h2]⟩, fun h => by simp [h]⟩
  rw [h, h2, Bool.true_and, Bool.true_and, Bool.eq_iff_iff, beq_iff_eq, decide_eq_true_iff]
  omega
theorem areBraceTables_fits : Fits Try.prog 85 ⟨[], areBraceTables_ct⟩ := by
  refine fits_fn (Γ := gam areBraceTables_G) (gok_cons isGroupTable_fits gok_nil) Try.func85 (by kernel_rfl) (by kernel_rfl) (by kernel_rfl) fun ds p h hp => ?_
  unfold areBraceTables_ct at h
  split at h
  · cases h
    exact ⟨noWr, noAnn, by rw [areBraceTables_vc]; exact areBraceTables_ok _ _  hp⟩
  · cases h

def IsBrace_p (a : List (List Int)) (c : List (List Int)) : Post := ⟨roomR a ∧ roomR c, .c (.bool (brcB a c)), []⟩
def IsBrace_ct : List AD → Option Post
  | [.agg [.rows .i64 (a), .rows .i64 (c)]] => some (IsBrace_p a c)
  | _ => none
def IsBrace_G : List (Nat × Ctr) := [(85, ⟨[], areBraceTables_ct⟩), (86, ⟨[], braceFault_ct⟩)]
def IsBrace_V (a : List (List Int)) (c : List (List Int)) : Prop :=
  ((((Go.Sx.roomR a) ∧
  (Go.Sx.roomR c)) ∧
  (True)) ∧
  (BrP (Go.Sx.grpB a && Go.Sx.grpB c && Decidable.decide (List.length a = List.length c))
    (((Go.Sx.twoG a c) ∧
    (True)) ∧
    ((Option.isNone (Go.Sx.brF a c) = Go.Sx.brcB a c) ∧
    (True)))
    ((Bool.false = Go.Sx.brcB a c) ∧
    (True))))
theorem IsBrace_vc (a : List (List Int)) (c : List (List Int)) : runF Try.prog (gam IsBrace_G) noWr noAnn Try.f51 (bodyOf Try.f51) [] [.agg [.rows .i64 (a), .rows .i64 (c)]] (IsBrace_p a c) = IsBrace_V a c := by kernel_rfl
theorem IsBrace_ok (a : List (List Int)) (c : List (List Int)) (hpre : (IsBrace_p a c).pre) : IsBrace_V a c := by
  simp only [IsBrace_p, IsBrace_V, BrP_iff, true_and, and_true, decide_eq_true_eq, decide_eq_false_iff_not, bne_iff_ne, beq_iff_eq, bne_eq_false_iff_eq, beq_eq_false_iff_ne, Bool.not_eq_true, Bool.not_eq_false, Bool.not_true, Bool.not_false, Bool.not_eq_eq_eq_not, Int.toNat_natCast, List.length_append, List.length_take, List.length_replicate, List.length_set, List.length_map, List.length_drop, List.length_nil, List.length_cons, markL_length, inB, InR, room, bdsOk] at hpre ⊢
  refine ⟨hpre, fun h => ?_, fun h => by rw [brcB, h, Bool.false_and]⟩
  have h2 := h
  simp only [Bool.and_eq_true, decide_eq_true_eq] at h2
  exact ⟨⟨h2.1.1, h2.1.2, h2.2⟩, by rw [brcB, h, Bool.true_and]⟩
theorem IsBrace_fits : Fits Try.prog 51 ⟨[], IsBrace_ct⟩ := by
  refine fits_fn (Γ := gam IsBrace_G) (gok_cons areBraceTables_fits (gok_cons braceFault_fits gok_nil)) Try.func51 (by kernel_rfl) (by kernel_rfl) (by kernel_rfl) fun ds p h hp => ?_
  unfold IsBrace_ct at h
  split at h
  · cases h
    exact ⟨noWr, noAnn, by rw [IsBrace_vc]; exact IsBrace_ok _ _  hp⟩
  · cases h

def l11Is_p (a : List (List Int)) (c : List (List Int)) : Post := ⟨roomR a ∧ roomR c, .c (.bool (brcB a c)), []⟩
def l11Is_ct : List AD → Option Post
  | [.agg [.rows .i64 (a), .rows .i64 (c)]] => some (l11Is_p a c)
  | _ => none
def l11Is_G : List (Nat × Ctr) := [(81, ⟨[], l10Is_ct⟩), (82, ⟨[], l11Fault_ct⟩)]
def l11Is_V (a : List (List Int)) (c : List (List Int)) : Prop :=
  (((Go.Sx.roomR a) ∧
  (True)) ∧
  (BrP (Go.Sx.grpB a)
    (((Go.Sx.roomR c) ∧
    (True)) ∧
    (BrP (Go.Sx.grpB c)
      (BrP ((↑(List.length a) : Int) == (↑(List.length c) : Int))
        (((Go.Sx.twoG a c) ∧
        (True)) ∧
        ((((↑(List.length (Option.getD (Go.Sx.brF a c) [])) : Int) == (0 : Int)) = Go.Sx.brcB a c) ∧
        (True)))
        ((Bool.false = Go.Sx.brcB a c) ∧
        (True)))
      ((Bool.false = Go.Sx.brcB a c) ∧
      (True))))
    ((Bool.false = Go.Sx.brcB a c) ∧
    (True))))
theorem l11Is_vc (a : List (List Int)) (c : List (List Int)) : runF Try.prog (gam l11Is_G) noWr noAnn Try.f48 (bodyOf Try.f48) [] [.agg [.rows .i64 (a), .rows .i64 (c)]] (l11Is_p a c) = l11Is_V a c := by kernel_rfl
theorem l11Is_ok (a : List (List Int)) (c : List (List Int)) (hpre : (l11Is_p a c).pre) : l11Is_V a c := by
  simp only [l11Is_p, l11Is_V, BrP_iff, true_and, and_true, decide_eq_true_eq, decide_eq_false_iff_not, bne_iff_ne, beq_iff_eq, bne_eq_false_iff_eq, beq_eq_false_iff_ne, Bool.not_eq_true, Bool.not_eq_false, Bool.not_true, Bool.not_false, Bool.not_eq_eq_eq_not, Int.toNat_natCast, List.length_append, List.length_take, List.length_replicate, List.length_set, List.length_map, List.length_drop, List.length_nil, List.length_cons, markL_length, inB, InR, room, bdsOk] at hpre ⊢
  obtain ⟨r1, r2⟩ := hpre
  refine ⟨r1, fun h => ⟨r2, fun h2 => ⟨fun h3 => ⟨⟨h, h2, by omega⟩, ?_⟩, fun h3 => ?_⟩, fun h2 => by simp [brcB, h2]⟩, fun h => by simp [brcB, h]⟩
  · rw [brcB, h, h2, decide_eq_true (show a.length = c.length by omega), Bool.true_and, Bool.true_and, Bool.true_and]
    cases hf : brF a c with
    | none => rfl
    | some l =>
      have hl := brF_some hf
      cases l with
      | nil => exact absurd rfl hl
      | cons x l => simp; omega
  · rw [brcB, decide_eq_false (show ¬ a.length = c.length by omega)]; simp
theorem l11Is_fits : Fits Try.prog 48 ⟨[], l11Is_ct⟩ := by
  refine fits_fn (Γ := gam l11Is_G) (gok_cons l10Is_fits (gok_cons l11Fault_fits gok_nil)) Try.func48 (by kernel_rfl) (by kernel_rfl) (by kernel_rfl) fun ds p h hp => ?_
  unfold l11Is_ct at h
  split at h
  · cases h
    exact ⟨noWr, noAnn, by rw [l11Is_vc]; exact l11Is_ok _ _  hp⟩
  · cases h

def lambdaTable1_p (x : Int) (y : Int) (a : List (List Int)) (c : List (List Int)) (m : List Int) : Post := ⟨twoG a c ∧ m = bkL a ∧ 0 ≤ x ∧ x < (a.length : Int) ∧ 0 ≤ y ∧ y < (a.length : Int), .c (.int .i64 (lamF a c x.toNat y.toNat)), []⟩
def lambdaTable1_ct : List AD → Option Post
  | [.c (.int .i64 (x)), .c (.int .i64 (y)), .box [.rows .i64 (a), .rows .i64 (c)], .box [.ints .i64 (m)]] => some (lambdaTable1_p x y a c m)
  | _ => none
def lambdaTable1_G : List (Nat × Ctr) := []
def lambdaTable1_V (x : Int) (y : Int) (a : List (List Int)) (c : List (List Int)) (m : List Int) : Prop :=
  ((Go.Sx.inB x (List.length m)) ∧
  ((Go.Sx.inB (List.getD m (Int.toNat x) (0 : Int)) (List.length a)) ∧
  ((Go.Sx.inB x (List.length c)) ∧
  ((Go.Sx.inB y (List.length (List.getD c (Int.toNat x) []))) ∧
  ((Go.Sx.inB (List.getD (List.getD c (Int.toNat x) []) (Int.toNat y) (0 : Int)) (List.length (List.getD a (Int.toNat (List.getD m (Int.toNat x) (0 : Int))) []))) ∧
  ((List.getD (List.getD a (Int.toNat (List.getD m (Int.toNat x) (0 : Int))) []) (Int.toNat (List.getD (List.getD c (Int.toNat x) []) (Int.toNat y) (0 : Int))) (0 : Int) = Go.Sx.lamF a c (Int.toNat x) (Int.toNat y)) ∧
  (True)))))))
theorem lambdaTable1_vc (x : Int) (y : Int) (a : List (List Int)) (c : List (List Int)) (m : List Int) : runF Try.prog (gam lambdaTable1_G) noWr noAnn Try.f104 (bodyOf Try.f104) [] [.c (.int .i64 (x)), .c (.int .i64 (y)), .box [.rows .i64 (a), .rows .i64 (c)], .box [.ints .i64 (m)]] (lambdaTable1_p x y a c m) = lambdaTable1_V x y a c m := by kernel_rfl
theorem lambdaTable1_ok (x : Int) (y : Int) (a : List (List Int)) (c : List (List Int)) (m : List Int) (hpre : (lambdaTable1_p x y a c m).pre) : lambdaTable1_V x y a c m := by
  simp only [lambdaTable1_p, lambdaTable1_V, BrP_iff, true_and, and_true, decide_eq_true_eq, decide_eq_false_iff_not, bne_iff_ne, beq_iff_eq, bne_eq_false_iff_eq, beq_eq_false_iff_ne, Bool.not_eq_true, Bool.not_eq_false, Bool.not_true, Bool.not_false, Bool.not_eq_eq_eq_not, Int.toNat_natCast, List.length_append, List.length_take, List.length_replicate, List.length_set, List.length_map, List.length_drop, List.length_nil, List.length_cons, markL_length, inB, InR, room, bdsOk] at hpre ⊢
  obtain ⟨h, rfl, x1, x2, y1, y2⟩ := hpre
  obtain ⟨n1, n2, hl, ha, hc, hb⟩ := twoG_in h
  have hbl := bkL_length a
  have B := hb x.toNat (by omega)
  have C := hc x.toNat (by omega)
  have C1 := C.2 y.toNat (by omega)
  rw [bkL_getD a x.toNat (by omega)]
  have R := ha (bk a x.toNat).toNat (by omega)
  exact ⟨by omega, by omega, by omega, by omega, by omega, rfl⟩
theorem lambdaTable1_fits : Fits Try.prog 104 ⟨[], lambdaTable1_ct⟩ := by
  refine fits_fn (Γ := gam lambdaTable1_G) gok_nil Try.func104 (by kernel_rfl) (by kernel_rfl) (by kernel_rfl) fun ds p h hp => ?_
  unfold lambdaTable1_ct at h
  split at h
  · cases h
    exact ⟨noWr, noAnn, by rw [lambdaTable1_vc]; exact lambdaTable1_ok _ _ _ _ _  hp⟩
  · cases h

def lambdaTable_p (a : List (List Int)) (c : List (List Int)) : Post := ⟨twoG a c, .c (.rows 25 2 .i64 (lamT a c)), []⟩
def lambdaTable_ct : List AD → Option Post
  | [.agg [.rows .i64 (a), .rows .i64 (c)]] => some (lambdaTable_p a c)
  | _ => none
def lambdaTable_G : List (Nat × Ctr) := [(95, ⟨[], groupInverses_ct⟩), (96, ⟨[], tableBy_ct⟩), (104, ⟨[], lambdaTable1_ct⟩)]
def lambdaTable_V (a : List (List Int)) (c : List (List Int)) : Prop :=
  (((Go.Sx.tabB a = Bool.true) ∧
  (True)) ∧
  (((((0 : Int) ≤ (↑(List.length a) : Int)) ∧
  (((↑(List.length a) : Int) ≤ (144 : Int)) ∧
  (∀ (x y : Int), (0 : Int) ≤ x → x < (↑(List.length a) : Int) → (0 : Int) ≤ y → y < (↑(List.length a) : Int) → Go.Sx.ctQI (Go.Sx.lambdaTable1_ct [Go.Sx.AD.c (Go.Sx.FC.int Go.IntKind.i64 x), Go.Sx.AD.c (Go.Sx.FC.int Go.IntKind.i64 y), Go.Sx.AD.box [Go.Sx.FC.rows Go.IntKind.i64 a, Go.Sx.FC.rows Go.IntKind.i64 c], Go.Sx.AD.box [Go.Sx.FC.ints Go.IntKind.i64 (Go.Sx.bkL a)]])))) ∧
  (True)) ∧
  (((Go.Sx.tabR (Int.toNat (↑(List.length a) : Int)) fun (x y : Nat) => Go.Sx.ctI (Go.Sx.lambdaTable1_ct [Go.Sx.AD.c (Go.Sx.FC.int Go.IntKind.i64 (↑x : Int)), Go.Sx.AD.c (Go.Sx.FC.int Go.IntKind.i64 (↑y : Int)), Go.Sx.AD.box [Go.Sx.FC.rows Go.IntKind.i64 a, Go.Sx.FC.rows Go.IntKind.i64 c], Go.Sx.AD.box [Go.Sx.FC.ints Go.IntKind.i64 (Go.Sx.bkL a)]])) = Go.Sx.lamT a c) ∧
  (True))))
theorem lambdaTable_vc (a : List (List Int)) (c : List (List Int)) : runF Try.prog (gam lambdaTable_G) noWr noAnn Try.f62 (bodyOf Try.f62) [] [.agg [.rows .i64 (a), .rows .i64 (c)]] (lambdaTable_p a c) = lambdaTable_V a c := by kernel_rfl
theorem lambdaTable_ok (a : List (List Int)) (c : List (List Int)) (hpre : (lambdaTable_p a c).pre) : lambdaTable_V a c := by
  simp only [lambdaTable_p, lambdaTable_V, BrP_iff, true_and, and_true, decide_eq_true_eq, decide_eq_false_iff_not, bne_iff_ne, beq_iff_eq, bne_eq_false_iff_eq, beq_eq_false_iff_ne, Bool.not_eq_true, Bool.not_eq_false, Bool.not_true, Bool.not_false, Bool.not_eq_eq_eq_not, Int.toNat_natCast, List.length_append, List.length_take, List.length_replicate, List.length_set, List.length_map, List.length_drop, List.length_nil, List.length_cons, markL_length, inB, InR, room, bdsOk] at hpre ⊢
  obtain ⟨n1, n2, hl, ha, hc, hb⟩ := twoG_in hpre
  exact ⟨grp_tab hpre.1, ⟨by omega, by omega, fun x y a1 a2 a3 a4 => ⟨hpre, rfl, a1, a2, a3, a4⟩⟩, tabR_ext fun x y hx hy => rfl⟩
theorem lambdaTable_fits : Fits Try.prog 62 ⟨[], lambdaTable_ct⟩ := by
  refine fits_fn (Γ := gam lambdaTable_G) (gok_cons groupInverses_fits (gok_cons tableBy_fits (gok_cons lambdaTable1_fits gok_nil))) Try.func62 (by kernel_rfl) (by kernel_rfl) (by kernel_rfl) fun ds p h hp => ?_
  unfold lambdaTable_ct at h
  split at h
  · cases h
    exact ⟨noWr, noAnn, by rw [lambdaTable_vc]; exact lambdaTable_ok _ _  hp⟩
  · cases h

def l11Lambda_p (a : List (List Int)) (c : List (List Int)) : Post := ⟨twoG a c, .c (.rows 25 2 .i64 (lamT a c)), []⟩
def l11Lambda_ct : List AD → Option Post
  | [.agg [.rows .i64 (a), .rows .i64 (c)]] => some (l11Lambda_p a c)
  | _ => none
def l11Lambda_ann (a : List (List Int)) (c : List (List Int)) : Nat → Option Ann
  | 0 => some (Ann.mk ((Nat)) (fun i => ⟨[(1, .c (.ptr 1 0)), (3, .c (.own (8))), (4, .c (.int .i64 ((i : Int))))], [(1, some (.box [.ro (.rows .i64 (a)), .ro (.rows .i64 (c))])), (8, some (.rows 0 25 2 .i64 ((lamT a c).take i)))]⟩) (fun i => i ≤ a.length) (fun i => a.length - i) (fun i => fun b_ => match b_ with | 2 => some (Ann.mk ((Nat)) (fun j => ⟨[(1, .c (.ptr 1 0)), (3, .c (.own (8))), (4, .c (.int .i64 ((i : Int)))), (5, .c (.own (16))), (6, .c (.int .i64 (bk a i))), (7, .c (.int .i64 ((j : Int))))], [(1, some (.box [.ro (.rows .i64 (a)), .ro (.rows .i64 (c))])), (8, some (.rows 0 25 2 .i64 ((lamT a c).take i))), (16, some (.ints 2 .i64 ((tab a.length (lamF a c i)).take j)))]⟩) (fun j => j ≤ a.length ∧ i < a.length) (fun j => a.length - j) (fun _ => noAnn)) | _ => none))
  | _ => none
def l11Lambda_G : List (Nat × Ctr) := [(94, ⟨[], l10Back_ct⟩)]
def l11Lambda_V (a : List (List Int)) (c : List (List Int)) : Prop :=
  ((∃ x0 : Nat, ((x0 ≤ List.length a) ∧
  (((0 : Int) = (↑x0 : Int)) ∧
  ((a = a) ∧
  ((c = c) ∧
  ([] = List.take x0 (Go.Sx.lamT a c))))))) ∧
  (∀ x1 : Nat, ((x1 ≤ List.length a) →
  (BrP (Decidable.decide ((↑x1 : Int) < (↑(List.length a) : Int)))
    ((((Go.Sx.tabB a = Bool.true) ∧
    (((0 : Int) ≤ (↑x1 : Int)) ∧
    ((↑x1 : Int) ≤ (↑(List.length a) : Int) - (1 : Int)))) ∧
    (True)) ∧
    ((∃ x2 : Nat, (((x2 ≤ List.length a) ∧
    (x1 < List.length a)) ∧
    (((↑x1 : Int) = (↑x1 : Int)) ∧
    ((Go.Sx.bk a (Int.toNat (↑x1 : Int)) = Go.Sx.bk a x1) ∧
    (((0 : Int) = (↑x2 : Int)) ∧
    ((a = a) ∧
    ((c = c) ∧
    ((List.take x1 (Go.Sx.lamT a c) = List.take x1 (Go.Sx.lamT a c)) ∧
    ([] = List.take x2 (Go.Sx.tab (List.length a) (Go.Sx.lamF a c x1))))))))))) ∧
    (∀ x3 : Nat, (((x3 ≤ List.length a) ∧
    (x1 < List.length a)) →
    (BrP (Decidable.decide ((↑x3 : Int) < (↑(List.length a) : Int)))
      ((Go.Sx.inB (Go.Sx.bk a x1) (List.length a)) ∧
      ((Go.Sx.inB (↑x1 : Int) (List.length c)) ∧
      ((Go.Sx.inB (↑x3 : Int) (List.length (List.getD c (Int.toNat (↑x1 : Int)) []))) ∧
      ((Go.Sx.inB (List.getD (List.getD c (Int.toNat (↑x1 : Int)) []) (Int.toNat (↑x3 : Int)) (0 : Int)) (List.length (List.getD a (Int.toNat (Go.Sx.bk a x1)) []))) ∧
      ((Go.Sx.room (List.length (List.take x3 (Go.Sx.tab (List.length a) (Go.Sx.lamF a c x1))) + List.length [List.getD (List.getD a (Int.toNat (Go.Sx.bk a x1)) []) (Int.toNat (List.getD (List.getD c (Int.toNat (↑x1 : Int)) []) (Int.toNat (↑x3 : Int)) (0 : Int))) (0 : Int)])) ∧
      ((Go.Sx.InR ((↑x3 : Int) + (1 : Int))) ∧
      (∃ x4 : Nat, (((x4 ≤ List.length a) ∧
      (x1 < List.length a)) ∧
      ((List.length a - x4 < List.length a - x3) ∧
      (((↑x1 : Int) = (↑x1 : Int)) ∧
      ((Go.Sx.bk a x1 = Go.Sx.bk a x1) ∧
      (((↑x3 : Int) + (1 : Int) = (↑x4 : Int)) ∧
      ((a = a) ∧
      ((c = c) ∧
      ((List.take x1 (Go.Sx.lamT a c) = List.take x1 (Go.Sx.lamT a c)) ∧
      (List.take x3 (Go.Sx.tab (List.length a) (Go.Sx.lamF a c x1)) ++ [List.getD (List.getD a (Int.toNat (Go.Sx.bk a x1)) []) (Int.toNat (List.getD (List.getD c (Int.toNat (↑x1 : Int)) []) (Int.toNat (↑x3 : Int)) (0 : Int))) (0 : Int)] = List.take x4 (Go.Sx.tab (List.length a) (Go.Sx.lamF a c x1))))))))))))))))))
      ((Go.Sx.room (List.length (List.take x1 (Go.Sx.lamT a c)) + List.length [List.take x3 (Go.Sx.tab (List.length a) (Go.Sx.lamF a c x1))])) ∧
      ((Go.Sx.InR ((↑x1 : Int) + (1 : Int))) ∧
      (∃ x5 : Nat, ((x5 ≤ List.length a) ∧
      ((List.length a - x5 < List.length a - x1) ∧
      (((↑x1 : Int) + (1 : Int) = (↑x5 : Int)) ∧
      ((a = a) ∧
      ((c = c) ∧
      (List.take x1 (Go.Sx.lamT a c) ++ [List.take x3 (Go.Sx.tab (List.length a) (Go.Sx.lamF a c x1))] = List.take x5 (Go.Sx.lamT a c)))))))))))))))
    ((List.take x1 (Go.Sx.lamT a c) = Go.Sx.lamT a c) ∧
    (True))))))
theorem l11Lambda_vc (a : List (List Int)) (c : List (List Int)) : runF Try.prog (gam l11Lambda_G) noWr (l11Lambda_ann a c) Try.f124 (bodyOf Try.f124) [] [.agg [.rows .i64 (a), .rows .i64 (c)]] (l11Lambda_p a c) = l11Lambda_V a c := by kernel_rfl
theorem l11Lambda_ok (a : List (List Int)) (c : List (List Int)) (hpre : (l11Lambda_p a c).pre) : l11Lambda_V a c := by
  simp only [l11Lambda_p, l11Lambda_V, BrP_iff, true_and, and_true, decide_eq_true_eq, decide_eq_false_iff_not, bne_iff_ne, beq_iff_eq, bne_eq_false_iff_eq, beq_eq_false_iff_ne, Bool.not_eq_true, Bool.not_eq_false, Bool.not_true, Bool.not_false, Bool.not_eq_eq_eq_not, Int.toNat_natCast, List.length_append, List.length_take, List.length_replicate, List.length_set, List.length_map, List.length_drop, List.length_nil, List.length_cons, markL_length, inB, InR, room, bdsOk] at hpre ⊢
  obtain ⟨n1, n2, hl, ha, hc, hb⟩ := twoG_in hpre
  have h1 := grp_tab hpre.1
  have hT : (lamT a c).length = a.length := tabR_length _ _
  have hr : ∀ i : Nat, (tab a.length (lamF a c i)).length = a.length := fun i => tab_length _ _
  refine ⟨⟨0, by omega, rfl, by simp⟩, fun i hi => ⟨fun h => ⟨⟨h1, by omega, by omega⟩, ⟨0, by omega, rfl, by simp⟩, fun j ⟨hj, _⟩ => ⟨fun h3 => ?_, fun h3 => ?_⟩⟩, fun h => List.take_of_length_le (by omega)⟩⟩
  · have B := hb i (by omega)
    have C := hc i (by omega)
    have C1 := C.2 j (by omega)
    have R := ha (bk a i).toNat (by omega)
    have := hr i
    refine ⟨by omega, by omega, by omega, by omega, by omega, by omega, j + 1, by omega, by omega, by omega, ?_⟩
    rw [← take_snoc _ 0 j (by omega), tab_getD _ _ _ (by omega)]
    rfl
  · refine ⟨by omega, by omega, i + 1, by omega, by omega, by omega, ?_⟩
    have e : (tab a.length (lamF a c i)).take j = tab a.length (lamF a c i) := List.take_of_length_le (by rw [hr]; omega)
    rw [← take_snoc _ [] i (by omega), lamT, tabR_getD _ _ _ (by omega), e]
theorem l11Lambda_fits : Fits Try.prog 124 ⟨[], l11Lambda_ct⟩ := by
  refine fits_fn (Γ := gam l11Lambda_G) (gok_cons l10Back_fits gok_nil) Try.func124 (by kernel_rfl) (by kernel_rfl) (by kernel_rfl) fun ds p h hp => ?_
  unfold l11Lambda_ct at h
  split at h
  · cases h
    exact ⟨noWr, l11Lambda_ann _ _ , by rw [l11Lambda_vc]; exact l11Lambda_ok _ _  hp⟩
  · cases h

end Go.Sx

