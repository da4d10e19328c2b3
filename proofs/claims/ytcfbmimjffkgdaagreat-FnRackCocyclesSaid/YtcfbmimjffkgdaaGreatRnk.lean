/- Rnk -/
import Derived.Test.YtcfbmimjffkgdaaGreatRack
import Derived.Test.YtcfbmimjffkgdaaGreatTuple
import Derived.Test.YtcfbmimjffkgdaaGreatBndI
open Go Go.Proofs
namespace Go.Sx
set_option linter.unusedSimpArgs false
set_option linter.unusedVariables false
def rackB (t : List (List Int)) : Bool := tabB t && t.all permB && (rkF t).isNone
theorem rackB_tab {t : List (List Int)} (h : rackB t = true) : tabB t = true := by
  simp only [rackB, Bool.and_eq_true] at h
  exact h.1.1
theorem firstO_some {α : Type} {n : Nat} {q : Nat → Option α} {r : α} : ∀ {k : Nat}, firstO n q k = some r → ∃ i, q i = some r
  | 0, h => by cases h
  | k + 1, h => by
    simp only [firstO, Option.or_eq_some_iff] at h
    rcases h with h | ⟨_, h⟩
    · exact ⟨_, h⟩
    · exact firstO_some h
theorem rkF_len {t : List (List Int)} {l : List Int} (h : rkF t = some l) : l.length = 3 := by
  obtain ⟨x, h⟩ := firstO_some h
  obtain ⟨y, h⟩ := firstO_some h
  obtain ⟨z, h⟩ := firstO_some h
  unfold rkZ at h
  split at h
  · cases h
  · cases h; rfl
theorem tmod_sub {a b m : Int} (ha : 0 ≤ a) (hb : 0 ≤ b) (hm : 1 ≤ m) : a.tmod m = b.tmod m ↔ (a - b).tmod m = 0 := by
  rw [Int.tmod_eq_emod_of_nonneg ha, Int.tmod_eq_emod_of_nonneg hb, Int.emod_eq_emod_iff_emod_sub_eq_zero]
  exact ⟨fun h => Int.tmod_eq_zero_of_dvd (Int.dvd_of_emod_eq_zero h), fun h => Int.emod_eq_zero_of_dvd (Int.dvd_of_tmod_eq_zero h)⟩
def l03Is_p (t : List (List Int)) : Post := ⟨roomR t, .c (.bool (rackB t)), []⟩
def l03Is_ct : List AD → Option Post
  | [.agg [.rows .i64 (t)]] => some (l03Is_p t)
  | _ => none
def l03Is_ann (t : List (List Int)) : Nat → Option Ann
  | 0 => some (Ann.mk ((Nat)) (fun i => ⟨[(1, .c (.ptr 1 0)), (3, .c (.int .i64 ((i : Int))))], [(1, some (.box [.ro (.rows .i64 (t))]))]⟩) (fun i => i ≤ t.length ∧ tabB t = true ∧ t.all permB = (t.drop i).all permB) (fun i => t.length - i) (fun _ => noAnn))
  | _ => none
def l03Is_G : List (Nat × Ctr) := [(53, ⟨[], l01Table_ct⟩), (54, ⟨[], l01Perm_ct⟩), (55, ⟨[], l03Fault_ct⟩)]
def l03Is_V (t : List (List Int)) : Prop :=
 (((roomR t)∧True)∧(BrP (!tabB t) ((false = rackB t)∧True) ((∃ x0 : Nat, (((x0 ≤ t.length)∧((tabB t = true)∧(List.all t permB = List.all (List.drop x0 t) permB)))∧(((0:Int) = (↑x0:Int))∧(t = t))))∧(∀ x1 : Nat, (((x1 ≤ t.length)∧((tabB t = true)∧(List.all t permB = List.all (List.drop x1 t) permB))) → (BrP (decide ((↑x1:Int) < (↑(t.length):Int))) ((inB (↑x1:Int) (t.length))∧((((t.getD ((↑x1:Int).toNat) []).length ≤ (1099511627776:Nat))∧True)∧(BrP (!(decide ((1:Int) ≤ (↑((t.getD ((↑x1:Int).toNat) []).length):Int) ∧ (↑((t.getD ((↑x1:Int).toNat) []).length):Int) ≤ (12:Int)) && permB (t.getD ((↑x1:Int).toNat) []))) ((false = rackB t)∧True) ((InR ((↑x1:Int) + (1:Int)))∧(∃ x2 : Nat, (((x2 ≤ t.length)∧((tabB t = true)∧(List.all t permB = List.all (List.drop x2 t) permB)))∧((t.length - x2 < t.length - x1)∧(((↑x1:Int) + (1:Int) = (↑x2:Int))∧(t = t))))))))) (((tabB t = true)∧True)∧((((↑((Option.getD (rkF t) []).length):Int) == (0:Int)) = rackB t)∧True))))))))
theorem l03Is_vc (t : List (List Int)) : runF Tryz.prog (gam l03Is_G) noWr (l03Is_ann t) Tryz.f21 (bodyOf Tryz.f21) [] [.agg [.rows .i64 (t)]] (l03Is_p t) = l03Is_V t := by kernel_rfl
theorem l03Is_ok (t : List (List Int)) (hpre : (l03Is_p t).pre) : l03Is_V t := by
  simp only [l03Is_p, l03Is_V, BrP_iff, u1, u2, u3, u4, u5, u6, u7, u8, u9, v1, v2, v3, v4, v5, v6, v7, v8, v9, w1, w2, w3, w4, markL_length, inB, InR, room, bdsOk] at hpre ⊢
  have h0 := hpre.1
  refine ⟨hpre, fun h => by rw [rackB, h]; rfl, fun h => ⟨⟨0, ⟨by omega, h, rfl⟩, rfl⟩, fun i ⟨hi, _, he⟩ => ⟨fun h2 => ?_, fun h2 => ⟨h, ?_⟩⟩⟩⟩
  · have hd := allG_drop [] permB (show i < t.length by omega)
    obtain ⟨n1, n2, ht⟩ := tabB_of h
    have hl := (ht i (by omega)).1
    refine ⟨by omega, roomR_get hpre i (by omega), fun h3 => ?_, fun h3 => ⟨by omega, i + 1, ⟨by omega, h, ?_⟩, by omega, by omega⟩⟩
    · rw [decide_eq_true (by omega), Bool.true_and] at h3
      rw [rackB, he, hd, h3]; simp
    · rw [decide_eq_true (by omega), Bool.true_and] at h3
      rw [he, hd, h3]; rfl
  · have ha : t.all permB = true := by rw [he, List.drop_of_length_le (by omega)]; rfl
    rw [rackB, h, ha]
    cases hf : rkF t with
    | none => rfl
    | some l =>
      have hl := rkF_len hf
      simp only [Option.getD_some, Option.isNone_some, Bool.and_false]
      rw [beq_eq_false_iff_ne]
      omega
theorem l03Is_fits : Fits Tryz.prog 21 ⟨[], l03Is_ct⟩ := by
  refine ffn (Γ := gam l03Is_G) (gok_cons l01Table_fits (gok_cons l01Perm_fits (gok_cons l03Fault_fits gok_nil))) Tryz.func21 fun ds p h hp => ?_
  unfold l03Is_ct at h
  split at h
  · cases h
    exact ⟨noWr, l03Is_ann _ , by rw [l03Is_vc]; exact l03Is_ok _  hp⟩
  · cases h
def IsRack_p (t : List (List Int)) : Post := ⟨roomR t, .c (.bool (rackB t)), []⟩
def IsRack_ct : List AD → Option Post
  | [.agg [.rows .i64 (t)]] => some (IsRack_p t)
  | _ => none
def IsRack_G : List (Nat × Ctr) := [(67, ⟨[], IsTable_ct⟩), (68, ⟨[], permutationRows_ct⟩), (69, ⟨[], rackFault_ct⟩)]
def IsRack_V (t : List (List Int)) : Prop :=
 (((roomR t)∧True)∧(BrP (tabB t) (((roomR t)∧True)∧(BrP (List.all t permB) (((tabB t = true)∧True)∧((Option.isNone (rkF t) = rackB t)∧True)) ((false = rackB t)∧True))) ((false = rackB t)∧True)))
theorem IsRack_vc (t : List (List Int)) : runF Tryz.prog (gam IsRack_G) noWr noAnn Tryz.f34 (bodyOf Tryz.f34) [] [.agg [.rows .i64 (t)]] (IsRack_p t) = IsRack_V t := by kernel_rfl
theorem IsRack_ok (t : List (List Int)) (hpre : (IsRack_p t).pre) : IsRack_V t := by
  simp only [IsRack_p, IsRack_V, BrP_iff, u1, u2, u3, u4, u5, u6, u7, u8, u9, v1, v2, v3, v4, v5, v6, v7, v8, v9, w1, w2, w3, w4, markL_length, inB, InR, room, bdsOk] at hpre ⊢
  refine ⟨hpre, fun h => ⟨hpre, fun h2 => ⟨h, ?_⟩, fun h2 => ?_⟩, fun h => ?_⟩
  · rw [rackB, h, h2]; rfl
  · rw [rackB, h2]; simp
  · rw [rackB, h]; rfl
theorem IsRack_fits : Fits Tryz.prog 34 ⟨[], IsRack_ct⟩ := by
  refine ffn (Γ := gam IsRack_G) (gok_cons IsTable_fits (gok_cons permutationRows_fits (gok_cons rackFault_fits gok_nil))) Tryz.func34 fun ds p h hp => ?_
  unfold IsRack_ct at h
  split at h
  · cases h
    exact ⟨noWr, noAnn, by rw [IsRack_vc]; exact IsRack_ok _  hp⟩
  · cases h
def rcZ (t : List (List Int)) (m : Int) (f : List (List Int)) (x y z : Nat) : Option Unit := if (en f y z + en f x (en t y z).toNat).tmod m = (en f x z + en f (en t x y).toNat (en t x z).toNat).tmod m then none else some ()
def rcY (t : List (List Int)) (m : Int) (f : List (List Int)) (x y : Nat) : Option Unit := firstO t.length (rcZ t m f x y) t.length
def rcX (t : List (List Int)) (m : Int) (f : List (List Int)) (x : Nat) : Option Unit := firstO t.length (rcY t m f x) t.length
def rcF (t : List (List Int)) (m : Int) (f : List (List Int)) : Option Unit := firstO t.length (rcX t m f) t.length
def isRackCocycle_p (t : List (List Int)) (m : Int) (f : List (List Int)) : Post := ⟨tabB t = true ∧ matB (t.length : Int) m f = true, .c (.bool ((rcF t m f).isNone)), []⟩
def isRackCocycle_ct : List AD → Option Post
  | [.c (.rows .i64 (t)), .c (.int .i64 (m)), .c (.rows .i64 (f))] => some (isRackCocycle_p t m f)
  | _ => none
def isRackCocycle_ann (t : List (List Int)) (m : Int) (f : List (List Int)) : Nat → Option Ann
  | 0 => some (Ann.mk ((Nat)) (fun i => ⟨[(0, .c (.ro (.rows .i64 (t)))), (1, .c (.int .i64 (m))), (2, .c (.ro (.rows .i64 (f)))), (14, .c (.int .i64 ((t.length : Int)))), (15, .c (.int .i64 ((i : Int))))], []⟩) (fun i => i ≤ t.length ∧ rcF t m f = firstO t.length (rcX t m f) (t.length - i)) (fun i => t.length - i) (fun i => fun b_ => match b_ with | 2 => some (Ann.mk ((Nat)) (fun j => ⟨[(0, .c (.ro (.rows .i64 (t)))), (1, .c (.int .i64 (m))), (2, .c (.ro (.rows .i64 (f)))), (14, .c (.int .i64 ((t.length : Int)))), (15, .c (.int .i64 ((i : Int)))), (7, .c (.int .i64 ((i : Int)))), (21, .c (.ro (.ints .i64 ((t.getD i []))))), (22, .c (.int .i64 ((t.length : Int)))), (23, .c (.int .i64 ((j : Int))))], []⟩) (fun j => j ≤ t.length ∧ i < t.length ∧ rcF t m f = (firstO t.length (rcY t m f i) (t.length - j)).or (firstO t.length (rcX t m f) (t.length - (i + 1)))) (fun j => t.length - j) (fun j => fun b_ => match b_ with | 4 => some (Ann.mk ((Nat)) (fun k => ⟨[(0, .c (.ro (.rows .i64 (t)))), (1, .c (.int .i64 (m))), (2, .c (.ro (.rows .i64 (f)))), (14, .c (.int .i64 ((t.length : Int)))), (15, .c (.int .i64 ((i : Int)))), (7, .c (.int .i64 ((i : Int)))), (21, .c (.ro (.ints .i64 ((t.getD i []))))), (22, .c (.int .i64 ((t.length : Int)))), (23, .c (.int .i64 ((j : Int)))), (8, .c (.int .i64 ((j : Int)))), (9, .c (.int .i64 ((t.getD i []).getD j 0))), (31, .c (.ro (.ints .i64 ((t.getD i []))))), (32, .c (.int .i64 ((t.length : Int)))), (33, .c (.int .i64 ((k : Int))))], []⟩) (fun k => k ≤ t.length ∧ j < t.length ∧ rcF t m f = ((firstO t.length (rcZ t m f i j) (t.length - k)).or (firstO t.length (rcY t m f i) (t.length - (j + 1)))).or (firstO t.length (rcX t m f) (t.length - (i + 1)))) (fun k => t.length - k) (fun _ => noAnn)) | _ => none)) | _ => none))
  | _ => none
def isRackCocycle_G : List (Nat × Ctr) := []
def isRackCocycle_c1 (t : List (List Int)) (m : Int) (f : List (List Int)) (x0 : Nat) (x1 : Nat) (x2 : Nat) := (Option.or (firstO (t.length) (rcZ t m f x0 x1) (t.length - x2)) (firstO (t.length) (rcY t m f x0) (t.length - (x1 + (1:Nat)))))
def isRackCocycle_c2 (t : List (List Int)) (m : Int) (f : List (List Int)) (x0 : Nat) := (firstO (t.length) (rcX t m f) (t.length - (x0 + (1:Nat))))
def isRackCocycle_V (t : List (List Int)) (m : Int) (f : List (List Int)) : Prop :=
 ((∃ x0 : Nat, (((x0 ≤ t.length)∧(rcF t m f = firstO (t.length) (rcX t m f) (t.length - x0)))∧((t = t)∧((m = m)∧((f = f)∧(((↑(t.length):Int) = (↑(t.length):Int))∧((0:Int) = (↑x0:Int))))))))∧(∀ x1 : Nat, (((x1 ≤ t.length)∧(rcF t m f = firstO (t.length) (rcX t m f) (t.length - x1))) → (BrP (decide ((↑x1:Int) < (↑(t.length):Int))) ((inB (↑x1:Int) (t.length))∧((∃ x2 : Nat, (((x2 ≤ t.length)∧((x1 < t.length)∧(rcF t m f = Option.or (firstO (t.length) (rcY t m f x1) (t.length - x2)) (isRackCocycle_c2 t m f x1))))∧((t = t)∧((m = m)∧((f = f)∧(((↑(t.length):Int) = (↑(t.length):Int))∧(((↑x1:Int) = (↑x1:Int))∧(((↑x1:Int) = (↑x1:Int))∧((t.getD ((↑x1:Int).toNat) [] = t.getD x1 [])∧(((↑((t.getD ((↑x1:Int).toNat) []).length):Int) = (↑(t.length):Int))∧((0:Int) = (↑x2:Int))))))))))))∧(∀ x3 : Nat, (((x3 ≤ t.length)∧((x1 < t.length)∧(rcF t m f = Option.or (firstO (t.length) (rcY t m f x1) (t.length - x3)) (isRackCocycle_c2 t m f x1)))) → (BrP (decide ((↑x3:Int) < (↑(t.length):Int))) ((inB (↑x3:Int) ((t.getD x1 []).length))∧((inB (↑x1:Int) (t.length))∧((∃ x4 : Nat, (((x4 ≤ t.length)∧((x3 < t.length)∧(rcF t m f = Option.or (isRackCocycle_c1 t m f x1 x3 x4) (isRackCocycle_c2 t m f x1))))∧((t = t)∧((m = m)∧((f = f)∧(((↑(t.length):Int) = (↑(t.length):Int))∧(((↑x1:Int) = (↑x1:Int))∧(((↑x1:Int) = (↑x1:Int))∧((t.getD x1 [] = t.getD x1 [])∧(((↑(t.length):Int) = (↑(t.length):Int))∧(((↑x3:Int) = (↑x3:Int))∧(((↑x3:Int) = (↑x3:Int)) ∧
 (((List.getD t x1 []).getD ((↑x3:Int).toNat) (0:Int) = (List.getD t x1 []).getD x3 (0:Int))∧((t.getD ((↑x1:Int).toNat) [] = t.getD x1 [])∧(((↑((t.getD ((↑x1:Int).toNat) []).length):Int) = (↑(t.length):Int))∧((0:Int) = (↑x4:Int)))))))))))))))))∧(∀ x5 : Nat, (((x5 ≤ t.length)∧((x3 < t.length)∧(rcF t m f = Option.or (isRackCocycle_c1 t m f x1 x3 x5) (isRackCocycle_c2 t m f x1)))) → (BrP (decide ((↑x5:Int) < (↑(t.length):Int))) ((inB (↑x5:Int) ((t.getD x1 []).length))∧((inB (↑x3:Int) (t.length))∧((inB (↑x5:Int) ((t.getD ((↑x3:Int).toNat) []).length))∧((inB (↑x3:Int) (f.length))∧((inB (↑x5:Int) ((f.getD ((↑x3:Int).toNat) []).length))∧((inB (↑x1:Int) (f.length))∧((inB ((List.getD t ((↑x3:Int).toNat) []).getD ((↑x5:Int).toNat) (0:Int)) ((f.getD ((↑x1:Int).toNat) []).length))∧((InR ((List.getD f ((↑x3:Int).toNat) []).getD ((↑x5:Int).toNat) (0:Int) + (List.getD f ((↑x1:Int).toNat) []).getD (((List.getD t ((↑x3:Int).toNat) []).getD ((↑x5:Int).toNat) (0:Int)).toNat) (0:Int)))∧((inB (↑x1:Int) (f.length))∧((inB (↑x5:Int) ((f.getD ((↑x1:Int).toNat) []).length))∧((InR ((List.getD f ((↑x3:Int).toNat) []).getD ((↑x5:Int).toNat) (0:Int) + (List.getD f ((↑x1:Int).toNat) []).getD (((List.getD t ((↑x3:Int).toNat) []).getD ((↑x5:Int).toNat) (0:Int)).toNat) (0:Int) - (List.getD f ((↑x1:Int).toNat) []).getD ((↑x5:Int).toNat) (0:Int)))∧((inB ((List.getD t x1 []).getD x3 (0:Int)) (f.length)) ∧
 ((inB ((List.getD t x1 []).getD ((↑x5:Int).toNat) (0:Int)) ((f.getD (((List.getD t x1 []).getD x3 (0:Int)).toNat) []).length))∧((InR ((List.getD f ((↑x3:Int).toNat) []).getD ((↑x5:Int).toNat) (0:Int) + (List.getD f ((↑x1:Int).toNat) []).getD (((List.getD t ((↑x3:Int).toNat) []).getD ((↑x5:Int).toNat) (0:Int)).toNat) (0:Int) - (List.getD f ((↑x1:Int).toNat) []).getD ((↑x5:Int).toNat) (0:Int) - (List.getD f ((List.getD (List.getD t x1 []) x3 (0:Int)).toNat) []).getD (((List.getD t x1 []).getD ((↑x5:Int).toNat) (0:Int)).toNat) (0:Int)))∧((m ≠ (0:Int))∧(BrP (Int.tmod ((List.getD f ((↑x3:Int).toNat) []).getD ((↑x5:Int).toNat) (0:Int) + (List.getD f ((↑x1:Int).toNat) []).getD (((List.getD t ((↑x3:Int).toNat) []).getD ((↑x5:Int).toNat) (0:Int)).toNat) (0:Int) - (List.getD f ((↑x1:Int).toNat) []).getD ((↑x5:Int).toNat) (0:Int) - (List.getD f ((List.getD (List.getD t x1 []) x3 (0:Int)).toNat) []).getD (((List.getD t x1 []).getD ((↑x5:Int).toNat) (0:Int)).toNat) (0:Int)) m != (0:Int)) ((false = Option.isNone (rcF t m f))∧True) ((InR ((↑x5:Int) + (1:Int)))∧(∃ x6 : Nat, (((x6 ≤ t.length)∧((x3 < t.length)∧(rcF t m f = Option.or (isRackCocycle_c1 t m f x1 x3 x6) (isRackCocycle_c2 t m f x1))))∧((t.length - x6 < t.length - x5)∧((t = t)∧((m = m)∧((f = f)∧(((↑(t.length):Int) = (↑(t.length):Int))∧(((↑x1:Int) = (↑x1:Int))∧(((↑x1:Int) = (↑x1:Int))∧((t.getD x1 [] = t.getD x1 [])∧(((↑(t.length):Int) = (↑(t.length):Int))∧(((↑x3:Int) = (↑x3:Int))∧(((↑x3:Int) = (↑x3:Int)) ∧
 (((List.getD t x1 []).getD x3 (0:Int) = (List.getD t x1 []).getD x3 (0:Int))∧((t.getD x1 [] = t.getD x1 [])∧(((↑(t.length):Int) = (↑(t.length):Int))∧((↑x5:Int) + (1:Int) = (↑x6:Int))))))))))))))))))))))))))))))))))) ((InR ((↑x3:Int) + (1:Int)))∧(∃ x7 : Nat, (((x7 ≤ t.length)∧((x1 < t.length)∧(rcF t m f = Option.or (firstO (t.length) (rcY t m f x1) (t.length - x7)) (isRackCocycle_c2 t m f x1))))∧((t.length - x7 < t.length - x3)∧((t = t)∧((m = m)∧((f = f)∧(((↑(t.length):Int) = (↑(t.length):Int))∧(((↑x1:Int) = (↑x1:Int))∧(((↑x1:Int) = (↑x1:Int))∧((t.getD x1 [] = t.getD x1 [])∧(((↑(t.length):Int) = (↑(t.length):Int))∧((↑x3:Int) + (1:Int) = (↑x7:Int)))))))))))))))))))) ((InR ((↑x1:Int) + (1:Int)))∧(∃ x8 : Nat, (((x8 ≤ t.length)∧(rcF t m f = firstO (t.length) (rcX t m f) (t.length - x8)))∧((t.length - x8 < t.length - x1)∧((t = t)∧((m = m)∧((f = f)∧(((↑(t.length):Int) = (↑(t.length):Int))∧((↑x1:Int) + (1:Int) = (↑x8:Int))))))))))))))) ((true = Option.isNone (rcF t m f))∧True)))))
theorem isRackCocycle_vc (t : List (List Int)) (m : Int) (f : List (List Int)) : runF Tryz.prog (gam isRackCocycle_G) noWr (isRackCocycle_ann t m f) Tryz.f36 (bodyOf Tryz.f36) [] [.c (.rows .i64 (t)), .c (.int .i64 (m)), .c (.rows .i64 (f))] (isRackCocycle_p t m f) = isRackCocycle_V t m f := by kernel_rfl
theorem isRackCocycle_ok (t : List (List Int)) (m : Int) (f : List (List Int)) (hpre : (isRackCocycle_p t m f).pre) : isRackCocycle_V t m f := by
  simp only [isRackCocycle_p, isRackCocycle_V, isRackCocycle_c1, isRackCocycle_c2, BrP_iff, u1, u2, u3, u4, u5, u6, u7, u8, u9, v1, v2, v3, v4, v5, v6, v7, v8, v9, w1, w2, w3, w4, markL_length, inB, InR, room, bdsOk] at hpre ⊢
  obtain ⟨hp1, hp2⟩ := hpre
  obtain ⟨n1, n2, ht⟩ := tabB_of hp1
  obtain ⟨m1, m2, m3, hf⟩ := matB_of hp2
  refine ⟨⟨0, ⟨by omega, rfl⟩, rfl⟩, fun i ⟨hi, hx⟩ => ⟨fun h => ⟨by omega, ⟨0, ⟨by omega, by omega, ?_⟩, by have := ht i (by omega); omega, rfl⟩, fun j ⟨hj, _, hy⟩ => ⟨fun h2 => ⟨by have := ht i (by omega); omega, by omega, ⟨0, ⟨by omega, by omega, ?_⟩, by have := ht i (by omega); omega, rfl⟩, fun k ⟨hk, _, hz⟩ => ⟨fun h3 => ?_, fun h3 => ?_⟩⟩, fun h2 => ?_⟩⟩, fun h => ?_⟩⟩
  · rw [hx, firstO_step _ _ i (by omega)]; rfl
  · rw [hy, firstO_step _ _ j (by omega)]; rfl
  · skip
    have a := ht i (by omega)
    have b := ht j (by omega)
    have c := b.2 k (by omega)
    have d := a.2 j (by omega)
    have e := a.2 k (by omega)
    have fi := hf i (by omega)
    have fj := hf j (by omega)
    have fd := hf ((t.getD i []).getD j 0).toNat (by omega)
    have g1 := fj.2 k (by omega)
    have g2 := fi.2 ((t.getD j []).getD k 0).toNat (by omega)
    have g3 := fi.2 k (by omega)
    have g4 := fd.2 ((t.getD i []).getD k 0).toNat (by omega)
    have key := tmod_sub (a := (f.getD j []).getD k 0 + (f.getD i []).getD ((t.getD j []).getD k 0).toNat 0) (b := (f.getD i []).getD k 0 + (f.getD ((t.getD i []).getD j 0).toNat []).getD ((t.getD i []).getD k 0).toNat 0) (m := m) (by omega) (by omega) m1
    rw [← Int.sub_sub] at key
    refine ⟨by omega, by omega, by omega, by omega, by omega, by omega, by omega, by omega, by omega, by omega, by omega, by omega, by omega, by omega, by omega, fun h4 => ?_, fun h4 => ⟨by omega, k + 1, ⟨by omega, by omega, ?_⟩, by omega, by omega⟩⟩
    · rw [hz, firstO_step _ _ k (by omega), show rcZ t m f i j k = some () from if_neg fun e => h4 (key.1 e)]; rfl
    · rw [hz, firstO_step _ _ k (by omega), show rcZ t m f i j k = none from if_pos (key.2 h4)]; rfl
  · refine ⟨by omega, j + 1, ⟨by omega, by omega, ?_⟩, by omega, by omega⟩
    rw [hz, show t.length - k = 0 by omega]; rfl
  · refine ⟨by omega, i + 1, ⟨by omega, ?_⟩, by omega, by omega⟩
    rw [hy, show t.length - j = 0 by omega]; rfl
  · rw [hx, show t.length - i = 0 by omega]; rfl
theorem isRackCocycle_fits : Fits Tryz.prog 36 ⟨[], isRackCocycle_ct⟩ := by
  refine ffn (Γ := gam isRackCocycle_G) gok_nil Tryz.func36 fun ds p h hp => ?_
  unfold isRackCocycle_ct at h
  split at h
  · cases h
    exact ⟨noWr, isRackCocycle_ann _ _ _ , by rw [isRackCocycle_vc]; exact isRackCocycle_ok _ _ _  hp⟩
  · cases h
def rcC (t : List (List Int)) (m : Int) (f : List (List Int)) : Bool × Int := if rackB t = true then (if matB (t.length : Int) m f = true then ((rcF t m f).isNone, 0) else (false, 2)) else (false, 1)
def iIsRC_p (t : List (List Int)) (m : Int) (f : List (List Int)) : Post := ⟨roomR t ∧ roomR f, .tup [.inl (.bool ((rcC t m f).1)), .inl (.int .i64 ((rcC t m f).2))], []⟩
def iIsRC_ct : List AD → Option Post
  | [.agg [.rows .i64 (t)], .c (.int .i64 (m)), .c (.rows .i64 (f))] => some (iIsRC_p t m f)
  | _ => none
def iIsRC_G : List (Nat × Ctr) := [(34, ⟨[], IsRack_ct⟩), (35, ⟨[], isMatrix_ct⟩), (36, ⟨[], isRackCocycle_ct⟩)]
def iIsRC_V (t : List (List Int)) (m : Int) (f : List (List Int)) : Prop :=
 (((roomR t)∧True)∧(BrP (!rackB t) (((false = (rcC t m f).1)∧(((1:Int) = (rcC t m f).2)∧True))∧True) (((roomR f)∧True)∧(BrP (!matB (↑(t.length):Int) m f) (((false = (rcC t m f).1)∧(((2:Int) = (rcC t m f).2)∧True))∧True) ((((tabB t = true)∧(matB (↑(t.length):Int) m f = true))∧True)∧(((Option.isNone (rcF t m f) = (rcC t m f).1)∧(((0:Int) = (rcC t m f).2)∧True))∧True))))))
theorem iIsRC_vc (t : List (List Int)) (m : Int) (f : List (List Int)) : runF Tryz.prog (gam iIsRC_G) noWr noAnn Tryz.f8 (bodyOf Tryz.f8) [] [.agg [.rows .i64 (t)], .c (.int .i64 (m)), .c (.rows .i64 (f))] (iIsRC_p t m f) = iIsRC_V t m f := by kernel_rfl
theorem iIsRC_ok (t : List (List Int)) (m : Int) (f : List (List Int)) (hpre : (iIsRC_p t m f).pre) : iIsRC_V t m f := by
  simp only [iIsRC_p, iIsRC_V, BrP_iff, u1, u2, u3, u4, u5, u6, u7, u8, u9, v1, v2, v3, v4, v5, v6, v7, v8, v9, w1, w2, w3, w4, markL_length, inB, InR, room, bdsOk] at hpre ⊢
  refine ⟨hpre.1, fun h => by simp [rcC, h], fun h => ⟨hpre.2, fun h2 => by simp [rcC, h, h2], fun hm => ?_⟩⟩
  rw [rcC, if_pos h, if_pos hm]
  exact ⟨⟨rackB_tab h, hm⟩, rfl, rfl⟩
theorem iIsRC_fits : Fits Tryz.prog 8 ⟨[], iIsRC_ct⟩ := by
  refine ffn (Γ := gam iIsRC_G) (gok_cons IsRack_fits (gok_cons isMatrix_fits (gok_cons isRackCocycle_fits gok_nil))) Tryz.func8 fun ds p h hp => ?_
  unfold iIsRC_ct at h
  split at h
  · cases h
    exact ⟨noWr, noAnn, by rw [iIsRC_vc]; exact iIsRC_ok _ _ _  hp⟩
  · cases h
def dotN (a b : List Int) : Nat → Int
  | 0 => 0
  | i + 1 => dotN a b i + a.getD i 0 * b.getD i 0
theorem mul_le36 {x y : Int} (h1 : 0 ≤ x ∧ x ≤ 6) (h2 : 0 ≤ y ∧ y ≤ 6) : 0 ≤ x * y ∧ x * y ≤ 36 :=
  ⟨Int.mul_nonneg h1.1 h2.1, Int.le_trans (Int.mul_le_mul h1.2 h2.2 h2.1 (by omega)) (by omega)⟩
theorem dotN_le {p : Int} {a b : List Int} (hp : p ≤ 7) (ha : allW 0 (p - 1) a = true) (hb : allW 0 (p - 1) b = true) : ∀ i, i ≤ a.length → i ≤ b.length → 0 ≤ dotN a b i ∧ dotN a b i ≤ 36 * (i : Int)
  | 0, _, _ => by simp [dotN]
  | i + 1, h1, h2 => by
    have h3 := dotN_le hp ha hb i (by omega) (by omega)
    have h4 := allW_get ha i (by omega)
    have h5 := allW_get hb i (by omega)
    have := mul_le36 (x := a.getD i 0) (y := b.getD i 0) (by omega) (by omega)
    simp only [dotN]
    omega
def primeB (p : Int) : Bool := decide (p = 2 ∨ p = 3 ∨ p = 5 ∨ p = 7)
def pairOk (p : Int) (a b : List Int) : Bool := primeB p && decide (a.length ≤ 512) && decide (a.length = b.length) && (allW 0 (p - 1) a && allW 0 (p - 1) b)
def pairC (p : Int) (a b : List Int) : Int × Int := if pairOk p a b = true then ((dotN a b a.length).tmod p, 0) else (0, 2)
def l15Prime_p (p : Int) : Post := ⟨True, .c (.bool (primeB p)), []⟩
def l15Prime_ct : List AD → Option Post
  | [.c (.int .i64 (p))] => some (l15Prime_p p)
  | _ => none
def l15Prime_G : List (Nat × Ctr) := []
def l15Prime_V (p : Int) : Prop :=
 (BrP (p == (2:Int)) ((true = primeB p)∧True) (BrP (p == (3:Int)) ((true = primeB p)∧True) (BrP (p == (5:Int)) ((true = primeB p)∧True) (((p == (7:Int)) = primeB p)∧True))))
theorem l15Prime_vc (p : Int) : runF Tryz.prog (gam l15Prime_G) noWr noAnn Tryz.f22 (bodyOf Tryz.f22) [] [.c (.int .i64 (p))] (l15Prime_p p) = l15Prime_V p := by kernel_rfl
theorem l15Prime_ok (p : Int) (hpre : (l15Prime_p p).pre) : l15Prime_V p := by
  simp only [l15Prime_p, l15Prime_V, BrP_iff, u1, u2, u3, u4, u5, u6, u7, u8, u9, v1, v2, v3, v4, v5, v6, v7, v8, v9, w1, w2, w3, w4, markL_length, inB, InR, room, bdsOk] at hpre ⊢
  refine ⟨fun h => ?_, fun h => ⟨fun h => ?_, fun h => ⟨fun h => ?_, fun h => ?_⟩⟩⟩ <;> simp [primeB, *]
  rw [Bool.eq_iff_iff]; simp
theorem l15Prime_fits : Fits Tryz.prog 22 ⟨[], l15Prime_ct⟩ := by
  refine ffn (Γ := gam l15Prime_G) gok_nil Tryz.func22 fun ds p h hp => ?_
  unfold l15Prime_ct at h
  split at h
  · cases h
    exact ⟨noWr, noAnn, by rw [l15Prime_vc]; exact l15Prime_ok _  hp⟩
  · cases h
def isFieldPrime_p (p : Int) : Post := ⟨True, .c (.bool (primeB p)), []⟩
def isFieldPrime_ct : List AD → Option Post
  | [.c (.int .i64 (p))] => some (isFieldPrime_p p)
  | _ => none
def isFieldPrime_G : List (Nat × Ctr) := []
def isFieldPrime_V (p : Int) : Prop :=
 (BrP (p == (2:Int)) ((true = primeB p)∧True) (BrP (p == (3:Int)) ((true = primeB p)∧True) (BrP (p == (5:Int)) ((true = primeB p)∧True) (((p == (7:Int)) = primeB p)∧True))))
theorem isFieldPrime_vc (p : Int) : runF Tryz.prog (gam isFieldPrime_G) noWr noAnn Tryz.f38 (bodyOf Tryz.f38) [] [.c (.int .i64 (p))] (isFieldPrime_p p) = isFieldPrime_V p := by kernel_rfl
theorem isFieldPrime_ok (p : Int) (hpre : (isFieldPrime_p p).pre) : isFieldPrime_V p := by
  simp only [isFieldPrime_p, isFieldPrime_V, BrP_iff, u1, u2, u3, u4, u5, u6, u7, u8, u9, v1, v2, v3, v4, v5, v6, v7, v8, v9, w1, w2, w3, w4, markL_length, inB, InR, room, bdsOk] at hpre ⊢
  refine ⟨fun h => ?_, fun h => ⟨fun h => ?_, fun h => ⟨fun h => ?_, fun h => ?_⟩⟩⟩ <;> simp [primeB, *]
  rw [Bool.eq_iff_iff]; simp
theorem isFieldPrime_fits : Fits Tryz.prog 38 ⟨[], isFieldPrime_ct⟩ := by
  refine ffn (Γ := gam isFieldPrime_G) gok_nil Tryz.func38 fun ds p h hp => ?_
  unfold isFieldPrime_ct at h
  split at h
  · cases h
    exact ⟨noWr, noAnn, by rw [isFieldPrime_vc]; exact isFieldPrime_ok _  hp⟩
  · cases h
def l15Pair_p (p : Int) (a : List Int) (b : List Int) : Post := ⟨2 ≤ p ∧ p ≤ 7 ∧ a.length ≤ 512 ∧ a.length = b.length ∧ allW 0 (p - 1) a = true ∧ allW 0 (p - 1) b = true, .c (.int .i64 ((dotN a b a.length).tmod p)), []⟩
def l15Pair_ct : List AD → Option Post
  | [.c (.int .i64 (p)), .c (.ints .i64 (a)), .c (.ints .i64 (b))] => some (l15Pair_p p a b)
  | _ => none
def l15Pair_ann (p : Int) (a : List Int) (b : List Int) : Nat → Option Ann
  | 0 => some (Ann.mk ((Nat)) (fun i => ⟨[(0, .c (.int .i64 (p))), (1, .c (.ro (.ints .i64 (a)))), (2, .c (.ro (.ints .i64 (b)))), (7, .c (.int .i64 ((dotN a b i).tmod p))), (8, .c (.int .i64 ((i : Int))))], []⟩) (fun i => i ≤ a.length) (fun i => a.length - i) (fun _ => noAnn))
  | _ => none
def l15Pair_G : List (Nat × Ctr) := []
def l15Pair_V (p : Int) (a : List Int) (b : List Int) : Prop :=
 ((∃ x0 : Nat, ((x0 ≤ a.length)∧((p = p)∧((a = a)∧((b = b)∧(((0:Int) = Int.tmod (dotN a b x0) p)∧((0:Int) = (↑x0:Int))))))))∧(∀ x1 : Nat, ((x1 ≤ a.length) → (BrP (decide ((↑x1:Int) < (↑(a.length):Int))) ((inB (↑x1:Int) (a.length))∧((inB (↑x1:Int) (b.length))∧((InR (a.getD ((↑x1:Int).toNat) (0:Int) * b.getD ((↑x1:Int).toNat) (0:Int)))∧((InR (Int.tmod (dotN a b x1) p + a.getD ((↑x1:Int).toNat) (0:Int) * b.getD ((↑x1:Int).toNat) (0:Int)))∧((p ≠ (0:Int))∧((InR ((↑x1:Int) + (1:Int)))∧(∃ x2 : Nat, ((x2 ≤ a.length)∧((a.length - x2 < a.length - x1)∧((p = p)∧((a = a)∧((b = b)∧((Int.tmod (Int.tmod (dotN a b x1) p + a.getD ((↑x1:Int).toNat) (0:Int) * b.getD ((↑x1:Int).toNat) (0:Int)) p = Int.tmod (dotN a b x2) p)∧((↑x1:Int) + (1:Int) = (↑x2:Int))))))))))))))) ((Int.tmod (dotN a b x1) p = Int.tmod (dotN a b (a.length)) p)∧True)))))
theorem l15Pair_vc (p : Int) (a : List Int) (b : List Int) : runF Tryz.prog (gam l15Pair_G) noWr (l15Pair_ann p a b) Tryz.f31 (bodyOf Tryz.f31) [] [.c (.int .i64 (p)), .c (.ints .i64 (a)), .c (.ints .i64 (b))] (l15Pair_p p a b) = l15Pair_V p a b := by kernel_rfl
theorem l15Pair_ok (p : Int) (a : List Int) (b : List Int) (hpre : (l15Pair_p p a b).pre) : l15Pair_V p a b := by
  simp only [l15Pair_p, l15Pair_V, BrP_iff, u1, u2, u3, u4, u5, u6, u7, u8, u9, v1, v2, v3, v4, v5, v6, v7, v8, v9, w1, w2, w3, w4, markL_length, inB, InR, room, bdsOk] at hpre ⊢
  obtain ⟨h1, h2, h3, h4, h5, h6⟩ := hpre
  refine ⟨⟨0, by omega, by simp [dotN], rfl⟩, fun i hi => ⟨fun h => ?_, fun h => ?_⟩⟩
  · have q1 := dotN_le h2 h5 h6 i hi (by omega)
    have q2 := allW_get h5 i (by omega)
    have q3 := allW_get h6 i (by omega)
    have q4 := mul_le36 (x := a.getD i 0) (y := b.getD i 0) (by omega) (by omega)
    have e1 : (dotN a b i).tmod p = dotN a b i % p := Int.tmod_eq_emod_of_nonneg q1.1
    have q5 := Int.emod_nonneg (dotN a b i) (show p ≠ 0 by omega)
    have q6 := Int.emod_lt_of_pos (dotN a b i) (show 0 < p by omega)
    rw [e1]
    refine ⟨by omega, by omega, by omega, by omega, by omega, by omega, i + 1, by omega, by omega, ?_, by omega⟩
    rw [Int.tmod_eq_emod_of_nonneg (by omega)]
    simp only [dotN]
    rw [Int.tmod_eq_emod_of_nonneg (by omega), Int.emod_add_emod]
  · rw [show i = a.length by omega]
theorem l15Pair_fits : Fits Tryz.prog 31 ⟨[], l15Pair_ct⟩ := by
  refine ffn (Γ := gam l15Pair_G) gok_nil Tryz.func31 fun ds p h hp => ?_
  unfold l15Pair_ct at h
  split at h
  · cases h
    exact ⟨noWr, l15Pair_ann _ _ _ , by rw [l15Pair_vc]; exact l15Pair_ok _ _ _  hp⟩
  · cases h
def pairing_p (p : Int) (a : List Int) (b : List Int) : Post := ⟨2 ≤ p ∧ p ≤ 7 ∧ a.length ≤ 512 ∧ a.length = b.length ∧ allW 0 (p - 1) a = true ∧ allW 0 (p - 1) b = true, .c (.int .i64 ((dotN a b a.length).tmod p)), []⟩
def pairing_ct : List AD → Option Post
  | [.c (.int .i64 (p)), .c (.ints .i64 (a)), .c (.ints .i64 (b))] => some (pairing_p p a b)
  | _ => none
def pairing_ann (p : Int) (a : List Int) (b : List Int) : Nat → Option Ann
  | 0 => some (Ann.mk ((Nat)) (fun i => ⟨[(0, .c (.int .i64 (p))), (2, .c (.ro (.ints .i64 (b)))), (7, .c (.int .i64 (dotN a b i))), (10, .c (.ro (.ints .i64 (a)))), (11, .c (.int .i64 ((a.length : Int)))), (12, .c (.int .i64 ((i : Int))))], []⟩) (fun i => i ≤ a.length) (fun i => a.length - i) (fun _ => noAnn))
  | _ => none
def pairing_G : List (Nat × Ctr) := []
def pairing_V (p : Int) (a : List Int) (b : List Int) : Prop :=
 ((∃ x0 : Nat, ((x0 ≤ a.length)∧((p = p)∧((b = b)∧(((0:Int) = dotN a b x0)∧((a = a)∧(((↑(a.length):Int) = (↑(a.length):Int))∧((0:Int) = (↑x0:Int)))))))))∧(∀ x1 : Nat, ((x1 ≤ a.length) → (BrP (decide ((↑x1:Int) < (↑(a.length):Int))) ((inB (↑x1:Int) (a.length))∧((inB (↑x1:Int) (b.length))∧((InR (a.getD ((↑x1:Int).toNat) (0:Int) * b.getD ((↑x1:Int).toNat) (0:Int)))∧((InR (dotN a b x1 + a.getD ((↑x1:Int).toNat) (0:Int) * b.getD ((↑x1:Int).toNat) (0:Int)))∧((InR ((↑x1:Int) + (1:Int)))∧(∃ x2 : Nat, ((x2 ≤ a.length)∧((a.length - x2 < a.length - x1)∧((p = p)∧((b = b)∧((dotN a b x1 + a.getD ((↑x1:Int).toNat) (0:Int) * b.getD ((↑x1:Int).toNat) (0:Int) = dotN a b x2)∧((a = a)∧(((↑(a.length):Int) = (↑(a.length):Int))∧((↑x1:Int) + (1:Int) = (↑x2:Int))))))))))))))) ((p ≠ (0:Int))∧((Int.tmod (dotN a b x1) p = Int.tmod (dotN a b (a.length)) p)∧True))))))
theorem pairing_vc (p : Int) (a : List Int) (b : List Int) : runF Tryz.prog (gam pairing_G) noWr (pairing_ann p a b) Tryz.f28 (bodyOf Tryz.f28) [] [.c (.int .i64 (p)), .c (.ints .i64 (a)), .c (.ints .i64 (b))] (pairing_p p a b) = pairing_V p a b := by kernel_rfl
theorem pairing_ok (p : Int) (a : List Int) (b : List Int) (hpre : (pairing_p p a b).pre) : pairing_V p a b := by
  simp only [pairing_p, pairing_V, BrP_iff, u1, u2, u3, u4, u5, u6, u7, u8, u9, v1, v2, v3, v4, v5, v6, v7, v8, v9, w1, w2, w3, w4, markL_length, inB, InR, room, bdsOk] at hpre ⊢
  obtain ⟨h1, h2, h3, h4, h5, h6⟩ := hpre
  refine ⟨⟨0, by omega, by simp [dotN], rfl⟩, fun i hi => ⟨fun h => ?_, fun h => ?_⟩⟩
  · have q1 := dotN_le h2 h5 h6 i hi (by omega)
    have q2 := allW_get h5 i (by omega)
    have q3 := allW_get h6 i (by omega)
    have q4 := mul_le36 (x := a.getD i 0) (y := b.getD i 0) (by omega) (by omega)
    exact ⟨by omega, by omega, by omega, by omega, by omega, i + 1, by omega, by omega, rfl, by omega⟩
  · rw [show i = a.length by omega]
    exact ⟨by omega, rfl⟩
theorem pairing_fits : Fits Tryz.prog 28 ⟨[], pairing_ct⟩ := by
  refine ffn (Γ := gam pairing_G) gok_nil Tryz.func28 fun ds p h hp => ?_
  unfold pairing_ct at h
  split at h
  · cases h
    exact ⟨noWr, pairing_ann _ _ _ , by rw [pairing_vc]; exact pairing_ok _ _ _  hp⟩
  · cases h
theorem primeB_le {p : Int} (h : primeB p = true) : 2 ≤ p ∧ p ≤ 7 := by
  have := of_decide_eq_true h
  omega
theorem pairC_no {p : Int} {a b : List Int} (h : pairOk p a b = false) : 0 = (pairC p a b).1 ∧ 2 = (pairC p a b).2 := by simp [pairC, h]
theorem pairC_yes {p : Int} {a b : List Int} (h : pairOk p a b = true) : (dotN a b a.length).tmod p = (pairC p a b).1 ∧ 0 = (pairC p a b).2 := by simp [pairC, h]
def iPairChains_p (p : Int) (a : List Int) (b : List Int) : Post := ⟨a.length ≤ 1048576 ∧ b.length ≤ 1048576, .tup [.inl (.int .i64 ((pairC p a b).1)), .inl (.int .i64 ((pairC p a b).2))], []⟩
def iPairChains_ct : List AD → Option Post
  | [.c (.int .i64 (p)), .c (.ints .i64 (a)), .c (.ints .i64 (b))] => some (iPairChains_p p a b)
  | _ => none
def iPairChains_G : List (Nat × Ctr) := [(38, ⟨[], isFieldPrime_ct⟩), (39, ⟨[], allWithin_ct⟩), (28, ⟨[], pairing_ct⟩)]
def iPairChains_V (p : Int) (a : List Int) (b : List Int) : Prop :=
 ((True∧True)∧(BrP (!primeB p) ((((0:Int) = (pairC p a b).1)∧(((2:Int) = (pairC p a b).2)∧True))∧True) (BrP (decide ((512:Int) < (↑(a.length):Int))) ((((0:Int) = (pairC p a b).1)∧(((2:Int) = (pairC p a b).2)∧True))∧True) (BrP ((↑(a.length):Int) != (↑(b.length):Int)) ((((0:Int) = (pairC p a b).1)∧(((2:Int) = (pairC p a b).2)∧True))∧True) ((InR (p - (1:Int)))∧(((room (a.length))∧True)∧(BrP (!allW (0:Int) (p - (1:Int)) a) ((((0:Int) = (pairC p a b).1)∧(((2:Int) = (pairC p a b).2)∧True))∧True) ((InR (p - (1:Int)))∧(((room (b.length))∧True)∧(BrP (!allW (0:Int) (p - (1:Int)) b) ((((0:Int) = (pairC p a b).1)∧(((2:Int) = (pairC p a b).2)∧True))∧True) (((((2:Int) ≤ p)∧((p ≤ (7:Int))∧((a.length ≤ (512:Nat))∧((a.length = b.length)∧((allW (0:Int) (p - (1:Int)) a = true)∧(allW (0:Int) (p - (1:Int)) b = true))))))∧True)∧(((Int.tmod (dotN a b (a.length)) p = (pairC p a b).1)∧(((0:Int) = (pairC p a b).2)∧True))∧True))))))))))))
theorem iPairChains_vc (p : Int) (a : List Int) (b : List Int) : runF Tryz.prog (gam iPairChains_G) noWr noAnn Tryz.f12 (bodyOf Tryz.f12) [] [.c (.int .i64 (p)), .c (.ints .i64 (a)), .c (.ints .i64 (b))] (iPairChains_p p a b) = iPairChains_V p a b := by kernel_rfl
theorem iPairChains_ok (p : Int) (a : List Int) (b : List Int) (hpre : (iPairChains_p p a b).pre) : iPairChains_V p a b := by
  simp only [iPairChains_p, iPairChains_V, BrP_iff, u1, u2, u3, u4, u5, u6, u7, u8, u9, v1, v2, v3, v4, v5, v6, v7, v8, v9, w1, w2, w3, w4, markL_length, inB, InR, room, bdsOk] at hpre ⊢
  refine ⟨fun h => pairC_no (by simp [pairOk, h]), fun hp => ⟨fun h => pairC_no (by simp [pairOk]; omega), fun h5 => ⟨fun h => pairC_no (by simp [pairOk]; omega), fun hl => ?_⟩⟩⟩
  have hq := primeB_le hp
  exact ⟨by omega, by omega, fun h => pairC_no (by simp [pairOk, h]), fun ha => ⟨by omega, by omega, fun h => pairC_no (by simp [pairOk, h]), fun hb =>
    ⟨⟨hq.1, hq.2, by omega, by omega, ha, hb⟩, pairC_yes (by rw [pairOk, ha, hb, hp, decide_eq_true (by omega), decide_eq_true (by omega)]; rfl)⟩⟩⟩
theorem iPairChains_fits : Fits Tryz.prog 12 ⟨[], iPairChains_ct⟩ := by
  refine ffn (Γ := gam iPairChains_G) (gok_cons isFieldPrime_fits (gok_cons allWithin_fits (gok_cons pairing_fits gok_nil))) Tryz.func12 fun ds p h hp => ?_
  unfold iPairChains_ct at h
  split at h
  · cases h
    exact ⟨noWr, noAnn, by rw [iPairChains_vc]; exact iPairChains_ok _ _ _  hp⟩
  · cases h
def dgB (t : List (List Int)) (p k : Int) : Bool := primeB p && degB t.length k
def dgC (t : List (List Int)) (p k : Int) : Int := if rackB t = true then (if dgB t p k = true then 0 else 2) else 1
def chB (t : List (List Int)) (p k : Int) (c : List Int) : Bool := decide ((c.length : Int) = (t.length : Int) ^ k.toNat) && allW 0 (p - 1) c
def chC (t : List (List Int)) (p k : Int) (c : List Int) : Int := if rackB t = true then (if dgB t p k = true then (if chB t p k c = true then 0 else 2) else 2) else 1
theorem allW_inP {p : Int} {c : List Int} (h : allW 0 (p - 1) c = true) : inP p c := fun q hq => by
  have := List.all_eq_true.1 h _ (getD_mem c 0 q hq)
  simpa using this
theorem chB_of {t : List (List Int)} {p k : Int} {c : List Int} (h : chB t p k c = true) : c.length = t.length ^ k.toNat ∧ inP p c ∧ allW 0 (p - 1) c = true := by
  simp only [chB, Bool.and_eq_true, decide_eq_true_eq] at h
  refine ⟨?_, allW_inP h.2, h.2⟩
  have := h.1
  rw [← Int.natCast_pow] at this
  exact Int.natCast_inj.1 this
theorem dgC_ok {t : List (List Int)} {p k : Int} (h : dgC t p k = 0) : rackB t = true ∧ primeB p = true ∧ degB t.length k = true ∧ dgB t p k = true := by
  unfold dgC at h
  split at h
  · split at h
    · rename_i a b
      have := b
      simp only [dgB, Bool.and_eq_true] at this
      exact ⟨a, this.1, this.2, b⟩
    · omega
  · omega
theorem dgC_no {t : List (List Int)} {p k : Int} (c : List Int) (h : dgC t p k ≠ 0) : dgC t p k = chC t p k c := by
  unfold dgC at h ⊢
  unfold chC
  split
  · rename_i a
    rw [if_pos a] at h
    split
    · rename_i b; rw [if_pos b] at h; omega
    · rfl
  · rfl
theorem chC_ok {t : List (List Int)} {p k : Int} {c : List Int} (h : chC t p k c = 0) : rackB t = true ∧ primeB p = true ∧ degB t.length k = true ∧ chB t p k c = true ∧ dgC t p k = 0 := by
  unfold chC at h
  split at h
  · split at h
    · split at h
      · rename_i a b d
        have e : dgC t p k = 0 := by rw [dgC, if_pos a, if_pos b]
        obtain ⟨x, y, z, _⟩ := dgC_ok e
        exact ⟨x, y, z, d, e⟩
      · omega
    · omega
  · omega
theorem degB_of {n k : Int} (h : degB n k = true) : 0 ≤ k ∧ k ≤ 1000 ∧ n ^ k.toNat ≤ 512 := by
  simp only [degB, Bool.and_eq_true, decide_eq_true_eq] at h
  omega
def checkDegree_p (t : List (List Int)) (p : Int) (k : Int) : Post := ⟨roomR t, .c (.int .i64 (dgC t p k)), []⟩
def checkDegree_ct : List AD → Option Post
  | [.agg [.rows .i64 (t)], .c (.int .i64 (p)), .c (.int .i64 (k))] => some (checkDegree_p t p k)
  | _ => none
def checkDegree_G : List (Nat × Ctr) := [(34, ⟨[], IsRack_ct⟩), (38, ⟨[], isFieldPrime_ct⟩), (41, ⟨[], isDegree_ct⟩)]
def checkDegree_V (t : List (List Int)) (p : Int) (k : Int) : Prop :=
 (((roomR t)∧True)∧(BrP (!rackB t) (((1:Int) = dgC t p k)∧True) ((True∧True)∧(BrP (!primeB p) (((2:Int) = dgC t p k)∧True) (((((1:Int) ≤ (↑(t.length):Int))∧((↑(t.length):Int) ≤ (12:Int)))∧True)∧(BrP (!degB (↑(t.length):Int) k) (((2:Int) = dgC t p k)∧True) (((0:Int) = dgC t p k)∧True)))))))
theorem checkDegree_vc (t : List (List Int)) (p : Int) (k : Int) : runF Tryz.prog (gam checkDegree_G) noWr noAnn Tryz.f40 (bodyOf Tryz.f40) [] [.agg [.rows .i64 (t)], .c (.int .i64 (p)), .c (.int .i64 (k))] (checkDegree_p t p k) = checkDegree_V t p k := by kernel_rfl
theorem checkDegree_ok (t : List (List Int)) (p : Int) (k : Int) (hpre : (checkDegree_p t p k).pre) : checkDegree_V t p k := by
  simp only [checkDegree_p, checkDegree_V, BrP_iff, u1, u2, u3, u4, u5, u6, u7, u8, u9, v1, v2, v3, v4, v5, v6, v7, v8, v9, w1, w2, w3, w4, markL_length, inB, InR, room, bdsOk] at hpre ⊢
  refine ⟨hpre, fun h => by simp [dgC, h], fun h => ⟨fun h2 => by simp [dgC, h, dgB, h2], fun h2 => ?_⟩⟩
  have hn := tabB_of (rackB_tab h)
  exact ⟨by omega, fun h3 => by simp [dgC, h, dgB, h2, h3], fun h3 => by simp [dgC, h, dgB, h2, h3]⟩
theorem checkDegree_fits : Fits Tryz.prog 40 ⟨[], checkDegree_ct⟩ := by
  refine ffn (Γ := gam checkDegree_G) (gok_cons IsRack_fits (gok_cons isFieldPrime_fits (gok_cons isDegree_fits gok_nil))) Tryz.func40 fun ds p h hp => ?_
  unfold checkDegree_ct at h
  split at h
  · cases h
    exact ⟨noWr, noAnn, by rw [checkDegree_vc]; exact checkDegree_ok _ _ _  hp⟩
  · cases h
def checkChain_p (t : List (List Int)) (p : Int) (k : Int) (c : List Int) : Post := ⟨roomR t ∧ c.length ≤ 1099511627776, .c (.int .i64 (chC t p k c)), []⟩
def checkChain_ct : List AD → Option Post
  | [.agg [.rows .i64 (t)], .c (.int .i64 (p)), .c (.int .i64 (k)), .c (.ints .i64 (c))] => some (checkChain_p t p k c)
  | _ => none
def checkChain_G : List (Nat × Ctr) := [(40, ⟨[], checkDegree_ct⟩), (62, ⟨[], tuplesOf_ct⟩), (39, ⟨[], allWithin_ct⟩)]
def checkChain_V (t : List (List Int)) (p : Int) (k : Int) (c : List Int) : Prop :=
 (((roomR t)∧True)∧(BrP (dgC t p k != (0:Int)) ((dgC t p k = chC t p k c)∧True) (((((1:Int) ≤ (↑(t.length):Int))∧(((↑(t.length):Int) ≤ (12:Int))∧(degB (↑(t.length):Int) k = true)))∧True)∧(BrP ((↑(c.length):Int) != (↑(t.length):Int) ^ k.toNat) (((2:Int) = chC t p k c)∧True) ((InR (p - (1:Int)))∧(((room (c.length))∧True)∧(BrP (!allW (0:Int) (p - (1:Int)) c) (((2:Int) = chC t p k c)∧True) (((0:Int) = chC t p k c)∧True))))))))
theorem checkChain_vc (t : List (List Int)) (p : Int) (k : Int) (c : List Int) : runF Tryz.prog (gam checkChain_G) noWr noAnn Tryz.f26 (bodyOf Tryz.f26) [] [.agg [.rows .i64 (t)], .c (.int .i64 (p)), .c (.int .i64 (k)), .c (.ints .i64 (c))] (checkChain_p t p k c) = checkChain_V t p k c := by kernel_rfl
theorem checkChain_ok (t : List (List Int)) (p : Int) (k : Int) (c : List Int) (hpre : (checkChain_p t p k c).pre) : checkChain_V t p k c := by
  simp only [checkChain_p, checkChain_V, BrP_iff, u1, u2, u3, u4, u5, u6, u7, u8, u9, v1, v2, v3, v4, v5, v6, v7, v8, v9, w1, w2, w3, w4, markL_length, inB, InR, room, bdsOk] at hpre ⊢
  obtain ⟨a, b⟩ := hpre
  refine ⟨a, fun h => dgC_no c h, fun h => ?_⟩
  obtain ⟨h1, h2, h3, h4⟩ := dgC_ok h
  have hn := tabB_of (rackB_tab h1)
  have hp := primeB_le h2
  refine ⟨⟨by omega, by omega, h3⟩, fun h5 => ?_, fun h5 => ⟨by omega, b, fun h6 => ?_, fun h6 => ?_⟩⟩
  · rw [chC, if_pos h1, if_pos h4, if_neg]; simp [chB, h5]
  · rw [chC, if_pos h1, if_pos h4, if_neg]; simp [chB, h6]
  · rw [chC, if_pos h1, if_pos h4, if_pos]; simp [chB, h5, h6]
theorem checkChain_fits : Fits Tryz.prog 26 ⟨[], checkChain_ct⟩ := by
  refine ffn (Γ := gam checkChain_G) (gok_cons checkDegree_fits (gok_cons tuplesOf_fits (gok_cons allWithin_fits gok_nil))) Tryz.func26 fun ds p h hp => ?_
  unfold checkChain_ct at h
  split at h
  · cases h
    exact ⟨noWr, noAnn, by rw [checkChain_vc]; exact checkChain_ok _ _ _ _  hp⟩
  · cases h
def l15Code_p (t : List (List Int)) (p : Int) (k : Int) : Post := ⟨roomR t, .c (.int .i64 (dgC t p k)), []⟩
def l15Code_ct : List AD → Option Post
  | [.agg [.rows .i64 (t)], .c (.int .i64 (p)), .c (.int .i64 (k))] => some (l15Code_p t p k)
  | _ => none
def l15Code_G : List (Nat × Ctr) := [(21, ⟨[], l03Is_ct⟩), (22, ⟨[], l15Prime_ct⟩), (44, ⟨[], l15Allowed_ct⟩)]
def l15Code_V (t : List (List Int)) (p : Int) (k : Int) : Prop :=
 (((roomR t)∧True)∧(BrP (!rackB t) (((1:Int) = dgC t p k)∧True) ((True∧True)∧(BrP (!primeB p) (((2:Int) = dgC t p k)∧True) (((((1:Int) ≤ (↑(t.length):Int))∧((↑(t.length):Int) ≤ (12:Int)))∧True)∧(BrP (!degB (↑(t.length):Int) k) (((2:Int) = dgC t p k)∧True) (((0:Int) = dgC t p k)∧True)))))))
theorem l15Code_vc (t : List (List Int)) (p : Int) (k : Int) : runF Tryz.prog (gam l15Code_G) noWr noAnn Tryz.f29 (bodyOf Tryz.f29) [] [.agg [.rows .i64 (t)], .c (.int .i64 (p)), .c (.int .i64 (k))] (l15Code_p t p k) = l15Code_V t p k := by kernel_rfl
theorem l15Code_ok (t : List (List Int)) (p : Int) (k : Int) (hpre : (l15Code_p t p k).pre) : l15Code_V t p k := by
  simp only [l15Code_p, l15Code_V, BrP_iff, u1, u2, u3, u4, u5, u6, u7, u8, u9, v1, v2, v3, v4, v5, v6, v7, v8, v9, w1, w2, w3, w4, markL_length, inB, InR, room, bdsOk] at hpre ⊢
  refine ⟨hpre, fun h => by simp [dgC, h], fun h => ⟨fun h2 => by simp [dgC, h, dgB, h2], fun h2 => ?_⟩⟩
  have hn := tabB_of (rackB_tab h)
  exact ⟨by omega, fun h3 => by simp [dgC, h, dgB, h2, h3], fun h3 => by simp [dgC, h, dgB, h2, h3]⟩
theorem l15Code_fits : Fits Tryz.prog 29 ⟨[], l15Code_ct⟩ := by
  refine ffn (Γ := gam l15Code_G) (gok_cons l03Is_fits (gok_cons l15Prime_fits (gok_cons l15Allowed_fits gok_nil))) Tryz.func29 fun ds p h hp => ?_
  unfold l15Code_ct at h
  split at h
  · cases h
    exact ⟨noWr, noAnn, by rw [l15Code_vc]; exact l15Code_ok _ _ _  hp⟩
  · cases h
def l15Chain_p (n : Int) (p : Int) (k : Int) (c : List Int) : Post := ⟨1 ≤ n ∧ n ≤ 12 ∧ degB n k = true ∧ 2 ≤ p ∧ p ≤ 7 ∧ c.length ≤ 1099511627776, .c (.bool (decide ((c.length : Int) = n ^ k.toNat) && allW 0 (p - 1) c)), []⟩
def l15Chain_ct : List AD → Option Post
  | [.c (.int .i64 (n)), .c (.int .i64 (p)), .c (.int .i64 (k)), .c (.ints .i64 (c))] => some (l15Chain_p n p k c)
  | _ => none
def l15Chain_ann (n : Int) (p : Int) (k : Int) (c : List Int) : Nat → Option Ann
  | 0 => some (Ann.mk ((Nat)) (fun i => ⟨[(0, .c (.int .i64 (n))), (1, .c (.int .i64 (p))), (2, .c (.int .i64 (k))), (3, .c (.ro (.ints .i64 (c)))), (9, .c (.int .i64 ((i : Int))))], []⟩) (fun i => i ≤ c.length ∧ allW 0 (p - 1) c = allW 0 (p - 1) (c.drop i)) (fun i => c.length - i) (fun _ => noAnn))
  | _ => none
def l15Chain_G : List (Nat × Ctr) := [(57, ⟨[], l01In_ct⟩), (56, ⟨[], l15Power_ct⟩)]
def l15Chain_V (n : Int) (p : Int) (k : Int) (c : List Int) : Prop :=
 ((∃ x0 : Nat, (((x0 ≤ c.length)∧(allW (0:Int) (p - (1:Int)) c = allW (0:Int) (p - (1:Int)) (List.drop x0 c)))∧((n = n)∧((p = p)∧((k = k)∧((c = c)∧((0:Int) = (↑x0:Int))))))))∧(∀ x1 : Nat, (((x1 ≤ c.length)∧(allW (0:Int) (p - (1:Int)) c = allW (0:Int) (p - (1:Int)) (List.drop x1 c))) → (BrP (decide ((↑x1:Int) < (↑(c.length):Int))) ((inB (↑x1:Int) (c.length))∧((InR (p - (1:Int)))∧((True∧True)∧(BrP (!decide ((0:Int) ≤ c.getD ((↑x1:Int).toNat) (0:Int) ∧ c.getD ((↑x1:Int).toNat) (0:Int) ≤ p - (1:Int))) ((false = (decide ((↑(c.length):Int) = n ^ k.toNat) && allW (0:Int) (p - (1:Int)) c))∧True) ((InR ((↑x1:Int) + (1:Int)))∧(∃ x2 : Nat, (((x2 ≤ c.length)∧(allW (0:Int) (p - (1:Int)) c = allW (0:Int) (p - (1:Int)) (List.drop x2 c)))∧((c.length - x2 < c.length - x1)∧((n = n)∧((p = p)∧((k = k)∧((c = c)∧((↑x1:Int) + (1:Int) = (↑x2:Int)))))))))))))) (((((1:Int) ≤ n)∧((n ≤ (12:Int))∧(((0:Int) ≤ k)∧(k ≤ (1000:Int)))))∧True)∧((((↑(c.length):Int) == if n ^ k.toNat ≤ (512:Int) then n ^ k.toNat else (513:Int)) = (decide ((↑(c.length):Int) = n ^ k.toNat) && allW (0:Int) (p - (1:Int)) c))∧True))))))
theorem l15Chain_vc (n : Int) (p : Int) (k : Int) (c : List Int) : runF Tryz.prog (gam l15Chain_G) noWr (l15Chain_ann n p k c) Tryz.f30 (bodyOf Tryz.f30) [] [.c (.int .i64 (n)), .c (.int .i64 (p)), .c (.int .i64 (k)), .c (.ints .i64 (c))] (l15Chain_p n p k c) = l15Chain_V n p k c := by kernel_rfl
theorem l15Chain_ok (n : Int) (p : Int) (k : Int) (c : List Int) (hpre : (l15Chain_p n p k c).pre) : l15Chain_V n p k c := by
  simp only [l15Chain_p, l15Chain_V, BrP_iff, u1, u2, u3, u4, u5, u6, u7, u8, u9, v1, v2, v3, v4, v5, v6, v7, v8, v9, w1, w2, w3, w4, markL_length, inB, InR, room, bdsOk] at hpre ⊢
  obtain ⟨n1, n2, hd, p1, p2, cl⟩ := hpre
  have d := degB_of hd
  refine ⟨⟨0, ⟨by omega, rfl⟩, rfl⟩, fun i ⟨hi, he⟩ => ⟨fun h => ⟨by omega, by omega, fun h2 => ?_, fun h2 => ⟨by omega, i + 1, ⟨by omega, ?_⟩, by omega, by omega⟩⟩, fun h => ⟨by omega, ?_⟩⟩⟩
  · rw [he, allW_drop _ _ _ _ (by omega), decide_eq_false h2]; simp
  · rw [he, allW_drop _ _ _ _ (by omega), decide_eq_true h2]; rfl
  · rw [he, List.drop_of_length_le (by omega), if_pos (by omega)]
    simp only [allW, List.all_nil, Bool.and_true]; rfl
theorem l15Chain_fits : Fits Tryz.prog 30 ⟨[], l15Chain_ct⟩ := by
  refine ffn (Γ := gam l15Chain_G) (gok_cons l01In_fits (gok_cons l15Power_fits gok_nil)) Tryz.func30 fun ds p h hp => ?_
  unfold l15Chain_ct at h
  split at h
  · cases h
    exact ⟨noWr, l15Chain_ann _ _ _ _ , by rw [l15Chain_vc]; exact l15Chain_ok _ _ _ _  hp⟩
  · cases h
def sm (f : Nat → Int) : Nat → Int
  | 0 => 0
  | k + 1 => sm f k + f k
theorem sm_add (f g : Nat → Int) : ∀ n, sm (fun k => f k + g k) n = sm f n + sm g n
  | 0 => rfl
  | n + 1 => by simp only [sm, sm_add f g n]; omega
theorem sm_mul (a : Int) (f : Nat → Int) : ∀ n, sm (fun k => a * f k) n = a * sm f n
  | 0 => by simp [sm]
  | n + 1 => by simp only [sm, sm_mul a f n, Int.mul_add]
theorem sm_mod {p : Int} (f g : Nat → Int) : ∀ n, (∀ k, k < n → p ∣ f k - g k) → p ∣ sm f n - sm g n
  | 0, _ => by simp [sm]
  | n + 1, h => by
    have a := sm_mod f g n fun k hk => h k (by omega)
    have b := h n (by omega)
    have : sm f (n + 1) - sm g (n + 1) = (sm f n - sm g n) + (f n - g n) := by simp only [sm]; omega
    rw [this]
    exact Int.dvd_add a b
theorem sm_delta (i : Nat) (x : Int) : ∀ n, sm (fun k => if k = i then x else 0) n = if i < n then x else 0
  | 0 => rfl
  | n + 1 => by
    simp only [sm, sm_delta i x n]
    by_cases h1 : i < n
    · rw [if_pos h1, if_neg (by omega), if_pos (by omega)]; omega
    · by_cases h2 : n = i
      · rw [if_neg h1, if_pos h2, if_pos (by omega)]; omega
      · rw [if_neg h1, if_neg h2, if_neg (by omega)]; omega
theorem sm_ext {f g : Nat → Int} : ∀ {n}, (∀ k, k < n → f k = g k) → sm f n = sm g n
  | 0, _ => rfl
  | n + 1, h => by simp only [sm]; rw [sm_ext fun k hk => h k (by omega), h n (by omega)]
def at2 (B : List (List Int)) (k q : Nat) : Int := (B.getD k []).getD q 0
def SpP (p : Int) (N : Nat) (B : List (List Int)) (v : Nat → Int) : Prop := ∃ c : Nat → Int, ∀ q, q < N → p ∣ v q - sm (fun k => c k * at2 B k q) B.length
section
variable {p : Int} {N : Nat} {B B' : List (List Int)} {v w : Nat → Int}
theorem sp_congr (h : ∀ q, q < N → p ∣ w q - v q) (hv : SpP p N B v) : SpP p N B w := by
  obtain ⟨c, hc⟩ := hv
  refine ⟨c, fun q hq => ?_⟩
  have := Int.dvd_add (h q hq) (hc q hq)
  rwa [show w q - v q + (v q - sm (fun k => c k * at2 B k q) B.length) = w q - sm (fun k => c k * at2 B k q) B.length by omega] at this
theorem sp_zero (h : ∀ q, q < N → p ∣ v q) : SpP p N B v := by
  refine ⟨fun _ => 0, fun q hq => ?_⟩
  have e : sm (fun k => (0 : Int) * at2 B k q) B.length = 0 := by rw [sm_mul]; simp
  rw [e, Int.sub_zero]
  exact h q hq
theorem sp_add (hv : SpP p N B v) (hw : SpP p N B w) : SpP p N B (fun q => v q + w q) := by
  obtain ⟨c, hc⟩ := hv
  obtain ⟨d, hd⟩ := hw
  refine ⟨fun k => c k + d k, fun q hq => ?_⟩
  have e : sm (fun k => (c k + d k) * at2 B k q) B.length = sm (fun k => c k * at2 B k q) B.length + sm (fun k => d k * at2 B k q) B.length := by
    rw [← sm_add]
    exact sm_ext fun k _ => Int.add_mul _ _ _
  have := Int.dvd_add (hc q hq) (hd q hq)
  rw [e]
  rwa [show v q - sm (fun k => c k * at2 B k q) B.length + (w q - sm (fun k => d k * at2 B k q) B.length) = v q + w q - (sm (fun k => c k * at2 B k q) B.length + sm (fun k => d k * at2 B k q) B.length) by omega] at this
theorem sp_mul (a : Int) (hv : SpP p N B v) : SpP p N B (fun q => a * v q) := by
  obtain ⟨c, hc⟩ := hv
  refine ⟨fun k => a * c k, fun q hq => ?_⟩
  have e : sm (fun k => a * c k * at2 B k q) B.length = a * sm (fun k => c k * at2 B k q) B.length := by
    rw [← sm_mul]
    exact sm_ext fun k _ => Int.mul_assoc _ _ _
  rw [e, ← Int.mul_sub]
  exact Int.dvd_mul_of_dvd_right (hc q hq) 
theorem sp_mem {i : Nat} (hi : i < B.length) : SpP p N B (at2 B i) := by
  refine ⟨fun k => if k = i then 1 else 0, fun q hq => ?_⟩
  have e : sm (fun k => (if k = i then 1 else 0) * at2 B k q) B.length = at2 B i q := by
    rw [sm_ext (g := fun k => if k = i then at2 B i q else 0) fun k _ => by
      by_cases h : k = i
      · subst h; simp
      · simp [h], sm_delta, if_pos hi]
  rw [e, Int.sub_self]
  exact Int.dvd_zero _
theorem sp_sub (h : ∀ k, k < B.length → SpP p N B' (at2 B k)) (hv : SpP p N B v) : SpP p N B' v := by
  obtain ⟨c, hc⟩ := hv
  have : ∀ n, n ≤ B.length → SpP p N B' (fun q => sm (fun k => c k * at2 B k q) n) := fun n => by
    induction n with
    | zero => intro _; exact sp_zero fun q _ => Int.dvd_zero _
    | succ n ih => intro hn; exact sp_add (ih (by omega)) (sp_mul (c n) (h n (by omega)))
  exact sp_congr hc (this B.length (Nat.le_refl _))
theorem at2_app (B : List (List Int)) (r : List Int) {k : Nat} (h : k < B.length) (q : Nat) : at2 (B ++ [r]) k q = at2 B k q := by
  unfold at2
  rw [show (B ++ [r]).getD k [] = B.getD k [] by simp [List.getD, List.getElem?_append_left h]]
theorem at2_last (B : List (List Int)) (r : List Int) (q : Nat) : at2 (B ++ [r]) B.length q = r.getD q 0 := by
  unfold at2
  rw [show (B ++ [r]).getD B.length [] = r by simp [List.getD]]
theorem sp_app (r : List Int) (hv : SpP p N B v) : SpP p N (B ++ [r]) v :=
  sp_sub (fun k hk => sp_congr (fun q _ => by rw [at2_app B r hk, Int.sub_self]; exact Int.dvd_zero _) (sp_mem (B := B ++ [r]) (i := k) (by simp; omega))) hv
theorem sp_last (B : List (List Int)) (r : List Int) : SpP p N (B ++ [r]) (fun q => r.getD q 0) :=
  sp_congr (fun q _ => by rw [at2_last, Int.sub_self]; exact Int.dvd_zero _) (sp_mem (B := B ++ [r]) (i := B.length) (by simp))
theorem tri_zero (P : Nat → Nat) (hP : ∀ k, k < B.length → P k < N) (h1 : ∀ k, k < B.length → at2 B k (P k) = 1) (h2 : ∀ j k, k < j → j < B.length → at2 B j (P k) = 0)
    (hs : SpP p N B v) (hv : ∀ k, k < B.length → p ∣ v (P k)) : ∀ q, q < N → p ∣ v q := by
  obtain ⟨c, hc⟩ := hs
  have hk : ∀ n k, k < n → k < B.length → p ∣ c k := fun n => by
    induction n with
    | zero => intro k h; omega
    | succ n ih =>
      intro k hkn hk
      have a := hc (P k) (hP k hk)
      have b : p ∣ sm (fun j => c j * at2 B j (P k)) B.length - sm (fun j => if j = k then c k else 0) B.length := sm_mod _ _ _ fun j hj => by
        by_cases e : j = k
        · subst e; rw [if_pos rfl, h1 j hj, Int.mul_one, Int.sub_self]; exact Int.dvd_zero _
        · rw [if_neg e, Int.sub_zero]
          by_cases e2 : j < k
          · exact Int.dvd_mul_of_dvd_left (ih j (by omega) hj)
          · rw [h2 j k (by omega) hj, Int.mul_zero]; exact Int.dvd_zero _
      rw [sm_delta, if_pos hk] at b
      have := Int.dvd_sub (hv k hk) (Int.dvd_add a b)
      rwa [show v (P k) - (v (P k) - sm (fun j => c j * at2 B j (P k)) B.length + (sm (fun j => c j * at2 B j (P k)) B.length - c k)) = c k by omega] at this
  intro q hq
  have a := hc q hq
  have b : p ∣ sm (fun j => c j * at2 B j q) B.length - sm (fun _ => 0) B.length := sm_mod _ _ _ fun j hj => by
    rw [Int.sub_zero]
    exact Int.dvd_mul_of_dvd_left (hk (j + 1) j (by omega) hj)
  have e : sm (fun _ => (0 : Int)) B.length = 0 := by
    have := sm_mul 0 (fun _ => (0 : Int)) B.length
    simpa using this
  rw [e, Int.sub_zero] at b
  have := Int.dvd_add a b
  rwa [show v q - sm (fun j => c j * at2 B j q) B.length + sm (fun j => c j * at2 B j q) B.length = v q by omega] at this
end
def fs0 : List Int → Int → Int
  | [], _ => -1
  | x :: l, k => if x ≠ 0 then k else fs0 l (k + 1)
def ldF (l : List Int) : Int := fs0 l 0
theorem fs0_facts : ∀ (l : List Int) (k : Int), 0 ≤ k → (fs0 l k = -1 ∧ ∀ i, l.getD i 0 = 0) ∨ (k ≤ fs0 l k ∧ fs0 l k < k + (l.length : Int) ∧ l.getD (fs0 l k - k).toNat 0 ≠ 0 ∧ ∀ i : Nat, (i : Int) < fs0 l k - k → l.getD i 0 = 0)
  | [], k, hk => .inl ⟨rfl, fun i => by simp⟩
  | x :: l, k, hk => by
    simp only [fs0]
    by_cases hx : x ≠ 0
    · rw [if_pos hx]
      refine .inr ⟨by omega, by simp; omega, by simpa using hx, fun i hi => by omega⟩
    · rw [if_neg hx]
      have hx : x = 0 := by omega
      rcases fs0_facts l (k + 1) (by omega) with ⟨h1, h2⟩ | ⟨h1, h2, h3, h4⟩
      · refine .inl ⟨h1, fun i => ?_⟩
        cases i with
        | zero => simpa using hx
        | succ i => simpa using h2 i
      · refine .inr ⟨by omega, by simp; omega, ?_, fun i hi => ?_⟩
        · rw [show (fs0 l (k + 1) - k).toNat = (fs0 l (k + 1) - (k + 1)).toNat + 1 by omega]
          simpa using h3
        · cases i with
          | zero => simpa using hx
          | succ i => simpa using h4 i (by omega)
theorem ld_no {l : List Int} (h : ldF l < 0) : ∀ i, l.getD i 0 = 0 := by
  rcases fs0_facts l 0 (by omega) with ⟨_, h2⟩ | ⟨h1, _⟩
  · exact h2
  · unfold ldF at h; omega
theorem ld_yes {l : List Int} (h : 0 ≤ ldF l) : (ldF l).toNat < l.length ∧ l.getD (ldF l).toNat 0 ≠ 0 ∧ ∀ i, i < (ldF l).toNat → l.getD i 0 = 0 := by
  unfold ldF at *
  rcases fs0_facts l 0 (by omega) with ⟨h1, _⟩ | ⟨h1, h2, h3, h4⟩
  · omega
  · rw [Int.sub_zero] at h3
    exact ⟨by omega, h3, fun i hi => h4 i (by omega)⟩
theorem ld_is {l : List Int} {a : Nat} (h1 : l.getD a 0 ≠ 0) (h2 : ∀ i, i < a → l.getD i 0 = 0) : ldF l = (a : Int) := by
  unfold ldF
  rcases fs0_facts l 0 (by omega) with ⟨_, h3⟩ | ⟨h3, h4, h5, h6⟩
  · exact absurd (h3 a) h1
  · rw [Int.sub_zero] at h5 h6
    by_cases c1 : fs0 l 0 < (a : Int)
    · exact absurd (h2 (fs0 l 0).toNat (by omega)) h5
    · by_cases c2 : (a : Int) < fs0 l 0
      · exact absurd (h6 a c2) h1
      · omega
def rwP (p : Int) (N : Nat) (r : List Int) : Prop := r.length = N ∧ inP p r
theorem stF_rw {p t : Int} {N : Nat} (hp : 1 ≤ p) (ht : 0 ≤ t) {b r : List Int} (hb : rwP p N b) (hr : rwP p N r) : rwP p N (stF p t b r) :=
  ⟨by rw [stF_length]; exact hr.1, stF_in hp ht (by rw [hb.1, hr.1]) hb.2 hr.2⟩
theorem stF_get {p t : Int} {b r : List Int} {q : Nat} (hq : q < r.length) : (stF p t b r).getD q 0 = (r.getD q 0 + t * b.getD q 0).tmod p := by
  rw [stF, tab_getD _ _ _ hq]
theorem stF_mod {p t : Int} {N : Nat} (hp : 1 ≤ p) (ht : 0 ≤ t) {b r : List Int} (hb : rwP p N b) (hr : rwP p N r) {q : Nat} (hq : q < N) : p ∣ (stF p t b r).getD q 0 - (r.getD q 0 + t * b.getD q 0) := by
  have h1 := hr.1
  have h2 := hb.1
  rw [stF_get (by omega)]
  have a := hr.2 q (by omega)
  have c := hb.2 q (by omega)
  have := Int.mul_nonneg ht c.1
  exact tmod_dvd (by omega) hp
def redN (p : Int) (B : List (List Int)) (P : Nat → Nat) (r : List Int) : Nat → List Int
  | 0 => r
  | k + 1 => if (redN p B P r k).getD (P k) 0 ≠ 0 then stF p (p - (redN p B P r k).getD (P k) 0) (B.getD k []) (redN p B P r k) else redN p B P r k
structure Bas (p : Int) (N : Nat) (B : List (List Int)) (P : Nat → Nat) : Prop where
  row : ∀ k, k < B.length → rwP p N (B.getD k [])
  piv : ∀ k, k < B.length → P k < N
  one : ∀ k, k < B.length → at2 B k (P k) = 1
  tri : ∀ j k, k < j → j < B.length → at2 B j (P k) = 0
theorem red_ok {p : Int} {N : Nat} {B : List (List Int)} {P : Nat → Nat} (hp : 2 ≤ p) (hB : Bas p N B P) {r : List Int} (hr : rwP p N r) :
    ∀ k, k ≤ B.length → rwP p N (redN p B P r k) ∧ (∀ j, j < k → (redN p B P r k).getD (P j) 0 = 0) ∧ SpP p N B (fun q => r.getD q 0 - (redN p B P r k).getD q 0)
  | 0, _ => ⟨hr, fun j hj => by omega, sp_zero fun q _ => by simp [redN]⟩
  | k + 1, hk => by
    obtain ⟨h1, h2, h3⟩ := red_ok hp hB hr k (by omega)
    have hP := hB.piv k (by omega)
    have hb := hB.row k (by omega)
    have l1 := h1.1
    have c := h1.2 (P k) (by omega)
    simp only [redN]
    by_cases h0 : (redN p B P r k).getD (P k) 0 ≠ 0
    · rw [if_pos h0]
      generalize hC : (redN p B P r k).getD (P k) 0 = C at *
      refine ⟨stF_rw (by omega) (by omega) hb h1, fun j hj => ?_, ?_⟩
      · have hPj := hB.piv j (by omega)
        rw [stF_get (by omega)]
        by_cases e : j = k
        · subst e
          have o := hB.one j (by omega)
          unfold at2 at o
          rw [hC, o, show C + (p - C) * 1 = p by omega, Int.tmod_self]
        · have o := hB.tri k j (by omega) (by omega)
          unfold at2 at o
          rw [h2 j (by omega), o]; simp
      · have m := sp_mul C (sp_mem (p := p) (N := N) (B := B) (i := k) (by omega))
        refine sp_congr (fun q hq => ?_) (sp_add h3 m)
        have d := stF_mod (p := p) (t := p - C) (by omega) (by omega) hb h1 hq
        obtain ⟨x, hx⟩ := d
        refine ⟨-x - (B.getD k []).getD q 0, ?_⟩
        unfold at2
        have e : (p - C) * (B.getD k []).getD q 0 = p * (B.getD k []).getD q 0 - C * (B.getD k []).getD q 0 := Int.sub_mul _ _ _
        rw [e] at hx
        rw [Int.mul_sub, Int.mul_neg, ← hx]
        omega
    · rw [if_neg h0]
      have h0 : (redN p B P r k).getD (P k) 0 = 0 := by omega
      refine ⟨h1, fun j hj => ?_, h3⟩
      by_cases e : j = k
      · subst e; exact h0
      · exact h2 j (by omega)
theorem red_zero {p : Int} {N : Nat} {B : List (List Int)} {P : Nat → Nat} (hp : 2 ≤ p) (hB : Bas p N B P) {r : List Int} (hr : rwP p N r) :
    ldF (redN p B P r B.length) < 0 ↔ SpP p N B (fun q => r.getD q 0) := by
  obtain ⟨h1, h2, h3⟩ := red_ok hp hB hr B.length (Nat.le_refl _)
  constructor
  · intro h
    refine sp_congr (fun q hq => ?_) h3
    rw [ld_no h q, Int.sub_zero, Int.sub_self]
    exact Int.dvd_zero _
  · intro h
    have hs : SpP p N B (fun q => (redN p B P r B.length).getD q 0) := sp_congr (fun q _ => by
      rw [show (redN p B P r B.length).getD q 0 - (r.getD q 0 + -1 * (r.getD q 0 - (redN p B P r B.length).getD q 0)) = 0 by omega]
      exact Int.dvd_zero _) (sp_add h (sp_mul (-1) h3))
    have hz := tri_zero P hB.piv hB.one hB.tri hs (fun k hk => by rw [h2 k hk]; exact Int.dvd_zero _)
    refine Classical.byContradiction fun hc => ?_
    have y := ld_yes (l := redN p B P r B.length) (by omega)
    have l1 := h1.1
    have d := hz _ (by omega : (ldF (redN p B P r B.length)).toNat < N)
    have i := h1.2 _ y.1
    obtain ⟨x, hx⟩ := d
    have : x = 0 := by
      refine Classical.byContradiction fun hx0 => ?_
      rcases Int.lt_or_gt_of_ne hx0 with h | h
      · have := Int.mul_le_mul_of_nonneg_left (show x ≤ -1 by omega) (show (0 : Int) ≤ p by omega)
        omega
      · have := Int.mul_le_mul_of_nonneg_left (show (1 : Int) ≤ x by omega) (show (0 : Int) ≤ p by omega)
        omega
    rw [this, Int.mul_zero] at hx
    exact y.2.1 hx
theorem inv_ex : ∀ p ∈ [2, 3, 5, 7], ∀ a ∈ [1, 2, 3, 4, 5, 6], a < p → ∃ b ∈ [1, 2, 3, 4, 5, 6], (a * b) % p = 1 := by decide
def srI (p a : Int) (b : Nat) : Nat → Int
  | 0 => 0
  | k + 1 => if (a * (b : Int)).tmod p = 1 then (b : Int) else srI p a (b + 1) k
def ivM (p a : Int) : Int := srI p a 1 6
theorem srI_ok {p a : Int} : ∀ (k b c : Nat), b ≤ c → c < b + k → (a * (c : Int)).tmod p = 1 → (b : Int) ≤ srI p a b k ∧ srI p a b k ≤ (c : Int) ∧ (a * srI p a b k).tmod p = 1
  | 0, b, c, h1, h2, _ => by omega
  | k + 1, b, c, h1, h2, h3 => by
    simp only [srI]
    split
    · rename_i h; exact ⟨by omega, by omega, h⟩
    · rename_i h
      have hbc : b ≠ c := fun e => h (by rw [e]; exact h3)
      have := srI_ok k (b + 1) c (by omega) (by omega) h3
      omega
theorem inv_has {p a : Int} (hp : primeB p = true) (h1 : 1 ≤ a) (h2 : a ≤ p - 1) : ∃ c : Nat, 1 ≤ c ∧ c ≤ 6 ∧ (a * (c : Int)).tmod p = 1 := by
  have hp : p = 2 ∨ p = 3 ∨ p = 5 ∨ p = 7 := of_decide_eq_true hp
  have m1 : p.toNat ∈ [2, 3, 5, 7] := by rcases hp with rfl | rfl | rfl | rfl <;> decide
  have m2 : a.toNat ∈ [1, 2, 3, 4, 5, 6] := by
    have : a.toNat = 1 ∨ a.toNat = 2 ∨ a.toNat = 3 ∨ a.toNat = 4 ∨ a.toNat = 5 ∨ a.toNat = 6 := by omega
    simpa using this
  obtain ⟨b, hb, e⟩ := inv_ex p.toNat m1 a.toNat m2 (by omega)
  have hb : b = 1 ∨ b = 2 ∨ b = 3 ∨ b = 4 ∨ b = 5 ∨ b = 6 := by simpa using hb
  refine ⟨b, by omega, by omega, ?_⟩
  have ea : a = (a.toNat : Int) := by omega
  have ep : p = (p.toNat : Int) := by omega
  rw [ea, ep, ← Int.natCast_mul, ← Int.ofNat_tmod, e]
  rfl
theorem ivM_ok {p a : Int} (hp : primeB p = true) (h1 : 1 ≤ a) (h2 : a ≤ p - 1) : 1 ≤ ivM p a ∧ ivM p a ≤ 6 ∧ (a * ivM p a).tmod p = 1 := by
  obtain ⟨c, c1, c2, c3⟩ := inv_has hp h1 h2
  have := srI_ok (p := p) (a := a) 6 1 c (by omega) (by omega) c3
  unfold ivM
  omega
def scF (p m : Int) (r : List Int) : List Int := tab r.length fun q => (r.getD q 0 * m).tmod p
theorem scF_get {p m : Int} {r : List Int} {q : Nat} (hq : q < r.length) : (scF p m r).getD q 0 = (r.getD q 0 * m).tmod p := by rw [scF, tab_getD _ _ _ hq]
structure Nrm (p : Int) (N : Nat) (r s : List Int) : Prop where
  row : rwP p N s
  one : s.getD (ldF r).toNat 0 = 1
  zer : ∀ q, q < N → r.getD q 0 = 0 → s.getD q 0 = 0
  mod : ∃ m : Int, ∀ q, q < N → p ∣ s.getD q 0 - m * r.getD q 0
  dom : ∃ m : Int, ∀ q, q < N → p ∣ r.getD q 0 - m * s.getD q 0
theorem scF_nrm {p : Int} (hp : primeB p = true) {N : Nat} {r : List Int} (hr : rwP p N r) (h : 0 ≤ ldF r) : Nrm p N r (scF p (ivM p (r.getD (ldF r).toNat 0)) r) := by
  obtain ⟨p2, p7⟩ := primeB_le hp
  obtain ⟨y1, y2, y3⟩ := ld_yes h
  have l1 := hr.1
  have a := hr.2 _ y1
  obtain ⟨i1, i2, i3⟩ := ivM_ok hp (a := r.getD (ldF r).toNat 0) (by omega) (by omega)
  generalize hm : ivM p (r.getD (ldF r).toNat 0) = m at *
  have sl : (scF p m r).length = r.length := tab_length _ _
  have md : ∀ q, q < N → p ∣ (scF p m r).getD q 0 - m * r.getD q 0 := fun q hq => by
    rw [scF_get (by omega), Int.mul_comm m]
    have := hr.2 q (by omega)
    exact tmod_dvd (Int.mul_nonneg this.1 (by omega)) (by omega)
  refine ⟨⟨by omega, fun q hq => ?_⟩, by rw [scF_get y1, i3], fun q hq hz => by rw [scF_get (by omega), hz]; simp, ⟨m, md⟩, ⟨r.getD (ldF r).toNat 0, fun q hq => ?_⟩⟩
  · rw [scF_get (by omega)]
    have := hr.2 q (by omega)
    exact tmod_in (Int.mul_nonneg this.1 (by omega)) (by omega)
  · -- r = (a m) r = a s
    obtain ⟨x, hx⟩ := md q hq
    have t := tmod_dvd (a := r.getD (ldF r).toNat 0 * m) (p := p) (Int.mul_nonneg a.1 (by omega)) (by omega)
    rw [i3] at t
    obtain ⟨y, hy⟩ := t
    refine ⟨y * r.getD q 0 - r.getD (ldF r).toNat 0 * x, ?_⟩
    generalize r.getD (ldF r).toNat 0 = A at *
    generalize r.getD q 0 = R at *
    generalize (scF p m r).getD q 0 = S at *
    have e1 : S = m * R + p * x := by omega
    have e2 : (1 - A * m) * R = p * (y * R) := by rw [hy, Int.mul_assoc]
    have e3 : p * (A * x) = A * (p * x) := by rw [← Int.mul_assoc, Int.mul_comm p A, Int.mul_assoc]
    rw [e1, Int.mul_add, Int.mul_sub, ← e2, e3, Int.sub_mul, Int.one_mul, Int.mul_assoc]
    omega
theorem bas_app {p : Int} {N : Nat} {B : List (List Int)} {P : Nat → Nat} (hB : Bas p N B P) {s : List Int} (hs : rwP p N s) {a : Nat} (ha : a < N) (h1 : s.getD a 0 = 1) (h2 : ∀ k, k < B.length → s.getD (P k) 0 = 0) {P' : Nat → Nat}
    (hP : ∀ k, k < B.length → P' k = P k) (hP2 : P' B.length = a) : Bas p N (B ++ [s]) P' := by
  have gl : ∀ k, k < B.length → (B ++ [s]).getD k [] = B.getD k [] := fun k hk => by simp [List.getD, List.getElem?_append_left hk]
  have gr : (B ++ [s]).getD B.length [] = s := by simp [List.getD]
  refine ⟨fun k hk => ?_, fun k hk => ?_, fun k hk => ?_, fun j k hkj hj => ?_⟩
  · simp at hk
    by_cases e : k = B.length
    · subst e; rw [gr]; exact hs
    · rw [gl k (by omega)]; exact hB.row k (by omega)
  · simp at hk
    by_cases e : k = B.length
    · subst e; rw [hP2]; exact ha
    · rw [hP k (by omega)]; exact hB.piv k (by omega)
  · simp at hk
    by_cases e : k = B.length
    · subst e; rw [at2_last, hP2]; exact h1
    · rw [at2_app B s (by omega), hP k (by omega)]; exact hB.one k (by omega)
  · simp at hj
    by_cases e : j = B.length
    · subst e; rw [at2_last, hP k hkj]; exact h2 k hkj
    · rw [at2_app B s (by omega), hP k (by omega)]; exact hB.tri j k hkj (by omega)
theorem span_step {p : Int} {N : Nat} {B R : List (List Int)} {P : Nat → Nat} (hp : 2 ≤ p) (hB : Bas p N B P) {r : List Int} (hr : rwP p N r) (he : ∀ v, SpP p N B v ↔ SpP p N R v) {s : List Int} (hs : Nrm p N (redN p B P r B.length) s) :
    ∀ v, SpP p N (B ++ [s]) v ↔ SpP p N (R ++ [r]) v := by
  obtain ⟨_, _, h3⟩ := red_ok hp hB hr B.length (Nat.le_refl _)
  obtain ⟨m, hm⟩ := hs.mod
  obtain ⟨d, hd⟩ := hs.dom
  have last : ∀ {A : List (List Int)} {x : List Int} {k : Nat}, k < (A ++ [x]).length → ¬ k < A.length → k = A.length := fun {A x k} h1 h2 => by simp at h1; omega
  intro v
  constructor
  · refine sp_sub fun k hk => ?_
    by_cases e : k < B.length
    · exact sp_congr (fun q _ => by rw [at2_app B s e, Int.sub_self]; exact Int.dvd_zero _) (sp_app r ((he _).1 (sp_mem e)))
    · have := last hk e
      subst this
      have h4 := sp_app r ((he _).1 h3)
      refine sp_congr (fun q hq => ?_) (sp_mul m (sp_add (sp_last R r) (sp_mul (-1) h4)))
      rw [at2_last, show r.getD q 0 + -1 * (r.getD q 0 - (redN p B P r B.length).getD q 0) = (redN p B P r B.length).getD q 0 by omega]
      exact hm q hq
  · refine sp_sub fun k hk => ?_
    by_cases e : k < R.length
    · exact sp_congr (fun q _ => by rw [at2_app R r e, Int.sub_self]; exact Int.dvd_zero _) (sp_app s ((he _).2 (sp_mem e)))
    · have := last hk e
      subst this
      refine sp_congr (fun q hq => ?_) (sp_add (sp_app s h3) (sp_mul d (sp_last B s)))
      rw [at2_last, show r.getD q 0 - (r.getD q 0 - (redN p B P r B.length).getD q 0 + d * s.getD q 0) = (redN p B P r B.length).getD q 0 - d * s.getD q 0 by omega]
      exact hd q hq
theorem span_skip {p : Int} {N : Nat} {B R : List (List Int)} {r : List Int} (he : ∀ v, SpP p N B v ↔ SpP p N R v) (hr : SpP p N B (fun q => r.getD q 0)) : ∀ v, SpP p N B v ↔ SpP p N (R ++ [r]) v := by
  intro v
  constructor
  · intro h; exact sp_app r ((he v).1 h)
  · refine sp_sub fun k hk => ?_
    by_cases e : k < R.length
    · exact sp_congr (fun q _ => by rw [at2_app R r e, Int.sub_self]; exact Int.dvd_zero _) ((he _).2 (sp_mem e))
    · have : k = R.length := by simp at hk; omega
      subst this
      exact sp_congr (fun q _ => by rw [at2_last, Int.sub_self]; exact Int.dvd_zero _) hr
def ldN (B : List (List Int)) (k : Nat) : Nat := (ldF (B.getD k [])).toNat
def upR (p : Int) (s : List Int) (a : Nat) (b : List Int) : List Int := if b.getD a 0 ≠ 0 then stF p (p - b.getD a 0) s b else b
def imN (p : Int) (R : List (List Int)) : Nat → List (List Int)
  | 0 => []
  | i + 1 => let B := imN p R i; let r := redN p B (ldN B) (R.getD i []) B.length
    if ldF r < 0 then B else (B.map (upR p (scF p (ivM p (r.getD (ldF r).toNat 0)) r) (ldF r).toNat)) ++ [scF p (ivM p (r.getD (ldF r).toNat 0)) r]
def rwsP (p : Int) (N : Nat) (R : List (List Int)) : Prop := ∀ i, i < R.length → rwP p N (R.getD i [])
theorem take_row (R : List (List Int)) {i : Nat} (h : i < R.length) : R.take (i + 1) = R.take i ++ [R.getD i []] := by
  rw [List.take_succ_eq_append_getElem h]
  simp [List.getD, h]
structure Full (p : Int) (N : Nat) (B : List (List Int)) : Prop where
  bas : Bas p N B (ldN B)
  all : ∀ j k, j ≠ k → j < B.length → k < B.length → at2 B j (ldN B k) = 0
  nn : ∀ k, k < B.length → 0 ≤ ldF (B.getD k [])
theorem map_get (B : List (List Int)) (f : List Int → List Int) {k : Nat} (h : k < B.length) : (B.map f).getD k [] = f (B.getD k []) := by
  simp [List.getD, h]
theorem snoc_get (A : List (List Int)) (x : List Int) {k : Nat} (h : k < A.length) : (A ++ [x]).getD k [] = A.getD k [] := by
  simp [List.getD, List.getElem?_append_left h]
theorem imN_ok {p : Int} (hp : primeB p = true) {N : Nat} {R : List (List Int)} (hR : rwsP p N R) : ∀ i, i ≤ R.length → Full p N (imN p R i) ∧ ∀ v, SpP p N (imN p R i) v ↔ SpP p N (R.take i) v
  | 0, _ => ⟨⟨⟨fun k hk => by simp [imN] at hk, fun k hk => by simp [imN] at hk, fun k hk => by simp [imN] at hk, fun j k _ hj => by simp [imN] at hj⟩, fun j k _ hj => by simp [imN] at hj, fun k hk => by simp [imN] at hk⟩, fun v => Iff.rfl⟩
  | i + 1, hi => by
    obtain ⟨p2, p7⟩ := primeB_le hp
    obtain ⟨h2, h3⟩ := imN_ok hp hR i (by omega)
    have hr := hR i (by omega)
    obtain ⟨r1, r2, r3⟩ := red_ok p2 h2.bas hr (imN p R i).length (Nat.le_refl _)
    have rz := red_zero p2 h2.bas hr
    rw [take_row R (by omega)]
    simp only [imN]
    generalize hB : imN p R i = B at *
    generalize hrr : redN p B (ldN B) (R.getD i []) B.length = r at *
    by_cases h : ldF r < 0
    · rw [if_pos h]
      exact ⟨h2, span_skip h3 (rz.1 h)⟩
    · rw [if_neg h]
      have h : 0 ≤ ldF r := by omega
      have n := scF_nrm hp r1 h
      have y := ld_yes h
      have l1 := r1.1
      generalize hs : scF p (ivM p (r.getD (ldF r).toNat 0)) r = s at *
      generalize ha : (ldF r).toNat = a at *
      have aN : a < N := by omega
      have n1 : s.getD a 0 = 1 := by have := n.one; rwa [ha] at this
      have s0 : ∀ k, k < B.length → s.getD (ldN B k) 0 = 0 := fun k hk => n.zer _ (h2.bas.piv k hk) (r2 k hk)
      have sz : ∀ q, q < a → s.getD q 0 = 0 := fun q hq => n.zer q (by omega) (y.2.2 q hq)
      have up : ∀ k, k < B.length → rwP p N (upR p s a (B.getD k [])) ∧ (upR p s a (B.getD k [])).getD a 0 = 0 ∧ (∀ q, q < N → s.getD q 0 = 0 → (upR p s a (B.getD k [])).getD q 0 = (B.getD k []).getD q 0) ∧
          ∃ c : Int, ∀ q, q < N → p ∣ (upR p s a (B.getD k [])).getD q 0 - ((B.getD k []).getD q 0 + c * s.getD q 0) := fun k hk => by
        have hb := h2.bas.row k hk
        have bl := hb.1
        have c := hb.2 a (by omega)
        unfold upR
        by_cases h0 : (B.getD k []).getD a 0 ≠ 0
        · rw [if_pos h0]
          refine ⟨stF_rw (by omega) (by omega) n.row hb, ?_, fun q hq hz => ?_, p - (B.getD k []).getD a 0, fun q hq => stF_mod (by omega) (by omega) n.row hb hq⟩
          · rw [stF_get (by omega), n1, show (B.getD k []).getD a 0 + (p - (B.getD k []).getD a 0) * 1 = p by omega, Int.tmod_self]
          · have cq := hb.2 q (by omega)
            rw [stF_get (by omega), hz, Int.mul_zero, Int.add_zero]
            exact Int.tmod_eq_of_lt cq.1 (by omega)
        · rw [if_neg h0]
          exact ⟨hb, by omega, fun q _ _ => rfl, 0, fun q _ => by rw [Int.zero_mul, Int.add_zero, Int.sub_self]; exact Int.dvd_zero _⟩
      have ml : (B.map (upR p s a)).length = B.length := by simp
      have mg : ∀ k, k < B.length → (B.map (upR p s a)).getD k [] = upR p s a (B.getD k []) := fun k hk => map_get B _ hk
      have lead : ∀ k, k < B.length → ldF (upR p s a (B.getD k [])) = ldF (B.getD k []) := fun k hk => by
        have nn := h2.nn k hk
        have yb := ld_yes nn
        have u := up k hk
        have pk := h2.bas.piv k hk
        have z := s0 k hk
        unfold ldN at pk z
        have e : ldF (B.getD k []) = ((ldF (B.getD k [])).toNat : Int) := by omega
        rw [e]
        refine ld_is (by rw [u.2.2.1 _ pk z]; exact yb.2.1) fun q hq => ?_
        by_cases hz : s.getD q 0 = 0
        · rw [u.2.2.1 q (by omega) hz]; exact yb.2.2 q hq
        · -- then q is not before a, the row is 0 at a, and nothing changes
          have : ¬ q < a := fun c => hz (sz q c)
          have ba : (B.getD k []).getD a 0 = 0 := yb.2.2 a (by omega)
          unfold upR
          rw [if_neg (by omega)]
          exact yb.2.2 q hq
      have lds : ldF s = (a : Int) := ld_is (by rw [n1]; omega) sz
      have pl : ∀ k, k < B.length → ldN (B.map (upR p s a) ++ [s]) k = ldN B k := fun k hk => by
        unfold ldN
        rw [snoc_get _ _ (by omega), mg k hk, lead k hk]
      have pl2 : ldN (B.map (upR p s a) ++ [s]) (B.map (upR p s a)).length = a := by
        unfold ldN
        rw [show (B.map (upR p s a) ++ [s]).getD (B.map (upR p s a)).length [] = s by simp [List.getD], lds]; rfl
      have a2 : ∀ k q, k < B.length → at2 (B.map (upR p s a)) k q = (upR p s a (B.getD k [])).getD q 0 := fun k q hk => by unfold at2; rw [mg k hk]
      have zz : ∀ j k, j < B.length → k < B.length → at2 (B.map (upR p s a)) j (ldN B k) = at2 B j (ldN B k) := fun j k hj hk => by
        rw [a2 j _ hj, (up j hj).2.2.1 _ (h2.bas.piv k hk) (s0 k hk)]; rfl
      have hB2 : Bas p N (B.map (upR p s a)) (ldN B) := ⟨fun k hk => by rw [ml] at hk; rw [mg k hk]; exact (up k hk).1, fun k hk => by rw [ml] at hk; exact h2.bas.piv k hk, fun k hk => by rw [ml] at hk; rw [zz k k hk hk]; exact h2.bas.one k hk, fun j k hkj hj => by rw [ml] at hj; rw [zz j k hj (by omega)]; exact h2.bas.tri j k hkj hj⟩
      have bas := bas_app hB2 n.row aN n1 (fun k hk => s0 k (by omega)) (P' := ldN (B.map (upR p s a) ++ [s])) (fun k hk => pl k (by omega)) pl2
      refine ⟨⟨bas, fun j k hjk hj hk => ?_, fun k hk => ?_⟩, fun v => ?_⟩
      · simp only [List.length_append, List.length_map, List.length_cons, List.length_nil] at hj hk
        by_cases e1 : j = B.length
        · have hk2 : k < B.length := by omega
          rw [pl k hk2, e1, ← ml, at2_last]
          exact s0 k hk2
        · have hj2 : j < B.length := by omega
          rw [at2_app _ _ (by omega)]
          by_cases e2 : k = B.length
          · rw [e2, ← ml, pl2, a2 j _ hj2]
            exact (up j hj2).2.1
          · have hk2 : k < B.length := by omega
            rw [pl k hk2, zz j k hj2 hk2]
            exact h2.all j k hjk hj2 hk2
      · simp only [List.length_append, List.length_map, List.length_cons, List.length_nil] at hk
        by_cases e2 : k = B.length
        · rw [e2, ← ml, show (B.map (upR p s a) ++ [s]).getD (B.map (upR p s a)).length [] = s by simp [List.getD], lds]; omega
        · have hk2 : k < B.length := by omega
          rw [snoc_get _ _ (by omega), mg k hk2, lead k hk2]
          exact h2.nn k hk2
      · -- the same span
        have e1 := span_step p2 h2.bas hr h3 (s := s) (by rw [hrr]; exact n)
        rw [← e1 v]
        constructor
        · refine sp_sub fun k hk => ?_
          simp only [List.length_append, List.length_map, List.length_cons, List.length_nil] at hk
          by_cases e2 : k = B.length
          · refine sp_congr (fun q _ => ?_) (sp_last B s)
            rw [e2, ← ml, at2_last, Int.sub_self]; exact Int.dvd_zero _
          · have hk2 : k < B.length := by omega
            obtain ⟨c, hc⟩ := (up k hk2).2.2.2
            refine sp_congr (fun q hq => ?_) (sp_add (sp_app s (sp_mem hk2)) (sp_mul c (sp_last B s)))
            rw [at2_app _ _ (by omega), a2 k q hk2]
            exact hc q hq
        · refine sp_sub fun k hk => ?_
          simp only [List.length_append, List.length_cons, List.length_nil] at hk
          by_cases e2 : k = B.length
          · refine sp_congr (fun q _ => ?_) (sp_last (B.map (upR p s a)) s)
            rw [e2, at2_last, Int.sub_self]; exact Int.dvd_zero _
          · have hk2 : k < B.length := by omega
            obtain ⟨c, hc⟩ := (up k hk2).2.2.2
            refine sp_congr (fun q hq => ?_) (sp_add (sp_app s (sp_mem (B := B.map (upR p s a)) (i := k) (by omega))) (sp_mul (-c) (sp_last (B.map (upR p s a)) s)))
            obtain ⟨x, hx⟩ := hc q hq
            refine ⟨-x, ?_⟩
            rw [at2_app _ _ hk2, a2 k q hk2, Int.mul_neg, ← hx, Int.neg_mul]
            unfold at2
            omega
end Go.Sx
