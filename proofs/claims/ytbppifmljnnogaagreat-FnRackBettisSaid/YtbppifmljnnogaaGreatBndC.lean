/- BndC -/
import Derived.Test.YtbppifmljnnogaaGreatRack
import Derived.Test.YtbppifmljnnogaaGreatTuple
import Derived.Test.YtbppifmljnnogaaGreatBndI
open Go Go.Proofs
namespace Go.Sx
set_option linter.unusedSimpArgs false
set_option linter.unusedVariables false
def rackB (t : List (List Int)) : Bool := tabB t && t.all permB && (rkF t).isNone
theorem rackB_tab {t : List (List Int)} (h : rackB t = true) : tabB t = true := by
  simp only [rackB, Bool.and_eq_true] at h
  exact h.1.1
theorem firstO_some {α : Type} {n : Nat} {q : Nat → Option α} {r : α} : ∀ {k : Nat}, firstO n q k = some r → ∃ i, q i = some r
  | 0, h => by cases h
  | k + 1, h => by
    simp only [firstO, Option.or_eq_some_iff] at h
    rcases h with h | ⟨_, h⟩
    · exact ⟨_, h⟩
    · exact firstO_some h
theorem rkF_len {t : List (List Int)} {l : List Int} (h : rkF t = some l) : l.length = 3 := by
  obtain ⟨x, h⟩ := firstO_some h
  obtain ⟨y, h⟩ := firstO_some h
  obtain ⟨z, h⟩ := firstO_some h
  unfold rkZ at h
  split at h
  · cases h
  · cases h; rfl
def l03Is_p (t : List (List Int)) : Post := ⟨roomR t, .c (.bool (rackB t)), []⟩
def l03Is_ct : List AD → Option Post
  | [.agg [.rows .i64 (t)]] => some (l03Is_p t)
  | _ => none
def l03Is_ann (t : List (List Int)) : Nat → Option Ann
  | 0 => some (Ann.mk ((Nat)) (fun i => ⟨[(1, .c (.ptr 1 0)), (3, .c (.int .i64 ((i : Int))))], [(1, some (.box [.ro (.rows .i64 (t))]))]⟩) (fun i => i ≤ t.length ∧ tabB t = true ∧ t.all permB = (t.drop i).all permB) (fun i => t.length - i) (fun _ => noAnn))
  | _ => none
def l03Is_G : List (Nat × Ctr) := [(63, ⟨[], l01Table_ct⟩), (97, ⟨[], l01Perm_ct⟩), (98, ⟨[], l03Fault_ct⟩)]
def l03Is_V (t : List (List Int)) : Prop :=
 (((roomR t)∧True)∧(BrP (!tabB t) ((false = rackB t)∧True) ((∃ x0 : Nat, (((x0 ≤ t.length)∧((tabB t = true)∧(List.all t permB = List.all (List.drop x0 t) permB)))∧(((0:Int) = (↑x0:Int))∧(t = t))))∧(∀ x1 : Nat, (((x1 ≤ t.length)∧((tabB t = true)∧(List.all t permB = List.all (List.drop x1 t) permB))) → (BrP (decide ((↑x1:Int) < (↑(t.length):Int))) ((inB (↑x1:Int) (t.length))∧((((t.getD ((↑x1:Int).toNat) []).length ≤ (1099511627776:Nat))∧True)∧(BrP (!(decide ((1:Int) ≤ (↑((t.getD ((↑x1:Int).toNat) []).length):Int) ∧ (↑((t.getD ((↑x1:Int).toNat) []).length):Int) ≤ (12:Int)) && permB (t.getD ((↑x1:Int).toNat) []))) ((false = rackB t)∧True) ((InR ((↑x1:Int) + (1:Int)))∧(∃ x2 : Nat, (((x2 ≤ t.length)∧((tabB t = true)∧(List.all t permB = List.all (List.drop x2 t) permB)))∧((t.length - x2 < t.length - x1)∧(((↑x1:Int) + (1:Int) = (↑x2:Int))∧(t = t))))))))) (((tabB t = true)∧True)∧((((↑((Option.getD (rkF t) []).length):Int) == (0:Int)) = rackB t)∧True))))))))
theorem l03Is_vc (t : List (List Int)) : runF Tryz.prog (gam l03Is_G) noWr (l03Is_ann t) Tryz.f46 (bodyOf Tryz.f46) [] [.agg [.rows .i64 (t)]] (l03Is_p t) = l03Is_V t := by kernel_rfl
theorem l03Is_ok (t : List (List Int)) (hpre : (l03Is_p t).pre) : l03Is_V t := by
  simp only [l03Is_p, l03Is_V, BrP_iff, u1, u2, u3, u4, u5, u6, u7, u8, u9, v1, v2, v3, v4, v5, v6, v7, v8, v9, w1, w2, w3, w4, markL_length, inB, InR, room, bdsOk] at hpre ⊢
  have h0 := hpre.1
  refine ⟨hpre, fun h => by rw [rackB, h]; rfl, fun h => ⟨⟨0, ⟨by omega, h, rfl⟩, rfl⟩, fun i ⟨hi, _, he⟩ => ⟨fun h2 => ?_, fun h2 => ⟨h, ?_⟩⟩⟩⟩
  · have hd := allG_drop [] permB (show i < t.length by omega)
    obtain ⟨n1, n2, ht⟩ := tabB_of h
    have hl := (ht i (by omega)).1
    refine ⟨by omega, roomR_get hpre i (by omega), fun h3 => ?_, fun h3 => ⟨by omega, i + 1, ⟨by omega, h, ?_⟩, by omega, by omega⟩⟩
    · rw [decide_eq_true (by omega), Bool.true_and] at h3
      rw [rackB, he, hd, h3]; simp
    · rw [decide_eq_true (by omega), Bool.true_and] at h3
      rw [he, hd, h3]; rfl
  · have ha : t.all permB = true := by rw [he, List.drop_of_length_le (by omega)]; rfl
    rw [rackB, h, ha]
    cases hf : rkF t with
    | none => rfl
    | some l =>
      have hl := rkF_len hf
      simp only [Option.getD_some, Option.isNone_some, Bool.and_false]
      rw [beq_eq_false_iff_ne]
      omega
theorem l03Is_fits : Fits Tryz.prog 46 ⟨[], l03Is_ct⟩ := by
  refine ffn (Γ := gam l03Is_G) (gok_cons l01Table_fits (gok_cons l01Perm_fits (gok_cons l03Fault_fits gok_nil))) Tryz.func46 fun ds p h hp => ?_
  unfold l03Is_ct at h
  split at h
  · cases h
    exact ⟨noWr, l03Is_ann _ , by rw [l03Is_vc]; exact l03Is_ok _  hp⟩
  · cases h
def IsRack_p (t : List (List Int)) : Post := ⟨roomR t, .c (.bool (rackB t)), []⟩
def IsRack_ct : List AD → Option Post
  | [.agg [.rows .i64 (t)]] => some (IsRack_p t)
  | _ => none
def IsRack_G : List (Nat × Ctr) := [(60, ⟨[], IsTable_ct⟩), (72, ⟨[], permutationRows_ct⟩), (73, ⟨[], rackFault_ct⟩)]
def IsRack_V (t : List (List Int)) : Prop :=
 (((roomR t)∧True)∧(BrP (tabB t) (((roomR t)∧True)∧(BrP (List.all t permB) (((tabB t = true)∧True)∧((Option.isNone (rkF t) = rackB t)∧True)) ((false = rackB t)∧True))) ((false = rackB t)∧True)))
theorem IsRack_vc (t : List (List Int)) : runF Tryz.prog (gam IsRack_G) noWr noAnn Tryz.f24 (bodyOf Tryz.f24) [] [.agg [.rows .i64 (t)]] (IsRack_p t) = IsRack_V t := by kernel_rfl
theorem IsRack_ok (t : List (List Int)) (hpre : (IsRack_p t).pre) : IsRack_V t := by
  simp only [IsRack_p, IsRack_V, BrP_iff, u1, u2, u3, u4, u5, u6, u7, u8, u9, v1, v2, v3, v4, v5, v6, v7, v8, v9, w1, w2, w3, w4, markL_length, inB, InR, room, bdsOk] at hpre ⊢
  refine ⟨hpre, fun h => ⟨hpre, fun h2 => ⟨h, ?_⟩, fun h2 => ?_⟩, fun h => ?_⟩
  · rw [rackB, h, h2]; rfl
  · rw [rackB, h2]; simp
  · rw [rackB, h]; rfl
theorem IsRack_fits : Fits Tryz.prog 24 ⟨[], IsRack_ct⟩ := by
  refine ffn (Γ := gam IsRack_G) (gok_cons IsTable_fits (gok_cons permutationRows_fits (gok_cons rackFault_fits gok_nil))) Tryz.func24 fun ds p h hp => ?_
  unfold IsRack_ct at h
  split at h
  · cases h
    exact ⟨noWr, noAnn, by rw [IsRack_vc]; exact IsRack_ok _  hp⟩
  · cases h
def primeB (p : Int) : Bool := decide (p = 2 ∨ p = 3 ∨ p = 5 ∨ p = 7)
def l15Prime_p (p : Int) : Post := ⟨True, .c (.bool (primeB p)), []⟩
def l15Prime_ct : List AD → Option Post
  | [.c (.int .i64 (p))] => some (l15Prime_p p)
  | _ => none
def l15Prime_G : List (Nat × Ctr) := []
def l15Prime_V (p : Int) : Prop :=
 (BrP (p == (2:Int)) ((true = primeB p)∧True) (BrP (p == (3:Int)) ((true = primeB p)∧True) (BrP (p == (5:Int)) ((true = primeB p)∧True) (((p == (7:Int)) = primeB p)∧True))))
theorem l15Prime_vc (p : Int) : runF Tryz.prog (gam l15Prime_G) noWr noAnn Tryz.f93 (bodyOf Tryz.f93) [] [.c (.int .i64 (p))] (l15Prime_p p) = l15Prime_V p := by kernel_rfl
theorem l15Prime_ok (p : Int) (hpre : (l15Prime_p p).pre) : l15Prime_V p := by
  simp only [l15Prime_p, l15Prime_V, BrP_iff, u1, u2, u3, u4, u5, u6, u7, u8, u9, v1, v2, v3, v4, v5, v6, v7, v8, v9, w1, w2, w3, w4, markL_length, inB, InR, room, bdsOk] at hpre ⊢
  refine ⟨fun h => ?_, fun h => ⟨fun h => ?_, fun h => ⟨fun h => ?_, fun h => ?_⟩⟩⟩ <;> simp [primeB, *]
  rw [Bool.eq_iff_iff]; simp
theorem l15Prime_fits : Fits Tryz.prog 93 ⟨[], l15Prime_ct⟩ := by
  refine ffn (Γ := gam l15Prime_G) gok_nil Tryz.func93 fun ds p h hp => ?_
  unfold l15Prime_ct at h
  split at h
  · cases h
    exact ⟨noWr, noAnn, by rw [l15Prime_vc]; exact l15Prime_ok _  hp⟩
  · cases h
def isFieldPrime_p (p : Int) : Post := ⟨True, .c (.bool (primeB p)), []⟩
def isFieldPrime_ct : List AD → Option Post
  | [.c (.int .i64 (p))] => some (isFieldPrime_p p)
  | _ => none
def isFieldPrime_G : List (Nat × Ctr) := []
def isFieldPrime_V (p : Int) : Prop :=
 (BrP (p == (2:Int)) ((true = primeB p)∧True) (BrP (p == (3:Int)) ((true = primeB p)∧True) (BrP (p == (5:Int)) ((true = primeB p)∧True) (((p == (7:Int)) = primeB p)∧True))))
theorem isFieldPrime_vc (p : Int) : runF Tryz.prog (gam isFieldPrime_G) noWr noAnn Tryz.f89 (bodyOf Tryz.f89) [] [.c (.int .i64 (p))] (isFieldPrime_p p) = isFieldPrime_V p := by kernel_rfl
theorem isFieldPrime_ok (p : Int) (hpre : (isFieldPrime_p p).pre) : isFieldPrime_V p := by
  simp only [isFieldPrime_p, isFieldPrime_V, BrP_iff, u1, u2, u3, u4, u5, u6, u7, u8, u9, v1, v2, v3, v4, v5, v6, v7, v8, v9, w1, w2, w3, w4, markL_length, inB, InR, room, bdsOk] at hpre ⊢
  refine ⟨fun h => ?_, fun h => ⟨fun h => ?_, fun h => ⟨fun h => ?_, fun h => ?_⟩⟩⟩ <;> simp [primeB, *]
  rw [Bool.eq_iff_iff]; simp
theorem isFieldPrime_fits : Fits Tryz.prog 89 ⟨[], isFieldPrime_ct⟩ := by
  refine ffn (Γ := gam isFieldPrime_G) gok_nil Tryz.func89 fun ds p h hp => ?_
  unfold isFieldPrime_ct at h
  split at h
  · cases h
    exact ⟨noWr, noAnn, by rw [isFieldPrime_vc]; exact isFieldPrime_ok _  hp⟩
  · cases h
theorem primeB_le {p : Int} (h : primeB p = true) : 2 ≤ p ∧ p ≤ 7 := by
  have := of_decide_eq_true h
  omega
def dgB (t : List (List Int)) (p k : Int) : Bool := primeB p && degB t.length k
def dgC (t : List (List Int)) (p k : Int) : Int := if rackB t = true then (if dgB t p k = true then 0 else 2) else 1
theorem dgC_ok {t : List (List Int)} {p k : Int} (h : dgC t p k = 0) : rackB t = true ∧ primeB p = true ∧ degB t.length k = true ∧ dgB t p k = true := by
  unfold dgC at h
  split at h
  · split at h
    · rename_i a b
      have := b
      simp only [dgB, Bool.and_eq_true] at this
      exact ⟨a, this.1, this.2, b⟩
    · omega
  · omega
theorem degB_of {n k : Int} (h : degB n k = true) : 0 ≤ k ∧ k ≤ 1000 ∧ n ^ k.toNat ≤ 512 := by
  simp only [degB, Bool.and_eq_true, decide_eq_true_eq] at h
  omega
def checkDegree_p (t : List (List Int)) (p : Int) (k : Int) : Post := ⟨roomR t, .c (.int .i64 (dgC t p k)), []⟩
def checkDegree_ct : List AD → Option Post
  | [.agg [.rows .i64 (t)], .c (.int .i64 (p)), .c (.int .i64 (k))] => some (checkDegree_p t p k)
  | _ => none
def checkDegree_G : List (Nat × Ctr) := [(24, ⟨[], IsRack_ct⟩), (89, ⟨[], isFieldPrime_ct⟩), (39, ⟨[], isDegree_ct⟩)]
def checkDegree_V (t : List (List Int)) (p : Int) (k : Int) : Prop :=
 (((roomR t)∧True)∧(BrP (!rackB t) (((1:Int) = dgC t p k)∧True) ((True∧True)∧(BrP (!primeB p) (((2:Int) = dgC t p k)∧True) (((((1:Int) ≤ (↑(t.length):Int))∧((↑(t.length):Int) ≤ (12:Int)))∧True)∧(BrP (!degB (↑(t.length):Int) k) (((2:Int) = dgC t p k)∧True) (((0:Int) = dgC t p k)∧True)))))))
theorem checkDegree_vc (t : List (List Int)) (p : Int) (k : Int) : runF Tryz.prog (gam checkDegree_G) noWr noAnn Tryz.f38 (bodyOf Tryz.f38) [] [.agg [.rows .i64 (t)], .c (.int .i64 (p)), .c (.int .i64 (k))] (checkDegree_p t p k) = checkDegree_V t p k := by kernel_rfl
theorem checkDegree_ok (t : List (List Int)) (p : Int) (k : Int) (hpre : (checkDegree_p t p k).pre) : checkDegree_V t p k := by
  simp only [checkDegree_p, checkDegree_V, BrP_iff, u1, u2, u3, u4, u5, u6, u7, u8, u9, v1, v2, v3, v4, v5, v6, v7, v8, v9, w1, w2, w3, w4, markL_length, inB, InR, room, bdsOk] at hpre ⊢
  refine ⟨hpre, fun h => by simp [dgC, h], fun h => ⟨fun h2 => by simp [dgC, h, dgB, h2], fun h2 => ?_⟩⟩
  have hn := tabB_of (rackB_tab h)
  exact ⟨by omega, fun h3 => by simp [dgC, h, dgB, h2, h3], fun h3 => by simp [dgC, h, dgB, h2, h3]⟩
theorem checkDegree_fits : Fits Tryz.prog 38 ⟨[], checkDegree_ct⟩ := by
  refine ffn (Γ := gam checkDegree_G) (gok_cons IsRack_fits (gok_cons isFieldPrime_fits (gok_cons isDegree_fits gok_nil))) Tryz.func38 fun ds p h hp => ?_
  unfold checkDegree_ct at h
  split at h
  · cases h
    exact ⟨noWr, noAnn, by rw [checkDegree_vc]; exact checkDegree_ok _ _ _  hp⟩
  · cases h
def l15Code_p (t : List (List Int)) (p : Int) (k : Int) : Post := ⟨roomR t, .c (.int .i64 (dgC t p k)), []⟩
def l15Code_ct : List AD → Option Post
  | [.agg [.rows .i64 (t)], .c (.int .i64 (p)), .c (.int .i64 (k))] => some (l15Code_p t p k)
  | _ => none
def l15Code_G : List (Nat × Ctr) := [(46, ⟨[], l03Is_ct⟩), (93, ⟨[], l15Prime_ct⟩), (43, ⟨[], l15Allowed_ct⟩)]
def l15Code_V (t : List (List Int)) (p : Int) (k : Int) : Prop :=
 (((roomR t)∧True)∧(BrP (!rackB t) (((1:Int) = dgC t p k)∧True) ((True∧True)∧(BrP (!primeB p) (((2:Int) = dgC t p k)∧True) (((((1:Int) ≤ (↑(t.length):Int))∧((↑(t.length):Int) ≤ (12:Int)))∧True)∧(BrP (!degB (↑(t.length):Int) k) (((2:Int) = dgC t p k)∧True) (((0:Int) = dgC t p k)∧True)))))))
theorem l15Code_vc (t : List (List Int)) (p : Int) (k : Int) : runF Tryz.prog (gam l15Code_G) noWr noAnn Tryz.f42 (bodyOf Tryz.f42) [] [.agg [.rows .i64 (t)], .c (.int .i64 (p)), .c (.int .i64 (k))] (l15Code_p t p k) = l15Code_V t p k := by kernel_rfl
theorem l15Code_ok (t : List (List Int)) (p : Int) (k : Int) (hpre : (l15Code_p t p k).pre) : l15Code_V t p k := by
  simp only [l15Code_p, l15Code_V, BrP_iff, u1, u2, u3, u4, u5, u6, u7, u8, u9, v1, v2, v3, v4, v5, v6, v7, v8, v9, w1, w2, w3, w4, markL_length, inB, InR, room, bdsOk] at hpre ⊢
  refine ⟨hpre, fun h => by simp [dgC, h], fun h => ⟨fun h2 => by simp [dgC, h, dgB, h2], fun h2 => ?_⟩⟩
  have hn := tabB_of (rackB_tab h)
  exact ⟨by omega, fun h3 => by simp [dgC, h, dgB, h2, h3], fun h3 => by simp [dgC, h, dgB, h2, h3]⟩
theorem l15Code_fits : Fits Tryz.prog 42 ⟨[], l15Code_ct⟩ := by
  refine ffn (Γ := gam l15Code_G) (gok_cons l03Is_fits (gok_cons l15Prime_fits (gok_cons l15Allowed_fits gok_nil))) Tryz.func42 fun ds p h hp => ?_
  unfold l15Code_ct at h
  split at h
  · cases h
    exact ⟨noWr, noAnn, by rw [l15Code_vc]; exact l15Code_ok _ _ _  hp⟩
  · cases h
end Go.Sx
