/- Ext Rb Inc Qb -/
import Derived.Test.YtbppifmljnnogaaGreatBndC
import Derived.Test.YtbppifmljnnogaaGreatCocP
import Derived.Test.YtbppifmljnnogaaGreatTuple
section
open Go Go.Proofs
namespace Go.Sx
set_option linter.unusedSimpArgs false
set_option linter.unusedVariables false
end Go.Sx
end
section
open Go Go.Proofs
namespace Go.Sx
set_option linter.unusedSimpArgs false
set_option linter.unusedVariables false
theorem deg_sub {t : List (List Int)} (h1 : tabB t = true) {k : Int} (hk : 1 ≤ k) (hd : degB t.length k = true) : degB t.length (k - 1) = true ∧ (t.length : Int) ^ (k.toNat - 1) ≤ 512 ∧ k ≤ 1000 ∧ (t.length : Int) ^ k.toNat ≤ 512 ∧ (k - 1).toNat = k.toNat - 1 := by
  have d := degB_of hd
  have hn := (tabB_of h1).1
  have := pow_le (n := (t.length : Int)) (by omega) (show k.toNat - 1 ≤ k.toNat by omega)
  have e : (k - 1).toNat = k.toNat - 1 := by omega
  refine ⟨?_, by omega, by omega, by omega, e⟩
  simp only [degB, Bool.and_eq_true, decide_eq_true_eq]
  rw [e]
  omega
end Go.Sx
end
section
open Go Go.Proofs
namespace Go.Sx
set_option linter.unusedSimpArgs false
set_option linter.unusedVariables false
def unitL (n : Nat) : List Int := tab n fun i => (i : Int)
def rngB (n : Int) (l : List Int) : Prop := ∀ x ∈ l, 0 ≤ x ∧ x < n
theorem rngB_get {n : Int} {l : List Int} (h : rngB n l) (i : Nat) (hi : i < l.length) : 0 ≤ l.getD i 0 ∧ l.getD i 0 < n := h _ (getD_mem l 0 i hi)
def incB : List Int → Bool
  | x :: y :: r => decide (x < y) && incB (y :: r)
  | _ => true
theorem incB_drop (l : List Int) (i : Nat) (h : i + 1 < l.length) : incB (l.drop i) = (decide (l.getD i 0 < l.getD (i + 1) 0) && incB (l.drop (i + 1))) := by
  rw [drop_cons' l 0 i (by omega), drop_cons' l 0 (i + 1) h]
  rfl
theorem incB_short (l : List Int) (i : Nat) (h : l.length ≤ i + 1) : incB (l.drop i) = true := by
  by_cases hi : i < l.length
  · rw [drop_cons' l 0 i hi, List.drop_of_length_le h]; rfl
  · rw [List.drop_of_length_le (by omega)]; rfl
theorem incB_get {l : List Int} (h : incB l = true) (i : Nat) (hi : i + 1 < l.length) : l.getD i 0 < l.getD (i + 1) 0 := by
  have : ∀ j, j ≤ i → incB (l.drop j) = true := fun j => by
    induction j with
    | zero => intro _; simpa using h
    | succ j ih =>
      intro hj
      have := ih (by omega)
      rw [incB_drop l j (by omega), Bool.and_eq_true] at this
      exact this.2
  have := this i (Nat.le_refl _)
  rw [incB_drop l i hi, Bool.and_eq_true] at this
  exact of_decide_eq_true this.1
theorem inc_unit {l : List Int} (hr : rngB (l.length : Int) l) : incB l = decide (l = unitL l.length) := by
  cases hc : incB l with
  | true =>
    symm
    apply decide_eq_true
    have low : ∀ i, i < l.length → (i : Int) ≤ l.getD i 0 := fun i => by
      induction i with
      | zero => intro hi; exact (rngB_get hr 0 hi).1
      | succ i ih =>
        intro hi
        have h1 := ih (by omega)
        have h2 := incB_get hc i hi
        omega
    have high : ∀ j i, i + j + 1 = l.length → l.getD i 0 ≤ (i : Int) := fun j => by
      induction j with
      | zero =>
        intro i hi
        have := rngB_get hr i (by omega)
        omega
      | succ j ih =>
        intro i hi
        have h1 := ih (i + 1) (by omega)
        have h2 := incB_get hc i (by omega)
        omega
    apply list_ext (by simp [unitL, tab_length])
    intro i hi
    rw [unitL, tab_getD _ _ _ hi]
    have h1 := low i hi
    have h2 := high (l.length - i - 1) i (by omega)
    omega
  | false =>
    symm
    apply decide_eq_false
    intro he
    have : ∀ n i, n - i ≤ n → incB ((unitL n).drop (n - i)) = true := fun n i => by
      induction i with
      | zero => intro _; exact incB_short _ _ (by simp [unitL, tab_length])
      | succ i ih =>
        intro hi
        by_cases hn : i + 1 ≤ n
        · by_cases h1 : i = 0
          · subst h1; exact incB_short _ _ (by simp [unitL, tab_length]; omega)
          · rw [incB_drop _ _ (by simp [unitL, tab_length]; omega), Bool.and_eq_true]
            refine ⟨decide_eq_true ?_, ?_⟩
            · rw [unitL, tab_getD _ _ _ (by omega), tab_getD _ _ _ (by omega)]; omega
            · rw [show n - (i + 1) + 1 = n - i by omega]; exact ih (by omega)
        · have := ih (by omega)
          rwa [show n - (i + 1) = n - i by omega]
    have := this l.length l.length (by omega)
    rw [Nat.sub_self, List.drop_zero, ← he, hc] at this
    cases this
def increasing_p (l : List Int) : Post := ⟨room l.length, .c (.bool (incB l)), []⟩
def increasing_ct : List AD → Option Post
  | [.c (.ints .i64 (l))] => some (increasing_p l)
  | _ => none
def increasing_ann (l : List Int) : Nat → Option Ann
  | 0 => some (Ann.mk ((Nat)) (fun i => ⟨[(0, .c (.ro (.ints .i64 (l)))), (3, .c (.int .i64 ((i : Int) + 1)))], []⟩) (fun i => incB l = incB (l.drop i)) (fun i => l.length - i) (fun _ => noAnn))
  | _ => none
def increasing_G : List (Nat × Ctr) := []
def increasing_V (l : List Int) : Prop :=
 ((∃ x0 : Nat, ((incB l = incB (List.drop x0 l))∧((l = l)∧((1:Int) = (↑x0:Int) + (1:Int)))))∧(∀ x1 : Nat, ((incB l = incB (List.drop x1 l)) → (BrP (decide ((↑x1:Int) + (1:Int) < (↑(l.length):Int))) ((InR ((↑x1:Int) + (1:Int) - (1:Int)))∧((inB ((↑x1:Int) + (1:Int) - (1:Int)) (l.length))∧((inB ((↑x1:Int) + (1:Int)) (l.length))∧(BrP (decide (l.getD (((↑x1:Int) + (1:Int)).toNat) (0:Int) ≤ l.getD (((↑x1:Int) + (1:Int) - (1:Int)).toNat) (0:Int))) ((false = incB l)∧True) ((InR ((↑x1:Int) + (1:Int) + (1:Int)))∧(∃ x2 : Nat, ((incB l = incB (List.drop x2 l))∧((l.length - x2 < l.length - x1)∧((l = l)∧((↑x1:Int) + (1:Int) + (1:Int) = (↑x2:Int) + (1:Int))))))))))) ((true = incB l)∧True)))))
theorem increasing_vc (l : List Int) : runF Tryz.prog (gam increasing_G) noWr (increasing_ann l) Tryz.f102 (bodyOf Tryz.f102) [] [.c (.ints .i64 (l))] (increasing_p l) = increasing_V l := by kernel_rfl
theorem increasing_ok (l : List Int) (hpre : (increasing_p l).pre) : increasing_V l := by
  simp only [increasing_p, increasing_V, BrP_iff, u1, u2, u3, u4, u5, u6, u7, u8, u9, v1, v2, v3, v4, v5, v6, v7, v8, v9, w1, w2, w3, w4, markL_length, inB, InR, room, bdsOk] at hpre ⊢
  refine ⟨⟨0, rfl, rfl⟩, fun i he => ⟨fun h => ?_, fun h => ?_⟩⟩
  · have hd := incB_drop l i (by omega)
    rw [show ((i : Int) + 1).toNat = i + 1 by omega, show ((i : Int) + 1 - 1).toNat = i by omega]
    refine ⟨by omega, by omega, by omega, fun h1 => ?_, fun h1 => ⟨by omega, i + 1, ?_, by omega, by omega⟩⟩
    · rw [he, hd, decide_eq_false (by omega)]; rfl
    · rw [he, hd, decide_eq_true (by omega)]; rfl
  · rw [he, incB_short l i (by omega)]
theorem increasing_fits : Fits Tryz.prog 102 ⟨[], increasing_ct⟩ := by
  refine ffn (Γ := gam increasing_G) gok_nil Tryz.func102 fun ds p h hp => ?_
  unfold increasing_ct at h
  split at h
  · cases h
    exact ⟨noWr, increasing_ann _ , by rw [increasing_vc]; exact increasing_ok _  hp⟩
  · cases h
def isIdentity_p (l : List Int) : Post := ⟨room l.length, .c (.bool (incB l)), []⟩
def isIdentity_ct : List AD → Option Post
  | [.c (.ints .i64 (l))] => some (isIdentity_p l)
  | _ => none
def isIdentity_G : List (Nat × Ctr) := [(102, ⟨[], increasing_ct⟩)]
def isIdentity_V (l : List Int) : Prop :=
 (((room (l.length))∧True)∧((incB l = incB l)∧True))
theorem isIdentity_vc (l : List Int) : runF Tryz.prog (gam isIdentity_G) noWr noAnn Tryz.f49 (bodyOf Tryz.f49) [] [.c (.ints .i64 (l))] (isIdentity_p l) = isIdentity_V l := by kernel_rfl
theorem isIdentity_ok (l : List Int) (hpre : (isIdentity_p l).pre) : isIdentity_V l := by
  simp only [isIdentity_p, isIdentity_V, BrP_iff, u1, u2, u3, u4, u5, u6, u7, u8, u9, v1, v2, v3, v4, v5, v6, v7, v8, v9, w1, w2, w3, w4, markL_length, inB, InR, room, bdsOk] at hpre ⊢
  exact hpre
theorem isIdentity_fits : Fits Tryz.prog 49 ⟨[], isIdentity_ct⟩ := by
  refine ffn (Γ := gam isIdentity_G) (gok_cons increasing_fits gok_nil) Tryz.func49 fun ds p h hp => ?_
  unfold isIdentity_ct at h
  split at h
  · cases h
    exact ⟨noWr, noAnn, by rw [isIdentity_vc]; exact isIdentity_ok _  hp⟩
  · cases h
end Go.Sx
end
section
open Go Go.Proofs
namespace Go.Sx
set_option linter.unusedSimpArgs false
set_option linter.unusedVariables false
def flB (x : List Int) : Bool := !((List.range (x.length - 1)).all fun i => decide (x.getD (i + 1) 0 ≠ x.getD i 0))
def l15Flat_p (x : List Int) : Post := ⟨x.length ≤ 1000, .c (.bool (flB x)), []⟩
def l15Flat_ct : List AD → Option Post
  | [.c (.ints .i64 (x))] => some (l15Flat_p x)
  | _ => none
def l15Flat_ann (x : List Int) : Nat → Option Ann
  | 0 => some (Ann.mk ((Nat)) (fun i => ⟨[(0, .c (.ro (.ints .i64 (x)))), (3, .c (.int .i64 ((i : Int) + 1)))], []⟩) (fun i => i ≤ x.length ∧ flB x = !((List.range' i (x.length - 1 - i)).all fun i => decide (x.getD (i + 1) 0 ≠ x.getD i 0))) (fun i => x.length - i) (fun _ => noAnn))
  | _ => none
def l15Flat_G : List (Nat × Ctr) := []
def l15Flat_V (x : List Int) : Prop :=
 ((∃ x0 : Nat, (((x0 ≤ x.length)∧(flB x = !List.all (List.range' x0 (x.length - (1:Nat) - x0)) fun (i : Nat) => decide (x.getD (i + (1:Nat)) (0:Int) ≠ x.getD i (0:Int))))∧((x = x)∧((1:Int) = (↑x0:Int) + (1:Int)))))∧(∀ x1 : Nat, (((x1 ≤ x.length)∧(flB x = !List.all (List.range' x1 (x.length - (1:Nat) - x1)) fun (i : Nat) => decide (x.getD (i + (1:Nat)) (0:Int) ≠ x.getD i (0:Int)))) → (BrP (decide ((↑x1:Int) + (1:Int) < (↑(x.length):Int))) ((inB ((↑x1:Int) + (1:Int)) (x.length))∧((InR ((↑x1:Int) + (1:Int) - (1:Int)))∧((inB ((↑x1:Int) + (1:Int) - (1:Int)) (x.length))∧(BrP (x.getD (((↑x1:Int) + (1:Int)).toNat) (0:Int) == x.getD (((↑x1:Int) + (1:Int) - (1:Int)).toNat) (0:Int)) ((true = flB x)∧True) ((InR ((↑x1:Int) + (1:Int) + (1:Int)))∧(∃ x2 : Nat, (((x2 ≤ x.length)∧(flB x = !List.all (List.range' x2 (x.length - (1:Nat) - x2)) fun (i : Nat) => decide (x.getD (i + (1:Nat)) (0:Int) ≠ x.getD i (0:Int))))∧((x.length - x2 < x.length - x1)∧((x = x)∧((↑x1:Int) + (1:Int) + (1:Int) = (↑x2:Int) + (1:Int))))))))))) ((false = flB x)∧True)))))
theorem l15Flat_vc (x : List Int) : runF Tryz.prog (gam l15Flat_G) noWr (l15Flat_ann x) Tryz.f103 (bodyOf Tryz.f103) [] [.c (.ints .i64 (x))] (l15Flat_p x) = l15Flat_V x := by kernel_rfl
theorem l15Flat_ok (x : List Int) (hpre : (l15Flat_p x).pre) : l15Flat_V x := by
  simp only [l15Flat_p, l15Flat_V, BrP_iff, u1, u2, u3, u4, u5, u6, u7, u8, u9, v1, v2, v3, v4, v5, v6, v7, v8, v9, w1, w2, w3, w4, markL_length, inB, InR, room, bdsOk] at hpre ⊢
  refine ⟨⟨0, ⟨by omega, by rw [flB, rg_start, Nat.sub_zero]⟩, by omega⟩, fun i ⟨hi, he⟩ => ⟨fun h => ?_, fun h => ?_⟩⟩
  · rw [rg_step _ (by omega)] at he
    rw [show ((i : Int) + 1).toNat = i + 1 by omega, show ((i : Int) + 1 - 1).toNat = i by omega]
    refine ⟨by omega, by omega, by omega, fun h2 => ?_, fun h2 => ⟨by omega, i + 1, ⟨by omega, ?_⟩, by omega, by omega⟩⟩
    · rw [he, decide_eq_false (by rw [h2]; simp)]; rfl
    · rw [he, decide_eq_true h2, Bool.true_and]
  · rw [he, rg_end _ (by omega)]; rfl
theorem l15Flat_fits : Fits Tryz.prog 103 ⟨[], l15Flat_ct⟩ := by
  refine ffn (Γ := gam l15Flat_G) gok_nil Tryz.func103 fun ds p h hp => ?_
  unfold l15Flat_ct at h
  split at h
  · cases h
    exact ⟨noWr, l15Flat_ann _ , by rw [l15Flat_vc]; exact l15Flat_ok _  hp⟩
  · cases h
def isDegenerate_p (x : List Int) : Post := ⟨x.length ≤ 1000, .c (.bool (flB x)), []⟩
def isDegenerate_ct : List AD → Option Post
  | [.c (.ints .i64 (x))] => some (isDegenerate_p x)
  | _ => none
def isDegenerate_ann (x : List Int) : Nat → Option Ann
  | 0 => some (Ann.mk ((Nat)) (fun i => ⟨[(0, .c (.ro (.ints .i64 (x)))), (3, .c (.int .i64 ((i : Int) + 1)))], []⟩) (fun i => i ≤ x.length ∧ flB x = !((List.range' i (x.length - 1 - i)).all fun i => decide (x.getD (i + 1) 0 ≠ x.getD i 0))) (fun i => x.length - i) (fun _ => noAnn))
  | _ => none
def isDegenerate_G : List (Nat × Ctr) := []
def isDegenerate_V (x : List Int) : Prop :=
 ((∃ x0 : Nat, (((x0 ≤ x.length)∧(flB x = !List.all (List.range' x0 (x.length - (1:Nat) - x0)) fun (i : Nat) => decide (x.getD (i + (1:Nat)) (0:Int) ≠ x.getD i (0:Int))))∧((x = x)∧((1:Int) = (↑x0:Int) + (1:Int)))))∧(∀ x1 : Nat, (((x1 ≤ x.length)∧(flB x = !List.all (List.range' x1 (x.length - (1:Nat) - x1)) fun (i : Nat) => decide (x.getD (i + (1:Nat)) (0:Int) ≠ x.getD i (0:Int)))) → (BrP (decide ((↑x1:Int) + (1:Int) < (↑(x.length):Int))) ((inB ((↑x1:Int) + (1:Int)) (x.length))∧((InR ((↑x1:Int) + (1:Int) - (1:Int)))∧((inB ((↑x1:Int) + (1:Int) - (1:Int)) (x.length))∧(BrP (x.getD (((↑x1:Int) + (1:Int)).toNat) (0:Int) == x.getD (((↑x1:Int) + (1:Int) - (1:Int)).toNat) (0:Int)) ((true = flB x)∧True) ((InR ((↑x1:Int) + (1:Int) + (1:Int)))∧(∃ x2 : Nat, (((x2 ≤ x.length)∧(flB x = !List.all (List.range' x2 (x.length - (1:Nat) - x2)) fun (i : Nat) => decide (x.getD (i + (1:Nat)) (0:Int) ≠ x.getD i (0:Int))))∧((x.length - x2 < x.length - x1)∧((x = x)∧((↑x1:Int) + (1:Int) + (1:Int) = (↑x2:Int) + (1:Int))))))))))) ((false = flB x)∧True)))))
theorem isDegenerate_vc (x : List Int) : runF Tryz.prog (gam isDegenerate_G) noWr (isDegenerate_ann x) Tryz.f51 (bodyOf Tryz.f51) [] [.c (.ints .i64 (x))] (isDegenerate_p x) = isDegenerate_V x := by kernel_rfl
theorem isDegenerate_ok (x : List Int) (hpre : (isDegenerate_p x).pre) : isDegenerate_V x := by
  simp only [isDegenerate_p, isDegenerate_V, BrP_iff, u1, u2, u3, u4, u5, u6, u7, u8, u9, v1, v2, v3, v4, v5, v6, v7, v8, v9, w1, w2, w3, w4, markL_length, inB, InR, room, bdsOk] at hpre ⊢
  refine ⟨⟨0, ⟨by omega, by rw [flB, rg_start, Nat.sub_zero]⟩, by omega⟩, fun i ⟨hi, he⟩ => ⟨fun h => ?_, fun h => ?_⟩⟩
  · rw [rg_step _ (by omega)] at he
    rw [show ((i : Int) + 1).toNat = i + 1 by omega, show ((i : Int) + 1 - 1).toNat = i by omega]
    refine ⟨by omega, by omega, by omega, fun h2 => ?_, fun h2 => ⟨by omega, i + 1, ⟨by omega, ?_⟩, by omega, by omega⟩⟩
    · rw [he, decide_eq_false (by rw [h2]; simp)]; rfl
    · rw [he, decide_eq_true h2, Bool.true_and]
  · rw [he, rg_end _ (by omega)]; rfl
theorem isDegenerate_fits : Fits Tryz.prog 51 ⟨[], isDegenerate_ct⟩ := by
  refine ffn (Γ := gam isDegenerate_G) gok_nil Tryz.func51 fun ds p h hp => ?_
  unfold isDegenerate_ct at h
  split at h
  · cases h
    exact ⟨noWr, isDegenerate_ann _ , by rw [isDegenerate_vc]; exact isDegenerate_ok _  hp⟩
  · cases h
def clrN (n k : Int) (c : List Int) (i : Nat) : List Int := tab c.length fun q => if q < i ∧ flB (digN n k.toNat (q : Int)) = true then 0 else c.getD q 0
theorem clrN_length (n k : Int) (c : List Int) (i : Nat) : (clrN n k c i).length = c.length := tab_length _ _
theorem clrN_zero (n k : Int) (c : List Int) : clrN n k c 0 = c := by
  conv => rhs; rw [eq_tab c]
  exact tab_ext fun q _ => if_neg (by omega)
theorem clrN_yes {n k : Int} {c : List Int} {i : Nat} (h : flB (digN n k.toNat (i : Int)) = true) : (clrN n k c i).set i 0 = clrN n k c (i + 1) := by
  rw [clrN, tab_set]
  refine tab_ext fun q _ => ?_
  by_cases hq : q = i
  · subst hq; rw [if_pos rfl, if_pos ⟨by omega, h⟩]
  · rw [if_neg hq]
    by_cases h2 : q < i ∧ flB (digN n k.toNat (q : Int)) = true
    · rw [if_pos h2, if_pos ⟨by omega, h2.2⟩]
    · rw [if_neg h2, if_neg fun h3 => h2 ⟨by omega, h3.2⟩]
theorem clrN_no {n k : Int} {c : List Int} {i : Nat} (h : flB (digN n k.toNat (i : Int)) = false) : clrN n k c i = clrN n k c (i + 1) := by
  refine tab_ext fun q _ => ?_
  by_cases hq : q = i
  · subst hq; rw [if_neg (by omega), if_neg (by rw [h]; simp)]
  · by_cases h2 : q < i ∧ flB (digN n k.toNat (q : Int)) = true
    · rw [if_pos h2, if_pos ⟨by omega, h2.2⟩]
    · rw [if_neg h2, if_neg fun h3 => h2 ⟨by omega, h3.2⟩]
def withoutDegenerate_p (n : Int) (k : Int) (c : List Int) : Post := ⟨1 ≤ n ∧ 0 ≤ k ∧ k ≤ 1000 ∧ c.length ≤ 1000000, .tup [], [.ints 2 .i64 (clrN n k c c.length)]⟩
def withoutDegenerate_ct : List AD → Option Post
  | [.c (.int .i64 (n)), .c (.int .i64 (k)), .c (.ints .i64 (c))] => some (withoutDegenerate_p n k c)
  | _ => none
def withoutDegenerate_ann (n : Int) (k : Int) (c : List Int) : Nat → Option Ann
  | 0 => some (Ann.mk ((Nat)) (fun i => ⟨[(0, .c (.int .i64 (n))), (1, .c (.int .i64 (k))), (2, .c (.own (732))), (8, .c (.int .i64 ((c.length : Int)))), (9, .c (.int .i64 ((i : Int))))], [(732, some (.ints 2 .i64 (clrN n k c i)))]⟩) (fun i => i ≤ c.length) (fun i => c.length - i) (fun _ => noAnn))
  | _ => none
def withoutDegenerate_G : List (Nat × Ctr) := [(52, ⟨[], tupleOf_ct⟩), (51, ⟨[], isDegenerate_ct⟩)]
def withoutDegenerate_V (n : Int) (k : Int) (c : List Int) : Prop :=
 ((∃ x0 : Nat, ((x0 ≤ c.length)∧((n = n)∧((k = k)∧(((↑(c.length):Int) = (↑(c.length):Int))∧(((0:Int) = (↑x0:Int))∧(c = clrN n k c x0)))))))∧(∀ x1 : Nat, ((x1 ≤ c.length) → (BrP (decide ((↑x1:Int) < (↑(c.length):Int))) (((((1:Int) ≤ n)∧(((0:Int) ≤ k)∧((k ≤ (1000:Int))∧(((0:Int) ≤ (↑x1:Int))∧((↑x1:Int) ≤ (1000000:Int))))))∧True)∧((((digN n (k.toNat) (↑x1:Int)).length ≤ (1000:Nat))∧True)∧(BrP (flB (digN n (k.toNat) (↑x1:Int))) ((inB (↑x1:Int) ((clrN n k c x1).length))∧((InR ((↑x1:Int) + (1:Int)))∧(∃ x2 : Nat, ((x2 ≤ c.length)∧((c.length - x2 < c.length - x1)∧((n = n)∧((k = k)∧(((↑(c.length):Int) = (↑(c.length):Int))∧(((↑x1:Int) + (1:Int) = (↑x2:Int))∧(List.set (clrN n k c x1) ((↑x1:Int).toNat) (0:Int) = clrN n k c x2)))))))))) ((InR ((↑x1:Int) + (1:Int)))∧(∃ x3 : Nat, ((x3 ≤ c.length)∧((c.length - x3 < c.length - x1)∧((n = n)∧((k = k)∧(((↑(c.length):Int) = (↑(c.length):Int))∧(((↑x1:Int) + (1:Int) = (↑x3:Int))∧(clrN n k c x1 = clrN n k c x3)))))))))))) (True∧((clrN n k c x1 = clrN n k c (c.length))∧True))))))
theorem withoutDegenerate_vc (n : Int) (k : Int) (c : List Int) : runF Tryz.prog (gam withoutDegenerate_G) noWr (withoutDegenerate_ann n k c) Tryz.f91 (bodyOf Tryz.f91) [(2, 0)] [.c (.int .i64 (n)), .c (.int .i64 (k)), .c (.ints .i64 (c))] (withoutDegenerate_p n k c) = withoutDegenerate_V n k c := by kernel_rfl
theorem withoutDegenerate_ok (n : Int) (k : Int) (c : List Int) (hpre : (withoutDegenerate_p n k c).pre) : withoutDegenerate_V n k c := by
  simp only [withoutDegenerate_p, withoutDegenerate_V, BrP_iff, u1, u2, u3, u4, u5, u6, u7, u8, u9, v1, v2, v3, v4, v5, v6, v7, v8, v9, w1, w2, w3, w4, markL_length, inB, InR, room, bdsOk] at hpre ⊢
  obtain ⟨h1, h2, h3, h4⟩ := hpre
  refine ⟨⟨0, by omega, rfl, (clrN_zero n k c).symm⟩, fun i hi => ⟨fun h => ?_, fun h => by rw [show i = c.length by omega]⟩⟩
  rw [digN_length, clrN_length]
  exact ⟨by omega, by omega, fun hf => ⟨by omega, by omega, i + 1, by omega, by omega, by omega, clrN_yes hf⟩, fun hf => ⟨by omega, i + 1, by omega, by omega, by omega, clrN_no hf⟩⟩
theorem withoutDegenerate_fits : Fits Tryz.prog 91 ⟨[(2, 0)], withoutDegenerate_ct⟩ := by
  refine ffn (Γ := gam withoutDegenerate_G) (gok_cons tupleOf_fits (gok_cons isDegenerate_fits gok_nil)) Tryz.func91 fun ds p h hp => ?_
  unfold withoutDegenerate_ct at h
  split at h
  · cases h
    exact ⟨noWr, withoutDegenerate_ann _ _ _ , by rw [withoutDegenerate_vc]; exact withoutDegenerate_ok _ _ _  hp⟩
  · cases h
def l15Clear_p (n : Int) (k : Int) (c : List Int) : Post := ⟨1 ≤ n ∧ 0 ≤ k ∧ k ≤ 1000 ∧ c.length ≤ 1000000, .c (.ints 2 .i64 (clrN n k c c.length)), []⟩
def l15Clear_ct : List AD → Option Post
  | [.c (.int .i64 (n)), .c (.int .i64 (k)), .c (.ints .i64 (c))] => some (l15Clear_p n k c)
  | _ => none
def l15Clear_ann (n : Int) (k : Int) (c : List Int) : Nat → Option Ann
  | 0 => some (Ann.mk ((Nat)) (fun i => ⟨[(0, .c (.int .i64 (n))), (1, .c (.int .i64 (k))), (7, .c (.own (10))), (8, .c (.int .i64 ((i : Int))))], [(10, some (.ints 2 .i64 (clrN n k c i)))]⟩) (fun i => i ≤ c.length) (fun i => c.length - i) (fun _ => noAnn))
  | _ => none
def l15Clear_G : List (Nat × Ctr) := [(117, ⟨[], l01Own_ct⟩), (95, ⟨[], l15Tuple_ct⟩), (103, ⟨[], l15Flat_ct⟩)]
def l15Clear_V (n : Int) (k : Int) (c : List Int) : Prop :=
 (((room (c.length))∧True)∧((∃ x0 : Nat, ((x0 ≤ c.length)∧((n = n)∧((k = k)∧(((0:Int) = (↑x0:Int))∧(c = clrN n k c x0))))))∧(∀ x1 : Nat, ((x1 ≤ c.length) → (BrP (decide ((↑x1:Int) < (↑((clrN n k c x1).length):Int))) (((((1:Int) ≤ n)∧(((0:Int) ≤ k)∧((k ≤ (1000:Int))∧(((0:Int) ≤ (↑x1:Int))∧((↑x1:Int) ≤ (1000000:Int))))))∧True)∧((((digN n (k.toNat) (↑x1:Int)).length ≤ (1000:Nat))∧True)∧(BrP (flB (digN n (k.toNat) (↑x1:Int))) ((inB (↑x1:Int) ((clrN n k c x1).length))∧((InR ((↑x1:Int) + (1:Int)))∧(∃ x2 : Nat, ((x2 ≤ c.length)∧((c.length - x2 < c.length - x1)∧((n = n)∧((k = k)∧(((↑x1:Int) + (1:Int) = (↑x2:Int))∧(List.set (clrN n k c x1) ((↑x1:Int).toNat) (0:Int) = clrN n k c x2))))))))) ((InR ((↑x1:Int) + (1:Int)))∧(∃ x3 : Nat, ((x3 ≤ c.length)∧((c.length - x3 < c.length - x1)∧((n = n)∧((k = k)∧(((↑x1:Int) + (1:Int) = (↑x3:Int))∧(clrN n k c x1 = clrN n k c x3))))))))))) ((clrN n k c x1 = clrN n k c (c.length))∧True))))))
theorem l15Clear_vc (n : Int) (k : Int) (c : List Int) : runF Tryz.prog (gam l15Clear_G) noWr (l15Clear_ann n k c) Tryz.f104 (bodyOf Tryz.f104) [] [.c (.int .i64 (n)), .c (.int .i64 (k)), .c (.ints .i64 (c))] (l15Clear_p n k c) = l15Clear_V n k c := by kernel_rfl
theorem l15Clear_ok (n : Int) (k : Int) (c : List Int) (hpre : (l15Clear_p n k c).pre) : l15Clear_V n k c := by
  simp only [l15Clear_p, l15Clear_V, BrP_iff, u1, u2, u3, u4, u5, u6, u7, u8, u9, v1, v2, v3, v4, v5, v6, v7, v8, v9, w1, w2, w3, w4, markL_length, inB, InR, room, bdsOk] at hpre ⊢
  obtain ⟨h1, h2, h3, h4⟩ := hpre
  refine ⟨by omega, ⟨0, by omega, rfl, (clrN_zero n k c).symm⟩, fun i hi => ?_⟩
  rw [clrN_length]
  refine ⟨fun h => ?_, fun h => by rw [show i = c.length by omega]⟩
  rw [digN_length]
  exact ⟨by omega, by omega, fun hf => ⟨by omega, by omega, i + 1, by omega, by omega, by omega, clrN_yes hf⟩, fun hf => ⟨by omega, i + 1, by omega, by omega, by omega, clrN_no hf⟩⟩
theorem l15Clear_fits : Fits Tryz.prog 104 ⟨[], l15Clear_ct⟩ := by
  refine ffn (Γ := gam l15Clear_G) (gok_cons l01Own_fits (gok_cons l15Tuple_fits (gok_cons l15Flat_fits gok_nil))) Tryz.func104 fun ds p h hp => ?_
  unfold l15Clear_ct at h
  split at h
  · cases h
    exact ⟨noWr, l15Clear_ann _ _ _ , by rw [l15Clear_vc]; exact l15Clear_ok _ _ _  hp⟩
  · cases h
def kkL (t : List (List Int)) : List Int := tab t.length fun x => en t x x
def qdB (t : List (List Int)) : Bool := (List.range t.length).all fun x => decide (en t x x = (x : Int))
theorem kk_inc {t : List (List Int)} (h : tabB t = true) : incB (kkL t) = qdB t := by
  obtain ⟨n1, n2, ht⟩ := tabB_of h
  have hl : (kkL t).length = t.length := tab_length _ _
  have hr : rngB ((kkL t).length : Int) (kkL t) := fun x hx => by
    simp only [kkL, tab, List.mem_map, List.mem_range] at hx
    obtain ⟨i, hi, rfl⟩ := hx
    have := (ht i hi).2 i hi
    rw [hl]
    unfold en
    omega
  rw [inc_unit hr, hl, Bool.eq_iff_iff, decide_eq_true_iff, qdB, List.all_eq_true]
  constructor
  · intro e x hx
    rw [List.mem_range] at hx
    refine decide_eq_true ?_
    have : (kkL t).getD x 0 = (unitL t.length).getD x 0 := by rw [e]
    rwa [kkL, unitL, tab_getD _ _ _ hx, tab_getD _ _ _ hx] at this
  · intro e
    exact tab_ext fun x hx => of_decide_eq_true (e x (by simpa using hx))
def kinkOf_p (t : List (List Int)) : Post := ⟨tabB t = true, .c (.ints 2 .i64 (kkL t)), []⟩
def kinkOf_ct : List AD → Option Post
  | [.agg [.rows .i64 (t)]] => some (kinkOf_p t)
  | _ => none
def kinkOf_ann (t : List (List Int)) : Nat → Option Ann
  | 0 => some (Ann.mk ((Nat)) (fun i => ⟨[(1, .c (.ptr 1 0)), (3, .c (.own (8))), (10, .c (.int .i64 ((t.length : Int)))), (11, .c (.int .i64 ((i : Int))))], [(1, some (.box [.ro (.rows .i64 (t))])), (8, some (.ints 2 .i64 ((kkL t).take i ++ List.replicate ((kkL t).length - i) 0)))]⟩) (fun i => i ≤ t.length) (fun i => t.length - i) (fun _ => noAnn))
  | _ => none
def kinkOf_G : List (Nat × Ctr) := []
def kinkOf_V (t : List (List Int)) : Prop :=
 ((((0:Int) ≤ (↑(t.length):Int))∧(((↑(t.length):Int) ≤ (↑(t.length):Int))∧(room ((↑(t.length):Int).toNat))))∧((∃ x0 : Nat, ((x0 ≤ t.length)∧(((↑((List.replicate ((↑(t.length):Int).toNat) (0:Int)).length):Int) = (↑(t.length):Int))∧(((0:Int) = (↑x0:Int))∧((t = t)∧(List.replicate ((↑(t.length):Int).toNat) (0:Int) = List.take x0 (kkL t) ++ List.replicate ((kkL t).length - x0) (0:Int)))))))∧(∀ x1 : Nat, ((x1 ≤ t.length) → (BrP (decide ((↑x1:Int) < (↑(t.length):Int))) ((inB (↑x1:Int) (t.length))∧((inB (↑x1:Int) ((t.getD ((↑x1:Int).toNat) []).length))∧((inB (↑x1:Int) ((List.take x1 (kkL t) ++ List.replicate ((kkL t).length - x1) (0:Int)).length))∧((InR ((↑x1:Int) + (1:Int)))∧(∃ x2 : Nat, ((x2 ≤ t.length)∧((t.length - x2 < t.length - x1)∧(((↑(t.length):Int) = (↑(t.length):Int))∧(((↑x1:Int) + (1:Int) = (↑x2:Int))∧((t = t)∧(List.set (List.take x1 (kkL t) ++ List.replicate ((kkL t).length - x1) (0:Int)) ((↑x1:Int).toNat) ((List.getD t ((↑x1:Int).toNat) []).getD ((↑x1:Int).toNat) (0:Int)) = List.take x2 (kkL t) ++ List.replicate ((kkL t).length - x2) (0:Int)))))))))))) ((List.take x1 (kkL t) ++ List.replicate ((kkL t).length - x1) (0:Int) = kkL t)∧True))))))
theorem kinkOf_vc (t : List (List Int)) : runF Tryz.prog (gam kinkOf_G) noWr (kinkOf_ann t) Tryz.f50 (bodyOf Tryz.f50) [] [.agg [.rows .i64 (t)]] (kinkOf_p t) = kinkOf_V t := by kernel_rfl
theorem kinkOf_ok (t : List (List Int)) (hpre : (kinkOf_p t).pre) : kinkOf_V t := by
  simp only [kinkOf_p, kinkOf_V, BrP_iff, u1, u2, u3, u4, u5, u6, u7, u8, u9, v1, v2, v3, v4, v5, v6, v7, v8, v9, w1, w2, w3, w4, markL_length, inB, InR, room, bdsOk] at hpre ⊢
  obtain ⟨n1, n2, ht⟩ := tabB_of hpre
  have hl : (kkL t).length = t.length := tab_length _ _
  rw [hl]
  refine ⟨by omega, ⟨0, by omega, rfl, by simp⟩, fun i hi => ⟨fun h => ?_, fun h => ?_⟩⟩
  · have r := ht i (by omega)
    have e : (t.getD i []).getD i 0 = (kkL t).getD i 0 := (tab_getD _ (fun x => en t x x) i (by omega)).symm
    refine ⟨by omega, by omega, by omega, by omega, i + 1, by omega, by omega, by omega, ?_⟩
    rw [e]
    have := fill_step (kkL t) 0 0 i (by omega)
    rwa [hl] at this
  · rw [List.take_of_length_le (by omega), show t.length - i = 0 by omega]; simp
theorem kinkOf_fits : Fits Tryz.prog 50 ⟨[], kinkOf_ct⟩ := by
  refine ffn (Γ := gam kinkOf_G) gok_nil Tryz.func50 fun ds p h hp => ?_
  unfold kinkOf_ct at h
  split at h
  · cases h
    exact ⟨noWr, kinkOf_ann _ , by rw [kinkOf_vc]; exact kinkOf_ok _  hp⟩
  · cases h
def l03Quandle_p (t : List (List Int)) : Post := ⟨tabB t = true, .c (.bool (qdB t)), []⟩
def l03Quandle_ct : List AD → Option Post
  | [.agg [.rows .i64 (t)]] => some (l03Quandle_p t)
  | _ => none
def l03Quandle_ann (t : List (List Int)) : Nat → Option Ann
  | 0 => some (Ann.mk ((Nat)) (fun i => ⟨[(1, .c (.ptr 1 0)), (3, .c (.int .i64 ((i : Int))))], [(1, some (.box [.ro (.rows .i64 (t))]))]⟩) (fun i => i ≤ t.length ∧ qdB t = (List.range' i (t.length - i)).all fun x => decide (en t x x = (x : Int))) (fun i => t.length - i) (fun _ => noAnn))
  | _ => none
def l03Quandle_G : List (Nat × Ctr) := []
def l03Quandle_V (t : List (List Int)) : Prop :=
 ((∃ x0 : Nat, (((x0 ≤ t.length)∧(qdB t = List.all (List.range' x0 (t.length - x0)) fun (x : Nat) => decide (en t x x = (↑x:Int))))∧(((0:Int) = (↑x0:Int))∧(t = t))))∧(∀ x1 : Nat, (((x1 ≤ t.length)∧(qdB t = List.all (List.range' x1 (t.length - x1)) fun (x : Nat) => decide (en t x x = (↑x:Int)))) → (BrP (decide ((↑x1:Int) < (↑(t.length):Int))) ((inB (↑x1:Int) (t.length))∧((inB (↑x1:Int) ((t.getD ((↑x1:Int).toNat) []).length))∧(BrP ((List.getD t ((↑x1:Int).toNat) []).getD ((↑x1:Int).toNat) (0:Int) != (↑x1:Int)) ((false = qdB t)∧True) ((InR ((↑x1:Int) + (1:Int)))∧(∃ x2 : Nat, (((x2 ≤ t.length)∧(qdB t = List.all (List.range' x2 (t.length - x2)) fun (x : Nat) => decide (en t x x = (↑x:Int))))∧((t.length - x2 < t.length - x1)∧(((↑x1:Int) + (1:Int) = (↑x2:Int))∧(t = t))))))))) ((true = qdB t)∧True)))))
theorem l03Quandle_vc (t : List (List Int)) : runF Tryz.prog (gam l03Quandle_G) noWr (l03Quandle_ann t) Tryz.f53 (bodyOf Tryz.f53) [] [.agg [.rows .i64 (t)]] (l03Quandle_p t) = l03Quandle_V t := by kernel_rfl
theorem l03Quandle_ok (t : List (List Int)) (hpre : (l03Quandle_p t).pre) : l03Quandle_V t := by
  simp only [l03Quandle_p, l03Quandle_V, BrP_iff, u1, u2, u3, u4, u5, u6, u7, u8, u9, v1, v2, v3, v4, v5, v6, v7, v8, v9, w1, w2, w3, w4, markL_length, inB, InR, room, bdsOk] at hpre ⊢
  obtain ⟨n1, n2, ht⟩ := tabB_of hpre
  refine ⟨⟨0, ⟨by omega, rg_start _ _⟩, rfl⟩, fun i ⟨hi, he⟩ => ⟨fun h => ?_, fun h => by rw [he, rg_end _ (by omega)]⟩⟩
  have r := ht i (by omega)
  rw [rg_step _ (by omega)] at he
  refine ⟨by omega, by omega, fun h2 => ?_, fun h2 => ⟨by omega, i + 1, ⟨by omega, ?_⟩, by omega, by omega⟩⟩
  · rw [he, show decide (en t i i = (i : Int)) = false from decide_eq_false h2]; rfl
  · rw [he, show decide (en t i i = (i : Int)) = true from decide_eq_true h2, Bool.true_and]
theorem l03Quandle_fits : Fits Tryz.prog 53 ⟨[], l03Quandle_ct⟩ := by
  refine ffn (Γ := gam l03Quandle_G) gok_nil Tryz.func53 fun ds p h hp => ?_
  unfold l03Quandle_ct at h
  split at h
  · cases h
    exact ⟨noWr, l03Quandle_ann _ , by rw [l03Quandle_vc]; exact l03Quandle_ok _  hp⟩
  · cases h
end Go.Sx
end
