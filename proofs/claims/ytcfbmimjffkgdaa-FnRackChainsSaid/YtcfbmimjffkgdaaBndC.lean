/- BndC -/
import Derived.Test.YtcfbmimjffkgdaaBndI
import Derived.Test.YtcfbmimjffkgdaaRackC
import Derived.Test.YtcfbmimjffkgdaaPair
open Go Go.Proofs
namespace Go.Sx
set_option linter.unusedSimpArgs false
set_option linter.unusedVariables false

def dgB (t : List (List Int)) (p k : Int) : Bool := primeB p && degB t.length k
def dgC (t : List (List Int)) (p k : Int) : Int := if rackB t = true then (if dgB t p k = true then 0 else 2) else 1
def chB (t : List (List Int)) (p k : Int) (c : List Int) : Bool := decide ((c.length : Int) = (t.length : Int) ^ k.toNat) && allW 0 (p - 1) c
def chC (t : List (List Int)) (p k : Int) (c : List Int) : Int := if rackB t = true then (if dgB t p k = true then (if chB t p k c = true then 0 else 2) else 2) else 1

theorem allW_inP {p : Int} {c : List Int} (h : allW 0 (p - 1) c = true) : inP p c := fun q hq => by
  have := List.all_eq_true.1 h _ (getD_mem c 0 q hq)
  simpa using this

theorem chB_of {t : List (List Int)} {p k : Int} {c : List Int} (h : chB t p k c = true) : c.length = t.length ^ k.toNat ∧ inP p c ∧ allW 0 (p - 1) c = true := by
  simp only [chB, Bool.and_eq_true, decide_eq_true_eq] at h
  refine ⟨?_, allW_inP h.2, h.2⟩
  have := h.1
  rw [← Int.natCast_pow] at this
  exact Int.natCast_inj.1 this

theorem dgC_ok {t : List (List Int)} {p k : Int} (h : dgC t p k = 0) : rackB t = true ∧ primeB p = true ∧ degB t.length k = true ∧ dgB t p k = true := by
  unfold dgC at h
  split at h
  · split at h
    · rename_i a b
      have := b
      simp only [dgB, Bool.and_eq_true] at this
      exact ⟨a, this.1, this.2, b⟩
    · omega
  · omega

theorem dgC_no {t : List (List Int)} {p k : Int} (c : List Int) (h : dgC t p k ≠ 0) : dgC t p k = chC t p k c := by
  unfold dgC at h ⊢
  unfold chC
  split
  · rename_i a
    rw [if_pos a] at h
    split
    · rename_i b; rw [if_pos b] at h; omega
    · rfl
  · rfl

theorem chC_ok {t : List (List Int)} {p k : Int} {c : List Int} (h : chC t p k c = 0) : rackB t = true ∧ primeB p = true ∧ degB t.length k = true ∧ chB t p k c = true ∧ dgC t p k = 0 := by
  unfold chC at h
  split at h
  · split at h
    · split at h
      · rename_i a b d
        have e : dgC t p k = 0 := by rw [dgC, if_pos a, if_pos b]
        obtain ⟨x, y, z, _⟩ := dgC_ok e
        exact ⟨x, y, z, d, e⟩
      · omega
    · omega
  · omega

theorem degB_of {n k : Int} (h : degB n k = true) : 0 ≤ k ∧ k ≤ 1000 ∧ n ^ k.toNat ≤ 512 := by
  simp only [degB, Bool.and_eq_true, decide_eq_true_eq] at h
  omega

def checkDegree_p (t : List (List Int)) (p : Int) (k : Int) : Post := ⟨roomR t, .c (.int .i64 (dgC t p k)), []⟩
def checkDegree_ct : List AD → Option Post
  | [.agg [.rows .i64 (t)], .c (.int .i64 (p)), .c (.int .i64 (k))] => some (checkDegree_p t p k)
  | _ => none
def checkDegree_G : List (Nat × Ctr) := [(26, ⟨[], IsRack_ct⟩), (104, ⟨[], isFieldPrime_ct⟩), (51, ⟨[], isDegree_ct⟩)]
def checkDegree_V (t : List (List Int)) (p : Int) (k : Int) : Prop :=
  (((roomR t) ∧
 (True)) ∧
 (BrP (!rackB t)
 (((1 : Int) = dgC t p k) ∧
 (True))
 (((True) ∧
 (True)) ∧
 (BrP (!primeB p)
 (((2 : Int) = dgC t p k) ∧
 (True))
 (((((1 : Int) ≤ (↑(List.length t) : Int)) ∧
 ((↑(List.length t) : Int) ≤ (12 : Int))) ∧
 (True)) ∧
 (BrP (!degB (↑(List.length t) : Int) k)
 (((2 : Int) = dgC t p k) ∧
 (True))
 (((0 : Int) = dgC t p k) ∧
 (True))))))))
theorem checkDegree_vc (t : List (List Int)) (p : Int) (k : Int) : runF Try.prog (gam checkDegree_G) noWr noAnn Try.f50 (bodyOf Try.f50) [] [.agg [.rows .i64 (t)], .c (.int .i64 (p)), .c (.int .i64 (k))] (checkDegree_p t p k) = checkDegree_V t p k := by kernel_rfl
theorem checkDegree_ok (t : List (List Int)) (p : Int) (k : Int) (hpre : (checkDegree_p t p k).pre) : checkDegree_V t p k := by
  simp only [checkDegree_p, checkDegree_V, BrP_iff, true_and, and_true, decide_eq_true_eq, decide_eq_false_iff_not, bne_iff_ne, beq_iff_eq, bne_eq_false_iff_eq, beq_eq_false_iff_ne, Bool.not_eq_true, Bool.not_eq_false, Bool.not_true, Bool.not_false, Bool.not_eq_eq_eq_not, Int.toNat_natCast, List.length_append, List.length_take, List.length_replicate, List.length_set, List.length_map, List.length_drop, List.length_nil, List.length_cons, markL_length, inB, InR, room, bdsOk] at hpre ⊢
  refine ⟨hpre, fun h => by simp [dgC, h], fun h => ⟨fun h2 => by simp [dgC, h, dgB, h2], fun h2 => ?_⟩⟩
  have hn := tabB_of (rackB_tab h)
  exact ⟨by omega, fun h3 => by simp [dgC, h, dgB, h2, h3], fun h3 => by simp [dgC, h, dgB, h2, h3]⟩
theorem checkDegree_fits : Fits Try.prog 50 ⟨[], checkDegree_ct⟩ := by
  refine fits_fn (Γ := gam checkDegree_G) (gok_cons IsRack_fits (gok_cons isFieldPrime_fits (gok_cons isDegree_fits gok_nil))) Try.func50 (by kernel_rfl) (by kernel_rfl) (by kernel_rfl) fun ds p h hp => ?_
  unfold checkDegree_ct at h
  split at h
  · cases h
    exact ⟨noWr, noAnn, by rw [checkDegree_vc]; exact checkDegree_ok _ _ _  hp⟩
  · cases h

def checkChain_p (t : List (List Int)) (p : Int) (k : Int) (c : List Int) : Post := ⟨roomR t ∧ c.length ≤ 1099511627776, .c (.int .i64 (chC t p k c)), []⟩
def checkChain_ct : List AD → Option Post
  | [.agg [.rows .i64 (t)], .c (.int .i64 (p)), .c (.int .i64 (k)), .c (.ints .i64 (c))] => some (checkChain_p t p k c)
  | _ => none
def checkChain_G : List (Nat × Ctr) := [(50, ⟨[], checkDegree_ct⟩), (90, ⟨[], tuplesOf_ct⟩), (124, ⟨[], allWithin_ct⟩)]
def checkChain_V (t : List (List Int)) (p : Int) (k : Int) (c : List Int) : Prop :=
  (((roomR t) ∧
 (True)) ∧
 (BrP (dgC t p k != (0 : Int))
 ((dgC t p k = chC t p k c) ∧
 (True))
 (((((1 : Int) ≤ (↑(List.length t) : Int)) ∧
 (((↑(List.length t) : Int) ≤ (12 : Int)) ∧
 (degB (↑(List.length t) : Int) k = Bool.true))) ∧
 (True)) ∧
 (BrP ((↑(List.length c) : Int) != (↑(List.length t) : Int) ^ Int.toNat k)
 (((2 : Int) = chC t p k c) ∧
 (True))
 ((InR (p - (1 : Int))) ∧
 (((room (List.length c)) ∧
 (True)) ∧
 (BrP (!allW (0 : Int) (p - (1 : Int)) c)
 (((2 : Int) = chC t p k c) ∧
 (True))
 (((0 : Int) = chC t p k c) ∧
 (True)))))))))
theorem checkChain_vc (t : List (List Int)) (p : Int) (k : Int) (c : List Int) : runF Try.prog (gam checkChain_G) noWr noAnn Try.f80 (bodyOf Try.f80) [] [.agg [.rows .i64 (t)], .c (.int .i64 (p)), .c (.int .i64 (k)), .c (.ints .i64 (c))] (checkChain_p t p k c) = checkChain_V t p k c := by kernel_rfl
theorem checkChain_ok (t : List (List Int)) (p : Int) (k : Int) (c : List Int) (hpre : (checkChain_p t p k c).pre) : checkChain_V t p k c := by
  simp only [checkChain_p, checkChain_V, BrP_iff, true_and, and_true, decide_eq_true_eq, decide_eq_false_iff_not, bne_iff_ne, beq_iff_eq, bne_eq_false_iff_eq, beq_eq_false_iff_ne, Bool.not_eq_true, Bool.not_eq_false, Bool.not_true, Bool.not_false, Bool.not_eq_eq_eq_not, Int.toNat_natCast, List.length_append, List.length_take, List.length_replicate, List.length_set, List.length_map, List.length_drop, List.length_nil, List.length_cons, markL_length, inB, InR, room, bdsOk] at hpre ⊢
  obtain ⟨a, b⟩ := hpre
  refine ⟨a, fun h => dgC_no c h, fun h => ?_⟩
  obtain ⟨h1, h2, h3, h4⟩ := dgC_ok h
  have hn := tabB_of (rackB_tab h1)
  have hp := primeB_le h2
  refine ⟨⟨by omega, by omega, h3⟩, fun h5 => ?_, fun h5 => ⟨by omega, b, fun h6 => ?_, fun h6 => ?_⟩⟩
  · rw [chC, if_pos h1, if_pos h4, if_neg]; simp [chB, h5]
  · rw [chC, if_pos h1, if_pos h4, if_neg]; simp [chB, h6]
  · rw [chC, if_pos h1, if_pos h4, if_pos]; simp [chB, h5, h6]
theorem checkChain_fits : Fits Try.prog 80 ⟨[], checkChain_ct⟩ := by
  refine fits_fn (Γ := gam checkChain_G) (gok_cons checkDegree_fits (gok_cons tuplesOf_fits (gok_cons allWithin_fits gok_nil))) Try.func80 (by kernel_rfl) (by kernel_rfl) (by kernel_rfl) fun ds p h hp => ?_
  unfold checkChain_ct at h
  split at h
  · cases h
    exact ⟨noWr, noAnn, by rw [checkChain_vc]; exact checkChain_ok _ _ _ _  hp⟩
  · cases h

def l15Code_p (t : List (List Int)) (p : Int) (k : Int) : Post := ⟨roomR t, .c (.int .i64 (dgC t p k)), []⟩
def l15Code_ct : List AD → Option Post
  | [.agg [.rows .i64 (t)], .c (.int .i64 (p)), .c (.int .i64 (k))] => some (l15Code_p t p k)
  | _ => none
def l15Code_G : List (Nat × Ctr) := [(41, ⟨[], l03Is_ct⟩), (42, ⟨[], l15Prime_ct⟩), (43, ⟨[], l15Allowed_ct⟩)]
def l15Code_V (t : List (List Int)) (p : Int) (k : Int) : Prop :=
  (((roomR t) ∧
 (True)) ∧
 (BrP (!rackB t)
 (((1 : Int) = dgC t p k) ∧
 (True))
 (((True) ∧
 (True)) ∧
 (BrP (!primeB p)
 (((2 : Int) = dgC t p k) ∧
 (True))
 (((((1 : Int) ≤ (↑(List.length t) : Int)) ∧
 ((↑(List.length t) : Int) ≤ (12 : Int))) ∧
 (True)) ∧
 (BrP (!degB (↑(List.length t) : Int) k)
 (((2 : Int) = dgC t p k) ∧
 (True))
 (((0 : Int) = dgC t p k) ∧
 (True))))))))
theorem l15Code_vc (t : List (List Int)) (p : Int) (k : Int) : runF Try.prog (gam l15Code_G) noWr noAnn Try.f82 (bodyOf Try.f82) [] [.agg [.rows .i64 (t)], .c (.int .i64 (p)), .c (.int .i64 (k))] (l15Code_p t p k) = l15Code_V t p k := by kernel_rfl
theorem l15Code_ok (t : List (List Int)) (p : Int) (k : Int) (hpre : (l15Code_p t p k).pre) : l15Code_V t p k := by
  simp only [l15Code_p, l15Code_V, BrP_iff, true_and, and_true, decide_eq_true_eq, decide_eq_false_iff_not, bne_iff_ne, beq_iff_eq, bne_eq_false_iff_eq, beq_eq_false_iff_ne, Bool.not_eq_true, Bool.not_eq_false, Bool.not_true, Bool.not_false, Bool.not_eq_eq_eq_not, Int.toNat_natCast, List.length_append, List.length_take, List.length_replicate, List.length_set, List.length_map, List.length_drop, List.length_nil, List.length_cons, markL_length, inB, InR, room, bdsOk] at hpre ⊢
  refine ⟨hpre, fun h => by simp [dgC, h], fun h => ⟨fun h2 => by simp [dgC, h, dgB, h2], fun h2 => ?_⟩⟩
  have hn := tabB_of (rackB_tab h)
  exact ⟨by omega, fun h3 => by simp [dgC, h, dgB, h2, h3], fun h3 => by simp [dgC, h, dgB, h2, h3]⟩
theorem l15Code_fits : Fits Try.prog 82 ⟨[], l15Code_ct⟩ := by
  refine fits_fn (Γ := gam l15Code_G) (gok_cons l03Is_fits (gok_cons l15Prime_fits (gok_cons l15Allowed_fits gok_nil))) Try.func82 (by kernel_rfl) (by kernel_rfl) (by kernel_rfl) fun ds p h hp => ?_
  unfold l15Code_ct at h
  split at h
  · cases h
    exact ⟨noWr, noAnn, by rw [l15Code_vc]; exact l15Code_ok _ _ _  hp⟩
  · cases h

def l15Chain_p (n : Int) (p : Int) (k : Int) (c : List Int) : Post := ⟨1 ≤ n ∧ n ≤ 12 ∧ degB n k = true ∧ 2 ≤ p ∧ p ≤ 7 ∧ c.length ≤ 1099511627776, .c (.bool (decide ((c.length : Int) = n ^ k.toNat) && allW 0 (p - 1) c)), []⟩
def l15Chain_ct : List AD → Option Post
  | [.c (.int .i64 (n)), .c (.int .i64 (p)), .c (.int .i64 (k)), .c (.ints .i64 (c))] => some (l15Chain_p n p k c)
  | _ => none
def l15Chain_ann (n : Int) (p : Int) (k : Int) (c : List Int) : Nat → Option Ann
  | 0 => some (Ann.mk ((Nat)) (fun i => ⟨[(0, .c (.int .i64 (n))), (1, .c (.int .i64 (p))), (2, .c (.int .i64 (k))), (3, .c (.ro (.ints .i64 (c)))), (9, .c (.int .i64 ((i : Int))))], []⟩) (fun i => i ≤ c.length ∧ allW 0 (p - 1) c = allW 0 (p - 1) (c.drop i)) (fun i => c.length - i) (fun _ => noAnn))
  | _ => none
def l15Chain_G : List (Nat × Ctr) := [(65, ⟨[], l01In_ct⟩), (96, ⟨[], l15Power_ct⟩)]
def l15Chain_V (n : Int) (p : Int) (k : Int) (c : List Int) : Prop :=
  ((∃ x0 : Nat, (((x0 ≤ List.length c) ∧
 (allW (0 : Int) (p - (1 : Int)) c = allW (0 : Int) (p - (1 : Int)) (List.drop x0 c))) ∧
 ((n = n) ∧
 ((p = p) ∧
 ((k = k) ∧
 ((c = c) ∧
 ((0 : Int) = (↑x0 : Int)))))))) ∧
 (∀ x1 : Nat, (((x1 ≤ List.length c) ∧
 (allW (0 : Int) (p - (1 : Int)) c = allW (0 : Int) (p - (1 : Int)) (List.drop x1 c))) →
 (BrP (Decidable.decide ((↑x1 : Int) < (↑(List.length c) : Int)))
 ((inB (↑x1 : Int) (List.length c)) ∧
 ((InR (p - (1 : Int))) ∧
 (((True) ∧
 (True)) ∧
 (BrP (!Decidable.decide ((0 : Int) ≤ List.getD c (Int.toNat (↑x1 : Int)) (0 : Int) ∧ List.getD c (Int.toNat (↑x1 : Int)) (0 : Int) ≤ p - (1 : Int)))
 ((Bool.false = (Decidable.decide ((↑(List.length c) : Int) = n ^ Int.toNat k) && allW (0 : Int) (p - (1 : Int)) c)) ∧
 (True))
 ((InR ((↑x1 : Int) + (1 : Int))) ∧
 (∃ x2 : Nat, (((x2 ≤ List.length c) ∧
 (allW (0 : Int) (p - (1 : Int)) c = allW (0 : Int) (p - (1 : Int)) (List.drop x2 c))) ∧
 ((List.length c - x2 < List.length c - x1) ∧
 ((n = n) ∧
 ((p = p) ∧
 ((k = k) ∧
 ((c = c) ∧
 ((↑x1 : Int) + (1 : Int) = (↑x2 : Int))))))))))))))
 (((((1 : Int) ≤ n) ∧
 ((n ≤ (12 : Int)) ∧
 (((0 : Int) ≤ k) ∧
 (k ≤ (1000 : Int))))) ∧
 (True)) ∧
 ((((↑(List.length c) : Int) == if n ^ Int.toNat k ≤ (512 : Int) then n ^ Int.toNat k else (513 : Int)) = (Decidable.decide ((↑(List.length c) : Int) = n ^ Int.toNat k) && allW (0 : Int) (p - (1 : Int)) c)) ∧
 (True)))))))
theorem l15Chain_vc (n : Int) (p : Int) (k : Int) (c : List Int) : runF Try.prog (gam l15Chain_G) noWr (l15Chain_ann n p k c) Try.f83 (bodyOf Try.f83) [] [.c (.int .i64 (n)), .c (.int .i64 (p)), .c (.int .i64 (k)), .c (.ints .i64 (c))] (l15Chain_p n p k c) = l15Chain_V n p k c := by kernel_rfl
theorem l15Chain_ok (n : Int) (p : Int) (k : Int) (c : List Int) (hpre : (l15Chain_p n p k c).pre) : l15Chain_V n p k c := by
  simp only [l15Chain_p, l15Chain_V, BrP_iff, true_and, and_true, decide_eq_true_eq, decide_eq_false_iff_not, bne_iff_ne, beq_iff_eq, bne_eq_false_iff_eq, beq_eq_false_iff_ne, Bool.not_eq_true, Bool.not_eq_false, Bool.not_true, Bool.not_false, Bool.not_eq_eq_eq_not, Int.toNat_natCast, List.length_append, List.length_take, List.length_replicate, List.length_set, List.length_map, List.length_drop, List.length_nil, List.length_cons, markL_length, inB, InR, room, bdsOk] at hpre ⊢
  obtain ⟨n1, n2, hd, p1, p2, cl⟩ := hpre
  have d := degB_of hd
  refine ⟨⟨0, ⟨by omega, rfl⟩, rfl⟩, fun i ⟨hi, he⟩ => ⟨fun h => ⟨by omega, by omega, fun h2 => ?_, fun h2 => ⟨by omega, i + 1, ⟨by omega, ?_⟩, by omega, by omega⟩⟩, fun h => ⟨by omega, ?_⟩⟩⟩
  · rw [he, allW_drop _ _ _ _ (by omega), decide_eq_false h2]; simp
  · rw [he, allW_drop _ _ _ _ (by omega), decide_eq_true h2]; rfl
  · rw [he, List.drop_of_length_le (by omega), if_pos (by omega)]
    simp only [allW, List.all_nil, Bool.and_true]; rfl
theorem l15Chain_fits : Fits Try.prog 83 ⟨[], l15Chain_ct⟩ := by
  refine fits_fn (Γ := gam l15Chain_G) (gok_cons l01In_fits (gok_cons l15Power_fits gok_nil)) Try.func83 (by kernel_rfl) (by kernel_rfl) (by kernel_rfl) fun ds p h hp => ?_
  unfold l15Chain_ct at h
  split at h
  · cases h
    exact ⟨noWr, l15Chain_ann _ _ _ _ , by rw [l15Chain_vc]; exact l15Chain_ok _ _ _ _  hp⟩
  · cases h

end Go.Sx
