/- Cnt -/
import Derived.Test.YtcfbmimjffkgdaaRackC
open Go Go.Proofs
namespace Go.Sx
set_option linter.unusedSimpArgs false
set_option linter.unusedVariables false

/-- The number of a stateful function after c cells of a table of n columns. -/
def stC (F : SFV) (n : Nat) (s : Int) : Nat → Int
  | 0 => s
  | c + 1 => F.nx (stC F n s c) ((c / n : Nat) : Int) ((c % n : Nat) : Int)

def stT (F : SFV) (n : Nat) (s : Int) : List (List Int) := tabR n fun x y => F.p (stC F n s (x * n + y)) (x : Int) (y : Int)

theorem stC_step (F : SFV) (n : Nat) (s : Int) (i j : Nat) (hj : j < n) : stC F n s (i * n + (j + 1)) = F.nx (stC F n s (i * n + j)) (i : Int) (j : Int) := by
  have h1 : (i * n + j) / n = i := by rw [Nat.mul_comm, Nat.mul_add_div (by omega), Nat.div_eq_of_lt hj, Nat.add_zero]
  have h2 : (i * n + j) % n = j := by rw [Nat.mul_comm, Nat.mul_add_mod, Nat.mod_eq_of_lt hj]
  show F.nx (stC F n s (i * n + j)) (((i * n + j) / n : Nat) : Int) (((i * n + j) % n : Nat) : Int) = _
  rw [h1, h2]

def tableByS_p (n : Int) (F : SFV) (s : Int) : Post := ⟨0 ≤ n ∧ n ≤ 144 ∧ (∀ x y : Nat, x < n.toNat → y < n.toNat → F.q (stC F n.toNat s (x * n.toNat + y)) (x : Int) (y : Int)), .c (.rows 46 2 .i64 (stT F n.toNat s)), [.bx [.int .i64 (stC F n.toNat s (n.toNat * n.toNat))]]⟩
def tableByS_ct : List AD → Option Post
  | [.c (.int .i64 (n)), .fvs (F) (s)] => some (tableByS_p n F s)
  | _ => none
def tableByS_ann (n : Int) (F : SFV) (s : Int) : Nat → Option Ann
  | 0 => some (Ann.mk ((Nat)) (fun i => ⟨[(0, .c (.int .i64 (n))), (1, .fvs 716 (F)), (5, .c (.own (9))), (11, .c (.int .i64 (n))), (12, .c (.int .i64 ((i : Int))))], [(716, some (.box [.int .i64 (stC F n.toNat s (i * n.toNat))])), (9, some (.rows 0 46 2 .i64 ((stT F n.toNat s).take i ++ List.replicate (n.toNat - i) [])))]⟩) (fun i => (i : Int) ≤ n) (fun i => n.toNat - i) (fun i => fun b_ => match b_ with | 2 => some (Ann.mk ((Nat)) (fun j => ⟨[(0, .c (.int .i64 (n))), (1, .fvs 716 (F)), (5, .c (.own (9))), (11, .c (.int .i64 (n))), (12, .c (.int .i64 ((i : Int)))), (6, .c (.int .i64 ((i : Int)))), (24, .c (.int .i64 (n))), (25, .c (.int .i64 ((j : Int))))], [(716, some (.box [.int .i64 (stC F n.toNat s (i * n.toNat + j))])), (9, some (.rows 0 46 2 .i64 ((stT F n.toNat s).take i ++ ((tab n.toNat fun y => F.p (stC F n.toNat s (i * n.toNat + y)) (i : Int) (y : Int)).take j ++ List.replicate (n.toNat - j) 0) :: List.replicate (n.toNat - (i + 1)) [])))]⟩) (fun j => (j : Int) ≤ n ∧ (i : Int) < n) (fun j => n.toNat - j) (fun _ => noAnn)) | _ => none))
  | _ => none
def tableByS_G : List (Nat × Ctr) := []
def tableByS_V (n : Int) (F : SFV) (s : Int) : Prop :=
  ((((0 : Int) ≤ n) ∧
 ((n ≤ n) ∧
 (room (Int.toNat n)))) ∧
 ((∃ x0 : Nat, (((↑x0 : Int) ≤ n) ∧
 ((n = n) ∧
 ((F = F) ∧
 (((↑(List.length (List.replicate (Int.toNat n) ([] : List Int))) : Int) = n) ∧
 (((0 : Int) = (↑x0 : Int)) ∧
 ((s = stC F (Int.toNat n) s (x0 * Int.toNat n)) ∧
 (List.replicate (Int.toNat n) ([] : List Int) = List.take x0 (stT F (Int.toNat n) s) ++ List.replicate (Int.toNat n - x0) ([] : List Int))))))))) ∧
 (∀ x1 : Nat, (((↑x1 : Int) ≤ n) →
 (BrP (Decidable.decide ((↑x1 : Int) < n))
 ((((0 : Int) ≤ n) ∧
 ((n ≤ n) ∧
 (room (Int.toNat n)))) ∧
 ((inB (↑x1 : Int) (List.length (List.take x1 (stT F (Int.toNat n) s) ++ List.replicate (Int.toNat n - x1) ([] : List Int)))) ∧
 ((inB (↑x1 : Int) (List.length (List.set (List.take x1 (stT F (Int.toNat n) s) ++ List.replicate (Int.toNat n - x1) ([] : List Int)) (Int.toNat (↑x1 : Int)) (List.replicate (Int.toNat n) (0 : Int))))) ∧
 ((∃ x2 : Nat, ((((↑x2 : Int) ≤ n) ∧
 ((↑x1 : Int) < n)) ∧
 ((n = n) ∧
 ((F = F) ∧
 ((n = n) ∧
 (((↑x1 : Int) = (↑x1 : Int)) ∧
 (((↑x1 : Int) = (↑x1 : Int)) ∧
 (((↑(List.length (List.getD (List.set (List.take x1 (stT F (Int.toNat n) s) ++ List.replicate (Int.toNat n - x1) ([] : List Int)) (Int.toNat (↑x1 : Int)) (List.replicate (Int.toNat n) (0 : Int))) (Int.toNat (↑x1 : Int)) [])) : Int) = n) ∧
 (((0 : Int) = (↑x2 : Int)) ∧
 ((stC F (Int.toNat n) s (x1 * Int.toNat n) = stC F (Int.toNat n) s (x1 * Int.toNat n + x2)) ∧
 (List.set (List.take x1 (stT F (Int.toNat n) s) ++ List.replicate (Int.toNat n - x1) ([] : List Int)) (Int.toNat (↑x1 : Int)) (List.replicate (Int.toNat n) (0 : Int)) = List.take x1 (stT F (Int.toNat n) s) ++ (List.take x2 (tab (Int.toNat n) fun (y : Nat) => SFV.p F (stC F (Int.toNat n) s (x1 * Int.toNat n + y)) (↑x1 : Int) (↑y : Int)) ++ List.replicate (Int.toNat n - x2) (0 : Int)) :: List.replicate (Int.toNat n - (x1 + (1 : Nat))) []))))))))))) ∧
 (∀ x3 : Nat, ((((↑x3 : Int) ≤ n) ∧
 ((↑x1 : Int) < n)) →
 (BrP (Decidable.decide ((↑x3 : Int) < n))
 ((inB (↑x1 : Int) (List.length (List.take x1 (stT F (Int.toNat n) s) ++ (List.take x3 (tab (Int.toNat n) fun (y : Nat) => SFV.p F (stC F (Int.toNat n) s (x1 * Int.toNat n + y)) (↑x1 : Int) (↑y : Int)) ++ List.replicate (Int.toNat n - x3) (0 : Int)) :: List.replicate (Int.toNat n - (x1 + (1 : Nat))) []))) ∧
 ((SFV.q F (stC F (Int.toNat n) s (x1 * Int.toNat n + x3)) (↑x1 : Int) (↑x3 : Int)) ∧
 ((inB (↑x3 : Int) (List.length (List.getD (List.take x1 (stT F (Int.toNat n) s) ++ (List.take x3 (tab (Int.toNat n) fun (y : Nat) => SFV.p F (stC F (Int.toNat n) s (x1 * Int.toNat n + y)) (↑x1 : Int) (↑y : Int)) ++ List.replicate (Int.toNat n - x3) (0 : Int)) :: List.replicate (Int.toNat n - (x1 + (1 : Nat))) []) (Int.toNat (↑x1 : Int)) []))) ∧
 ((InR ((↑x3 : Int) + (1 : Int))) ∧
 (∃ x4 : Nat, ((((↑x4 : Int) ≤ n) ∧
 ((↑x1 : Int) < n)) ∧
 ((Int.toNat n - x4 < Int.toNat n - x3) ∧
 ((n = n) ∧
 ((F = F) ∧
 ((n = n) ∧
 (((↑x1 : Int) = (↑x1 : Int)) ∧
 (((↑x1 : Int) = (↑x1 : Int)) ∧
 ((n = n) ∧
 (((↑x3 : Int) + (1 : Int) = (↑x4 : Int)) ∧
 ((SFV.nx F (stC F (Int.toNat n) s (x1 * Int.toNat n + x3)) (↑x1 : Int) (↑x3 : Int) = stC F (Int.toNat n) s (x1 * Int.toNat n + x4)) ∧
 (List.set (List.take x1 (stT F (Int.toNat n) s) ++ (List.take x3 (tab (Int.toNat n) fun (y : Nat) => SFV.p F (stC F (Int.toNat n) s (x1 * Int.toNat n + y)) (↑x1 : Int) (↑y : Int)) ++ List.replicate (Int.toNat n - x3) (0 : Int)) :: List.replicate (Int.toNat n - (x1 + (1 : Nat))) []) (Int.toNat (↑x1 : Int)) (List.set (List.getD (List.take x1 (stT F (Int.toNat n) s) ++ (List.take x3 (tab (Int.toNat n) fun (y : Nat) => SFV.p F (stC F (Int.toNat n) s (x1 * Int.toNat n + y)) (↑x1 : Int) (↑y : Int)) ++ List.replicate (Int.toNat n - x3) (0 : Int)) :: List.replicate (Int.toNat n - (x1 + (1 : Nat))) []) (Int.toNat (↑x1 : Int)) []) (Int.toNat (↑x3 : Int)) (SFV.p F (stC F (Int.toNat n) s (x1 * Int.toNat n + x3)) (↑x1 : Int) (↑x3 : Int))) = List.take x1 (stT F (Int.toNat n) s) ++ (List.take x4 (tab (Int.toNat n) fun (y : Nat) => SFV.p F (stC F (Int.toNat n) s (x1 * Int.toNat n + y)) (↑x1 : Int) (↑y : Int)) ++ List.replicate (Int.toNat n - x4) (0 : Int)) :: List.replicate (Int.toNat n - (x1 + (1 : Nat))) []))))))))))))))))
 ((InR ((↑x1 : Int) + (1 : Int))) ∧
 (∃ x5 : Nat, (((↑x5 : Int) ≤ n) ∧
 ((Int.toNat n - x5 < Int.toNat n - x1) ∧
 ((n = n) ∧
 ((F = F) ∧
 ((n = n) ∧
 (((↑x1 : Int) + (1 : Int) = (↑x5 : Int)) ∧
 ((stC F (Int.toNat n) s (x1 * Int.toNat n + x3) = stC F (Int.toNat n) s (x5 * Int.toNat n)) ∧
 (List.take x1 (stT F (Int.toNat n) s) ++ (List.take x3 (tab (Int.toNat n) fun (y : Nat) => SFV.p F (stC F (Int.toNat n) s (x1 * Int.toNat n + y)) (↑x1 : Int) (↑y : Int)) ++ List.replicate (Int.toNat n - x3) (0 : Int)) :: List.replicate (Int.toNat n - (x1 + (1 : Nat))) [] = List.take x5 (stT F (Int.toNat n) s) ++ List.replicate (Int.toNat n - x5) ([] : List Int))))))))))))))))))
 ((List.take x1 (stT F (Int.toNat n) s) ++ List.replicate (Int.toNat n - x1) ([] : List Int) = stT F (Int.toNat n) s) ∧
 (((stC F (Int.toNat n) s (x1 * Int.toNat n) = stC F (Int.toNat n) s (Int.toNat n * Int.toNat n)) ∧
 (True)) ∧
 (True))))))))
theorem tableByS_vc (n : Int) (F : SFV) (s : Int) : runF Try.prog (gam tableByS_G) noWr (tableByS_ann n F s) Try.f62 (bodyOf Try.f62) [(1, 0)] [.c (.int .i64 (n)), .fvs (F) (s)] (tableByS_p n F s) = tableByS_V n F s := by kernel_rfl
theorem tableByS_ok (n : Int) (F : SFV) (s : Int) (hpre : (tableByS_p n F s).pre) : tableByS_V n F s := by
  simp only [tableByS_p, tableByS_V, BrP_iff, true_and, and_true, decide_eq_true_eq, decide_eq_false_iff_not, bne_iff_ne, beq_iff_eq, bne_eq_false_iff_eq, beq_eq_false_iff_ne, Bool.not_eq_true, Bool.not_eq_false, Bool.not_true, Bool.not_false, Bool.not_eq_eq_eq_not, Int.toNat_natCast, List.length_append, List.length_take, List.length_replicate, List.length_set, List.length_map, List.length_drop, List.length_nil, List.length_cons, markL_length, inB, InR, room, bdsOk] at hpre ⊢
  obtain ⟨h0, h1, hq⟩ := hpre
  have hT : (stT F n.toNat s).length = n.toNat := tabR_length _ _
  have hr : ∀ i : Nat, (tab n.toNat fun y => F.p (stC F n.toNat s (i * n.toNat + y)) (i : Int) (y : Int)).length = n.toNat := fun i => tab_length _ _
  refine ⟨⟨by omega, by omega, by omega⟩, ⟨0, by omega, by omega, rfl, by rw [Nat.zero_mul]; rfl, by simp⟩, fun i hi => ?_⟩
  have hl : ((stT F n.toNat s).take i).length = i := by rw [List.length_take]; omega
  refine ⟨fun h => ?_, fun h => ?_⟩
  · have hs : ((stT F n.toNat s).take i ++ List.replicate (n.toNat - i) ([] : List Int)).set i (List.replicate n.toNat 0) =
        (stT F n.toNat s).take i ++ (List.replicate n.toNat 0) :: List.replicate (n.toNat - (i + 1)) [] := by
      rw [show n.toNat - i = (n.toNat - (i + 1)) + 1 by omega, List.replicate_succ, at_set _ _ _ _ _ hl]
    rw [hs]
    refine ⟨by omega, by omega, by omega, ⟨0, by omega, ?_, rfl, rfl, by simp⟩, fun j ⟨hj, _⟩ => ⟨fun h2 => ?_, fun h2 => ?_⟩⟩
    · rw [at_getD _ _ _ _ _ hl]; simp; omega
    · rw [at_getD _ _ _ _ _ hl, at_set _ _ _ _ _ hl]
      have hd : ((tab n.toNat fun y => F.p (stC F n.toNat s (i * n.toNat + y)) (i : Int) (y : Int)).take j ++ List.replicate (n.toNat - j) 0).length = n.toNat := by
        rw [List.length_append, List.length_take, List.length_replicate, hr]; omega
      rw [hd]
      refine ⟨by omega, hq _ _ (by omega) (by omega), by omega, by omega, j + 1, by omega, by omega, by omega, (stC_step F _ s i j (by omega)).symm, ?_⟩
      have := fill_step (tab n.toNat fun y => F.p (stC F n.toNat s (i * n.toNat + y)) (i : Int) (y : Int)) 0 0 j (by rw [hr]; omega)
      rw [hr, tab_getD _ _ _ (by omega)] at this
      rw [this]
    · refine ⟨by omega, i + 1, by omega, by omega, by omega, ?_, ?_⟩
      · rw [Nat.succ_mul, show j = n.toNat by omega]
      have e : (tab n.toNat fun y => F.p (stC F n.toNat s (i * n.toNat + y)) (i : Int) (y : Int)).take j = tab n.toNat fun y => F.p (stC F n.toNat s (i * n.toNat + y)) (i : Int) (y : Int) := List.take_of_length_le (by rw [hr]; omega)
      rw [← take_snoc (stT F n.toNat s) [] i (by omega), show (stT F n.toNat s).getD i [] = _ from tabR_getD _ _ _ (by omega), show n.toNat - j = 0 by omega, e]
      simp
  · rw [List.take_of_length_le (by omega), show n.toNat - i = 0 by omega, show i = n.toNat by omega]; simp
theorem tableByS_fits : Fits Try.prog 62 ⟨[(1, 0)], tableByS_ct⟩ := by
  refine fits_fn (Γ := gam tableByS_G) gok_nil Try.func62 (by kernel_rfl) (by kernel_rfl) (by kernel_rfl) fun ds p h hp => ?_
  unfold tableByS_ct at h
  split at h
  · cases h
    exact ⟨noWr, tableByS_ann _ _ _ , by rw [tableByS_vc]; exact tableByS_ok _ _ _  hp⟩
  · cases h

def iCountRC1_p (x : Int) (y : Int) (s : Int) (m : Int) : Post := ⟨1 ≤ m ∧ m ≤ 12 ∧ 0 ≤ s ∧ s ≤ 1000000, .c (.int .i64 (s.tmod m)), [.bx [.int .i64 (s.tdiv m)]]⟩
def iCountRC1_ct : List AD → Option Post
  | [.c (.int .i64 (x)), .c (.int .i64 (y)), .box [.int .i64 (s)], .box [.int .i64 (m)]] => some (iCountRC1_p x y s m)
  | _ => none
def iCountRC1_G : List (Nat × Ctr) := []
def iCountRC1_V (x : Int) (y : Int) (s : Int) (m : Int) : Prop :=
  ((m ≠ (0 : Int)) ∧
 (((m ≠ (0 : Int)) ∧
 (InR (Int.tdiv s m))) ∧
 ((Int.tmod s m = Int.tmod s m) ∧
 (((Int.tdiv s m = Int.tdiv s m) ∧
 (True)) ∧
 (True)))))
theorem iCountRC1_vc (x : Int) (y : Int) (s : Int) (m : Int) : runF Try.prog (gam iCountRC1_G) noWr noAnn Try.f63 (bodyOf Try.f63) [(2, 0)] [.c (.int .i64 (x)), .c (.int .i64 (y)), .box [.int .i64 (s)], .box [.int .i64 (m)]] (iCountRC1_p x y s m) = iCountRC1_V x y s m := by kernel_rfl
theorem iCountRC1_ok (x : Int) (y : Int) (s : Int) (m : Int) (hpre : (iCountRC1_p x y s m).pre) : iCountRC1_V x y s m := by
  simp only [iCountRC1_p, iCountRC1_V, BrP_iff, true_and, and_true, decide_eq_true_eq, decide_eq_false_iff_not, bne_iff_ne, beq_iff_eq, bne_eq_false_iff_eq, beq_eq_false_iff_ne, Bool.not_eq_true, Bool.not_eq_false, Bool.not_true, Bool.not_false, Bool.not_eq_eq_eq_not, Int.toNat_natCast, List.length_append, List.length_take, List.length_replicate, List.length_set, List.length_map, List.length_drop, List.length_nil, List.length_cons, markL_length, inB, InR, room, bdsOk] at hpre ⊢
  obtain ⟨h1, h2, h3, h4⟩ := hpre
  have h5 := Int.ediv_le_self m h3
  have h6 := Int.ediv_nonneg h3 (show 0 ≤ m by omega)
  rw [Int.tdiv_eq_ediv_of_nonneg h3]
  exact ⟨by omega, by omega, by omega, by omega⟩
theorem iCountRC1_fits : Fits Try.prog 63 ⟨[(2, 0)], iCountRC1_ct⟩ := by
  refine fits_fn (Γ := gam iCountRC1_G) gok_nil Try.func63 (by kernel_rfl) (by kernel_rfl) (by kernel_rfl) fun ds p h hp => ?_
  unfold iCountRC1_ct at h
  split at h
  · cases h
    exact ⟨noWr, noAnn, by rw [iCountRC1_vc]; exact iCountRC1_ok _ _ _ _  hp⟩
  · cases h

/-- What is left of a number, cell by cell. -/
def cntS (m : Int) : SFV := ⟨fun s _ _ => 1 ≤ m ∧ m ≤ 12 ∧ 0 ≤ s ∧ s ≤ 1000000, fun s _ _ => s.tmod m, fun s _ _ => s.tdiv m⟩

theorem cntS_eq (m : Int) : mkSF iCountRC1_ct [] [.box [.int .i64 m]] = cntS m := rfl

theorem cnt_in {m s : Int} {n : Nat} (hm : 1 ≤ m) (h : 0 ≤ s) (h2 : s ≤ 1000000) : ∀ c, 0 ≤ stC (cntS m) n s c ∧ stC (cntS m) n s c ≤ 1000000
  | 0 => ⟨h, h2⟩
  | c + 1 => by
    have := cnt_in hm h h2 (n := n) c
    have e : stC (cntS m) n s (c + 1) = (stC (cntS m) n s c).tdiv m := rfl
    rw [e, Int.tdiv_eq_ediv_of_nonneg this.1]
    have h3 := Int.ediv_le_self m this.1
    have h4 := Int.ediv_nonneg this.1 (show 0 ≤ m by omega)
    omega

theorem cnt_mat {m s : Int} {n : Nat} (hm : 1 ≤ m) (hm2 : m ≤ 12) (h : 0 ≤ s) (h2 : s ≤ 1000000) : matB (n : Int) m (stT (cntS m) n s) = true := by
  simp only [matB, matsB, Bool.and_eq_true, decide_eq_true_eq, List.all_eq_true]
  refine ⟨⟨hm, hm2⟩, by rw [stT, tabR_length], fun r hr => ?_⟩
  simp only [stT, tabR, List.mem_map] at hr
  obtain ⟨i, _, rfl⟩ := hr
  simp only [numsB, allW, Bool.and_eq_true, decide_eq_true_eq, List.all_eq_true]
  refine ⟨fun x hx => ?_, by rw [tab_length]⟩
  simp only [tab, List.mem_map] at hx
  obtain ⟨j, _, rfl⟩ := hx
  exact tmod_in (cnt_in hm h h2 _).1 hm

/-- How many matrices there are, if they are not too many. -/
def szM (m : Int) : Nat → Int → Option Int
  | 0, s => some s
  | k + 1, s => if 100000 < s * m then none else szM m k (s * m)

/-- How many of the first k matrices are rack cocycles. -/
def cntK (t : List (List Int)) (m : Int) : Nat → Int
  | 0 => 0
  | k + 1 => if (rcF t m (stT (cntS m) t.length (k : Int))).isNone = true then cntK t m k + 1 else cntK t m k

theorem cntK_in (t : List (List Int)) (m : Int) : ∀ k, 0 ≤ cntK t m k ∧ cntK t m k ≤ (k : Int)
  | 0 => ⟨Int.le_refl 0, Int.le_refl 0⟩
  | k + 1 => by
    have := cntK_in t m k
    unfold cntK
    split <;> omega

def rcnC (t : List (List Int)) (m : Int) : Int × Int :=
  if rackB t = true then (if 1 ≤ m ∧ m ≤ 12 then (match szM m (t.length * t.length) 1 with | none => (0, 3) | some z => (cntK t m z.toNat, 0)) else (0, 2)) else (0, 1)

theorem szM_step {m : Int} {N i : Nat} {z : Int} (h : i < N) : szM m (N - i) z = if 100000 < z * m then none else szM m (N - (i + 1)) (z * m) := by
  rw [show N - i = (N - (i + 1)) + 1 by omega]; rfl

theorem rcn_a {t : List (List Int)} {m : Int} (h : ¬ rackB t = true) : 0 = (rcnC t m).1 ∧ 1 = (rcnC t m).2 := by simp [rcnC, h]
theorem rcn_b {t : List (List Int)} {m : Int} (h : rackB t = true) (h2 : ¬ (1 ≤ m ∧ m ≤ 12)) : 0 = (rcnC t m).1 ∧ 2 = (rcnC t m).2 := by simp only [rcnC, h, if_neg h2, if_true]; exact ⟨trivial, trivial⟩
theorem rcn_c {t : List (List Int)} {m : Int} (h : rackB t = true) (h2 : 1 ≤ m ∧ m ≤ 12) (h3 : szM m (t.length * t.length) 1 = none) : 0 = (rcnC t m).1 ∧ 3 = (rcnC t m).2 := by simp only [rcnC, h, if_pos h2, if_true, h3]; exact ⟨trivial, trivial⟩
theorem rcn_d {t : List (List Int)} {m z : Int} (h : rackB t = true) (h2 : 1 ≤ m ∧ m ≤ 12) (h3 : szM m (t.length * t.length) 1 = some z) : cntK t m z.toNat = (rcnC t m).1 ∧ 0 = (rcnC t m).2 := by simp only [rcnC, h, if_pos h2, if_true, h3]; exact ⟨trivial, trivial⟩

theorem sq_in {n : Nat} (h : n ≤ 12) : ((n : Int) * (n : Int) = ((n * n : Nat) : Int)) ∧ n * n ≤ 144 := ⟨by simp, Nat.mul_le_mul h h⟩

theorem mul_in {z m : Int} (h : 1 ≤ z) (h2 : z ≤ 100000) (h3 : 1 ≤ m) (h4 : m ≤ 12) : 1 ≤ z * m ∧ z * m ≤ 1200000 := by
  constructor
  · have := Int.mul_pos (show 0 < z by omega) (show 0 < m by omega); omega
  · have := Int.mul_le_mul h2 h4 (by omega) (by omega); omega

def sCntRC_p (t : List (List Int)) (m : Int) : Post := ⟨roomR t, .tup [.inl (.int .i64 ((rcnC t m).1)), .inl (.int .i64 ((rcnC t m).2))], []⟩
def sCntRC_ct : List AD → Option Post
  | [.agg [.rows .i64 (t)], .c (.int .i64 (m))] => some (sCntRC_p t m)
  | _ => none
def sCntRC_ann (t : List (List Int)) (m : Int) : Nat → Option Ann
  | 0 => some (Ann.mk ((Nat) × (Int)) (fun x => match x with | (i, z) => ⟨[(1, .c (.int .i64 (m))), (2, .c (.ptr 2 0)), (6, .c (.int .i64 ((t.length : Int)))), (7, .c (.int .i64 (z))), (8, .c (.int .i64 ((i : Int))))], [(2, some (.box [.ro (.rows .i64 (t))]))]⟩) (fun x => match x with | (i, z) => rackB t = true ∧ 1 ≤ m ∧ m ≤ 12 ∧ i ≤ t.length * t.length ∧ 1 ≤ z ∧ z ≤ 100000 ∧ szM m (t.length * t.length) 1 = szM m (t.length * t.length - i) z) (fun x => match x with | (i, z) => t.length * t.length - i) (fun _ => noAnn))
  | 2 => some (Ann.mk ((Nat) × (Int)) (fun x => match x with | (k, z) => ⟨[(1, .c (.int .i64 (m))), (2, .c (.ptr 2 0)), (6, .c (.int .i64 ((t.length : Int)))), (7, .c (.int .i64 (z))), (9, .c (.int .i64 (cntK t m k))), (10, .c (.int .i64 ((k : Int))))], [(2, some (.box [.ro (.rows .i64 (t))]))]⟩) (fun x => match x with | (k, z) => rackB t = true ∧ 1 ≤ m ∧ m ≤ 12 ∧ 1 ≤ z ∧ z ≤ 100000 ∧ szM m (t.length * t.length) 1 = some z ∧ (k : Int) ≤ z) (fun x => match x with | (k, z) => (z - (k : Int)).toNat) (fun x => match x with | (k, z) => fun b_ => match b_ with | 4 => some (Ann.mk ((Nat)) (fun i => ⟨[(1, .c (.int .i64 (m))), (2, .c (.ptr 2 0)), (6, .c (.int .i64 ((t.length : Int)))), (7, .c (.int .i64 (z))), (9, .c (.int .i64 (cntK t m k))), (10, .c (.int .i64 ((k : Int)))), (11, .c (.own (42))), (12, .c (.int .i64 (stC (cntS m) t.length (k : Int) (i * t.length)))), (13, .c (.int .i64 ((i : Int))))], [(2, some (.box [.ro (.rows .i64 (t))])), (42, some (.rows 0 46 2 .i64 ((stT (cntS m) t.length (k : Int)).take i)))]⟩) (fun i => i ≤ t.length ∧ (k : Int) < z) (fun i => t.length - i) (fun i => fun b_ => match b_ with | 6 => some (Ann.mk ((Nat)) (fun j => ⟨[(1, .c (.int .i64 (m))), (2, .c (.ptr 2 0)), (6, .c (.int .i64 ((t.length : Int)))), (7, .c (.int .i64 (z))), (9, .c (.int .i64 (cntK t m k))), (10, .c (.int .i64 ((k : Int)))), (11, .c (.own (42))), (12, .c (.int .i64 (stC (cntS m) t.length (k : Int) (i * t.length + j)))), (13, .c (.int .i64 ((i : Int)))), (14, .c (.own (49))), (15, .c (.int .i64 ((j : Int))))], [(2, some (.box [.ro (.rows .i64 (t))])), (42, some (.rows 0 46 2 .i64 ((stT (cntS m) t.length (k : Int)).take i))), (49, some (.ints 2 .i64 ((tab t.length fun y => (stC (cntS m) t.length (k : Int) (i * t.length + y)).tmod m).take j)))]⟩) (fun j => j ≤ t.length ∧ i < t.length) (fun j => t.length - j) (fun _ => noAnn)) | _ => none)) | _ => none))
  | _ => none
def sCntRC_G : List (Nat × Ctr) := [(41, ⟨[], l03Is_ct⟩), (65, ⟨[], l01In_ct⟩), (66, ⟨[], l14Rack_ct⟩)]
def sCntRC_V (t : List (List Int)) (m : Int) : Prop :=
  (((roomR t) ∧
 (True)) ∧
 (BrP (!rackB t)
 ((((0 : Int) = Prod.fst (rcnC t m)) ∧
 (((1 : Int) = Prod.snd (rcnC t m)) ∧
 (True))) ∧
 (True))
 (((True) ∧
 (True)) ∧
 (BrP (!Decidable.decide ((1 : Int) ≤ m ∧ m ≤ (12 : Int)))
 ((((0 : Int) = Prod.fst (rcnC t m)) ∧
 (((2 : Int) = Prod.snd (rcnC t m)) ∧
 (True))) ∧
 (True))
 ((∃ x0 : Nat × Int, (((rackB t = Bool.true) ∧
 (((1 : Int) ≤ m) ∧
 ((m ≤ (12 : Int)) ∧
 ((Prod.fst x0 ≤ List.length t * List.length t) ∧
 (((1 : Int) ≤ Prod.snd x0) ∧
 ((Prod.snd x0 ≤ (100000 : Int)) ∧
 (szM m (List.length t * List.length t) (1 : Int) = szM m (List.length t * List.length t - Prod.fst x0) (Prod.snd x0)))))))) ∧
 ((m = m) ∧
 (((↑(List.length t) : Int) = (↑(List.length t) : Int)) ∧
 (((1 : Int) = x0.2) ∧
 (((0 : Int) = (↑x0.1 : Int)) ∧
 (t = t))))))) ∧
 (∀ x1 : Nat × Int, (((rackB t = Bool.true) ∧
 (((1 : Int) ≤ m) ∧
 ((m ≤ (12 : Int)) ∧
 ((Prod.fst x1 ≤ List.length t * List.length t) ∧
 (((1 : Int) ≤ Prod.snd x1) ∧
 ((Prod.snd x1 ≤ (100000 : Int)) ∧
 (szM m (List.length t * List.length t) (1 : Int) = szM m (List.length t * List.length t - Prod.fst x1) (Prod.snd x1)))))))) →
 ((InR ((↑(List.length t) : Int) * (↑(List.length t) : Int))) ∧
 (BrP (Decidable.decide ((↑x1.1 : Int) < (↑(List.length t) : Int) * (↑(List.length t) : Int)))
 ((InR (x1.2 * m)) ∧
 (BrP (Decidable.decide ((100000 : Int) < x1.2 * m))
 ((((0 : Int) = Prod.fst (rcnC t m)) ∧
 (((3 : Int) = Prod.snd (rcnC t m)) ∧
 (True))) ∧
 (True))
 ((InR ((↑x1.1 : Int) + (1 : Int))) ∧
 (∃ x2 : Nat × Int, (((rackB t = Bool.true) ∧
 (((1 : Int) ≤ m) ∧
 ((m ≤ (12 : Int)) ∧
 ((Prod.fst x2 ≤ List.length t * List.length t) ∧
 (((1 : Int) ≤ Prod.snd x2) ∧
 ((Prod.snd x2 ≤ (100000 : Int)) ∧
 (szM m (List.length t * List.length t) (1 : Int) = szM m (List.length t * List.length t - Prod.fst x2) (Prod.snd x2)))))))) ∧
 ((List.length t * List.length t - Prod.fst x2 < List.length t * List.length t - Prod.fst x1) ∧
 ((m = m) ∧
 (((↑(List.length t) : Int) = (↑(List.length t) : Int)) ∧
 ((x1.2 * m = x2.2) ∧
 (((↑x1.1 : Int) + (1 : Int) = (↑x2.1 : Int)) ∧
 (t = t)))))))))))
 ((∃ x3 : Nat × Int, (((rackB t = Bool.true) ∧
 (((1 : Int) ≤ m) ∧
 ((m ≤ (12 : Int)) ∧
 (((1 : Int) ≤ Prod.snd x3) ∧
 ((Prod.snd x3 ≤ (100000 : Int)) ∧
 ((szM m (List.length t * List.length t) (1 : Int) = Option.some (Prod.snd x3)) ∧
 ((↑(Prod.fst x3) : Int) ≤ Prod.snd x3))))))) ∧
 ((m = m) ∧
 (((↑(List.length t) : Int) = (↑(List.length t) : Int)) ∧
 ((x1.2 = x3.2) ∧
 (((0 : Int) = cntK t m x3.1) ∧
 (((0 : Int) = (↑x3.1 : Int)) ∧
 (t = t)))))))) ∧
 (∀ x4 : Nat × Int, (((rackB t = Bool.true) ∧
 (((1 : Int) ≤ m) ∧
 ((m ≤ (12 : Int)) ∧
 (((1 : Int) ≤ Prod.snd x4) ∧
 ((Prod.snd x4 ≤ (100000 : Int)) ∧
 ((szM m (List.length t * List.length t) (1 : Int) = Option.some (Prod.snd x4)) ∧
 ((↑(Prod.fst x4) : Int) ≤ Prod.snd x4))))))) →
 (BrP (Decidable.decide ((↑x4.1 : Int) < x4.2))
 ((∃ x5 : Nat, (((x5 ≤ List.length t) ∧
 ((↑x4.1 : Int) < x4.2)) ∧
 ((m = m) ∧
 (((↑(List.length t) : Int) = (↑(List.length t) : Int)) ∧
 ((x4.2 = x4.2) ∧
 ((cntK t m x4.1 = cntK t m x4.1) ∧
 (((↑x4.1 : Int) = (↑x4.1 : Int)) ∧
 (((↑x4.1 : Int) = stC (cntS m) (List.length t) (↑x4.1 : Int) (x5 * List.length t)) ∧
 (((0 : Int) = (↑x5 : Int)) ∧
 ((t = t) ∧
 ([] = List.take x5 (stT (cntS m) (List.length t) (↑x4.1 : Int))))))))))))) ∧
 (∀ x6 : Nat, (((x6 ≤ List.length t) ∧
 ((↑x4.1 : Int) < x4.2)) →
 (BrP (Decidable.decide ((↑x6 : Int) < (↑(List.length t) : Int)))
 ((∃ x7 : Nat, (((x7 ≤ List.length t) ∧
 (x6 < List.length t)) ∧
 ((m = m) ∧
 (((↑(List.length t) : Int) = (↑(List.length t) : Int)) ∧
 ((x4.2 = x4.2) ∧
 ((cntK t m x4.1 = cntK t m x4.1) ∧
 (((↑x4.1 : Int) = (↑x4.1 : Int)) ∧
 ((stC (cntS m) (List.length t) (↑x4.1 : Int) (x6 * List.length t) = stC (cntS m) (List.length t) (↑x4.1 : Int) (x6 * List.length t + x7)) ∧
 (((↑x6 : Int) = (↑x6 : Int)) ∧
 (((0 : Int) = (↑x7 : Int)) ∧
 ((t = t) ∧
 ((List.take x6 (stT (cntS m) (List.length t) (↑x4.1 : Int)) = List.take x6 (stT (cntS m) (List.length t) (↑x4.1 : Int))) ∧
 ([] = List.take x7 (tab (List.length t) fun (y : Nat) => Int.tmod (stC (cntS m) (List.length t) (↑x4.1 : Int) (x6 * List.length t + y)) m)))))))))))))) ∧
 (∀ x8 : Nat, (((x8 ≤ List.length t) ∧
 (x6 < List.length t)) →
 (BrP (Decidable.decide ((↑x8 : Int) < (↑(List.length t) : Int)))
 ((m ≠ (0 : Int)) ∧
 ((room (List.length (List.take x8 (tab (List.length t) fun (y : Nat) => Int.tmod (stC (cntS m) (List.length t) (↑x4.1 : Int) (x6 * List.length t + y)) m)) + List.length [Int.tmod (stC (cntS m) (List.length t) (↑x4.1 : Int) (x6 * List.length t + x8)) m])) ∧
 (((m ≠ (0 : Int)) ∧
 (InR (Int.tdiv (stC (cntS m) (List.length t) (↑x4.1 : Int) (x6 * List.length t + x8)) m))) ∧
 ((InR ((↑x8 : Int) + (1 : Int))) ∧
 (∃ x9 : Nat, (((x9 ≤ List.length t) ∧
 (x6 < List.length t)) ∧
 ((List.length t - x9 < List.length t - x8) ∧
 ((m = m) ∧
 (((↑(List.length t) : Int) = (↑(List.length t) : Int)) ∧
 ((x4.2 = x4.2) ∧
 ((cntK t m x4.1 = cntK t m x4.1) ∧
 (((↑x4.1 : Int) = (↑x4.1 : Int)) ∧
 ((Int.tdiv (stC (cntS m) (List.length t) (↑x4.1 : Int) (x6 * List.length t + x8)) m = stC (cntS m) (List.length t) (↑x4.1 : Int) (x6 * List.length t + x9)) ∧
 (((↑x6 : Int) = (↑x6 : Int)) ∧
 (((↑x8 : Int) + (1 : Int) = (↑x9 : Int)) ∧
 ((t = t) ∧
 ((List.take x6 (stT (cntS m) (List.length t) (↑x4.1 : Int)) = List.take x6 (stT (cntS m) (List.length t) (↑x4.1 : Int))) ∧
 (List.take x8 (tab (List.length t) fun (y : Nat) => Int.tmod (stC (cntS m) (List.length t) (↑x4.1 : Int) (x6 * List.length t + y)) m) ++ [Int.tmod (stC (cntS m) (List.length t) (↑x4.1 : Int) (x6 * List.length t + x8)) m] = List.take x9 (tab (List.length t) fun (y : Nat) => Int.tmod (stC (cntS m) (List.length t) (↑x4.1 : Int) (x6 * List.length t + y)) m)))))))))))))))))))
 ((room (List.length (List.take x6 (stT (cntS m) (List.length t) (↑x4.1 : Int))) + List.length [List.take x8 (tab (List.length t) fun (y : Nat) => Int.tmod (stC (cntS m) (List.length t) (↑x4.1 : Int) (x6 * List.length t + y)) m)])) ∧
 ((InR ((↑x6 : Int) + (1 : Int))) ∧
 (∃ x10 : Nat, (((x10 ≤ List.length t) ∧
 ((↑x4.1 : Int) < x4.2)) ∧
 ((List.length t - x10 < List.length t - x6) ∧
 ((m = m) ∧
 (((↑(List.length t) : Int) = (↑(List.length t) : Int)) ∧
 ((x4.2 = x4.2) ∧
 ((cntK t m x4.1 = cntK t m x4.1) ∧
 (((↑x4.1 : Int) = (↑x4.1 : Int)) ∧
 ((stC (cntS m) (List.length t) (↑x4.1 : Int) (x6 * List.length t + x8) = stC (cntS m) (List.length t) (↑x4.1 : Int) (x10 * List.length t)) ∧
 (((↑x6 : Int) + (1 : Int) = (↑x10 : Int)) ∧
 ((t = t) ∧
 (List.take x6 (stT (cntS m) (List.length t) (↑x4.1 : Int)) ++ [List.take x8 (tab (List.length t) fun (y : Nat) => Int.tmod (stC (cntS m) (List.length t) (↑x4.1 : Int) (x6 * List.length t + y)) m)] = List.take x10 (stT (cntS m) (List.length t) (↑x4.1 : Int))))))))))))))))))))
 ((((tabB t = Bool.true) ∧
 (matB (↑(List.length t) : Int) m (List.take x6 (stT (cntS m) (List.length t) (↑x4.1 : Int))) = Bool.true)) ∧
 (True)) ∧
 (BrP (Option.isNone (rcF t m (List.take x6 (stT (cntS m) (List.length t) (↑x4.1 : Int)))))
 ((InR (cntK t m x4.1 + (1 : Int))) ∧
 ((InR ((↑x4.1 : Int) + (1 : Int))) ∧
 (∃ x11 : Nat × Int, (((rackB t = Bool.true) ∧
 (((1 : Int) ≤ m) ∧
 ((m ≤ (12 : Int)) ∧
 (((1 : Int) ≤ Prod.snd x11) ∧
 ((Prod.snd x11 ≤ (100000 : Int)) ∧
 ((szM m (List.length t * List.length t) (1 : Int) = Option.some (Prod.snd x11)) ∧
 ((↑(Prod.fst x11) : Int) ≤ Prod.snd x11))))))) ∧
 ((Int.toNat (Prod.snd x11 - (↑(Prod.fst x11) : Int)) < Int.toNat (Prod.snd x4 - (↑(Prod.fst x4) : Int))) ∧
 ((m = m) ∧
 (((↑(List.length t) : Int) = (↑(List.length t) : Int)) ∧
 ((x4.2 = x11.2) ∧
 ((cntK t m x4.1 + (1 : Int) = cntK t m x11.1) ∧
 (((↑x4.1 : Int) + (1 : Int) = (↑x11.1 : Int)) ∧
 (t = t)))))))))))
 ((InR ((↑x4.1 : Int) + (1 : Int))) ∧
 (∃ x12 : Nat × Int, (((rackB t = Bool.true) ∧
 (((1 : Int) ≤ m) ∧
 ((m ≤ (12 : Int)) ∧
 (((1 : Int) ≤ Prod.snd x12) ∧
 ((Prod.snd x12 ≤ (100000 : Int)) ∧
 ((szM m (List.length t * List.length t) (1 : Int) = Option.some (Prod.snd x12)) ∧
 ((↑(Prod.fst x12) : Int) ≤ Prod.snd x12))))))) ∧
 ((Int.toNat (Prod.snd x12 - (↑(Prod.fst x12) : Int)) < Int.toNat (Prod.snd x4 - (↑(Prod.fst x4) : Int))) ∧
 ((m = m) ∧
 (((↑(List.length t) : Int) = (↑(List.length t) : Int)) ∧
 ((x4.2 = x12.2) ∧
 ((cntK t m x4.1 = cntK t m x12.1) ∧
 (((↑x4.1 : Int) + (1 : Int) = (↑x12.1 : Int)) ∧
 (t = t))))))))))))))))
 (((cntK t m x4.1 = Prod.fst (rcnC t m)) ∧
 (((0 : Int) = Prod.snd (rcnC t m)) ∧
 (True))) ∧
 (True)))))))))))))))
theorem sCntRC_vc (t : List (List Int)) (m : Int) : runF Try.prog (gam sCntRC_G) noWr (sCntRC_ann t m) Try.f19 (bodyOf Try.f19) [] [.agg [.rows .i64 (t)], .c (.int .i64 (m))] (sCntRC_p t m) = sCntRC_V t m := by kernel_rfl
theorem sCntRC_ok (t : List (List Int)) (m : Int) (hpre : (sCntRC_p t m).pre) : sCntRC_V t m := by
  simp only [sCntRC_p, sCntRC_V, BrP_iff, true_and, and_true, decide_eq_true_eq, decide_eq_false_iff_not, bne_iff_ne, beq_iff_eq, bne_eq_false_iff_eq, beq_eq_false_iff_ne, Bool.not_eq_true, Bool.not_eq_false, Bool.not_true, Bool.not_false, Bool.not_eq_eq_eq_not, Int.toNat_natCast, List.length_append, List.length_take, List.length_replicate, List.length_set, List.length_map, List.length_drop, List.length_nil, List.length_cons, markL_length, inB, InR, room, bdsOk] at hpre ⊢
  refine ⟨hpre, fun h => rcn_a (by simp [h]), fun h => ⟨fun h2 => rcn_b h (by omega), fun g => ?_⟩⟩
  have hn := tabB_of (rackB_tab h)
  obtain ⟨q1, q2⟩ := sq_in (n := t.length) (by omega)
  obtain ⟨g1, g2⟩ := g
  rw [q1]
  refine ⟨⟨(0, 1), ⟨h, g1, g2, by omega, by omega, by omega, rfl⟩, rfl, rfl⟩, fun (i, z) ⟨_, _, _, hi, hz1, hz2, hz⟩ => ?_⟩
  dsimp only at hi hz1 hz2 hz ⊢
  refine ⟨by omega, fun hlt => ?_, fun hge => ?_⟩
  · have a := mul_in hz1 hz2 g1 g2
    have st := szM_step (m := m) (N := t.length * t.length) (i := i) (z := z) (by omega)
    refine ⟨by omega, fun b => rcn_c h ⟨g1, g2⟩ (by rw [hz, st, if_pos b]), fun b => ⟨by omega, (i + 1, z * m), ?_⟩⟩
    exact ⟨⟨h, g1, g2, show i + 1 ≤ _ by omega, show 1 ≤ z * m by omega, show z * m ≤ 100000 by omega, by rw [hz, st, if_neg b]⟩, show _ - (i + 1) < _ - i by omega, rfl, show (i : Int) + 1 = ((i + 1 : Nat) : Int) by omega⟩
  have hz : szM m (t.length * t.length) 1 = some z := by rw [hz, show t.length * t.length - i = 0 by omega]; rfl
  refine ⟨⟨(0, z), ⟨h, g1, g2, hz1, hz2, hz, show ((0 : Nat) : Int) ≤ z by omega⟩, rfl, rfl, rfl⟩, fun (k, z) ⟨_, _, _, k1, k2, k3, k4⟩ => ?_⟩
  dsimp only at k1 k2 k3 k4 ⊢
  refine ⟨fun hlt => ?_, fun hge => ?_⟩
  · have M := cnt_mat (n := t.length) (s := (k : Int)) g1 g2 (by omega) (by omega)
    have I := cnt_in (n := t.length) (s := (k : Int)) g1 (by omega) (by omega)
    have hT : (stT (cntS m) t.length (k : Int)).length = t.length := tabR_length _ _
    have hr : ∀ i : Nat, (tab t.length fun y => (stC (cntS m) t.length (k : Int) (i * t.length + y)).tmod m).length = t.length := fun i => tab_length _ _
    refine ⟨⟨0, ⟨by omega, hlt⟩, by rw [Nat.zero_mul]; rfl, rfl, by simp⟩, fun i2 ⟨hi2, _⟩ => ⟨fun b => ?_, fun b => ?_⟩⟩
    · refine ⟨⟨0, ⟨by omega, by omega⟩, rfl, rfl, by simp⟩, fun j ⟨hj, _⟩ => ⟨fun c => ?_, fun c => ?_⟩⟩
      · have I1 := I (i2 * t.length + j)
        have d1 := Int.ediv_le_self m I1.1
        have d2 := Int.ediv_nonneg I1.1 (show 0 ≤ m by omega)
        rw [hr]
        refine ⟨by omega, by omega, ⟨by omega, ?_⟩, by omega, j + 1, by omega, by omega, (stC_step (cntS m) _ (k : Int) i2 j (by omega)).symm, by omega, ?_⟩
        · rw [Int.tdiv_eq_ediv_of_nonneg I1.1]; omega
        · rw [← take_snoc _ 0 j (by rw [hr]; omega), tab_getD _ _ _ (by omega)]
      · rw [hT]
        refine ⟨by omega, by omega, i2 + 1, by omega, by omega, ?_, by omega, ?_⟩
        · rw [Nat.succ_mul, show j = t.length by omega]
        · rw [← take_snoc (stT (cntS m) t.length (k : Int)) [] i2 (by omega), show (stT (cntS m) t.length (k : Int)).getD i2 [] = _ from tabR_getD _ _ _ (by omega)]
          rw [show (tab t.length fun y => (stC (cntS m) t.length (k : Int) (i2 * t.length + y)).tmod m).take j = _ from List.take_of_length_le (by rw [hr]; omega)]
          rfl
    · have cK := cntK_in t m k
      rw [List.take_of_length_le (show (stT (cntS m) t.length (k : Int)).length ≤ i2 by omega)]
      refine ⟨⟨rackB_tab h, M⟩, fun e => ⟨by omega, by omega, (k + 1, z), ⟨h, g1, g2, k1, k2, k3, show ((k + 1 : Nat) : Int) ≤ z by omega⟩, show (z - ((k + 1 : Nat) : Int)).toNat < _ by omega, rfl, ?_, rfl⟩, fun e => ⟨by omega, (k + 1, z), ⟨h, g1, g2, k1, k2, k3, show ((k + 1 : Nat) : Int) ≤ z by omega⟩, show (z - ((k + 1 : Nat) : Int)).toNat < _ by omega, rfl, ?_, rfl⟩⟩
      · exact (if_pos e).symm
      · exact (if_neg (by rw [e]; decide)).symm
  · rw [show k = z.toNat by omega]
    exact rcn_d h ⟨g1, g2⟩ k3
theorem sCntRC_fits : Fits Try.prog 19 ⟨[], sCntRC_ct⟩ := by
  refine fits_fn (Γ := gam sCntRC_G) (gok_cons l03Is_fits (gok_cons l01In_fits (gok_cons l14Rack_fits gok_nil))) Try.func19 (by kernel_rfl) (by kernel_rfl) (by kernel_rfl) fun ds p h hp => ?_
  unfold sCntRC_ct at h
  split at h
  · cases h
    exact ⟨noWr, sCntRC_ann _ _ , by rw [sCntRC_vc]; exact sCntRC_ok _ _  hp⟩
  · cases h

def iCntRC_p (t : List (List Int)) (m : Int) : Post := ⟨roomR t, .tup [.inl (.int .i64 ((rcnC t m).1)), .inl (.int .i64 ((rcnC t m).2))], []⟩
def iCntRC_ct : List AD → Option Post
  | [.agg [.rows .i64 (t)], .c (.int .i64 (m))] => some (iCntRC_p t m)
  | _ => none
def iCntRC_ann (t : List (List Int)) (m : Int) : Nat → Option Ann
  | 0 => some (Ann.mk ((Nat) × (Int)) (fun x => match x with | (i, z) => ⟨[(2, .c (.ptr 2 0)), (3, .c (.ptr 3 0)), (6, .c (.int .i64 ((t.length : Int)))), (7, .c (.int .i64 (z))), (23, .c (.int .i64 (((t.length : Int) * (t.length : Int))))), (24, .c (.int .i64 ((i : Int))))], [(2, some (.box [.ro (.rows .i64 (t))])), (3, some (.box [.int .i64 (m)]))]⟩) (fun x => match x with | (i, z) => rackB t = true ∧ 1 ≤ m ∧ m ≤ 12 ∧ i ≤ t.length * t.length ∧ 1 ≤ z ∧ z ≤ 100000 ∧ szM m (t.length * t.length) 1 = szM m (t.length * t.length - i) z) (fun x => match x with | (i, z) => t.length * t.length - i) (fun _ => noAnn))
  | 2 => some (Ann.mk ((Nat) × (Int)) (fun x => match x with | (k, z) => ⟨[(2, .c (.ptr 2 0)), (3, .c (.ptr 3 0)), (6, .c (.int .i64 ((t.length : Int)))), (8, .c (.int .i64 (cntK t m k))), (32, .c (.int .i64 (z))), (33, .c (.int .i64 ((k : Int))))], [(2, some (.box [.ro (.rows .i64 (t))])), (3, some (.box [.int .i64 (m)]))]⟩) (fun x => match x with | (k, z) => rackB t = true ∧ 1 ≤ m ∧ m ≤ 12 ∧ 1 ≤ z ∧ z ≤ 100000 ∧ szM m (t.length * t.length) 1 = some z ∧ (k : Int) ≤ z) (fun x => match x with | (k, z) => (z - (k : Int)).toNat) (fun _ => noAnn))
  | _ => none
def iCntRC_G : List (Nat × Ctr) := [(26, ⟨[], IsRack_ct⟩), (61, ⟨[], within_ct⟩), (62, ⟨[(1, 0)], tableByS_ct⟩), (63, ⟨[(2, 0)], iCountRC1_ct⟩), (64, ⟨[], isRackCocycle_ct⟩)]
def iCntRC_V (t : List (List Int)) (m : Int) : Prop :=
  (((roomR t) ∧
 (True)) ∧
 (BrP (!rackB t)
 ((((0 : Int) = Prod.fst (rcnC t m)) ∧
 (((1 : Int) = Prod.snd (rcnC t m)) ∧
 (True))) ∧
 (True))
 (((True) ∧
 (True)) ∧
 (BrP (!Decidable.decide ((1 : Int) ≤ m ∧ m ≤ (12 : Int)))
 ((((0 : Int) = Prod.fst (rcnC t m)) ∧
 (((2 : Int) = Prod.snd (rcnC t m)) ∧
 (True))) ∧
 (True))
 ((InR ((↑(List.length t) : Int) * (↑(List.length t) : Int))) ∧
 ((∃ x0 : Nat × Int, (((rackB t = Bool.true) ∧
 (((1 : Int) ≤ m) ∧
 ((m ≤ (12 : Int)) ∧
 ((Prod.fst x0 ≤ List.length t * List.length t) ∧
 (((1 : Int) ≤ Prod.snd x0) ∧
 ((Prod.snd x0 ≤ (100000 : Int)) ∧
 (szM m (List.length t * List.length t) (1 : Int) = szM m (List.length t * List.length t - Prod.fst x0) (Prod.snd x0)))))))) ∧
 (((↑(List.length t) : Int) = (↑(List.length t) : Int)) ∧
 (((1 : Int) = x0.2) ∧
 (((↑(List.length t) : Int) * (↑(List.length t) : Int) = (↑(List.length t) : Int) * (↑(List.length t) : Int)) ∧
 (((0 : Int) = (↑x0.1 : Int)) ∧
 ((t = t) ∧
 (m = m)))))))) ∧
 (∀ x1 : Nat × Int, (((rackB t = Bool.true) ∧
 (((1 : Int) ≤ m) ∧
 ((m ≤ (12 : Int)) ∧
 ((Prod.fst x1 ≤ List.length t * List.length t) ∧
 (((1 : Int) ≤ Prod.snd x1) ∧
 ((Prod.snd x1 ≤ (100000 : Int)) ∧
 (szM m (List.length t * List.length t) (1 : Int) = szM m (List.length t * List.length t - Prod.fst x1) (Prod.snd x1)))))))) →
 (BrP (Decidable.decide ((↑x1.1 : Int) < (↑(List.length t) : Int) * (↑(List.length t) : Int)))
 ((InR (x1.2 * m)) ∧
 (BrP (Decidable.decide ((100000 : Int) < x1.2 * m))
 ((((0 : Int) = Prod.fst (rcnC t m)) ∧
 (((3 : Int) = Prod.snd (rcnC t m)) ∧
 (True))) ∧
 (True))
 ((InR ((↑x1.1 : Int) + (1 : Int))) ∧
 (∃ x2 : Nat × Int, (((rackB t = Bool.true) ∧
 (((1 : Int) ≤ m) ∧
 ((m ≤ (12 : Int)) ∧
 ((Prod.fst x2 ≤ List.length t * List.length t) ∧
 (((1 : Int) ≤ Prod.snd x2) ∧
 ((Prod.snd x2 ≤ (100000 : Int)) ∧
 (szM m (List.length t * List.length t) (1 : Int) = szM m (List.length t * List.length t - Prod.fst x2) (Prod.snd x2)))))))) ∧
 ((List.length t * List.length t - Prod.fst x2 < List.length t * List.length t - Prod.fst x1) ∧
 (((↑(List.length t) : Int) = (↑(List.length t) : Int)) ∧
 ((x1.2 * m = x2.2) ∧
 (((↑(List.length t) : Int) * (↑(List.length t) : Int) = (↑(List.length t) : Int) * (↑(List.length t) : Int)) ∧
 (((↑x1.1 : Int) + (1 : Int) = (↑x2.1 : Int)) ∧
 ((t = t) ∧
 (m = m))))))))))))
 ((∃ x3 : Nat × Int, (((rackB t = Bool.true) ∧
 (((1 : Int) ≤ m) ∧
 ((m ≤ (12 : Int)) ∧
 (((1 : Int) ≤ Prod.snd x3) ∧
 ((Prod.snd x3 ≤ (100000 : Int)) ∧
 ((szM m (List.length t * List.length t) (1 : Int) = Option.some (Prod.snd x3)) ∧
 ((↑(Prod.fst x3) : Int) ≤ Prod.snd x3))))))) ∧
 (((↑(List.length t) : Int) = (↑(List.length t) : Int)) ∧
 (((0 : Int) = cntK t m x3.1) ∧
 ((x1.2 = x3.2) ∧
 (((0 : Int) = (↑x3.1 : Int)) ∧
 ((t = t) ∧
 (m = m)))))))) ∧
 (∀ x4 : Nat × Int, (((rackB t = Bool.true) ∧
 (((1 : Int) ≤ m) ∧
 ((m ≤ (12 : Int)) ∧
 (((1 : Int) ≤ Prod.snd x4) ∧
 ((Prod.snd x4 ≤ (100000 : Int)) ∧
 ((szM m (List.length t * List.length t) (1 : Int) = Option.some (Prod.snd x4)) ∧
 ((↑(Prod.fst x4) : Int) ≤ Prod.snd x4))))))) →
 (BrP (Decidable.decide ((↑x4.1 : Int) < x4.2))
 (((((0 : Int) ≤ (↑(List.length t) : Int)) ∧
 (((↑(List.length t) : Int) ≤ (144 : Int)) ∧
 (∀ (x y : Nat), x < Int.toNat (↑(List.length t) : Int) → y < Int.toNat (↑(List.length t) : Int) → SFV.q (mkSF iCountRC1_ct [] [AD.box [FC.int IntKind.i64 m]]) (stC (mkSF iCountRC1_ct [] [AD.box [FC.int IntKind.i64 m]]) (Int.toNat (↑(List.length t) : Int)) (↑x4.1 : Int) (x * Int.toNat (↑(List.length t) : Int) + y)) (↑x : Int) (↑y : Int)))) ∧
 (True)) ∧
 ((((tabB t = Bool.true) ∧
 (matB (↑(List.length t) : Int) m (stT (mkSF iCountRC1_ct [] [AD.box [FC.int IntKind.i64 m]]) (Int.toNat (↑(List.length t) : Int)) (↑x4.1 : Int)) = Bool.true)) ∧
 (True)) ∧
 (BrP (Option.isNone (rcF t m (stT (mkSF iCountRC1_ct [] [AD.box [FC.int IntKind.i64 m]]) (Int.toNat (↑(List.length t) : Int)) (↑x4.1 : Int))))
 ((InR (cntK t m x4.1 + (1 : Int))) ∧
 ((InR ((↑x4.1 : Int) + (1 : Int))) ∧
 (∃ x5 : Nat × Int, (((rackB t = Bool.true) ∧
 (((1 : Int) ≤ m) ∧
 ((m ≤ (12 : Int)) ∧
 (((1 : Int) ≤ Prod.snd x5) ∧
 ((Prod.snd x5 ≤ (100000 : Int)) ∧
 ((szM m (List.length t * List.length t) (1 : Int) = Option.some (Prod.snd x5)) ∧
 ((↑(Prod.fst x5) : Int) ≤ Prod.snd x5))))))) ∧
 ((Int.toNat (Prod.snd x5 - (↑(Prod.fst x5) : Int)) < Int.toNat (Prod.snd x4 - (↑(Prod.fst x4) : Int))) ∧
 (((↑(List.length t) : Int) = (↑(List.length t) : Int)) ∧
 ((cntK t m x4.1 + (1 : Int) = cntK t m x5.1) ∧
 ((x4.2 = x5.2) ∧
 (((↑x4.1 : Int) + (1 : Int) = (↑x5.1 : Int)) ∧
 ((t = t) ∧
 (m = m)))))))))))
 ((InR ((↑x4.1 : Int) + (1 : Int))) ∧
 (∃ x6 : Nat × Int, (((rackB t = Bool.true) ∧
 (((1 : Int) ≤ m) ∧
 ((m ≤ (12 : Int)) ∧
 (((1 : Int) ≤ Prod.snd x6) ∧
 ((Prod.snd x6 ≤ (100000 : Int)) ∧
 ((szM m (List.length t * List.length t) (1 : Int) = Option.some (Prod.snd x6)) ∧
 ((↑(Prod.fst x6) : Int) ≤ Prod.snd x6))))))) ∧
 ((Int.toNat (Prod.snd x6 - (↑(Prod.fst x6) : Int)) < Int.toNat (Prod.snd x4 - (↑(Prod.fst x4) : Int))) ∧
 (((↑(List.length t) : Int) = (↑(List.length t) : Int)) ∧
 ((cntK t m x4.1 = cntK t m x6.1) ∧
 ((x4.2 = x6.2) ∧
 (((↑x4.1 : Int) + (1 : Int) = (↑x6.1 : Int)) ∧
 ((t = t) ∧
 (m = m)))))))))))))
 (((cntK t m x4.1 = Prod.fst (rcnC t m)) ∧
 (((0 : Int) = Prod.snd (rcnC t m)) ∧
 (True))) ∧
 (True)))))))))))))))
theorem iCntRC_vc (t : List (List Int)) (m : Int) : runF Try.prog (gam iCntRC_G) noWr (iCntRC_ann t m) Try.f18 (bodyOf Try.f18) [] [.agg [.rows .i64 (t)], .c (.int .i64 (m))] (iCntRC_p t m) = iCntRC_V t m := by kernel_rfl
theorem iCntRC_ok (t : List (List Int)) (m : Int) (hpre : (iCntRC_p t m).pre) : iCntRC_V t m := by
  simp only [iCntRC_p, iCntRC_V, BrP_iff, true_and, and_true, decide_eq_true_eq, decide_eq_false_iff_not, bne_iff_ne, beq_iff_eq, bne_eq_false_iff_eq, beq_eq_false_iff_ne, Bool.not_eq_true, Bool.not_eq_false, Bool.not_true, Bool.not_false, Bool.not_eq_eq_eq_not, Int.toNat_natCast, List.length_append, List.length_take, List.length_replicate, List.length_set, List.length_map, List.length_drop, List.length_nil, List.length_cons, markL_length, inB, InR, room, bdsOk] at hpre ⊢
  refine ⟨hpre, fun h => rcn_a (by simp [h]), fun h => ⟨fun h2 => rcn_b h (by omega), fun g => ?_⟩⟩
  have hn := tabB_of (rackB_tab h)
  obtain ⟨q1, q2⟩ := sq_in (n := t.length) (by omega)
  obtain ⟨g1, g2⟩ := g
  rw [q1]
  refine ⟨by omega, ⟨(0, 1), ⟨h, g1, g2, by omega, by omega, by omega, rfl⟩, rfl, rfl⟩, fun (i, z) ⟨_, _, _, hi, hz1, hz2, hz⟩ => ?_⟩
  dsimp only at hi hz1 hz2 hz ⊢
  refine ⟨fun hlt => ?_, fun hge => ?_⟩
  · have a := mul_in hz1 hz2 g1 g2
    have st := szM_step (m := m) (N := t.length * t.length) (i := i) (z := z) (by omega)
    refine ⟨by omega, fun b => rcn_c h ⟨g1, g2⟩ (by rw [hz, st, if_pos b]), fun b => ⟨by omega, (i + 1, z * m), ?_⟩⟩
    exact ⟨⟨h, g1, g2, show i + 1 ≤ _ by omega, show 1 ≤ z * m by omega, show z * m ≤ 100000 by omega, by rw [hz, st, if_neg b]⟩, show _ - (i + 1) < _ - i by omega, rfl, show (i : Int) + 1 = ((i + 1 : Nat) : Int) by omega⟩
  have hz : szM m (t.length * t.length) 1 = some z := by rw [hz, show t.length * t.length - i = 0 by omega]; rfl
  refine ⟨⟨(0, z), ⟨h, g1, g2, hz1, hz2, hz, show ((0 : Nat) : Int) ≤ z by omega⟩, rfl, rfl, rfl⟩, fun (k, z) ⟨_, _, _, k1, k2, k3, k4⟩ => ?_⟩
  dsimp only at k1 k2 k3 k4 ⊢
  refine ⟨fun hlt => ?_, fun hge => ?_⟩
  · have M := cnt_mat (n := t.length) (s := (k : Int)) g1 g2 (by omega) (by omega)
    have I := cnt_in (n := t.length) (s := (k : Int)) g1 (by omega) (by omega)
    have cK := cntK_in t m k
    simp only [cntS_eq]
    refine ⟨⟨by omega, by omega, fun x y hx hy => ⟨g1, g2, (I _).1, (I _).2⟩⟩, ⟨rackB_tab h, M⟩, fun e => ⟨by omega, by omega, (k + 1, z), ⟨h, g1, g2, k1, k2, k3, show ((k + 1 : Nat) : Int) ≤ z by omega⟩, show (z - ((k + 1 : Nat) : Int)).toNat < _ by omega, ?_, rfl, rfl⟩, fun e => ⟨by omega, (k + 1, z), ⟨h, g1, g2, k1, k2, k3, show ((k + 1 : Nat) : Int) ≤ z by omega⟩, show (z - ((k + 1 : Nat) : Int)).toNat < _ by omega, ?_, rfl, rfl⟩⟩
    · exact (if_pos e).symm
    · exact (if_neg (by rw [e]; decide)).symm
  · rw [show k = z.toNat by omega]
    exact rcn_d h ⟨g1, g2⟩ k3
theorem iCntRC_fits : Fits Try.prog 18 ⟨[], iCntRC_ct⟩ := by
  refine fits_fn (Γ := gam iCntRC_G) (gok_cons IsRack_fits (gok_cons within_fits (gok_cons tableByS_fits (gok_cons iCountRC1_fits (gok_cons isRackCocycle_fits gok_nil))))) Try.func18 (by kernel_rfl) (by kernel_rfl) (by kernel_rfl) fun ds p h hp => ?_
  unfold iCntRC_ct at h
  split at h
  · cases h
    exact ⟨noWr, iCntRC_ann _ _ , by rw [iCntRC_vc]; exact iCntRC_ok _ _  hp⟩
  · cases h


end Go.Sx
