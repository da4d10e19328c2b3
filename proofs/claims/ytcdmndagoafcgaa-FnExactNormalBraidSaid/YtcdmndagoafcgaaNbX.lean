/- NbX -/
import Derived.Test.YtcdmndagoafcgaaNbL
open Go Go.Proofs
namespace Go.Sx
set_option linter.unusedSimpArgs false
set_option linter.unusedVariables false

def nmE (s : Int) (w : List Int) : Int := if braidB s w = true then nbE s w else 0
def nmL (s : Int) (w : List Int) : List (List Int) := if braidB s w = true then (nbR s w).take (nbC s w) else []
def nmO (s : Int) (w : List Int) : Nat := if braidB s w = true then nbJ s w else 0
def nmC (s : Int) (w : List Int) : Nat := if braidB s w = true then nbC s w else 0
def nmA (s : Int) (w : List Int) : List (List Int) := if braidB s w = true then (nbN s w).take (nbJ s w + nbC s w) ++ List.replicate ((nbR s w).length - nbC s w) [] else []
def nmZ (s : Int) (w : List Int) : Int := if braidB s w = true then 0 else 1

theorem nm_cut (s : Int) (w : List Int) : List.take (nmC s w) (List.drop (nmO s w) (nmA s w)) = nmL s w := by
  unfold nmC nmO nmA nmL
  by_cases h : braidB s w = true
  · rw [if_pos h, if_pos h, if_pos h, if_pos h]; exact nbCut h
  · rw [if_neg h, if_neg h, if_neg h, if_neg h]; rfl

theorem sumL_max {l : List (List Int)} {m : Nat} (h : ∀ r ∈ l, r.length ≤ m) : sumL l ≤ l.length * m := by
  induction l with
  | nil => simp [sumL]
  | cons r l ih =>
    have a := h r (by simp)
    have b := ih fun x hx => h x (by simp [hx])
    have e : sumL (r :: l) = r.length + sumL l := by simp [sumL]
    rw [e, List.length_cons, Nat.succ_mul]; omega

theorem nm_bd (s : Int) (w : List Int) : nmO s w + nmC s w ≤ (nmA s w).length ∧ nmC s w ≤ 1048576 ∧ (nmL s w).length ≤ 1048576 ∧ sumL (nmL s w) ≤ 1048576 ∧ roomR (nmL s w) := by
  unfold nmC nmO nmA nmL
  by_cases h : braidB s w = true
  · rw [if_pos h, if_pos h, if_pos h, if_pos h]
    obtain ⟨a, b, c⟩ := nbN_ok h
    have hs : 2 ≤ s ∧ s ≤ 6 ∧ w.length ≤ 30 := by
      simp only [braidB, Bool.and_eq_true, decide_eq_true_eq] at h; omega
    have l := nbR_len s w
    have j := ldH_le (halfL s.toNat) (nbN s w)
    have j : nbJ s w ≤ (nbN s w).length := j
    have k := ctU_le (unitL s.toNat) (nbR s w)
    have k : nbC s w ≤ (nbR s w).length := k
    have rl : ∀ r ∈ (nbR s w).take (nbC s w), r.length ≤ 6 := fun r hr => by
      have hr := List.mem_of_mem_drop (List.mem_of_mem_take hr)
      obtain ⟨i, hi, rfl⟩ := List.getElem_of_mem hr
      have := (a i hi).len
      rw [getD_lt _ [] i hi] at this
      omega
    have sm := sumL_max rl
    have tl : ((nbR s w).take (nbC s w)).length ≤ 30 := by rw [List.length_take]; omega
    refine ⟨by simp; omega, by omega, by omega, ?_, nbT_room h⟩
    have : ((nbR s w).take (nbC s w)).length * 6 ≤ 30 * 6 := Nat.mul_le_mul_right 6 tl
    omega
  · rw [if_neg h, if_neg h, if_neg h, if_neg h]
    exact ⟨by simp, by simp, by simp, by simp [sumL], by simp [roomR]⟩

def l01Own2N_p (t : List (List Int)) : Post := ⟨roomR t, .c (.rows 22 2 .i64 (t)), []⟩
def l01Own2N_ct : List AD → Option Post
  | [.c (.rows .i64 (t))] => some (l01Own2N_p t)
  | _ => none
def l01Own2N_ann (t : List (List Int)) : Nat → Option Ann
  | 0 => some (Ann.mk ((Nat)) (fun i => ⟨[(0, .c (.ro (.rows .i64 (t)))), (3, .c (.own (5))), (4, .c (.int .i64 ((i : Int))))], [(5, some (.rows 0 22 2 .i64 (t.take i)))]⟩) (fun i => i ≤ t.length) (fun i => t.length - i) (fun _ => noAnn))
  | _ => none
def l01Own2N_G : List (Nat × Ctr) := [(83, ⟨[], l01Own_ct⟩)]
def l01Own2N_V (t : List (List Int)) : Prop :=
  ((∃ x0 : Nat, ((x0 ≤ List.length t) ∧
 ((t = t) ∧
 (((0 : Int) = (↑x0 : Int)) ∧
 (([] : List (List Int)) = List.take x0 t))))) ∧
 (∀ x1 : Nat, ((x1 ≤ List.length t) →
 (BrP (Decidable.decide ((↑x1 : Int) < (↑(List.length t) : Int)))
 ((inB (↑x1 : Int) (List.length t)) ∧
 (((room (List.length (List.getD t (Int.toNat (↑x1 : Int)) []))) ∧
 (True)) ∧
 ((room (List.length (List.take x1 t) + List.length (List.getD t (Int.toNat (↑x1 : Int)) [] :: ([] : List (List Int))))) ∧
 ((InR ((↑x1 : Int) + (1 : Int))) ∧
 (∃ x2 : Nat, ((x2 ≤ List.length t) ∧
 ((List.length t - x2 < List.length t - x1) ∧
 ((t = t) ∧
 (((↑x1 : Int) + (1 : Int) = (↑x2 : Int)) ∧
 (List.take x1 t ++ List.getD t (Int.toNat (↑x1 : Int)) [] :: ([] : List (List Int)) = List.take x2 t))))))))))
 ((List.take x1 t = t) ∧
 (True))))))
theorem l01Own2N_vc (t : List (List Int)) : runF Try.prog (gam l01Own2N_G) noWr (l01Own2N_ann t) Try.f40 (bodyOf Try.f40) [] [.c (.rows .i64 (t))] (l01Own2N_p t) = l01Own2N_V t := by kernel_rfl
theorem l01Own2N_ok (t : List (List Int)) (hpre : (l01Own2N_p t).pre) : l01Own2N_V t := by
  simp only [l01Own2N_p, l01Own2N_V, BrP_iff, true_and, and_true, decide_eq_true_eq, decide_eq_false_iff_not, bne_iff_ne, beq_iff_eq, bne_eq_false_iff_eq, beq_eq_false_iff_ne, Bool.not_eq_true, Bool.not_eq_false, Bool.not_true, Bool.not_false, Bool.not_eq_eq_eq_not, Int.toNat_natCast, List.length_append, List.length_take, List.length_replicate, List.length_set, List.length_map, List.length_drop, List.length_nil, List.length_cons, markL_length, inB, InR, room, bdsOk] at hpre ⊢
  have h1 := hpre.1
  refine ⟨⟨0, by omega, rfl, by simp⟩, fun i hi => ⟨fun h => ⟨by omega, roomR_get hpre i (by omega), by omega, by omega, i + 1, by omega, by omega, by omega, take_snoc _ _ _ (by omega)⟩, fun h => List.take_of_length_le (by omega)⟩⟩
theorem l01Own2N_fits : Fits Try.prog 40 ⟨[], l01Own2N_ct⟩ := by
  refine fits_fn (Γ := gam l01Own2N_G) (gok_cons l01Own_fits gok_nil) Try.func40 (by kernel_rfl) (by kernel_rfl) (by kernel_rfl) fun ds p h hp => ?_
  unfold l01Own2N_ct at h
  split at h
  · cases h
    exact ⟨noWr, l01Own2N_ann _ , by rw [l01Own2N_vc]; exact l01Own2N_ok _  hp⟩
  · cases h

def sNormal_p (s : Int) (w : List Int) : Post := ⟨w.length ≤ 1099511627776, .tup [.inl (.int .i64 (nmE s w)), .inl (.rows 22 2 .i64 (nmL s w)), .inl (.int .i64 (nmZ s w))], []⟩
def sNormal_ct : List AD → Option Post
  | [.agg [.int .i64 (s), .ints .i64 (w)]] => some (sNormal_p s w)
  | _ => none
def sNormal_G : List (Nat × Ctr) := [(38, ⟨[], l16Is_ct⟩), (39, ⟨[], l16Normal_ct⟩), (40, ⟨[], l01Own2N_ct⟩)]
def sNormal_V (s : Int) (w : List Int) : Prop :=
  (((room (List.length w)) ∧
 (True)) ∧
 (BrP (!braidB s w)
 ((((0 : Int) = nmE s w) ∧
 ((([] : List (List Int)) = nmL s w) ∧
 (((1 : Int) = nmZ s w) ∧
 (True)))) ∧
 (True))
 (((braidB s w = Bool.true) ∧
 (True)) ∧
 (((roomR (List.take (nbC s w) (List.drop (nbJ s w) (nbN s w)))) ∧
 (True)) ∧
 (((nbE s w = nmE s w) ∧
 ((List.take (nbC s w) (List.drop (nbJ s w) (nbN s w)) = nmL s w) ∧
 (((0 : Int) = nmZ s w) ∧
 (True)))) ∧
 (True))))))
theorem sNormal_vc (s : Int) (w : List Int) : runF Try.prog (gam sNormal_G) noWr noAnn Try.f8 (bodyOf Try.f8) [] [.agg [.int .i64 (s), .ints .i64 (w)]] (sNormal_p s w) = sNormal_V s w := by kernel_rfl
theorem sNormal_ok (s : Int) (w : List Int) (hpre : (sNormal_p s w).pre) : sNormal_V s w := by
  simp only [sNormal_p, sNormal_V, BrP_iff, true_and, and_true, decide_eq_true_eq, decide_eq_false_iff_not, bne_iff_ne, beq_iff_eq, bne_eq_false_iff_eq, beq_eq_false_iff_ne, Bool.not_eq_true, Bool.not_eq_false, Bool.not_true, Bool.not_false, Bool.not_eq_eq_eq_not, Int.toNat_natCast, List.length_append, List.length_take, List.length_replicate, List.length_set, List.length_map, List.length_drop, List.length_nil, List.length_cons, markL_length, inB, InR, room, bdsOk] at hpre ⊢
  refine ⟨hpre, fun h => by simp [nmE, nmL, nmZ, h], fun h => ⟨h, nbT_room h, by rw [nmE, if_pos h], by rw [nmL, if_pos h]; rfl, by rw [nmZ, if_pos h]⟩⟩
theorem sNormal_fits : Fits Try.prog 8 ⟨[], sNormal_ct⟩ := by
  refine fits_fn (Γ := gam sNormal_G) (gok_cons l16Is_fits (gok_cons l16Normal_fits (gok_cons l01Own2N_fits gok_nil))) Try.func8 (by kernel_rfl) (by kernel_rfl) (by kernel_rfl) fun ds p h hp => ?_
  unfold sNormal_ct at h
  split at h
  · cases h
    exact ⟨noWr, noAnn, by rw [sNormal_vc]; exact sNormal_ok _ _  hp⟩
  · cases h

def iNormal_p (s : Int) (w : List Int) : Post := ⟨w.length ≤ 1099511627776, .tup [.inl (.int .i64 (nmE s w)), .inl (.cut (nmO s w) (nmC s w) 22 2 .i64 (nmA s w)), .inl (.int .i64 (nmZ s w))], []⟩
def iNormal_ct : List AD → Option Post
  | [.agg [.int .i64 (s), .ints .i64 (w)]] => some (iNormal_p s w)
  | _ => none
def iNormal_G : List (Nat × Ctr) := [(42, ⟨[], iIsBraid_ct⟩), (43, ⟨[], normalForm_ct⟩)]
def iNormal_V (s : Int) (w : List Int) : Prop :=
  (((room (List.length w)) ∧
 (True)) ∧
 (BrP (!braidB s w)
 ((((0 : Int) = nmE s w) ∧
 (((((0 : Nat) = nmO s w) ∧
 ((0 : Nat) = nmC s w)) ∧
 (([] : List (List Int)) = nmA s w)) ∧
 (((1 : Int) = nmZ s w) ∧
 (True)))) ∧
 (True))
 (((braidB s w = Bool.true) ∧
 (True)) ∧
 (((nbE s w = nmE s w) ∧
 (((nbJ s w = nmO s w) ∧
 ((nbC s w = nmC s w) ∧
 (List.take (nbJ s w + nbC s w) (nbN s w) ++ List.replicate (List.length (nbR s w) - nbC s w) ([] : List Int) = nmA s w))) ∧
 (((0 : Int) = nmZ s w) ∧
 (True)))) ∧
 (True)))))
theorem iNormal_vc (s : Int) (w : List Int) : runF Try.prog (gam iNormal_G) noWr noAnn Try.f10 (bodyOf Try.f10) [] [.agg [.int .i64 (s), .ints .i64 (w)]] (iNormal_p s w) = iNormal_V s w := by kernel_rfl
theorem iNormal_ok (s : Int) (w : List Int) (hpre : (iNormal_p s w).pre) : iNormal_V s w := by
  simp only [iNormal_p, iNormal_V, BrP_iff, true_and, and_true, decide_eq_true_eq, decide_eq_false_iff_not, bne_iff_ne, beq_iff_eq, bne_eq_false_iff_eq, beq_eq_false_iff_ne, Bool.not_eq_true, Bool.not_eq_false, Bool.not_true, Bool.not_false, Bool.not_eq_eq_eq_not, Int.toNat_natCast, List.length_append, List.length_take, List.length_replicate, List.length_set, List.length_map, List.length_drop, List.length_nil, List.length_cons, markL_length, inB, InR, room, bdsOk] at hpre ⊢
  refine ⟨hpre, fun h => by simp [nmE, nmO, nmC, nmA, nmZ, h], fun h => ⟨h, by rw [nmE, if_pos h], ⟨by rw [nmO, if_pos h], by rw [nmC, if_pos h], by rw [nmA, if_pos h]⟩, by rw [nmZ, if_pos h]⟩⟩
theorem iNormal_fits : Fits Try.prog 10 ⟨[], iNormal_ct⟩ := by
  refine fits_fn (Γ := gam iNormal_G) (gok_cons iIsBraid_fits (gok_cons normalForm_fits gok_nil)) Try.func10 (by kernel_rfl) (by kernel_rfl) (by kernel_rfl) fun ds p h hp => ?_
  unfold iNormal_ct at h
  split at h
  · cases h
    exact ⟨noWr, noAnn, by rw [iNormal_vc]; exact iNormal_ok _ _  hp⟩
  · cases h

theorem cut_mark (A : List (List Int)) (off n : Nat) (k : Int) (h : off + n ≤ A.length) : List.take n (List.drop off (List.take off A ++ (markR (List.take n (List.drop off A)) k ++ List.drop (off + n) A))) = markR (List.take n (List.drop off A)) k := by
  have l1 : (List.take off A).length = off := by rw [List.length_take]; omega
  have l2 : (markR (List.take n (List.drop off A)) k).length = n := by rw [markR_length, List.length_take, List.length_drop]; omega
  rw [List.drop_append, l1, List.drop_of_length_le (by omega), Nat.sub_self, List.drop_zero, List.nil_append, List.take_append, l2, Nat.sub_self, List.take_zero, List.append_nil, List.take_of_length_le (by omega)]

theorem cut_lens (A : List (List Int)) (off n : Nat) (k : Int) (h : off + n ≤ A.length) : List.map List.length (List.take off A ++ (markR (List.take n (List.drop off A)) k ++ List.drop (off + n) A)) = List.map List.length A := by
  rw [List.map_append, List.map_append, markR_lens, ← List.map_append, ← List.map_append]
  congr 1
  rw [← List.drop_drop, List.take_append_drop, List.take_append_drop]

def markCut_p (off : Nat) (n : Nat) (l : List (List Int)) (k : Int) : Post := ⟨off + n ≤ l.length ∧ n ≤ 1048576 ∧ sumL ((l.drop off).take n) ≤ 1048576 ∧ 0 ≤ k ∧ k ≤ 1073741824, .c (.int .i64 (k + (sumL ((l.drop off).take n) : Int))), [.rows 22 2 .i64 (l.take off ++ (markR ((l.drop off).take n) k ++ l.drop (off + n)))]⟩
def markCut_ct : List AD → Option Post
  | [.cut (off) (n) (.rows .i64 (l)), .c (.int .i64 (k))] => some (markCut_p off n l k)
  | _ => none
def markCut_ann (off : Nat) (n : Nat) (l : List (List Int)) (k : Int) : Nat → Option Ann
  | 0 => some (Ann.mk ((Nat)) (fun i => ⟨[(0, .c (.sub 700 off n)), (1, .c (.int .i64 (k + (sumL (((l.drop off).take n).take i) : Int)))), (5, .c (.int .i64 ((i : Int))))], [(700, some (.rows 0 22 2 .i64 (l.take off ++ (markR (((l.drop off).take n).take i) k ++ l.drop (off + i)))))]⟩) (fun i => i ≤ n) (fun i => n - i) (fun _ => noAnn))
  | _ => none
def markCut_G : List (Nat × Ctr) := [(45, ⟨[(0, 0)], markInt64S_ct⟩)]
def markCut_V (off : Nat) (n : Nat) (l : List (List Int)) (k : Int) : Prop :=
  ((∃ x0 : Nat, ((x0 ≤ n) ∧
 ((off = off) ∧
 ((n = n) ∧
 ((k = k + (↑(sumL (List.take x0 (List.take n (List.drop off l)))) : Int)) ∧
 (((0 : Int) = (↑x0 : Int)) ∧
 (l = List.take off l ++ (markR (List.take x0 (List.take n (List.drop off l))) k ++ List.drop (off + x0) l)))))))) ∧
 (∀ x1 : Nat, ((x1 ≤ n) →
 (BrP (Decidable.decide ((↑x1 : Int) < (↑n : Int)))
 ((inB (↑x1 : Int) n) ∧
 ((((room (List.length (List.getD (List.take off l ++ (markR (List.take x1 (List.take n (List.drop off l))) k ++ List.drop (off + x1) l)) (off + Int.toNat (↑x1 : Int)) []))) ∧
 (((0 : Int) ≤ k + (↑(sumL (List.take x1 (List.take n (List.drop off l)))) : Int)) ∧
 (k + (↑(sumL (List.take x1 (List.take n (List.drop off l)))) : Int) ≤ (1099511627776 : Int)))) ∧
 (List.length (markL (k + (↑(sumL (List.take x1 (List.take n (List.drop off l)))) : Int)) (List.length (List.getD (List.take off l ++ (markR (List.take x1 (List.take n (List.drop off l))) k ++ List.drop (off + x1) l)) (off + Int.toNat (↑x1 : Int)) []))) = List.length (List.getD (List.take off l ++ (markR (List.take x1 (List.take n (List.drop off l))) k ++ List.drop (off + x1) l)) (off + Int.toNat (↑x1 : Int)) []))) ∧
 ((InR ((↑x1 : Int) + (1 : Int))) ∧
 (∃ x2 : Nat, ((x2 ≤ n) ∧
 ((n - x2 < n - x1) ∧
 ((off = off) ∧
 ((n = n) ∧
 ((k + (↑(sumL (List.take x1 (List.take n (List.drop off l)))) : Int) + (↑(List.length (List.getD (List.take off l ++ (markR (List.take x1 (List.take n (List.drop off l))) k ++ List.drop (off + x1) l)) (off + Int.toNat (↑x1 : Int)) [])) : Int) = k + (↑(sumL (List.take x2 (List.take n (List.drop off l)))) : Int)) ∧
 (((↑x1 : Int) + (1 : Int) = (↑x2 : Int)) ∧
 (List.set (List.take off l ++ (markR (List.take x1 (List.take n (List.drop off l))) k ++ List.drop (off + x1) l)) (off + Int.toNat (↑x1 : Int)) (markL (k + (↑(sumL (List.take x1 (List.take n (List.drop off l)))) : Int)) (List.length (List.getD (List.take off l ++ (markR (List.take x1 (List.take n (List.drop off l))) k ++ List.drop (off + x1) l)) (off + Int.toNat (↑x1 : Int)) []))) = List.take off l ++ (markR (List.take x2 (List.take n (List.drop off l))) k ++ List.drop (off + x2) l))))))))))))
 ((k + (↑(sumL (List.take x1 (List.take n (List.drop off l)))) : Int) = k + (↑(sumL (List.take n (List.drop off l))) : Int)) ∧
 ((List.take off l ++ (markR (List.take x1 (List.take n (List.drop off l))) k ++ List.drop (off + x1) l) = List.take off l ++ (markR (List.take n (List.drop off l)) k ++ List.drop (off + n) l)) ∧
 (True)))))))
theorem markCut_vc (off : Nat) (n : Nat) (l : List (List Int)) (k : Int) : runF Try.prog (gam markCut_G) noWr (markCut_ann off n l k) Try.f14 (bodyOf Try.f14) [(0, 0)] [.cut (off) (n) (.rows .i64 (l)), .c (.int .i64 (k))] (markCut_p off n l k) = markCut_V off n l k := by kernel_rfl
theorem markCut_ok (off : Nat) (n : Nat) (l : List (List Int)) (k : Int) (hpre : (markCut_p off n l k).pre) : markCut_V off n l k := by
  simp only [markCut_p, markCut_V, BrP_iff, true_and, and_true, decide_eq_true_eq, decide_eq_false_iff_not, bne_iff_ne, beq_iff_eq, bne_eq_false_iff_eq, beq_eq_false_iff_ne, Bool.not_eq_true, Bool.not_eq_false, Bool.not_true, Bool.not_false, Bool.not_eq_eq_eq_not, Int.toNat_natCast, List.length_append, List.length_take, List.length_replicate, List.length_set, List.length_map, List.length_drop, List.length_nil, List.length_cons, markL_length, inB, InR, room, bdsOk] at hpre ⊢
  obtain ⟨h0, h1, h2, h3, h4⟩ := hpre
  have hr : ((l.drop off).take n).length = n := by rw [List.length_take, List.length_drop]; omega
  have hto : (l.take off).length = off := by rw [List.length_take]; omega
  refine ⟨⟨0, by omega, by simp [sumL], rfl, by simp [markR]⟩, fun i hi => ?_⟩
  have hlen : (markR (((l.drop off).take n).take i) k).length = i := by rw [markR_length, List.length_take]; omega
  refine ⟨fun h => ?_, fun h => ?_⟩
  · have q1 := sumL_take ((l.drop off).take n) i (by omega)
    have q2 := sumL_take_le ((l.drop off).take n) (i + 1)
    have hg : (List.take off l ++ (markR (((l.drop off).take n).take i) k ++ l.drop (off + i))).getD (off + i) [] = ((l.drop off).take n).getD i [] := by
      rw [getD_append_right' _ _ _ _ (by omega), hto, getD_append_right' _ _ _ _ (by omega), hlen, drop_getD, take_getD _ _ _ _ (by omega), drop_getD]
      congr 1; omega
    have q3 := sumL_mem (getD_mem ((l.drop off).take n) [] i (by omega))
    rw [hg]
    refine ⟨by omega, by omega, by omega, i + 1, by omega, by omega, by omega, by omega, ?_⟩
    rw [markR_take ((l.drop off).take n) k i (by omega), List.set_append_right _ _ (by omega), hto, Nat.add_sub_cancel_left, List.set_append_right _ _ (by omega), hlen, Nat.sub_self, drop_cons' l [] (off + i) (by omega), List.set_cons_zero]
    simp [Nat.add_assoc]
  · rw [List.take_of_length_le (l := (l.drop off).take n) (by omega)]
    have e : i = n := by omega
    subst e
    exact ⟨rfl, rfl⟩
theorem markCut_fits : Fits Try.prog 14 ⟨[(0, 0)], markCut_ct⟩ := by
  refine fits_fn (Γ := gam markCut_G) (gok_cons markInt64S_fits gok_nil) Try.func14 (by kernel_rfl) (by kernel_rfl) (by kernel_rfl) fun ds p h hp => ?_
  unfold markCut_ct at h
  split at h
  · cases h
    exact ⟨noWr, markCut_ann _ _ _ _ , by rw [markCut_vc]; exact markCut_ok _ _ _ _  hp⟩
  · cases h

def lNormal_p (s : Int) (w : List Int) : Post := ⟨(w.length : Int) ≤ 9223372036854775807, .c (.bool (true)), []⟩
def lNormal_ct : List AD → Option Post
  | [.agg [.int .i64 (s), .ints .i64 (w)]] => some (lNormal_p s w)
  | _ => none
def lNormal_G : List (Nat × Ctr) := [(7, ⟨[], szBraid_ct⟩), (9, ⟨[], toBraid_ct⟩), (12, ⟨[], eqBraid_ct⟩), (13, ⟨[(0, 1)], markBraid_ct⟩), (11, ⟨[], eqInt64SS_ct⟩), (15, ⟨[], heldInt64SS_ct⟩), (8, ⟨[], sNormal_ct⟩), (10, ⟨[], iNormal_ct⟩), (14, ⟨[(0, 0)], markCut_ct⟩)]
def lNormal_V (s : Int) (w : List Int) : Prop :=
  (((((↑(List.length w) : Int) ≤ (9223372036854775807 : Int)) ∧
 (((0 : Int) ≤ (1048576 : Int)) ∧
 ((1048576 : Int) ≤ (1099511627776 : Int)))) ∧
 (True)) ∧
 (BrP (Decidable.decide ((if (1048576 : Int) < (↑(List.length w) : Int) then (-1 : Int) else (1048576 : Int) - (↑(List.length w) : Int)) < (0 : Int)))
 ((Bool.true = Bool.true) ∧
 (True))
 (((room (List.length w)) ∧
 (True)) ∧
 (((List.length w ≤ (1099511627776 : Nat)) ∧
 (True)) ∧
 (((room (List.length w)) ∧
 (True)) ∧
 (((List.length w ≤ (1099511627776 : Nat)) ∧
 (True)) ∧
 (BrP (nmE s w != nmE s w)
 ((Bool.false = Bool.true) ∧
 (True))
 (((roomR (List.take (nmC s w) (List.drop (nmO s w) (nmA s w)))) ∧
 (True)) ∧
 (BrP (!Decidable.decide (List.take (nmC s w) (List.drop (nmO s w) (nmA s w)) = nmL s w))
 ((Bool.false = Bool.true) ∧
 (True))
 (BrP (nmZ s w != nmZ s w)
 ((Bool.false = Bool.true) ∧
 (True))
 (((room (List.length w)) ∧
 (True)) ∧
 (((room (List.length w)) ∧
 (True)) ∧
 (BrP (!Decidable.decide (s = s ∧ w = w))
 ((Bool.false = Bool.true) ∧
 (True))
 ((((room (List.length w)) ∧
 (((0 : Int) ≤ (1 : Int)) ∧
 ((1 : Int) ≤ (1099511627776 : Int)))) ∧
 ((List.length (markL (1 : Int) (List.length w)) = List.length w) ∧
 (True))) ∧
 (BrP (Decidable.decide ((1 : Int) + (↑(List.length w) : Int) < (0 : Int)))
 ((Bool.false = Bool.true) ∧
 (True))
 (BrP (nmE s w != nmE s w)
 ((Bool.false = Bool.true) ∧
 (True))
 (((roomR (List.take (nmC s w) (List.drop (nmO s w) (nmA s w)))) ∧
 (True)) ∧
 (BrP (!Decidable.decide (List.take (nmC s w) (List.drop (nmO s w) (nmA s w)) = nmL s w))
 ((Bool.false = Bool.true) ∧
 (True))
 (BrP (nmZ s w != nmZ s w)
 ((Bool.false = Bool.true) ∧
 (True))
 ((((nmO s w + nmC s w ≤ List.length (nmA s w)) ∧
 ((nmC s w ≤ (1048576 : Nat)) ∧
 ((sumL (List.take (nmC s w) (List.drop (nmO s w) (nmA s w))) ≤ (1048576 : Nat)) ∧
 (((0 : Int) ≤ (1 : Int)) ∧
 ((1 : Int) ≤ (1073741824 : Int)))))) ∧
 (List.map List.length (List.take (nmO s w) (nmA s w) ++ (markR (List.take (nmC s w) (List.drop (nmO s w) (nmA s w))) (1 : Int) ++ List.drop (nmO s w + nmC s w) (nmA s w))) = List.map List.length (nmA s w))) ∧
 ((((List.length (List.take (nmC s w) (List.drop (nmO s w) (List.take (nmO s w) (nmA s w) ++ (markR (List.take (nmC s w) (List.drop (nmO s w) (nmA s w))) (1 : Int) ++ List.drop (nmO s w + nmC s w) (nmA s w))))) ≤ (1048576 : Nat)) ∧
 ((sumL (List.take (nmC s w) (List.drop (nmO s w) (List.take (nmO s w) (nmA s w) ++ (markR (List.take (nmC s w) (List.drop (nmO s w) (nmA s w))) (1 : Int) ++ List.drop (nmO s w + nmC s w) (nmA s w))))) ≤ (1048576 : Nat)) ∧
 (((0 : Int) ≤ (1 : Int)) ∧
 ((1 : Int) ≤ (1073741824 : Int))))) ∧
 (True)) ∧
 (BrP (Decidable.decide ((if List.take (nmC s w) (List.drop (nmO s w) (List.take (nmO s w) (nmA s w) ++ (markR (List.take (nmC s w) (List.drop (nmO s w) (nmA s w))) (1 : Int) ++ List.drop (nmO s w + nmC s w) (nmA s w)))) = markR (List.take (nmC s w) (List.drop (nmO s w) (List.take (nmO s w) (nmA s w) ++ (markR (List.take (nmC s w) (List.drop (nmO s w) (nmA s w))) (1 : Int) ++ List.drop (nmO s w + nmC s w) (nmA s w))))) (1 : Int) then (1 : Int) + (↑(sumL (List.take (nmC s w) (List.drop (nmO s w) (List.take (nmO s w) (nmA s w) ++ (markR (List.take (nmC s w) (List.drop (nmO s w) (nmA s w))) (1 : Int) ++ List.drop (nmO s w + nmC s w) (nmA s w)))))) : Int) else (-1 : Int)) < (0 : Int)))
 ((Bool.false = Bool.true) ∧
 (True))
 (BrP ((if List.take (nmC s w) (List.drop (nmO s w) (List.take (nmO s w) (nmA s w) ++ (markR (List.take (nmC s w) (List.drop (nmO s w) (nmA s w))) (1 : Int) ++ List.drop (nmO s w + nmC s w) (nmA s w)))) = markR (List.take (nmC s w) (List.drop (nmO s w) (List.take (nmO s w) (nmA s w) ++ (markR (List.take (nmC s w) (List.drop (nmO s w) (nmA s w))) (1 : Int) ++ List.drop (nmO s w + nmC s w) (nmA s w))))) (1 : Int) then (1 : Int) + (↑(sumL (List.take (nmC s w) (List.drop (nmO s w) (List.take (nmO s w) (nmA s w) ++ (markR (List.take (nmC s w) (List.drop (nmO s w) (nmA s w))) (1 : Int) ++ List.drop (nmO s w + nmC s w) (nmA s w)))))) : Int) else (-1 : Int)) != (1 : Int) + (↑(sumL (List.take (nmC s w) (List.drop (nmO s w) (nmA s w)))) : Int))
 ((Bool.false = Bool.true) ∧
 (True))
 (((room (List.length w)) ∧
 (True)) ∧
 (((List.length w ≤ (1099511627776 : Nat)) ∧
 (True)) ∧
 (BrP (nmE s w != nmE s w)
 ((Bool.false = Bool.true) ∧
 (True))
 (((roomR (List.take (nmC s w) (List.drop (nmO s w) (nmA s w)))) ∧
 (True)) ∧
 (BrP (!Decidable.decide (List.take (nmC s w) (List.drop (nmO s w) (nmA s w)) = nmL s w))
 ((Bool.false = Bool.true) ∧
 (True))
 (BrP (nmZ s w != nmZ s w)
 ((Bool.false = Bool.true) ∧
 (True))
 ((((List.length (List.take (nmC s w) (List.drop (nmO s w) (List.take (nmO s w) (nmA s w) ++ (markR (List.take (nmC s w) (List.drop (nmO s w) (nmA s w))) (1 : Int) ++ List.drop (nmO s w + nmC s w) (nmA s w))))) ≤ (1048576 : Nat)) ∧
 ((sumL (List.take (nmC s w) (List.drop (nmO s w) (List.take (nmO s w) (nmA s w) ++ (markR (List.take (nmC s w) (List.drop (nmO s w) (nmA s w))) (1 : Int) ++ List.drop (nmO s w + nmC s w) (nmA s w))))) ≤ (1048576 : Nat)) ∧
 (((0 : Int) ≤ (1 : Int)) ∧
 ((1 : Int) ≤ (1073741824 : Int))))) ∧
 (True)) ∧
 (BrP (Decidable.decide ((if List.take (nmC s w) (List.drop (nmO s w) (List.take (nmO s w) (nmA s w) ++ (markR (List.take (nmC s w) (List.drop (nmO s w) (nmA s w))) (1 : Int) ++ List.drop (nmO s w + nmC s w) (nmA s w)))) = markR (List.take (nmC s w) (List.drop (nmO s w) (List.take (nmO s w) (nmA s w) ++ (markR (List.take (nmC s w) (List.drop (nmO s w) (nmA s w))) (1 : Int) ++ List.drop (nmO s w + nmC s w) (nmA s w))))) (1 : Int) then (1 : Int) + (↑(sumL (List.take (nmC s w) (List.drop (nmO s w) (List.take (nmO s w) (nmA s w) ++ (markR (List.take (nmC s w) (List.drop (nmO s w) (nmA s w))) (1 : Int) ++ List.drop (nmO s w + nmC s w) (nmA s w)))))) : Int) else (-1 : Int)) < (0 : Int)))
 ((Bool.false = Bool.true) ∧
 (True))
 (BrP ((if List.take (nmC s w) (List.drop (nmO s w) (List.take (nmO s w) (nmA s w) ++ (markR (List.take (nmC s w) (List.drop (nmO s w) (nmA s w))) (1 : Int) ++ List.drop (nmO s w + nmC s w) (nmA s w)))) = markR (List.take (nmC s w) (List.drop (nmO s w) (List.take (nmO s w) (nmA s w) ++ (markR (List.take (nmC s w) (List.drop (nmO s w) (nmA s w))) (1 : Int) ++ List.drop (nmO s w + nmC s w) (nmA s w))))) (1 : Int) then (1 : Int) + (↑(sumL (List.take (nmC s w) (List.drop (nmO s w) (List.take (nmO s w) (nmA s w) ++ (markR (List.take (nmC s w) (List.drop (nmO s w) (nmA s w))) (1 : Int) ++ List.drop (nmO s w + nmC s w) (nmA s w)))))) : Int) else (-1 : Int)) != (1 : Int) + (↑(sumL (List.take (nmC s w) (List.drop (nmO s w) (nmA s w)))) : Int))
 ((Bool.false = Bool.true) ∧
 (True))
 ((Bool.true = Bool.true) ∧
 (True))))))))))))))))))))))))))))))))))
theorem lNormal_vc (s : Int) (w : List Int) : runF Try.prog (gam lNormal_G) noWr noAnn Try.f3 (bodyOf Try.f3) [] [.agg [.int .i64 (s), .ints .i64 (w)]] (lNormal_p s w) = lNormal_V s w := by kernel_rfl
theorem lNormal_ok (s : Int) (w : List Int) (hpre : (lNormal_p s w).pre) : lNormal_V s w := by
  simp only [lNormal_p, lNormal_V, BrP_iff, true_and, and_true, decide_eq_true_eq, decide_eq_false_iff_not, bne_iff_ne, beq_iff_eq, bne_eq_false_iff_eq, beq_eq_false_iff_ne, Bool.not_eq_true, Bool.not_eq_false, Bool.not_true, Bool.not_false, Bool.not_eq_eq_eq_not, Int.toNat_natCast, List.length_append, List.length_take, List.length_replicate, List.length_set, List.length_map, List.length_drop, List.length_nil, List.length_cons, markL_length, inB, InR, room, bdsOk] at hpre ⊢
  obtain ⟨b1, b2, b3, b4, b5⟩ := nm_bd s w
  rw [cut_mark _ _ _ _ b1, cut_lens _ _ _ _ b1, nm_cut]
  refine ⟨⟨by omega, by omega, by omega⟩, fun _ => trivial, fun h => ?_⟩
  have hw : w.length ≤ 1048576 := by split at h <;> omega
  have c1 : w.length ≤ 1099511627776 := by omega
  have c2 : ¬ (1 + (w.length : Int) < 0) := by omega
  have c3 : ¬ (1 + (sumL (nmL s w) : Int) < 0) := by omega
  have c4 : ∀ x : Nat, min (nmC s w) x ≤ 1048576 := fun x => Nat.le_trans (Nat.min_le_left _ _) b2
  simp [b1, b2, b3, b4, b5, c1, c2, c3, c4, markL_length, markR_length, markR_sum, markR_mark]
theorem lNormal_fits : Fits Try.prog 3 ⟨[], lNormal_ct⟩ := by
  refine fits_fn (Γ := gam lNormal_G) (gok_cons szBraid_fits (gok_cons toBraid_fits (gok_cons eqBraid_fits (gok_cons markBraid_fits (gok_cons eqInt64SS_fits (gok_cons heldInt64SS_fits (gok_cons sNormal_fits (gok_cons iNormal_fits (gok_cons markCut_fits gok_nil))))))))) Try.func3 (by kernel_rfl) (by kernel_rfl) (by kernel_rfl) fun ds p h hp => ?_
  unfold lNormal_ct at h
  split at h
  · cases h
    exact ⟨noWr, noAnn, by rw [lNormal_vc]; exact lNormal_ok _ _  hp⟩
  · cases h

end Go.Sx
