/- RnkC RnkR -/
import Derived.Test.YtcfbmimjffkgdaaRnk
import Derived.Test.YtcfbmimjffkgdaaQb
import Derived.Test.YtcfbmimjffkgdaaSrt
section
open Go Go.Proofs
namespace Go.Sx
set_option linter.unusedSimpArgs false
set_option linter.unusedVariables false

/-- The place of the first number with p, counted from k; -1 if there is none. -/
def idxF (p : Int → Bool) : List Int → Int → Int
  | [], _ => -1
  | x :: l, k => if p x = true then k else idxF p l (k + 1)

theorem idxF_fs0 : ∀ (l : List Int) (k : Int), idxF (fun c => c != 0) l k = fs0 l k
  | [], _ => rfl
  | x :: l, k => by
    simp only [idxF, fs0, idxF_fs0 l (k + 1), bne_iff_ne]

def IndexFunc_p (l : List Int) (q : Int → Prop) (p : Int → Bool) : Post := ⟨room l.length ∧ ∀ x ∈ l, q x, .c (.int .i64 (idxF p l 0)), []⟩
def IndexFunc_ct : List AD → Option Post
  | [.c (.ints .i64 (l)), .fv (.ib q p)] => some (IndexFunc_p l q p)
  | _ => none
def IndexFunc_ann (l : List Int) (q : Int → Prop) (p : Int → Bool) : Nat → Option Ann
  | 0 => some (Ann.mk ((Nat)) (fun i => ⟨[(0, .c (.ro (.ints .i64 (l)))), (1, .fv (.ib q p)), (7, .c (.int .i64 ((l.length : Int)))), (8, .c (.int .i64 ((i : Int))))], []⟩) (fun i => i ≤ l.length ∧ idxF p l 0 = idxF p (l.drop i) (i : Int)) (fun i => l.length - i) (fun _ => noAnn))
  | _ => none
def IndexFunc_G : List (Nat × Ctr) := []
def IndexFunc_V (l : List Int) (q : Int → Prop) (p : Int → Bool) : Prop :=
  ((∃ x0 : Nat, (((x0 ≤ List.length l) ∧
 (idxF p l (0 : Int) = idxF p (List.drop x0 l) (↑x0 : Int))) ∧
 ((l = l) ∧
 ((FV.ib q p = FV.ib q p) ∧
 (((↑(List.length l) : Int) = (↑(List.length l) : Int)) ∧
 ((0 : Int) = (↑x0 : Int))))))) ∧
 (∀ x1 : Nat, (((x1 ≤ List.length l) ∧
 (idxF p l (0 : Int) = idxF p (List.drop x1 l) (↑x1 : Int))) →
 (BrP (Decidable.decide ((↑x1 : Int) < (↑(List.length l) : Int)))
 ((inB (↑x1 : Int) (List.length l)) ∧
 ((q (List.getD l (Int.toNat (↑x1 : Int)) (0 : Int))) ∧
 (BrP (p (List.getD l (Int.toNat (↑x1 : Int)) (0 : Int)))
 (((↑x1 : Int) = idxF p l (0 : Int)) ∧
 (True))
 ((InR ((↑x1 : Int) + (1 : Int))) ∧
 (∃ x2 : Nat, (((x2 ≤ List.length l) ∧
 (idxF p l (0 : Int) = idxF p (List.drop x2 l) (↑x2 : Int))) ∧
 ((List.length l - x2 < List.length l - x1) ∧
 ((l = l) ∧
 ((FV.ib q p = FV.ib q p) ∧
 (((↑(List.length l) : Int) = (↑(List.length l) : Int)) ∧
 ((↑x1 : Int) + (1 : Int) = (↑x2 : Int))))))))))))
 (((-1 : Int) = idxF p l (0 : Int)) ∧
 (True))))))
theorem IndexFunc_vc (l : List Int) (q : Int → Prop) (p : Int → Bool) : runF Try.prog (gam IndexFunc_G) noWr (IndexFunc_ann l q p) Try.f133 (bodyOf Try.f133) [] [.c (.ints .i64 (l)), .fv (.ib q p)] (IndexFunc_p l q p) = IndexFunc_V l q p := by kernel_rfl
theorem IndexFunc_ok (l : List Int) (q : Int → Prop) (p : Int → Bool) (hpre : (IndexFunc_p l q p).pre) : IndexFunc_V l q p := by
  simp only [IndexFunc_p, IndexFunc_V, BrP_iff, true_and, and_true, decide_eq_true_eq, decide_eq_false_iff_not, bne_iff_ne, beq_iff_eq, bne_eq_false_iff_eq, beq_eq_false_iff_ne, Bool.not_eq_true, Bool.not_eq_false, Bool.not_true, Bool.not_false, Bool.not_eq_eq_eq_not, Int.toNat_natCast, List.length_append, List.length_take, List.length_replicate, List.length_set, List.length_map, List.length_drop, List.length_nil, List.length_cons, markL_length, inB, InR, room, bdsOk] at hpre ⊢
  obtain ⟨hl, hq⟩ := hpre
  refine ⟨⟨0, ⟨by omega, rfl⟩, rfl⟩, fun i ⟨hi, he⟩ => ⟨fun h => ?_, fun h => ?_⟩⟩
  · rw [drop_cons' l 0 i (by omega)] at he
    simp only [idxF] at he
    refine ⟨by omega, hq _ (getD_mem l 0 i (by omega)), fun h1 => ?_, fun h1 => ⟨by omega, i + 1, ⟨by omega, ?_⟩, by omega, by omega⟩⟩
    · rw [he, if_pos h1]
    · rw [he, if_neg (by rw [h1]; exact Bool.false_ne_true)]; simp
  · rw [he, List.drop_of_length_le (by omega)]; rfl
theorem IndexFunc_fits : Fits Try.prog 133 ⟨[], IndexFunc_ct⟩ := by
  refine fits_fn (Γ := gam IndexFunc_G) gok_nil Try.func133 (by kernel_rfl) (by kernel_rfl) (by kernel_rfl) fun ds p h hp => ?_
  unfold IndexFunc_ct at h
  split at h
  · cases h
    exact ⟨noWr, IndexFunc_ann _ _ _ , by rw [IndexFunc_vc]; exact IndexFunc_ok _ _ _  hp⟩
  · cases h

def leading1_p (x : Int) : Post := ⟨True, .c (.bool (x != 0)), []⟩
def leading1_ct : List AD → Option Post
  | [.c (.int .i64 (x))] => some (leading1_p x)
  | _ => none
def leading1_G : List (Nat × Ctr) := []
def leading1_V (x : Int) : Prop :=
  (((x != (0 : Int)) = (x != (0 : Int))) ∧
 (True))
theorem leading1_vc (x : Int) : runF Try.prog (gam leading1_G) noWr noAnn Try.f134 (bodyOf Try.f134) [] [.c (.int .i64 (x))] (leading1_p x) = leading1_V x := by kernel_rfl
theorem leading1_ok (x : Int) (hpre : (leading1_p x).pre) : leading1_V x := by
  simp only [leading1_p, leading1_V, BrP_iff, true_and, and_true, decide_eq_true_eq, decide_eq_false_iff_not, bne_iff_ne, beq_iff_eq, bne_eq_false_iff_eq, beq_eq_false_iff_ne, Bool.not_eq_true, Bool.not_eq_false, Bool.not_true, Bool.not_false, Bool.not_eq_eq_eq_not, Int.toNat_natCast, List.length_append, List.length_take, List.length_replicate, List.length_set, List.length_map, List.length_drop, List.length_nil, List.length_cons, markL_length, inB, InR, room, bdsOk] at hpre ⊢
theorem leading1_fits : Fits Try.prog 134 ⟨[], leading1_ct⟩ := by
  refine fits_fn (Γ := gam leading1_G) gok_nil Try.func134 (by kernel_rfl) (by kernel_rfl) (by kernel_rfl) fun ds p h hp => ?_
  unfold leading1_ct at h
  split at h
  · cases h
    exact ⟨noWr, noAnn, by rw [leading1_vc]; exact leading1_ok _  hp⟩
  · cases h

def leading_p (l : List Int) : Post := ⟨l.length ≤ 1000, .c (.int .i64 (ldF l)), []⟩
def leading_ct : List AD → Option Post
  | [.c (.ints .i64 (l))] => some (leading_p l)
  | _ => none
def leading_G : List (Nat × Ctr) := [(133, ⟨[], IndexFunc_ct⟩), (134, ⟨[], leading1_ct⟩)]
def leading_V (l : List Int) : Prop :=
  ((((room (List.length l)) ∧
 (∀ (x : Int), x ∈ l → True)) ∧
 (True)) ∧
 ((idxF (fun (x : Int) => x != (0 : Int)) l (0 : Int) = ldF l) ∧
 (True)))
theorem leading_vc (l : List Int) : runF Try.prog (gam leading_G) noWr noAnn Try.f105 (bodyOf Try.f105) [] [.c (.ints .i64 (l))] (leading_p l) = leading_V l := by kernel_rfl
theorem leading_ok (l : List Int) (hpre : (leading_p l).pre) : leading_V l := by
  simp only [leading_p, leading_V, BrP_iff, true_and, and_true, decide_eq_true_eq, decide_eq_false_iff_not, bne_iff_ne, beq_iff_eq, bne_eq_false_iff_eq, beq_eq_false_iff_ne, Bool.not_eq_true, Bool.not_eq_false, Bool.not_true, Bool.not_false, Bool.not_eq_eq_eq_not, Int.toNat_natCast, List.length_append, List.length_take, List.length_replicate, List.length_set, List.length_map, List.length_drop, List.length_nil, List.length_cons, markL_length, inB, InR, room, bdsOk] at hpre ⊢
  exact ⟨⟨by omega, fun _ _ => trivial⟩, idxF_fs0 l 0⟩
theorem leading_fits : Fits Try.prog 105 ⟨[], leading_ct⟩ := by
  refine fits_fn (Γ := gam leading_G) (gok_cons IndexFunc_fits (gok_cons leading1_fits gok_nil)) Try.func105 (by kernel_rfl) (by kernel_rfl) (by kernel_rfl) fun ds p h hp => ?_
  unfold leading_ct at h
  split at h
  · cases h
    exact ⟨noWr, noAnn, by rw [leading_vc]; exact leading_ok _  hp⟩
  · cases h



/-- Two rows modulo p. -/
def twR (p : Int) (a b : List Int) : Prop := 2 ≤ p ∧ p ≤ 7 ∧ inP p a ∧ inP p b ∧ a.length = b.length ∧ a.length ≤ 1000

theorem mul_le7 {x y : Int} (h1 : 0 ≤ x ∧ x ≤ 7) (h2 : 0 ≤ y ∧ y ≤ 7) : 0 ≤ x * y ∧ x * y ≤ 49 :=
  ⟨Int.mul_nonneg h1.1 h2.1, by
    have a := Int.mul_le_mul_of_nonneg_right h1.2 h2.1
    omega⟩

def addRow_p (p : Int) (a : List Int) (b : List Int) (m : Int) : Post := ⟨twR p a b ∧ 0 ≤ m ∧ m ≤ 7, .tup [], [.ints 2 .i64 (stF p m b a)]⟩
def addRow_ct : List AD → Option Post
  | [.c (.int .i64 (p)), .c (.ints .i64 (a)), .c (.ints .i64 (b)), .c (.int .i64 (m))] => some (addRow_p p a b m)
  | _ => none
def addRow_ann (p : Int) (a : List Int) (b : List Int) (m : Int) : Nat → Option Ann
  | 0 => some (Ann.mk ((Nat)) (fun i => ⟨[(0, .c (.int .i64 (p))), (1, .c (.own (716))), (3, .c (.int .i64 (m))), (10, .c (.ro (.ints .i64 (b)))), (11, .c (.int .i64 ((b.length : Int)))), (12, .c (.int .i64 ((i : Int))))], [(716, some (.ints 2 .i64 ((stF p m b a).take i ++ a.drop i)))]⟩) (fun i => i ≤ b.length) (fun i => b.length - i) (fun _ => noAnn))
  | _ => none
def addRow_G : List (Nat × Ctr) := []
def addRow_V (p : Int) (a : List Int) (b : List Int) (m : Int) : Prop :=
  ((∃ x0 : Nat, ((x0 ≤ List.length b) ∧
 ((p = p) ∧
 ((m = m) ∧
 ((b = b) ∧
 (((↑(List.length b) : Int) = (↑(List.length b) : Int)) ∧
 (((0 : Int) = (↑x0 : Int)) ∧
 (a = List.take x0 (stF p m b a) ++ List.drop x0 a)))))))) ∧
 (∀ x1 : Nat, ((x1 ≤ List.length b) →
 (BrP (Decidable.decide ((↑x1 : Int) < (↑(List.length b) : Int)))
 ((inB (↑x1 : Int) (List.length b)) ∧
 ((inB (↑x1 : Int) (List.length (List.take x1 (stF p m b a) ++ List.drop x1 a))) ∧
 ((InR (m * List.getD b (Int.toNat (↑x1 : Int)) (0 : Int))) ∧
 ((InR (List.getD (List.take x1 (stF p m b a) ++ List.drop x1 a) (Int.toNat (↑x1 : Int)) (0 : Int) + m * List.getD b (Int.toNat (↑x1 : Int)) (0 : Int))) ∧
 ((p ≠ (0 : Int)) ∧
 ((inB (↑x1 : Int) (List.length (List.take x1 (stF p m b a) ++ List.drop x1 a))) ∧
 ((InR ((↑x1 : Int) + (1 : Int))) ∧
 (∃ x2 : Nat, ((x2 ≤ List.length b) ∧
 ((List.length b - x2 < List.length b - x1) ∧
 ((p = p) ∧
 ((m = m) ∧
 ((b = b) ∧
 (((↑(List.length b) : Int) = (↑(List.length b) : Int)) ∧
 (((↑x1 : Int) + (1 : Int) = (↑x2 : Int)) ∧
 (List.set (List.take x1 (stF p m b a) ++ List.drop x1 a) (Int.toNat (↑x1 : Int)) (Int.tmod (List.getD (List.take x1 (stF p m b a) ++ List.drop x1 a) (Int.toNat (↑x1 : Int)) (0 : Int) + m * List.getD b (Int.toNat (↑x1 : Int)) (0 : Int)) p) = List.take x2 (stF p m b a) ++ List.drop x2 a))))))))))))))))
 ((True) ∧
 ((List.take x1 (stF p m b a) ++ List.drop x1 a = stF p m b a) ∧
 (True)))))))
theorem addRow_vc (p : Int) (a : List Int) (b : List Int) (m : Int) : runF Try.prog (gam addRow_G) noWr (addRow_ann p a b m) Try.f107 (bodyOf Try.f107) [(1, 0)] [.c (.int .i64 (p)), .c (.ints .i64 (a)), .c (.ints .i64 (b)), .c (.int .i64 (m))] (addRow_p p a b m) = addRow_V p a b m := by kernel_rfl
theorem addRow_ok (p : Int) (a : List Int) (b : List Int) (m : Int) (hpre : (addRow_p p a b m).pre) : addRow_V p a b m := by
  simp only [addRow_p, addRow_V, BrP_iff, true_and, and_true, decide_eq_true_eq, decide_eq_false_iff_not, bne_iff_ne, beq_iff_eq, bne_eq_false_iff_eq, beq_eq_false_iff_ne, Bool.not_eq_true, Bool.not_eq_false, Bool.not_true, Bool.not_false, Bool.not_eq_eq_eq_not, Int.toNat_natCast, List.length_append, List.length_take, List.length_replicate, List.length_set, List.length_map, List.length_drop, List.length_nil, List.length_cons, markL_length, inB, InR, room, bdsOk] at hpre ⊢
  obtain ⟨⟨p2, p7, ha, hb, hl, h1⟩, m0, m7⟩ := hpre
  have sl := stF_length p m b a
  refine ⟨⟨0, by omega, rfl, by simp⟩, fun i hi => ⟨fun h => ?_, fun h => by rw [List.take_of_length_le (by omega), List.drop_of_length_le (by omega), List.append_nil]⟩⟩
  have tl : ((stF p m b a).take i).length = i := by rw [List.length_take]; omega
  have x := ha i (by omega)
  have y := hb i (by omega)
  have z := mul_le7 ⟨m0, m7⟩ (show 0 ≤ b.getD i 0 ∧ b.getD i 0 ≤ 7 by omega)
  rw [drop_cons' a 0 i (by omega), at_getD _ _ _ _ _ tl, at_set _ _ _ _ _ tl]
  refine ⟨by omega, by omega, by omega, by omega, by omega, by omega, by omega, i + 1, by omega, by omega, by omega, ?_⟩
  rw [← take_snoc (stF p m b a) 0 i (by omega), stF_get (by omega), List.append_assoc]; rfl
theorem addRow_fits : Fits Try.prog 107 ⟨[(1, 0)], addRow_ct⟩ := by
  refine fits_fn (Γ := gam addRow_G) gok_nil Try.func107 (by kernel_rfl) (by kernel_rfl) (by kernel_rfl) fun ds p h hp => ?_
  unfold addRow_ct at h
  split at h
  · cases h
    exact ⟨noWr, addRow_ann _ _ _ _ , by rw [addRow_vc]; exact addRow_ok _ _ _ _  hp⟩
  · cases h



def scaleRow_p (p : Int) (r : List Int) (m : Int) : Post := ⟨2 ≤ p ∧ p ≤ 7 ∧ inP p r ∧ r.length ≤ 1000 ∧ 0 ≤ m ∧ m ≤ 7, .tup [], [.ints 2 .i64 (scF p m r)]⟩
def scaleRow_ct : List AD → Option Post
  | [.c (.int .i64 (p)), .c (.ints .i64 (r)), .c (.int .i64 (m))] => some (scaleRow_p p r m)
  | _ => none
def scaleRow_ann (p : Int) (r : List Int) (m : Int) : Nat → Option Ann
  | 0 => some (Ann.mk ((Nat)) (fun i => ⟨[(0, .c (.int .i64 (p))), (1, .c (.own (716))), (2, .c (.int .i64 (m))), (8, .c (.int .i64 ((r.length : Int)))), (9, .c (.int .i64 ((i : Int))))], [(716, some (.ints 2 .i64 ((scF p m r).take i ++ r.drop i)))]⟩) (fun i => i ≤ r.length) (fun i => r.length - i) (fun _ => noAnn))
  | _ => none
def scaleRow_G : List (Nat × Ctr) := []
def scaleRow_V (p : Int) (r : List Int) (m : Int) : Prop :=
  ((∃ x0 : Nat, ((x0 ≤ List.length r) ∧
 ((p = p) ∧
 ((m = m) ∧
 (((↑(List.length r) : Int) = (↑(List.length r) : Int)) ∧
 (((0 : Int) = (↑x0 : Int)) ∧
 (r = List.take x0 (scF p m r) ++ List.drop x0 r))))))) ∧
 (∀ x1 : Nat, ((x1 ≤ List.length r) →
 (BrP (Decidable.decide ((↑x1 : Int) < (↑(List.length r) : Int)))
 ((inB (↑x1 : Int) (List.length (List.take x1 (scF p m r) ++ List.drop x1 r))) ∧
 ((InR (List.getD (List.take x1 (scF p m r) ++ List.drop x1 r) (Int.toNat (↑x1 : Int)) (0 : Int) * m)) ∧
 ((p ≠ (0 : Int)) ∧
 ((inB (↑x1 : Int) (List.length (List.take x1 (scF p m r) ++ List.drop x1 r))) ∧
 ((InR ((↑x1 : Int) + (1 : Int))) ∧
 (∃ x2 : Nat, ((x2 ≤ List.length r) ∧
 ((List.length r - x2 < List.length r - x1) ∧
 ((p = p) ∧
 ((m = m) ∧
 (((↑(List.length r) : Int) = (↑(List.length r) : Int)) ∧
 (((↑x1 : Int) + (1 : Int) = (↑x2 : Int)) ∧
 (List.set (List.take x1 (scF p m r) ++ List.drop x1 r) (Int.toNat (↑x1 : Int)) (Int.tmod (List.getD (List.take x1 (scF p m r) ++ List.drop x1 r) (Int.toNat (↑x1 : Int)) (0 : Int) * m) p) = List.take x2 (scF p m r) ++ List.drop x2 r)))))))))))))
 ((True) ∧
 ((List.take x1 (scF p m r) ++ List.drop x1 r = scF p m r) ∧
 (True)))))))
theorem scaleRow_vc (p : Int) (r : List Int) (m : Int) : runF Try.prog (gam scaleRow_G) noWr (scaleRow_ann p r m) Try.f108 (bodyOf Try.f108) [(1, 0)] [.c (.int .i64 (p)), .c (.ints .i64 (r)), .c (.int .i64 (m))] (scaleRow_p p r m) = scaleRow_V p r m := by kernel_rfl
theorem scaleRow_ok (p : Int) (r : List Int) (m : Int) (hpre : (scaleRow_p p r m).pre) : scaleRow_V p r m := by
  simp only [scaleRow_p, scaleRow_V, BrP_iff, true_and, and_true, decide_eq_true_eq, decide_eq_false_iff_not, bne_iff_ne, beq_iff_eq, bne_eq_false_iff_eq, beq_eq_false_iff_ne, Bool.not_eq_true, Bool.not_eq_false, Bool.not_true, Bool.not_false, Bool.not_eq_eq_eq_not, Int.toNat_natCast, List.length_append, List.length_take, List.length_replicate, List.length_set, List.length_map, List.length_drop, List.length_nil, List.length_cons, markL_length, inB, InR, room, bdsOk] at hpre ⊢
  obtain ⟨p2, p7, hr, h1, m0, m7⟩ := hpre
  have sl : (scF p m r).length = r.length := tab_length _ _
  refine ⟨⟨0, by omega, rfl, by simp⟩, fun i hi => ⟨fun h => ?_, fun h => by rw [List.take_of_length_le (by omega), List.drop_of_length_le (by omega), List.append_nil]⟩⟩
  have tl : ((scF p m r).take i).length = i := by rw [List.length_take]; omega
  have x := hr i (by omega)
  have z := mul_le7 (show 0 ≤ r.getD i 0 ∧ r.getD i 0 ≤ 7 by omega) ⟨m0, m7⟩
  rw [drop_cons' r 0 i (by omega), at_getD _ _ _ _ _ tl, at_set _ _ _ _ _ tl]
  refine ⟨by omega, by omega, by omega, by omega, by omega, i + 1, by omega, by omega, by omega, ?_⟩
  rw [← take_snoc (scF p m r) 0 i (by omega), scF_get (by omega), List.append_assoc]; rfl
theorem scaleRow_fits : Fits Try.prog 108 ⟨[(1, 0)], scaleRow_ct⟩ := by
  refine fits_fn (Γ := gam scaleRow_G) gok_nil Try.func108 (by kernel_rfl) (by kernel_rfl) (by kernel_rfl) fun ds p h hp => ?_
  unfold scaleRow_ct at h
  split at h
  · cases h
    exact ⟨noWr, scaleRow_ann _ _ _ , by rw [scaleRow_vc]; exact scaleRow_ok _ _ _  hp⟩
  · cases h

def inverseModulo_p (p : Int) (a : Int) : Post := ⟨primeB p = true ∧ 1 ≤ a ∧ a ≤ p - 1, .c (.int .i64 (ivM p a)), []⟩
def inverseModulo_ct : List AD → Option Post
  | [.c (.int .i64 (p)), .c (.int .i64 (a))] => some (inverseModulo_p p a)
  | _ => none
def inverseModulo_ann (p : Int) (a : Int) : Nat → Option Ann
  | 0 => some (Ann.mk ((Nat)) (fun b => ⟨[(0, .c (.int .i64 (p))), (1, .c (.int .i64 (a))), (5, .c (.int .i64 ((b : Int))))], []⟩) (fun b => 1 ≤ b ∧ b ≤ 6 ∧ ivM p a = srI p a b (7 - b)) (fun b => 7 - b) (fun _ => noAnn))
  | _ => none
def inverseModulo_G : List (Nat × Ctr) := []
def inverseModulo_V (p : Int) (a : Int) : Prop :=
  ((∃ x0 : Nat, ((((1 : Nat) ≤ x0) ∧
 ((x0 ≤ (6 : Nat)) ∧
 (ivM p a = srI p a x0 ((7 : Nat) - x0)))) ∧
 ((p = p) ∧
 ((a = a) ∧
 ((1 : Int) = (↑x0 : Int)))))) ∧
 (∀ x1 : Nat, ((((1 : Nat) ≤ x1) ∧
 ((x1 ≤ (6 : Nat)) ∧
 (ivM p a = srI p a x1 ((7 : Nat) - x1)))) →
 ((InR (a * (↑x1 : Int))) ∧
 ((p ≠ (0 : Int)) ∧
 (BrP (Int.tmod (a * (↑x1 : Int)) p != (1 : Int))
 ((InR ((↑x1 : Int) + (1 : Int))) ∧
 (∃ x2 : Nat, ((((1 : Nat) ≤ x2) ∧
 ((x2 ≤ (6 : Nat)) ∧
 (ivM p a = srI p a x2 ((7 : Nat) - x2)))) ∧
 (((7 : Nat) - x2 < (7 : Nat) - x1) ∧
 ((p = p) ∧
 ((a = a) ∧
 ((↑x1 : Int) + (1 : Int) = (↑x2 : Int))))))))
 (((↑x1 : Int) = ivM p a) ∧
 (True))))))))
theorem inverseModulo_vc (p : Int) (a : Int) : runF Try.prog (gam inverseModulo_G) noWr (inverseModulo_ann p a) Try.f109 (bodyOf Try.f109) [] [.c (.int .i64 (p)), .c (.int .i64 (a))] (inverseModulo_p p a) = inverseModulo_V p a := by kernel_rfl
theorem inverseModulo_ok (p : Int) (a : Int) (hpre : (inverseModulo_p p a).pre) : inverseModulo_V p a := by
  simp only [inverseModulo_p, inverseModulo_V, BrP_iff, true_and, and_true, decide_eq_true_eq, decide_eq_false_iff_not, bne_iff_ne, beq_iff_eq, bne_eq_false_iff_eq, beq_eq_false_iff_ne, Bool.not_eq_true, Bool.not_eq_false, Bool.not_true, Bool.not_false, Bool.not_eq_eq_eq_not, Int.toNat_natCast, List.length_append, List.length_take, List.length_replicate, List.length_set, List.length_map, List.length_drop, List.length_nil, List.length_cons, markL_length, inB, InR, room, bdsOk] at hpre ⊢
  obtain ⟨hp, a1, a2⟩ := hpre
  obtain ⟨p2, p7⟩ := primeB_le hp
  obtain ⟨v1, v2, v3⟩ := ivM_ok hp a1 a2
  refine ⟨⟨1, ⟨by omega, by omega, rfl⟩, rfl⟩, fun b ⟨b1, b2, be⟩ => ?_⟩
  have z := mul_le7 (show 0 ≤ a ∧ a ≤ 7 by omega) (show 0 ≤ (b : Int) ∧ (b : Int) ≤ 7 by omega)
  have st : srI p a b (7 - b) = if (a * (b : Int)).tmod p = 1 then (b : Int) else srI p a (b + 1) (7 - (b + 1)) := by
    rw [show 7 - b = (7 - (b + 1)) + 1 by omega]; rfl
  refine ⟨by omega, by omega, fun h => ?_, fun h => by rw [be, st, if_pos h]⟩
  rw [st, if_neg h] at be
  refine ⟨by omega, b + 1, ⟨by omega, ?_, be⟩, by omega, by omega⟩
  refine Classical.byContradiction fun hc => ?_
  rw [show 7 - (b + 1) = 0 by omega] at be
  have : ivM p a = 0 := be
  omega
theorem inverseModulo_fits : Fits Try.prog 109 ⟨[], inverseModulo_ct⟩ := by
  refine fits_fn (Γ := gam inverseModulo_G) gok_nil Try.func109 (by kernel_rfl) (by kernel_rfl) (by kernel_rfl) fun ds p h hp => ?_
  unfold inverseModulo_ct at h
  split at h
  · cases h
    exact ⟨noWr, inverseModulo_ann _ _ , by rw [inverseModulo_vc]; exact inverseModulo_ok _ _  hp⟩
  · cases h



theorem rk_facts {t : List (List Int)} {k : Int} (h1 : tabB t = true) (hd : degB (t.length : Int) k = true) : 0 ≤ k ∧ k ≤ 1000 ∧ t.length ^ k.toNat ≤ 512 ∧ (t.length : Int) ^ k.toNat = ((t.length ^ k.toNat : Nat) : Int) ∧ 1 ≤ t.length ^ k.toNat := by
  have d := degB_of hd
  have hn := (tabB_of h1).1
  have e : (t.length : Int) ^ k.toNat = ((t.length ^ k.toNat : Nat) : Int) := (Int.natCast_pow _ _).symm
  rw [e] at d
  exact ⟨d.1, d.2.1, by omega, e, Nat.pow_pos (by omega)⟩

end Go.Sx
end

section
open Go Go.Proofs
namespace Go.Sx
set_option linter.unusedSimpArgs false
set_option linter.unusedVariables false

/-- The row i, made 0 at the pivots; and times the inverse of its first number. -/
def rdR (p : Int) (R : List (List Int)) (i : Nat) : List Int := redN p (imN p R i) (ldN (imN p R i)) (R.getD i []) (imN p R i).length
def nrR (p : Int) (R : List (List Int)) (i : Nat) : List Int := scF p (ivM p ((rdR p R i).getD (ldF (rdR p R i)).toNat 0)) (rdR p R i)

theorem imN_len (p : Int) (R : List (List Int)) : ∀ i, (imN p R i).length ≤ i
  | 0 => Nat.le_refl _
  | i + 1 => by
    have := imN_len p R i
    simp only [imN]
    split
    · omega
    · simp; omega

theorem upd_get (f : List Int → List Int) (B : List (List Int)) {k : Nat} (h : k < B.length) : ((B.take k).map f ++ B.drop k).getD k [] = B.getD k [] := by
  rw [drop_cons' B [] k h]
  exact at_getD _ _ _ _ _ (by rw [List.length_map, List.length_take]; omega)

theorem upd_set (f : List Int → List Int) (B : List (List Int)) {k : Nat} (h : k < B.length) : ((B.take k).map f ++ B.drop k).set k (f (B.getD k [])) = (B.take (k + 1)).map f ++ B.drop (k + 1) := by
  rw [drop_cons' B [] k h, at_set _ _ _ _ _ (by rw [List.length_map, List.length_take]; omega), take_row B h, List.map_append, List.append_assoc]; rfl

theorem set_self (l : List (List Int)) (k : Nat) : l.set k (l.getD k []) = l := by
  apply List.ext_getElem?
  intro j
  rw [List.getElem?_set]
  split
  · rename_i e; subst e
    split
    · rename_i h; simp [List.getD, h]
    · rename_i h; rw [List.getElem?_eq_none (by omega)]
  · rfl

def reducedRows_p (p : Int) (R : List (List Int)) : Post := ⟨primeB p = true ∧ (∃ N, rwsP p N R ∧ 1 ≤ N ∧ N ≤ 512) ∧ R.length ≤ 512, .c (.rows 46 2 .i64 (srtL (imN p R R.length))), []⟩
def reducedRows_ct : List AD → Option Post
  | [.c (.int .i64 (p)), .c (.rows .i64 (R))] => some (reducedRows_p p R)
  | _ => none
def reducedRows_ann (p : Int) (R : List (List Int)) : Nat → Option Ann
  | 0 => some (Ann.mk ((Nat)) (fun i => ⟨[(0, .c (.int .i64 (p))), (5, .c (.own (100))), (16, .c (.ro (.rows .i64 (R)))), (17, .c (.int .i64 ((R.length : Int)))), (18, .c (.int .i64 ((i : Int))))], [(100, some (.rows 0 46 2 .i64 (imN p R i)))]⟩) (fun i => i ≤ R.length) (fun i => R.length - i) (fun i => fun b_ => match b_ with | 2 => some (Ann.mk ((Nat)) (fun j => ⟨[(0, .c (.int .i64 (p))), (5, .c (.own (100))), (16, .c (.ro (.rows .i64 (R)))), (17, .c (.int .i64 ((R.length : Int)))), (18, .c (.int .i64 ((i : Int)))), (8, .c (.own (101))), (24, .c (.own (100))), (25, .c (.int .i64 (((imN p R i).length : Int)))), (26, .c (.int .i64 ((j : Int))))], [(100, some (.rows 0 46 2 .i64 (imN p R i))), (101, some (.ints 2 .i64 (redN p (imN p R i) (ldN (imN p R i)) (R.getD i []) j)))]⟩) (fun j => j ≤ (imN p R i).length ∧ i < R.length) (fun j => (imN p R i).length - j) (fun _ => noAnn)) | 4 => some (Ann.mk ((Nat)) (fun j => ⟨[(0, .c (.int .i64 (p))), (5, .c (.own (100))), (16, .c (.ro (.rows .i64 (R)))), (17, .c (.int .i64 ((R.length : Int)))), (18, .c (.int .i64 ((i : Int)))), (8, .c (.own (101))), (12, .c (.int .i64 (ldF (rdR p R i)))), (58, .c (.own (100))), (59, .c (.int .i64 (((imN p R i).length : Int)))), (60, .c (.int .i64 ((j : Int))))], [(100, some (.rows 0 46 2 .i64 (((imN p R i).take j).map (upR p (nrR p R i) (ldF (rdR p R i)).toNat) ++ (imN p R i).drop j))), (101, some (.ints 2 .i64 (nrR p R i)))]⟩) (fun j => j ≤ (imN p R i).length ∧ i < R.length ∧ 0 ≤ ldF (rdR p R i)) (fun j => (imN p R i).length - j) (fun _ => noAnn)) | _ => none))
  | _ => none
def reducedRows_G : List (Nat × Ctr) := [(106, ⟨[], Clone_ct⟩), (105, ⟨[], leading_ct⟩), (107, ⟨[(1, 0)], addRow_ct⟩), (109, ⟨[], inverseModulo_ct⟩), (108, ⟨[(1, 0)], scaleRow_ct⟩), (110, ⟨[(0,97),(0,97)], sSort_ct⟩)]
def reducedRows_V (p : Int) (R : List (List Int)) : Prop :=
  ((∃ x0 : Nat, ((x0 ≤ List.length R) ∧
 ((p = p) ∧
 ((R = R) ∧
 (((↑(List.length R) : Int) = (↑(List.length R) : Int)) ∧
 (((0 : Int) = (↑x0 : Int)) ∧
 (imN p R x0 = []))))))) ∧
 (∀ x1 : Nat, ((x1 ≤ List.length R) →
 (BrP (Decidable.decide ((↑x1 : Int) < (↑(List.length R) : Int)))
 ((inB (↑x1 : Int) (List.length R)) ∧
 ((((List.length (List.getD R (Int.toNat (↑x1 : Int)) []) ≠ (0 : Nat)) ∧
 (room (List.length (List.getD R (Int.toNat (↑x1 : Int)) [])))) ∧
 (True)) ∧
 ((∃ x2 : Nat, (((x2 ≤ List.length (imN p R x1)) ∧
 (x1 < List.length R)) ∧
 ((p = p) ∧
 ((R = R) ∧
 (((↑(List.length R) : Int) = (↑(List.length R) : Int)) ∧
 (((↑x1 : Int) = (↑x1 : Int)) ∧
 (((↑(List.length (imN p R x1)) : Int) = (↑(List.length (imN p R x1)) : Int)) ∧
 (((0 : Int) = (↑x2 : Int)) ∧
 ((imN p R x1 = imN p R x1) ∧
 (List.getD R (Int.toNat (↑x1 : Int)) [] = redN p (imN p R x1) (ldN (imN p R x1)) (List.getD R x1 []) x2)))))))))) ∧
 (∀ x3 : Nat, (((x3 ≤ List.length (imN p R x1)) ∧
 (x1 < List.length R)) →
 (BrP (Decidable.decide ((↑x3 : Int) < (↑(List.length (imN p R x1)) : Int)))
 ((inB (↑x3 : Int) (List.length (imN p R x1))) ∧
 (((List.length (List.getD (imN p R x1) (Int.toNat (↑x3 : Int)) []) ≤ (1000 : Nat)) ∧
 (True)) ∧
 ((inB (ldF (List.getD (imN p R x1) (Int.toNat (↑x3 : Int)) [])) (List.length (redN p (imN p R x1) (ldN (imN p R x1)) (List.getD R x1 []) x3))) ∧
 (BrP (List.getD (redN p (imN p R x1) (ldN (imN p R x1)) (List.getD R x1 []) x3) (Int.toNat (ldF (List.getD (imN p R x1) (Int.toNat (↑x3 : Int)) []))) (0 : Int) != (0 : Int))
 ((InR (p - List.getD (redN p (imN p R x1) (ldN (imN p R x1)) (List.getD R x1 []) x3) (Int.toNat (ldF (List.getD (imN p R x1) (Int.toNat (↑x3 : Int)) []))) (0 : Int))) ∧
 ((((twR p (redN p (imN p R x1) (ldN (imN p R x1)) (List.getD R x1 []) x3) (List.getD (imN p R x1) (Int.toNat (↑x3 : Int)) [])) ∧
 (((0 : Int) ≤ p - List.getD (redN p (imN p R x1) (ldN (imN p R x1)) (List.getD R x1 []) x3) (Int.toNat (ldF (List.getD (imN p R x1) (Int.toNat (↑x3 : Int)) []))) (0 : Int)) ∧
 (p - List.getD (redN p (imN p R x1) (ldN (imN p R x1)) (List.getD R x1 []) x3) (Int.toNat (ldF (List.getD (imN p R x1) (Int.toNat (↑x3 : Int)) []))) (0 : Int) ≤ (7 : Int)))) ∧
 ((List.length (stF p (p - List.getD (redN p (imN p R x1) (ldN (imN p R x1)) (List.getD R x1 []) x3) (Int.toNat (ldF (List.getD (imN p R x1) (Int.toNat (↑x3 : Int)) []))) (0 : Int)) (List.getD (imN p R x1) (Int.toNat (↑x3 : Int)) []) (redN p (imN p R x1) (ldN (imN p R x1)) (List.getD R x1 []) x3)) = List.length (redN p (imN p R x1) (ldN (imN p R x1)) (List.getD R x1 []) x3)) ∧
 (True))) ∧
 ((InR ((↑x3 : Int) + (1 : Int))) ∧
 (∃ x4 : Nat, (((x4 ≤ List.length (imN p R x1)) ∧
 (x1 < List.length R)) ∧
 ((List.length (imN p R x1) - x4 < List.length (imN p R x1) - x3) ∧
 ((p = p) ∧
 ((R = R) ∧
 (((↑(List.length R) : Int) = (↑(List.length R) : Int)) ∧
 (((↑x1 : Int) = (↑x1 : Int)) ∧
 (((↑(List.length (imN p R x1)) : Int) = (↑(List.length (imN p R x1)) : Int)) ∧
 (((↑x3 : Int) + (1 : Int) = (↑x4 : Int)) ∧
 ((imN p R x1 = imN p R x1) ∧
 (stF p (p - List.getD (redN p (imN p R x1) (ldN (imN p R x1)) (List.getD R x1 []) x3) (Int.toNat (ldF (List.getD (imN p R x1) (Int.toNat (↑x3 : Int)) []))) (0 : Int)) (List.getD (imN p R x1) (Int.toNat (↑x3 : Int)) []) (redN p (imN p R x1) (ldN (imN p R x1)) (List.getD R x1 []) x3) = redN p (imN p R x1) (ldN (imN p R x1)) (List.getD R x1 []) x4))))))))))))))
 ((InR ((↑x3 : Int) + (1 : Int))) ∧
 (∃ x5 : Nat, (((x5 ≤ List.length (imN p R x1)) ∧
 (x1 < List.length R)) ∧
 ((List.length (imN p R x1) - x5 < List.length (imN p R x1) - x3) ∧
 ((p = p) ∧
 ((R = R) ∧
 (((↑(List.length R) : Int) = (↑(List.length R) : Int)) ∧
 (((↑x1 : Int) = (↑x1 : Int)) ∧
 (((↑(List.length (imN p R x1)) : Int) = (↑(List.length (imN p R x1)) : Int)) ∧
 (((↑x3 : Int) + (1 : Int) = (↑x5 : Int)) ∧
 ((imN p R x1 = imN p R x1) ∧
 (redN p (imN p R x1) (ldN (imN p R x1)) (List.getD R x1 []) x3 = redN p (imN p R x1) (ldN (imN p R x1)) (List.getD R x1 []) x5))))))))))))))))
 (((List.length (redN p (imN p R x1) (ldN (imN p R x1)) (List.getD R x1 []) x3) ≤ (1000 : Nat)) ∧
 (True)) ∧
 (BrP (Decidable.decide (ldF (redN p (imN p R x1) (ldN (imN p R x1)) (List.getD R x1 []) x3) < (0 : Int)))
 ((InR ((↑x1 : Int) + (1 : Int))) ∧
 (∃ x6 : Nat, ((x6 ≤ List.length R) ∧
 ((List.length R - x6 < List.length R - x1) ∧
 ((p = p) ∧
 ((R = R) ∧
 (((↑(List.length R) : Int) = (↑(List.length R) : Int)) ∧
 (((↑x1 : Int) + (1 : Int) = (↑x6 : Int)) ∧
 (imN p R x1 = imN p R x6)))))))))
 ((inB (ldF (redN p (imN p R x1) (ldN (imN p R x1)) (List.getD R x1 []) x3)) (List.length (redN p (imN p R x1) (ldN (imN p R x1)) (List.getD R x1 []) x3))) ∧
 ((((primeB p = Bool.true) ∧
 (((1 : Int) ≤ List.getD (redN p (imN p R x1) (ldN (imN p R x1)) (List.getD R x1 []) x3) (Int.toNat (ldF (redN p (imN p R x1) (ldN (imN p R x1)) (List.getD R x1 []) x3))) (0 : Int)) ∧
 (List.getD (redN p (imN p R x1) (ldN (imN p R x1)) (List.getD R x1 []) x3) (Int.toNat (ldF (redN p (imN p R x1) (ldN (imN p R x1)) (List.getD R x1 []) x3))) (0 : Int) ≤ p - (1 : Int)))) ∧
 (True)) ∧
 (((((2 : Int) ≤ p) ∧
 ((p ≤ (7 : Int)) ∧
 ((inP p (redN p (imN p R x1) (ldN (imN p R x1)) (List.getD R x1 []) x3)) ∧
 ((List.length (redN p (imN p R x1) (ldN (imN p R x1)) (List.getD R x1 []) x3) ≤ (1000 : Nat)) ∧
 (((0 : Int) ≤ ivM p (List.getD (redN p (imN p R x1) (ldN (imN p R x1)) (List.getD R x1 []) x3) (Int.toNat (ldF (redN p (imN p R x1) (ldN (imN p R x1)) (List.getD R x1 []) x3))) (0 : Int))) ∧
 (ivM p (List.getD (redN p (imN p R x1) (ldN (imN p R x1)) (List.getD R x1 []) x3) (Int.toNat (ldF (redN p (imN p R x1) (ldN (imN p R x1)) (List.getD R x1 []) x3))) (0 : Int)) ≤ (7 : Int))))))) ∧
 ((List.length (scF p (ivM p (List.getD (redN p (imN p R x1) (ldN (imN p R x1)) (List.getD R x1 []) x3) (Int.toNat (ldF (redN p (imN p R x1) (ldN (imN p R x1)) (List.getD R x1 []) x3))) (0 : Int))) (redN p (imN p R x1) (ldN (imN p R x1)) (List.getD R x1 []) x3)) = List.length (redN p (imN p R x1) (ldN (imN p R x1)) (List.getD R x1 []) x3)) ∧
 (True))) ∧
 ((∃ x7 : Nat, (((x7 ≤ List.length (imN p R x1)) ∧
 ((x1 < List.length R) ∧
 ((0 : Int) ≤ ldF (rdR p R x1)))) ∧
 ((p = p) ∧
 ((R = R) ∧
 (((↑(List.length R) : Int) = (↑(List.length R) : Int)) ∧
 (((↑x1 : Int) = (↑x1 : Int)) ∧
 ((ldF (redN p (imN p R x1) (ldN (imN p R x1)) (List.getD R x1 []) x3) = ldF (rdR p R x1)) ∧
 (((↑(List.length (imN p R x1)) : Int) = (↑(List.length (imN p R x1)) : Int)) ∧
 (((0 : Int) = (↑x7 : Int)) ∧
 ((imN p R x1 = List.map (upR p (nrR p R x1) (Int.toNat (ldF (rdR p R x1)))) (List.take x7 (imN p R x1)) ++ List.drop x7 (imN p R x1)) ∧
 (scF p (ivM p (List.getD (redN p (imN p R x1) (ldN (imN p R x1)) (List.getD R x1 []) x3) (Int.toNat (ldF (redN p (imN p R x1) (ldN (imN p R x1)) (List.getD R x1 []) x3))) (0 : Int))) (redN p (imN p R x1) (ldN (imN p R x1)) (List.getD R x1 []) x3) = nrR p R x1))))))))))) ∧
 (∀ x8 : Nat, (((x8 ≤ List.length (imN p R x1)) ∧
 ((x1 < List.length R) ∧
 ((0 : Int) ≤ ldF (rdR p R x1)))) →
 (BrP (Decidable.decide ((↑x8 : Int) < (↑(List.length (imN p R x1)) : Int)))
 ((inB (↑x8 : Int) (List.length (List.map (upR p (nrR p R x1) (Int.toNat (ldF (rdR p R x1)))) (List.take x8 (imN p R x1)) ++ List.drop x8 (imN p R x1)))) ∧
 ((inB (ldF (rdR p R x1)) (List.length (List.getD (List.map (upR p (nrR p R x1) (Int.toNat (ldF (rdR p R x1)))) (List.take x8 (imN p R x1)) ++ List.drop x8 (imN p R x1)) (Int.toNat (↑x8 : Int)) []))) ∧
 (BrP (List.getD (List.getD (List.map (upR p (nrR p R x1) (Int.toNat (ldF (rdR p R x1)))) (List.take x8 (imN p R x1)) ++ List.drop x8 (imN p R x1)) (Int.toNat (↑x8 : Int)) []) (Int.toNat (ldF (rdR p R x1))) (0 : Int) != (0 : Int))
 ((InR (p - List.getD (List.getD (List.map (upR p (nrR p R x1) (Int.toNat (ldF (rdR p R x1)))) (List.take x8 (imN p R x1)) ++ List.drop x8 (imN p R x1)) (Int.toNat (↑x8 : Int)) []) (Int.toNat (ldF (rdR p R x1))) (0 : Int))) ∧
 ((((twR p (List.getD (List.map (upR p (nrR p R x1) (Int.toNat (ldF (rdR p R x1)))) (List.take x8 (imN p R x1)) ++ List.drop x8 (imN p R x1)) (Int.toNat (↑x8 : Int)) []) (nrR p R x1)) ∧
 (((0 : Int) ≤ p - List.getD (List.getD (List.map (upR p (nrR p R x1) (Int.toNat (ldF (rdR p R x1)))) (List.take x8 (imN p R x1)) ++ List.drop x8 (imN p R x1)) (Int.toNat (↑x8 : Int)) []) (Int.toNat (ldF (rdR p R x1))) (0 : Int)) ∧
 (p - List.getD (List.getD (List.map (upR p (nrR p R x1) (Int.toNat (ldF (rdR p R x1)))) (List.take x8 (imN p R x1)) ++ List.drop x8 (imN p R x1)) (Int.toNat (↑x8 : Int)) []) (Int.toNat (ldF (rdR p R x1))) (0 : Int) ≤ (7 : Int)))) ∧
 (List.length (stF p (p - List.getD (List.getD (List.map (upR p (nrR p R x1) (Int.toNat (ldF (rdR p R x1)))) (List.take x8 (imN p R x1)) ++ List.drop x8 (imN p R x1)) (Int.toNat (↑x8 : Int)) []) (Int.toNat (ldF (rdR p R x1))) (0 : Int)) (nrR p R x1) (List.getD (List.map (upR p (nrR p R x1) (Int.toNat (ldF (rdR p R x1)))) (List.take x8 (imN p R x1)) ++ List.drop x8 (imN p R x1)) (Int.toNat (↑x8 : Int)) [])) = List.length (List.getD (List.map (upR p (nrR p R x1) (Int.toNat (ldF (rdR p R x1)))) (List.take x8 (imN p R x1)) ++ List.drop x8 (imN p R x1)) (Int.toNat (↑x8 : Int)) []))) ∧
 ((InR ((↑x8 : Int) + (1 : Int))) ∧
 (∃ x9 : Nat, (((x9 ≤ List.length (imN p R x1)) ∧
 ((x1 < List.length R) ∧
 ((0 : Int) ≤ ldF (rdR p R x1)))) ∧
 ((List.length (imN p R x1) - x9 < List.length (imN p R x1) - x8) ∧
 ((p = p) ∧
 ((R = R) ∧
 (((↑(List.length R) : Int) = (↑(List.length R) : Int)) ∧
 (((↑x1 : Int) = (↑x1 : Int)) ∧
 ((ldF (rdR p R x1) = ldF (rdR p R x1)) ∧
 (((↑(List.length (imN p R x1)) : Int) = (↑(List.length (imN p R x1)) : Int)) ∧
 (((↑x8 : Int) + (1 : Int) = (↑x9 : Int)) ∧
 ((List.set (List.map (upR p (nrR p R x1) (Int.toNat (ldF (rdR p R x1)))) (List.take x8 (imN p R x1)) ++ List.drop x8 (imN p R x1)) (Int.toNat (↑x8 : Int)) (stF p (p - List.getD (List.getD (List.map (upR p (nrR p R x1) (Int.toNat (ldF (rdR p R x1)))) (List.take x8 (imN p R x1)) ++ List.drop x8 (imN p R x1)) (Int.toNat (↑x8 : Int)) []) (Int.toNat (ldF (rdR p R x1))) (0 : Int)) (nrR p R x1) (List.getD (List.map (upR p (nrR p R x1) (Int.toNat (ldF (rdR p R x1)))) (List.take x8 (imN p R x1)) ++ List.drop x8 (imN p R x1)) (Int.toNat (↑x8 : Int)) [])) = List.map (upR p (nrR p R x1) (Int.toNat (ldF (rdR p R x1)))) (List.take x9 (imN p R x1)) ++ List.drop x9 (imN p R x1)) ∧
 (nrR p R x1 = nrR p R x1)))))))))))))))
 ((InR ((↑x8 : Int) + (1 : Int))) ∧
 (∃ x10 : Nat, (((x10 ≤ List.length (imN p R x1)) ∧
 ((x1 < List.length R) ∧
 ((0 : Int) ≤ ldF (rdR p R x1)))) ∧
 ((List.length (imN p R x1) - x10 < List.length (imN p R x1) - x8) ∧
 ((p = p) ∧
 ((R = R) ∧
 (((↑(List.length R) : Int) = (↑(List.length R) : Int)) ∧
 (((↑x1 : Int) = (↑x1 : Int)) ∧
 ((ldF (rdR p R x1) = ldF (rdR p R x1)) ∧
 (((↑(List.length (imN p R x1)) : Int) = (↑(List.length (imN p R x1)) : Int)) ∧
 (((↑x8 : Int) + (1 : Int) = (↑x10 : Int)) ∧
 ((List.map (upR p (nrR p R x1) (Int.toNat (ldF (rdR p R x1)))) (List.take x8 (imN p R x1)) ++ List.drop x8 (imN p R x1) = List.map (upR p (nrR p R x1) (Int.toNat (ldF (rdR p R x1)))) (List.take x10 (imN p R x1)) ++ List.drop x10 (imN p R x1)) ∧
 (nrR p R x1 = nrR p R x1))))))))))))))))
 ((room (List.length (List.map (upR p (nrR p R x1) (Int.toNat (ldF (rdR p R x1)))) (List.take x8 (imN p R x1)) ++ List.drop x8 (imN p R x1)) + List.length [nrR p R x1])) ∧
 ((InR ((↑x1 : Int) + (1 : Int))) ∧
 (∃ x11 : Nat, ((x11 ≤ List.length R) ∧
 ((List.length R - x11 < List.length R - x1) ∧
 ((p = p) ∧
 ((R = R) ∧
 (((↑(List.length R) : Int) = (↑(List.length R) : Int)) ∧
 (((↑x1 : Int) + (1 : Int) = (↑x11 : Int)) ∧
 (List.map (upR p (nrR p R x1) (Int.toNat (ldF (rdR p R x1)))) (List.take x8 (imN p R x1)) ++ List.drop x8 (imN p R x1) ++ [nrR p R x1] = imN p R x11)))))))))))))))))))))))))
 ((((List.length (imN p R x1) ≤ (1000 : Nat)) ∧
 (∀ (r : List Int), r ∈ imN p R x1 → List.length r ≤ (1000 : Nat))) ∧
 (List.length (srtL (imN p R x1)) = List.length (imN p R x1))) ∧
 ((srtL (imN p R x1) = srtL (imN p R (List.length R))) ∧
 (True)))))))
theorem reducedRows_vc (p : Int) (R : List (List Int)) : runF Try.prog (gam reducedRows_G) noWr (reducedRows_ann p R) Try.f53 (bodyOf Try.f53) [] [.c (.int .i64 (p)), .c (.rows .i64 (R))] (reducedRows_p p R) = reducedRows_V p R := by kernel_rfl
theorem reducedRows_ok (p : Int) (R : List (List Int)) (hpre : (reducedRows_p p R).pre) : reducedRows_V p R := by
  simp only [reducedRows_p, reducedRows_V, BrP_iff, true_and, and_true, decide_eq_true_eq, decide_eq_false_iff_not, bne_iff_ne, beq_iff_eq, bne_eq_false_iff_eq, beq_eq_false_iff_ne, Bool.not_eq_true, Bool.not_eq_false, Bool.not_true, Bool.not_false, Bool.not_eq_eq_eq_not, Int.toNat_natCast, List.length_append, List.length_take, List.length_replicate, List.length_set, List.length_map, List.length_drop, List.length_nil, List.length_cons, markL_length, inB, InR, room, bdsOk] at hpre ⊢
  obtain ⟨hp, ⟨N, hR, N1, N2⟩, hl⟩ := hpre
  obtain ⟨p2, p7⟩ := primeB_le hp
  refine ⟨⟨0, by omega, rfl, rfl⟩, fun i hi => ⟨fun h => ?_, fun h => ?_⟩⟩
  · have F := (imN_ok hp hR i hi).1
    have L := imN_len p R i
    have row := hR i (by omega)
    have row1 := row.1
    refine ⟨by omega, ⟨by omega, by omega⟩, ⟨0, ⟨Nat.zero_le _, by omega⟩, rfl, rfl⟩, fun j ⟨hj, _⟩ => ⟨fun h3 => ?_, fun h3 => ?_⟩⟩
    · have rj := (red_ok p2 F.bas row j hj).1
      have rj1 := rj.1
      have bj := F.bas.row j (by omega)
      have bj1 := bj.1
      have pj := F.bas.piv j (by omega)
      have nj := F.nn j (by omega)
      have pe : (ldF ((imN p R i).getD j [])).toNat = ldN (imN p R i) j := rfl
      rw [pe]
      have c := rj.2 (ldN (imN p R i) j) (by omega)
      have tw : twR p (redN p (imN p R i) (ldN (imN p R i)) (R.getD i []) j) ((imN p R i).getD j []) := ⟨p2, p7, rj.2, bj.2, by omega, by omega⟩
      refine ⟨by omega, by omega, by omega, fun h4 => ⟨by omega, ⟨⟨tw, by omega, by omega⟩, stF_length _ _ _ _⟩, by omega, j + 1, ⟨by omega, by omega⟩, by omega, by omega, ?_⟩, fun h4 => ⟨by omega, j + 1, ⟨by omega, by omega⟩, by omega, by omega, ?_⟩⟩
      · rw [redN, if_pos h4]
      · rw [redN, if_neg (by omega)]
    · have e : redN p (imN p R i) (ldN (imN p R i)) (R.getD i []) j = rdR p R i := by unfold rdR; rw [show j = (imN p R i).length by omega]
      rw [e]
      have r1 : rwP p N (rdR p R i) := (red_ok p2 F.bas row (imN p R i).length (Nat.le_refl _)).1
      have r11 := r1.1
      refine ⟨by omega, fun h4 => ⟨by omega, i + 1, by omega, by omega, by omega, ?_⟩, fun h4 => ?_⟩
      · show imN p R i = if ldF (rdR p R i) < 0 then imN p R i else _
        rw [if_pos h4]
      · have y := ld_yes (l := rdR p R i) (by omega)
        have c := r1.2 _ y.1
        have iv := ivM_ok hp (a := (rdR p R i).getD (ldF (rdR p R i)).toNat 0) (by omega) (by omega)
        have n := scF_nrm hp r1 (by omega)
        have en : scF p (ivM p ((rdR p R i).getD (ldF (rdR p R i)).toNat 0)) (rdR p R i) = nrR p R i := rfl
        rw [en] at n ⊢
        have n1 := n.row.1
        refine ⟨by omega, ⟨hp, by omega, by omega⟩, ⟨⟨p2, p7, r1.2, by omega, by omega, by omega⟩, by omega⟩, ⟨0, ⟨Nat.zero_le _, by omega, by omega⟩, rfl, rfl, by simp, rfl⟩, fun k ⟨hk, _, _⟩ => ⟨fun h5 => ?_, fun h5 => ?_⟩⟩
        · rw [upd_get _ _ (by omega)]
          have bk := F.bas.row k (by omega)
          have bk1 := bk.1
          have d := bk.2 (ldF (rdR p R i)).toNat (by omega)
          refine ⟨by omega, by omega, fun h6 => ⟨by omega, ⟨⟨⟨p2, p7, bk.2, n.row.2, by omega, by omega⟩, by omega, by omega⟩, stF_length _ _ _ _⟩, by omega, k + 1, ⟨by omega, by omega, by omega⟩, by omega, by omega, ?_⟩, fun h6 => ⟨by omega, k + 1, ⟨by omega, by omega, by omega⟩, by omega, by omega, ?_⟩⟩
          · rw [← upd_set (upR p (nrR p R i) (ldF (rdR p R i)).toNat) _ (by omega)]
            congr 1
            rw [upR, if_pos h6]
          · have := upd_set (upR p (nrR p R i) (ldF (rdR p R i)).toNat) (imN p R i) (k := k) (by omega)
            rw [show upR p (nrR p R i) (ldF (rdR p R i)).toNat ((imN p R i).getD k []) = (imN p R i).getD k [] by rw [upR, if_neg (by omega)]] at this
            rw [← this, ← upd_get (upR p (nrR p R i) (ldF (rdR p R i)).toNat) (imN p R i) (k := k) (by omega)]
            exact (set_self _ _).symm
        · refine ⟨by omega, by omega, i + 1, by omega, by omega, by omega, ?_⟩
          rw [List.take_of_length_le (by omega), List.drop_of_length_le (by omega), List.append_nil]
          show _ = if ldF (rdR p R i) < 0 then imN p R i else (imN p R i).map (upR p (nrR p R i) (ldF (rdR p R i)).toNat) ++ [nrR p R i]
          rw [if_neg h4]
  · have e : i = R.length := by omega
    subst e
    have F := (imN_ok hp hR R.length (Nat.le_refl _)).1
    have L := imN_len p R R.length
    refine ⟨⟨⟨by omega, fun r hr => ?_⟩, srtL_len _⟩, rfl⟩
    obtain ⟨k, hk, e⟩ := List.mem_iff_getElem.1 hr
    have := (F.bas.row k hk).1
    rw [show (imN p R R.length).getD k [] = r by rw [← e]; simp [List.getD, hk]] at this
    omega
theorem reducedRows_fits : Fits Try.prog 53 ⟨[], reducedRows_ct⟩ := by
  refine fits_fn (Γ := gam reducedRows_G) (gok_cons Clone_fits (gok_cons leading_fits (gok_cons addRow_fits (gok_cons inverseModulo_fits (gok_cons scaleRow_fits (gok_cons sSort_fits gok_nil)))))) Try.func53 (by kernel_rfl) (by kernel_rfl) (by kernel_rfl) fun ds p h hp => ?_
  unfold reducedRows_ct at h
  split at h
  · cases h
    exact ⟨noWr, reducedRows_ann _ _ , by rw [reducedRows_vc]; exact reducedRows_ok _ _  hp⟩
  · cases h

end Go.Sx
end
