/- RnkC -/
import Derived.Test.YtbcalfnpmehicaaRnk
import Derived.Test.YtbcalfnpmehicaaQb
open Go Go.Proofs
namespace Go.Sx
set_option linter.unusedSimpArgs false
set_option linter.unusedVariables false

/-- The place of the first number with p, counted from k; -1 if there is none. -/
def idxF (p : Int → Bool) : List Int → Int → Int
  | [], _ => -1
  | x :: l, k => if p x = true then k else idxF p l (k + 1)

theorem idxF_fs0 : ∀ (l : List Int) (k : Int), idxF (fun c => c != 0) l k = fs0 l k
  | [], _ => rfl
  | x :: l, k => by
    simp only [idxF, fs0, idxF_fs0 l (k + 1), bne_iff_ne]

def IndexFunc_p (l : List Int) (q : Int → Prop) (p : Int → Bool) : Post := ⟨room l.length ∧ ∀ x ∈ l, q x, .c (.int .i64 (idxF p l 0)), []⟩
def IndexFunc_ct : List AD → Option Post
  | [.c (.ints .i64 (l)), .fv (.ib q p)] => some (IndexFunc_p l q p)
  | _ => none
def IndexFunc_ann (l : List Int) (q : Int → Prop) (p : Int → Bool) : Nat → Option Ann
  | 0 => some (Ann.mk ((Nat)) (fun i => ⟨[(0, .c (.ro (.ints .i64 (l)))), (1, .fv (.ib q p)), (7, .c (.int .i64 ((l.length : Int)))), (8, .c (.int .i64 ((i : Int))))], []⟩) (fun i => i ≤ l.length ∧ idxF p l 0 = idxF p (l.drop i) (i : Int)) (fun i => l.length - i) (fun _ => noAnn))
  | _ => none
def IndexFunc_G : List (Nat × Ctr) := []
def IndexFunc_V (l : List Int) (q : Int → Prop) (p : Int → Bool) : Prop :=
  ((∃ x0 : Nat, (((x0 ≤ List.length l) ∧
 (idxF p l (0 : Int) = idxF p (List.drop x0 l) (↑x0 : Int))) ∧
 ((l = l) ∧
 ((FV.ib q p = FV.ib q p) ∧
 (((↑(List.length l) : Int) = (↑(List.length l) : Int)) ∧
 ((0 : Int) = (↑x0 : Int))))))) ∧
 (∀ x1 : Nat, (((x1 ≤ List.length l) ∧
 (idxF p l (0 : Int) = idxF p (List.drop x1 l) (↑x1 : Int))) →
 (BrP (Decidable.decide ((↑x1 : Int) < (↑(List.length l) : Int)))
 ((inB (↑x1 : Int) (List.length l)) ∧
 ((q (List.getD l (Int.toNat (↑x1 : Int)) (0 : Int))) ∧
 (BrP (p (List.getD l (Int.toNat (↑x1 : Int)) (0 : Int)))
 (((↑x1 : Int) = idxF p l (0 : Int)) ∧
 (True))
 ((InR ((↑x1 : Int) + (1 : Int))) ∧
 (∃ x2 : Nat, (((x2 ≤ List.length l) ∧
 (idxF p l (0 : Int) = idxF p (List.drop x2 l) (↑x2 : Int))) ∧
 ((List.length l - x2 < List.length l - x1) ∧
 ((l = l) ∧
 ((FV.ib q p = FV.ib q p) ∧
 (((↑(List.length l) : Int) = (↑(List.length l) : Int)) ∧
 ((↑x1 : Int) + (1 : Int) = (↑x2 : Int))))))))))))
 (((-1 : Int) = idxF p l (0 : Int)) ∧
 (True))))))
theorem IndexFunc_vc (l : List Int) (q : Int → Prop) (p : Int → Bool) : runF Try.prog (gam IndexFunc_G) noWr (IndexFunc_ann l q p) Try.f118 (bodyOf Try.f118) [] [.c (.ints .i64 (l)), .fv (.ib q p)] (IndexFunc_p l q p) = IndexFunc_V l q p := by kernel_rfl
theorem IndexFunc_ok (l : List Int) (q : Int → Prop) (p : Int → Bool) (hpre : (IndexFunc_p l q p).pre) : IndexFunc_V l q p := by
  simp only [IndexFunc_p, IndexFunc_V, BrP_iff, true_and, and_true, decide_eq_true_eq, decide_eq_false_iff_not, bne_iff_ne, beq_iff_eq, bne_eq_false_iff_eq, beq_eq_false_iff_ne, Bool.not_eq_true, Bool.not_eq_false, Bool.not_true, Bool.not_false, Bool.not_eq_eq_eq_not, Int.toNat_natCast, List.length_append, List.length_take, List.length_replicate, List.length_set, List.length_map, List.length_drop, List.length_nil, List.length_cons, markL_length, inB, InR, room, bdsOk] at hpre ⊢
  obtain ⟨hl, hq⟩ := hpre
  refine ⟨⟨0, ⟨by omega, rfl⟩, rfl⟩, fun i ⟨hi, he⟩ => ⟨fun h => ?_, fun h => ?_⟩⟩
  · rw [drop_cons' l 0 i (by omega)] at he
    simp only [idxF] at he
    refine ⟨by omega, hq _ (getD_mem l 0 i (by omega)), fun h1 => ?_, fun h1 => ⟨by omega, i + 1, ⟨by omega, ?_⟩, by omega, by omega⟩⟩
    · rw [he, if_pos h1]
    · rw [he, if_neg (by rw [h1]; exact Bool.false_ne_true)]; simp
  · rw [he, List.drop_of_length_le (by omega)]; rfl
theorem IndexFunc_fits : Fits Try.prog 118 ⟨[], IndexFunc_ct⟩ := by
  refine fits_fn (Γ := gam IndexFunc_G) gok_nil Try.func118 (by kernel_rfl) (by kernel_rfl) (by kernel_rfl) fun ds p h hp => ?_
  unfold IndexFunc_ct at h
  split at h
  · cases h
    exact ⟨noWr, IndexFunc_ann _ _ _ , by rw [IndexFunc_vc]; exact IndexFunc_ok _ _ _  hp⟩
  · cases h

def leading1_p (x : Int) : Post := ⟨True, .c (.bool (x != 0)), []⟩
def leading1_ct : List AD → Option Post
  | [.c (.int .i64 (x))] => some (leading1_p x)
  | _ => none
def leading1_G : List (Nat × Ctr) := []
def leading1_V (x : Int) : Prop :=
  (((x != (0 : Int)) = (x != (0 : Int))) ∧
 (True))
theorem leading1_vc (x : Int) : runF Try.prog (gam leading1_G) noWr noAnn Try.f119 (bodyOf Try.f119) [] [.c (.int .i64 (x))] (leading1_p x) = leading1_V x := by kernel_rfl
theorem leading1_ok (x : Int) (hpre : (leading1_p x).pre) : leading1_V x := by
  simp only [leading1_p, leading1_V, BrP_iff, true_and, and_true, decide_eq_true_eq, decide_eq_false_iff_not, bne_iff_ne, beq_iff_eq, bne_eq_false_iff_eq, beq_eq_false_iff_ne, Bool.not_eq_true, Bool.not_eq_false, Bool.not_true, Bool.not_false, Bool.not_eq_eq_eq_not, Int.toNat_natCast, List.length_append, List.length_take, List.length_replicate, List.length_set, List.length_map, List.length_drop, List.length_nil, List.length_cons, markL_length, inB, InR, room, bdsOk] at hpre ⊢
theorem leading1_fits : Fits Try.prog 119 ⟨[], leading1_ct⟩ := by
  refine fits_fn (Γ := gam leading1_G) gok_nil Try.func119 (by kernel_rfl) (by kernel_rfl) (by kernel_rfl) fun ds p h hp => ?_
  unfold leading1_ct at h
  split at h
  · cases h
    exact ⟨noWr, noAnn, by rw [leading1_vc]; exact leading1_ok _  hp⟩
  · cases h

def leading_p (l : List Int) : Post := ⟨l.length ≤ 1000, .c (.int .i64 (ldF l)), []⟩
def leading_ct : List AD → Option Post
  | [.c (.ints .i64 (l))] => some (leading_p l)
  | _ => none
def leading_G : List (Nat × Ctr) := [(118, ⟨[], IndexFunc_ct⟩), (119, ⟨[], leading1_ct⟩)]
def leading_V (l : List Int) : Prop :=
  ((((room (List.length l)) ∧
 (∀ (x : Int), x ∈ l → True)) ∧
 (True)) ∧
 ((idxF (fun (x : Int) => x != (0 : Int)) l (0 : Int) = ldF l) ∧
 (True)))
theorem leading_vc (l : List Int) : runF Try.prog (gam leading_G) noWr noAnn Try.f100 (bodyOf Try.f100) [] [.c (.ints .i64 (l))] (leading_p l) = leading_V l := by kernel_rfl
theorem leading_ok (l : List Int) (hpre : (leading_p l).pre) : leading_V l := by
  simp only [leading_p, leading_V, BrP_iff, true_and, and_true, decide_eq_true_eq, decide_eq_false_iff_not, bne_iff_ne, beq_iff_eq, bne_eq_false_iff_eq, beq_eq_false_iff_ne, Bool.not_eq_true, Bool.not_eq_false, Bool.not_true, Bool.not_false, Bool.not_eq_eq_eq_not, Int.toNat_natCast, List.length_append, List.length_take, List.length_replicate, List.length_set, List.length_map, List.length_drop, List.length_nil, List.length_cons, markL_length, inB, InR, room, bdsOk] at hpre ⊢
  exact ⟨⟨by omega, fun _ _ => trivial⟩, idxF_fs0 l 0⟩
theorem leading_fits : Fits Try.prog 100 ⟨[], leading_ct⟩ := by
  refine fits_fn (Γ := gam leading_G) (gok_cons IndexFunc_fits (gok_cons leading1_fits gok_nil)) Try.func100 (by kernel_rfl) (by kernel_rfl) (by kernel_rfl) fun ds p h hp => ?_
  unfold leading_ct at h
  split at h
  · cases h
    exact ⟨noWr, noAnn, by rw [leading_vc]; exact leading_ok _  hp⟩
  · cases h

def l15First_p (l : List Int) : Post := ⟨l.length ≤ 1000, .c (.int .i64 (ldF l)), []⟩
def l15First_ct : List AD → Option Post
  | [.c (.ints .i64 (l))] => some (l15First_p l)
  | _ => none
def l15First_ann (l : List Int) : Nat → Option Ann
  | 0 => some (Ann.mk ((Nat)) (fun i => ⟨[(0, .c (.ro (.ints .i64 (l)))), (3, .c (.int .i64 ((i : Int))))], []⟩) (fun i => i ≤ l.length ∧ ldF l = fs0 (l.drop i) (i : Int)) (fun i => l.length - i) (fun _ => noAnn))
  | _ => none
def l15First_G : List (Nat × Ctr) := []
def l15First_V (l : List Int) : Prop :=
  ((∃ x0 : Nat, (((x0 ≤ List.length l) ∧
 (ldF l = fs0 (List.drop x0 l) (↑x0 : Int))) ∧
 ((l = l) ∧
 ((0 : Int) = (↑x0 : Int))))) ∧
 (∀ x1 : Nat, (((x1 ≤ List.length l) ∧
 (ldF l = fs0 (List.drop x1 l) (↑x1 : Int))) →
 (BrP (Decidable.decide ((↑x1 : Int) < (↑(List.length l) : Int)))
 ((inB (↑x1 : Int) (List.length l)) ∧
 (BrP (List.getD l (Int.toNat (↑x1 : Int)) (0 : Int) != (0 : Int))
 (((↑x1 : Int) = ldF l) ∧
 (True))
 ((InR ((↑x1 : Int) + (1 : Int))) ∧
 (∃ x2 : Nat, (((x2 ≤ List.length l) ∧
 (ldF l = fs0 (List.drop x2 l) (↑x2 : Int))) ∧
 ((List.length l - x2 < List.length l - x1) ∧
 ((l = l) ∧
 ((↑x1 : Int) + (1 : Int) = (↑x2 : Int)))))))))
 (((-1 : Int) = ldF l) ∧
 (True))))))
theorem l15First_vc (l : List Int) : runF Try.prog (gam l15First_G) noWr (l15First_ann l) Try.f68 (bodyOf Try.f68) [] [.c (.ints .i64 (l))] (l15First_p l) = l15First_V l := by kernel_rfl
theorem l15First_ok (l : List Int) (hpre : (l15First_p l).pre) : l15First_V l := by
  simp only [l15First_p, l15First_V, BrP_iff, true_and, and_true, decide_eq_true_eq, decide_eq_false_iff_not, bne_iff_ne, beq_iff_eq, bne_eq_false_iff_eq, beq_eq_false_iff_ne, Bool.not_eq_true, Bool.not_eq_false, Bool.not_true, Bool.not_false, Bool.not_eq_eq_eq_not, Int.toNat_natCast, List.length_append, List.length_take, List.length_replicate, List.length_set, List.length_map, List.length_drop, List.length_nil, List.length_cons, markL_length, inB, InR, room, bdsOk] at hpre ⊢
  refine ⟨⟨0, ⟨by omega, rfl⟩, rfl⟩, fun i ⟨hi, he⟩ => ⟨fun h => ?_, fun h => ?_⟩⟩
  · rw [drop_cons' l 0 i (by omega)] at he
    simp only [fs0] at he
    refine ⟨by omega, fun h1 => ?_, fun h1 => ⟨by omega, i + 1, ⟨by omega, ?_⟩, by omega, by omega⟩⟩
    · rw [he, if_pos h1]
    · rw [he, if_neg (by omega)]; simp
  · rw [he, List.drop_of_length_le (by omega)]; rfl
theorem l15First_fits : Fits Try.prog 68 ⟨[], l15First_ct⟩ := by
  refine fits_fn (Γ := gam l15First_G) gok_nil Try.func68 (by kernel_rfl) (by kernel_rfl) (by kernel_rfl) fun ds p h hp => ?_
  unfold l15First_ct at h
  split at h
  · cases h
    exact ⟨noWr, l15First_ann _ , by rw [l15First_vc]; exact l15First_ok _  hp⟩
  · cases h

/-- Two rows modulo p. -/
def twR (p : Int) (a b : List Int) : Prop := 2 ≤ p ∧ p ≤ 7 ∧ inP p a ∧ inP p b ∧ a.length = b.length ∧ a.length ≤ 1000

theorem mul_le7 {x y : Int} (h1 : 0 ≤ x ∧ x ≤ 7) (h2 : 0 ≤ y ∧ y ≤ 7) : 0 ≤ x * y ∧ x * y ≤ 49 :=
  ⟨Int.mul_nonneg h1.1 h2.1, by
    have a := Int.mul_le_mul_of_nonneg_right h1.2 h2.1
    omega⟩

def addRow_p (p : Int) (a : List Int) (b : List Int) (m : Int) : Post := ⟨twR p a b ∧ 0 ≤ m ∧ m ≤ 7, .tup [], [.ints 2 .i64 (stF p m b a)]⟩
def addRow_ct : List AD → Option Post
  | [.c (.int .i64 (p)), .c (.ints .i64 (a)), .c (.ints .i64 (b)), .c (.int .i64 (m))] => some (addRow_p p a b m)
  | _ => none
def addRow_ann (p : Int) (a : List Int) (b : List Int) (m : Int) : Nat → Option Ann
  | 0 => some (Ann.mk ((Nat)) (fun i => ⟨[(0, .c (.int .i64 (p))), (1, .c (.own (716))), (3, .c (.int .i64 (m))), (10, .c (.ro (.ints .i64 (b)))), (11, .c (.int .i64 ((b.length : Int)))), (12, .c (.int .i64 ((i : Int))))], [(716, some (.ints 2 .i64 ((stF p m b a).take i ++ a.drop i)))]⟩) (fun i => i ≤ b.length) (fun i => b.length - i) (fun _ => noAnn))
  | _ => none
def addRow_G : List (Nat × Ctr) := []
def addRow_V (p : Int) (a : List Int) (b : List Int) (m : Int) : Prop :=
  ((∃ x0 : Nat, ((x0 ≤ List.length b) ∧
 ((p = p) ∧
 ((m = m) ∧
 ((b = b) ∧
 (((↑(List.length b) : Int) = (↑(List.length b) : Int)) ∧
 (((0 : Int) = (↑x0 : Int)) ∧
 (a = List.take x0 (stF p m b a) ++ List.drop x0 a)))))))) ∧
 (∀ x1 : Nat, ((x1 ≤ List.length b) →
 (BrP (Decidable.decide ((↑x1 : Int) < (↑(List.length b) : Int)))
 ((inB (↑x1 : Int) (List.length b)) ∧
 ((inB (↑x1 : Int) (List.length (List.take x1 (stF p m b a) ++ List.drop x1 a))) ∧
 ((InR (m * List.getD b (Int.toNat (↑x1 : Int)) (0 : Int))) ∧
 ((InR (List.getD (List.take x1 (stF p m b a) ++ List.drop x1 a) (Int.toNat (↑x1 : Int)) (0 : Int) + m * List.getD b (Int.toNat (↑x1 : Int)) (0 : Int))) ∧
 ((p ≠ (0 : Int)) ∧
 ((inB (↑x1 : Int) (List.length (List.take x1 (stF p m b a) ++ List.drop x1 a))) ∧
 ((InR ((↑x1 : Int) + (1 : Int))) ∧
 (∃ x2 : Nat, ((x2 ≤ List.length b) ∧
 ((List.length b - x2 < List.length b - x1) ∧
 ((p = p) ∧
 ((m = m) ∧
 ((b = b) ∧
 (((↑(List.length b) : Int) = (↑(List.length b) : Int)) ∧
 (((↑x1 : Int) + (1 : Int) = (↑x2 : Int)) ∧
 (List.set (List.take x1 (stF p m b a) ++ List.drop x1 a) (Int.toNat (↑x1 : Int)) (Int.tmod (List.getD (List.take x1 (stF p m b a) ++ List.drop x1 a) (Int.toNat (↑x1 : Int)) (0 : Int) + m * List.getD b (Int.toNat (↑x1 : Int)) (0 : Int)) p) = List.take x2 (stF p m b a) ++ List.drop x2 a))))))))))))))))
 ((True) ∧
 ((List.take x1 (stF p m b a) ++ List.drop x1 a = stF p m b a) ∧
 (True)))))))
theorem addRow_vc (p : Int) (a : List Int) (b : List Int) (m : Int) : runF Try.prog (gam addRow_G) noWr (addRow_ann p a b m) Try.f101 (bodyOf Try.f101) [(1, 0)] [.c (.int .i64 (p)), .c (.ints .i64 (a)), .c (.ints .i64 (b)), .c (.int .i64 (m))] (addRow_p p a b m) = addRow_V p a b m := by kernel_rfl
theorem addRow_ok (p : Int) (a : List Int) (b : List Int) (m : Int) (hpre : (addRow_p p a b m).pre) : addRow_V p a b m := by
  simp only [addRow_p, addRow_V, BrP_iff, true_and, and_true, decide_eq_true_eq, decide_eq_false_iff_not, bne_iff_ne, beq_iff_eq, bne_eq_false_iff_eq, beq_eq_false_iff_ne, Bool.not_eq_true, Bool.not_eq_false, Bool.not_true, Bool.not_false, Bool.not_eq_eq_eq_not, Int.toNat_natCast, List.length_append, List.length_take, List.length_replicate, List.length_set, List.length_map, List.length_drop, List.length_nil, List.length_cons, markL_length, inB, InR, room, bdsOk] at hpre ⊢
  obtain ⟨⟨p2, p7, ha, hb, hl, h1⟩, m0, m7⟩ := hpre
  have sl := stF_length p m b a
  refine ⟨⟨0, by omega, rfl, by simp⟩, fun i hi => ⟨fun h => ?_, fun h => by rw [List.take_of_length_le (by omega), List.drop_of_length_le (by omega), List.append_nil]⟩⟩
  have tl : ((stF p m b a).take i).length = i := by rw [List.length_take]; omega
  have x := ha i (by omega)
  have y := hb i (by omega)
  have z := mul_le7 ⟨m0, m7⟩ (show 0 ≤ b.getD i 0 ∧ b.getD i 0 ≤ 7 by omega)
  rw [drop_cons' a 0 i (by omega), at_getD _ _ _ _ _ tl, at_set _ _ _ _ _ tl]
  refine ⟨by omega, by omega, by omega, by omega, by omega, by omega, by omega, i + 1, by omega, by omega, by omega, ?_⟩
  rw [← take_snoc (stF p m b a) 0 i (by omega), stF_get (by omega), List.append_assoc]; rfl
theorem addRow_fits : Fits Try.prog 101 ⟨[(1, 0)], addRow_ct⟩ := by
  refine fits_fn (Γ := gam addRow_G) gok_nil Try.func101 (by kernel_rfl) (by kernel_rfl) (by kernel_rfl) fun ds p h hp => ?_
  unfold addRow_ct at h
  split at h
  · cases h
    exact ⟨noWr, addRow_ann _ _ _ _ , by rw [addRow_vc]; exact addRow_ok _ _ _ _  hp⟩
  · cases h

def l15Less_p (a : List Int) (b : List Int) (f : Int) (p : Int) : Post := ⟨twR p a b ∧ 0 ≤ p - f ∧ p - f ≤ 7 ∧ -100 ≤ f ∧ f ≤ 100, .c (.ints 2 .i64 (stF p (p - f) b a)), []⟩
def l15Less_ct : List AD → Option Post
  | [.c (.ints .i64 (a)), .c (.ints .i64 (b)), .c (.int .i64 (f)), .c (.int .i64 (p))] => some (l15Less_p a b f p)
  | _ => none
def l15Less_ann (a : List Int) (b : List Int) (f : Int) (p : Int) : Nat → Option Ann
  | 0 => some (Ann.mk ((Nat)) (fun i => ⟨[(0, .c (.ro (.ints .i64 (a)))), (1, .c (.ro (.ints .i64 (b)))), (2, .c (.int .i64 (f))), (3, .c (.int .i64 (p))), (9, .c (.own (11))), (10, .c (.int .i64 ((i : Int))))], [(11, some (.ints 2 .i64 ((stF p (p - f) b a).take i)))]⟩) (fun i => i ≤ a.length) (fun i => a.length - i) (fun _ => noAnn))
  | _ => none
def l15Less_G : List (Nat × Ctr) := []
def l15Less_V (a : List Int) (b : List Int) (f : Int) (p : Int) : Prop :=
  ((∃ x0 : Nat, ((x0 ≤ List.length a) ∧
 ((a = a) ∧
 ((b = b) ∧
 ((f = f) ∧
 ((p = p) ∧
 (((0 : Int) = (↑x0 : Int)) ∧
 ([] = List.take x0 (stF p (p - f) b a))))))))) ∧
 (∀ x1 : Nat, ((x1 ≤ List.length a) →
 (BrP (Decidable.decide ((↑x1 : Int) < (↑(List.length a) : Int)))
 ((inB (↑x1 : Int) (List.length a)) ∧
 ((InR (p - f)) ∧
 ((inB (↑x1 : Int) (List.length b)) ∧
 ((InR ((p - f) * List.getD b (Int.toNat (↑x1 : Int)) (0 : Int))) ∧
 ((InR (List.getD a (Int.toNat (↑x1 : Int)) (0 : Int) + (p - f) * List.getD b (Int.toNat (↑x1 : Int)) (0 : Int))) ∧
 ((p ≠ (0 : Int)) ∧
 ((room (List.length (List.take x1 (stF p (p - f) b a)) + List.length [Int.tmod (List.getD a (Int.toNat (↑x1 : Int)) (0 : Int) + (p - f) * List.getD b (Int.toNat (↑x1 : Int)) (0 : Int)) p])) ∧
 ((InR ((↑x1 : Int) + (1 : Int))) ∧
 (∃ x2 : Nat, ((x2 ≤ List.length a) ∧
 ((List.length a - x2 < List.length a - x1) ∧
 ((a = a) ∧
 ((b = b) ∧
 ((f = f) ∧
 ((p = p) ∧
 (((↑x1 : Int) + (1 : Int) = (↑x2 : Int)) ∧
 (List.take x1 (stF p (p - f) b a) ++ [Int.tmod (List.getD a (Int.toNat (↑x1 : Int)) (0 : Int) + (p - f) * List.getD b (Int.toNat (↑x1 : Int)) (0 : Int)) p] = List.take x2 (stF p (p - f) b a))))))))))))))))))
 ((List.take x1 (stF p (p - f) b a) = stF p (p - f) b a) ∧
 (True))))))
theorem l15Less_vc (a : List Int) (b : List Int) (f : Int) (p : Int) : runF Try.prog (gam l15Less_G) noWr (l15Less_ann a b f p) Try.f67 (bodyOf Try.f67) [] [.c (.ints .i64 (a)), .c (.ints .i64 (b)), .c (.int .i64 (f)), .c (.int .i64 (p))] (l15Less_p a b f p) = l15Less_V a b f p := by kernel_rfl
theorem l15Less_ok (a : List Int) (b : List Int) (f : Int) (p : Int) (hpre : (l15Less_p a b f p).pre) : l15Less_V a b f p := by
  simp only [l15Less_p, l15Less_V, BrP_iff, true_and, and_true, decide_eq_true_eq, decide_eq_false_iff_not, bne_iff_ne, beq_iff_eq, bne_eq_false_iff_eq, beq_eq_false_iff_ne, Bool.not_eq_true, Bool.not_eq_false, Bool.not_true, Bool.not_false, Bool.not_eq_eq_eq_not, Int.toNat_natCast, List.length_append, List.length_take, List.length_replicate, List.length_set, List.length_map, List.length_drop, List.length_nil, List.length_cons, markL_length, inB, InR, room, bdsOk] at hpre ⊢
  obtain ⟨⟨p2, p7, ha, hb, hl, h1⟩, m0, m7, f0, f1⟩ := hpre
  have sl := stF_length p (p - f) b a
  refine ⟨⟨0, by omega, rfl, rfl⟩, fun i hi => ⟨fun h => ?_, fun h => by rw [List.take_of_length_le (by omega)]⟩⟩
  have x := ha i (by omega)
  have y := hb i (by omega)
  have z := mul_le7 ⟨m0, m7⟩ (show 0 ≤ b.getD i 0 ∧ b.getD i 0 ≤ 7 by omega)
  refine ⟨by omega, by omega, by omega, by omega, by omega, by omega, by omega, by omega, i + 1, by omega, by omega, by omega, ?_⟩
  rw [← take_snoc (stF p (p - f) b a) 0 i (by omega), stF_get (by omega)]
theorem l15Less_fits : Fits Try.prog 67 ⟨[], l15Less_ct⟩ := by
  refine fits_fn (Γ := gam l15Less_G) gok_nil Try.func67 (by kernel_rfl) (by kernel_rfl) (by kernel_rfl) fun ds p h hp => ?_
  unfold l15Less_ct at h
  split at h
  · cases h
    exact ⟨noWr, l15Less_ann _ _ _ _ , by rw [l15Less_vc]; exact l15Less_ok _ _ _ _  hp⟩
  · cases h

def scaleRow_p (p : Int) (r : List Int) (m : Int) : Post := ⟨2 ≤ p ∧ p ≤ 7 ∧ inP p r ∧ r.length ≤ 1000 ∧ 0 ≤ m ∧ m ≤ 7, .tup [], [.ints 2 .i64 (scF p m r)]⟩
def scaleRow_ct : List AD → Option Post
  | [.c (.int .i64 (p)), .c (.ints .i64 (r)), .c (.int .i64 (m))] => some (scaleRow_p p r m)
  | _ => none
def scaleRow_ann (p : Int) (r : List Int) (m : Int) : Nat → Option Ann
  | 0 => some (Ann.mk ((Nat)) (fun i => ⟨[(0, .c (.int .i64 (p))), (1, .c (.own (716))), (2, .c (.int .i64 (m))), (8, .c (.int .i64 ((r.length : Int)))), (9, .c (.int .i64 ((i : Int))))], [(716, some (.ints 2 .i64 ((scF p m r).take i ++ r.drop i)))]⟩) (fun i => i ≤ r.length) (fun i => r.length - i) (fun _ => noAnn))
  | _ => none
def scaleRow_G : List (Nat × Ctr) := []
def scaleRow_V (p : Int) (r : List Int) (m : Int) : Prop :=
  ((∃ x0 : Nat, ((x0 ≤ List.length r) ∧
 ((p = p) ∧
 ((m = m) ∧
 (((↑(List.length r) : Int) = (↑(List.length r) : Int)) ∧
 (((0 : Int) = (↑x0 : Int)) ∧
 (r = List.take x0 (scF p m r) ++ List.drop x0 r))))))) ∧
 (∀ x1 : Nat, ((x1 ≤ List.length r) →
 (BrP (Decidable.decide ((↑x1 : Int) < (↑(List.length r) : Int)))
 ((inB (↑x1 : Int) (List.length (List.take x1 (scF p m r) ++ List.drop x1 r))) ∧
 ((InR (List.getD (List.take x1 (scF p m r) ++ List.drop x1 r) (Int.toNat (↑x1 : Int)) (0 : Int) * m)) ∧
 ((p ≠ (0 : Int)) ∧
 ((inB (↑x1 : Int) (List.length (List.take x1 (scF p m r) ++ List.drop x1 r))) ∧
 ((InR ((↑x1 : Int) + (1 : Int))) ∧
 (∃ x2 : Nat, ((x2 ≤ List.length r) ∧
 ((List.length r - x2 < List.length r - x1) ∧
 ((p = p) ∧
 ((m = m) ∧
 (((↑(List.length r) : Int) = (↑(List.length r) : Int)) ∧
 (((↑x1 : Int) + (1 : Int) = (↑x2 : Int)) ∧
 (List.set (List.take x1 (scF p m r) ++ List.drop x1 r) (Int.toNat (↑x1 : Int)) (Int.tmod (List.getD (List.take x1 (scF p m r) ++ List.drop x1 r) (Int.toNat (↑x1 : Int)) (0 : Int) * m) p) = List.take x2 (scF p m r) ++ List.drop x2 r)))))))))))))
 ((True) ∧
 ((List.take x1 (scF p m r) ++ List.drop x1 r = scF p m r) ∧
 (True)))))))
theorem scaleRow_vc (p : Int) (r : List Int) (m : Int) : runF Try.prog (gam scaleRow_G) noWr (scaleRow_ann p r m) Try.f103 (bodyOf Try.f103) [(1, 0)] [.c (.int .i64 (p)), .c (.ints .i64 (r)), .c (.int .i64 (m))] (scaleRow_p p r m) = scaleRow_V p r m := by kernel_rfl
theorem scaleRow_ok (p : Int) (r : List Int) (m : Int) (hpre : (scaleRow_p p r m).pre) : scaleRow_V p r m := by
  simp only [scaleRow_p, scaleRow_V, BrP_iff, true_and, and_true, decide_eq_true_eq, decide_eq_false_iff_not, bne_iff_ne, beq_iff_eq, bne_eq_false_iff_eq, beq_eq_false_iff_ne, Bool.not_eq_true, Bool.not_eq_false, Bool.not_true, Bool.not_false, Bool.not_eq_eq_eq_not, Int.toNat_natCast, List.length_append, List.length_take, List.length_replicate, List.length_set, List.length_map, List.length_drop, List.length_nil, List.length_cons, markL_length, inB, InR, room, bdsOk] at hpre ⊢
  obtain ⟨p2, p7, hr, h1, m0, m7⟩ := hpre
  have sl : (scF p m r).length = r.length := tab_length _ _
  refine ⟨⟨0, by omega, rfl, by simp⟩, fun i hi => ⟨fun h => ?_, fun h => by rw [List.take_of_length_le (by omega), List.drop_of_length_le (by omega), List.append_nil]⟩⟩
  have tl : ((scF p m r).take i).length = i := by rw [List.length_take]; omega
  have x := hr i (by omega)
  have z := mul_le7 (show 0 ≤ r.getD i 0 ∧ r.getD i 0 ≤ 7 by omega) ⟨m0, m7⟩
  rw [drop_cons' r 0 i (by omega), at_getD _ _ _ _ _ tl, at_set _ _ _ _ _ tl]
  refine ⟨by omega, by omega, by omega, by omega, by omega, i + 1, by omega, by omega, by omega, ?_⟩
  rw [← take_snoc (scF p m r) 0 i (by omega), scF_get (by omega), List.append_assoc]; rfl
theorem scaleRow_fits : Fits Try.prog 103 ⟨[(1, 0)], scaleRow_ct⟩ := by
  refine fits_fn (Γ := gam scaleRow_G) gok_nil Try.func103 (by kernel_rfl) (by kernel_rfl) (by kernel_rfl) fun ds p h hp => ?_
  unfold scaleRow_ct at h
  split at h
  · cases h
    exact ⟨noWr, scaleRow_ann _ _ _ , by rw [scaleRow_vc]; exact scaleRow_ok _ _ _  hp⟩
  · cases h

def inverseModulo_p (p : Int) (a : Int) : Post := ⟨primeB p = true ∧ 1 ≤ a ∧ a ≤ p - 1, .c (.int .i64 (ivM p a)), []⟩
def inverseModulo_ct : List AD → Option Post
  | [.c (.int .i64 (p)), .c (.int .i64 (a))] => some (inverseModulo_p p a)
  | _ => none
def inverseModulo_ann (p : Int) (a : Int) : Nat → Option Ann
  | 0 => some (Ann.mk ((Nat)) (fun b => ⟨[(0, .c (.int .i64 (p))), (1, .c (.int .i64 (a))), (5, .c (.int .i64 ((b : Int))))], []⟩) (fun b => 1 ≤ b ∧ b ≤ 6 ∧ ivM p a = srI p a b (7 - b)) (fun b => 7 - b) (fun _ => noAnn))
  | _ => none
def inverseModulo_G : List (Nat × Ctr) := []
def inverseModulo_V (p : Int) (a : Int) : Prop :=
  ((∃ x0 : Nat, ((((1 : Nat) ≤ x0) ∧
 ((x0 ≤ (6 : Nat)) ∧
 (ivM p a = srI p a x0 ((7 : Nat) - x0)))) ∧
 ((p = p) ∧
 ((a = a) ∧
 ((1 : Int) = (↑x0 : Int)))))) ∧
 (∀ x1 : Nat, ((((1 : Nat) ≤ x1) ∧
 ((x1 ≤ (6 : Nat)) ∧
 (ivM p a = srI p a x1 ((7 : Nat) - x1)))) →
 ((InR (a * (↑x1 : Int))) ∧
 ((p ≠ (0 : Int)) ∧
 (BrP (Int.tmod (a * (↑x1 : Int)) p != (1 : Int))
 ((InR ((↑x1 : Int) + (1 : Int))) ∧
 (∃ x2 : Nat, ((((1 : Nat) ≤ x2) ∧
 ((x2 ≤ (6 : Nat)) ∧
 (ivM p a = srI p a x2 ((7 : Nat) - x2)))) ∧
 (((7 : Nat) - x2 < (7 : Nat) - x1) ∧
 ((p = p) ∧
 ((a = a) ∧
 ((↑x1 : Int) + (1 : Int) = (↑x2 : Int))))))))
 (((↑x1 : Int) = ivM p a) ∧
 (True))))))))
theorem inverseModulo_vc (p : Int) (a : Int) : runF Try.prog (gam inverseModulo_G) noWr (inverseModulo_ann p a) Try.f102 (bodyOf Try.f102) [] [.c (.int .i64 (p)), .c (.int .i64 (a))] (inverseModulo_p p a) = inverseModulo_V p a := by kernel_rfl
theorem inverseModulo_ok (p : Int) (a : Int) (hpre : (inverseModulo_p p a).pre) : inverseModulo_V p a := by
  simp only [inverseModulo_p, inverseModulo_V, BrP_iff, true_and, and_true, decide_eq_true_eq, decide_eq_false_iff_not, bne_iff_ne, beq_iff_eq, bne_eq_false_iff_eq, beq_eq_false_iff_ne, Bool.not_eq_true, Bool.not_eq_false, Bool.not_true, Bool.not_false, Bool.not_eq_eq_eq_not, Int.toNat_natCast, List.length_append, List.length_take, List.length_replicate, List.length_set, List.length_map, List.length_drop, List.length_nil, List.length_cons, markL_length, inB, InR, room, bdsOk] at hpre ⊢
  obtain ⟨hp, a1, a2⟩ := hpre
  obtain ⟨p2, p7⟩ := primeB_le hp
  obtain ⟨v1, v2, v3⟩ := ivM_ok hp a1 a2
  refine ⟨⟨1, ⟨by omega, by omega, rfl⟩, rfl⟩, fun b ⟨b1, b2, be⟩ => ?_⟩
  have z := mul_le7 (show 0 ≤ a ∧ a ≤ 7 by omega) (show 0 ≤ (b : Int) ∧ (b : Int) ≤ 7 by omega)
  have st : srI p a b (7 - b) = if (a * (b : Int)).tmod p = 1 then (b : Int) else srI p a (b + 1) (7 - (b + 1)) := by
    rw [show 7 - b = (7 - (b + 1)) + 1 by omega]; rfl
  refine ⟨by omega, by omega, fun h => ?_, fun h => by rw [be, st, if_pos h]⟩
  rw [st, if_neg h] at be
  refine ⟨by omega, b + 1, ⟨by omega, ?_, be⟩, by omega, by omega⟩
  refine Classical.byContradiction fun hc => ?_
  rw [show 7 - (b + 1) = 0 by omega] at be
  have : ivM p a = 0 := be
  omega
theorem inverseModulo_fits : Fits Try.prog 102 ⟨[], inverseModulo_ct⟩ := by
  refine fits_fn (Γ := gam inverseModulo_G) gok_nil Try.func102 (by kernel_rfl) (by kernel_rfl) (by kernel_rfl) fun ds p h hp => ?_
  unfold inverseModulo_ct at h
  split at h
  · cases h
    exact ⟨noWr, inverseModulo_ann _ _ , by rw [inverseModulo_vc]; exact inverseModulo_ok _ _  hp⟩
  · cases h

def l15Inverse_p (a : Int) (p : Int) : Post := ⟨primeB p = true ∧ 1 ≤ a ∧ a ≤ p - 1, .c (.int .i64 (ivM p a)), []⟩
def l15Inverse_ct : List AD → Option Post
  | [.c (.int .i64 (a)), .c (.int .i64 (p))] => some (l15Inverse_p a p)
  | _ => none
def l15Inverse_ann (a : Int) (p : Int) : Nat → Option Ann
  | 0 => some (Ann.mk ((Nat)) (fun b => ⟨[(0, .c (.int .i64 (a))), (1, .c (.int .i64 (p))), (5, .c (.int .i64 ((b : Int))))], []⟩) (fun b => 1 ≤ b ∧ b ≤ 6 ∧ ivM p a = srI p a b (7 - b)) (fun b => 7 - b) (fun _ => noAnn))
  | _ => none
def l15Inverse_G : List (Nat × Ctr) := []
def l15Inverse_V (a : Int) (p : Int) : Prop :=
  ((∃ x0 : Nat, ((((1 : Nat) ≤ x0) ∧
 ((x0 ≤ (6 : Nat)) ∧
 (ivM p a = srI p a x0 ((7 : Nat) - x0)))) ∧
 ((a = a) ∧
 ((p = p) ∧
 ((1 : Int) = (↑x0 : Int)))))) ∧
 (∀ x1 : Nat, ((((1 : Nat) ≤ x1) ∧
 ((x1 ≤ (6 : Nat)) ∧
 (ivM p a = srI p a x1 ((7 : Nat) - x1)))) →
 ((InR (a * (↑x1 : Int))) ∧
 ((p ≠ (0 : Int)) ∧
 (BrP (Int.tmod (a * (↑x1 : Int)) p != (1 : Int))
 ((InR ((↑x1 : Int) + (1 : Int))) ∧
 (∃ x2 : Nat, ((((1 : Nat) ≤ x2) ∧
 ((x2 ≤ (6 : Nat)) ∧
 (ivM p a = srI p a x2 ((7 : Nat) - x2)))) ∧
 (((7 : Nat) - x2 < (7 : Nat) - x1) ∧
 ((a = a) ∧
 ((p = p) ∧
 ((↑x1 : Int) + (1 : Int) = (↑x2 : Int))))))))
 (((↑x1 : Int) = ivM p a) ∧
 (True))))))))
theorem l15Inverse_vc (a : Int) (p : Int) : runF Try.prog (gam l15Inverse_G) noWr (l15Inverse_ann a p) Try.f69 (bodyOf Try.f69) [] [.c (.int .i64 (a)), .c (.int .i64 (p))] (l15Inverse_p a p) = l15Inverse_V a p := by kernel_rfl
theorem l15Inverse_ok (a : Int) (p : Int) (hpre : (l15Inverse_p a p).pre) : l15Inverse_V a p := by
  simp only [l15Inverse_p, l15Inverse_V, BrP_iff, true_and, and_true, decide_eq_true_eq, decide_eq_false_iff_not, bne_iff_ne, beq_iff_eq, bne_eq_false_iff_eq, beq_eq_false_iff_ne, Bool.not_eq_true, Bool.not_eq_false, Bool.not_true, Bool.not_false, Bool.not_eq_eq_eq_not, Int.toNat_natCast, List.length_append, List.length_take, List.length_replicate, List.length_set, List.length_map, List.length_drop, List.length_nil, List.length_cons, markL_length, inB, InR, room, bdsOk] at hpre ⊢
  obtain ⟨hp, a1, a2⟩ := hpre
  obtain ⟨p2, p7⟩ := primeB_le hp
  obtain ⟨v1, v2, v3⟩ := ivM_ok hp a1 a2
  refine ⟨⟨1, ⟨by omega, by omega, rfl⟩, rfl⟩, fun b ⟨b1, b2, be⟩ => ?_⟩
  have z := mul_le7 (show 0 ≤ a ∧ a ≤ 7 by omega) (show 0 ≤ (b : Int) ∧ (b : Int) ≤ 7 by omega)
  have st : srI p a b (7 - b) = if (a * (b : Int)).tmod p = 1 then (b : Int) else srI p a (b + 1) (7 - (b + 1)) := by
    rw [show 7 - b = (7 - (b + 1)) + 1 by omega]; rfl
  refine ⟨by omega, by omega, fun h => ?_, fun h => by rw [be, st, if_pos h]⟩
  rw [st, if_neg h] at be
  refine ⟨by omega, b + 1, ⟨by omega, ?_, be⟩, by omega, by omega⟩
  refine Classical.byContradiction fun hc => ?_
  rw [show 7 - (b + 1) = 0 by omega] at be
  have : ivM p a = 0 := be
  omega
theorem l15Inverse_fits : Fits Try.prog 69 ⟨[], l15Inverse_ct⟩ := by
  refine fits_fn (Γ := gam l15Inverse_G) gok_nil Try.func69 (by kernel_rfl) (by kernel_rfl) (by kernel_rfl) fun ds p h hp => ?_
  unfold l15Inverse_ct at h
  split at h
  · cases h
    exact ⟨noWr, l15Inverse_ann _ _ , by rw [l15Inverse_vc]; exact l15Inverse_ok _ _  hp⟩
  · cases h

theorem rk_facts {t : List (List Int)} {k : Int} (h1 : tabB t = true) (hd : degB (t.length : Int) k = true) : 0 ≤ k ∧ k ≤ 1000 ∧ t.length ^ k.toNat ≤ 512 ∧ (t.length : Int) ^ k.toNat = ((t.length ^ k.toNat : Nat) : Int) ∧ 1 ≤ t.length ^ k.toNat := by
  have d := degB_of hd
  have hn := (tabB_of h1).1
  have e : (t.length : Int) ^ k.toNat = ((t.length ^ k.toNat : Nat) : Int) := (Int.natCast_pow _ _).symm
  rw [e] at d
  exact ⟨d.1, d.2.1, by omega, e, Nat.pow_pos (by omega)⟩

end Go.Sx
