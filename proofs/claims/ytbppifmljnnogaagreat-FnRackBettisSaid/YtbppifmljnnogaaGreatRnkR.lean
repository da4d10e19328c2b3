/- RnkC RnkR -/
import Derived.Test.YtbppifmljnnogaaGreatRnk
import Derived.Test.YtbppifmljnnogaaGreatQb
import Derived.Test.YtbppifmljnnogaaGreatSrt
section
open Go Go.Proofs
namespace Go.Sx
set_option linter.unusedSimpArgs false
set_option linter.unusedVariables false
def idxF (p : Int → Bool) : List Int → Int → Int
  | [], _ => -1
  | x :: l, k => if p x = true then k else idxF p l (k + 1)
theorem idxF_fs0 : ∀ (l : List Int) (k : Int), idxF (fun c => c != 0) l k = fs0 l k
  | [], _ => rfl
  | x :: l, k => by
    simp only [idxF, fs0, idxF_fs0 l (k + 1), bne_iff_ne]
def IndexFunc_p (l : List Int) (q : Int → Prop) (p : Int → Bool) : Post := ⟨room l.length ∧ ∀ x ∈ l, q x, .c (.int .i64 (idxF p l 0)), []⟩
def IndexFunc_ct : List AD → Option Post
  | [.c (.ints .i64 (l)), .fv (.ib q p)] => some (IndexFunc_p l q p)
  | _ => none
def IndexFunc_ann (l : List Int) (q : Int → Prop) (p : Int → Bool) : Nat → Option Ann
  | 0 => some (Ann.mk ((Nat)) (fun i => ⟨[(0, .c (.ro (.ints .i64 (l)))), (1, .fv (.ib q p)), (7, .c (.int .i64 ((l.length : Int)))), (8, .c (.int .i64 ((i : Int))))], []⟩) (fun i => i ≤ l.length ∧ idxF p l 0 = idxF p (l.drop i) (i : Int)) (fun i => l.length - i) (fun _ => noAnn))
  | _ => none
def IndexFunc_G : List (Nat × Ctr) := []
def IndexFunc_V (l : List Int) (q : Int → Prop) (p : Int → Bool) : Prop :=
 ((∃ x0 : Nat, (((x0 ≤ l.length)∧(idxF p l (0:Int) = idxF p (List.drop x0 l) (↑x0:Int)))∧((l = l)∧((FV.ib q p = FV.ib q p)∧(((↑(l.length):Int) = (↑(l.length):Int))∧((0:Int) = (↑x0:Int)))))))∧(∀ x1 : Nat, (((x1 ≤ l.length)∧(idxF p l (0:Int) = idxF p (List.drop x1 l) (↑x1:Int))) → (BrP (decide ((↑x1:Int) < (↑(l.length):Int))) ((inB (↑x1:Int) (l.length))∧((q (l.getD ((↑x1:Int).toNat) (0:Int)))∧(BrP (p (l.getD ((↑x1:Int).toNat) (0:Int))) (((↑x1:Int) = idxF p l (0:Int))∧True) ((InR ((↑x1:Int) + (1:Int)))∧(∃ x2 : Nat, (((x2 ≤ l.length)∧(idxF p l (0:Int) = idxF p (List.drop x2 l) (↑x2:Int)))∧((l.length - x2 < l.length - x1)∧((l = l)∧((FV.ib q p = FV.ib q p)∧(((↑(l.length):Int) = (↑(l.length):Int))∧((↑x1:Int) + (1:Int) = (↑x2:Int)))))))))))) (((-1:Int) = idxF p l (0:Int))∧True)))))
theorem IndexFunc_vc (l : List Int) (q : Int → Prop) (p : Int → Bool) : runF Tryz.prog (gam IndexFunc_G) noWr (IndexFunc_ann l q p) Tryz.f151 (bodyOf Tryz.f151) [] [.c (.ints .i64 (l)), .fv (.ib q p)] (IndexFunc_p l q p) = IndexFunc_V l q p := by kernel_rfl
theorem IndexFunc_ok (l : List Int) (q : Int → Prop) (p : Int → Bool) (hpre : (IndexFunc_p l q p).pre) : IndexFunc_V l q p := by
  simp only [IndexFunc_p, IndexFunc_V, BrP_iff, u1, u2, u3, u4, u5, u6, u7, u8, u9, v1, v2, v3, v4, v5, v6, v7, v8, v9, w1, w2, w3, w4, markL_length, inB, InR, room, bdsOk] at hpre ⊢
  obtain ⟨hl, hq⟩ := hpre
  refine ⟨⟨0, ⟨by omega, rfl⟩, rfl⟩, fun i ⟨hi, he⟩ => ⟨fun h => ?_, fun h => ?_⟩⟩
  · rw [drop_cons' l 0 i (by omega)] at he
    simp only [idxF] at he
    refine ⟨by omega, hq _ (getD_mem l 0 i (by omega)), fun h1 => ?_, fun h1 => ⟨by omega, i + 1, ⟨by omega, ?_⟩, by omega, by omega⟩⟩
    · rw [he, if_pos h1]
    · rw [he, if_neg (by rw [h1]; exact Bool.false_ne_true)]; simp
  · rw [he, List.drop_of_length_le (by omega)]; rfl
theorem IndexFunc_fits : Fits Tryz.prog 151 ⟨[], IndexFunc_ct⟩ := by
  refine ffn (Γ := gam IndexFunc_G) gok_nil Tryz.func151 fun ds p h hp => ?_
  unfold IndexFunc_ct at h
  split at h
  · cases h
    exact ⟨noWr, IndexFunc_ann _ _ _ , by rw [IndexFunc_vc]; exact IndexFunc_ok _ _ _  hp⟩
  · cases h
def leading1_p (x : Int) : Post := ⟨True, .c (.bool (x != 0)), []⟩
def leading1_ct : List AD → Option Post
  | [.c (.int .i64 (x))] => some (leading1_p x)
  | _ => none
def leading1_G : List (Nat × Ctr) := []
def leading1_V (x : Int) : Prop :=
 (((x != (0:Int)) = (x != (0:Int)))∧True)
theorem leading1_vc (x : Int) : runF Tryz.prog (gam leading1_G) noWr noAnn Tryz.f152 (bodyOf Tryz.f152) [] [.c (.int .i64 (x))] (leading1_p x) = leading1_V x := by kernel_rfl
theorem leading1_ok (x : Int) (hpre : (leading1_p x).pre) : leading1_V x := by
  simp only [leading1_p, leading1_V, BrP_iff, u1, u2, u3, u4, u5, u6, u7, u8, u9, v1, v2, v3, v4, v5, v6, v7, v8, v9, w1, w2, w3, w4, markL_length, inB, InR, room, bdsOk] at hpre ⊢
theorem leading1_fits : Fits Tryz.prog 152 ⟨[], leading1_ct⟩ := by
  refine ffn (Γ := gam leading1_G) gok_nil Tryz.func152 fun ds p h hp => ?_
  unfold leading1_ct at h
  split at h
  · cases h
    exact ⟨noWr, noAnn, by rw [leading1_vc]; exact leading1_ok _  hp⟩
  · cases h
def leading_p (l : List Int) : Post := ⟨l.length ≤ 1000, .c (.int .i64 (ldF l)), []⟩
def leading_ct : List AD → Option Post
  | [.c (.ints .i64 (l))] => some (leading_p l)
  | _ => none
def leading_G : List (Nat × Ctr) := [(151, ⟨[], IndexFunc_ct⟩), (152, ⟨[], leading1_ct⟩)]
def leading_V (l : List Int) : Prop :=
 ((((room (l.length))∧(∀ (x:Int), x ∈ l → True))∧True)∧((idxF (fun (x:Int) => x != (0:Int)) l (0:Int) = ldF l)∧True))
theorem leading_vc (l : List Int) : runF Tryz.prog (gam leading_G) noWr noAnn Tryz.f126 (bodyOf Tryz.f126) [] [.c (.ints .i64 (l))] (leading_p l) = leading_V l := by kernel_rfl
theorem leading_ok (l : List Int) (hpre : (leading_p l).pre) : leading_V l := by
  simp only [leading_p, leading_V, BrP_iff, u1, u2, u3, u4, u5, u6, u7, u8, u9, v1, v2, v3, v4, v5, v6, v7, v8, v9, w1, w2, w3, w4, markL_length, inB, InR, room, bdsOk] at hpre ⊢
  exact ⟨⟨by omega, fun _ _ => trivial⟩, idxF_fs0 l 0⟩
theorem leading_fits : Fits Tryz.prog 126 ⟨[], leading_ct⟩ := by
  refine ffn (Γ := gam leading_G) (gok_cons IndexFunc_fits (gok_cons leading1_fits gok_nil)) Tryz.func126 fun ds p h hp => ?_
  unfold leading_ct at h
  split at h
  · cases h
    exact ⟨noWr, noAnn, by rw [leading_vc]; exact leading_ok _  hp⟩
  · cases h
def l15First_p (l : List Int) : Post := ⟨l.length ≤ 1000, .c (.int .i64 (ldF l)), []⟩
def l15First_ct : List AD → Option Post
  | [.c (.ints .i64 (l))] => some (l15First_p l)
  | _ => none
def l15First_ann (l : List Int) : Nat → Option Ann
  | 0 => some (Ann.mk ((Nat)) (fun i => ⟨[(0, .c (.ro (.ints .i64 (l)))), (3, .c (.int .i64 ((i : Int))))], []⟩) (fun i => i ≤ l.length ∧ ldF l = fs0 (l.drop i) (i : Int)) (fun i => l.length - i) (fun _ => noAnn))
  | _ => none
def l15First_G : List (Nat × Ctr) := []
def l15First_V (l : List Int) : Prop :=
 ((∃ x0 : Nat, (((x0 ≤ l.length)∧(ldF l = fs0 (List.drop x0 l) (↑x0:Int)))∧((l = l)∧((0:Int) = (↑x0:Int)))))∧(∀ x1 : Nat, (((x1 ≤ l.length)∧(ldF l = fs0 (List.drop x1 l) (↑x1:Int))) → (BrP (decide ((↑x1:Int) < (↑(l.length):Int))) ((inB (↑x1:Int) (l.length))∧(BrP (l.getD ((↑x1:Int).toNat) (0:Int) != (0:Int)) (((↑x1:Int) = ldF l)∧True) ((InR ((↑x1:Int) + (1:Int)))∧(∃ x2 : Nat, (((x2 ≤ l.length)∧(ldF l = fs0 (List.drop x2 l) (↑x2:Int)))∧((l.length - x2 < l.length - x1)∧((l = l)∧((↑x1:Int) + (1:Int) = (↑x2:Int))))))))) (((-1:Int) = ldF l)∧True)))))
theorem l15First_vc (l : List Int) : runF Tryz.prog (gam l15First_G) noWr (l15First_ann l) Tryz.f135 (bodyOf Tryz.f135) [] [.c (.ints .i64 (l))] (l15First_p l) = l15First_V l := by kernel_rfl
theorem l15First_ok (l : List Int) (hpre : (l15First_p l).pre) : l15First_V l := by
  simp only [l15First_p, l15First_V, BrP_iff, u1, u2, u3, u4, u5, u6, u7, u8, u9, v1, v2, v3, v4, v5, v6, v7, v8, v9, w1, w2, w3, w4, markL_length, inB, InR, room, bdsOk] at hpre ⊢
  refine ⟨⟨0, ⟨by omega, rfl⟩, rfl⟩, fun i ⟨hi, he⟩ => ⟨fun h => ?_, fun h => ?_⟩⟩
  · rw [drop_cons' l 0 i (by omega)] at he
    simp only [fs0] at he
    refine ⟨by omega, fun h1 => ?_, fun h1 => ⟨by omega, i + 1, ⟨by omega, ?_⟩, by omega, by omega⟩⟩
    · rw [he, if_pos h1]
    · rw [he, if_neg (by omega)]; simp
  · rw [he, List.drop_of_length_le (by omega)]; rfl
theorem l15First_fits : Fits Tryz.prog 135 ⟨[], l15First_ct⟩ := by
  refine ffn (Γ := gam l15First_G) gok_nil Tryz.func135 fun ds p h hp => ?_
  unfold l15First_ct at h
  split at h
  · cases h
    exact ⟨noWr, l15First_ann _ , by rw [l15First_vc]; exact l15First_ok _  hp⟩
  · cases h
def twR (p : Int) (a b : List Int) : Prop := 2 ≤ p ∧ p ≤ 7 ∧ inP p a ∧ inP p b ∧ a.length = b.length ∧ a.length ≤ 1000
theorem mul_le7 {x y : Int} (h1 : 0 ≤ x ∧ x ≤ 7) (h2 : 0 ≤ y ∧ y ≤ 7) : 0 ≤ x * y ∧ x * y ≤ 49 :=
  ⟨Int.mul_nonneg h1.1 h2.1, by
    have a := Int.mul_le_mul_of_nonneg_right h1.2 h2.1
    omega⟩
def addRow_p (p : Int) (a : List Int) (b : List Int) (m : Int) : Post := ⟨twR p a b ∧ 0 ≤ m ∧ m ≤ 7, .tup [], [.ints 2 .i64 (stF p m b a)]⟩
def addRow_ct : List AD → Option Post
  | [.c (.int .i64 (p)), .c (.ints .i64 (a)), .c (.ints .i64 (b)), .c (.int .i64 (m))] => some (addRow_p p a b m)
  | _ => none
def addRow_ann (p : Int) (a : List Int) (b : List Int) (m : Int) : Nat → Option Ann
  | 0 => some (Ann.mk ((Nat)) (fun i => ⟨[(0, .c (.int .i64 (p))), (1, .c (.own (716))), (3, .c (.int .i64 (m))), (10, .c (.ro (.ints .i64 (b)))), (11, .c (.int .i64 ((b.length : Int)))), (12, .c (.int .i64 ((i : Int))))], [(716, some (.ints 2 .i64 ((stF p m b a).take i ++ a.drop i)))]⟩) (fun i => i ≤ b.length) (fun i => b.length - i) (fun _ => noAnn))
  | _ => none
def addRow_G : List (Nat × Ctr) := []
def addRow_V (p : Int) (a : List Int) (b : List Int) (m : Int) : Prop :=
 ((∃ x0 : Nat, ((x0 ≤ b.length)∧((p = p)∧((m = m)∧((b = b)∧(((↑(b.length):Int) = (↑(b.length):Int))∧(((0:Int) = (↑x0:Int))∧(a = List.take x0 (stF p m b a) ++ List.drop x0 a))))))))∧(∀ x1 : Nat, ((x1 ≤ b.length) → (BrP (decide ((↑x1:Int) < (↑(b.length):Int))) ((inB (↑x1:Int) (b.length))∧((inB (↑x1:Int) ((List.take x1 (stF p m b a) ++ List.drop x1 a).length))∧((InR (m * b.getD ((↑x1:Int).toNat) (0:Int)))∧((InR ((List.take x1 (stF p m b a) ++ List.drop x1 a).getD ((↑x1:Int).toNat) (0:Int) + m * b.getD ((↑x1:Int).toNat) (0:Int)))∧((p ≠ (0:Int))∧((inB (↑x1:Int) ((List.take x1 (stF p m b a) ++ List.drop x1 a).length))∧((InR ((↑x1:Int) + (1:Int)))∧(∃ x2 : Nat, ((x2 ≤ b.length)∧((b.length - x2 < b.length - x1)∧((p = p)∧((m = m)∧((b = b)∧(((↑(b.length):Int) = (↑(b.length):Int))∧(((↑x1:Int) + (1:Int) = (↑x2:Int))∧(List.set (List.take x1 (stF p m b a) ++ List.drop x1 a) ((↑x1:Int).toNat) (Int.tmod ((List.take x1 (stF p m b a) ++ List.drop x1 a).getD ((↑x1:Int).toNat) (0:Int) + m * b.getD ((↑x1:Int).toNat) (0:Int)) p) = List.take x2 (stF p m b a) ++ List.drop x2 a)))))))))))))))) (True∧((List.take x1 (stF p m b a) ++ List.drop x1 a = stF p m b a)∧True))))))
theorem addRow_vc (p : Int) (a : List Int) (b : List Int) (m : Int) : runF Tryz.prog (gam addRow_G) noWr (addRow_ann p a b m) Tryz.f127 (bodyOf Tryz.f127) [(1, 0)] [.c (.int .i64 (p)), .c (.ints .i64 (a)), .c (.ints .i64 (b)), .c (.int .i64 (m))] (addRow_p p a b m) = addRow_V p a b m := by kernel_rfl
theorem addRow_ok (p : Int) (a : List Int) (b : List Int) (m : Int) (hpre : (addRow_p p a b m).pre) : addRow_V p a b m := by
  simp only [addRow_p, addRow_V, BrP_iff, u1, u2, u3, u4, u5, u6, u7, u8, u9, v1, v2, v3, v4, v5, v6, v7, v8, v9, w1, w2, w3, w4, markL_length, inB, InR, room, bdsOk] at hpre ⊢
  obtain ⟨⟨p2, p7, ha, hb, hl, h1⟩, m0, m7⟩ := hpre
  have sl := stF_length p m b a
  refine ⟨⟨0, by omega, rfl, by simp⟩, fun i hi => ⟨fun h => ?_, fun h => by rw [List.take_of_length_le (by omega), List.drop_of_length_le (by omega), List.append_nil]⟩⟩
  have tl : ((stF p m b a).take i).length = i := by rw [List.length_take]; omega
  have x := ha i (by omega)
  have y := hb i (by omega)
  have z := mul_le7 ⟨m0, m7⟩ (show 0 ≤ b.getD i 0 ∧ b.getD i 0 ≤ 7 by omega)
  rw [drop_cons' a 0 i (by omega), at_getD _ _ _ _ _ tl, at_set _ _ _ _ _ tl]
  refine ⟨by omega, by omega, by omega, by omega, by omega, by omega, by omega, i + 1, by omega, by omega, by omega, ?_⟩
  rw [← take_snoc (stF p m b a) 0 i (by omega), stF_get (by omega), List.append_assoc]; rfl
theorem addRow_fits : Fits Tryz.prog 127 ⟨[(1, 0)], addRow_ct⟩ := by
  refine ffn (Γ := gam addRow_G) gok_nil Tryz.func127 fun ds p h hp => ?_
  unfold addRow_ct at h
  split at h
  · cases h
    exact ⟨noWr, addRow_ann _ _ _ _ , by rw [addRow_vc]; exact addRow_ok _ _ _ _  hp⟩
  · cases h
def l15Less_p (a : List Int) (b : List Int) (f : Int) (p : Int) : Post := ⟨twR p a b ∧ 0 ≤ p - f ∧ p - f ≤ 7 ∧ -100 ≤ f ∧ f ≤ 100, .c (.ints 2 .i64 (stF p (p - f) b a)), []⟩
def l15Less_ct : List AD → Option Post
  | [.c (.ints .i64 (a)), .c (.ints .i64 (b)), .c (.int .i64 (f)), .c (.int .i64 (p))] => some (l15Less_p a b f p)
  | _ => none
def l15Less_ann (a : List Int) (b : List Int) (f : Int) (p : Int) : Nat → Option Ann
  | 0 => some (Ann.mk ((Nat)) (fun i => ⟨[(0, .c (.ro (.ints .i64 (a)))), (1, .c (.ro (.ints .i64 (b)))), (2, .c (.int .i64 (f))), (3, .c (.int .i64 (p))), (9, .c (.own (11))), (10, .c (.int .i64 ((i : Int))))], [(11, some (.ints 2 .i64 ((stF p (p - f) b a).take i)))]⟩) (fun i => i ≤ a.length) (fun i => a.length - i) (fun _ => noAnn))
  | _ => none
def l15Less_G : List (Nat × Ctr) := []
def l15Less_V (a : List Int) (b : List Int) (f : Int) (p : Int) : Prop :=
 ((∃ x0 : Nat, ((x0 ≤ a.length)∧((a = a)∧((b = b)∧((f = f)∧((p = p)∧(((0:Int) = (↑x0:Int))∧([] = List.take x0 (stF p (p - f) b a)))))))))∧(∀ x1 : Nat, ((x1 ≤ a.length) → (BrP (decide ((↑x1:Int) < (↑(a.length):Int))) ((inB (↑x1:Int) (a.length))∧((InR (p - f))∧((inB (↑x1:Int) (b.length))∧((InR ((p - f) * b.getD ((↑x1:Int).toNat) (0:Int)))∧((InR (a.getD ((↑x1:Int).toNat) (0:Int) + (p - f) * b.getD ((↑x1:Int).toNat) (0:Int)))∧((p ≠ (0:Int))∧((room ((List.take x1 (stF p (p - f) b a)).length + [Int.tmod (a.getD ((↑x1:Int).toNat) (0:Int) + (p - f) * b.getD ((↑x1:Int).toNat) (0:Int)) p].length))∧((InR ((↑x1:Int) + (1:Int)))∧(∃ x2 : Nat, ((x2 ≤ a.length)∧((a.length - x2 < a.length - x1)∧((a = a)∧((b = b)∧((f = f)∧((p = p)∧(((↑x1:Int) + (1:Int) = (↑x2:Int))∧(List.take x1 (stF p (p - f) b a) ++ [Int.tmod (a.getD ((↑x1:Int).toNat) (0:Int) + (p - f) * b.getD ((↑x1:Int).toNat) (0:Int)) p] = List.take x2 (stF p (p - f) b a)))))))))))))))))) ((List.take x1 (stF p (p - f) b a) = stF p (p - f) b a)∧True)))))
theorem l15Less_vc (a : List Int) (b : List Int) (f : Int) (p : Int) : runF Tryz.prog (gam l15Less_G) noWr (l15Less_ann a b f p) Tryz.f134 (bodyOf Tryz.f134) [] [.c (.ints .i64 (a)), .c (.ints .i64 (b)), .c (.int .i64 (f)), .c (.int .i64 (p))] (l15Less_p a b f p) = l15Less_V a b f p := by kernel_rfl
theorem l15Less_ok (a : List Int) (b : List Int) (f : Int) (p : Int) (hpre : (l15Less_p a b f p).pre) : l15Less_V a b f p := by
  simp only [l15Less_p, l15Less_V, BrP_iff, u1, u2, u3, u4, u5, u6, u7, u8, u9, v1, v2, v3, v4, v5, v6, v7, v8, v9, w1, w2, w3, w4, markL_length, inB, InR, room, bdsOk] at hpre ⊢
  obtain ⟨⟨p2, p7, ha, hb, hl, h1⟩, m0, m7, f0, f1⟩ := hpre
  have sl := stF_length p (p - f) b a
  refine ⟨⟨0, by omega, rfl, rfl⟩, fun i hi => ⟨fun h => ?_, fun h => by rw [List.take_of_length_le (by omega)]⟩⟩
  have x := ha i (by omega)
  have y := hb i (by omega)
  have z := mul_le7 ⟨m0, m7⟩ (show 0 ≤ b.getD i 0 ∧ b.getD i 0 ≤ 7 by omega)
  refine ⟨by omega, by omega, by omega, by omega, by omega, by omega, by omega, by omega, i + 1, by omega, by omega, by omega, ?_⟩
  rw [← take_snoc (stF p (p - f) b a) 0 i (by omega), stF_get (by omega)]
theorem l15Less_fits : Fits Tryz.prog 134 ⟨[], l15Less_ct⟩ := by
  refine ffn (Γ := gam l15Less_G) gok_nil Tryz.func134 fun ds p h hp => ?_
  unfold l15Less_ct at h
  split at h
  · cases h
    exact ⟨noWr, l15Less_ann _ _ _ _ , by rw [l15Less_vc]; exact l15Less_ok _ _ _ _  hp⟩
  · cases h
def scaleRow_p (p : Int) (r : List Int) (m : Int) : Post := ⟨2 ≤ p ∧ p ≤ 7 ∧ inP p r ∧ r.length ≤ 1000 ∧ 0 ≤ m ∧ m ≤ 7, .tup [], [.ints 2 .i64 (scF p m r)]⟩
def scaleRow_ct : List AD → Option Post
  | [.c (.int .i64 (p)), .c (.ints .i64 (r)), .c (.int .i64 (m))] => some (scaleRow_p p r m)
  | _ => none
def scaleRow_ann (p : Int) (r : List Int) (m : Int) : Nat → Option Ann
  | 0 => some (Ann.mk ((Nat)) (fun i => ⟨[(0, .c (.int .i64 (p))), (1, .c (.own (716))), (2, .c (.int .i64 (m))), (8, .c (.int .i64 ((r.length : Int)))), (9, .c (.int .i64 ((i : Int))))], [(716, some (.ints 2 .i64 ((scF p m r).take i ++ r.drop i)))]⟩) (fun i => i ≤ r.length) (fun i => r.length - i) (fun _ => noAnn))
  | _ => none
def scaleRow_G : List (Nat × Ctr) := []
def scaleRow_V (p : Int) (r : List Int) (m : Int) : Prop :=
 ((∃ x0 : Nat, ((x0 ≤ r.length)∧((p = p)∧((m = m)∧(((↑(r.length):Int) = (↑(r.length):Int))∧(((0:Int) = (↑x0:Int))∧(r = List.take x0 (scF p m r) ++ List.drop x0 r)))))))∧(∀ x1 : Nat, ((x1 ≤ r.length) → (BrP (decide ((↑x1:Int) < (↑(r.length):Int))) ((inB (↑x1:Int) ((List.take x1 (scF p m r) ++ List.drop x1 r).length))∧((InR ((List.take x1 (scF p m r) ++ List.drop x1 r).getD ((↑x1:Int).toNat) (0:Int) * m))∧((p ≠ (0:Int))∧((inB (↑x1:Int) ((List.take x1 (scF p m r) ++ List.drop x1 r).length))∧((InR ((↑x1:Int) + (1:Int)))∧(∃ x2 : Nat, ((x2 ≤ r.length)∧((r.length - x2 < r.length - x1)∧((p = p)∧((m = m)∧(((↑(r.length):Int) = (↑(r.length):Int))∧(((↑x1:Int) + (1:Int) = (↑x2:Int))∧(List.set (List.take x1 (scF p m r) ++ List.drop x1 r) ((↑x1:Int).toNat) (Int.tmod ((List.take x1 (scF p m r) ++ List.drop x1 r).getD ((↑x1:Int).toNat) (0:Int) * m) p) = List.take x2 (scF p m r) ++ List.drop x2 r))))))))))))) (True∧((List.take x1 (scF p m r) ++ List.drop x1 r = scF p m r)∧True))))))
theorem scaleRow_vc (p : Int) (r : List Int) (m : Int) : runF Tryz.prog (gam scaleRow_G) noWr (scaleRow_ann p r m) Tryz.f128 (bodyOf Tryz.f128) [(1, 0)] [.c (.int .i64 (p)), .c (.ints .i64 (r)), .c (.int .i64 (m))] (scaleRow_p p r m) = scaleRow_V p r m := by kernel_rfl
theorem scaleRow_ok (p : Int) (r : List Int) (m : Int) (hpre : (scaleRow_p p r m).pre) : scaleRow_V p r m := by
  simp only [scaleRow_p, scaleRow_V, BrP_iff, u1, u2, u3, u4, u5, u6, u7, u8, u9, v1, v2, v3, v4, v5, v6, v7, v8, v9, w1, w2, w3, w4, markL_length, inB, InR, room, bdsOk] at hpre ⊢
  obtain ⟨p2, p7, hr, h1, m0, m7⟩ := hpre
  have sl : (scF p m r).length = r.length := tab_length _ _
  refine ⟨⟨0, by omega, rfl, by simp⟩, fun i hi => ⟨fun h => ?_, fun h => by rw [List.take_of_length_le (by omega), List.drop_of_length_le (by omega), List.append_nil]⟩⟩
  have tl : ((scF p m r).take i).length = i := by rw [List.length_take]; omega
  have x := hr i (by omega)
  have z := mul_le7 (show 0 ≤ r.getD i 0 ∧ r.getD i 0 ≤ 7 by omega) ⟨m0, m7⟩
  rw [drop_cons' r 0 i (by omega), at_getD _ _ _ _ _ tl, at_set _ _ _ _ _ tl]
  refine ⟨by omega, by omega, by omega, by omega, by omega, i + 1, by omega, by omega, by omega, ?_⟩
  rw [← take_snoc (scF p m r) 0 i (by omega), scF_get (by omega), List.append_assoc]; rfl
theorem scaleRow_fits : Fits Tryz.prog 128 ⟨[(1, 0)], scaleRow_ct⟩ := by
  refine ffn (Γ := gam scaleRow_G) gok_nil Tryz.func128 fun ds p h hp => ?_
  unfold scaleRow_ct at h
  split at h
  · cases h
    exact ⟨noWr, scaleRow_ann _ _ _ , by rw [scaleRow_vc]; exact scaleRow_ok _ _ _  hp⟩
  · cases h
def inverseModulo_p (p : Int) (a : Int) : Post := ⟨primeB p = true ∧ 1 ≤ a ∧ a ≤ p - 1, .c (.int .i64 (ivM p a)), []⟩
def inverseModulo_ct : List AD → Option Post
  | [.c (.int .i64 (p)), .c (.int .i64 (a))] => some (inverseModulo_p p a)
  | _ => none
def inverseModulo_ann (p : Int) (a : Int) : Nat → Option Ann
  | 0 => some (Ann.mk ((Nat)) (fun b => ⟨[(0, .c (.int .i64 (p))), (1, .c (.int .i64 (a))), (5, .c (.int .i64 ((b : Int))))], []⟩) (fun b => 1 ≤ b ∧ b ≤ 6 ∧ ivM p a = srI p a b (7 - b)) (fun b => 7 - b) (fun _ => noAnn))
  | _ => none
def inverseModulo_G : List (Nat × Ctr) := []
def inverseModulo_V (p : Int) (a : Int) : Prop :=
 ((∃ x0 : Nat, ((((1:Nat) ≤ x0)∧((x0 ≤ (6:Nat))∧(ivM p a = srI p a x0 ((7:Nat) - x0))))∧((p = p)∧((a = a)∧((1:Int) = (↑x0:Int))))))∧(∀ x1 : Nat, ((((1:Nat) ≤ x1)∧((x1 ≤ (6:Nat))∧(ivM p a = srI p a x1 ((7:Nat) - x1)))) → ((InR (a * (↑x1:Int)))∧((p ≠ (0:Int))∧(BrP (Int.tmod (a * (↑x1:Int)) p != (1:Int)) ((InR ((↑x1:Int) + (1:Int)))∧(∃ x2 : Nat, ((((1:Nat) ≤ x2)∧((x2 ≤ (6:Nat))∧(ivM p a = srI p a x2 ((7:Nat) - x2))))∧(((7:Nat) - x2 < (7:Nat) - x1)∧((p = p)∧((a = a)∧((↑x1:Int) + (1:Int) = (↑x2:Int)))))))) (((↑x1:Int) = ivM p a)∧True)))))))
theorem inverseModulo_vc (p : Int) (a : Int) : runF Tryz.prog (gam inverseModulo_G) noWr (inverseModulo_ann p a) Tryz.f129 (bodyOf Tryz.f129) [] [.c (.int .i64 (p)), .c (.int .i64 (a))] (inverseModulo_p p a) = inverseModulo_V p a := by kernel_rfl
theorem inverseModulo_ok (p : Int) (a : Int) (hpre : (inverseModulo_p p a).pre) : inverseModulo_V p a := by
  simp only [inverseModulo_p, inverseModulo_V, BrP_iff, u1, u2, u3, u4, u5, u6, u7, u8, u9, v1, v2, v3, v4, v5, v6, v7, v8, v9, w1, w2, w3, w4, markL_length, inB, InR, room, bdsOk] at hpre ⊢
  obtain ⟨hp, a1, a2⟩ := hpre
  obtain ⟨p2, p7⟩ := primeB_le hp
  obtain ⟨v1, v2, v3⟩ := ivM_ok hp a1 a2
  refine ⟨⟨1, ⟨by omega, by omega, rfl⟩, rfl⟩, fun b ⟨b1, b2, be⟩ => ?_⟩
  have z := mul_le7 (show 0 ≤ a ∧ a ≤ 7 by omega) (show 0 ≤ (b : Int) ∧ (b : Int) ≤ 7 by omega)
  have st : srI p a b (7 - b) = if (a * (b : Int)).tmod p = 1 then (b : Int) else srI p a (b + 1) (7 - (b + 1)) := by
    rw [show 7 - b = (7 - (b + 1)) + 1 by omega]; rfl
  refine ⟨by omega, by omega, fun h => ?_, fun h => by rw [be, st, if_pos h]⟩
  rw [st, if_neg h] at be
  refine ⟨by omega, b + 1, ⟨by omega, ?_, be⟩, by omega, by omega⟩
  refine Classical.byContradiction fun hc => ?_
  rw [show 7 - (b + 1) = 0 by omega] at be
  have : ivM p a = 0 := be
  omega
theorem inverseModulo_fits : Fits Tryz.prog 129 ⟨[], inverseModulo_ct⟩ := by
  refine ffn (Γ := gam inverseModulo_G) gok_nil Tryz.func129 fun ds p h hp => ?_
  unfold inverseModulo_ct at h
  split at h
  · cases h
    exact ⟨noWr, inverseModulo_ann _ _ , by rw [inverseModulo_vc]; exact inverseModulo_ok _ _  hp⟩
  · cases h
def l15Inverse_p (a : Int) (p : Int) : Post := ⟨primeB p = true ∧ 1 ≤ a ∧ a ≤ p - 1, .c (.int .i64 (ivM p a)), []⟩
def l15Inverse_ct : List AD → Option Post
  | [.c (.int .i64 (a)), .c (.int .i64 (p))] => some (l15Inverse_p a p)
  | _ => none
def l15Inverse_ann (a : Int) (p : Int) : Nat → Option Ann
  | 0 => some (Ann.mk ((Nat)) (fun b => ⟨[(0, .c (.int .i64 (a))), (1, .c (.int .i64 (p))), (5, .c (.int .i64 ((b : Int))))], []⟩) (fun b => 1 ≤ b ∧ b ≤ 6 ∧ ivM p a = srI p a b (7 - b)) (fun b => 7 - b) (fun _ => noAnn))
  | _ => none
def l15Inverse_G : List (Nat × Ctr) := []
def l15Inverse_V (a : Int) (p : Int) : Prop :=
 ((∃ x0 : Nat, ((((1:Nat) ≤ x0)∧((x0 ≤ (6:Nat))∧(ivM p a = srI p a x0 ((7:Nat) - x0))))∧((a = a)∧((p = p)∧((1:Int) = (↑x0:Int))))))∧(∀ x1 : Nat, ((((1:Nat) ≤ x1)∧((x1 ≤ (6:Nat))∧(ivM p a = srI p a x1 ((7:Nat) - x1)))) → ((InR (a * (↑x1:Int)))∧((p ≠ (0:Int))∧(BrP (Int.tmod (a * (↑x1:Int)) p != (1:Int)) ((InR ((↑x1:Int) + (1:Int)))∧(∃ x2 : Nat, ((((1:Nat) ≤ x2)∧((x2 ≤ (6:Nat))∧(ivM p a = srI p a x2 ((7:Nat) - x2))))∧(((7:Nat) - x2 < (7:Nat) - x1)∧((a = a)∧((p = p)∧((↑x1:Int) + (1:Int) = (↑x2:Int)))))))) (((↑x1:Int) = ivM p a)∧True)))))))
theorem l15Inverse_vc (a : Int) (p : Int) : runF Tryz.prog (gam l15Inverse_G) noWr (l15Inverse_ann a p) Tryz.f136 (bodyOf Tryz.f136) [] [.c (.int .i64 (a)), .c (.int .i64 (p))] (l15Inverse_p a p) = l15Inverse_V a p := by kernel_rfl
theorem l15Inverse_ok (a : Int) (p : Int) (hpre : (l15Inverse_p a p).pre) : l15Inverse_V a p := by
  simp only [l15Inverse_p, l15Inverse_V, BrP_iff, u1, u2, u3, u4, u5, u6, u7, u8, u9, v1, v2, v3, v4, v5, v6, v7, v8, v9, w1, w2, w3, w4, markL_length, inB, InR, room, bdsOk] at hpre ⊢
  obtain ⟨hp, a1, a2⟩ := hpre
  obtain ⟨p2, p7⟩ := primeB_le hp
  obtain ⟨v1, v2, v3⟩ := ivM_ok hp a1 a2
  refine ⟨⟨1, ⟨by omega, by omega, rfl⟩, rfl⟩, fun b ⟨b1, b2, be⟩ => ?_⟩
  have z := mul_le7 (show 0 ≤ a ∧ a ≤ 7 by omega) (show 0 ≤ (b : Int) ∧ (b : Int) ≤ 7 by omega)
  have st : srI p a b (7 - b) = if (a * (b : Int)).tmod p = 1 then (b : Int) else srI p a (b + 1) (7 - (b + 1)) := by
    rw [show 7 - b = (7 - (b + 1)) + 1 by omega]; rfl
  refine ⟨by omega, by omega, fun h => ?_, fun h => by rw [be, st, if_pos h]⟩
  rw [st, if_neg h] at be
  refine ⟨by omega, b + 1, ⟨by omega, ?_, be⟩, by omega, by omega⟩
  refine Classical.byContradiction fun hc => ?_
  rw [show 7 - (b + 1) = 0 by omega] at be
  have : ivM p a = 0 := be
  omega
theorem l15Inverse_fits : Fits Tryz.prog 136 ⟨[], l15Inverse_ct⟩ := by
  refine ffn (Γ := gam l15Inverse_G) gok_nil Tryz.func136 fun ds p h hp => ?_
  unfold l15Inverse_ct at h
  split at h
  · cases h
    exact ⟨noWr, l15Inverse_ann _ _ , by rw [l15Inverse_vc]; exact l15Inverse_ok _ _  hp⟩
  · cases h
theorem rk_facts {t : List (List Int)} {k : Int} (h1 : tabB t = true) (hd : degB (t.length : Int) k = true) : 0 ≤ k ∧ k ≤ 1000 ∧ t.length ^ k.toNat ≤ 512 ∧ (t.length : Int) ^ k.toNat = ((t.length ^ k.toNat : Nat) : Int) ∧ 1 ≤ t.length ^ k.toNat := by
  have d := degB_of hd
  have hn := (tabB_of h1).1
  have e : (t.length : Int) ^ k.toNat = ((t.length ^ k.toNat : Nat) : Int) := (Int.natCast_pow _ _).symm
  rw [e] at d
  exact ⟨d.1, d.2.1, by omega, e, Nat.pow_pos (by omega)⟩
end Go.Sx
end
section
open Go Go.Proofs
namespace Go.Sx
set_option linter.unusedSimpArgs false
set_option linter.unusedVariables false
def rdR (p : Int) (R : List (List Int)) (i : Nat) : List Int := redN p (imN p R i) (ldN (imN p R i)) (R.getD i []) (imN p R i).length
def nrR (p : Int) (R : List (List Int)) (i : Nat) : List Int := scF p (ivM p ((rdR p R i).getD (ldF (rdR p R i)).toNat 0)) (rdR p R i)
theorem imN_len (p : Int) (R : List (List Int)) : ∀ i, (imN p R i).length ≤ i
  | 0 => Nat.le_refl _
  | i + 1 => by
    have := imN_len p R i
    simp only [imN]
    split
    · omega
    · simp; omega
theorem upd_get (f : List Int → List Int) (B : List (List Int)) {k : Nat} (h : k < B.length) : ((B.take k).map f ++ B.drop k).getD k [] = B.getD k [] := by
  rw [drop_cons' B [] k h]
  exact at_getD _ _ _ _ _ (by rw [List.length_map, List.length_take]; omega)
theorem upd_set (f : List Int → List Int) (B : List (List Int)) {k : Nat} (h : k < B.length) : ((B.take k).map f ++ B.drop k).set k (f (B.getD k [])) = (B.take (k + 1)).map f ++ B.drop (k + 1) := by
  rw [drop_cons' B [] k h, at_set _ _ _ _ _ (by rw [List.length_map, List.length_take]; omega), take_row B h, List.map_append, List.append_assoc]; rfl
theorem set_self (l : List (List Int)) (k : Nat) : l.set k (l.getD k []) = l := by
  apply List.ext_getElem?
  intro j
  rw [List.getElem?_set]
  split
  · rename_i e; subst e
    split
    · rename_i h; simp [List.getD, h]
    · rename_i h; rw [List.getElem?_eq_none (by omega)]
  · rfl
def reducedRows_p (p : Int) (R : List (List Int)) : Post := ⟨primeB p = true ∧ (∃ N, rwsP p N R ∧ 1 ≤ N ∧ N ≤ 512) ∧ R.length ≤ 512, .c (.rows 31 2 .i64 (srtL (imN p R R.length))), []⟩
def reducedRows_ct : List AD → Option Post
  | [.c (.int .i64 (p)), .c (.rows .i64 (R))] => some (reducedRows_p p R)
  | _ => none
def reducedRows_ann (p : Int) (R : List (List Int)) : Nat → Option Ann
  | 0 => some (Ann.mk ((Nat)) (fun i => ⟨[(0, .c (.int .i64 (p))), (5, .c (.own (100))), (16, .c (.ro (.rows .i64 (R)))), (17, .c (.int .i64 ((R.length : Int)))), (18, .c (.int .i64 ((i : Int))))], [(100, some (.rows 0 31 2 .i64 (imN p R i)))]⟩) (fun i => i ≤ R.length) (fun i => R.length - i) (fun i => fun b_ => match b_ with | 2 => some (Ann.mk ((Nat)) (fun j => ⟨[(0, .c (.int .i64 (p))), (5, .c (.own (100))), (16, .c (.ro (.rows .i64 (R)))), (17, .c (.int .i64 ((R.length : Int)))), (18, .c (.int .i64 ((i : Int)))), (8, .c (.own (101))), (24, .c (.own (100))), (25, .c (.int .i64 (((imN p R i).length : Int)))), (26, .c (.int .i64 ((j : Int))))], [(100, some (.rows 0 31 2 .i64 (imN p R i))), (101, some (.ints 2 .i64 (redN p (imN p R i) (ldN (imN p R i)) (R.getD i []) j)))]⟩) (fun j => j ≤ (imN p R i).length ∧ i < R.length) (fun j => (imN p R i).length - j) (fun _ => noAnn)) | 4 => some (Ann.mk ((Nat)) (fun j => ⟨[(0, .c (.int .i64 (p))), (5, .c (.own (100))), (16, .c (.ro (.rows .i64 (R)))), (17, .c (.int .i64 ((R.length : Int)))), (18, .c (.int .i64 ((i : Int)))), (8, .c (.own (101))), (12, .c (.int .i64 (ldF (rdR p R i)))), (58, .c (.own (100))), (59, .c (.int .i64 (((imN p R i).length : Int)))), (60, .c (.int .i64 ((j : Int))))], [(100, some (.rows 0 31 2 .i64 (((imN p R i).take j).map (upR p (nrR p R i) (ldF (rdR p R i)).toNat) ++ (imN p R i).drop j))), (101, some (.ints 2 .i64 (nrR p R i)))]⟩) (fun j => j ≤ (imN p R i).length ∧ i < R.length ∧ 0 ≤ ldF (rdR p R i)) (fun j => (imN p R i).length - j) (fun _ => noAnn)) | _ => none))
  | _ => none
def reducedRows_G : List (Nat × Ctr) := [(124, ⟨[], Clone_ct⟩), (126, ⟨[], leading_ct⟩), (127, ⟨[(1, 0)], addRow_ct⟩), (129, ⟨[], inverseModulo_ct⟩), (128, ⟨[(1, 0)], scaleRow_ct⟩), (130, ⟨[(0,97),(0,97)], sSort_ct⟩)]
def reducedRows_c1 (p : Int) (R : List (List Int)) (x0 : Nat) (x1 : Nat) := ((List.map (upR p (nrR p R x0) ((ldF (rdR p R x0)).toNat)) (List.take x1 (imN p R x0)) ++ List.drop x1 (imN p R x0)).getD ((↑x1:Int).toNat) [])
def reducedRows_c2 (p : Int) (R : List (List Int)) (x0 : Nat) (x1 : Nat) := (redN p (imN p R x0) (ldN (imN p R x0)) (R.getD x0 []) x1)
def reducedRows_V (p : Int) (R : List (List Int)) : Prop :=
 ((∃ x0 : Nat, ((x0 ≤ R.length)∧((p = p)∧((R = R)∧(((↑(R.length):Int) = (↑(R.length):Int))∧(((0:Int) = (↑x0:Int))∧(imN p R x0 = [])))))))∧(∀ x1 : Nat, ((x1 ≤ R.length) → (BrP (decide ((↑x1:Int) < (↑(R.length):Int))) ((inB (↑x1:Int) (R.length))∧(((((R.getD ((↑x1:Int).toNat) []).length ≠ (0:Nat))∧(room ((R.getD ((↑x1:Int).toNat) []).length)))∧True)∧((∃ x2 : Nat, (((x2 ≤ (imN p R x1).length)∧(x1 < R.length))∧((p = p)∧((R = R)∧(((↑(R.length):Int) = (↑(R.length):Int))∧(((↑x1:Int) = (↑x1:Int))∧(((↑((imN p R x1).length):Int) = (↑((imN p R x1).length):Int))∧(((0:Int) = (↑x2:Int))∧((imN p R x1 = imN p R x1)∧(R.getD ((↑x1:Int).toNat) [] = redN p (imN p R x1) (ldN (imN p R x1)) (R.getD x1 []) x2))))))))))∧(∀ x3 : Nat, (((x3 ≤ (imN p R x1).length)∧(x1 < R.length)) → (BrP (decide ((↑x3:Int) < (↑((imN p R x1).length):Int))) ((inB (↑x3:Int) ((imN p R x1).length))∧(((((imN p R x1).getD ((↑x3:Int).toNat) []).length ≤ (1000:Nat))∧True)∧((inB (ldF ((imN p R x1).getD ((↑x3:Int).toNat) [])) ((reducedRows_c2 p R x1 x3).length))∧(BrP ((redN p (imN p R x1) (ldN (imN p R x1)) (List.getD R x1 []) x3).getD ((ldF ((imN p R x1).getD ((↑x3:Int).toNat) [])).toNat) (0:Int) != (0:Int)) ((InR (p - (reducedRows_c2 p R x1 x3).getD ((ldF ((imN p R x1).getD ((↑x3:Int).toNat) [])).toNat) (0:Int)))∧((((twR p (reducedRows_c2 p R x1 x3) ((imN p R x1).getD ((↑x3:Int).toNat) []))∧(((0:Int) ≤ p - (reducedRows_c2 p R x1 x3).getD ((ldF ((imN p R x1).getD ((↑x3:Int).toNat) [])).toNat) (0:Int)) ∧
 (p - (reducedRows_c2 p R x1 x3).getD ((ldF ((imN p R x1).getD ((↑x3:Int).toNat) [])).toNat) (0:Int) ≤ (7:Int))))∧(((stF p (p - (reducedRows_c2 p R x1 x3).getD ((ldF ((imN p R x1).getD ((↑x3:Int).toNat) [])).toNat) (0:Int)) ((imN p R x1).getD ((↑x3:Int).toNat) []) (reducedRows_c2 p R x1 x3)).length = (reducedRows_c2 p R x1 x3).length)∧True))∧((InR ((↑x3:Int) + (1:Int)))∧(∃ x4 : Nat, (((x4 ≤ (imN p R x1).length)∧(x1 < R.length))∧(((imN p R x1).length - x4 < (imN p R x1).length - x3)∧((p = p)∧((R = R)∧(((↑(R.length):Int) = (↑(R.length):Int))∧(((↑x1:Int) = (↑x1:Int))∧(((↑((imN p R x1).length):Int) = (↑((imN p R x1).length):Int))∧(((↑x3:Int) + (1:Int) = (↑x4:Int))∧((imN p R x1 = imN p R x1)∧(stF p (p - (reducedRows_c2 p R x1 x3).getD ((ldF ((imN p R x1).getD ((↑x3:Int).toNat) [])).toNat) (0:Int)) ((imN p R x1).getD ((↑x3:Int).toNat) []) (reducedRows_c2 p R x1 x3) = redN p (imN p R x1) (ldN (imN p R x1)) (R.getD x1 []) x4)))))))))))))) ((InR ((↑x3:Int) + (1:Int)))∧(∃ x5 : Nat, (((x5 ≤ (imN p R x1).length)∧(x1 < R.length))∧(((imN p R x1).length - x5 < (imN p R x1).length - x3)∧((p = p)∧((R = R)∧(((↑(R.length):Int) = (↑(R.length):Int))∧(((↑x1:Int) = (↑x1:Int))∧(((↑((imN p R x1).length):Int) = (↑((imN p R x1).length):Int))∧(((↑x3:Int) + (1:Int) = (↑x5:Int))∧((imN p R x1 = imN p R x1)∧(redN p (imN p R x1) (ldN (imN p R x1)) (R.getD x1 []) x3 = redN p (imN p R x1) (ldN (imN p R x1)) (R.getD x1 []) x5)))))))))))))))) ((((reducedRows_c2 p R x1 x3).length ≤ (1000:Nat))∧True) ∧
 (BrP (decide (ldF (redN p (imN p R x1) (ldN (imN p R x1)) (R.getD x1 []) x3) < (0:Int))) ((InR ((↑x1:Int) + (1:Int)))∧(∃ x6 : Nat, ((x6 ≤ R.length)∧((R.length - x6 < R.length - x1)∧((p = p)∧((R = R)∧(((↑(R.length):Int) = (↑(R.length):Int))∧(((↑x1:Int) + (1:Int) = (↑x6:Int))∧(imN p R x1 = imN p R x6))))))))) ((inB (ldF (reducedRows_c2 p R x1 x3)) ((reducedRows_c2 p R x1 x3).length))∧((((primeB p = true)∧(((1:Int) ≤ (reducedRows_c2 p R x1 x3).getD ((ldF (reducedRows_c2 p R x1 x3)).toNat) (0:Int))∧((reducedRows_c2 p R x1 x3).getD ((ldF (reducedRows_c2 p R x1 x3)).toNat) (0:Int) ≤ p - (1:Int))))∧True)∧(((((2:Int) ≤ p)∧((p ≤ (7:Int))∧((inP p (reducedRows_c2 p R x1 x3))∧(((reducedRows_c2 p R x1 x3).length ≤ (1000:Nat))∧(((0:Int) ≤ ivM p ((reducedRows_c2 p R x1 x3).getD ((ldF (reducedRows_c2 p R x1 x3)).toNat) (0:Int)))∧(ivM p ((reducedRows_c2 p R x1 x3).getD ((ldF (reducedRows_c2 p R x1 x3)).toNat) (0:Int)) ≤ (7:Int)))))))∧(((scF p (ivM p ((reducedRows_c2 p R x1 x3).getD ((ldF (reducedRows_c2 p R x1 x3)).toNat) (0:Int))) (reducedRows_c2 p R x1 x3)).length = (reducedRows_c2 p R x1 x3).length)∧True))∧((∃ x7 : Nat, (((x7 ≤ (imN p R x1).length)∧((x1 < R.length)∧((0:Int) ≤ ldF (rdR p R x1))))∧((p = p)∧((R = R)∧(((↑(R.length):Int) = (↑(R.length):Int))∧(((↑x1:Int) = (↑x1:Int))∧((ldF (reducedRows_c2 p R x1 x3) = ldF (rdR p R x1))∧(((↑((imN p R x1).length):Int) = (↑((imN p R x1).length):Int))∧(((0:Int) = (↑x7:Int)) ∧
 ((imN p R x1 = List.map (upR p (nrR p R x1) ((ldF (rdR p R x1)).toNat)) (List.take x7 (imN p R x1)) ++ List.drop x7 (imN p R x1))∧(scF p (ivM p ((reducedRows_c2 p R x1 x3).getD ((ldF (reducedRows_c2 p R x1 x3)).toNat) (0:Int))) (reducedRows_c2 p R x1 x3) = nrR p R x1)))))))))))∧(∀ x8 : Nat, (((x8 ≤ (imN p R x1).length)∧((x1 < R.length)∧((0:Int) ≤ ldF (rdR p R x1)))) → (BrP (decide ((↑x8:Int) < (↑((imN p R x1).length):Int))) ((inB (↑x8:Int) ((List.map (upR p (nrR p R x1) ((ldF (rdR p R x1)).toNat)) (List.take x8 (imN p R x1)) ++ List.drop x8 (imN p R x1)).length))∧((inB (ldF (rdR p R x1)) ((reducedRows_c1 p R x1 x8).length))∧(BrP ((List.getD (List.map (upR p (nrR p R x1) ((ldF (rdR p R x1)).toNat)) (List.take x8 (imN p R x1)) ++ List.drop x8 (imN p R x1)) ((↑x8:Int).toNat) []).getD ((ldF (rdR p R x1)).toNat) (0:Int) != (0:Int)) ((InR (p - (reducedRows_c1 p R x1 x8).getD ((ldF (rdR p R x1)).toNat) (0:Int)))∧((((twR p (reducedRows_c1 p R x1 x8) (nrR p R x1))∧(((0:Int) ≤ p - (reducedRows_c1 p R x1 x8).getD ((ldF (rdR p R x1)).toNat) (0:Int))∧(p - (reducedRows_c1 p R x1 x8).getD ((ldF (rdR p R x1)).toNat) (0:Int) ≤ (7:Int))))∧((stF p (p - (reducedRows_c1 p R x1 x8).getD ((ldF (rdR p R x1)).toNat) (0:Int)) (nrR p R x1) (reducedRows_c1 p R x1 x8)).length = (reducedRows_c1 p R x1 x8).length))∧((InR ((↑x8:Int) + (1:Int)))∧(∃ x9 : Nat, (((x9 ≤ (imN p R x1).length)∧((x1 < R.length)∧((0:Int) ≤ ldF (rdR p R x1))))∧(((imN p R x1).length - x9 < (imN p R x1).length - x8)∧((p = p)∧((R = R) ∧
 (((↑(R.length):Int) = (↑(R.length):Int))∧(((↑x1:Int) = (↑x1:Int))∧((ldF (rdR p R x1) = ldF (rdR p R x1))∧(((↑((imN p R x1).length):Int) = (↑((imN p R x1).length):Int))∧(((↑x8:Int) + (1:Int) = (↑x9:Int))∧((List.set (List.map (upR p (nrR p R x1) ((ldF (rdR p R x1)).toNat)) (List.take x8 (imN p R x1)) ++ List.drop x8 (imN p R x1)) ((↑x8:Int).toNat) (stF p (p - (reducedRows_c1 p R x1 x8).getD ((ldF (rdR p R x1)).toNat) (0:Int)) (nrR p R x1) (reducedRows_c1 p R x1 x8)) = List.map (upR p (nrR p R x1) ((ldF (rdR p R x1)).toNat)) (List.take x9 (imN p R x1)) ++ List.drop x9 (imN p R x1))∧(nrR p R x1 = nrR p R x1))))))))))))))) ((InR ((↑x8:Int) + (1:Int)))∧(∃ x10 : Nat, (((x10 ≤ (imN p R x1).length)∧((x1 < R.length)∧((0:Int) ≤ ldF (rdR p R x1))))∧(((imN p R x1).length - x10 < (imN p R x1).length - x8)∧((p = p)∧((R = R)∧(((↑(R.length):Int) = (↑(R.length):Int))∧(((↑x1:Int) = (↑x1:Int))∧((ldF (rdR p R x1) = ldF (rdR p R x1))∧(((↑((imN p R x1).length):Int) = (↑((imN p R x1).length):Int))∧(((↑x8:Int) + (1:Int) = (↑x10:Int))∧((List.map (upR p (nrR p R x1) ((ldF (rdR p R x1)).toNat)) (List.take x8 (imN p R x1)) ++ List.drop x8 (imN p R x1) = List.map (upR p (nrR p R x1) ((ldF (rdR p R x1)).toNat)) (List.take x10 (imN p R x1)) ++ List.drop x10 (imN p R x1))∧(nrR p R x1 = nrR p R x1)))))))))))))))) ((room ((List.map (upR p (nrR p R x1) ((ldF (rdR p R x1)).toNat)) (List.take x8 (imN p R x1)) ++ List.drop x8 (imN p R x1)).length + [nrR p R x1].length))∧((InR ((↑x1:Int) + (1:Int))) ∧
 (∃ x11 : Nat, ((x11 ≤ R.length)∧((R.length - x11 < R.length - x1)∧((p = p)∧((R = R)∧(((↑(R.length):Int) = (↑(R.length):Int))∧(((↑x1:Int) + (1:Int) = (↑x11:Int))∧(List.map (upR p (nrR p R x1) ((ldF (rdR p R x1)).toNat)) (List.take x8 (imN p R x1)) ++ List.drop x8 (imN p R x1) ++ [nrR p R x1] = imN p R x11))))))))))))))))))))))))) (((((imN p R x1).length ≤ (1000:Nat))∧(∀ (r : List Int), r ∈ imN p R x1 → r.length ≤ (1000:Nat)))∧((srtL (imN p R x1)).length = (imN p R x1).length))∧((srtL (imN p R x1) = srtL (imN p R (R.length)))∧True))))))
theorem reducedRows_vc (p : Int) (R : List (List Int)) : runF Tryz.prog (gam reducedRows_G) noWr (reducedRows_ann p R) Tryz.f92 (bodyOf Tryz.f92) [] [.c (.int .i64 (p)), .c (.rows .i64 (R))] (reducedRows_p p R) = reducedRows_V p R := by kernel_rfl
theorem reducedRows_ok (p : Int) (R : List (List Int)) (hpre : (reducedRows_p p R).pre) : reducedRows_V p R := by
  simp only [reducedRows_p, reducedRows_V, reducedRows_c1, reducedRows_c2, BrP_iff, u1, u2, u3, u4, u5, u6, u7, u8, u9, v1, v2, v3, v4, v5, v6, v7, v8, v9, w1, w2, w3, w4, markL_length, inB, InR, room, bdsOk] at hpre ⊢
  obtain ⟨hp, ⟨N, hR, N1, N2⟩, hl⟩ := hpre
  obtain ⟨p2, p7⟩ := primeB_le hp
  refine ⟨⟨0, by omega, rfl, rfl⟩, fun i hi => ⟨fun h => ?_, fun h => ?_⟩⟩
  · have F := (imN_ok hp hR i hi).1
    have L := imN_len p R i
    have row := hR i (by omega)
    have row1 := row.1
    refine ⟨by omega, ⟨by omega, by omega⟩, ⟨0, ⟨Nat.zero_le _, by omega⟩, rfl, rfl⟩, fun j ⟨hj, _⟩ => ⟨fun h3 => ?_, fun h3 => ?_⟩⟩
    · have rj := (red_ok p2 F.bas row j hj).1
      have rj1 := rj.1
      have bj := F.bas.row j (by omega)
      have bj1 := bj.1
      have pj := F.bas.piv j (by omega)
      have nj := F.nn j (by omega)
      have pe : (ldF ((imN p R i).getD j [])).toNat = ldN (imN p R i) j := rfl
      rw [pe]
      have c := rj.2 (ldN (imN p R i) j) (by omega)
      have tw : twR p (redN p (imN p R i) (ldN (imN p R i)) (R.getD i []) j) ((imN p R i).getD j []) := ⟨p2, p7, rj.2, bj.2, by omega, by omega⟩
      refine ⟨by omega, by omega, by omega, fun h4 => ⟨by omega, ⟨⟨tw, by omega, by omega⟩, stF_length _ _ _ _⟩, by omega, j + 1, ⟨by omega, by omega⟩, by omega, by omega, ?_⟩, fun h4 => ⟨by omega, j + 1, ⟨by omega, by omega⟩, by omega, by omega, ?_⟩⟩
      · rw [redN, if_pos h4]
      · rw [redN, if_neg (by omega)]
    · have e : redN p (imN p R i) (ldN (imN p R i)) (R.getD i []) j = rdR p R i := by unfold rdR; rw [show j = (imN p R i).length by omega]
      rw [e]
      have r1 : rwP p N (rdR p R i) := (red_ok p2 F.bas row (imN p R i).length (Nat.le_refl _)).1
      have r11 := r1.1
      refine ⟨by omega, fun h4 => ⟨by omega, i + 1, by omega, by omega, by omega, ?_⟩, fun h4 => ?_⟩
      · show imN p R i = if ldF (rdR p R i) < 0 then imN p R i else _
        rw [if_pos h4]
      · have y := ld_yes (l := rdR p R i) (by omega)
        have c := r1.2 _ y.1
        have iv := ivM_ok hp (a := (rdR p R i).getD (ldF (rdR p R i)).toNat 0) (by omega) (by omega)
        have n := scF_nrm hp r1 (by omega)
        have en : scF p (ivM p ((rdR p R i).getD (ldF (rdR p R i)).toNat 0)) (rdR p R i) = nrR p R i := rfl
        rw [en] at n ⊢
        have n1 := n.row.1
        refine ⟨by omega, ⟨hp, by omega, by omega⟩, ⟨⟨p2, p7, r1.2, by omega, by omega, by omega⟩, by omega⟩, ⟨0, ⟨Nat.zero_le _, by omega, by omega⟩, rfl, rfl, by simp, rfl⟩, fun k ⟨hk, _, _⟩ => ⟨fun h5 => ?_, fun h5 => ?_⟩⟩
        · rw [upd_get _ _ (by omega)]
          have bk := F.bas.row k (by omega)
          have bk1 := bk.1
          have d := bk.2 (ldF (rdR p R i)).toNat (by omega)
          refine ⟨by omega, by omega, fun h6 => ⟨by omega, ⟨⟨⟨p2, p7, bk.2, n.row.2, by omega, by omega⟩, by omega, by omega⟩, stF_length _ _ _ _⟩, by omega, k + 1, ⟨by omega, by omega, by omega⟩, by omega, by omega, ?_⟩, fun h6 => ⟨by omega, k + 1, ⟨by omega, by omega, by omega⟩, by omega, by omega, ?_⟩⟩
          · rw [← upd_set (upR p (nrR p R i) (ldF (rdR p R i)).toNat) _ (by omega)]
            congr 1
            rw [upR, if_pos h6]
          · have := upd_set (upR p (nrR p R i) (ldF (rdR p R i)).toNat) (imN p R i) (k := k) (by omega)
            rw [show upR p (nrR p R i) (ldF (rdR p R i)).toNat ((imN p R i).getD k []) = (imN p R i).getD k [] by rw [upR, if_neg (by omega)]] at this
            rw [← this, ← upd_get (upR p (nrR p R i) (ldF (rdR p R i)).toNat) (imN p R i) (k := k) (by omega)]
            exact (set_self _ _).symm
        · refine ⟨by omega, by omega, i + 1, by omega, by omega, by omega, ?_⟩
          rw [List.take_of_length_le (by omega), List.drop_of_length_le (by omega), List.append_nil]
          show _ = if ldF (rdR p R i) < 0 then imN p R i else (imN p R i).map (upR p (nrR p R i) (ldF (rdR p R i)).toNat) ++ [nrR p R i]
          rw [if_neg h4]
  · have e : i = R.length := by omega
    subst e
    have F := (imN_ok hp hR R.length (Nat.le_refl _)).1
    have L := imN_len p R R.length
    refine ⟨⟨⟨by omega, fun r hr => ?_⟩, srtL_len _⟩, rfl⟩
    obtain ⟨k, hk, e⟩ := List.mem_iff_getElem.1 hr
    have := (F.bas.row k hk).1
    rw [show (imN p R R.length).getD k [] = r by rw [← e]; simp [List.getD, hk]] at this
    omega
theorem reducedRows_fits : Fits Tryz.prog 92 ⟨[], reducedRows_ct⟩ := by
  refine ffn (Γ := gam reducedRows_G) (gok_cons Clone_fits (gok_cons leading_fits (gok_cons addRow_fits (gok_cons inverseModulo_fits (gok_cons scaleRow_fits (gok_cons sSort_fits gok_nil)))))) Tryz.func92 fun ds p h hp => ?_
  unfold reducedRows_ct at h
  split at h
  · cases h
    exact ⟨noWr, reducedRows_ann _ _ , by rw [reducedRows_vc]; exact reducedRows_ok _ _  hp⟩
  · cases h
end Go.Sx
end
