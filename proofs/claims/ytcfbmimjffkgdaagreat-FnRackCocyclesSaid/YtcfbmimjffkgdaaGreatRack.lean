/- Rack -/
import Derived.Test.YtcfbmimjffkgdaaGreatTuple
open Go Go.Proofs
namespace Go.Sx
set_option linter.unusedSimpArgs false
set_option linter.unusedVariables false
def sumL (l : List (List Int)) : Nat := (l.map List.length).sum
theorem sumL_take (l : List (List Int)) (i : Nat) (h : i < l.length) : sumL (l.take (i + 1)) = sumL (l.take i) + (l.getD i []).length := by
  rw [← take_snoc l [] i h]; simp [sumL]
def roomR (l : List (List Int)) : Prop := l.length ≤ 1099511627776 ∧ ∀ r ∈ l, r.length ≤ 1099511627776
theorem roomR_get {l : List (List Int)} (h : roomR l) (i : Nat) (hi : i < l.length) : (l.getD i []).length ≤ 1099511627776 := h.2 _ (getD_mem l [] i hi)
theorem allG_drop {α : Type} {l : List α} (d : α) (p : α → Bool) {i : Nat} (h : i < l.length) : (l.drop i).all p = (p (l.getD i d) && (l.drop (i + 1)).all p) := by
  rw [drop_cons' l d i h]; rfl
theorem allG_get {α : Type} {l : List α} (d : α) {p : α → Bool} (h : l.all p = true) (i : Nat) (hi : i < l.length) : p (l.getD i d) = true :=
  List.all_eq_true.1 h _ (getD_mem l d i hi)
theorem at_getD {α : Type} (a b : List α) (r d : α) (i : Nat) (h : a.length = i) : (a ++ r :: b).getD i d = r := by
  rw [getD_append_right' _ _ _ _ (by omega), h, Nat.sub_self]; rfl
theorem at_set {α : Type} (a b : List α) (r v : α) (i : Nat) (h : a.length = i) : (a ++ r :: b).set i v = a ++ v :: b := by
  rw [List.set_append_right _ _ (by omega), h, Nat.sub_self]; rfl
def rowB (n : Int) (r : List Int) : Bool := decide ((r.length : Int) = n) && allW 0 (n - 1) r
def tabB (t : List (List Int)) : Bool := decide (1 ≤ (t.length : Int) ∧ (t.length : Int) ≤ 12) && t.all (rowB (t.length : Int))
theorem rowB_of {n : Int} {r : List Int} (h : rowB n r = true) : (r.length : Int) = n ∧ allW 0 (n - 1) r = true := by
  simpa [rowB] using h
theorem tabB_of {t : List (List Int)} (h : tabB t = true) : 1 ≤ t.length ∧ t.length ≤ 12 ∧
    ∀ x, x < t.length → (t.getD x []).length = t.length ∧ ∀ y, y < t.length → 0 ≤ (t.getD x []).getD y 0 ∧ (t.getD x []).getD y 0 ≤ (t.length : Int) - 1 := by
  simp only [tabB, Bool.and_eq_true, decide_eq_true_eq] at h
  refine ⟨by omega, by omega, fun x hx => ?_⟩
  obtain ⟨h1, h2⟩ := rowB_of (allG_get [] h.2 x hx)
  exact ⟨by omega, fun y hy => allW_get h2 y (by omega)⟩
theorem tabB_no {t : List (List Int)} (h : ¬ (1 ≤ (t.length : Int) ∧ (t.length : Int) ≤ 12)) : tabB t = false := by simp only [tabB, decide_eq_false h, Bool.false_and]
def l01Table_p (t : List (List Int)) : Post := ⟨roomR t, .c (.bool (tabB t)), []⟩
def l01Table_ct : List AD → Option Post
  | [.c (.rows .i64 (t))] => some (l01Table_p t)
  | _ => none
def l01Table_ann (t : List (List Int)) : Nat → Option Ann
  | 0 => some (Ann.mk ((Nat)) (fun i => ⟨[(0, .c (.ro (.rows .i64 (t)))), (3, .c (.int .i64 ((t.length : Int)))), (4, .c (.int .i64 ((i : Int))))], []⟩) (fun i => i ≤ t.length ∧ 1 ≤ t.length ∧ t.length ≤ 12 ∧ t.all (rowB (t.length : Int)) = (t.drop i).all (rowB (t.length : Int))) (fun i => t.length - i) (fun i => fun b_ => match b_ with | 2 => some (Ann.mk ((Nat)) (fun j => ⟨[(0, .c (.ro (.rows .i64 (t)))), (3, .c (.int .i64 ((t.length : Int)))), (4, .c (.int .i64 ((i : Int)))), (5, .c (.int .i64 ((j : Int))))], []⟩) (fun j => j ≤ t.length ∧ i < t.length ∧ (t.getD i []).length = t.length ∧ allW 0 ((t.length : Int) - 1) (t.getD i []) = allW 0 ((t.length : Int) - 1) ((t.getD i []).drop j)) (fun j => t.length - j) (fun _ => noAnn)) | _ => none))
  | _ => none
def l01Table_G : List (Nat × Ctr) := [(57, ⟨[], l01In_ct⟩)]
def l01Table_V (t : List (List Int)) : Prop :=
 ((True∧True)∧(BrP (!decide ((1:Int) ≤ (↑(t.length):Int) ∧ (↑(t.length):Int) ≤ (12:Int))) ((false = tabB t)∧True) ((∃ x0 : Nat, (((x0 ≤ t.length)∧(((1:Nat) ≤ t.length)∧((t.length ≤ (12:Nat))∧(List.all t (rowB (↑(t.length):Int)) = List.all (List.drop x0 t) (rowB (↑(t.length):Int))))))∧((t = t)∧(((↑(t.length):Int) = (↑(t.length):Int))∧((0:Int) = (↑x0:Int))))))∧(∀ x1 : Nat, (((x1 ≤ t.length)∧(((1:Nat) ≤ t.length)∧((t.length ≤ (12:Nat))∧(List.all t (rowB (↑(t.length):Int)) = List.all (List.drop x1 t) (rowB (↑(t.length):Int)))))) → (BrP (decide ((↑x1:Int) < (↑(t.length):Int))) ((inB (↑x1:Int) (t.length))∧(BrP ((↑((t.getD ((↑x1:Int).toNat) []).length):Int) != (↑(t.length):Int)) ((false = tabB t)∧True) ((∃ x2 : Nat, (((x2 ≤ t.length)∧((x1 < t.length)∧(((t.getD x1 []).length = t.length)∧(allW (0:Int) ((↑(t.length):Int) - (1:Int)) (t.getD x1 []) = allW (0:Int) ((↑(t.length):Int) - (1:Int)) (List.drop x2 (t.getD x1 []))))))∧((t = t)∧(((↑(t.length):Int) = (↑(t.length):Int))∧(((↑x1:Int) = (↑x1:Int))∧((0:Int) = (↑x2:Int)))))))∧(∀ x3 : Nat, (((x3 ≤ t.length)∧((x1 < t.length)∧(((t.getD x1 []).length = t.length)∧(allW (0:Int) ((↑(t.length):Int) - (1:Int)) (t.getD x1 []) = allW (0:Int) ((↑(t.length):Int) - (1:Int)) (List.drop x3 (t.getD x1 [])))))) → (BrP (decide ((↑x3:Int) < (↑(t.length):Int))) ((inB (↑x1:Int) (t.length))∧((inB (↑x3:Int) ((t.getD ((↑x1:Int).toNat) []).length))∧((InR ((↑(t.length):Int) - (1:Int)))∧((True∧True) ∧
 (BrP (!decide ((0:Int) ≤ (List.getD t ((↑x1:Int).toNat) []).getD ((↑x3:Int).toNat) (0:Int) ∧ (List.getD t ((↑x1:Int).toNat) []).getD ((↑x3:Int).toNat) (0:Int) ≤ (↑(t.length):Int) - (1:Int))) ((false = tabB t)∧True) ((InR ((↑x3:Int) + (1:Int)))∧(∃ x4 : Nat, (((x4 ≤ t.length)∧((x1 < t.length)∧(((t.getD x1 []).length = t.length)∧(allW (0:Int) ((↑(t.length):Int) - (1:Int)) (t.getD x1 []) = allW (0:Int) ((↑(t.length):Int) - (1:Int)) (List.drop x4 (t.getD x1 []))))))∧((t.length - x4 < t.length - x3)∧((t = t)∧(((↑(t.length):Int) = (↑(t.length):Int))∧(((↑x1:Int) = (↑x1:Int))∧((↑x3:Int) + (1:Int) = (↑x4:Int)))))))))))))) ((InR ((↑x1:Int) + (1:Int)))∧(∃ x5 : Nat, (((x5 ≤ t.length)∧(((1:Nat) ≤ t.length)∧((t.length ≤ (12:Nat))∧(List.all t (rowB (↑(t.length):Int)) = List.all (List.drop x5 t) (rowB (↑(t.length):Int))))))∧((t.length - x5 < t.length - x1)∧((t = t)∧(((↑(t.length):Int) = (↑(t.length):Int))∧((↑x1:Int) + (1:Int) = (↑x5:Int)))))))))))))) ((true = tabB t)∧True)))))))
theorem l01Table_vc (t : List (List Int)) : runF Tryz.prog (gam l01Table_G) noWr (l01Table_ann t) Tryz.f53 (bodyOf Tryz.f53) [] [.c (.rows .i64 (t))] (l01Table_p t) = l01Table_V t := by kernel_rfl
theorem l01Table_ok (t : List (List Int)) (hpre : (l01Table_p t).pre) : l01Table_V t := by
  simp only [l01Table_p, l01Table_V, BrP_iff, u1, u2, u3, u4, u5, u6, u7, u8, u9, v1, v2, v3, v4, v5, v6, v7, v8, v9, w1, w2, w3, w4, markL_length, inB, InR, room, bdsOk] at hpre ⊢
  have hr := hpre
  refine ⟨fun h => (tabB_no h).symm, fun hn => ⟨⟨0, ⟨by omega, by omega, by omega, rfl⟩, rfl⟩, fun i ⟨hi, _, _, he⟩ => ⟨fun h => ?_, fun h => ?_⟩⟩⟩
  · have hd := allG_drop [] (rowB (t.length : Int)) (show i < t.length by omega)
    have no : rowB (t.length : Int) (t.getD i []) = false → false = tabB t := fun h => by rw [tabB, he, hd, h]; simp
    refine ⟨by omega, fun h1 => no (by rw [rowB, decide_eq_false h1]; rfl), fun h1 => ⟨⟨0, ⟨by omega, by omega, by omega, rfl⟩, rfl⟩, fun j ⟨hj, _, hl, ha⟩ => ⟨fun h2 => ?_, fun h2 => ?_⟩⟩⟩
    · have hd2 := allW_drop 0 ((t.length : Int) - 1) (t.getD i []) j (by omega)
      refine ⟨by omega, by omega, by omega, fun h3 => no ?_, fun h3 => ⟨by omega, j + 1, ⟨by omega, by omega, hl, ?_⟩, by omega, by omega⟩⟩
      · rw [rowB, ha, hd2, decide_eq_false h3]; simp
      · rw [ha, hd2, decide_eq_true h3]; rfl
    · refine ⟨by omega, i + 1, ⟨by omega, by omega, by omega, ?_⟩, by omega, by omega⟩
      have : rowB (t.length : Int) (t.getD i []) = true := by
        rw [rowB, decide_eq_true h1, ha, List.drop_of_length_le (by omega)]; rfl
      rw [he, hd, this]; rfl
  · rw [tabB, he, decide_eq_true hn, List.drop_of_length_le (by omega)]; rfl
theorem l01Table_fits : Fits Tryz.prog 53 ⟨[], l01Table_ct⟩ := by
  refine ffn (Γ := gam l01Table_G) (gok_cons l01In_fits gok_nil) Tryz.func53 fun ds p h hp => ?_
  unfold l01Table_ct at h
  split at h
  · cases h
    exact ⟨noWr, l01Table_ann _ , by rw [l01Table_vc]; exact l01Table_ok _  hp⟩
  · cases h
def idxG (p : List Int → Bool) : List (List Int) → Int → Int
  | [], _ => -1
  | x :: l, k => if p x = true then k else idxG p l (k + 1)
theorem idxG_any (p : List Int → Bool) : ∀ (l : List (List Int)) (k : Int), 0 ≤ k → decide (0 ≤ idxG p l k) = l.any p
  | [], k, _ => rfl
  | x :: l, k, h => by
    simp only [idxG, List.any_cons]
    by_cases hp : p x = true
    · simp [hp, h]
    · simpa [hp] using idxG_any p l (k + 1) (by omega)
def IndexFuncR_p (l : List (List Int)) (q : List Int → Prop) (p : List Int → Bool) : Post := ⟨l.length ≤ 1099511627776 ∧ ∀ x ∈ l, q x, .c (.int .i64 (idxG p l 0)), []⟩
def IndexFuncR_ct : List AD → Option Post
  | [.c (.rows .i64 (l)), .fv (.lb q p)] => some (IndexFuncR_p l q p)
  | _ => none
def IndexFuncR_ann (l : List (List Int)) (q : List Int → Prop) (p : List Int → Bool) : Nat → Option Ann
  | 0 => some (Ann.mk ((Nat)) (fun i => ⟨[(0, .c (.ro (.rows .i64 (l)))), (1, .fv (.lb q p)), (7, .c (.int .i64 ((l.length : Int)))), (8, .c (.int .i64 ((i : Int))))], []⟩) (fun i => i ≤ l.length ∧ idxG p l 0 = idxG p (l.drop i) (i : Int)) (fun i => l.length - i) (fun _ => noAnn))
  | _ => none
def IndexFuncR_G : List (Nat × Ctr) := []
def IndexFuncR_V (l : List (List Int)) (q : List Int → Prop) (p : List Int → Bool) : Prop :=
 ((∃ x0 : Nat, (((x0 ≤ l.length)∧(idxG p l (0:Int) = idxG p (List.drop x0 l) (↑x0:Int)))∧((l = l)∧((FV.lb q p = FV.lb q p)∧(((↑(l.length):Int) = (↑(l.length):Int))∧((0:Int) = (↑x0:Int)))))))∧(∀ x1 : Nat, (((x1 ≤ l.length)∧(idxG p l (0:Int) = idxG p (List.drop x1 l) (↑x1:Int))) → (BrP (decide ((↑x1:Int) < (↑(l.length):Int))) ((inB (↑x1:Int) (l.length))∧((q (l.getD ((↑x1:Int).toNat) []))∧(BrP (p (l.getD ((↑x1:Int).toNat) [])) (((↑x1:Int) = idxG p l (0:Int))∧True) ((InR ((↑x1:Int) + (1:Int)))∧(∃ x2 : Nat, (((x2 ≤ l.length)∧(idxG p l (0:Int) = idxG p (List.drop x2 l) (↑x2:Int)))∧((l.length - x2 < l.length - x1)∧((l = l)∧((FV.lb q p = FV.lb q p)∧(((↑(l.length):Int) = (↑(l.length):Int))∧((↑x1:Int) + (1:Int) = (↑x2:Int)))))))))))) (((-1:Int) = idxG p l (0:Int))∧True)))))
theorem IndexFuncR_vc (l : List (List Int)) (q : List Int → Prop) (p : List Int → Bool) : runF Tryz.prog (gam IndexFuncR_G) noWr (IndexFuncR_ann l q p) Tryz.f96 (bodyOf Tryz.f96) [] [.c (.rows .i64 (l)), .fv (.lb q p)] (IndexFuncR_p l q p) = IndexFuncR_V l q p := by kernel_rfl
theorem IndexFuncR_ok (l : List (List Int)) (q : List Int → Prop) (p : List Int → Bool) (hpre : (IndexFuncR_p l q p).pre) : IndexFuncR_V l q p := by
  simp only [IndexFuncR_p, IndexFuncR_V, BrP_iff, u1, u2, u3, u4, u5, u6, u7, u8, u9, v1, v2, v3, v4, v5, v6, v7, v8, v9, w1, w2, w3, w4, markL_length, inB, InR, room, bdsOk] at hpre ⊢
  obtain ⟨hl, hq⟩ := hpre
  refine ⟨⟨0, ⟨by omega, rfl⟩, rfl⟩, fun i ⟨hi, he⟩ => ⟨fun h => ?_, fun h => ?_⟩⟩
  · rw [drop_cons' l [] i (by omega)] at he
    simp only [idxG] at he
    refine ⟨by omega, hq _ (getD_mem l [] i (by omega)), fun h1 => ?_, fun h1 => ⟨by omega, i + 1, ⟨by omega, ?_⟩, by omega, by omega⟩⟩
    · rw [he, if_pos h1]
    · rw [he, if_neg (by rw [h1]; exact Bool.false_ne_true)]; simp
  · rw [he, List.drop_of_length_le (by omega)]; rfl
theorem IndexFuncR_fits : Fits Tryz.prog 96 ⟨[], IndexFuncR_ct⟩ := by
  refine ffn (Γ := gam IndexFuncR_G) gok_nil Tryz.func96 fun ds p h hp => ?_
  unfold IndexFuncR_ct at h
  split at h
  · cases h
    exact ⟨noWr, IndexFuncR_ann _ _ _ , by rw [IndexFuncR_vc]; exact IndexFuncR_ok _ _ _  hp⟩
  · cases h
def ContainsFuncR_p (l : List (List Int)) (q : List Int → Prop) (p : List Int → Bool) : Post := ⟨l.length ≤ 1099511627776 ∧ ∀ x ∈ l, q x, .c (.bool (l.any p)), []⟩
def ContainsFuncR_ct : List AD → Option Post
  | [.c (.rows .i64 (l)), .fv (.lb q p)] => some (ContainsFuncR_p l q p)
  | _ => none
def ContainsFuncR_G : List (Nat × Ctr) := [(96, ⟨[], IndexFuncR_ct⟩)]
def ContainsFuncR_V (l : List (List Int)) (q : List Int → Prop) (p : List Int → Bool) : Prop :=
 ((((l.length ≤ (1099511627776:Nat))∧(∀ (x : List Int), x ∈ l → q x))∧True)∧((decide ((0:Int) ≤ idxG p l (0:Int)) = List.any l p)∧True))
theorem ContainsFuncR_vc (l : List (List Int)) (q : List Int → Prop) (p : List Int → Bool) : runF Tryz.prog (gam ContainsFuncR_G) noWr noAnn Tryz.f71 (bodyOf Tryz.f71) [] [.c (.rows .i64 (l)), .fv (.lb q p)] (ContainsFuncR_p l q p) = ContainsFuncR_V l q p := by kernel_rfl
theorem ContainsFuncR_ok (l : List (List Int)) (q : List Int → Prop) (p : List Int → Bool) (hpre : (ContainsFuncR_p l q p).pre) : ContainsFuncR_V l q p := by
  simp only [ContainsFuncR_p, ContainsFuncR_V, BrP_iff, u1, u2, u3, u4, u5, u6, u7, u8, u9, v1, v2, v3, v4, v5, v6, v7, v8, v9, w1, w2, w3, w4, markL_length, inB, InR, room, bdsOk] at hpre ⊢
  exact ⟨hpre, idxG_any p l 0 (by omega)⟩
theorem ContainsFuncR_fits : Fits Tryz.prog 71 ⟨[], ContainsFuncR_ct⟩ := by
  refine ffn (Γ := gam ContainsFuncR_G) (gok_cons IndexFuncR_fits gok_nil) Tryz.func71 fun ds p h hp => ?_
  unfold ContainsFuncR_ct at h
  split at h
  · cases h
    exact ⟨noWr, noAnn, by rw [ContainsFuncR_vc]; exact ContainsFuncR_ok _ _ _  hp⟩
  · cases h
def IsTable1_p (r : List Int) (n : Int) : Post := ⟨r.length ≤ 1099511627776 ∧ 1 ≤ n ∧ n ≤ 12, .c (.bool (!rowB n r)), []⟩
def IsTable1_ct : List AD → Option Post
  | [.c (.ints .i64 (r)), .box [.int .i64 (n)]] => some (IsTable1_p r n)
  | _ => none
def IsTable1_G : List (Nat × Ctr) := [(39, ⟨[], allWithin_ct⟩)]
def IsTable1_V (r : List Int) (n : Int) : Prop :=
 (BrP ((↑(r.length):Int) != n) ((true = !rowB n r)∧True) ((InR (n - (1:Int)))∧(((room (r.length))∧True)∧(((!allW (0:Int) (n - (1:Int)) r) = !rowB n r)∧True))))
theorem IsTable1_vc (r : List Int) (n : Int) : runF Tryz.prog (gam IsTable1_G) noWr noAnn Tryz.f93 (bodyOf Tryz.f93) [] [.c (.ints .i64 (r)), .box [.int .i64 (n)]] (IsTable1_p r n) = IsTable1_V r n := by kernel_rfl
theorem IsTable1_ok (r : List Int) (n : Int) (hpre : (IsTable1_p r n).pre) : IsTable1_V r n := by
  simp only [IsTable1_p, IsTable1_V, BrP_iff, u1, u2, u3, u4, u5, u6, u7, u8, u9, v1, v2, v3, v4, v5, v6, v7, v8, v9, w1, w2, w3, w4, markL_length, inB, InR, room, bdsOk] at hpre ⊢
  refine ⟨fun h => by rw [rowB, decide_eq_false h]; rfl, fun h => ⟨by omega, hpre.1, ?_⟩⟩
  rw [rowB, decide_eq_true h]; simp
theorem IsTable1_fits : Fits Tryz.prog 93 ⟨[], IsTable1_ct⟩ := by
  refine ffn (Γ := gam IsTable1_G) (gok_cons allWithin_fits gok_nil) Tryz.func93 fun ds p h hp => ?_
  unfold IsTable1_ct at h
  split at h
  · cases h
    exact ⟨noWr, noAnn, by rw [IsTable1_vc]; exact IsTable1_ok _ _  hp⟩
  · cases h
def IsTable_p (t : List (List Int)) : Post := ⟨roomR t, .c (.bool (tabB t)), []⟩
def IsTable_ct : List AD → Option Post
  | [.c (.rows .i64 (t))] => some (IsTable_p t)
  | _ => none
def IsTable_G : List (Nat × Ctr) := [(70, ⟨[], within_ct⟩), (71, ⟨[], ContainsFuncR_ct⟩), (93, ⟨[], IsTable1_ct⟩)]
def IsTable_V (t : List (List Int)) : Prop :=
 ((True∧True)∧(BrP (decide ((1:Int) ≤ (↑(t.length):Int) ∧ (↑(t.length):Int) ≤ (12:Int))) ((((t.length ≤ (1099511627776:Nat))∧(∀ (x : List Int), x ∈ t → x.length ≤ (1099511627776:Nat) ∧ (1:Int) ≤ (↑(t.length):Int) ∧ (↑(t.length):Int) ≤ (12:Int)))∧True)∧(((!List.any t fun (x : List Int) => !rowB (↑(t.length):Int) x) = tabB t)∧True)) ((false = tabB t)∧True)))
theorem IsTable_vc (t : List (List Int)) : runF Tryz.prog (gam IsTable_G) noWr noAnn Tryz.f67 (bodyOf Tryz.f67) [] [.c (.rows .i64 (t))] (IsTable_p t) = IsTable_V t := by kernel_rfl
theorem IsTable_ok (t : List (List Int)) (hpre : (IsTable_p t).pre) : IsTable_V t := by
  simp only [IsTable_p, IsTable_V, BrP_iff, u1, u2, u3, u4, u5, u6, u7, u8, u9, v1, v2, v3, v4, v5, v6, v7, v8, v9, w1, w2, w3, w4, markL_length, inB, InR, room, bdsOk] at hpre ⊢
  refine ⟨fun h => ⟨⟨hpre.1, fun x hx => ⟨hpre.2 x hx, h⟩⟩, ?_⟩, fun h => (tabB_no h).symm⟩
  rw [tabB, decide_eq_true h, Bool.true_and, List.all_eq_not_any_not, Bool.not_not]
theorem IsTable_fits : Fits Tryz.prog 67 ⟨[], IsTable_ct⟩ := by
  refine ffn (Γ := gam IsTable_G) (gok_cons within_fits (gok_cons ContainsFuncR_fits (gok_cons IsTable1_fits gok_nil))) Tryz.func67 fun ds p h hp => ?_
  unfold IsTable_ct at h
  split at h
  · cases h
    exact ⟨noWr, noAnn, by rw [IsTable_vc]; exact IsTable_ok _  hp⟩
  · cases h
def numsB (n m : Int) (g : List Int) : Bool := allW 0 (m - 1) g && decide ((g.length : Int) = n)
def shiftB (n m : Int) (g : List Int) : Bool := decide (1 ≤ m ∧ m ≤ 12) && numsB n m g
theorem shiftB_of {n m : Int} {g : List Int} (h : shiftB n m g = true) : 1 ≤ m ∧ m ≤ 12 ∧ (g.length : Int) = n ∧ ∀ y, y < g.length → 0 ≤ g.getD y 0 ∧ g.getD y 0 ≤ m - 1 := by
  simp only [shiftB, numsB, Bool.and_eq_true, decide_eq_true_eq] at h
  exact ⟨by omega, by omega, by omega, fun y hy => allW_get h.2.1 y hy⟩
def isShift_p (n : Int) (m : Int) (g : List Int) : Post := ⟨room g.length, .c (.bool (shiftB n m g)), []⟩
def isShift_ct : List AD → Option Post
  | [.c (.int .i64 (n)), .c (.int .i64 (m)), .c (.ints .i64 (g))] => some (isShift_p n m g)
  | _ => none
def isShift_G : List (Nat × Ctr) := [(70, ⟨[], within_ct⟩), (39, ⟨[], allWithin_ct⟩)]
def isShift_V (n : Int) (m : Int) (g : List Int) : Prop :=
 ((True∧True)∧(BrP (decide ((1:Int) ≤ m ∧ m ≤ (12:Int))) (BrP ((↑(g.length):Int) == n) ((InR (m - (1:Int)))∧(((room (g.length))∧True)∧((allW (0:Int) (m - (1:Int)) g = shiftB n m g)∧True))) ((false = shiftB n m g)∧True)) ((false = shiftB n m g)∧True)))
theorem isShift_vc (n : Int) (m : Int) (g : List Int) : runF Tryz.prog (gam isShift_G) noWr noAnn Tryz.f73 (bodyOf Tryz.f73) [] [.c (.int .i64 (n)), .c (.int .i64 (m)), .c (.ints .i64 (g))] (isShift_p n m g) = isShift_V n m g := by kernel_rfl
theorem isShift_ok (n : Int) (m : Int) (g : List Int) (hpre : (isShift_p n m g).pre) : isShift_V n m g := by
  simp only [isShift_p, isShift_V, BrP_iff, u1, u2, u3, u4, u5, u6, u7, u8, u9, v1, v2, v3, v4, v5, v6, v7, v8, v9, w1, w2, w3, w4, markL_length, inB, InR, room, bdsOk] at hpre ⊢
  refine ⟨fun h => ⟨fun h2 => ⟨by omega, hpre, ?_⟩, fun h2 => ?_⟩, fun h => by rw [shiftB, decide_eq_false h]; rfl⟩
  · rw [shiftB, decide_eq_true h, numsB, decide_eq_true h2]; simp
  · rw [shiftB, decide_eq_true h, numsB, decide_eq_false h2]; simp
theorem isShift_fits : Fits Tryz.prog 73 ⟨[], isShift_ct⟩ := by
  refine ffn (Γ := gam isShift_G) (gok_cons within_fits (gok_cons allWithin_fits gok_nil)) Tryz.func73 fun ds p h hp => ?_
  unfold isShift_ct at h
  split at h
  · cases h
    exact ⟨noWr, noAnn, by rw [isShift_vc]; exact isShift_ok _ _ _  hp⟩
  · cases h
def tabR (n : Nat) (f : Nat → Nat → Int) : List (List Int) := (List.range n).map fun x => tab n (f x)
theorem tabR_length (n : Nat) (f : Nat → Nat → Int) : (tabR n f).length = n := by simp [tabR]
theorem tabR_getD (n : Nat) (f : Nat → Nat → Int) (x : Nat) (h : x < n) : (tabR n f).getD x [] = tab n (f x) := by
  simp [tabR, List.getD_eq_getElem?_getD, h]
theorem tmod_in {a m : Int} (h : 0 ≤ a) (hm : 1 ≤ m) : 0 ≤ a.tmod m ∧ a.tmod m ≤ m - 1 := by
  rw [Int.tmod_eq_emod_of_nonneg h]
  have h1 := Int.emod_nonneg a (show m ≠ 0 by omega)
  have h2 := Int.emod_lt_of_pos a (show 0 < m by omega)
  omega
theorem list2_ext {a b : List (List Int)} (hl : a.length = b.length) (h : ∀ i, i < a.length → a.getD i [] = b.getD i []) : a = b := by
  apply List.ext_getElem hl
  intro i h1 h2
  have := h i h1
  rwa [getD_lt a [] i h1, getD_lt b [] i h2] at this
def cbF (t : List (List Int)) (m : Int) (g : List Int) (x y : Nat) : Int := (g.getD ((t.getD x []).getD y 0).toNat 0 - g.getD y 0 + m).tmod m
theorem cb_in {t : List (List Int)} {m : Int} {g : List Int} (h1 : tabB t = true) (h2 : shiftB (t.length : Int) m g = true) (x y : Nat) (hx : x < t.length) (hy : y < t.length) :
    1 ≤ m ∧ m ≤ 12 ∧ (g.length : Int) = (t.length : Int) ∧ (t.getD x []).length = t.length ∧ 0 ≤ (t.getD x []).getD y 0 ∧ (t.getD x []).getD y 0 ≤ (t.length : Int) - 1 ∧
    0 ≤ g.getD ((t.getD x []).getD y 0).toNat 0 ∧ g.getD ((t.getD x []).getD y 0).toNat 0 ≤ m - 1 ∧ 0 ≤ g.getD y 0 ∧ g.getD y 0 ≤ m - 1 := by
  obtain ⟨_, _, a⟩ := tabB_of h1
  obtain ⟨b, c⟩ := a x hx
  have d := c y hy
  obtain ⟨e, f, k, l⟩ := shiftB_of h2
  have u := l ((t.getD x []).getD y 0).toNat (by omega)
  have v := l y (by omega)
  exact ⟨e, f, k, b, d.1, d.2, u.1, u.2, v.1, v.2⟩
def l14Bound_p (t : List (List Int)) (m : Int) (g : List Int) : Post := ⟨tabB t = true ∧ shiftB (t.length : Int) m g = true, .c (.rows 27 2 .i64 (tabR t.length (cbF t m g))), []⟩
def l14Bound_ct : List AD → Option Post
  | [.c (.rows .i64 (t)), .c (.int .i64 (m)), .c (.ints .i64 (g))] => some (l14Bound_p t m g)
  | _ => none
def l14Bound_ann (t : List (List Int)) (m : Int) (g : List Int) : Nat → Option Ann
  | 0 => some (Ann.mk ((Nat)) (fun i => ⟨[(0, .c (.ro (.rows .i64 (t)))), (1, .c (.int .i64 (m))), (2, .c (.ro (.ints .i64 (g)))), (7, .c (.own (11))), (8, .c (.int .i64 ((i : Int))))], [(11, some (.rows 0 27 2 .i64 ((tabR t.length (cbF t m g)).take i)))]⟩) (fun i => i ≤ t.length) (fun i => t.length - i) (fun i => fun b_ => match b_ with | 2 => some (Ann.mk ((Nat)) (fun j => ⟨[(0, .c (.ro (.rows .i64 (t)))), (1, .c (.int .i64 (m))), (2, .c (.ro (.ints .i64 (g)))), (7, .c (.own (11))), (8, .c (.int .i64 ((i : Int)))), (9, .c (.own (18))), (10, .c (.int .i64 ((j : Int))))], [(11, some (.rows 0 27 2 .i64 ((tabR t.length (cbF t m g)).take i))), (18, some (.ints 2 .i64 ((tab t.length (cbF t m g i)).take j)))]⟩) (fun j => j ≤ t.length ∧ i < t.length) (fun j => t.length - j) (fun _ => noAnn)) | _ => none))
  | _ => none
def l14Bound_G : List (Nat × Ctr) := []
def l14Bound_c1 (t : List (List Int)) (m : Int) (g : List Int) (x0 : Nat) (x1 : Nat) := (g.getD (((List.getD t ((↑x0:Int).toNat) []).getD ((↑x1:Int).toNat) (0:Int)).toNat) (0:Int) - g.getD ((↑x1:Int).toNat) (0:Int) + m)
def l14Bound_V (t : List (List Int)) (m : Int) (g : List Int) : Prop :=
 ((∃ x0 : Nat, ((x0 ≤ t.length)∧((t = t)∧((m = m)∧((g = g)∧(((0:Int) = (↑x0:Int))∧([] = List.take x0 (tabR (t.length) (cbF t m g)))))))))∧(∀ x1 : Nat, ((x1 ≤ t.length) → (BrP (decide ((↑x1:Int) < (↑(t.length):Int))) ((∃ x2 : Nat, (((x2 ≤ t.length)∧(x1 < t.length))∧((t = t)∧((m = m)∧((g = g)∧(((↑x1:Int) = (↑x1:Int))∧(((0:Int) = (↑x2:Int))∧((List.take x1 (tabR (t.length) (cbF t m g)) = List.take x1 (tabR (t.length) (cbF t m g)))∧([] = List.take x2 (tab (t.length) (cbF t m g x1)))))))))))∧(∀ x3 : Nat, (((x3 ≤ t.length)∧(x1 < t.length)) → (BrP (decide ((↑x3:Int) < (↑(t.length):Int))) ((inB (↑x1:Int) (t.length))∧((inB (↑x3:Int) ((t.getD ((↑x1:Int).toNat) []).length))∧((inB ((List.getD t ((↑x1:Int).toNat) []).getD ((↑x3:Int).toNat) (0:Int)) (g.length))∧((inB (↑x3:Int) (g.length))∧((InR (g.getD (((List.getD t ((↑x1:Int).toNat) []).getD ((↑x3:Int).toNat) (0:Int)).toNat) (0:Int) - g.getD ((↑x3:Int).toNat) (0:Int)))∧((InR (l14Bound_c1 t m g x1 x3))∧((m ≠ (0:Int))∧((room ((List.take x3 (tab (t.length) (cbF t m g x1))).length + [Int.tmod (l14Bound_c1 t m g x1 x3) m].length))∧((InR ((↑x3:Int) + (1:Int)))∧(∃ x4 : Nat, (((x4 ≤ t.length)∧(x1 < t.length))∧((t.length - x4 < t.length - x3)∧((t = t)∧((m = m)∧((g = g)∧(((↑x1:Int) = (↑x1:Int))∧(((↑x3:Int) + (1:Int) = (↑x4:Int))∧((List.take x1 (tabR (t.length) (cbF t m g)) = List.take x1 (tabR (t.length) (cbF t m g))) ∧
 (List.take x3 (tab (t.length) (cbF t m g x1)) ++ [Int.tmod (l14Bound_c1 t m g x1 x3) m] = List.take x4 (tab (t.length) (cbF t m g x1))))))))))))))))))))) ((room ((List.take x1 (tabR (t.length) (cbF t m g))).length + [List.take x3 (tab (t.length) (cbF t m g x1))].length))∧((InR ((↑x1:Int) + (1:Int)))∧(∃ x5 : Nat, ((x5 ≤ t.length)∧((t.length - x5 < t.length - x1)∧((t = t)∧((m = m)∧((g = g)∧(((↑x1:Int) + (1:Int) = (↑x5:Int))∧(List.take x1 (tabR (t.length) (cbF t m g)) ++ [List.take x3 (tab (t.length) (cbF t m g x1))] = List.take x5 (tabR (t.length) (cbF t m g)))))))))))))))) ((List.take x1 (tabR (t.length) (cbF t m g)) = tabR (t.length) (cbF t m g))∧True)))))
theorem l14Bound_vc (t : List (List Int)) (m : Int) (g : List Int) : runF Tryz.prog (gam l14Bound_G) noWr (l14Bound_ann t m g) Tryz.f59 (bodyOf Tryz.f59) [] [.c (.rows .i64 (t)), .c (.int .i64 (m)), .c (.ints .i64 (g))] (l14Bound_p t m g) = l14Bound_V t m g := by kernel_rfl
theorem l14Bound_ok (t : List (List Int)) (m : Int) (g : List Int) (hpre : (l14Bound_p t m g).pre) : l14Bound_V t m g := by
  simp only [l14Bound_p, l14Bound_V, l14Bound_c1, BrP_iff, u1, u2, u3, u4, u5, u6, u7, u8, u9, v1, v2, v3, v4, v5, v6, v7, v8, v9, w1, w2, w3, w4, markL_length, inB, InR, room, bdsOk] at hpre ⊢
  obtain ⟨h1, h2⟩ := hpre
  have ht := tabB_of h1
  have hT := tabR_length t.length (cbF t m g)
  have hr : ∀ i : Nat, (tab t.length (cbF t m g i)).length = t.length := fun i => tab_length _ _
  refine ⟨⟨0, by omega, rfl, by simp⟩, fun i hi => ⟨fun h => ⟨⟨0, by omega, rfl, by simp⟩, fun j ⟨hj, _⟩ => ⟨fun h3 => ?_, fun h3 => ?_⟩⟩, fun h => List.take_of_length_le (by omega)⟩⟩
  · have q := cb_in h1 h2 i j (by omega) (by omega)
    have := hr i
    refine ⟨by omega, by omega, by omega, by omega, by omega, by omega, by omega, by omega, by omega, j + 1, by omega, by omega, by omega, ?_⟩
    rw [← take_snoc _ 0 j (by omega), tab_getD _ _ _ (by omega)]
    rfl
  · refine ⟨by omega, by omega, i + 1, by omega, by omega, by omega, ?_⟩
    have e : (tab t.length (cbF t m g i)).take j = tab t.length (cbF t m g i) := List.take_of_length_le (by rw [hr]; omega)
    rw [← take_snoc _ [] i (by omega), tabR_getD _ _ _ (by omega), e]
theorem l14Bound_fits : Fits Tryz.prog 59 ⟨[], l14Bound_ct⟩ := by
  refine ffn (Γ := gam l14Bound_G) gok_nil Tryz.func59 fun ds p h hp => ?_
  unfold l14Bound_ct at h
  split at h
  · cases h
    exact ⟨noWr, l14Bound_ann _ _ _ , by rw [l14Bound_vc]; exact l14Bound_ok _ _ _  hp⟩
  · cases h
def matsB (n m : Int) (f : List (List Int)) : Bool := decide ((f.length : Int) = n) && f.all (numsB n m)
def matB (n m : Int) (f : List (List Int)) : Bool := decide (1 ≤ m ∧ m ≤ 12) && matsB n m f
theorem matB_of {n m : Int} {f : List (List Int)} (h : matB n m f = true) : 1 ≤ m ∧ m ≤ 12 ∧ (f.length : Int) = n ∧ ∀ x, x < f.length → ((f.getD x []).length : Int) = n ∧ ∀ y, y < (f.getD x []).length → 0 ≤ (f.getD x []).getD y 0 ∧ (f.getD x []).getD y 0 ≤ m - 1 := by
  simp only [matB, matsB, Bool.and_eq_true, decide_eq_true_eq] at h
  refine ⟨by omega, by omega, by omega, fun x hx => ?_⟩
  have h1 := allG_get [] h.2.2 x hx
  simp only [numsB, Bool.and_eq_true, decide_eq_true_eq] at h1
  exact ⟨h1.2, fun y hy => allW_get h1.1 y hy⟩
def isMatrix1_p (r : List Int) (n : Int) (m : Int) : Post := ⟨r.length ≤ 1099511627776, .c (.bool (!shiftB n m r)), []⟩
def isMatrix1_ct : List AD → Option Post
  | [.c (.ints .i64 (r)), .box [.int .i64 (n)], .box [.int .i64 (m)]] => some (isMatrix1_p r n m)
  | _ => none
def isMatrix1_G : List (Nat × Ctr) := [(73, ⟨[], isShift_ct⟩)]
def isMatrix1_V (r : List Int) (n : Int) (m : Int) : Prop :=
 (((room (r.length))∧True)∧(((!shiftB n m r) = !shiftB n m r)∧True))
theorem isMatrix1_vc (r : List Int) (n : Int) (m : Int) : runF Tryz.prog (gam isMatrix1_G) noWr noAnn Tryz.f72 (bodyOf Tryz.f72) [] [.c (.ints .i64 (r)), .box [.int .i64 (n)], .box [.int .i64 (m)]] (isMatrix1_p r n m) = isMatrix1_V r n m := by kernel_rfl
theorem isMatrix1_ok (r : List Int) (n : Int) (m : Int) (hpre : (isMatrix1_p r n m).pre) : isMatrix1_V r n m := by
  simp only [isMatrix1_p, isMatrix1_V, BrP_iff, u1, u2, u3, u4, u5, u6, u7, u8, u9, v1, v2, v3, v4, v5, v6, v7, v8, v9, w1, w2, w3, w4, markL_length, inB, InR, room, bdsOk] at hpre ⊢
  exact hpre
theorem isMatrix1_fits : Fits Tryz.prog 72 ⟨[], isMatrix1_ct⟩ := by
  refine ffn (Γ := gam isMatrix1_G) (gok_cons isShift_fits gok_nil) Tryz.func72 fun ds p h hp => ?_
  unfold isMatrix1_ct at h
  split at h
  · cases h
    exact ⟨noWr, noAnn, by rw [isMatrix1_vc]; exact isMatrix1_ok _ _ _  hp⟩
  · cases h
def isMatrix_p (n : Int) (m : Int) (f : List (List Int)) : Post := ⟨roomR f, .c (.bool (matB n m f)), []⟩
def isMatrix_ct : List AD → Option Post
  | [.c (.int .i64 (n)), .c (.int .i64 (m)), .c (.rows .i64 (f))] => some (isMatrix_p n m f)
  | _ => none
def isMatrix_G : List (Nat × Ctr) := [(70, ⟨[], within_ct⟩), (71, ⟨[], ContainsFuncR_ct⟩), (72, ⟨[], isMatrix1_ct⟩)]
def isMatrix_V (n : Int) (m : Int) (f : List (List Int)) : Prop :=
 ((True∧True)∧(BrP (decide ((1:Int) ≤ m ∧ m ≤ (12:Int))) (BrP ((↑(f.length):Int) == n) ((((f.length ≤ (1099511627776:Nat))∧(∀ (x : List Int), x ∈ f → x.length ≤ (1099511627776:Nat)))∧True)∧(((!List.any f fun (x : List Int) => !shiftB n m x) = matB n m f)∧True)) ((false = matB n m f)∧True)) ((false = matB n m f)∧True)))
theorem isMatrix_vc (n : Int) (m : Int) (f : List (List Int)) : runF Tryz.prog (gam isMatrix_G) noWr noAnn Tryz.f35 (bodyOf Tryz.f35) [] [.c (.int .i64 (n)), .c (.int .i64 (m)), .c (.rows .i64 (f))] (isMatrix_p n m f) = isMatrix_V n m f := by kernel_rfl
theorem isMatrix_ok (n : Int) (m : Int) (f : List (List Int)) (hpre : (isMatrix_p n m f).pre) : isMatrix_V n m f := by
  simp only [isMatrix_p, isMatrix_V, BrP_iff, u1, u2, u3, u4, u5, u6, u7, u8, u9, v1, v2, v3, v4, v5, v6, v7, v8, v9, w1, w2, w3, w4, markL_length, inB, InR, room, bdsOk] at hpre ⊢
  refine ⟨fun h => ⟨fun h2 => ⟨hpre, ?_⟩, fun h2 => by rw [matB, matsB, decide_eq_false h2, Bool.false_and, Bool.and_false]⟩, fun h => by rw [matB, decide_eq_false h]; rfl⟩
  have e : shiftB n m = numsB n m := by funext r; rw [shiftB, decide_eq_true h, Bool.true_and]
  rw [matB, matsB, decide_eq_true h, decide_eq_true h2, Bool.true_and, Bool.true_and, List.all_eq_not_any_not, Bool.not_not, e]
theorem isMatrix_fits : Fits Tryz.prog 35 ⟨[], isMatrix_ct⟩ := by
  refine ffn (Γ := gam isMatrix_G) (gok_cons within_fits (gok_cons ContainsFuncR_fits (gok_cons isMatrix1_fits gok_nil))) Tryz.func35 fun ds p h hp => ?_
  unfold isMatrix_ct at h
  split at h
  · cases h
    exact ⟨noWr, noAnn, by rw [isMatrix_vc]; exact isMatrix_ok _ _ _  hp⟩
  · cases h
theorem nodupLe : ∀ {a b : List Int}, a.Nodup → (∀ x ∈ a, x ∈ b) → a.length ≤ b.length
  | [], _, _, _ => Nat.zero_le _
  | x :: a, b, hn, hs => by
    rw [List.nodup_cons] at hn
    have h1 : x ∈ b := hs x (by simp)
    have h2 := nodupLe (b := b.erase x) hn.2 fun y hy => (List.mem_erase_of_ne (by rintro rfl; exact hn.1 hy)).2 (hs y (by simp [hy]))
    rw [List.length_erase_of_mem h1] at h2
    have := List.length_pos_of_mem h1
    simp only [List.length_cons]; omega
def ints (n : Nat) : List Int := (List.range n).map fun i : Nat => (i : Int)
theorem ints_nodup : ∀ n, (ints n).Nodup
  | 0 => by simp [ints]
  | n + 1 => by
    have : ints (n + 1) = ints n ++ [(n : Int)] := by simp [ints, List.range_succ]
    rw [this, List.nodup_append]
    refine ⟨ints_nodup n, by simp, fun a ha b hb => ?_⟩
    simp only [ints, List.mem_map, List.mem_range] at ha
    obtain ⟨i, hi, rfl⟩ := ha
    simp at hb
    omega
theorem ints_mem {n : Nat} {x : Int} : x ∈ ints n ↔ 0 ≤ x ∧ x < (n : Int) := by
  simp only [ints, List.mem_map, List.mem_range]
  exact ⟨by rintro ⟨i, hi, rfl⟩; omega, fun h => ⟨x.toNat, by omega, by omega⟩⟩
def permB (l : List Int) : Bool := decide ((∀ x ∈ l, 0 ≤ x ∧ x < (l.length : Int)) ∧ l.Nodup)
theorem perm_all {l : List Int} : permB l = true ↔ ∀ x : Int, 0 ≤ x → x < (l.length : Int) → x ∈ l := by
  simp only [permB, decide_eq_true_eq]
  constructor
  · rintro ⟨h1, h2⟩ x hx hx2
    refine Classical.byContradiction fun hn => ?_
    have := nodupLe (a := x :: l) (b := ints l.length) (List.nodup_cons.2 ⟨hn, h2⟩) fun y hy => by
      rcases List.mem_cons.1 hy with rfl | hy
      · exact ints_mem.2 ⟨hx, hx2⟩
      · exact ints_mem.2 (h1 y hy)
    simp [ints] at this
    omega
  · intro h
    have sub : ∀ l' : List Int, l'.length < l.length → ¬ ∀ x ∈ ints l.length, x ∈ l' := fun l' hl hc => by
      have := nodupLe (ints_nodup l.length) hc
      simp [ints] at this
      omega
    have hall : ∀ x ∈ ints l.length, x ∈ l := fun x hx => h x (ints_mem.1 hx).1 (ints_mem.1 hx).2
    refine ⟨fun x hx => Classical.byContradiction fun hn => ?_, Classical.byContradiction fun hn => ?_⟩
    · refine sub (l.erase x) (by rw [List.length_erase_of_mem hx]; have := List.length_pos_of_mem hx; omega) fun y hy => ?_
      exact (List.mem_erase_of_ne (by rintro rfl; exact hn (ints_mem.1 hy))).2 (hall y hy)
    · rw [List.nodup_iff_count] at hn
      simp only [Classical.not_forall] at hn
      obtain ⟨a, ha⟩ := hn
      have hm : a ∈ l := List.count_pos_iff.1 (by omega)
      have hm2 : a ∈ l.erase a := List.count_pos_iff.1 (by rw [List.count_erase_self]; omega)
      refine sub (l.erase a) (by rw [List.length_erase_of_mem hm]; have := List.length_pos_of_mem hm; omega) fun y hy => ?_
      by_cases hya : y = a
      · rw [hya]; exact hm2
      · exact (List.mem_erase_of_ne hya).2 (hall y hy)
def idxL (x : Int) : List Int → Int → Int
  | [], _ => -1
  | y :: l, k => if y = x then k else idxL x l (k + 1)
theorem idxL_mem (x : Int) : ∀ (l : List Int) (k : Int), 0 ≤ k → decide (0 ≤ idxL x l k) = decide (x ∈ l)
  | [], k, _ => by simp [idxL]
  | y :: l, k, h => by
    simp only [idxL, List.mem_cons]
    by_cases hp : y = x
    · simp [hp, h]
    · simp only [hp, if_false, idxL_mem x l (k + 1) (by omega)]
      have : ¬ x = y := fun e => hp e.symm
      simp [this]
def l01Index_p (l : List Int) (n : Int) : Post := ⟨l.length ≤ 1099511627776, .c (.int .i64 (idxL n l 0)), []⟩
def l01Index_ct : List AD → Option Post
  | [.c (.ints .i64 (l)), .c (.int .i64 (n))] => some (l01Index_p l n)
  | _ => none
def l01Index_ann (l : List Int) (n : Int) : Nat → Option Ann
  | 0 => some (Ann.mk ((Nat)) (fun i => ⟨[(0, .c (.ro (.ints .i64 (l)))), (1, .c (.int .i64 (n))), (5, .c (.int .i64 ((i : Int))))], []⟩) (fun i => i ≤ l.length ∧ idxL n l 0 = idxL n (l.drop i) (i : Int)) (fun i => l.length - i) (fun _ => noAnn))
  | _ => none
def l01Index_G : List (Nat × Ctr) := []
def l01Index_V (l : List Int) (n : Int) : Prop :=
 ((∃ x0 : Nat, (((x0 ≤ l.length)∧(idxL n l (0:Int) = idxL n (List.drop x0 l) (↑x0:Int)))∧((l = l)∧((n = n)∧((0:Int) = (↑x0:Int))))))∧(∀ x1 : Nat, (((x1 ≤ l.length)∧(idxL n l (0:Int) = idxL n (List.drop x1 l) (↑x1:Int))) → (BrP (decide ((↑x1:Int) < (↑(l.length):Int))) ((inB (↑x1:Int) (l.length))∧(BrP (l.getD ((↑x1:Int).toNat) (0:Int) == n) (((↑x1:Int) = idxL n l (0:Int))∧True) ((InR ((↑x1:Int) + (1:Int)))∧(∃ x2 : Nat, (((x2 ≤ l.length)∧(idxL n l (0:Int) = idxL n (List.drop x2 l) (↑x2:Int)))∧((l.length - x2 < l.length - x1)∧((l = l)∧((n = n)∧((↑x1:Int) + (1:Int) = (↑x2:Int)))))))))) (((-1:Int) = idxL n l (0:Int))∧True)))))
theorem l01Index_vc (l : List Int) (n : Int) : runF Tryz.prog (gam l01Index_G) noWr (l01Index_ann l n) Tryz.f85 (bodyOf Tryz.f85) [] [.c (.ints .i64 (l)), .c (.int .i64 (n))] (l01Index_p l n) = l01Index_V l n := by kernel_rfl
theorem l01Index_ok (l : List Int) (n : Int) (hpre : (l01Index_p l n).pre) : l01Index_V l n := by
  simp only [l01Index_p, l01Index_V, BrP_iff, u1, u2, u3, u4, u5, u6, u7, u8, u9, v1, v2, v3, v4, v5, v6, v7, v8, v9, w1, w2, w3, w4, markL_length, inB, InR, room, bdsOk] at hpre ⊢
  refine ⟨⟨0, ⟨by omega, rfl⟩, rfl⟩, fun i ⟨hi, he⟩ => ⟨fun h => ?_, fun h => ?_⟩⟩
  · rw [drop_cons' l 0 i (by omega)] at he
    simp only [idxL] at he
    refine ⟨by omega, fun h1 => ?_, fun h1 => ⟨by omega, i + 1, ⟨by omega, ?_⟩, by omega, by omega⟩⟩
    · rw [he, if_pos h1]
    · rw [he, if_neg h1]; simp
  · rw [he, List.drop_of_length_le (by omega)]; rfl
theorem l01Index_fits : Fits Tryz.prog 85 ⟨[], l01Index_ct⟩ := by
  refine ffn (Γ := gam l01Index_G) gok_nil Tryz.func85 fun ds p h hp => ?_
  unfold l01Index_ct at h
  split at h
  · cases h
    exact ⟨noWr, l01Index_ann _ _ , by rw [l01Index_vc]; exact l01Index_ok _ _  hp⟩
  · cases h
def l01Has_p (l : List Int) (n : Int) : Post := ⟨l.length ≤ 1099511627776, .c (.bool (decide (n ∈ l))), []⟩
def l01Has_ct : List AD → Option Post
  | [.c (.ints .i64 (l)), .c (.int .i64 (n))] => some (l01Has_p l n)
  | _ => none
def l01Has_G : List (Nat × Ctr) := [(85, ⟨[], l01Index_ct⟩)]
def l01Has_V (l : List Int) (n : Int) : Prop :=
 (((l.length ≤ (1099511627776:Nat))∧True)∧((decide ((0:Int) ≤ idxL n l (0:Int)) = decide (n ∈ l))∧True))
theorem l01Has_vc (l : List Int) (n : Int) : runF Tryz.prog (gam l01Has_G) noWr noAnn Tryz.f47 (bodyOf Tryz.f47) [] [.c (.ints .i64 (l)), .c (.int .i64 (n))] (l01Has_p l n) = l01Has_V l n := by kernel_rfl
theorem l01Has_ok (l : List Int) (n : Int) (hpre : (l01Has_p l n).pre) : l01Has_V l n := by
  simp only [l01Has_p, l01Has_V, BrP_iff, u1, u2, u3, u4, u5, u6, u7, u8, u9, v1, v2, v3, v4, v5, v6, v7, v8, v9, w1, w2, w3, w4, markL_length, inB, InR, room, bdsOk] at hpre ⊢
  exact ⟨hpre, idxL_mem n l 0 (by omega)⟩
theorem l01Has_fits : Fits Tryz.prog 47 ⟨[], l01Has_ct⟩ := by
  refine ffn (Γ := gam l01Has_G) (gok_cons l01Index_fits gok_nil) Tryz.func47 fun ds p h hp => ?_
  unfold l01Has_ct at h
  split at h
  · cases h
    exact ⟨noWr, noAnn, by rw [l01Has_vc]; exact l01Has_ok _ _  hp⟩
  · cases h
def l01Perm_p (l : List Int) : Post := ⟨l.length ≤ 1099511627776, .c (.bool (decide (1 ≤ (l.length : Int) ∧ (l.length : Int) ≤ 12) && permB l)), []⟩
def l01Perm_ct : List AD → Option Post
  | [.c (.ints .i64 (l))] => some (l01Perm_p l)
  | _ => none
def l01Perm_ann (l : List Int) : Nat → Option Ann
  | 0 => some (Ann.mk ((Nat)) (fun i => ⟨[(0, .c (.ro (.ints .i64 (l)))), (3, .c (.int .i64 ((l.length : Int)))), (4, .c (.int .i64 ((i : Int))))], []⟩) (fun i => i ≤ l.length ∧ ∀ x : Int, 0 ≤ x → x < (i : Int) → x ∈ l) (fun i => l.length - i) (fun _ => noAnn))
  | _ => none
def l01Perm_G : List (Nat × Ctr) := [(57, ⟨[], l01In_ct⟩), (47, ⟨[], l01Has_ct⟩)]
def l01Perm_V (l : List Int) : Prop :=
 ((True∧True)∧(BrP (!decide ((1:Int) ≤ (↑(l.length):Int) ∧ (↑(l.length):Int) ≤ (12:Int))) ((false = (decide ((1:Int) ≤ (↑(l.length):Int) ∧ (↑(l.length):Int) ≤ (12:Int)) && permB l))∧True) ((∃ x0 : Nat, (((x0 ≤ l.length)∧(∀ (x:Int), (0:Int) ≤ x → x < (↑x0:Int) → x ∈ l))∧((l = l)∧(((↑(l.length):Int) = (↑(l.length):Int))∧((0:Int) = (↑x0:Int))))))∧(∀ x1 : Nat, (((x1 ≤ l.length)∧(∀ (x:Int), (0:Int) ≤ x → x < (↑x1:Int) → x ∈ l)) → (BrP (decide ((↑x1:Int) < (↑(l.length):Int))) (((l.length ≤ (1099511627776:Nat))∧True)∧(BrP (!decide ((↑x1:Int) ∈ l)) ((false = (decide ((1:Int) ≤ (↑(l.length):Int) ∧ (↑(l.length):Int) ≤ (12:Int)) && permB l))∧True) ((InR ((↑x1:Int) + (1:Int)))∧(∃ x2 : Nat, (((x2 ≤ l.length)∧(∀ (x:Int), (0:Int) ≤ x → x < (↑x2:Int) → x ∈ l))∧((l.length - x2 < l.length - x1)∧((l = l)∧(((↑(l.length):Int) = (↑(l.length):Int))∧((↑x1:Int) + (1:Int) = (↑x2:Int)))))))))) ((true = (decide ((1:Int) ≤ (↑(l.length):Int) ∧ (↑(l.length):Int) ≤ (12:Int)) && permB l))∧True)))))))
theorem l01Perm_vc (l : List Int) : runF Tryz.prog (gam l01Perm_G) noWr (l01Perm_ann l) Tryz.f54 (bodyOf Tryz.f54) [] [.c (.ints .i64 (l))] (l01Perm_p l) = l01Perm_V l := by kernel_rfl
theorem l01Perm_ok (l : List Int) (hpre : (l01Perm_p l).pre) : l01Perm_V l := by
  simp only [l01Perm_p, l01Perm_V, BrP_iff, u1, u2, u3, u4, u5, u6, u7, u8, u9, v1, v2, v3, v4, v5, v6, v7, v8, v9, w1, w2, w3, w4, markL_length, inB, InR, room, bdsOk] at hpre ⊢
  refine ⟨fun h => by rw [decide_eq_false h]; rfl, fun h => ⟨⟨0, ⟨by omega, fun x a b => by omega⟩, rfl⟩, fun i ⟨hi, he⟩ => ⟨fun h2 => ⟨hpre, fun h3 => ?_, fun h3 => ⟨by omega, i + 1, ⟨by omega, fun x a b => ?_⟩, by omega, by omega⟩⟩, fun h2 => ?_⟩⟩⟩
  · have : permB l = false := by
      cases hb : permB l with
      | false => rfl
      | true => exact absurd (perm_all.1 hb i (by omega) h2) h3
    rw [this, Bool.and_false]
  · by_cases hx : x = (i : Int)
    · rw [hx]; exact h3
    · exact he x a (by omega)
  · rw [decide_eq_true h, perm_all.2 fun x a b => he x a (by omega)]; rfl
theorem l01Perm_fits : Fits Tryz.prog 54 ⟨[], l01Perm_ct⟩ := by
  refine ffn (Γ := gam l01Perm_G) (gok_cons l01In_fits (gok_cons l01Has_fits gok_nil)) Tryz.func54 fun ds p h hp => ?_
  unfold l01Perm_ct at h
  split at h
  · cases h
    exact ⟨noWr, l01Perm_ann _ , by rw [l01Perm_vc]; exact l01Perm_ok _  hp⟩
  · cases h
def seenL (n : Nat) (l : List Int) : List Bool := (List.range n).map fun i : Nat => decide ((i : Int) ∈ l)
theorem seenL_length (n : Nat) (l : List Int) : (seenL n l).length = n := by simp [seenL]
theorem seenL_getD (n : Nat) (l : List Int) (k : Nat) (h : k < n) : (seenL n l).getD k false = decide ((k : Int) ∈ l) := by
  simp [seenL, List.getD_eq_getElem?_getD, h]
theorem seenL_nil (n : Nat) : seenL n [] = List.replicate n false := by
  apply List.ext_getElem
  · simp [seenL]
  · intro i h1 h2
    simp [seenL]
theorem seenL_set (n : Nat) (l : List Int) (k : Nat) (h : k < n) : (seenL n l).set k true = seenL n (l ++ [(k : Int)]) := by
  apply List.ext_getElem
  · simp [seenL]
  · intro i h1 h2
    simp only [seenL, List.getElem_set, List.getElem_map, List.getElem_range, List.mem_append, List.mem_singleton]
    by_cases hk : k = i
    · subst hk; simp
    · have : ¬ (i : Int) = (k : Int) := by omega
      simp [hk, this]
def isPermuted_p (l : List Int) : Post := ⟨l.length ≤ 1099511627776, .c (.bool (permB l)), []⟩
def isPermuted_ct : List AD → Option Post
  | [.c (.ints .i64 (l))] => some (isPermuted_p l)
  | _ => none
def isPermuted_ann (l : List Int) : Nat → Option Ann
  | 0 => some (Ann.mk ((Nat)) (fun i => ⟨[(0, .c (.ro (.ints .i64 (l)))), (3, .c (.own (8))), (9, .c (.ro (.ints .i64 (l)))), (10, .c (.int .i64 ((l.length : Int)))), (11, .c (.int .i64 ((i : Int))))], [(8, some (.bools 4 (seenL l.length (l.take i))))]⟩) (fun i => i ≤ l.length ∧ (∀ x ∈ l.take i, 0 ≤ x ∧ x < (l.length : Int)) ∧ (l.take i).Nodup) (fun i => l.length - i) (fun _ => noAnn))
  | _ => none
def isPermuted_G : List (Nat × Ctr) := [(70, ⟨[], within_ct⟩)]
def isPermuted_V (l : List Int) : Prop :=
 ((((0:Int) ≤ (↑(l.length):Int))∧(((↑(l.length):Int) ≤ (↑(l.length):Int))∧(room ((↑(l.length):Int).toNat))))∧((∃ x0 : Nat, (((x0 ≤ l.length)∧((∀ (x:Int), x ∈ List.take x0 l → (0:Int) ≤ x ∧ x < (↑(l.length):Int))∧(List.Nodup (List.take x0 l))))∧((l = l)∧((l = l)∧(((↑(l.length):Int) = (↑(l.length):Int))∧(((0:Int) = (↑x0:Int))∧(List.replicate ((↑(l.length):Int).toNat) false = seenL (l.length) (List.take x0 l))))))))∧(∀ x1 : Nat, (((x1 ≤ l.length)∧((∀ (x:Int), x ∈ List.take x1 l → (0:Int) ≤ x ∧ x < (↑(l.length):Int))∧(List.Nodup (List.take x1 l)))) → (BrP (decide ((↑x1:Int) < (↑(l.length):Int))) ((inB (↑x1:Int) (l.length))∧((InR ((↑(l.length):Int) - (1:Int)))∧((True∧True)∧(BrP (!decide ((0:Int) ≤ l.getD ((↑x1:Int).toNat) (0:Int) ∧ l.getD ((↑x1:Int).toNat) (0:Int) ≤ (↑(l.length):Int) - (1:Int))) ((false = permB l)∧True) ((inB (l.getD ((↑x1:Int).toNat) (0:Int)) ((seenL (l.length) (List.take x1 l)).length))∧(BrP ((seenL (l.length) (List.take x1 l)).getD ((l.getD ((↑x1:Int).toNat) (0:Int)).toNat) false) ((false = permB l)∧True) ((inB (l.getD ((↑x1:Int).toNat) (0:Int)) ((seenL (l.length) (List.take x1 l)).length))∧((InR ((↑x1:Int) + (1:Int)))∧(∃ x2 : Nat, (((x2 ≤ l.length)∧((∀ (x:Int), x ∈ List.take x2 l → (0:Int) ≤ x ∧ x < (↑(l.length):Int))∧(List.Nodup (List.take x2 l))))∧((l.length - x2 < l.length - x1)∧((l = l)∧((l = l)∧(((↑(l.length):Int) = (↑(l.length):Int))∧(((↑x1:Int) + (1:Int) = (↑x2:Int)) ∧
 (List.set (seenL (l.length) (List.take x1 l)) ((l.getD ((↑x1:Int).toNat) (0:Int)).toNat) true = seenL (l.length) (List.take x2 l))))))))))))))))) ((true = permB l)∧True))))))
theorem isPermuted_vc (l : List Int) : runF Tryz.prog (gam isPermuted_G) noWr (isPermuted_ann l) Tryz.f95 (bodyOf Tryz.f95) [] [.c (.ints .i64 (l))] (isPermuted_p l) = isPermuted_V l := by kernel_rfl
theorem isPermuted_ok (l : List Int) (hpre : (isPermuted_p l).pre) : isPermuted_V l := by
  simp only [isPermuted_p, isPermuted_V, BrP_iff, u1, u2, u3, u4, u5, u6, u7, u8, u9, v1, v2, v3, v4, v5, v6, v7, v8, v9, w1, w2, w3, w4, markL_length, inB, InR, room, bdsOk] at hpre ⊢
  refine ⟨by omega, ⟨0, ⟨by omega, by simp, by simp⟩, rfl, (seenL_nil _).symm⟩, fun i ⟨hi, h1, h2⟩ => ⟨fun h => ⟨by omega, by omega, fun h3 => ?_, fun h3 => ⟨?_, fun h4 => ?_, fun h4 => ⟨?_, by omega, i + 1, ⟨by omega, fun x hx => ?_, ?_⟩, by omega, by omega, ?_⟩⟩⟩, fun h => ?_⟩⟩
  · exact (decide_eq_false fun e => h3 (by have := e.1 _ (getD_mem l 0 i (by omega)); omega)).symm
  · rw [seenL_length]; omega
  · rw [seenL_getD _ _ _ (by omega), decide_eq_true_eq] at h4
    rw [show (((l.getD i 0).toNat : Nat) : Int) = l.getD i 0 by omega] at h4
    refine (decide_eq_false fun e => ?_).symm
    have h5 : (l.take (i + 1)).Nodup := List.Pairwise.sublist (List.take_sublist _ _) e.2
    rw [← take_snoc l 0 i (by omega), List.nodup_append] at h5
    exact h5.2.2 _ h4 _ (by simp) rfl
  · rw [seenL_length]; omega
  · rw [← take_snoc l 0 i (by omega), List.mem_append] at hx
    rcases hx with hx | hx
    · exact h1 x hx
    · simp only [List.mem_singleton] at hx
      rw [hx]; omega
  · rw [seenL_getD _ _ _ (by omega), decide_eq_false_iff_not] at h4
    rw [show (((l.getD i 0).toNat : Nat) : Int) = l.getD i 0 by omega] at h4
    rw [← take_snoc l 0 i (by omega), List.nodup_append]
    refine ⟨h2, by simp, fun a ha b hb => ?_⟩
    simp only [List.mem_singleton] at hb
    rintro rfl
    rw [hb] at ha
    exact h4 ha
  · rw [← take_snoc l 0 i (by omega), seenL_set _ _ _ (by omega), show (((l.getD i 0).toNat : Nat) : Int) = l.getD i 0 by omega]
  · rw [List.take_of_length_le (by omega)] at h1 h2
    exact (decide_eq_true ⟨h1, h2⟩).symm
theorem isPermuted_fits : Fits Tryz.prog 95 ⟨[], isPermuted_ct⟩ := by
  refine ffn (Γ := gam isPermuted_G) (gok_cons within_fits gok_nil) Tryz.func95 fun ds p h hp => ?_
  unfold isPermuted_ct at h
  split at h
  · cases h
    exact ⟨noWr, isPermuted_ann _ , by rw [isPermuted_vc]; exact isPermuted_ok _  hp⟩
  · cases h
def permutationRows1_p (l : List Int) : Post := ⟨l.length ≤ 1099511627776, .c (.bool (!permB l)), []⟩
def permutationRows1_ct : List AD → Option Post
  | [.c (.ints .i64 (l))] => some (permutationRows1_p l)
  | _ => none
def permutationRows1_G : List (Nat × Ctr) := [(95, ⟨[], isPermuted_ct⟩)]
def permutationRows1_V (l : List Int) : Prop :=
 (((l.length ≤ (1099511627776:Nat))∧True)∧(((!permB l) = !permB l)∧True))
theorem permutationRows1_vc (l : List Int) : runF Tryz.prog (gam permutationRows1_G) noWr noAnn Tryz.f94 (bodyOf Tryz.f94) [] [.c (.ints .i64 (l))] (permutationRows1_p l) = permutationRows1_V l := by kernel_rfl
theorem permutationRows1_ok (l : List Int) (hpre : (permutationRows1_p l).pre) : permutationRows1_V l := by
  simp only [permutationRows1_p, permutationRows1_V, BrP_iff, u1, u2, u3, u4, u5, u6, u7, u8, u9, v1, v2, v3, v4, v5, v6, v7, v8, v9, w1, w2, w3, w4, markL_length, inB, InR, room, bdsOk] at hpre ⊢
  exact hpre
theorem permutationRows1_fits : Fits Tryz.prog 94 ⟨[], permutationRows1_ct⟩ := by
  refine ffn (Γ := gam permutationRows1_G) (gok_cons isPermuted_fits gok_nil) Tryz.func94 fun ds p h hp => ?_
  unfold permutationRows1_ct at h
  split at h
  · cases h
    exact ⟨noWr, noAnn, by rw [permutationRows1_vc]; exact permutationRows1_ok _  hp⟩
  · cases h
def permutationRows_p (t : List (List Int)) : Post := ⟨roomR t, .c (.bool (t.all permB)), []⟩
def permutationRows_ct : List AD → Option Post
  | [.c (.rows .i64 (t))] => some (permutationRows_p t)
  | _ => none
def permutationRows_G : List (Nat × Ctr) := [(71, ⟨[], ContainsFuncR_ct⟩), (94, ⟨[], permutationRows1_ct⟩)]
def permutationRows_V (t : List (List Int)) : Prop :=
 ((((t.length ≤ (1099511627776:Nat))∧(∀ (x : List Int), x ∈ t → x.length ≤ (1099511627776:Nat)))∧True)∧(((!List.any t fun (x : List Int) => !permB x) = List.all t permB)∧True))
theorem permutationRows_vc (t : List (List Int)) : runF Tryz.prog (gam permutationRows_G) noWr noAnn Tryz.f68 (bodyOf Tryz.f68) [] [.c (.rows .i64 (t))] (permutationRows_p t) = permutationRows_V t := by kernel_rfl
theorem permutationRows_ok (t : List (List Int)) (hpre : (permutationRows_p t).pre) : permutationRows_V t := by
  simp only [permutationRows_p, permutationRows_V, BrP_iff, u1, u2, u3, u4, u5, u6, u7, u8, u9, v1, v2, v3, v4, v5, v6, v7, v8, v9, w1, w2, w3, w4, markL_length, inB, InR, room, bdsOk] at hpre ⊢
  refine ⟨⟨hpre.1, hpre.2⟩, ?_⟩
  rw [List.all_eq_not_any_not, Bool.not_not]
theorem permutationRows_fits : Fits Tryz.prog 68 ⟨[], permutationRows_ct⟩ := by
  refine ffn (Γ := gam permutationRows_G) (gok_cons ContainsFuncR_fits (gok_cons permutationRows1_fits gok_nil)) Tryz.func68 fun ds p h hp => ?_
  unfold permutationRows_ct at h
  split at h
  · cases h
    exact ⟨noWr, noAnn, by rw [permutationRows_vc]; exact permutationRows_ok _  hp⟩
  · cases h
def firstO {α : Type} (n : Nat) (q : Nat → Option α) : Nat → Option α
  | 0 => none
  | k + 1 => (q (n - (k + 1))).or (firstO n q k)
theorem firstO_step {α : Type} (n : Nat) (q : Nat → Option α) (i : Nat) (h : i < n) : firstO n q (n - i) = (q i).or (firstO n q (n - (i + 1))) := by
  rw [show n - i = (n - (i + 1)) + 1 by omega, firstO, show n - (n - (i + 1) + 1) = i by omega]
def en (t : List (List Int)) (x y : Nat) : Int := (t.getD x []).getD y 0
def rkZ (t : List (List Int)) (x y z : Nat) : Option (List Int) := if en t x (en t y z).toNat = en t (en t x y).toNat (en t x z).toNat then none else some [(x : Int), (y : Int), (z : Int)]
def rkY (t : List (List Int)) (x y : Nat) : Option (List Int) := firstO t.length (rkZ t x y) t.length
def rkX (t : List (List Int)) (x : Nat) : Option (List Int) := firstO t.length (rkY t x) t.length
def rkF (t : List (List Int)) : Option (List Int) := firstO t.length (rkX t) t.length
def l03Fault_p (t : List (List Int)) : Post := ⟨tabB t = true, .c (.ints 2 .i64 ((rkF t).getD [])), []⟩
def l03Fault_ct : List AD → Option Post
  | [.c (.rows .i64 (t))] => some (l03Fault_p t)
  | _ => none
def l03Fault_ann (t : List (List Int)) : Nat → Option Ann
  | 0 => some (Ann.mk ((Nat)) (fun i => ⟨[(0, .c (.ro (.rows .i64 (t)))), (3, .c (.int .i64 ((t.length : Int)))), (4, .c (.int .i64 ((i : Int))))], []⟩) (fun i => i ≤ t.length ∧ rkF t = firstO t.length (rkX t) (t.length - i)) (fun i => t.length - i) (fun i => fun b_ => match b_ with | 2 => some (Ann.mk ((Nat)) (fun j => ⟨[(0, .c (.ro (.rows .i64 (t)))), (3, .c (.int .i64 ((t.length : Int)))), (4, .c (.int .i64 ((i : Int)))), (5, .c (.int .i64 ((j : Int))))], []⟩) (fun j => j ≤ t.length ∧ i < t.length ∧ rkF t = (firstO t.length (rkY t i) (t.length - j)).or (firstO t.length (rkX t) (t.length - (i + 1)))) (fun j => t.length - j) (fun j => fun b_ => match b_ with | 4 => some (Ann.mk ((Nat)) (fun k => ⟨[(0, .c (.ro (.rows .i64 (t)))), (3, .c (.int .i64 ((t.length : Int)))), (4, .c (.int .i64 ((i : Int)))), (5, .c (.int .i64 ((j : Int)))), (6, .c (.int .i64 ((k : Int))))], []⟩) (fun k => k ≤ t.length ∧ j < t.length ∧ rkF t = ((firstO t.length (rkZ t i j) (t.length - k)).or (firstO t.length (rkY t i) (t.length - (j + 1)))).or (firstO t.length (rkX t) (t.length - (i + 1)))) (fun k => t.length - k) (fun _ => noAnn)) | _ => none)) | _ => none))
  | _ => none
def l03Fault_G : List (Nat × Ctr) := []
def l03Fault_c1 (t : List (List Int)) (x0 : Nat) := (firstO (t.length) (rkX t) (t.length - (x0 + (1:Nat))))
def l03Fault_c2 (t : List (List Int)) (x0 : Nat) (x1 : Nat) (x2 : Nat) := (Option.or (firstO (t.length) (rkZ t x0 x1) (t.length - x2)) (firstO (t.length) (rkY t x0) (t.length - (x1 + (1:Nat)))))
def l03Fault_c3 (t : List (List Int)) (x0 : Nat) (x1 : Nat) := ((List.getD t ((↑x0:Int).toNat) []).getD ((↑x1:Int).toNat) (0:Int))
def l03Fault_V (t : List (List Int)) : Prop :=
 ((∃ x0 : Nat, (((x0 ≤ t.length)∧(rkF t = firstO (t.length) (rkX t) (t.length - x0)))∧((t = t)∧(((↑(t.length):Int) = (↑(t.length):Int))∧((0:Int) = (↑x0:Int))))))∧(∀ x1 : Nat, (((x1 ≤ t.length)∧(rkF t = firstO (t.length) (rkX t) (t.length - x1))) → (BrP (decide ((↑x1:Int) < (↑(t.length):Int))) ((∃ x2 : Nat, (((x2 ≤ t.length)∧((x1 < t.length)∧(rkF t = Option.or (firstO (t.length) (rkY t x1) (t.length - x2)) (l03Fault_c1 t x1))))∧((t = t)∧(((↑(t.length):Int) = (↑(t.length):Int))∧(((↑x1:Int) = (↑x1:Int))∧((0:Int) = (↑x2:Int)))))))∧(∀ x3 : Nat, (((x3 ≤ t.length)∧((x1 < t.length)∧(rkF t = Option.or (firstO (t.length) (rkY t x1) (t.length - x3)) (l03Fault_c1 t x1)))) → (BrP (decide ((↑x3:Int) < (↑(t.length):Int))) ((∃ x4 : Nat, (((x4 ≤ t.length)∧((x3 < t.length)∧(rkF t = Option.or (l03Fault_c2 t x1 x3 x4) (l03Fault_c1 t x1))))∧((t = t)∧(((↑(t.length):Int) = (↑(t.length):Int))∧(((↑x1:Int) = (↑x1:Int))∧(((↑x3:Int) = (↑x3:Int))∧((0:Int) = (↑x4:Int))))))))∧(∀ x5 : Nat, (((x5 ≤ t.length)∧((x3 < t.length)∧(rkF t = Option.or (l03Fault_c2 t x1 x3 x5) (l03Fault_c1 t x1)))) → (BrP (decide ((↑x5:Int) < (↑(t.length):Int))) ((inB (↑x1:Int) (t.length))∧((inB (↑x3:Int) (t.length))∧((inB (↑x5:Int) ((t.getD ((↑x3:Int).toNat) []).length))∧((inB (l03Fault_c3 t x3 x5) ((t.getD ((↑x1:Int).toNat) []).length))∧((inB (↑x1:Int) (t.length))∧((inB (↑x3:Int) ((t.getD ((↑x1:Int).toNat) []).length))∧((inB (l03Fault_c3 t x1 x3) (t.length))∧((inB (↑x1:Int) (t.length)) ∧
 ((inB (↑x5:Int) ((t.getD ((↑x1:Int).toNat) []).length))∧((inB (l03Fault_c3 t x1 x5) ((t.getD ((l03Fault_c3 t x1 x3).toNat) []).length))∧(BrP ((List.getD t ((↑x1:Int).toNat) []).getD (((List.getD t ((↑x3:Int).toNat) []).getD ((↑x5:Int).toNat) (0:Int)).toNat) (0:Int) != (List.getD t ((List.getD (List.getD t ((↑x1:Int).toNat) []) ((↑x3:Int).toNat) (0:Int)).toNat) []).getD (((List.getD t ((↑x1:Int).toNat) []).getD ((↑x5:Int).toNat) (0:Int)).toNat) (0:Int)) (([(↑x1:Int), (↑x3:Int), (↑x5:Int)] = Option.getD (rkF t) [])∧True) ((InR ((↑x5:Int) + (1:Int)))∧(∃ x6 : Nat, (((x6 ≤ t.length)∧((x3 < t.length)∧(rkF t = Option.or (l03Fault_c2 t x1 x3 x6) (l03Fault_c1 t x1))))∧((t.length - x6 < t.length - x5)∧((t = t)∧(((↑(t.length):Int) = (↑(t.length):Int))∧(((↑x1:Int) = (↑x1:Int))∧(((↑x3:Int) = (↑x3:Int))∧((↑x5:Int) + (1:Int) = (↑x6:Int))))))))))))))))))))) ((InR ((↑x3:Int) + (1:Int)))∧(∃ x7 : Nat, (((x7 ≤ t.length)∧((x1 < t.length)∧(rkF t = Option.or (firstO (t.length) (rkY t x1) (t.length - x7)) (l03Fault_c1 t x1))))∧((t.length - x7 < t.length - x3)∧((t = t)∧(((↑(t.length):Int) = (↑(t.length):Int))∧(((↑x1:Int) = (↑x1:Int))∧((↑x3:Int) + (1:Int) = (↑x7:Int))))))))))))) ((InR ((↑x1:Int) + (1:Int)))∧(∃ x8 : Nat, (((x8 ≤ t.length)∧(rkF t = firstO (t.length) (rkX t) (t.length - x8)))∧((t.length - x8 < t.length - x1)∧((t = t)∧(((↑(t.length):Int) = (↑(t.length):Int))∧((↑x1:Int) + (1:Int) = (↑x8:Int)))))))))))) (([] = Option.getD (rkF t) [])∧True)))))
theorem l03Fault_vc (t : List (List Int)) : runF Tryz.prog (gam l03Fault_G) noWr (l03Fault_ann t) Tryz.f55 (bodyOf Tryz.f55) [] [.c (.rows .i64 (t))] (l03Fault_p t) = l03Fault_V t := by kernel_rfl
theorem l03Fault_ok (t : List (List Int)) (hpre : (l03Fault_p t).pre) : l03Fault_V t := by
  simp only [l03Fault_p, l03Fault_V, l03Fault_c1, l03Fault_c2, l03Fault_c3, BrP_iff, u1, u2, u3, u4, u5, u6, u7, u8, u9, v1, v2, v3, v4, v5, v6, v7, v8, v9, w1, w2, w3, w4, markL_length, inB, InR, room, bdsOk] at hpre ⊢
  obtain ⟨n1, n2, ht⟩ := tabB_of hpre
  refine ⟨⟨0, ⟨by omega, rfl⟩, rfl⟩, fun i ⟨hi, hx⟩ => ⟨fun h => ⟨⟨0, ⟨by omega, by omega, ?_⟩, rfl⟩, fun j ⟨hj, _, hy⟩ => ⟨fun h2 => ⟨⟨0, ⟨by omega, by omega, ?_⟩, rfl⟩, fun k ⟨hk, _, hz⟩ => ⟨fun h3 => ?_, fun h3 => ?_⟩⟩, fun h2 => ?_⟩⟩, fun h => ?_⟩⟩
  · rw [hx, firstO_step _ _ i (by omega)]; rfl
  · rw [hy, firstO_step _ _ j (by omega)]; rfl
  · have a := ht i (by omega)
    have b := ht j (by omega)
    have c := b.2 k (by omega)
    have d := a.2 j (by omega)
    have e := a.2 k (by omega)
    have f := ht ((t.getD i []).getD j 0).toNat (by omega)
    refine ⟨by omega, by omega, by omega, by omega, by omega, by omega, by omega, by omega, by omega, by omega, fun h4 => ?_, fun h4 => ⟨by omega, k + 1, ⟨by omega, by omega, ?_⟩, by omega, by omega⟩⟩
    · rw [hz, firstO_step _ _ k (by omega), show rkZ t i j k = some [(i : Int), (j : Int), (k : Int)] from if_neg h4]; rfl
    · rw [hz, firstO_step _ _ k (by omega), show rkZ t i j k = none from if_pos h4]; rfl
  · refine ⟨by omega, j + 1, ⟨by omega, by omega, ?_⟩, by omega, by omega⟩
    rw [hz, show t.length - k = 0 by omega]; rfl
  · refine ⟨by omega, i + 1, ⟨by omega, ?_⟩, by omega, by omega⟩
    rw [hy, show t.length - j = 0 by omega]; rfl
  · rw [hx, show t.length - i = 0 by omega]; rfl
theorem l03Fault_fits : Fits Tryz.prog 55 ⟨[], l03Fault_ct⟩ := by
  refine ffn (Γ := gam l03Fault_G) gok_nil Tryz.func55 fun ds p h hp => ?_
  unfold l03Fault_ct at h
  split at h
  · cases h
    exact ⟨noWr, l03Fault_ann _ , by rw [l03Fault_vc]; exact l03Fault_ok _  hp⟩
  · cases h
def rackFault_p (t : List (List Int)) : Post := ⟨tabB t = true, .c (.nilq ((rkF t).isNone)), []⟩
def rackFault_ct : List AD → Option Post
  | [.c (.rows .i64 (t))] => some (rackFault_p t)
  | _ => none
def rackFault_ann (t : List (List Int)) : Nat → Option Ann
  | 0 => some (Ann.mk ((Nat)) (fun i => ⟨[(0, .c (.ro (.rows .i64 (t)))), (3, .c (.int .i64 ((t.length : Int)))), (9, .c (.int .i64 ((t.length : Int)))), (10, .c (.int .i64 ((i : Int))))], []⟩) (fun i => i ≤ t.length ∧ rkF t = firstO t.length (rkX t) (t.length - i)) (fun i => t.length - i) (fun i => fun b_ => match b_ with | 2 => some (Ann.mk ((Nat)) (fun j => ⟨[(0, .c (.ro (.rows .i64 (t)))), (3, .c (.int .i64 ((t.length : Int)))), (9, .c (.int .i64 ((t.length : Int)))), (10, .c (.int .i64 ((i : Int)))), (4, .c (.int .i64 ((i : Int)))), (13, .c (.int .i64 ((t.length : Int)))), (14, .c (.int .i64 ((j : Int))))], []⟩) (fun j => j ≤ t.length ∧ i < t.length ∧ rkF t = (firstO t.length (rkY t i) (t.length - j)).or (firstO t.length (rkX t) (t.length - (i + 1)))) (fun j => t.length - j) (fun j => fun b_ => match b_ with | 4 => some (Ann.mk ((Nat)) (fun k => ⟨[(0, .c (.ro (.rows .i64 (t)))), (3, .c (.int .i64 ((t.length : Int)))), (9, .c (.int .i64 ((t.length : Int)))), (10, .c (.int .i64 ((i : Int)))), (4, .c (.int .i64 ((i : Int)))), (13, .c (.int .i64 ((t.length : Int)))), (14, .c (.int .i64 ((j : Int)))), (5, .c (.int .i64 ((j : Int)))), (17, .c (.int .i64 ((t.length : Int)))), (18, .c (.int .i64 ((k : Int))))], []⟩) (fun k => k ≤ t.length ∧ j < t.length ∧ rkF t = ((firstO t.length (rkZ t i j) (t.length - k)).or (firstO t.length (rkY t i) (t.length - (j + 1)))).or (firstO t.length (rkX t) (t.length - (i + 1)))) (fun k => t.length - k) (fun _ => noAnn)) | _ => none)) | _ => none))
  | _ => none
def rackFault_G : List (Nat × Ctr) := []
def rackFault_c1 (t : List (List Int)) (x0 : Nat) := (firstO (t.length) (rkX t) (t.length - (x0 + (1:Nat))))
def rackFault_c2 (t : List (List Int)) (x0 : Nat) (x1 : Nat) (x2 : Nat) := (Option.or (firstO (t.length) (rkZ t x0 x1) (t.length - x2)) (firstO (t.length) (rkY t x0) (t.length - (x1 + (1:Nat)))))
def rackFault_c3 (t : List (List Int)) (x0 : Nat) (x1 : Nat) := ((List.getD t ((↑x0:Int).toNat) []).getD ((↑x1:Int).toNat) (0:Int))
def rackFault_V (t : List (List Int)) : Prop :=
 ((∃ x0 : Nat, (((x0 ≤ t.length)∧(rkF t = firstO (t.length) (rkX t) (t.length - x0)))∧((t = t)∧(((↑(t.length):Int) = (↑(t.length):Int))∧(((↑(t.length):Int) = (↑(t.length):Int))∧((0:Int) = (↑x0:Int)))))))∧(∀ x1 : Nat, (((x1 ≤ t.length)∧(rkF t = firstO (t.length) (rkX t) (t.length - x1))) → (BrP (decide ((↑x1:Int) < (↑(t.length):Int))) ((∃ x2 : Nat, (((x2 ≤ t.length)∧((x1 < t.length)∧(rkF t = Option.or (firstO (t.length) (rkY t x1) (t.length - x2)) (rackFault_c1 t x1))))∧((t = t)∧(((↑(t.length):Int) = (↑(t.length):Int))∧(((↑(t.length):Int) = (↑(t.length):Int))∧(((↑x1:Int) = (↑x1:Int))∧(((↑x1:Int) = (↑x1:Int))∧(((↑(t.length):Int) = (↑(t.length):Int))∧((0:Int) = (↑x2:Int))))))))))∧(∀ x3 : Nat, (((x3 ≤ t.length)∧((x1 < t.length)∧(rkF t = Option.or (firstO (t.length) (rkY t x1) (t.length - x3)) (rackFault_c1 t x1)))) → (BrP (decide ((↑x3:Int) < (↑(t.length):Int))) ((∃ x4 : Nat, (((x4 ≤ t.length)∧((x3 < t.length)∧(rkF t = Option.or (rackFault_c2 t x1 x3 x4) (rackFault_c1 t x1))))∧((t = t)∧(((↑(t.length):Int) = (↑(t.length):Int))∧(((↑(t.length):Int) = (↑(t.length):Int))∧(((↑x1:Int) = (↑x1:Int))∧(((↑x1:Int) = (↑x1:Int))∧(((↑(t.length):Int) = (↑(t.length):Int))∧(((↑x3:Int) = (↑x3:Int))∧(((↑x3:Int) = (↑x3:Int))∧(((↑(t.length):Int) = (↑(t.length):Int))∧((0:Int) = (↑x4:Int)))))))))))))∧(∀ x5 : Nat, (((x5 ≤ t.length)∧((x3 < t.length)∧(rkF t = Option.or (rackFault_c2 t x1 x3 x5) (rackFault_c1 t x1)))) → (BrP (decide ((↑x5:Int) < (↑(t.length):Int))) ((inB (↑x1:Int) (t.length)) ∧
 ((inB (↑x3:Int) (t.length))∧((inB (↑x5:Int) ((t.getD ((↑x3:Int).toNat) []).length))∧((inB (rackFault_c3 t x3 x5) ((t.getD ((↑x1:Int).toNat) []).length))∧((inB (↑x1:Int) (t.length))∧((inB (↑x3:Int) ((t.getD ((↑x1:Int).toNat) []).length))∧((inB (rackFault_c3 t x1 x3) (t.length))∧((inB (↑x1:Int) (t.length))∧((inB (↑x5:Int) ((t.getD ((↑x1:Int).toNat) []).length))∧((inB (rackFault_c3 t x1 x5) ((t.getD ((rackFault_c3 t x1 x3).toNat) []).length))∧(BrP ((List.getD t ((↑x1:Int).toNat) []).getD (((List.getD t ((↑x3:Int).toNat) []).getD ((↑x5:Int).toNat) (0:Int)).toNat) (0:Int) != (List.getD t ((List.getD (List.getD t ((↑x1:Int).toNat) []) ((↑x3:Int).toNat) (0:Int)).toNat) []).getD (((List.getD t ((↑x1:Int).toNat) []).getD ((↑x5:Int).toNat) (0:Int)).toNat) (0:Int)) (((false = Option.isNone (rkF t))∧([(↑x1:Int), (↑x3:Int), (↑x5:Int)].length ≠ (0:Nat)))∧True) ((InR ((↑x5:Int) + (1:Int)))∧(∃ x6 : Nat, (((x6 ≤ t.length)∧((x3 < t.length)∧(rkF t = Option.or (rackFault_c2 t x1 x3 x6) (rackFault_c1 t x1))))∧((t.length - x6 < t.length - x5)∧((t = t)∧(((↑(t.length):Int) = (↑(t.length):Int))∧(((↑(t.length):Int) = (↑(t.length):Int))∧(((↑x1:Int) = (↑x1:Int))∧(((↑x1:Int) = (↑x1:Int))∧(((↑(t.length):Int) = (↑(t.length):Int))∧(((↑x3:Int) = (↑x3:Int))∧(((↑x3:Int) = (↑x3:Int))∧(((↑(t.length):Int) = (↑(t.length):Int))∧((↑x5:Int) + (1:Int) = (↑x6:Int)))))))))))))))))))))))))) ((InR ((↑x3:Int) + (1:Int)))∧(∃ x7 : Nat, (((x7 ≤ t.length)∧((x1 < t.length) ∧
 (rkF t = Option.or (firstO (t.length) (rkY t x1) (t.length - x7)) (rackFault_c1 t x1))))∧((t.length - x7 < t.length - x3)∧((t = t)∧(((↑(t.length):Int) = (↑(t.length):Int))∧(((↑(t.length):Int) = (↑(t.length):Int))∧(((↑x1:Int) = (↑x1:Int))∧(((↑x1:Int) = (↑x1:Int))∧(((↑(t.length):Int) = (↑(t.length):Int))∧((↑x3:Int) + (1:Int) = (↑x7:Int)))))))))))))))) ((InR ((↑x1:Int) + (1:Int)))∧(∃ x8 : Nat, (((x8 ≤ t.length)∧(rkF t = firstO (t.length) (rkX t) (t.length - x8)))∧((t.length - x8 < t.length - x1)∧((t = t)∧(((↑(t.length):Int) = (↑(t.length):Int))∧(((↑(t.length):Int) = (↑(t.length):Int))∧((↑x1:Int) + (1:Int) = (↑x8:Int))))))))))))) ((true = Option.isNone (rkF t))∧True)))))
theorem rackFault_vc (t : List (List Int)) : runF Tryz.prog (gam rackFault_G) noWr (rackFault_ann t) Tryz.f69 (bodyOf Tryz.f69) [] [.c (.rows .i64 (t))] (rackFault_p t) = rackFault_V t := by kernel_rfl
theorem rackFault_ok (t : List (List Int)) (hpre : (rackFault_p t).pre) : rackFault_V t := by
  simp only [rackFault_p, rackFault_V, rackFault_c1, rackFault_c2, rackFault_c3, BrP_iff, u1, u2, u3, u4, u5, u6, u7, u8, u9, v1, v2, v3, v4, v5, v6, v7, v8, v9, w1, w2, w3, w4, markL_length, inB, InR, room, bdsOk] at hpre ⊢
  obtain ⟨n1, n2, ht⟩ := tabB_of hpre
  refine ⟨⟨0, ⟨by omega, rfl⟩, rfl⟩, fun i ⟨hi, hx⟩ => ⟨fun h => ⟨⟨0, ⟨by omega, by omega, ?_⟩, rfl⟩, fun j ⟨hj, _, hy⟩ => ⟨fun h2 => ⟨⟨0, ⟨by omega, by omega, ?_⟩, rfl⟩, fun k ⟨hk, _, hz⟩ => ⟨fun h3 => ?_, fun h3 => ?_⟩⟩, fun h2 => ?_⟩⟩, fun h => ?_⟩⟩
  · rw [hx, firstO_step _ _ i (by omega)]; rfl
  · rw [hy, firstO_step _ _ j (by omega)]; rfl
  · have a := ht i (by omega)
    have b := ht j (by omega)
    have c := b.2 k (by omega)
    have d := a.2 j (by omega)
    have e := a.2 k (by omega)
    have f := ht ((t.getD i []).getD j 0).toNat (by omega)
    refine ⟨by omega, by omega, by omega, by omega, by omega, by omega, by omega, by omega, by omega, by omega, fun h4 => ?_, fun h4 => ⟨by omega, k + 1, ⟨by omega, by omega, ?_⟩, by omega, by omega⟩⟩
    · refine ⟨?_, by omega⟩
      rw [hz, firstO_step _ _ k (by omega), show rkZ t i j k = some [(i : Int), (j : Int), (k : Int)] from if_neg h4]; rfl
    · rw [hz, firstO_step _ _ k (by omega), show rkZ t i j k = none from if_pos h4]; rfl
  · refine ⟨by omega, j + 1, ⟨by omega, by omega, ?_⟩, by omega, by omega⟩
    rw [hz, show t.length - k = 0 by omega]; rfl
  · refine ⟨by omega, i + 1, ⟨by omega, ?_⟩, by omega, by omega⟩
    rw [hy, show t.length - j = 0 by omega]; rfl
  · rw [hx, show t.length - i = 0 by omega]; rfl
theorem rackFault_fits : Fits Tryz.prog 69 ⟨[], rackFault_ct⟩ := by
  refine ffn (Γ := gam rackFault_G) gok_nil Tryz.func69 fun ds p h hp => ?_
  unfold rackFault_ct at h
  split at h
  · cases h
    exact ⟨noWr, rackFault_ann _ , by rw [rackFault_vc]; exact rackFault_ok _  hp⟩
  · cases h
end Go.Sx
