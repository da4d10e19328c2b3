/- Srt -/
import Derived.Test.YtbppifmljnnogaaGreatCmp
import Derived.Shelf.SlSortCmp.NoneTotal
import Derived.Lib.OwnBridge
open Go Go.Proofs Go.RowKit Go.Shelf
namespace Go.Sx
set_option linter.unusedSimpArgs false
set_option linter.unusedVariables false
def sortRen : Shelf.Ren := ⟨fun x => match x with | 6 => 130 | 14 => 153 | 15 => 154 | 20 => 165 | 21 => 166 | 22 => 167 | 23 => 168 | 24 => 169 | 25 => 170 | 26 => 171 | 27 => 172 | 28 => 173 | 29 => 174 | 46 => 182 | 47 => 183 | 48 => 184 | 49 => 185 | 50 => 186 | 57 => 194 | _ => 0, fun x => match x with | 0 => 0 | 3 => 3 | 4 => 4 | 5 => 5 | 9 => 9 | 22 => 24 | 24 => 31 | 25 => 129 | 39 => 111 | 45 => 154 | 46 => 155 | 50 => 159 | 53 => 162 | 55 => 54 | 66 => 166 | 70 => 170 | 76 => 175 | 77 => 176 | _ => 0, fun x => x⟩
set_option maxRecDepth 100000
theorem sortLays : SlLaysF.n6 Tryz.prog sortRen where
  mixed := by kernel_rfl
  f6 := ⟨Tryz.f130.name, by kernel_rfl, by kernel_rfl⟩
  f14 := ⟨Tryz.f153.name, by kernel_rfl, by kernel_rfl⟩
  f15 := by kernel_rfl
  f20 := ⟨Tryz.f165.name, by kernel_rfl, by kernel_rfl⟩
  f21 := ⟨Tryz.f166.name, by kernel_rfl, by kernel_rfl⟩
  f22 := ⟨Tryz.f167.name, by kernel_rfl, by kernel_rfl⟩
  f23 := ⟨Tryz.f168.name, by kernel_rfl, by kernel_rfl⟩
  f24 := ⟨Tryz.f169.name, by kernel_rfl, by kernel_rfl⟩
  f25 := ⟨Tryz.f170.name, by kernel_rfl, by kernel_rfl⟩
  f26 := ⟨Tryz.f171.name, by kernel_rfl, by kernel_rfl⟩
  f27 := ⟨Tryz.f172.name, by kernel_rfl, by kernel_rfl⟩
  f28 := by kernel_rfl
  f29 := by kernel_rfl
  f46 := ⟨Tryz.f182.name, by kernel_rfl, by kernel_rfl⟩
  f47 := by kernel_rfl
  f48 := by kernel_rfl
  f49 := ⟨Tryz.f185.name, by kernel_rfl, by kernel_rfl⟩
  f50 := ⟨Tryz.f186.name, by kernel_rfl, by kernel_rfl⟩
  f57 := ⟨Tryz.f194.name, by kernel_rfl, by kernel_rfl⟩
  t0 := by kernel_rfl
  a0 := fun w => by kernel_rfl
  z0 := fun w => by kernel_rfl
  v0 := fun w => by kernel_rfl
  t3 := by kernel_rfl
  a3 := fun w => by kernel_rfl
  z3 := fun w => by kernel_rfl
  v3 := fun w => by kernel_rfl
  t4 := by kernel_rfl
  a4 := fun w => by kernel_rfl
  z4 := fun w => by kernel_rfl
  v4 := fun w => by kernel_rfl
  t5 := by kernel_rfl
  a5 := fun w => by kernel_rfl
  z5 := fun w => by kernel_rfl
  v5 := fun w => by kernel_rfl
  t9 := by kernel_rfl
  a9 := fun w => by kernel_rfl
  z9 := fun w => by kernel_rfl
  v9 := fun w => by kernel_rfl
  t22 := by kernel_rfl
  a22 := fun w => by kernel_rfl
  z22 := fun w => by kernel_rfl
  v22 := fun w => by kernel_rfl
  a24 := fun w => by kernel_rfl
  z24 := fun w => by kernel_rfl
  t25 := by kernel_rfl
  a25 := fun w => by kernel_rfl
  z25 := fun w => by kernel_rfl
  v25 := fun w => by kernel_rfl
  t39 := by kernel_rfl
  a39 := fun w => by kernel_rfl
  z39 := fun w => by kernel_rfl
  v39 := fun w => by kernel_rfl
  t45 := by kernel_rfl
  a45 := fun w => by kernel_rfl
  z45 := fun w => by kernel_rfl
  v45 := fun w => by kernel_rfl
  t46 := by kernel_rfl
  a46 := fun w => by kernel_rfl
  z46 := fun w => by kernel_rfl
  v46 := fun w => by kernel_rfl
  t50 := by kernel_rfl
  a50 := fun w => by kernel_rfl
  z50 := fun w => by kernel_rfl
  v50 := fun w => by kernel_rfl
  t53 := by kernel_rfl
  a53 := fun w => by kernel_rfl
  z53 := fun w => by kernel_rfl
  v53 := fun w => by kernel_rfl
  t55 := by kernel_rfl
  a55 := fun w => by kernel_rfl
  z55 := fun w => by kernel_rfl
  v55 := fun w => by kernel_rfl
  t66 := by kernel_rfl
  a66 := fun w => by kernel_rfl
  z66 := fun w => by kernel_rfl
  v66 := fun w => by kernel_rfl
  t70 := by kernel_rfl
  a70 := fun w => by kernel_rfl
  z70 := fun w => by kernel_rfl
  v70 := fun w => by kernel_rfl
  t76 := by kernel_rfl
  a76 := fun w => by kernel_rfl
  z76 := fun w => by kernel_rfl
  v76 := fun w => by kernel_rfl
  t77 := by kernel_rfl
  a77 := fun w => by kernel_rfl
  z77 := fun w => by kernel_rfl
  v77 := fun w => by kernel_rfl
theorem cmpI_anti (x y : Int) : cmpI x y = - cmpI y x := by
  unfold cmpI
  (repeat' split) <;> omega
theorem cmpG_anti : ∀ a b : List Int, cmpG cmpI a b = - cmpG cmpI b a
  | [], [] => rfl
  | [], _ :: _ => rfl
  | _ :: _, [] => rfl
  | x :: a, y :: b => by
    simp only [cmpG]
    have h := cmpI_anti x y
    by_cases h0 : cmpI x y = 0
    · rw [if_pos h0, if_pos (by omega), cmpG_anti a b]
    · rw [if_neg h0, if_neg (by omega), h]
theorem cmpG_le : ∀ a b c : List Int, cmpG cmpI a b ≤ 0 → cmpG cmpI b c ≤ 0 → cmpG cmpI a c ≤ 0
  | [], _, [], _, _ => by simp [cmpG]
  | [], _, _ :: _, _, _ => by simp [cmpG]
  | _ :: _, [], _, h, _ => by simp [cmpG] at h
  | _ :: _, _ :: _, [], _, h => by simp [cmpG] at h
  | x :: a, y :: b, z :: c, h1, h2 => by
    simp only [cmpG] at h1 h2 ⊢
    have v : ∀ u v : Int, (cmpI u v = -1 ∧ u < v) ∨ (cmpI u v = 0 ∧ u = v) ∨ (cmpI u v = 1 ∧ v < u) := fun u v => by
      unfold cmpI
      split
      · omega
      · split <;> omega
    have v1 := v x y
    have v2 := v y z
    have v3 := v x z
    by_cases e1 : cmpI x y = 0
    · rw [if_pos e1] at h1
      by_cases e2 : cmpI y z = 0
      · rw [if_pos e2] at h2
        rw [if_pos (by omega)]
        exact cmpG_le a b c h1 h2
      · rw [if_neg e2] at h2
        rw [if_neg (by omega)]; omega
    · rw [if_neg e1] at h1
      by_cases e2 : cmpI y z = 0
      · rw [if_neg (by omega)]; omega
      · rw [if_neg e2] at h2
        rw [if_neg (by omega)]; omega
theorem cmpG_lt (a b c : List Int) (h1 : cmpG cmpI a b < 0) (h2 : cmpG cmpI b c < 0) : cmpG cmpI a c < 0 := by
  have h := cmpG_le a b c (by omega) (by omega)
  refine Classical.byContradiction fun hc => ?_
  have e : cmpG cmpI a c = 0 := by omega
  have := (cmpG_zero (fun x y => cmpI_zero)).1 e
  subst this
  have := cmpG_anti a b
  omega
def rrLess_p (a : List Int) (b : List Int) : Post := ⟨room a.length ∧ room b.length, .c (.int .i64 (cmpG cmpI b a)), []⟩
def rrLess_ct : List AD → Option Post
  | [.c (.ints .i64 (a)), .c (.ints .i64 (b))] => some (rrLess_p a b)
  | _ => none
def rrLess_G : List (Nat × Ctr) := [(132, ⟨[], slicesCompare_ct⟩)]
def rrLess_V (a : List Int) (b : List Int) : Prop :=
 ((((room (b.length))∧(room (a.length)))∧True)∧((cmpG cmpI b a = cmpG cmpI b a)∧True))
theorem rrLess_vc (a : List Int) (b : List Int) : runF Tryz.prog (gam rrLess_G) noWr noAnn Tryz.f131 (bodyOf Tryz.f131) [] [.c (.ints .i64 (a)), .c (.ints .i64 (b))] (rrLess_p a b) = rrLess_V a b := by kernel_rfl
theorem rrLess_ok (a : List Int) (b : List Int) (hpre : (rrLess_p a b).pre) : rrLess_V a b := by
  simp only [rrLess_p, rrLess_V, BrP_iff, u1, u2, u3, u4, u5, u6, u7, u8, u9, v1, v2, v3, v4, v5, v6, v7, v8, v9, w1, w2, w3, w4, markL_length, inB, InR, room, bdsOk] at hpre ⊢
  exact ⟨hpre.2, hpre.1⟩
theorem rrLess_fits : Fits Tryz.prog 131 ⟨[], rrLess_ct⟩ := by
  refine ffn (Γ := gam rrLess_G) (gok_cons slicesCompare_fits gok_nil) Tryz.func131 fun ds p h hp => ?_
  unfold rrLess_ct at h
  split at h
  · cases h
    exact ⟨noWr, noAnn, by rw [rrLess_vc]; exact rrLess_ok _ _  hp⟩
  · cases h
def rwC (l : List (List Int)) (i j : Fin l.length) : Int := cmpG cmpI (l.getD j.1 []) (l.getD i.1 [])
theorem rwC_swo (l : List (List Int)) : Go.Sort.SWO (fun i j => decide (rwC l i j < 0)) where
  irrefl := fun x => by
    have : cmpG cmpI (l.getD x.1 []) (l.getD x.1 []) = 0 := (cmpG_zero fun x y => cmpI_zero).2 rfl
    show decide (rwC l x x < 0) = false
    rw [rwC, this]; rfl
  trans := fun x y z h1 h2 => by
    rw [decide_eq_true_eq] at h1 h2 ⊢
    exact cmpG_lt _ _ _ h2 h1
  ntrans := fun x y z h1 h2 => by
    rw [decide_eq_false_iff_not] at h1 h2 ⊢
    unfold rwC at *
    have a1 := cmpG_anti (l.getD y.1 []) (l.getD x.1 [])
    have a2 := cmpG_anti (l.getD z.1 []) (l.getD y.1 [])
    have a3 := cmpG_anti (l.getD z.1 []) (l.getD x.1 [])
    have := cmpG_le (l.getD x.1 []) (l.getD y.1 []) (l.getD z.1 []) (by omega) (by omega)
    omega
def srtI (l : List (List Int)) (h : 0 < l.length) : Array (Fin l.length) :=
  letI : Inhabited (Fin l.length) := ⟨⟨0, h⟩⟩
  Go.Sort.pdq (fun i j => decide (rwC l i j < 0)) (List.finRange l.length).toArray 0 (List.finRange l.length).toArray.size (Lib.bitLen (List.finRange l.length).toArray.size) true true
def srtL (l : List (List Int)) : List (List Int) := if h : 0 < l.length then (srtI l h).toList.map (fun i => l.getD i.1 []) else []
theorem srtI_ok (l : List (List Int)) (h : 0 < l.length) : (srtI l h).toList.Perm (List.finRange l.length) := by
  letI : Inhabited (Fin l.length) := ⟨⟨0, h⟩⟩
  have := (Go.Sort.pdq_sorts (fun i j => decide (rwC l i j < 0)) (rwC_swo l) (List.finRange l.length).toArray 0 (List.finRange l.length).toArray.size (Lib.bitLen (List.finRange l.length).toArray.size) true true (Nat.zero_le _) (Nat.le_refl _) (Or.inl rfl)).1
  obtain ⟨h1, _, h3⟩ := this
  have e1 : ∀ (d : Array (Fin l.length)), d.extract 0 d.size = d := fun d => by simp
  rw [e1] at h3
  have h4 : ((srtI l h).extract 0 (List.finRange l.length).toArray.size).toList.Perm (List.finRange l.length).toArray.toList := h3
  rw [← show (srtI l h).size = (List.finRange l.length).toArray.size from h1, e1] at h4
  simpa using h4
theorem srtL_len (l : List (List Int)) : (srtL l).length = l.length := by
  unfold srtL
  split
  · rename_i h
    rw [List.length_map, (srtI_ok l h).length_eq]; simp
  · show 0 = l.length
    omega
theorem sort_at (l : List (List Int)) (hr1 : l.length ≤ 1000) (hr2 : ∀ r ∈ l, r.length ≤ 1000) : SortAt Tryz.prog 130 131 l (srtL l) := by
  intro w e ei v ins h1 h2 h3 hnd
  by_cases h0 : 0 < l.length
  case neg =>
    have hl : l = [] := List.eq_nil_of_length_eq_zero (by omega)
    subst hl
    have hi : ins = [] := List.eq_nil_of_length_eq_zero h2
    subst hi
    have hv : ∃ p cap, v = .slice p 0 cap := by
      rcases h1.2 with ⟨e0, _⟩ | ⟨g, cap, cur, e0, _⟩
      · exact ⟨_, _, e0⟩
      · exact ⟨_, _, e0⟩
    obtain ⟨p, cap, rfl⟩ := hv
    refine (AnyF.slices_SortFunc_none (P := Tryz.prog) (ρ := sortRen) { sortLays with } p cap _ w).mono ?_
    rintro r w' ⟨rfl, rfl⟩
    exact ⟨rfl, [], h1, rfl, fun i u r hi => by simp at hi, .refl _, .refl _, rfl, rfl, Nat.le_refl _, fun _ _ _ => rfl⟩
  case pos =>
  letI : Inhabited (Fin l.length) := ⟨⟨0, h0⟩⟩
  let enc : Fin l.length → Value := fun i => ins.getD i.1 undef
  have hz : (List.finRange l.length).map enc = ins := by
    apply List.ext_getElem
    · simp [h2]
    · intro i a b
      simp [enc, List.getD, List.getElem?_eq_getElem b]
  have hone : ∀ i : Fin l.length, (enc i).oneCell' = true := fun i => by
    have hi : i.1 < ins.length := by rw [h2]; exact i.2
    have := ownsRow_one (h3 i.1 (ins.getD i.1 undef) (l.getD i.1 []) (by simp [List.getD, hi]) (by simp [List.getD, i.2]))
    exact this
  rw [← hz] at h1
  have hne : v ≠ .slice none 0 0 := fun hv => by
    rcases h1.2 with ⟨_, hn⟩ | ⟨g, cap, cur, h5, _⟩
    · omega
    · rw [hv] at h5; cases h5
  obtain ⟨g, cap, rfl, _, hlt, hn, hm, hzl, hH⟩ := Lib.holds_of_ownsRow h1 hne
  have hn0 : ∀ i : Fin l.length, i.1 < ins.length := fun i => by rw [h2]; exact i.2
  have hrow : ∀ i : Fin l.length, w.ownsRow 0 ei 1 (enc i) (l.getD i.1 []).length ((l.getD i.1 []).map (.int .i64)) ∧ ∀ b, hdBlock (enc i) = some b → b < w.heap.size ∧ b ≠ g := fun i => by
    have hu : ins[i.1]? = some (enc i) := by simp [enc, List.getD, List.getElem?_eq_getElem (hn0 i)]
    have h4 := h3 i.1 (enc i) (l.getD i.1 []) hu (by simp [List.getD, i.2])
    refine ⟨h4, fun b hb => ⟨(ownsRow_block h4 b hb).2, fun hc => ?_⟩⟩
    exact (nodup_blocks_ins hnd).2 b (by rw [hc]; rfl) (List.mem_filterMap.2 ⟨enc i, List.mem_of_getElem? hu, hb⟩)
  obtain ⟨fn, k1, k2, k3⟩ := rrLess_fits.fn
  have hsz : (List.finRange l.length).toArray.size = l.length := by simp
  have hcmp : CmpLays1 Tryz.prog 131 #[] enc (rwC l) g 0 (List.finRange l.length).toArray.size w := by
    intro m os dk hdk x y
    have keep : ∀ b, b < w.heap.size → b ≠ g → (sortWorld enc w g 0 m dk os).heap[b]? = w.heap[b]? := fun b hb hne => by
      unfold sortWorld
      rw [Go.Sort.heap_grow_old _ _ (by simpa [Go.Sort.putRow, Go.Sort.mapBlock, Go.Sort.ahead] using hb)]
      simp [Go.Sort.putRow, Go.Sort.mapBlock, Go.Sort.ahead, Array.getElem?_modify, Ne.symm hne]
    have rd : ∀ i : Fin l.length, Reads (sortWorld enc w g 0 m dk os) (enc i) (.ints .i64 (l.getD i.1 [])) := fun i => by
      obtain ⟨h4, h5⟩ := hrow i
      have h6 := ownsRow_keep h4 fun b hb => keep b (h5 b hb).1 (h5 b hb).2
      have := reads_ints h6 (viewV_own h6) (by omega)
      show ReadsI _ _ _ _
      simpa using this
    have := rrLess_fits.run (sortWorld enc w g 0 m dk os) (sortWorld enc w g 0 m dk os) [enc x, enc y] [.c (.ints .i64 (l.getD x.1 [])), .c (.ints .i64 (l.getD y.1 []))] _ [] [] rfl
      ⟨by have := hr2 _ (getD_mem l [] x.1 x.2); unfold room; omega, by have := hr2 _ (getD_mem l [] y.1 y.2); unfold room; omega⟩ rfl rfl rfl rfl (by simp) (by simp) (by simp) (fun q u hq => ⟨hq, by simp⟩) (fun i d hi => by
        match i, hi with
        | 0, hi => cases hi; exact ⟨enc x, rfl, hone x, rd x⟩
        | 1, hi => cases hi; exact ⟨enc y, rfl, hone y, rd y⟩
        | i + 2, hi => simp at hi)
    refine Calls.mono this ?_
    rintro e0 w' ⟨v0, ms', img, wG, rfl, haft, _, _, _, hret⟩
    have hv : v0 = .int .i64 (rwC l x y) := hret.val
    subst hv
    refine ⟨rfl, w'.drawn - (sortWorld enc w g 0 m dk os).drawn, w'.heap.extract (sortWorld enc w g 0 m dk os).heap.size w'.heap.size, ?_⟩
    generalize hW : sortWorld enc w g 0 m dk os = W at *
    have hheap : w'.heap = W.heap ++ w'.heap.extract W.heap.size w'.heap.size := by
      apply Array.ext_getElem?
      intro i
      by_cases hi : i < W.heap.size
      · rw [Array.getElem?_append_left hi, haft.block i hi (by simp)]
      · rw [Array.getElem?_append_right (by omega), Array.getElem?_extract]
        split
        · congr 1; omega
        · rw [Array.getElem?_eq_none (by omega)]
    have hd := haft.os.drawn
    cases w' with
    | mk heap tape drawn os' output =>
      simp only [Go.Sort.grow, World.drewN] at *
      have e1 := haft.os.os
      have e2 := haft.tape
      have e3 := haft.output
      simp only at e1 e2 e3
      rw [← hheap, e1, e2, e3, show W.drawn + (drawn - W.drawn) = drawn by omega]
  have hcall := Any.slices_SortFunc_eq (P := Tryz.prog) (ρ := sortRen) sortLays enc hone (rwC l) (rwC_swo l) 131 #[] g 0 cap (List.finRange l.length).toArray w (fun args w => run_callFunc k1 k2 k3 args) hcmp hH hlt (by rw [hsz]; omega)
  rw [hsz] at hcall
  refine Calls.mono hcall ?_
  rintro r w' ⟨rfl, n, os, rfl⟩
  refine ⟨rfl, ?_⟩
  have hD : Go.Sort.pdq (ltOf (rwC l)) (List.finRange l.length).toArray 0 l.length (Lib.bitLen l.length) true true = srtI l h0 := by
    unfold srtI
    rw [hsz]
    rfl
  rw [hD]
  have hDp := srtI_ok l h0
  have hDl : (srtI l h0).toList.length = l.length := by rw [hDp.length_eq]; simp
  have hS : srtL l = (srtI l h0).toList.map (fun i => l.getD i.1 []) := by unfold srtL; rw [dif_pos h0]
  have hSl := srtL_len l
  generalize srtI l h0 = D at *
  have o := Lib.ownsRow_putRow (q := n) (k := l.length) h1 (ys := D.toList) hDl (Nat.le_refl _)
  rw [List.take_of_length_le (by omega), Array.toArray_toList] at o
  refine ⟨D.toList.map enc, ?_, by rw [List.length_map, hDl, hSl], fun i u r hi hr => ?_, ?_, ⟨rfl, Nat.le_add_right _ _⟩, rfl, rfl, ?_, fun b hb hne => ?_⟩
  · rw [hSl]
    refine ownsRow_keep o fun b hb => ?_
    simp [hdBlock] at hb
    subst hb
    exact Go.Sort.heap_grow_old _ _ (by simpa [Go.Sort.putRow, Go.Sort.mapBlock, Go.Sort.ahead] using hlt)
  · rw [hS, List.getElem?_map] at hr
    rw [List.getElem?_map] at hi
    cases hx : D.toList[i]? with
    | none => rw [hx] at hi; cases hi
    | some x =>
      rw [hx] at hi hr
      cases hi
      cases hr
      exact (hrow x).1
  · rw [← hz]
    exact hDp.map enc
  · simp [sortWorld, Go.Sort.grow, Go.Sort.putRow, Go.Sort.mapBlock, Go.Sort.ahead]
  · have hg : b ≠ g := fun hc => hne (by rw [hc]; rfl)
    unfold sortWorld
    rw [Go.Sort.heap_grow_old _ _ (by simpa [Go.Sort.putRow, Go.Sort.mapBlock, Go.Sort.ahead] using hb)]
    simp [Go.Sort.putRow, Go.Sort.mapBlock, Go.Sort.ahead, Array.getElem?_modify, Ne.symm hg]
def sSort_ct : List AD → Option Post := fun ds => match ds with
  | [.c (.rows .i64 l)] => some ⟨l.length ≤ 1000 ∧ ∀ r ∈ l, r.length ≤ 1000, .c (.rows 131 0 .i64 (srtL l)), []⟩
  | _ => none
theorem sSort_fits : Fits Tryz.prog 130 ⟨[(0, 97), (0, 97)], sSort_ct⟩ where
  fn := ⟨Tryz.f130, Tryz.func130, by kernel_rfl, by kernel_rfl⟩
  run := fun _ _ _ ds p ms obs h _ _ hm _ hw => by
    exfalso
    have h : sSort_ct ds = some p := h
    unfold sSort_ct at h
    split at h
    · cases h; simp at hw
    · cases h
  mv := fun h => by cases h
  gr := fun h => by cases h
  so := fun _ l q g x l' ws h hq => by
    have h : some (⟨l.length ≤ 1000 ∧ ∀ r ∈ l, r.length ≤ 1000, .c (.rows 131 0 .i64 (srtL l)), []⟩ : Post) = some ⟨q, .c (.rows g x .i64 l'), ws⟩ := h
    simp only [Option.some.injEq, Post.mk.injEq, RV.c.injEq, RC.rows.injEq] at h
    obtain ⟨h1, ⟨h2, _, _, h3⟩, _⟩ := h
    subst h1; subst h2; subst h3
    exact sort_at l hq.1 hq.2
end Go.Sx
