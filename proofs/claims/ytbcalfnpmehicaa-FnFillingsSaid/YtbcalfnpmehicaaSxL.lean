/- SxL -/
import Derived.Test.YtbcalfnpmehicaaSxK
namespace Go.Sx
open Go.RowKit

theorem run_mapM_list {P : Program} {α β : Type} {g : α → Sem β} {g' : α → β} {w : World} : ∀ (l : List α), (∀ x ∈ l, (g x).run P w = .ok (g' x) w) → (l.mapM g).run P w = .ok (l.map g') w
  | [], _ => by simp
  | x :: l, h => by
    have h1 := h x (by simp)
    have h2 := run_mapM_list l fun y hy => h y (by simp [hy])
    simp [List.mapM_cons, h1, h2]

theorem run_mapM_array {P : Program} {α β : Type} {g : α → Sem β} {g' : α → β} {w : World} (l : Array α) (h : ∀ x ∈ l, (g x).run P w = .ok (g' x) w) : (l.mapM g).run P w = .ok (l.map g') w := by
  obtain ⟨l⟩ := l
  rw [List.mapM_toArray, Sem.run_map, run_mapM_list l fun x hx => h x (by simpa using hx)]
  simp

/-- Cells laid over others. -/
theorem foldl_set (off : Nat) : ∀ (l : List (Value × Nat)) (arr : Array Value) (j : Nat),
    (l.foldl (fun cs (p : Value × Nat) => cs.setIfInBounds (off + p.2) p.1) arr).size = arr.size ∧ ((∀ p ∈ l, off + p.2 ≠ j) → (l.foldl (fun cs (p : Value × Nat) => cs.setIfInBounds (off + p.2) p.1) arr)[j]? = arr[j]?)
  | [], arr, j => by simp
  | p :: l, arr, j => by
    obtain ⟨h1, h2⟩ := foldl_set off l (arr.setIfInBounds (off + p.2) p.1) j
    refine ⟨by rw [List.foldl_cons, h1]; simp, fun h => ?_⟩
    rw [List.foldl_cons, h2 fun q hq => h q (by simp [hq]), Array.getElem?_setIfInBounds_ne (h p (by simp))]

theorem foldl_zip (off : Nat) : ∀ (vs : List Value) (k : Nat) (arr : Array Value), off + k + vs.length ≤ arr.size → ∀ i v, vs[i]? = some v →
    ((vs.zipIdx k).foldl (fun cs (p : Value × Nat) => cs.setIfInBounds (off + p.2) p.1) arr)[off + k + i]? = some v
  | [], k, arr, _, i, v, h => by simp at h
  | u :: vs, k, arr, hle, i, v, h => by
    rw [List.zipIdx_cons, List.foldl_cons]
    simp only [List.length_cons] at hle
    cases i with
    | zero =>
      simp at h; subst h
      rw [(foldl_set off (vs.zipIdx (k + 1)) _ (off + k + 0)).2 fun p hp => ?_]
      · simp [show off + k < arr.size by omega]
      · have := List.le_snd_of_mem_zipIdx hp
        omega
    | succ i =>
      have := foldl_zip off vs (k + 1) (arr.setIfInBounds (off + k) u) (by simp; omega) i v (by simpa using h)
      rw [show off + k + (i + 1) = off + (k + 1) + i by omega]
      exact this

theorem lay_spec {off : Nat} {vs arr : Array Value} (hle : off + vs.size ≤ arr.size) :
    let r := vs.zipIdx.foldl (fun cs (p : Value × Nat) => cs.setIfInBounds (off + p.2) p.1) arr
    r.size = arr.size ∧ (∀ j, j < off ∨ off + vs.size ≤ j → r[j]? = arr[j]?) ∧ ∀ i v, vs[i]? = some v → r[off + i]? = some v := by
  obtain ⟨vs⟩ := vs
  intro r
  have hr : r = (vs.zipIdx 0).foldl (fun cs (p : Value × Nat) => cs.setIfInBounds (off + p.2) p.1) arr := by
    simp only [r]
    rw [← Array.foldl_toList]
    simp
  rw [hr]
  simp only [List.size_toArray] at hle
  refine ⟨(foldl_set off _ arr 0).1, fun j hj => (foldl_set off _ arr j).2 fun p hp => ?_, fun i v hi => ?_⟩
  · have h1 := List.snd_lt_of_mem_zipIdx hp
    have h2 : (⟨vs⟩ : Array Value).size = vs.length := rfl
    rw [h2] at hj
    omega
  · have := foldl_zip off vs 0 arr (by omega) i v (by simpa using hi)
    simpa using this

section
variable {C : Cx} {σ : State} {mu : Nat → Img} {a : Act} {w w' : World}

theorem repL_lay {E : Env} {cs l : List SC} {arr vs : Array Value} {off : Nat} (h : RepL E cs arr) (hv : RepL E l vs) (hle : off + l.length ≤ cs.length) :
    RepL E (cs.take off ++ l ++ cs.drop (off + l.length)) (vs.zipIdx.foldl (fun cs (p : Value × Nat) => cs.setIfInBounds (off + p.2) p.1) arr) := by
  obtain ⟨h1, h2, h3⟩ := lay_spec (off := off) (vs := vs) (arr := arr) (by rw [hv.1, h.1]; exact hle)
  refine ⟨by rw [h1, h.1]; simp; omega, fun j c hj => ?_⟩
  by_cases c1 : j < off
  · rw [List.append_assoc, List.getElem?_append_left (by simp; omega), List.getElem?_take, if_pos c1] at hj
    rw [h2 j (.inl c1)]
    exact h.2 j c hj
  · by_cases c2 : j < off + l.length
    · rw [List.getElem?_append_left (by simp; omega), List.getElem?_append_right (by simp; omega)] at hj
      have e1 : (List.take off cs).length = off := by simp; omega
      rw [e1] at hj
      obtain ⟨u, h4, h5⟩ := hv.2 _ c hj
      refine ⟨u, ?_, h5⟩
      have := h3 (j - off) u h4
      rwa [show off + (j - off) = j by omega] at this
    · rw [List.getElem?_append_right (by simp; omega)] at hj
      have e1 : (List.take off cs ++ l).length = off + l.length := by simp; omega
      rw [e1, List.getElem?_drop, show off + l.length + (j - (off + l.length)) = j by omega] at hj
      rw [h2 j (.inr (by rw [hv.1]; omega))]
      exact h.2 j c hj

theorem scs_ok {E : Env} {sv : SV} {v : Value} {l : List SC} (h : scs sv = some l) (hv : RepV C.P E sv v) : RepL E l v.cells := by
  unfold scs at h
  split at h
  · rename_i c
    split at h
    · rename_i hp
      cases h
      have h1 := plain_one hp hv
      rw [cells_one h1]
      refine ⟨rfl, fun i c' hc' => ?_⟩
      cases i with
      | zero => simp at hc'; subst hc'; exact ⟨v, rfl, h1, hv⟩
      | succ i => simp at hc'
    · cases h
  · cases h
    obtain ⟨arr, rfl, h1⟩ := hv
    exact h1
  · cases h

theorem fillX_run {fs : Array Field} {place : Nat → Option (Nat × Nat)} (hp : ∀ (i : Nat) (fd : Field), fs[i]? = some fd → ∀ n, sizeT C.P fd.type = some n → place i = some (fd.offset, n)) (h : St C σ mu a w) :
    ∀ (parts : List (Nat × Operand)) (cs : List SC) (arr : Array Value) (k : List SC → Rd Eff) (r : Eff), (fillX C.P fs parts cs k).run σ = some r → RepL (σ.env C.wF mu) cs arr →
      ∃ cs' arr', (k cs').run σ = some r ∧ RepL (σ.env C.wF mu) cs' arr' ∧ Instr.fill place arr (parts.map fun (i, x) => (i, a.eval x)) = some arr'
  | [], cs, arr, k, r, hr, hrep => ⟨cs, arr, hr, hrep, rfl⟩
  | (i, x) :: parts, cs, arr, k, r, hr, hrep => by
    simp only [fillX] at hr
    obtain ⟨sv, hr2, hv⟩ := rdv_run hr h
    clear hr
    split at hr2
    · simp [Rd.run] at hr2
    · rename_i l hl
      split at hr2
      · simp [Rd.run] at hr2
      · rename_i fd hfd
        split at hr2
        · rename_i hc
          have hlv := scs_ok hl hv
          have hpl := hp i fd hfd _ hc.1
          obtain ⟨cs', arr', h1, h2, h3⟩ := fillX_run hp h parts _ _ k r hr2 (repL_lay hrep hlv hc.2)
          refine ⟨cs', arr', h1, h2, ?_⟩
          simp only [List.map_cons, Instr.fill, hpl]
          have e1 : (a.eval x).cells.size = l.length := hlv.1
          have e2 : ¬ (arr.size < fd.offset + l.length) := by rw [hrep.1]; have := hc.2; omega
          simp only [e1, ne_eq, not_true_eq_false, decide_false, Bool.false_or, gt_iff_lt, e2]
          exact h3
        · simp [Rd.run] at hr2

theorem sopBuild_ok {t : TypeId} {parts : Array (Nat × Operand)} {eff : Eff} (hr : (sopBuild C.P t parts).run σ = some eff) (h : St C σ mu a w) :
    eff.hp = [] ∧ ∃ v, (Instr.build t (parts.map fun (i, x) => (i, a.eval x))).run C.P w = .ok v w ∧ RepV C.P (σ.env C.wF mu) eff.val v := by
  unfold sopBuild at hr
  split at hr
  · simp [Rd.run] at hr
  · rename_i cs hcs
    obtain ⟨z, hz, hrep⟩ := zeroCs_ok hcs w (σ.env C.wF mu)
    split at hr
    · rename_i fs hu
      split at hr
      · rename_i ns hns
        obtain ⟨n1, n2⟩ := allSome_spec hns
        have hsz : ∀ f ∈ fs, sizeT C.P f.type = some (C.P.cellsOf f.type) := fun f hf => by
          obtain ⟨i, hi⟩ := List.getElem?_of_mem (Array.mem_toList_iff.2 hf)
          have hlt : i < ns.length := by rw [n1]; exact (List.getElem?_eq_some_iff.1 hi).1
          obtain ⟨x, h1, h2⟩ := n2 i ns[i] (List.getElem?_eq_getElem hlt)
          have : x = f := Option.some.inj (h1.symm.trans hi)
          subst this
          unfold sizeT at h2 ⊢
          split at h2
          · rename_i inf hinf; simp [hinf, Program.cellsOf]
          · cases h2
        have hmap : (fs.mapM fun f => (do pure (f.offset, ← sizeOf f.type) : Sem (Nat × Nat))).run C.P w = .ok (fs.map fun f => (f.offset, C.P.cellsOf f.type)) w :=
          run_mapM_array fs fun f hf => by simp [sizeT_ok (hsz f hf)]
        obtain ⟨cs', arr', h1, h2, h3⟩ := fillX_run (fs := fs) (place := fun i => (fs.map fun f => (f.offset, C.P.cellsOf f.type))[i]?) (fun i fd hfd n hn => by
          rw [Array.getElem?_map, hfd]
          have := hsz fd (Array.mem_of_getElem? hfd)
          rw [hn] at this
          cases this
          rfl) h parts.toList cs z.cells _ eff hr hrep
        simp only [Rd.run, Option.some.injEq] at h1
        subst h1
        refine ⟨rfl, .agg arr', ?_, arr', rfl, h2⟩
        simp only [Instr.build, Sem.run_bind, hz, Result.andThen_ok, run_underlying hu, hmap]
        have : (parts.map fun (i, x) => (i, a.eval x)).toList = parts.toList.map fun (i, x) => (i, a.eval x) := by simp
        rw [this, h3]
        simp
      · simp [Rd.run] at hr
    · simp [Rd.run] at hr

theorem rdAll_run {α : Type} (h : St C σ mu a w) : ∀ (xs : List Operand) (k : List SV → Rd α) (r : α), (rdAll xs k).run σ = some r →
    ∃ svs, (k svs).run σ = some r ∧ svs.length = xs.length ∧ ∀ (i : Nat) (sv : SV), svs[i]? = some sv → ∃ x, xs[i]? = some x ∧ RepV C.P (σ.env C.wF mu) sv (a.eval x)
  | [], k, r, hr => ⟨[], hr, rfl, fun i sv h => by simp at h⟩
  | x :: xs, k, r, hr => by
    simp only [rdAll] at hr
    obtain ⟨sv, hr2, hv⟩ := rdv_run hr h
    obtain ⟨svs, h1, h2, h3⟩ := rdAll_run h xs _ r hr2
    refine ⟨sv :: svs, h1, by simp [h2], fun i sv' hi => ?_⟩
    cases i with
    | zero => simp at hi; subst hi; exact ⟨x, by simp, hv⟩
    | succ i => simp at hi; obtain ⟨x', h4, h5⟩ := h3 i sv' hi; exact ⟨x', by simpa using h4, h5⟩

theorem asInts_ok {E : Env} {k : IntKind} : ∀ {svs : List SV} {l : List Int}, asInts k svs = some l → l.length = svs.length ∧ ∀ (i : Nat) (sv : SV), svs[i]? = some sv → ∀ v, RepV C.P E sv v → ∃ n, l[i]? = some n ∧ v = .int k n
  | [], l, h => by simp [asInts] at h; subst h; simp
  | sv :: svs, l, h => by
    unfold asInts at h
    split at h
    · rename_i h0; cases h0
    · rename_i k' n rest hcons
      cases hcons
      split at h
      · rename_i hk
        split at h
        · rename_i ns hns
          cases h
          obtain ⟨h1, h2⟩ := asInts_ok (E := E) hns
          refine ⟨by simp [h1], fun i sv hi v hv => ?_⟩
          cases i with
          | zero => simp at hi; subst hi; exact ⟨n, by simp, by simp only [RepV, RepC] at hv; rw [hv, hk]⟩
          | succ i => simp at hi; obtain ⟨m, h3, h4⟩ := h2 i sv hi v hv; exact ⟨m, by simpa using h3, h4⟩
        · cases h
      · cases h
    · cases h

theorem asBools_ok {E : Env} : ∀ {svs : List SV} {l : List Bool}, asBools svs = some l → l.length = svs.length ∧ ∀ (i : Nat) (sv : SV), svs[i]? = some sv → ∀ v, RepV C.P E sv v → ∃ n, l[i]? = some n ∧ v = .bool n
  | [], l, h => by simp [asBools] at h; subst h; simp
  | sv :: svs, l, h => by
    unfold asBools at h
    split at h
    · rename_i h0; cases h0
    · rename_i b rest hcons
      cases hcons
      split at h
      · rename_i ns hns
        cases h
        obtain ⟨h1, h2⟩ := asBools_ok (E := E) hns
        refine ⟨by simp [h1], fun i sv hi v hv => ?_⟩
        cases i with
        | zero => simp at hi; subst hi; exact ⟨b, by simp, hv⟩
        | succ i => simp at hi; obtain ⟨m, h3, h4⟩ := h2 i sv hi v hv; exact ⟨m, by simpa using h3, h4⟩
      · cases h
    · cases h

theorem asStrs_ok {E : Env} : ∀ {svs : List SV} {l : List (List UInt8)}, asStrs svs = some l → l.length = svs.length ∧ ∀ (i : Nat) (sv : SV), svs[i]? = some sv → ∀ v, RepV C.P E sv v → ∃ n, l[i]? = some n ∧ v = strV n
  | [], l, h => by simp [asStrs] at h; subst h; simp
  | sv :: svs, l, h => by
    unfold asStrs at h
    split at h
    · rename_i h0; cases h0
    · rename_i b rest hcons
      cases hcons
      split at h
      · rename_i ns hns
        cases h
        obtain ⟨h1, h2⟩ := asStrs_ok (E := E) hns
        refine ⟨by simp [h1], fun i sv hi v hv => ?_⟩
        cases i with
        | zero => simp at hi; subst hi; exact ⟨b, by simp, hv⟩
        | succ i => simp at hi; obtain ⟨m, h3, h4⟩ := h2 i sv hi v hv; exact ⟨m, by simpa using h3, h4⟩
      · cases h
    · cases h

theorem roSVs_ok {E : Env} : ∀ {svs : List SV} {cs : List SC}, roSVs svs = some cs → cs.length = svs.length ∧ ∀ (i : Nat) (sv : SV) (c : SC), svs[i]? = some sv → cs[i]? = some c → ∀ v, RepV C.P E sv v → v.oneCell' = true ∧ RepC E c v
  | [], cs, h => by cases h; simp
  | sv :: svs, cs, h => by
    unfold roSVs at h
    split at h
    · rename_i h0; cases h0
    · rename_i l svs' hcons
      cases hcons
      split at h
      · rename_i cs' hcs
        cases h
        obtain ⟨h1, h2⟩ := roSVs_ok (E := E) hcs
        refine ⟨by simp [h1], fun i sv c hi hc v hv => ?_⟩
        cases i with
        | zero =>
          simp at hi hc; subst hi; subst hc
          have hv : RepC E (.ro (.ints .i64 l)) v := hv
          refine ⟨?_, hv⟩
          obtain ⟨⟨a, n, c, e, _⟩, _⟩ := hv
          rw [e]; rfl
        | succ i => exact h2 i sv c (by simpa using hi) (by simpa using hc) v hv
      · cases h
    · cases h

/-- One-cell parts, laid in order. -/
theorem fill_ones : ∀ (vs : List Value) (s : Nat) (arr : Array Value), (∀ v ∈ vs, v.oneCell' = true) → s + vs.length ≤ arr.size →
    ∃ arr', Instr.fill (fun i => some (i * 1, 1)) arr ((List.range' s vs.length).zip vs) = some arr' ∧ arr'.size = arr.size ∧ (∀ j, j < s → arr'[j]? = arr[j]?) ∧ ∀ i v, vs[i]? = some v → arr'[s + i]? = some v
  | [], s, arr, _, _ => ⟨arr, by simp [Instr.fill], rfl, fun _ _ => rfl, fun i v h => by simp at h⟩
  | v :: vs, s, arr, h1, hle => by
    simp only [List.length_cons] at hle
    have hv := h1 v (by simp)
    obtain ⟨arr', h2, h3, h4, h5⟩ := fill_ones vs (s + 1) (arr.setIfInBounds s v) (fun u hu => h1 u (by simp [hu])) (by simp; omega)
    refine ⟨arr', ?_, by simpa using h3, fun j hj => ?_, fun i u hi => ?_⟩
    · have hq : ¬ (arr.size < s + 1) := by omega
      simp only [List.length_cons, List.range'_succ, List.zip_cons_cons, Instr.fill, cells_one hv]
      simp [hq]
      simpa using h2
    · rw [h4 j (by omega), Array.getElem?_setIfInBounds_ne (by omega)]
    · cases i with
      | zero => simp at hi; subst hi; rw [Nat.add_zero, h4 s (by omega)]; simp [show s < arr.size by omega]
      | succ i => rw [show s + (i + 1) = s + 1 + i by omega]; exact h5 i u (by simpa using hi)

theorem run_lit {t e : TypeId} (he : elemT C.P t = some e) (hs : sizeT C.P e = some 1) {n : Nat} (hn : n ≤ 1000) {parts : Array (Nat × Operand)} (hp : (parts.toList.map (·.1)) = List.range n)
    (h1 : ∀ v ∈ (parts.toList.map fun p => a.eval p.2), v.oneCell' = true) (hz : ∃ z, (zeroValue e).run C.P w = .ok z w) :
    (Instr.buildSlice t n (parts.map fun (i, x) => (i, a.eval x))).run C.P w =
      .ok (.slice (some ⟨w.heap.size, 0, none⟩) n n) (w.alloc (.cells (parts.toList.map fun p => a.eval p.2).toArray e)) := by
  obtain ⟨z, hz⟩ := hz
  have hl : parts.toList.length = n := by have := congrArg List.length hp; simpa using this
  have key : ∀ base : Array Value, base.size = n → Instr.fill (fun i => some (i * 1, 1)) base (parts.map fun (i, x) => (i, a.eval x)).toList = some (parts.toList.map fun p => a.eval p.2).toArray := fun base hb => by
    obtain ⟨arr', h2, h3, _, h5⟩ := fill_ones (parts.toList.map fun p => a.eval p.2) 0 base h1 (by simp at hl ⊢; omega)
    have e1 : (parts.map fun (i, x) => (i, a.eval x)).toList = (List.range' 0 (parts.toList.map fun p => a.eval p.2).length).zip (parts.toList.map fun p => a.eval p.2) := by
      have e2 : (parts.toList.map fun p => a.eval p.2).length = n := by rw [List.length_map]; exact hl
      rw [e2, ← List.range_eq_range', ← hp]
      rw [Array.toList_map]
      apply List.ext_getElem?
      intro j
      simp [List.zip_map']
    rw [e1, h2]
    congr 1
    apply Array.ext_getElem?
    intro j
    by_cases hj : j < n
    · have : (parts.toList.map fun p => a.eval p.2)[j]? = some ((parts.toList.map fun p => a.eval p.2)[j]'(by rw [List.length_map]; omega)) := List.getElem?_eq_getElem _
      have h6 := h5 j _ this
      rw [Nat.zero_add] at h6
      rw [h6, List.getElem?_toArray, this]
    · rw [Array.getElem?_eq_none (by omega), Array.getElem?_eq_none (by simp; simp at hl; omega)]
  have hbig : ¬ (16777216 < n) := by omega
  by_cases h0 : n = 0
  · subst h0
    have := key ((Array.range (0 * 1)).map fun x => (#[] : Array Value)[x % 0]!) (by simp)
    simp only [Instr.buildSlice, Sem.run_bind, run_underlying (elemT_ok he), Result.andThen_ok, sizeT_ok hs]
    simp [newRow] at this ⊢
    rw [this]
    simp
  · have := key ((Array.range (n * 1)).map fun x => z.cells[x % z.cells.size]!) (by simp)
    simp only [Instr.buildSlice, Sem.run_bind, run_underlying (elemT_ok he), Result.andThen_ok, sizeT_ok hs]
    simp [newRow, hbig, h0, hz] at this ⊢
    rw [this]
    simp

/-- Own rows of numbers, taken into one. -/
theorem rdRows_run {ei : TypeId} {ki : IntKind} (h : St C σ mu a w) : ∀ (svs : List SV) (used : List Nat) (k : List (List Int) → List Nat → Rd Eff) (r : Eff), (rdRows ei ki svs used k).run σ = some r →
    ∃ ls os, (k ls os).run σ = some r ∧ ls.length = svs.length ∧ os.Nodup ∧ (∀ o ∈ os, o ∉ used ∧ ∃ ob, σ.H o = some (some ob)) ∧
      ∀ vs : List Value, vs.length = svs.length → (∀ (i : Nat) (sv : SV), svs[i]? = some sv → ∃ v, vs[i]? = some v ∧ RepV C.P (σ.env C.wF mu) sv v) →
        (∀ (i : Nat) (v : Value) (r : List Int), vs[i]? = some v → ls[i]? = some r → w.ownsRow 0 ei 1 v r.length (r.map (.int ki))) ∧
        (vs.filterMap hdBlock).Nodup ∧ ∀ b ∈ vs.filterMap hdBlock, ∃ o ∈ os, b ∈ (mu o).blocks
  | [], used, k, r, hr => ⟨[], [], hr, rfl, by simp, by simp, fun vs hv _ => by
      have : vs = [] := List.eq_nil_of_length_eq_zero hv
      subst this; simp⟩
  | sv :: svs, used, k, r, hr => by
    have hbad : ∀ x, (Rd.fail : Rd Eff).run σ = some x → False := fun x hx => by simp [Rd.run] at hx
    cases sv with
    | c x =>
     cases x with
     | nil =>
      have hr : (rdRows ei ki svs used fun ls os => k ([] :: ls) os).run σ = some r := hr
      obtain ⟨ls, os, h1, h2, h3, h4, h5⟩ := rdRows_run h svs used _ r hr
      refine ⟨[] :: ls, os, h1, by simp [h2], h3, h4, fun vs hl hvs => ?_⟩
      cases vs with
      | nil => simp at hl
      | cons v vs =>
        obtain ⟨v', hv', hrep⟩ := hvs 0 _ rfl
        simp at hv'; subst hv'
        simp only [RepV, RepC] at hrep
        subst hrep
        obtain ⟨h6, h7, h8⟩ := h5 vs (by simpa using hl) fun i sv hi => by simpa using hvs (i + 1) sv (by simpa using hi)
        refine ⟨fun i u r hi hr => ?_, h7, h8⟩
        cases i with
        | zero => simp at hi hr; subst hi; subst hr; exact World.ownsRow_nil _ _ _ _
        | succ i => exact h6 i u r (by simpa using hi) (by simpa using hr)
     | own o =>
      obtain ⟨ob, ho, hr2⟩ := run_h hr
      cases ob with
      | ints e k' row =>
        simp only at hr2
        split at hr2
        · rename_i hc
          obtain ⟨rfl, rfl, hus⟩ := hc
          obtain ⟨ls, os, h1, h2, h3, h4, h5⟩ := rdRows_run h svs (o :: used) _ r hr2
          refine ⟨row :: ls, o :: os, h1, by simp [h2], List.nodup_cons.2 ⟨fun hc => (h4 o hc).1 (by simp), h3⟩, fun o' ho' => ?_, fun vs hl hvs => ?_⟩
          · rcases List.mem_cons.1 ho' with rfl | ho'
            · refine ⟨fun hc => ?_, _, ho⟩
              have := List.all_eq_true.1 hus o' hc
              simp at this
            · exact ⟨fun hc => (h4 o' ho').1 (List.mem_cons_of_mem _ hc), (h4 o' ho').2⟩
          · cases vs with
            | nil => simp at hl
            | cons v vs =>
              obtain ⟨v', hv', hrep⟩ := hvs 0 _ rfl
              simp at hv'; subst hv'
              have hv : v = (mu o).hd := on_live ho hrep
              subst hv
              have hrow := h.ob o _ ho
              obtain ⟨h6, h7, h8⟩ := h5 vs (by simpa using hl) fun i sv hi => by simpa using hvs (i + 1) sv (by simpa using hi)
              refine ⟨fun i u r hi hr => ?_, ?_, fun b hb => ?_⟩
              · cases i with
                | zero => simp at hi hr; subst hi; subst hr; exact hrow.2
                | succ i => exact h6 i u r (by simpa using hi) (by simpa using hr)
              · rw [List.filterMap_cons]
                split
                · exact h7
                · rename_i b hb
                  refine List.nodup_cons.2 ⟨fun hc => ?_, h7⟩
                  obtain ⟨o', ho', hb'⟩ := h8 b hc
                  obtain ⟨ob', hob'⟩ := (h4 o' ho').2
                  exact h.sep o o' _ _ (fun hoo => (h4 o' ho').1 (by rw [← hoo]; simp)) ho hob' b (mem_blocks_hd hb) hb'
              · rw [List.filterMap_cons] at hb
                split at hb
                · obtain ⟨o', ho', hb'⟩ := h8 b hb; exact ⟨o', by simp [ho'], hb'⟩
                · rename_i b' hb'
                  rcases List.mem_cons.1 hb with rfl | hb
                  · exact ⟨o, by simp, mem_blocks_hd hb'⟩
                  · obtain ⟨o', ho', hb''⟩ := h8 b hb; exact ⟨o', by simp [ho'], hb''⟩
        · simp [Rd.run] at hr2
      | _ => simp [Rd.run] at hr2
     | _ => exact (hbad _ hr).elim
    | _ => exact (hbad _ hr).elim

theorem ownsRow_new (e n : Nat) (cs : List Value) (hl : cs.length = n) (hn : n ≤ 1000) : (w.alloc (.cells cs.toArray e)).ownsRow 0 e 1 (.slice (some ⟨w.heap.size, 0, none⟩) n n) n cs :=
  ⟨by simp [hl], .inr ⟨w.heap.size, n, cs.toArray, rfl, Nat.zero_le _, heap_alloc_new w _, Nat.le_refl _, by unfold maxLen; omega, by simp [hl], by rw [List.take_of_length_le (by simp [hl])]⟩⟩

theorem sopBuildSlice_ok {d : Nat} {t : TypeId} {n : Nat} {parts : Array (Nat × Operand)} {eff : Eff} (hr : (sopBuildSlice C.P d t n parts).run σ = some eff) (h : St C σ mu a w)
    {dst : Option Nat} (hd : ∀ d, dst = some d → d < C.N) :
    ∃ v w', (Instr.buildSlice t n (parts.map fun (i, x) => (i, a.eval x))).run C.P w = .ok v w' ∧ StE C (σ.app dst eff) (a.put dst v) w' := by
  unfold sopBuildSlice at hr
  split at hr
  · rename_i hc
    obtain ⟨hp, hn⟩ := hc
    split at hr
    · simp [Rd.run] at hr
    · rename_i e he
      split at hr
      · rename_i hs
        obtain ⟨hs, hz⟩ := hs
        have hz : ∃ z, (zeroValue e).run C.P w = .ok z w := by
          cases hq : zeroCs C.P e with
          | none => rw [hq] at hz; cases hz
          | some cs => exact let ⟨z, h1, _⟩ := zeroCs_ok hq w (σ.env C.wF mu); ⟨z, h1⟩
        have hpl : parts.toList.length = n := by have := congrArg List.length hp; simpa using this
        have hval : ∀ {svs : List SV}, svs.length = (parts.toList.map (·.2)).length → (∀ (i : Nat) (sv : SV), svs[i]? = some sv → ∃ x, (parts.toList.map (·.2))[i]? = some x ∧ RepV C.P (σ.env C.wF mu) sv (a.eval x)) →
            ∀ (i : Nat) (sv : SV), svs[i]? = some sv → ∃ v, (parts.toList.map fun p => a.eval p.2)[i]? = some v ∧ RepV C.P (σ.env C.wF mu) sv v := fun _ h2 i sv hi => by
          obtain ⟨x, h3, h4⟩ := h2 i sv hi
          refine ⟨a.eval x, ?_, h4⟩
          rw [List.getElem?_map] at h3 ⊢
          cases hpi : parts.toList[i]? with
          | none => simp [hpi] at h3
          | some p => simp [hpi] at h3; simp [h3]
        have hvl : (parts.toList.map fun p => a.eval p.2).length = n := by rw [List.length_map]; exact hpl
        split at hr
        · rename_i k hu
          obtain ⟨svs, hr2, h1, h2⟩ := rdAll_run h _ _ _ hr
          clear hr
          split at hr2
          · rename_i l hl
            obtain ⟨habs, hr3⟩ := run_abs hr2
            simp only [Rd.run, Option.some.injEq] at hr3
            subst hr3
            obtain ⟨h3, h4⟩ := asInts_ok (C := C) (E := σ.env C.wF mu) hl
            have hvs : (parts.toList.map fun p => a.eval p.2) = l.map (.int k) := by
              apply List.ext_getElem?
              intro i
              by_cases hi : i < svs.length
              · obtain ⟨v, h5, h6⟩ := hval h1 h2 i svs[i] (List.getElem?_eq_getElem hi)
                obtain ⟨m, h7, h8⟩ := h4 i svs[i] (List.getElem?_eq_getElem hi) v h6
                rw [h5, List.getElem?_map, h7, h8]; rfl
              · rw [List.getElem?_eq_none (by rw [hvl]; simp at h1; simp at hpl; omega), List.getElem?_eq_none (by simp; omega)]
            have hll : l.length = n := by have := congrArg List.length hvs; rw [hvl] at this; simpa using this.symm
            refine ⟨_, _, run_lit he hs hn hp (by rw [hvs]; exact int_one k l) hz, ?_⟩
            rw [hvs]
            refine h.new hd habs (grB_alloc w _ none) (m := ⟨.slice (some ⟨w.heap.size, 0, none⟩) n n, []⟩) ⟨rfl, by rw [hll]; exact ownsRow_new e n _ (by simp [hll]) hn⟩ (by simp [Img.blocks, hdBlock]) (by simp [Img.blocks, hdBlock]) ?_
            simp [RepV, RepC, RefOn, OSt.on, Value.oneCell']
          · simp [Rd.run] at hr2
        · rename_i hu
          obtain ⟨svs, hr2, h1, h2⟩ := rdAll_run h _ _ _ hr
          clear hr
          split at hr2
          · rename_i l hl
            obtain ⟨habs, hr3⟩ := run_abs hr2
            simp only [Rd.run, Option.some.injEq] at hr3
            subst hr3
            obtain ⟨h3, h4⟩ := asBools_ok (C := C) (E := σ.env C.wF mu) hl
            have hvs : (parts.toList.map fun p => a.eval p.2) = l.map .bool := by
              apply List.ext_getElem?
              intro i
              by_cases hi : i < svs.length
              · obtain ⟨v, h5, h6⟩ := hval h1 h2 i svs[i] (List.getElem?_eq_getElem hi)
                obtain ⟨m, h7, h8⟩ := h4 i svs[i] (List.getElem?_eq_getElem hi) v h6
                rw [h5, List.getElem?_map, h7, h8]; rfl
              · rw [List.getElem?_eq_none (by rw [hvl]; simp at h1; simp at hpl; omega), List.getElem?_eq_none (by simp; omega)]
            have hll : l.length = n := by have := congrArg List.length hvs; rw [hvl] at this; simpa using this.symm
            refine ⟨_, _, run_lit he hs hn hp (by rw [hvs]; exact bool_one l) hz, ?_⟩
            rw [hvs]
            refine h.new hd habs (grB_alloc w _ none) (m := ⟨.slice (some ⟨w.heap.size, 0, none⟩) n n, []⟩) ⟨rfl, by rw [hll]; exact ownsRow_new e n _ (by simp [hll]) hn⟩ (by simp [Img.blocks, hdBlock]) (by simp [Img.blocks, hdBlock]) ?_
            simp [RepV, RepC, RefOn, OSt.on, Value.oneCell']
          · simp [Rd.run] at hr2
        · rename_i hu
          obtain ⟨svs, hr2, h1, h2⟩ := rdAll_run h _ _ _ hr
          clear hr
          split at hr2
          · rename_i l hl
            obtain ⟨habs, hr3⟩ := run_abs hr2
            simp only [Rd.run, Option.some.injEq] at hr3
            subst hr3
            obtain ⟨h3, h4⟩ := asStrs_ok (C := C) (E := σ.env C.wF mu) hl
            have hvs : (parts.toList.map fun p => a.eval p.2) = l.map strV := by
              apply List.ext_getElem?
              intro i
              by_cases hi : i < svs.length
              · obtain ⟨v, h5, h6⟩ := hval h1 h2 i svs[i] (List.getElem?_eq_getElem hi)
                obtain ⟨m, h7, h8⟩ := h4 i svs[i] (List.getElem?_eq_getElem hi) v h6
                rw [h5, List.getElem?_map, h7, h8]; rfl
              · rw [List.getElem?_eq_none (by rw [hvl]; simp at h1; simp at hpl; omega), List.getElem?_eq_none (by simp; omega)]
            have hll : l.length = n := by have := congrArg List.length hvs; rw [hvl] at this; simpa using this.symm
            refine ⟨_, _, run_lit he hs hn hp (by rw [hvs]; exact str_one l) hz, ?_⟩
            rw [hvs]
            refine h.new hd habs (grB_alloc w _ none) (m := ⟨.slice (some ⟨w.heap.size, 0, none⟩) n n, []⟩) ⟨rfl, by rw [hll]; exact ownsRow_new e n _ (by simp [hll]) hn⟩ (by simp [Img.blocks, hdBlock]) (by simp [Img.blocks, hdBlock]) ?_
            simp [RepV, RepC, RefOn, OSt.on, Value.oneCell']
          · simp [Rd.run] at hr2
        · rename_i ei hu
          split at hr
          · simp [Rd.run] at hr
          · rename_i ki hki
            obtain ⟨svs, hr2', h1, h2⟩ := rdAll_run h _ _ _ hr
            clear hr
            split at hr2'
            · rename_i cs hcs
              obtain ⟨habs, hr4⟩ := run_abs hr2'
              simp only [Rd.run, Option.some.injEq] at hr4
              subst hr4
              have hcs2 : svs ≠ [] ∧ roSVs svs = some cs := by
                split at hcs
                · cases hcs
                · exact ⟨by assumption, hcs⟩
              obtain ⟨h3, h4⟩ := roSVs_ok (C := C) (E := σ.env C.wF mu) hcs2.2
              have hsl : (parts.toList.map fun p => a.eval p.2).length = svs.length := by rw [h1]; simp
              have hrep : RepL (σ.env C.wF mu) cs (parts.toList.map fun p => a.eval p.2).toArray := by
                refine ⟨by simp only [List.size_toArray]; omega, fun i c hc => ?_⟩
                have hi : i < svs.length := by rw [← h3]; exact (List.getElem?_eq_some_iff.1 hc).1
                obtain ⟨v, h5, h6⟩ := hval h1 h2 i svs[i] (List.getElem?_eq_getElem hi)
                exact ⟨v, by simpa using h5, h4 i svs[i] c (List.getElem?_eq_getElem hi) hc v h6⟩
              have hone : ∀ v ∈ (parts.toList.map fun p => a.eval p.2), v.oneCell' = true := fun v hv => by
                obtain ⟨i, hi⟩ := List.getElem?_of_mem hv
                have hlt : i < cs.length := by rw [h3, ← hsl]; exact (List.getElem?_eq_some_iff.1 hi).1
                obtain ⟨u, h5, h6, _⟩ := hrep.2 i cs[i] (List.getElem?_eq_getElem hlt)
                have : u = v := Option.some.inj (h5.symm.trans (by simpa using hi))
                exact this ▸ h6
              have hcn : cs.length = n := by rw [h3, ← hsl, hvl]
              refine ⟨_, _, run_lit he hs hn hp hone hz, ?_⟩
              refine h.new hd habs (grB_alloc w _ none) (repL_alloc hrep e) (by simp [Img.blocks, hdBlock]) (by simp [Img.blocks, hdBlock]) ?_
              simp only [RepV, RepC, RefOn, if_true, OSt.on, Ob.shp]
              exact ⟨rfl, trivial, w.heap.size, rfl, by rw [hcn]⟩
            rename_i hr2'' 
            have hr2 := hr2'
            obtain ⟨ls, os, hr3, h3, h4, h5, h6⟩ := rdRows_run h svs [] _ _ hr2
            clear hr2
            obtain ⟨habs, hr4⟩ := run_abs hr3
            simp only [Rd.run, Option.some.injEq] at hr4
            subst hr4
            have hsl : (parts.toList.map fun p => a.eval p.2).length = svs.length := by rw [h1]; simp
            obtain ⟨h7, h8, h9⟩ := h6 _ hsl (hval h1 h2)
            have hll : ls.length = n := by rw [h3, ← hsl, hvl]
            have hone : ∀ v ∈ (parts.toList.map fun p => a.eval p.2), v.oneCell' = true := fun v hv => by
              obtain ⟨i, hi⟩ := List.getElem?_of_mem hv
              have hlt : i < ls.length := by rw [hll, ← hvl]; exact (List.getElem?_eq_some_iff.1 hi).1
              exact ownsRow_one (h7 i v _ hi (List.getElem?_eq_getElem hlt))
            refine ⟨_, _, run_lit he hs hn hp hone hz, ?_⟩
            have hlt : ∀ b ∈ ((parts.toList.map fun p => a.eval p.2).filterMap hdBlock), b < w.heap.size := fun b hb => by
              obtain ⟨o, ho, hbo⟩ := h9 b hb
              obtain ⟨ob, hob⟩ := (h5 o ho).2
              exact (h.ob o ob hob).block b hbo
            refine h.move hd habs os (fun o ho => (h5 o ho).2) (m := ⟨.slice (some ⟨w.heap.size, 0, none⟩) n n, parts.toList.map fun p => a.eval p.2⟩) ⟨rfl, Nat.le_refl _⟩ rfl rfl (by simp) (fun b hb _ => (World.grownBy_alloc w _ none).block b hb (by simp))
              ⟨by rw [hll]; exact ownsRow_new e n _ hvl hn, by rw [hvl, hll], fun i v r hi hr => ?_⟩ ?_ ?_ rfl rfl
            · refine ownsRow_keep (h7 i v r hi hr) fun b hb => (World.grownBy_alloc w _ none).block b (hlt b (List.mem_filterMap.2 ⟨v, List.mem_of_getElem? hi, hb⟩)) (by simp)
            · simp only [Img.blocks, hdBlock, Option.toList_some, List.singleton_append]
              exact List.nodup_cons.2 ⟨fun hc => by have := hlt _ hc; omega, h8⟩
            · intro b hb
              simp only [Img.blocks, hdBlock, Option.toList_some, List.singleton_append] at hb
              rcases List.mem_cons.1 hb with rfl | hb
              · exact .inr (Nat.le_refl _)
              · exact .inl (h9 b hb)
        · simp [Rd.run] at hr
      · simp [Rd.run] at hr
  · simp [Rd.run] at hr

end
end Go.Sx
