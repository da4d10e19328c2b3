/- SxJ -/
import Derived.Test.YtbcalfnpmehicaaSxI
import Derived.Lib.AppendZerosOnto
namespace Go.Sx
open Go.RowKit

section
variable {C : Cx} {σ : State} {mu : Nat → Img} {a : Act} {w w' : World}

theorem zeroCells_one (v : Value) (n : Nat) : (Builtin.zeroCells #[v] n).toList = List.replicate n v := by
  apply List.ext_getElem?
  intro i
  simp only [Builtin.zeroCells, List.size_toArray, List.length_cons, List.length_nil, Array.toList_map, Array.toList_range, List.getElem?_map, List.getElem?_replicate]
  by_cases h : i < n
  · simp [h, Nat.mod_one]
  · simp [h]

/-- 'append' of n zeros onto a row of the call's own. -/
theorem run_app0 {t tn ty e : TypeId} (he : elemT C.P t = some e) (hb : bytesOk C.P e = true) {kn kq : IntKind} (htn : C.P.underlying tn = some (.int kn)) {i : TypeInfo} {z : Value} (hi : C.P.info? e = some i) (hz : i.zero = some z) (hzc : z.cells = #[z]) (hz1 : z.oneCell' = true)
    {v : Value} {n m : Nat} {xs : List Value} (hown : w.ownsRow 0 e 1 v n xs) (hroom : room (n + m)) :
    ∃ v' w', (Builtin.append_ #[t, tn] ty #[v, .int kq (m : Int)]).run C.P w = .ok v' w' ∧ w'.ownsRow 0 e 1 v' (n + m) (xs ++ List.replicate m z) ∧ GrB w w' v.ownBlock ∧
      ∀ b, hdBlock v' = some b → hdBlock v = some b ∨ w.heap.size ≤ b := by
  obtain ⟨i', z', hi', hz', hs, hby, hzs⟩ := bytesOk_ok hb
  rw [hi] at hi'; cases hi'
  rw [hz] at hz'; cases hz'
  have ht := elemT_ok he
  unfold room at hroom
  have hbytes : (n + m) * i.bytes ≤ 140737488355328 := Nat.le_trans (Nat.mul_le_mul hroom hby) (by omega)
  have hbm : m * i.bytes ≤ 140737488355328 := Nat.le_trans (Nat.mul_le_mul (by omega : m ≤ 1099511627776) hby) (by omega)
  have hbi : ¬ (281474976710656 < (m : Int) * (i.bytes : Int)) := by
    rw [← Int.natCast_mul]
    omega
  have hw : IntKind.i64.wrap (m : Int) = m := by rw [IntKind.wrap_i64]; omega
  have hneg : ¬ ((m : Int) < 0) := by omega
  have hxl : xs.length = n := by simpa using hown.1
  have hzl : ∀ k, (Builtin.zeroCells z.cells k).toList = List.replicate k z := fun k => by rw [hzc]; exact zeroCells_one z k
  by_cases hm : m = 0
  · subst hm
    have hw0 : IntKind.i64.wrap 0 = 0 := by rw [IntKind.wrap_i64]; rfl
    refine ⟨v, w, ?_, by simpa using hown, ⟨.refl _, rfl, rfl, Nat.le_refl _, fun _ _ _ => rfl⟩, fun b hb => .inl hb⟩
    rcases hown.2 with ⟨rfl, rfl⟩ | ⟨g, cap, cur, rfl, _, _, hnc, _⟩
    · simp [Builtin.append_, run_underlying ht, run_underlying htn, sizeOf, typeInfo, hi, asInt, asIntOf, hw0]
    · simp [Builtin.append_, run_underlying ht, run_underlying htn, sizeOf, typeInfo, hi, asInt, asIntOf, hw0, hnc, storeCells]
  · have grown : ∀ (old : Nat), old < n + m → ∀ (row : Option Nat),
        (w.drew.alloc (.cells (xs.toArray ++ Builtin.zeroCells z.cells m ++ Builtin.zeroCells z.cells (grownCap w (n + m) old e - (n + m))) e)).ownsRow 0 e 1
          (.slice (some ⟨w.heap.size, 0, none⟩) (n + m) (grownCap w (n + m) old e)) (n + m) (xs ++ List.replicate m z) ∧
        GrB w (w.drew.alloc (.cells (xs.toArray ++ Builtin.zeroCells z.cells m ++ Builtin.zeroCells z.cells (grownCap w (n + m) old e - (n + m))) e)) row := by
      intro old ho row
      have hge := grownCap_ge w (n + m) old e
      have hcm : grownCap w (n + m) old e ≤ maxLen := grownCap_le_maxLen w (n + m) old e (by unfold maxLen; omega)
      refine ⟨⟨by simp [hxl], .inr ⟨w.heap.size, _, _, rfl, Nat.zero_le _, heap_alloc_new w.drew _, hge, hcm, ?_, ?_⟩⟩, ⟨⟨rfl, Nat.le_succ _⟩, rfl, rfl, by simp, fun k hk _ => (World.grownBy_alloc w.drew _ none).block k hk (by simp)⟩⟩
      · simp only [Array.size_append, List.size_toArray, size_zeroCells, hzs, hxl]
        omega
      · simp only [Array.toList_append, hzl, List.append_assoc]
        rw [← List.append_assoc, show (n + m) * 1 = (xs ++ List.replicate m z).length by simp [hxl]]
        exact List.take_left
    rcases hown.2 with ⟨rfl, rfl⟩ | ⟨g, cap, cur, rfl, _, hg, hnc, hcm, hcs, htake⟩
    · have hx : xs = [] := List.eq_nil_of_length_eq_zero hxl
      subst hx
      have hr := Go.Lib.run_append_nil_zeros (P := C.P) w t tn ty e i z kq kn ht htn hi hz m (by omega) (by omega) (by omega) (by omega)
      have hgr := grown 0 (by omega) (Value.ownBlock (.slice none 0 0))
      simp only [Nat.zero_add, List.nil_append, Array.empty_append] at hgr ⊢
      exact ⟨_, _, hr, hgr.1, hgr.2, fun b hb => .inr (by simp [hdBlock] at hb; omega)⟩
    · by_cases hfit : n + m ≤ cap
      · have hst := run_storeCells_at C.P g n e (List.replicate m z) 0 cur w hg (by simp only [List.length_replicate]; omega) (fun u hu => by rw [List.eq_of_mem_replicate hu]; exact hz1)
        simp only [Nat.add_zero, List.length_replicate] at hst
        have hns : ¬ (m * i.size = 0) := Nat.mul_ne_zero hm (by omega)
        have hr : (Builtin.append_ #[t, tn] ty #[.slice (some ⟨g, 0, none⟩) n cap, .int kq (m : Int)]).run C.P w =
            .ok (.slice (some ⟨g, 0, none⟩) (n + m) cap) (w.setRow g (cur.toList.take n ++ List.replicate m z ++ cur.toList.drop (n + m)).toArray) := by
          simp [Builtin.append_, run_underlying ht, run_underlying htn, sizeOf, typeInfo, zeroValue, hi, hz, hs, asInt, asIntOf, hw, hm, hneg, hbi, hfit, hzl, Addr.add_lit, hst]
        refine ⟨_, _, hr, ⟨by simp [hxl], .inr ⟨g, cap, _, rfl, Nat.zero_le _, setRow_heap w g cur _ e _ hg, hfit, hcm, ?_, ?_⟩⟩, ⟨⟨rfl, Nat.le_refl _⟩, rfl, rfl, by simp, fun k _ hk => setRow_other w g k _ (fun e => hk (by simp [Value.ownBlock, e]))⟩,
          fun b hb => .inl hb⟩
        · simp only [List.size_toArray, List.length_append, List.length_take, List.length_drop, Array.length_toList, List.length_replicate]
          omega
        · simp only [Nat.mul_one] at htake
          rw [htake, show (n + m) * 1 = (xs ++ List.replicate m z).length by simp [hxl]]
          exact List.take_left
      · have holds : ∀ j u, xs[j]? = some u → w.cell? ((⟨g, 0, none⟩ : Addr).add j) = some u := hown.cells (g := g) rfl
        have hf := run_firstCells_some (P := C.P) (w := w.drew) i.size n ⟨g, 0, none⟩ n cap xs (by rw [hs]; simpa using hxl) (fun j u hj => holds j u hj)
        have hr := Go.Lib.run_append_grow_zeros (P := C.P) w t tn ty e i z kq kn ht htn hi hz (some ⟨g, 0, none⟩) n cap xs hf m (by omega) (by omega) (by omega) (by omega) (by omega) (growslice_fits (by omega) hbytes)
        have hgr := grown cap (by omega) (Value.ownBlock (.slice (some ⟨g, 0, none⟩) n cap))
        exact ⟨_, _, hr, hgr.1, hgr.2, fun b hb => .inr (by simp [hdBlock] at hb; omega)⟩

theorem lk_kills (ks : List Nat) (o : Nat) : lk (ks.map fun k => (k, (none : Option Ob))) o = if o ∈ ks then some none else none := by
  induction ks with
  | nil => simp [lk]
  | cons k ks ih =>
    rw [List.map_cons, lk_cons, ih]
    by_cases h : k = o
    · subst h; simp
    · simp [h, Ne.symm h]

/-- A new object out of old ones that are used up. -/
theorem St.move (h : St C σ mu a w) {dst : Option Nat} (hd : ∀ d, dst = some d → d < C.N) {d : Nat} (habs : σ.H d = none) (ks : List Nat) (hks : ∀ o ∈ ks, ∃ ob, σ.H o = some (some ob))
    {p : Option Prop} {ob : Ob} {m : Img} {v : Value}
    (hos : OsD w w') (htape : w'.tape = w.tape) (hout : w'.output = w.output) (hsize : w.heap.size ≤ w'.heap.size)
    (hkeep : ∀ b, b < w.heap.size → (∀ o ∈ ks, b ∉ (mu o).blocks) → w'.heap[b]? = w.heap[b]?)
    (hrep : RepO (σ.env C.wF mu) w' m ob) (hnd : m.blocks.Nodup) (hb : ∀ b ∈ m.blocks, (∃ o ∈ ks, b ∈ (mu o).blocks) ∨ w.heap.size ≤ b)
    (hv : v = m.hd) (hv1 : v.oneCell' = true) :
    StE C (σ.app dst ⟨.c (.own d), (d, some ob) :: ks.map (fun o => (o, none)), p⟩) (a.put dst v) w' := by
  have hlk : ∀ o, lk ((d, some ob) :: ks.map (fun o => (o, none))) o = if d = o then some (some ob) else if o ∈ ks then some none else none := fun o => by
    rw [lk_cons, lk_kills]
  have hdk : ∀ o ∈ ks, d ≠ o := fun o ho hc => by
    obtain ⟨ob', h1⟩ := hks o ho
    rw [← hc, habs] at h1
    cases h1
  have htouch : ∀ o ∈ ks, ∀ b ∈ (mu o).blocks, touched σ mu ⟨.c (.own d), (d, some ob) :: ks.map (fun o => (o, none)), p⟩ b := fun o ho b hb => by
    obtain ⟨ob', h1⟩ := hks o ho
    exact ⟨o, none, ob', by rw [hlk, if_neg (hdk o ho), if_pos ho], h1, hb⟩
  refine ⟨fun o => if o = d then m else mu o, h.ups hd hos htape hout hsize (fun b hb' ht => hkeep b hb' fun o ho hbo => ht (htouch o ho b hbo)) (fun o ho => ?_) (fun o x ho => ?_) (fun o ob' ho => ?_) (fun o o' ob1 ob2 hne ho ho' => ?_) (fun _ => ?_)⟩
  · have ho : (if d = o then some (some ob) else if o ∈ ks then some none else none) = none := (hlk o).symm.trans ho
    split at ho
    · cases ho
    · rename_i hne; simp [Ne.symm hne]
  · have ho : (if d = o then some (some ob) else if o ∈ ks then some none else none) = some x := (hlk o).symm.trans ho
    split at ho
    · rename_i hdo; subst hdo
      have : σ.ost d = .absent := by simp [State.ost, habs]
      rw [this]; trivial
    · split at ho
      · rename_i hdo ho2
        cases ho
        obtain ⟨ob', h1⟩ := hks o ho2
        rw [ost_live h1]; trivial
      · cases ho
  · have hq : (if d = o then some (some ob) else if o ∈ ks then some none else none) = some (some ob') := (hlk o).symm.trans ho
    clear ho
    split at hq
    · rename_i hdo; subst hdo; cases hq
      simp only [if_true]
      exact ⟨hrep, hnd, fun b hb' => (hb b hb').imp (fun ⟨o, h1, h2⟩ => htouch o h1 b h2) id⟩
    · split at hq <;> cases hq
  · have ho : (if d = o then some (some ob) else if o ∈ ks then some none else none) = some (some ob1) := (hlk o).symm.trans ho
    have ho' : (if d = o' then some (some ob) else if o' ∈ ks then some none else none) = some (some ob2) := (hlk o').symm.trans ho'
    split at ho
    · split at ho'
      · rename_i h1 h2; exact absurd (h1.symm.trans h2) hne
      · split at ho' <;> cases ho'
    · split at ho <;> cases ho
  · refine ⟨hv1, ?_⟩
    have : (State.env (σ.app dst ⟨.c (.own d), (d, some ob) :: ks.map (fun o => (o, none)), p⟩) C.wF (fun o => if o = d then m else mu o)).st d = .live ob.shp := by
      simp only [State.env, State.ost, H_app]
      rw [hlk d, if_pos rfl]
    rw [this]
    simp only [OSt.on, State.env, if_true]
    exact hv

/-- What an append to a row of plain cells leaves. -/
theorem app_plain (h : St C σ mu a w) {dst : Option Nat} (hd : ∀ d, dst = some d → d < C.N) {d : Nat} (habs : σ.H d = none) {e t ty : TypeId} (he : elemT C.P t = some e) (hby : bytesOk C.P e = true)
    {cx : SC} {ks : List Nat} {v y : Value} {n m : Nat} {xs news : List Value} (hown : w.ownsRow 0 e 1 v n xs) (hy : CellsAt w y m news) (h1 : ∀ u ∈ news, u.oneCell' = true) (hroom : room (n + m))
    (hks : (ks = [] ∧ hdBlock v = none) ∨ ∃ o ob, ks = [o] ∧ σ.H o = some (some ob) ∧ hdBlock v = hdBlock (mu o).hd) {p : Option Prop} {ob : Ob}
    (hob : ∀ w' v', w'.ownsRow 0 e 1 v' (n + m) (xs ++ news) → RepO (σ.env C.wF mu) w' ⟨v', []⟩ ob) (_hcx : cx = cx) :
    ∃ v' w', (Builtin.append_ #[t, t] ty #[v, y]).run C.P w = .ok v' w' ∧ StE C (σ.app dst ⟨.c (.own d), (d, some ob) :: ks.map (fun o => (o, none)), p⟩) (a.put dst v') w' := by
  obtain ⟨v', w', hr, hown', hg, hbl⟩ := run_app (ty := ty) he hby hown hy h1 hroom
  refine ⟨v', w', hr, h.move hd habs ks ?_ (m := ⟨v', []⟩) hg.os hg.tape hg.output hg.size ?_ (hob w' v' hown') ?_ ?_ rfl (ownsRow_one hown')⟩
  · rcases hks with ⟨rfl, _⟩ | ⟨o, ob', rfl, h2, _⟩
    · simp
    · intro o' ho'; simp at ho'; subst ho'; exact ⟨ob', h2⟩
  · intro b hlt hk
    refine hg.block b hlt fun hc => ?_
    rw [ownsRow_np hown] at hc
    rcases hks with ⟨rfl, h2⟩ | ⟨o, ob', rfl, _, h2⟩
    · rw [h2] at hc; cases hc
    · exact hk o (by simp) (mem_blocks_hd (by rw [← h2]; exact hc.symm))
  · simp only [Img.blocks, List.filterMap_nil, List.append_nil]
    cases hdBlock v' <;> simp
  · intro b hb
    simp only [Img.blocks, List.filterMap_nil, List.append_nil, Option.mem_toList] at hb
    rcases hbl b hb with h2 | h2
    · rcases hks with ⟨rfl, h3⟩ | ⟨o, ob', rfl, _, h3⟩
      · rw [h3] at h2; cases h2
      · exact .inl ⟨o, by simp, mem_blocks_hd (by rw [← h3]; exact h2)⟩
    · exact .inr h2

/-- 'append(x, make([]T, m)...)' of numbers. -/
theorem sopApp0_ok {d : Nat} {t tn ty : TypeId} {kn : IntKind} (htn : C.P.underlying tn = some (.int kn)) {cx cy : SC} {vx vy : Value} {eff : Eff} (hr : (sopApp0 C.P d t cx cy).run σ = some eff) (hob : eff.obl)
    (hx : RepC (σ.env C.wF mu) cx vx) (hy : RepC (σ.env C.wF mu) cy vy) (h : St C σ mu a w) {dst : Option Nat} (hd : ∀ d, dst = some d → d < C.N) :
    ∃ v' w', (Builtin.append_ #[t, tn] ty #[vx, vy]).run C.P w = .ok v' w' ∧ StE C (σ.app dst eff) (a.put dst v') w' := by
  unfold sopApp0 at hr
  split at hr
  · simp [Rd.run] at hr
  · rename_i e he
    split at hr
    · rename_i hby
      split at hr
      · rename_i k hk
        split at hr
        · rename_i hzi
          split at hr
          · rename_i kq m
            split at hr
            · rename_i o
              obtain ⟨ob, ho, hr⟩ := run_h hr
              split at hr
              · rename_i e' k' l
                split at hr
                · rename_i hek
                  obtain ⟨rfl, rfl⟩ := hek
                  obtain ⟨habs, hr⟩ := run_abs hr
                  simp only [Rd.run, Option.some.injEq] at hr
                  subst hr
                  obtain ⟨hm, hroom⟩ : 0 ≤ m ∧ room (l.length + m.toNat) := hob
                  have hvy : vy = .int kq m := hy
                  have hvx : vx = (mu o).hd := on_live ho hx
                  subst hvy
                  subst hvx
                  obtain ⟨i, z, hi, hz, h1, _, _, hzc⟩ := zeroIs_ok hzi
                  have hz0 := h1 _ _ rfl
                  subst hz0
                  obtain ⟨q1, q2⟩ := h.ob o _ ho
                  obtain ⟨v', w', hrun, hown', hg, hbl⟩ := run_app0 (ty := ty) (kq := kq) he hby htn hi hz hzc rfl q2 hroom
                  rw [show ((m.toNat : Nat) : Int) = m by omega] at hrun
                  refine ⟨v', w', hrun, h.move hd habs [o] (fun x hx => by simp at hx; subst hx; exact ⟨_, ho⟩) (m := ⟨v', []⟩) hg.os hg.tape hg.output hg.size (fun b hlt hk => ?_) ⟨rfl, ?_⟩ ?_ (fun b hb => ?_) rfl (ownsRow_one hown')⟩
                  · refine hg.block b hlt fun hc => ?_
                    rw [ownsRow_np q2] at hc
                    exact hk o (by simp) (mem_blocks_hd hc.symm)
                  · rw [List.map_append, List.map_replicate, List.length_append, List.length_replicate]
                    exact hown'
                  · simp only [Img.blocks, List.filterMap_nil, List.append_nil]
                    cases hdBlock v' <;> simp
                  · simp only [Img.blocks, List.filterMap_nil, List.append_nil, Option.mem_toList] at hb
                    rcases hbl b hb with h2 | h2
                    · exact .inl ⟨o, by simp, mem_blocks_hd h2⟩
                    · exact .inr h2
                · simp [Rd.run] at hr
              · simp [Rd.run] at hr
            · simp [Rd.run] at hr
          · simp [Rd.run] at hr
        · simp [Rd.run] at hr
      · simp [Rd.run] at hr
    · simp [Rd.run] at hr

theorem nodup_blocks_ins {m : Img} (h : m.blocks.Nodup) : (m.ins.filterMap hdBlock).Nodup ∧ ∀ b, hdBlock m.hd = some b → b ∉ m.ins.filterMap hdBlock := by
  unfold Img.blocks at h
  rw [List.nodup_append] at h
  exact ⟨h.2.1, fun b hb hc => h.2.2 b (by simp [hb]) b hc rfl⟩

/-- What an append of rows to rows leaves. -/
theorem app_rows (h : St C σ mu a w) {dst : Option Nat} (hd : ∀ d, dst = some d → d < C.N) {d : Nat} (habs : σ.H d = none) {e ei t ty : TypeId} {k : IntKind} (he : elemT C.P t = some e) (hby : bytesOk C.P e = true)
    {o2 ver2 : Nat} {ys : List (List Int)} (ho2 : σ.H o2 = some (some (.rows ver2 e ei k ys))) {ks : List Nat} {v : Value} {l : List (List Int)} {ins : List Value}
    (hown : w.ownsRow 0 e 1 v l.length ins) (hil : ins.length = l.length) (hin : ∀ (i : Nat) (u : Value) (r : List Int), ins[i]? = some u → l[i]? = some r → w.ownsRow 0 ei 1 u r.length (r.map (.int k)))
    (hroom : room (l.length + ys.length))
    (hks : (ks = [] ∧ v = .slice none 0 0 ∧ ins = []) ∨ ∃ o ob, ks = [o] ∧ o ≠ o2 ∧ σ.H o = some (some ob) ∧ v = (mu o).hd ∧ ins = (mu o).ins) {p : Option Prop} :
    ∃ v' w', (Builtin.append_ #[t, t] ty #[v, (mu o2).hd]).run C.P w = .ok v' w' ∧
      StE C (σ.app dst ⟨.c (.own d), (d, some (.rows 0 e ei k (l ++ ys))) :: (ks ++ [o2]).map (fun o => (o, none)), p⟩) (a.put dst v') w' := by
  obtain ⟨q1, q2, q3⟩ := h.ob o2 _ ho2
  have hy : CellsAt w (mu o2).hd ys.length (mu o2).ins := by
    have := view_cells q1 (viewV_own q1) (by omega)
    rwa [List.drop_zero, List.take_of_length_le (by rw [q2]; exact Nat.le_refl _)] at this
  have hone : ∀ u ∈ (mu o2).ins, u.oneCell' = true := fun u hu => by
    obtain ⟨i, hi⟩ := List.getElem?_of_mem hu
    have hlt : i < ys.length := by rw [← q2]; exact (List.getElem?_eq_some_iff.1 hi).1
    exact ownsRow_one (q3 i u _ hi (List.getElem?_eq_getElem hlt))
  obtain ⟨v', w', hr, hown', hg, hbl⟩ := run_app (ty := ty) he hby hown hy hone hroom
  -- no inner block is the outer one that is written
  have hi1 : ∀ (i : Nat) (u : Value), ins[i]? = some u → ∀ b, hdBlock u = some b → b < w.heap.size ∧ some b ≠ v.ownBlock := fun i u hi b hb => by
    have hlt : i < l.length := by rw [← hil]; exact (List.getElem?_eq_some_iff.1 hi).1
    refine ⟨(ownsRow_block (hin i u _ hi (List.getElem?_eq_getElem hlt)) b hb).2, fun hc => ?_⟩
    rw [ownsRow_np hown] at hc
    rcases hks with ⟨_, _, h3⟩ | ⟨o, ob, _, _, h4, h5, h6⟩
    · subst h3; simp at hi
    · rw [h5] at hc
      exact (nodup_blocks_ins (h.nd o ob h4).1).2 b hc.symm (List.mem_filterMap.2 ⟨u, List.mem_of_getElem? (by rw [← h6]; exact hi), hb⟩)
  have hi2 : ∀ (i : Nat) (u : Value), (mu o2).ins[i]? = some u → ∀ b, hdBlock u = some b → b < w.heap.size ∧ some b ≠ v.ownBlock := fun i u hi b hb => by
    have hlt : i < ys.length := by rw [← q2]; exact (List.getElem?_eq_some_iff.1 hi).1
    refine ⟨(ownsRow_block (q3 i u _ hi (List.getElem?_eq_getElem hlt)) b hb).2, fun hc => ?_⟩
    rw [ownsRow_np hown] at hc
    rcases hks with ⟨_, h3, _⟩ | ⟨o, ob, _, hne, h4, h5, h6⟩
    · subst h3; simp [hdBlock] at hc
    · rw [h5] at hc
      exact h.sep o o2 ob _ hne h4 ho2 b (mem_blocks_hd hc.symm) (mem_blocks_ins hi hb)
  refine ⟨v', w', hr, h.move hd habs (ks ++ [o2]) ?_ (m := ⟨v', ins ++ (mu o2).ins⟩) hg.os hg.tape hg.output hg.size ?_ ⟨by simpa using hown', by simp [hil, q2], ?_⟩ ?_ ?_ rfl (ownsRow_one hown')⟩
  · intro o' ho'
    rcases hks with ⟨rfl, _⟩ | ⟨o, ob, rfl, _, h4, _⟩
    · simp at ho'; subst ho'; exact ⟨_, ho2⟩
    · simp at ho'
      rcases ho' with rfl | rfl
      · exact ⟨_, h4⟩
      · exact ⟨_, ho2⟩
  · intro b hlt hk
    refine hg.block b hlt fun hc => ?_
    rw [ownsRow_np hown] at hc
    rcases hks with ⟨rfl, h3, _⟩ | ⟨o, ob', rfl, _, _, h5, _⟩
    · subst h3; simp [hdBlock] at hc
    · exact hk o (by simp) (mem_blocks_hd (by rw [← h5]; exact hc.symm))
  · intro i u r hi hri
    by_cases hlt : i < l.length
    · rw [List.getElem?_append_left (by omega)] at hi
      rw [List.getElem?_append_left hlt] at hri
      exact ownsRow_keep (hin i u r hi hri) fun b hb => hg.block b (hi1 i u hi b hb).1 (hi1 i u hi b hb).2
    · rw [List.getElem?_append_right (by omega)] at hi
      rw [List.getElem?_append_right (by omega)] at hri
      rw [hil] at hi
      exact ownsRow_keep (q3 _ u r hi hri) fun b hb => hg.block b (hi2 _ u hi b hb).1 (hi2 _ u hi b hb).2
  · -- nodup
    have n2 := nodup_blocks_ins (h.nd o2 _ ho2).1
    have hout : ∀ b, hdBlock v' = some b → b ∉ ins.filterMap hdBlock ∧ b ∉ (mu o2).ins.filterMap hdBlock := fun b hb => by
      constructor
      · intro hc
        obtain ⟨u, hu, hub⟩ := List.mem_filterMap.1 hc
        obtain ⟨i, hi⟩ := List.getElem?_of_mem hu
        have h8 := hi1 i u hi b hub
        rcases hbl b hb with h9 | h9
        · exact h8.2 (by rw [ownsRow_np hown]; exact h9.symm)
        · omega
      · intro hc
        obtain ⟨u, hu, hub⟩ := List.mem_filterMap.1 hc
        obtain ⟨i, hi⟩ := List.getElem?_of_mem hu
        have h8 := hi2 i u hi b hub
        rcases hbl b hb with h9 | h9
        · exact h8.2 (by rw [ownsRow_np hown]; exact h9.symm)
        · omega
    have hins : (ins.filterMap hdBlock).Nodup ∧ ∀ b ∈ ins.filterMap hdBlock, b ∉ (mu o2).ins.filterMap hdBlock := by
      rcases hks with ⟨_, _, h3⟩ | ⟨o, ob, _, hne, h4, h5, h6⟩
      · subst h3; simp
      · subst h6
        refine ⟨(nodup_blocks_ins (h.nd o ob h4).1).1, fun b hb hc => ?_⟩
        exact h.sep o o2 ob _ hne h4 ho2 b (by simp only [Img.blocks, List.mem_append]; exact .inr hb) (by simp only [Img.blocks, List.mem_append]; exact .inr hc)
    simp only [Img.blocks, List.filterMap_append]
    rw [List.nodup_append]
    refine ⟨by cases hdBlock v' <;> simp, ?_, ?_⟩
    · rw [List.nodup_append]
      exact ⟨hins.1, n2.1, fun x hx y hy hxy => hins.2 x hx (hxy ▸ hy)⟩
    · intro x hx y hy hxy
      subst hxy
      simp at hx
      rcases List.mem_append.1 hy with h8 | h8
      · exact (hout x hx).1 h8
      · exact (hout x hx).2 h8
  · intro b hb
    simp only [Img.blocks, List.filterMap_append, List.mem_append, Option.mem_toList] at hb
    rcases hb with hb | hb | hb
    · rcases hbl b hb with h2 | h2
      · rcases hks with ⟨rfl, h3, _⟩ | ⟨o, ob', rfl, _, _, h5, _⟩
        · subst h3; simp [hdBlock] at h2
        · exact .inl ⟨o, by simp, mem_blocks_hd (by rw [← h5]; exact h2)⟩
      · exact .inr h2
    · rcases hks with ⟨_, _, h3⟩ | ⟨o, ob', rfl, _, _, _, h6⟩
      · subst h3; simp at hb
      · exact .inl ⟨o, by simp, by simp only [Img.blocks, List.mem_append]; exact .inr (h6 ▸ hb)⟩
    · exact .inl ⟨o2, by simp, by simp only [Img.blocks, List.mem_append]; exact .inr hb⟩

theorem sopAppend_ok {d : Nat} {t ty : TypeId} {cx cy : SC} {vx vy : Value} {eff : Eff} (hr : (sopAppend C.P d t cx cy).run σ = some eff) (hob : eff.obl)
    (hx : RepC (σ.env C.wF mu) cx vx) (hy : RepC (σ.env C.wF mu) cy vy) (h : St C σ mu a w) {dst : Option Nat} (hd : ∀ d, dst = some d → d < C.N) :
    ∃ v w', (Builtin.append_ #[t, t] ty #[vx, vy]).run C.P w = .ok v w' ∧ StE C (σ.app dst eff) (a.put dst v) w' := by
  unfold sopAppend at hr
  split at hr
  · simp [Rd.run] at hr
  · rename_i e he
    split at hr
    · rename_i hby
      split at hr
      · rename_i k hu
        obtain ⟨ys, hr2, hc⟩ := rdNums_run hr hy h
        clear hr
        cases cx with
        | nil =>
          simp only [RepC] at hx
          subst hx
          obtain ⟨habs, hr3⟩ := run_abs hr2
          simp only [Rd.run, Option.some.injEq] at hr3
          subst hr3
          exact app_plain h hd habs he hby (cx := .nil) (ks := []) (n := 0) (World.ownsRow_nil _ _ _ _) hc (int_one k ys) (by simpa [Eff.obl] using hob) (.inl ⟨rfl, rfl⟩)
            (fun w' v' ho => ⟨rfl, by simpa using ho⟩) rfl
        | emp =>
          obtain ⟨bs, rfl⟩ := hx
          obtain ⟨habs, hr3⟩ := run_abs hr2
          simp only [Rd.run, Option.some.injEq] at hr3
          subst hr3
          obtain ⟨hne, hroom⟩ : ys.length ≠ 0 ∧ room ys.length := hob
          obtain ⟨v', w', q1, q2, q3, q4⟩ := run_app_emp (ty := ty) he hby (bs := bs) hc (int_one k ys) hne hroom
          refine ⟨v', w', q1, h.new hd habs (m := ⟨v', []⟩) q3 ⟨rfl, q2⟩ ?_ ?_ ?_⟩
          · simp only [Img.blocks, List.filterMap_nil, List.append_nil]
            cases hdBlock v' <;> simp
          · intro b hb
            exact q4 b (by simpa [Img.blocks] using hb)
          · refine ⟨ownsRow_one q2, ?_⟩
            simp only [if_true]
            exact trivial
        | own o =>
          obtain ⟨ob, ho, hr3⟩ := run_h hr2
          cases ob with
          | ints e' k' l =>
            simp only at hr3
            split at hr3
            · rename_i hek
              obtain ⟨rfl, rfl⟩ := hek
              obtain ⟨habs, hr4⟩ := run_abs hr3
              simp only [Rd.run, Option.some.injEq] at hr4
              subst hr4
              have hv : vx = (mu o).hd := on_live ho hx
              subst hv
              have := h.ob o _ ho
              exact app_plain h hd habs he hby (cx := .nil) (ks := [o]) this.2 hc (int_one k' ys) hob (.inr ⟨o, _, rfl, ho, rfl⟩)
                (fun w' v' ho => ⟨rfl, by simpa using ho⟩) rfl
            · simp [Rd.run] at hr3
          | _ => simp [Rd.run] at hr3
        | pre o n =>
          obtain ⟨ob, ho, hr3⟩ := run_h hr2
          cases ob with
          | ints e' k' l =>
            simp only at hr3
            split at hr3
            · rename_i hek
              obtain ⟨rfl, rfl⟩ := hek
              obtain ⟨habs, hr4⟩ := run_abs hr3
              simp only [Rd.run, Option.some.injEq] at hr4
              subst hr4
              obtain ⟨hn, hv⟩ := on_live ho hx
              have hn' : n ≤ l.length := hn
              have := h.ob o _ ho
              refine app_plain h hd habs he hby (cx := .nil) (ks := [o]) (ownsRow_pre this.2 hv hn') hc (int_one k' ys) hob (.inr ⟨o, _, rfl, ho, viewV_block hv⟩)
                (fun w' v' ho => ⟨rfl, ?_⟩) rfl
              rw [List.length_append, List.length_take, Nat.min_eq_left hn', List.map_append, List.map_take]
              exact ho
            · simp [Rd.run] at hr3
          | _ => simp [Rd.run] at hr3
        | _ => simp [Rd.run] at hr2
      · rename_i hu
        obtain ⟨ys, hr2, hc⟩ := rdBools_run hr hy h
        clear hr
        cases cx with
        | nil =>
          simp only [RepC] at hx
          subst hx
          obtain ⟨habs, hr3⟩ := run_abs hr2
          simp only [Rd.run, Option.some.injEq] at hr3
          subst hr3
          exact app_plain h hd habs he hby (cx := .nil) (ks := []) (n := 0) (World.ownsRow_nil _ _ _ _) hc (bool_one ys) (by simpa [Eff.obl] using hob) (.inl ⟨rfl, rfl⟩)
            (fun w' v' ho => ⟨rfl, by simpa using ho⟩) rfl
        | own o =>
          obtain ⟨ob, ho, hr3⟩ := run_h hr2
          cases ob with
          | bools e' l =>
            simp only at hr3
            split at hr3
            · rename_i hek
              subst hek
              obtain ⟨habs, hr4⟩ := run_abs hr3
              simp only [Rd.run, Option.some.injEq] at hr4
              subst hr4
              have hv : vx = (mu o).hd := on_live ho hx
              subst hv
              have := h.ob o _ ho
              exact app_plain h hd habs he hby (cx := .nil) (ks := [o]) this.2 hc (bool_one ys) hob (.inr ⟨o, _, rfl, ho, rfl⟩)
                (fun w' v' ho => ⟨rfl, by simpa using ho⟩) rfl
            · simp [Rd.run] at hr3
          | _ => simp [Rd.run] at hr3
        | _ => simp [Rd.run] at hr2
      · rename_i hu
        obtain ⟨ys, hr2, hc⟩ := rdStrs_run hr hy h
        clear hr
        cases cx with
        | own o =>
          obtain ⟨ob, ho, hr3⟩ := run_h hr2
          cases ob with
          | strs e' l =>
            simp only at hr3
            split at hr3
            · rename_i hek
              subst hek
              obtain ⟨habs, hr4⟩ := run_abs hr3
              simp only [Rd.run, Option.some.injEq] at hr4
              subst hr4
              have hv : vx = (mu o).hd := on_live ho hx
              subst hv
              have := h.ob o _ ho
              exact app_plain h hd habs he hby (cx := .nil) (ks := [o]) this.2 hc (str_one ys) hob (.inr ⟨o, _, rfl, ho, rfl⟩)
                (fun w' v' ho => ⟨rfl, by simpa using ho⟩) rfl
            · simp [Rd.run] at hr3
          | _ => simp [Rd.run] at hr3
        | _ => simp [Rd.run] at hr2
      · rename_i ei0 hu
        cases cy with
        | own o2 =>
          obtain ⟨ob2, ho2, hr2⟩ := run_h hr
          clear hr
          cases ob2 with
          | rows ver2 e2 ei2 k2 ys =>
            simp only at hr2
            split at hr2
            · rename_i hee
              subst hee
              have hv2 : vy = (mu o2).hd := on_live ho2 hy
              subst hv2
              cases cx with
              | nil =>
                simp only [RepC] at hx
                subst hx
                obtain ⟨habs, hr3⟩ := run_abs hr2
                simp only [Rd.run, Option.some.injEq] at hr3
                subst hr3
                exact app_rows h hd habs he hby ho2 (ks := []) (l := []) (ins := []) (World.ownsRow_nil _ _ _ _) rfl (by simp) (by simpa [Eff.obl] using hob) (.inl ⟨rfl, rfl, rfl⟩)
              | own o =>
                obtain ⟨ob, ho, hr3⟩ := run_h hr2
                cases ob with
                | rows ver1 e1 ei1 k1 l =>
                  simp only at hr3
                  split at hr3
                  · rename_i hek
                    obtain ⟨rfl, rfl, rfl, hne⟩ := hek
                    obtain ⟨habs, hr4⟩ := run_abs hr3
                    simp only [Rd.run, Option.some.injEq] at hr4
                    subst hr4
                    have hv : vx = (mu o).hd := on_live ho hx
                    subst hv
                    obtain ⟨q1, q2, q3⟩ := h.ob o _ ho
                    exact app_rows h hd habs he hby ho2 (ks := [o]) q1 q2 q3 hob (.inr ⟨o, _, rfl, hne, ho, rfl, rfl⟩)
                  · simp [Rd.run] at hr3
                | _ => simp [Rd.run] at hr3
              | _ => simp [Rd.run] at hr2
            · simp [Rd.run] at hr2
          | _ => simp [Rd.run] at hr2
        | _ => simp [Rd.run] at hr
      · simp [Rd.run] at hr
    · simp [Rd.run] at hr

end
end Go.Sx
