/- A call that writes a row in place. -/
import Derived.Test.YtjkbnanffneogaaSxO
namespace Go.Sx
open Go.RowKit

section
variable {C : Cx} {σ : State} {mu : Nat → Img} {a : Act} {w w' : World}

theorem argRep_ms {P : Program} {wF : World} {mt : List (Nat × Nat)} {ms ms' : List Img} {obs obs' : List Ob} {i : Nat} (hm : ∀ j, mtAt mt i j = none) {d : AD} {v : Value} (h : ArgRep P wF mt ms obs i d v) : ArgRep P wF mt ms' obs' i d v := by
  have hcell : ∀ {j d u}, CellRep wF mt ms obs i j d u → CellRep wF mt ms' obs' i j d u := fun {j d u} h => by
    refine ⟨h.1, ?_⟩
    have h2 := h.2
    rw [hm j] at h2 ⊢
    exact h2
  cases d with
  | c d => exact hcell (j := 0) h
  | agg cs =>
    obtain ⟨arr, rfl, h1, h2⟩ := h
    exact ⟨arr, rfl, h1, fun j d hj => let ⟨u, h3, h4⟩ := h2 j d hj; ⟨u, h3, hcell h4⟩⟩
  | box cs =>
    simp only [ArgRep, hm 0] at h ⊢
    exact h
  | fv F => exact h
  | fvs F s =>
    simp only [ArgRep, hm 0] at h

theorem sopCallRow_ok {Γ : FuncId → Option Ctr} (hΓ : GOk C.P Γ) {f : FuncId} {o ver i : Nat} {svs : List SV} {ts : List TypeId} {eff : Eff} (hr : (sopCallRow C.P Γ f o ver i svs ts).run σ = some eff) (hob : eff.obl) (h : St C σ mu a w)
    {v0 : Value} (hv0 : RepC (σ.env C.wF mu) (.row o ver i) v0)
    {vs : List Value} (hvl : vs.length = svs.length) (hvs : ∀ (i : Nat) (sv : SV), svs[i]? = some sv → ∃ v, vs[i]? = some v ∧ RepV C.P (σ.env C.wF mu) sv v) {dst : Option Nat} (hd : ∀ d, dst = some d → d < C.N) :
    (∃ fn, C.P.funcs[f]? = some fn ∧ fn.body.isSome = true ∧ (fn.name == "runtime.NumGoroutine") = false) ∧
    Calls C.P f (v0 :: vs).toArray w fun e w' => ∃ v, e = .returned v ∧ StE C (σ.app dst eff) (a.put dst v) w' := by
  unfold sopCallRow at hr
  split at hr
  · rename_i ct hct
    have hf := hΓ f _ hct
    refine ⟨hf.fn, ?_⟩
    obtain ⟨ob, ho, hr2⟩ := run_h hr
    clear hr
    split at hr2
    · rename_i ver' e ei k l
      split at hr2
      · rename_i hver
        have hver := Nat.eq_of_beq_eq_true hver
        subst hver
        have hw := hidW_of h [o] (fun x hx => by simp at hx; subst hx; exact ⟨_, ho⟩)
        have hmt : ∀ y j, mtAt [(0, 0)] (1 + y) j = none := fun y j => by
          simp only [mtAt]
          rw [if_neg (by omega)]
          rfl
        obtain ⟨ads, hr3, hal, har⟩ := rdArgs_run hΓ h hw svs 1 ts _ _ (fun y sv _ x j hx => by rw [hmt y j] at hx; cases hx) hr2
        split at hr3
        · rename_i pre rc e' k' r hpost
          split at hr3
          · rename_i c hrc
            split at hr3
            · rename_i hek
              obtain ⟨rfl, rfl⟩ := hek
              simp only [Rd.run, Option.some.injEq] at hr3
              subst hr3
              obtain ⟨hpre, hlen⟩ : pre ∧ r.length = (l.getD i []).length := hob
              have hx := on_live ho hv0
              obtain ⟨hins, hi⟩ := hx.2 rfl
              have hi' : i < l.length := hi
              obtain ⟨q1, q2, q3⟩ := h.ob o _ ho
              have hgd : l.getD i [] = l[i] := by simp [List.getD, hi']
              have hrow := q3 i v0 _ hins (List.getElem?_eq_getElem hi')
              rw [← hgd] at hrow
              have hsub : ∀ b ∈ (⟨v0, []⟩ : Img).blocks, hdBlock v0 = some b := fun b hb => by
                simpa [Img.blocks] using hb
              have hin : ∀ b ∈ (⟨v0, []⟩ : Img).blocks, b ∈ (mu o).blocks := fun b hb => mem_blocks_ins hins (hsub b hb)
              have hnd0 : (⟨v0, []⟩ : Img).blocks.Nodup := by
                simp only [Img.blocks, List.filterMap_nil, List.append_nil]
                cases hdBlock v0 <;> simp
              have hone : v0.oneCell' = true := hv0.1
              refine (hf.run w (hide w ([o].flatMap fun o => (mu o).blocks)) (v0 :: vs) (.c (.ints k (l.getD i [])) :: ads) ⟨pre, .c rc, [.ints ei k r]⟩ [⟨v0, []⟩] [.ints ei k (l.getD i [])] hpost hpre (by simp [hvl, hal]) rfl rfl rfl ?_ ?_ ?_ ?_ ?_).mono ?_
              · intro x m ob hx hox
                cases x with
                | zero => simp at hx hox; subst hx; subst hox; exact ⟨⟨rfl, hrow⟩, hnd0⟩
                | succ x => simp at hx
              · intro x x' m m' hne hx hx'
                cases x with
                | zero =>
                  cases x' with
                  | zero => exact absurd rfl hne
                  | succ x' => simp at hx'
                | succ x => simp at hx
              · intro x ob rc' hx hrc'
                cases x with
                | zero =>
                  simp at hx hrc'; subst hx; subst hrc'
                  exact ⟨.ints ei k r, r.length = (l.getD i []).length, by simp only [wrOb, and_self, if_true]; rfl, hlen⟩
                | succ x => simp at hx
              · intro p u hp
                obtain ⟨h1, h2⟩ := hw.kept p u hp
                exact ⟨h1, fun m hm hb => by
                  simp at hm; subst hm
                  exact h2 o (by simp) (hin _ hb)⟩
              · intro j ad hj
                cases j with
                | zero =>
                  simp at hj; subst hj
                  exact ⟨v0, rfl, hone, _, _, rfl, rfl, rfl, rfl⟩
                | succ j =>
                  obtain ⟨sv, h1, h2⟩ := har j ad (by simpa using hj)
                  obtain ⟨v, h3, h4⟩ := hvs j sv h1
                  have h5 := h2 v h4
                  rw [Nat.add_comm] at h5
                  exact ⟨v, by simpa using h3, argRep_ms (fun j' => by have := hmt j j'; rwa [Nat.add_comm] at this) h5⟩
              · rintro e0 w' ⟨v, ms', img, wG, rfl, haft, hml, hms, _, hret⟩
                refine ⟨v, rfl, ?_⟩
                have hlt1 : 0 < ms'.length := by rw [hml]; simp
                obtain ⟨_, k1, k2, k3, ob3, q4, k4, k5⟩ := hms 0 _ _ _ _ rfl (List.getElem?_eq_getElem hlt1) rfl rfl rfl
                simp only [wrOb, and_self, if_true, Option.some.injEq, Prod.mk.injEq] at k4
                obtain ⟨rfl, rfl⟩ := k4
                have hrow' : w'.ownsRow 0 ei 1 v0 r.length (r.map (.int k)) := by
                  have := k5.2
                  rw [k1] at this
                  exact this
                have hval : ∀ E, RepV C.P E (.c c) v := fun E => by
                  have h1 := hret.val
                  cases rc <;> simp only [rcSC, reduceCtorEq, Option.some.injEq] at hrc <;> subst hrc
                  · exact h1
                  · exact h1
                have hkeep : ∀ b, b ∈ (mu o).blocks → hdBlock v0 ≠ some b → w'.heap[b]? = w.heap[b]? := fun b hb hne =>
                  haft.block b ((h.ob o _ ho).block b hb) fun m hm hbm => by
                    simp at hm; subst hm
                    exact hne (hsub b hbm)
                have hrl : (l.set i r).map List.length = l.map List.length := by
                  rw [List.map_set, hlen, hgd]
                  apply List.ext_getElem?
                  intro x
                  rw [List.getElem?_set]
                  split
                  · rename_i hx; subst hx; simp [hi']
                  · rfl
                refine h.setV hd ho [] (by simp) (m := mu o) hval haft.os haft.tape haft.output haft.size (fun b hb hn => haft.block b hb fun m hm hbm => ?_) (by simp [Ob.shp]) rfl (Nat.le_refl _) (fun _ => ⟨rfl, hrl⟩) ⟨?_, by simp [q2], fun x u s hxx hs => ?_⟩ (h.nd o _ ho).1 (fun b hb => .inl hb)
                · simp at hm; subst hm
                  exact hn (hin b hbm)
                · rw [List.length_set]
                  refine ownsRow_keep q1 fun b' hb' => hkeep b' (mem_blocks_hd hb') fun hc => ?_
                  exact (nodup_blocks_ins (h.nd o _ ho).1).2 _ hb' (List.mem_filterMap.2 ⟨v0, List.mem_of_getElem? hins, hc⟩)
                · rw [List.getElem?_set] at hs
                  by_cases hix : i = x
                  · subst hix
                    rw [if_pos rfl, if_pos hi'] at hs
                    cases hs
                    have hrv : u = v0 := Option.some.inj (hxx.symm.trans hins)
                    subst hrv
                    exact hrow'
                  · rw [if_neg hix] at hs
                    refine ownsRow_keep (q3 x u s hxx hs) fun b' hb' => hkeep b' (mem_blocks_ins hxx hb') fun hc => ?_
                    exact row_block_ne (h.nd o _ ho).1 hins hxx hix hc hb'
            · simp [Rd.run] at hr3
          · simp [Rd.run] at hr3
        · simp [Rd.run] at hr3
      · simp [Rd.run] at hr2
    · simp [Rd.run] at hr2
  · simp [Rd.run] at hr

theorem sopCallKid_ok {Γ : FuncId → Option Ctr} (hΓ : GOk C.P Γ) {f : FuncId} {o ver : Nat} {p : List Nat} {svs : List SV} {ts : List TypeId} {eff : Eff} (hr : (sopCallKid C.P Γ f o ver p svs ts).run σ = some eff) (hob : eff.obl) (h : St C σ mu a w)
    {v0 : Value} (hv0 : RepC (σ.env C.wF mu) (.kid o ver p) v0)
    {vs : List Value} (hvl : vs.length = svs.length) (hvs : ∀ (i : Nat) (sv : SV), svs[i]? = some sv → ∃ v, vs[i]? = some v ∧ RepV C.P (σ.env C.wF mu) sv v) {dst : Option Nat} (hd : ∀ d, dst = some d → d < C.N) :
    (∃ fn, C.P.funcs[f]? = some fn ∧ fn.body.isSome = true ∧ (fn.name == "runtime.NumGoroutine") = false) ∧
    Calls C.P f (v0 :: vs).toArray w fun e w' => ∃ v, e = .returned v ∧ StE C (σ.app dst eff) (a.put dst v) w' := by
  unfold sopCallKid at hr
  split at hr
  · rename_i ct hct
    have hf := hΓ f _ hct
    refine ⟨hf.fn, ?_⟩
    obtain ⟨ob, ho, hr2⟩ := run_h hr
    clear hr
    split at hr2
    · rename_i ver' es d
      split at hr2
      · rename_i hver
        have hver := Nat.eq_of_beq_eq_true hver
        subst hver
        split at hr2
        · rename_i x hx1
          have hw := hidW_of h [o] (fun x hx => by simp at hx; subst hx; exact ⟨_, ho⟩)
          have hmt : ∀ y j, mtAt [(0, 0)] (1 + y) j = none := fun y j => by
            simp only [mtAt]
            rw [if_neg (by omega)]
            rfl
          obtain ⟨ads, hr3, hal, har⟩ := rdArgs_run hΓ h hw svs 1 ts _ _ (fun y sv _ x j hx => by rw [hmt y j] at hx; cases hx) hr2
          split at hr3
          · rename_i pre rc es' x' hpost
            split at hr3
            · rename_i c hrc
              split at hr3
              · rename_i hes
                have hes0 := eqNs_ok hes
                subst hes0
                split at hr3
                · rename_i d' hp
                  simp only [Rd.run, Option.some.injEq] at hr3
                  subst hr3
                  obtain ⟨hpre, hlen⟩ : pre ∧ x'.len = x.len := hob
                  obtain ⟨_, hx⟩ := on_live ho hv0
                  obtain ⟨nd, u, q1, q2, rfl⟩ := hx rfl
                  obtain ⟨hm, hT, x0, k1, k2, k3⟩ := tr_at (h.ob o _ ho) q1 q2
                  rw [hx1] at k1
                  cases k1
                  have Bu := own_blocks k2
                  have Bm : (mu o).blocks = bks es.length nd := by rw [hm]; exact own_blocks hT
                  have hnd := (h.nd o _ ho).1
                  have hndu := sub_nodup hT (by rw [← Bm]; exact hnd) q2
                  have hwr : wrOb (.tr 0 (es.drop p.length) x) (.tr (es.drop p.length) x') = some (.tr 0 (es.drop p.length) x', x'.len = x.len) := by simp only [wrOb, hes]
                  refine (hf.run w (hide w ([o].flatMap fun o => (mu o).blocks)) (ndHd u :: vs) (.c x :: ads) ⟨pre, .c rc, [.tr (es.drop p.length) x']⟩ [imgT (es.drop p.length).length u] [.tr 0 (es.drop p.length) x] hpost hpre (by simp [hvl, hal]) rfl rfl rfl ?_ ?_ ?_ ?_ ?_).mono ?_
                  · intro y m ob hx hox
                    cases y with
                    | zero => simp at hx hox; subst hx; subst hox; exact ⟨⟨u, by rw [List.length_drop], k2⟩, by rw [← List.length_drop, Bu]; exact hndu⟩
                    | succ x => simp at hx
                  · intro y y' m m' hne hx hx'
                    cases y with
                    | zero =>
                      cases y' with
                      | zero => exact absurd rfl hne
                      | succ x' => simp at hx'
                    | succ x => simp at hx
                  · intro y ob rc' hx hrc'
                    cases y with
                    | zero =>
                      simp at hx hrc'; subst hx; subst hrc'
                      exact ⟨_, _, hwr, hlen⟩
                    | succ x => simp at hx
                  · intro q u' hp'
                    obtain ⟨h1, h2⟩ := hw.kept q u' hp'
                    exact ⟨h1, fun m hm' hb => by
                      simp only [List.mem_singleton] at hm'; subst hm'
                      rw [Bu] at hb
                      exact h2 o (by simp) (k3 _ hb)⟩
                  · intro j ad hj
                    cases j with
                    | zero =>
                      simp at hj; subst hj
                      exact ⟨ndHd u, rfl, k2.one, _, _, rfl, rfl, rfl, rfl⟩
                    | succ j =>
                      obtain ⟨sv, h1, h2⟩ := har j ad (by simpa using hj)
                      obtain ⟨v, h3, h4⟩ := hvs j sv h1
                      have h5 := h2 v h4
                      rw [Nat.add_comm] at h5
                      exact ⟨v, by simpa using h3, argRep_ms (fun j' => by have := hmt j j'; rwa [Nat.add_comm] at this) h5⟩
                  · rintro e0 w' ⟨v, ms', img, wG, rfl, haft, hml, hms, _, hret⟩
                    refine ⟨v, rfl, ?_⟩
                    have hlt1 : 0 < ms'.length := by rw [hml]; simp
                    obtain ⟨z1, z2, z3, z4, ob3, q4, z5, z6⟩ := hms 0 _ _ _ _ rfl (List.getElem?_eq_getElem hlt1) rfl rfl rfl
                    rw [hwr] at z5
                    simp only [Option.some.injEq, Prod.mk.injEq] at z5
                    obtain ⟨rfl, rfl⟩ := z5
                    rw [z1] at z6
                    obtain ⟨nd2, z7, z8⟩ := z6
                    have hnd2 : u = nd2 := by
                      have := congrArg (fun m : Img => m.ins.head?) z7
                      simpa [imgT] using this
                    subst hnd2
                    have hval : ∀ E, RepV C.P E (.c c) v := fun E => by
                      have h1 := hret.val
                      cases rc <;> simp only [rcSC, reduceCtorEq, Option.some.injEq] at hrc <;> subst hrc
                      · exact h1
                      · exact h1
                    have hin : ∀ b, (∀ m ∈ [imgT (es.drop p.length).length u], b ∉ m.blocks) ↔ b ∉ bks (es.drop p.length).length u := fun b => by
                      simp only [List.mem_singleton, forall_eq, Bu]
                    obtain ⟨r1, _, _, _⟩ := own_set (w' := w') (u' := u) hT (by rw [← Bm]; exact hnd) q2 hp rfl (fun b hb hbn => haft.block b (hT.block b hb) ((hin b).2 hbn)) z8 hndu (fun b hb => .inl hb)
                    rw [ndSet_self hT q2] at r1
                    exact h.setV hd ho [] (by simp) (m := mu o) hval haft.os haft.tape haft.output haft.size (fun b hb hn => haft.block b hb ((hin b).2 fun hc => hn (k3 b hc))) (putP_len hx1 hp hlen) rfl (Nat.le_refl _) (fun _ => ⟨rfl, rfl⟩) ⟨nd, hm, r1⟩ hnd (fun b hb => .inl hb)
                · simp [Rd.run] at hr3
              · simp [Rd.run] at hr3
            · simp [Rd.run] at hr3
          · simp [Rd.run] at hr3
        · simp [Rd.run] at hr2
      · simp [Rd.run] at hr2
    · simp [Rd.run] at hr2
  · simp [Rd.run] at hr

theorem sopCallRow1_ok {Γ : FuncId → Option Ctr} (hΓ : GOk C.P Γ) {f : FuncId} {k0 : IntKind} {n0 : Int} {o ver i : Nat} {svs : List SV} {ts : List TypeId} {eff : Eff} (hr : (sopCallRow1 C.P Γ f k0 n0 o ver i svs ts).run σ = some eff) (hob : eff.obl) (h : St C σ mu a w)
    {v0 : Value} (hv0 : RepC (σ.env C.wF mu) (.row o ver i) v0)
    {vs : List Value} (hvl : vs.length = svs.length) (hvs : ∀ (i : Nat) (sv : SV), svs[i]? = some sv → ∃ v, vs[i]? = some v ∧ RepV C.P (σ.env C.wF mu) sv v) {dst : Option Nat} (hd : ∀ d, dst = some d → d < C.N) :
    (∃ fn, C.P.funcs[f]? = some fn ∧ fn.body.isSome = true ∧ (fn.name == "runtime.NumGoroutine") = false) ∧
    Calls C.P f (.int k0 n0 :: v0 :: vs).toArray w fun e w' => ∃ v, e = .returned v ∧ StE C (σ.app dst eff) (a.put dst v) w' := by
  unfold sopCallRow1 at hr
  split at hr
  · rename_i ct hct
    have hf := hΓ f _ hct
    refine ⟨hf.fn, ?_⟩
    obtain ⟨ob, ho, hr2⟩ := run_h hr
    clear hr
    split at hr2
    · rename_i ver' e ei k l
      split at hr2
      · rename_i hver
        have hver := Nat.eq_of_beq_eq_true hver
        subst hver
        have hw := hidW_of h [o] (fun x hx => by simp at hx; subst hx; exact ⟨_, ho⟩)
        have hmt : ∀ y j, mtAt [(1, 0)] (2 + y) j = none := fun y j => by
          simp only [mtAt]
          rw [if_neg (by omega)]
          rfl
        obtain ⟨ads, hr3, hal, har⟩ := rdArgs_run hΓ h hw svs 2 ts _ _ (fun y sv _ x j hx => by rw [hmt y j] at hx; cases hx) hr2
        split at hr3
        · rename_i pre rv e' k' r hpost
          split at hr3
          · split at hr3
            · rename_i hek
              obtain ⟨rfl, rfl⟩ := hek
              simp only [Rd.run, Option.some.injEq] at hr3
              subst hr3
              obtain ⟨hpre, hlen⟩ : pre ∧ r.length = (l.getD i []).length := hob
              have hx := on_live ho hv0
              obtain ⟨hins, hi⟩ := hx.2 rfl
              have hi' : i < l.length := hi
              obtain ⟨q1, q2, q3⟩ := h.ob o _ ho
              have hgd : l.getD i [] = l[i] := by simp [List.getD, hi']
              have hrow := q3 i v0 _ hins (List.getElem?_eq_getElem hi')
              rw [← hgd] at hrow
              have hsub : ∀ b ∈ (⟨v0, []⟩ : Img).blocks, hdBlock v0 = some b := fun b hb => by
                simpa [Img.blocks] using hb
              have hin : ∀ b ∈ (⟨v0, []⟩ : Img).blocks, b ∈ (mu o).blocks := fun b hb => mem_blocks_ins hins (hsub b hb)
              have hnd0 : (⟨v0, []⟩ : Img).blocks.Nodup := by
                simp only [Img.blocks, List.filterMap_nil, List.append_nil]
                cases hdBlock v0 <;> simp
              have hone : v0.oneCell' = true := hv0.1
              refine (hf.run w (hide w ([o].flatMap fun o => (mu o).blocks)) (.int k0 n0 :: v0 :: vs) (.c (.int k0 n0) :: .c (.ints k (l.getD i [])) :: ads) ⟨pre, .tup [], [.ints ei k r]⟩ [⟨v0, []⟩] [.ints ei k (l.getD i [])] hpost hpre (by simp [hvl, hal]) rfl rfl rfl ?_ ?_ ?_ ?_ ?_).mono ?_
              · intro x m ob hx hox
                cases x with
                | zero => simp at hx hox; subst hx; subst hox; exact ⟨⟨rfl, hrow⟩, hnd0⟩
                | succ x => simp at hx
              · intro x x' m m' hne hx hx'
                cases x with
                | zero =>
                  cases x' with
                  | zero => exact absurd rfl hne
                  | succ x' => simp at hx'
                | succ x => simp at hx
              · intro x ob rc' hx hrc'
                cases x with
                | zero =>
                  simp at hx hrc'; subst hx; subst hrc'
                  exact ⟨.ints ei k r, r.length = (l.getD i []).length, by simp only [wrOb, and_self, if_true]; rfl, hlen⟩
                | succ x => simp at hx
              · intro p u hp
                obtain ⟨h1, h2⟩ := hw.kept p u hp
                exact ⟨h1, fun m hm hb => by
                  simp at hm; subst hm
                  exact h2 o (by simp) (hin _ hb)⟩
              · intro j ad hj
                match j, hj with
                | 0, hj =>
                  simp at hj; subst hj
                  exact ⟨.int k0 n0, rfl, rfl, rfl⟩
                | 1, hj =>
                  simp at hj; subst hj
                  exact ⟨v0, rfl, hone, _, _, rfl, rfl, rfl, rfl⟩
                | j + 2, hj =>
                  obtain ⟨sv, h1, h2⟩ := har j ad (by simpa using hj)
                  obtain ⟨v, h3, h4⟩ := hvs j sv h1
                  have h5 := h2 v h4
                  rw [Nat.add_comm] at h5
                  exact ⟨v, by simpa using h3, argRep_ms (fun j' => by have := hmt j j'; rwa [Nat.add_comm] at this) h5⟩
              · rintro e0 w' ⟨v, ms', img, wG, rfl, haft, hml, hms, _, hret⟩
                refine ⟨v, rfl, ?_⟩
                have hlt1 : 0 < ms'.length := by rw [hml]; simp
                obtain ⟨_, k1, k2, k3, ob3, q4, k4, k5⟩ := hms 0 _ _ _ _ rfl (List.getElem?_eq_getElem hlt1) rfl rfl rfl
                simp only [wrOb, and_self, if_true, Option.some.injEq, Prod.mk.injEq] at k4
                obtain ⟨rfl, rfl⟩ := k4
                have hrow' : w'.ownsRow 0 ei 1 v0 r.length (r.map (.int k)) := by
                  have := k5.2
                  rw [k1] at this
                  exact this
                have hval : ∀ E, RepV C.P E (.tup []) v := fun E => by
                  obtain ⟨arr, h1, h2, _⟩ := hret.val
                  exact ⟨arr, h1, h2, fun i c hi => by simp at hi⟩
                have hkeep : ∀ b, b ∈ (mu o).blocks → hdBlock v0 ≠ some b → w'.heap[b]? = w.heap[b]? := fun b hb hne =>
                  haft.block b ((h.ob o _ ho).block b hb) fun m hm hbm => by
                    simp at hm; subst hm
                    exact hne (hsub b hbm)
                have hrl : (l.set i r).map List.length = l.map List.length := by
                  rw [List.map_set, hlen, hgd]
                  apply List.ext_getElem?
                  intro x
                  rw [List.getElem?_set]
                  split
                  · rename_i hx; subst hx; simp [hi']
                  · rfl
                refine h.setV hd ho [] (by simp) (m := mu o) hval haft.os haft.tape haft.output haft.size (fun b hb hn => haft.block b hb fun m hm hbm => ?_) (by simp [Ob.shp]) rfl (Nat.le_refl _) (fun _ => ⟨rfl, hrl⟩) ⟨?_, by simp [q2], fun x u s hxx hs => ?_⟩ (h.nd o _ ho).1 (fun b hb => .inl hb)
                · simp at hm; subst hm
                  exact hn (hin b hbm)
                · rw [List.length_set]
                  refine ownsRow_keep q1 fun b' hb' => hkeep b' (mem_blocks_hd hb') fun hc => ?_
                  exact (nodup_blocks_ins (h.nd o _ ho).1).2 _ hb' (List.mem_filterMap.2 ⟨v0, List.mem_of_getElem? hins, hc⟩)
                · rw [List.getElem?_set] at hs
                  by_cases hix : i = x
                  · subst hix
                    rw [if_pos rfl, if_pos hi'] at hs
                    cases hs
                    have hrv : u = v0 := Option.some.inj (hxx.symm.trans hins)
                    subst hrv
                    exact hrow'
                  · rw [if_neg hix] at hs
                    refine ownsRow_keep (q3 x u s hxx hs) fun b' hb' => hkeep b' (mem_blocks_ins hxx hb') fun hc => ?_
                    exact row_block_ne (h.nd o _ ho).1 hins hxx hix hc hb'
            · simp [Rd.run] at hr3
          · simp [Rd.run] at hr3
        · simp [Rd.run] at hr3
      · simp [Rd.run] at hr2
    · simp [Rd.run] at hr2
  · simp [Rd.run] at hr

/-- A call that puts the rows of an own object into another order. -/
theorem sopSort_ok {Γ : FuncId → Option Ctr} (hΓ : GOk C.P Γ) {f : FuncId} {svs : List SV} {eff : Eff} (hm : isSo (Γ f) = true) (hr : (sopSort (Γ f) svs).run σ = some eff) (hob : eff.obl) (h : St C σ mu a w)
    {vs : List Value} (hvl : vs.length = svs.length) (hvs : ∀ (i : Nat) (sv : SV), svs[i]? = some sv → ∃ v, vs[i]? = some v ∧ RepV C.P (σ.env C.wF mu) sv v) {dst : Option Nat} (hd : ∀ d, dst = some d → d < C.N) :
    (∃ fn, C.P.funcs[f]? = some fn ∧ fn.body.isSome = true ∧ (fn.name == "runtime.NumGoroutine") = false) ∧
    Calls C.P f vs.toArray w fun e w' => ∃ v, e = .returned v ∧ StE C (σ.app dst eff) (a.put dst v) w' := by
  unfold isSo at hm
  split at hm
  · rename_i ct hct
    have hf := hΓ f _ hct
    refine ⟨hf.fn, ?_⟩
    unfold sopSort at hr
    rw [hct] at hr
    simp only at hr
    split at hr
    · rename_i o g
      obtain ⟨ob, ho, hr2⟩ := run_h hr
      clear hr
      split at hr2
      · rename_i ver e ei l
        split at hr2
        · rename_i pre g' x l' ws hpost
          split at hr2
          · rename_i hg
            have hg := Nat.eq_of_beq_eq_true hg
            subst hg
            simp only [Rd.run, Option.some.injEq] at hr2
            subst hr2
            obtain ⟨hpre, hlen⟩ : pre ∧ l'.length = l.length := hob
            obtain ⟨v0, e0, r0⟩ := hvs 0 _ rfl
            obtain ⟨v1, e1, r1⟩ := hvs 1 _ rfl
            have hv0 : v0 = (mu o).hd := on_live ho r0
            obtain ⟨arr, hv1, harr⟩ := r1
            have harr0 : arr = #[] := Array.eq_empty_of_size_eq_zero harr.1
            subst harr0
            have hvs' : vs = [v0, v1] := by
              match vs, hvl, e0, e1 with
              | [a, b], _, e0, e1 => simp at e0 e1; subst e0; subst e1; rfl
            subst hvs'
            subst hv1
            obtain ⟨q1, q2, q3⟩ := h.ob o _ ho
            have hnd := (h.nd o _ ho).1
            refine Calls.mono (hf.so rfl l pre g' x l' ws hpost hpre w e ei v0 (mu o).ins (by rw [hv0]; exact q1) q2 (fun i u r hi hr => q3 i u r hi hr) (by rw [hv0]; exact hnd)) ?_
            rintro r w' ⟨rfl, ins', k1, k2, k3, k4, k5, k6, k7, k8, k9⟩
            refine ⟨_, rfl, ?_⟩
            have hperm : (⟨(mu o).hd, ins'⟩ : Img).blocks.Perm (mu o).blocks := by
              unfold Img.blocks
              exact List.Perm.append_left _ (k4.filterMap _)
            refine h.setV hd ho [] (by simp) (m := ⟨(mu o).hd, ins'⟩) (fun E => ⟨#[], rfl, rfl, fun i c hi => by simp at hi⟩) k5 k6 k7 k8 (fun b hb hn => k9 b hb fun hc => hn (mem_blocks_hd (by rw [← hv0]; exact hc))) hlen rfl (Nat.le_succ _) (fun hv => by have : ver + 1 = ver := hv; omega)
              ⟨by rw [← hv0]; exact k1, k2, fun i u r hi hr => ?_⟩ (hperm.nodup_iff.2 hnd) (fun b hb => .inl (hperm.mem_iff.1 hb))
            have hmem : u ∈ (mu o).ins := k4.mem_iff.1 (List.mem_of_getElem? hi)
            obtain ⟨y, hy⟩ := List.getElem?_of_mem hmem
            refine ownsRow_keep (k3 i u r hi hr) fun b hb => k9 b ((h.ob o _ ho).block b (mem_blocks_ins hy hb)) fun hc => ?_
            rw [hv0] at hc
            exact (nodup_blocks_ins hnd).2 _ hc (List.mem_filterMap.2 ⟨u, hmem, hb⟩)
          · simp [Rd.run] at hr2
        · simp [Rd.run] at hr2
      · simp [Rd.run] at hr2
    · simp [Rd.run] at hr
  · cases hm

/-- A call that strikes rows out of a part of an own object. -/
theorem sopDelF_ok {Γ : FuncId → Option Ctr} (hΓ : GOk C.P Γ) {f : FuncId} {svs : List SV} {eff : Eff} (hm : isDf (Γ f) = true) (hr : (sopDelF (Γ f) svs).run σ = some eff) (hob : eff.obl) (h : St C σ mu a w)
    {vs : List Value} (hvl : vs.length = svs.length) (hvs : ∀ (i : Nat) (sv : SV), svs[i]? = some sv → ∃ v, vs[i]? = some v ∧ RepV C.P (σ.env C.wF mu) sv v) {dst : Option Nat} (hd : ∀ d, dst = some d → d < C.N) :
    (∃ fn, C.P.funcs[f]? = some fn ∧ fn.body.isSome = true ∧ (fn.name == "runtime.NumGoroutine") = false) ∧
    Calls C.P f vs.toArray w fun e w' => ∃ v, e = .returned v ∧ StE C (σ.app dst eff) (a.put dst v) w' := by
  unfold isDf at hm
  split at hm
  · rename_i ct hct
    have hf := hΓ f _ hct
    refine ⟨hf.fn, ?_⟩
    unfold sopDelF at hr
    rw [hct] at hr
    simp only at hr
    split at hr
    · rename_i o off n g
      obtain ⟨ob, ho, hr2⟩ := run_h hr
      clear hr
      split at hr2
      · rename_i ver e ei l
        split at hr2
        · rename_i pre g' x k ws hpost
          split at hr2
          · rename_i hg
            have hg := Nat.eq_of_beq_eq_true hg
            subst hg
            simp only [Rd.run, Option.some.injEq] at hr2
            subst hr2
            have hpre : pre := hob
            obtain ⟨v0, e0, r0⟩ := hvs 0 _ rfl
            obtain ⟨v1, e1, r1⟩ := hvs 1 _ rfl
            obtain ⟨hle, hview⟩ := on_live ho r0
            have hle : off + n ≤ l.length := hle
            obtain ⟨arr, hv1, harr⟩ := r1
            have harr0 : arr = #[] := Array.eq_empty_of_size_eq_zero harr.1
            subst harr0
            have hvs' : vs = [v0, v1] := by
              match vs, hvl, e0, e1 with
              | [a, b], _, e0, e1 => simp at e0 e1; subst e0; subst e1; rfl
            subst hvs'
            subst hv1
            obtain ⟨q1, q2, q3⟩ := h.ob o _ ho
            have hnd := (h.nd o _ ho).1
            obtain ⟨kn, cut⟩ := hf.df rfl l off n pre g' x k ws hpost hpre
            refine Calls.mono (cut w e ei (mu o).hd v0 (mu o).ins q1 q2 (fun i u r hi hr => q3 i u r hi hr) hnd hle hview) ?_
            rintro r w' ⟨v2, rfl, one, view, ins', k1, k2, k3, k4, k5, k6, k7, k8, k9, k10⟩
            refine ⟨v2, rfl, ?_⟩
            have ll : (l.take (off + k.length) ++ List.replicate (n - k.length) [] ++ l.drop (off + n)).length = l.length := by
              simp only [List.length_append, List.length_take, List.length_replicate, List.length_drop]; omega
            refine h.setVE hd ho [] (by simp) (m := ⟨(mu o).hd, ins'⟩) (fun E hE hmu => ⟨one, ?_⟩) k6 k7 k8 k9 (fun b hb hn => k10 b hb fun hc => hn (mem_blocks_hd hc)) ll rfl (Nat.le_succ _) (fun hv => by have : ver + 1 = ver := hv; omega)
              ⟨by rw [ll]; exact k1, by rw [ll]; exact k2, fun i u r hi hr => ?_⟩ k4 (fun b hb => .inl (k5 b hb))
            · rw [hE]
              show off + k.length ≤ _ ∧ ViewV (E.mu o).hd off k.length v2
              rw [hmu]
              exact ⟨by show off + k.length ≤ (l.take (off + k.length) ++ List.replicate (n - k.length) [] ++ l.drop (off + n)).length; omega, view⟩
            · have hin : ∀ b, hdBlock u = some b → b ∈ (⟨(mu o).hd, ins'⟩ : Img).blocks := fun b hb => mem_blocks_ins hi hb
              refine ownsRow_keep (k3 i u r hi hr) fun b hb => k10 b ((h.ob o _ ho).block b (k5 b (hin b hb))) fun hc => ?_
              exact (nodup_blocks_ins k4).2 _ hc (List.mem_filterMap.2 ⟨u, List.mem_of_getElem? hi, hb⟩)
          · simp [Rd.run] at hr2
        · simp [Rd.run] at hr2
      · simp [Rd.run] at hr2
    · simp [Rd.run] at hr
  · cases hm

/-- A call that cuts a part out of an own slice. -/
theorem sopDel_ok {Γ : FuncId → Option Ctr} (hΓ : GOk C.P Γ) {d : Nat} {f : FuncId} {svs : List SV} {eff : Eff} (hm : isMv (Γ f) = true) (hr : (sopDel d svs).run σ = some eff) (hob : eff.obl) (h : St C σ mu a w)
    {vs : List Value} (hvl : vs.length = svs.length) (hvs : ∀ (i : Nat) (sv : SV), svs[i]? = some sv → ∃ v, vs[i]? = some v ∧ RepV C.P (σ.env C.wF mu) sv v) {dst : Option Nat} (hd : ∀ d, dst = some d → d < C.N) :
    (∃ fn, C.P.funcs[f]? = some fn ∧ fn.body.isSome = true ∧ (fn.name == "runtime.NumGoroutine") = false) ∧
    Calls C.P f vs.toArray w fun e w' => ∃ v, e = .returned v ∧ StE C (σ.app dst eff) (a.put dst v) w' := by
  unfold isMv at hm
  split at hm
  · rename_i ct hct
    have hf := hΓ f _ hct
    refine ⟨hf.fn, ?_⟩
    have hdel := hf.mv rfl
    unfold sopDel at hr
    split at hr
    · rename_i o i j
      obtain ⟨ob, ho, hr2⟩ := run_h hr
      clear hr
      split at hr2
      · rename_i e l
        obtain ⟨habs, hr3⟩ := run_abs hr2
        simp only [Rd.run, Option.some.injEq] at hr3
        subst hr3
        obtain ⟨h0, hij, hjl⟩ : 0 ≤ i ∧ i < j ∧ j ≤ (l.length : Int) := hob
        obtain ⟨v0, e0, r0⟩ := hvs 0 _ rfl
        obtain ⟨v1, e1, r1⟩ := hvs 1 _ rfl
        obtain ⟨v2, e2, r2⟩ := hvs 2 _ rfl
        have hv0 : v0 = (mu o).hd := on_live ho r0
        have hv1 : v1 = .int .i64 i := r1
        have hv2 : v2 = .int .i64 j := r2
        have hvs' : vs = [v0, v1, v2] := by
          match vs, hvl, e0, e1, e2 with
          | [a, b, c], _, e0, e1, e2 => simp at e0 e1 e2; subst e0; subst e1; subst e2; rfl
        subst hvs'
        obtain ⟨q1, q2⟩ := h.ob o _ ho
        have := hdel w e v0 l i.toNat j.toNat (by rw [hv0]; exact q2) (by omega) (by omega)
        rw [show ((i.toNat : Nat) : Int) = i by omega, show ((j.toNat : Nat) : Int) = j by omega] at this
        subst hv1; subst hv2
        refine Calls.mono this ?_
        rintro r w' ⟨v', rfl, k1, k2, k3, k4, k5, k6, k7⟩
        refine ⟨v', rfl, ?_⟩
        refine h.move hd habs [o] (fun o' ho' => by simp at ho'; subst ho'; exact ⟨_, ho⟩) (m := ⟨v', []⟩) k3 k4 k5 (by omega) ?_ ⟨rfl, k1⟩ ?_ ?_ rfl (ownsRow_one k1)
        · intro b _ hk
          refine k7 b fun hc => hk o (by simp) (mem_blocks_hd (by rw [← hv0]; exact hc))
        · simp only [Img.blocks, List.filterMap_nil, List.append_nil]
          cases hdBlock v' <;> simp
        · intro b hb
          simp only [Img.blocks, List.filterMap_nil, List.append_nil, Option.mem_toList] at hb
          rw [k2] at hb
          exact .inl ⟨o, by simp, mem_blocks_hd (by rw [← hv0]; exact hb)⟩
      · simp [Rd.run] at hr2
    · simp [Rd.run] at hr
  · cases hm

/-- A call that makes room. -/
theorem sopGrow_ok {Γ : FuncId → Option Ctr} (hΓ : GOk C.P Γ) {d : Nat} {f : FuncId} {e : TypeId} {svs : List SV} {eff : Eff} (hm : grE (Γ f) = some e) (hr : (sopGrow d e svs).run σ = some eff) (hob : eff.obl) (h : St C σ mu a w)
    {vs : List Value} (hvl : vs.length = svs.length) (hvs : ∀ (i : Nat) (sv : SV), svs[i]? = some sv → ∃ v, vs[i]? = some v ∧ RepV C.P (σ.env C.wF mu) sv v) {dst : Option Nat} (hd : ∀ d, dst = some d → d < C.N) :
    (∃ fn, C.P.funcs[f]? = some fn ∧ fn.body.isSome = true ∧ (fn.name == "runtime.NumGoroutine") = false) ∧
    Calls C.P f vs.toArray w fun r w' => ∃ v, r = .returned v ∧ StE C (σ.app dst eff) (a.put dst v) w' := by
  unfold grE at hm
  split at hm
  · rename_i ct hct
    split at hm
    · rename_i q e' ws hct2
      cases hm
      have hf := hΓ f _ hct
      refine ⟨hf.fn, ?_⟩
      have hgr := hf.gr rfl q e ws hct2
      unfold sopGrow at hr
      split at hr
      · rename_i n
        obtain ⟨habs, hr3⟩ := run_abs hr
        simp only [Rd.run, Option.some.injEq] at hr3
        subst hr3
        obtain ⟨h0, hn⟩ : 0 ≤ n ∧ n ≤ 1099511627776 := hob
        obtain ⟨v0, e0, r0⟩ := hvs 0 _ rfl
        obtain ⟨v1, e1, r1⟩ := hvs 1 _ rfl
        have hv0 : v0 = .slice none 0 0 := r0
        have hv1 : v1 = .int .i64 n := r1
        have hvs' : vs = [v0, v1] := by
          match vs, hvl, e0, e1 with
          | [a, b], _, e0, e1 => simp at e0 e1; subst e0; subst e1; rfl
        subst hvs'
        have := hgr w n.toNat (by omega)
        rw [show ((n.toNat : Nat) : Int) = n by omega] at this
        subst hv0; subst hv1
        refine Calls.mono this ?_
        rintro r w' ⟨v', rfl, k1, k2, k3, k4, k5, k6, k7⟩
        refine ⟨v', rfl, ?_⟩
        refine h.move hd habs [] (fun o' ho' => by simp at ho') (m := ⟨v', []⟩) k3 k4 k5 k6 (fun b hb _ => k7 b hb) ⟨rfl, k1⟩ ?_ ?_ rfl (ownsRow_one k1)
        · simp only [Img.blocks, List.filterMap_nil, List.append_nil]
          cases hdBlock v' <;> simp
        · intro b hb
          simp only [Img.blocks, List.filterMap_nil, List.append_nil, Option.mem_toList] at hb
          exact .inr (k2 b hb)
      · simp [Rd.run] at hr
    · cases hm
  · cases hm

end
end Go.Sx
