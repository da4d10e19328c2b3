/- A call that writes a box. -/
import Derived.Test.YtjkbnanffneogaaSxOr
namespace Go.Sx
open Go.RowKit

theorem blocks_ptr {m : Img} (h : ∀ u ∈ m.ins, hdBlock u = none) : m.blocks = (hdBlock m.hd).toList := by
  unfold Img.blocks
  rw [show m.ins.filterMap hdBlock = [] from List.filterMap_eq_nil_iff.2 h, List.append_nil]

theorem bxCells_len : ∀ {cs : List SC} {ds : List FC}, ds.length = cs.length → (bxCells cs ds).length = cs.length
  | [], [], _ => rfl
  | c :: cs, d :: ds, h => by simp [bxCells, bxCells_len (cs := cs) (ds := ds) (by simpa using h)]
  | [], _ :: _, h => by simp at h
  | _ :: _, [], h => by simp at h

theorem bxCells_get : ∀ {cs : List SC} {ds : List FC} {j : Nat} {c : SC}, (bxCells cs ds)[j]? = some c → ∃ x d, cs[j]? = some x ∧ ds[j]? = some d ∧ c = if isScal d then scOf d else x
  | [], _, j, c, h => by simp [bxCells] at h
  | _ :: _, [], j, c, h => by simp [bxCells] at h
  | x :: cs, d :: ds, 0, c, h => by simp [bxCells] at h; exact ⟨x, d, rfl, rfl, h.symm⟩
  | x :: cs, d :: ds, j + 1, c, h => by
    simp only [bxCells, List.getElem?_cons_succ] at h
    obtain ⟨y, e, h1, h2, h3⟩ := bxCells_get h
    exact ⟨y, e, by simpa using h1, by simpa using h2, h3⟩

theorem bxC_scal {m : Img} {j : Nat} {d : FC} {u : Value} (h : BxC m j d u) (hs : isScal d = true) (E : Env) : RepC E (scOf d) u := by
  cases d with
  | int k n => exact h
  | bool b => exact h
  | str l => exact h
  | _ => cases hs

theorem bxC_not {m : Img} {j : Nat} {d : FC} {u : Value} (h : BxC m j d u) (hs : isScal d = false) : m.ins[j]? = some (.agg #[u]) := by
  cases d with
  | int k n => cases hs
  | bool b => cases hs
  | str l => cases hs
  | _ => exact h

theorem bxC_of {w : World} {m : Img} {j : Nat} {d : FC} {u : Value} (h : Reads w u d) (hi : m.ins[j]? = some (.agg #[u])) : BxC m j d u := by
  cases d with
  | int k n => exact h
  | bool b => exact h
  | str l => exact h
  | _ => exact hi

theorem reads_slice {w : World} {d : FC} {u : Value} (h : Reads w u d) (hs : isScal d = false) : ∃ a n c, u = .slice a n c ∧ n ≤ c := by
  cases d with
  | int k n => cases hs
  | bool b => cases hs
  | str l => cases hs
  | _ => exact h.slice

section
variable {C : Cx} {σ : State} {mu : Nat → Img} {a : Act} {w : World}

theorem sopCallBox_ok {Γ : FuncId → Option Ctr} (hΓ : GOk C.P Γ) {d : Nat} {f : FuncId} {o : Nat} {svs : List SV} {ts : List TypeId} {eff : Eff} (hr : (sopCallBox C.P Γ d f o svs ts).run σ = some eff) (hob : eff.obl) (h : St C σ mu a w)
    {v0 : Value} (hv0 : RepC (σ.env C.wF mu) (.ptr o 0) v0)
    {vs : List Value} (hvl : vs.length = svs.length) (hvs : ∀ (i : Nat) (sv : SV), svs[i]? = some sv → ∃ v, vs[i]? = some v ∧ RepV C.P (σ.env C.wF mu) sv v) {dst : Option Nat} (hd : ∀ d, dst = some d → d < C.N) :
    (∃ fn, C.P.funcs[f]? = some fn ∧ fn.body.isSome = true ∧ (fn.name == "runtime.NumGoroutine") = false) ∧
    Calls C.P f (v0 :: vs).toArray w fun e w' => ∃ v, e = .returned v ∧ StE C (σ.app dst eff) (a.put dst v) w' := by
  unfold sopCallBox at hr
  split at hr
  · rename_i ct hct
    have hf := hΓ f _ hct
    refine ⟨hf.fn, ?_⟩
    obtain ⟨ob, ho, hr2⟩ := run_h hr
    clear hr
    split at hr2
    · rename_i xs
      have hw := hidW_of h [o] (fun x hx => by simp at hx; subst hx; exact ⟨_, ho⟩)
      have hmt : ∀ y j, mtAt [(0, 0)] (1 + y) j = none := fun y j => by
        simp only [mtAt]
        rw [if_neg (by omega)]
        rfl
      obtain ⟨fcs, hr3, hfl, hfc⟩ := rdFCs_run h hw (mt := []) (i := 0) xs 0 _ _ _ (fun x c _ y hy => by simp [mtAt] at hy) hr2
      obtain ⟨ads, hr4, hal, har⟩ := rdArgs_run hΓ h hw svs 1 _ _ _ (fun y sv _ x j hx => by rw [hmt y j] at hx; cases hx) hr3
      split at hr4
      · rename_i pre ret fcs' hpost
        split at hr4
        · simp [Rd.run] at hr4
        rename_i hnro
        split at hr4
        · rename_i q hq
          obtain ⟨hr5, habs⟩ := absAll_run hr4
          simp only [Rd.run, Option.some.injEq] at hr5
          subst hr5
          obtain ⟨g, arr, ty, h1, h2, h3, h4, h5⟩ := box_cell h ho
          have hv0' : v0 = (mu o).hd := by
            obtain ⟨_, b, hb, hv⟩ := on_live ho hv0
            have hb : hdBlock (mu o).hd = some b := hb
            rw [h1] at hb ⊢
            simp [hdBlock] at hb
            rw [hv, hb]
          let m : Img := ⟨(mu o).hd, arr.toList.map fun u => .agg #[u]⟩
          have hmi : ∀ u ∈ m.ins, hdBlock u = none := fun u hu => by
            obtain ⟨x, _, rfl⟩ := List.mem_map.1 hu
            rfl
          have hmb : m.blocks = (mu o).blocks := by rw [blocks_ptr hmi, blocks_ptr h2]
          have hins : ∀ (j : Nat) (u : Value), arr[j]? = some u → m.ins[j]? = some (.agg #[u]) := fun j u hu => by
            show (arr.toList.map fun u => Value.agg #[u])[j]? = _
            rw [List.getElem?_map]
            simp [hu]
          have hcell : ∀ (j : Nat) (dd : FC), fcs[j]? = some dd → ∃ u, arr[j]? = some u ∧ u.oneCell' = true ∧ Reads (hide w ([o].flatMap fun o => (mu o).blocks)) u dd := fun j dd hj => by
            obtain ⟨c, k1, k2⟩ := hfc j dd hj
            obtain ⟨u, k3, k4, k5⟩ := h5 j c k1
            exact ⟨u, k3, k4, cellRep_nil (k2 u k5)⟩
          have hl' := bxSame_len hq
          refine call_core hf h (hid := [o]) (by simp) rfl (ms := [m]) (obs := [.bx fcs]) rfl rfl hpost hob.1 hob.2 rfl (fun o' ho' => ?_) (fun x o' rc hx hrc => ?_) habs hw.kept (fun hc => by rw [hnro] at hc; cases hc) (by simp [hvl, hal]) (fun i ad hi => ?_) hd
          · rw [lk_cons, if_neg (fun hc => ho' (by simp [hc]))]; rfl
          · cases x with
            | succ x => simp at hx
            | zero =>
              simp at hx hrc
              subst hx; subst hrc
              refine ⟨m, .bx fcs, .bx fcs', .box xs, q, rfl, rfl, ⟨g, arr, ty, h1, hmi, h3, by rw [h4, hfl], fun j dd hj => ?_⟩, hmb, by simp [wrOb, hq], id, ho, rfl, .inr ⟨rfl, .box (bxCells xs fcs'), by simp [lk_cons], rfl, ⟨?_, Nat.le_refl _, fun _ => rfl⟩, fun E w' _ hEE hrep => ?_⟩⟩
              · obtain ⟨u, k1, k2, k3⟩ := hcell j dd hj
                exact ⟨u, k1, k2, bxC_of k3 (hins j u k1)⟩
              · show (bxCells xs fcs').length = xs.length
                exact bxCells_len (by rw [hl', hfl])
              · obtain ⟨b', arr', t', k1, k2, k3, k4, k5⟩ := hrep
                refine ⟨b', arr', t', k1, h2, k3, by rw [k4, bxCells_len (by rw [hl', hfl]), hl', hfl], fun j c hj => ?_⟩
                obtain ⟨x, dd, r1, r2, rfl⟩ := bxCells_get hj
                obtain ⟨u, r3, r4, r5⟩ := k5 j dd r2
                refine ⟨u, r3, r4, ?_⟩
                cases hs : isScal dd with
                | true => simp only [if_true]; exact bxC_scal r5 hs _
                | false =>
                  simp only [Bool.false_eq_true, if_false]
                  have r6 := bxC_not r5 hs
                  obtain ⟨u', r7, _, r8⟩ := h5 j x r1
                  rw [hins j u' r7] at r6
                  simp at r6
                  rw [← r6]; exact r8.mono hEE
          · cases i with
            | zero =>
              simp at hi; subst hi
              refine ⟨v0, rfl, m, rfl, rfl, hv0', fun j dd hj hs => ?_⟩
              obtain ⟨u, k1, _, k3⟩ := hcell j dd hj
              exact ⟨u, hins j u k1, reads_slice k3 hs, k3⟩
            | succ i =>
              obtain ⟨sv, k1, k2⟩ := har i ad (by simpa using hi)
              obtain ⟨v, k3, k4⟩ := hvs i sv k1
              have k5 := k2 v k4
              rw [Nat.add_comm] at k5
              exact ⟨v, by simpa using k3, argRep_ms (fun j' => by have := hmt i j'; rwa [Nat.add_comm] at this) k5⟩
        · simp [Rd.run] at hr4
      · simp [Rd.run] at hr4
    · simp [Rd.run] at hr2
  · simp [Rd.run] at hr

end
end Go.Sx
