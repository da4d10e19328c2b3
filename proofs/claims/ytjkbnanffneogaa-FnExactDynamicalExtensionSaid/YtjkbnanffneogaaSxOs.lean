/- Function values with a number of their own. -/
import Derived.Test.YtjkbnanffneogaaSxOb
namespace Go.Sx
open Go.RowKit

theorem splitAt_ok : ∀ {n : Nat} {l a b : List SC} {o : Nat}, splitAt n l = some (a, o, b) → l = a ++ .ptr o 0 :: b ∧ a.length = n
  | 0, [], a, b, o, h => by simp [splitAt] at h
  | 0, c :: l, a, b, o, h => by
    unfold splitAt at h
    split at h
    · rename_i h1 h2; cases h; cases h2; exact ⟨rfl, rfl⟩
    · rename_i h1 _; cases h1
    · cases h
  | n + 1, [], a, b, o, h => by simp [splitAt] at h
  | n + 1, c :: l, a, b, o, h => by
    unfold splitAt at h
    split at h
    · rename_i h3
      cases h
      obtain ⟨k1, k2⟩ := splitAt_ok h3
      exact ⟨by rw [k1]; rfl, by simp [k2]⟩
    · cases h

theorem stQ_ok {o : Option Post} (h : stQ o) : ∃ p n s, o = some ⟨p, .c (.int .i64 n), [.bx [.int .i64 s]]⟩ ∧ p ∧ stP o = n ∧ stN o = s := by
  unfold stQ at h
  split at h
  · exact ⟨_, _, _, rfl, h, rfl, rfl⟩
  · exact h.elim

section
variable {C : Cx} {σ : State} {mu : Nat → Img} {a : Act} {w : World}

theorem caps_at {σ : State} {mu : Nat → Img} {wF : World} {cs : List SC} {ds : List AD} (h2 : ∀ (x : Nat) (d : AD), ds[x]? = some d → ∃ c, cs[x]? = some c ∧ ∀ i v, RepC (σ.env C.wF mu) c v → ArgRep C.P wF [] [] [] i d v)
    {arr : Array Value} {off : Nat} (hr : ∀ (x : Nat) (c : SC), cs[x]? = some c → ∃ u, arr[off + x]? = some u ∧ RepC (σ.env C.wF mu) c u) :
    ∀ (x : Nat) (d : AD), ds[x]? = some d → ∃ u, arr[off + x]? = some u ∧ ∀ i, ArgRep C.P wF [] [] [] i d u := fun x d hx => by
  obtain ⟨c, h3, h4⟩ := h2 x d hx
  obtain ⟨u, h5, h6⟩ := hr x c h3
  exact ⟨u, h5, fun i => h4 i u h6⟩

/-- Plain data of captured variables. -/
def AD.isPl : AD → Bool
  | .c _ => true
  | .agg _ => true
  | .box _ => true
  | .fv _ => true
  | .fvs _ _ => false

theorem argRep_mt {P : Program} {wF : World} {mt : List (Nat × Nat)} {ms : List Img} {obs : List Ob} {i : Nat} (hm : ∀ j, mtAt mt i j = none) {d : AD} {v : Value} (h : ArgRep P wF [] [] [] i d v) : ArgRep P wF mt ms obs i d v := by
  have hcell : ∀ {j d u}, CellRep wF [] [] [] i j d u → CellRep wF mt ms obs i j d u := fun {j d u} h => by
    refine ⟨h.1, ?_⟩
    rw [hm j]
    exact cellRep_nil h
  cases d with
  | c d => exact hcell (j := 0) h
  | agg cs =>
    obtain ⟨arr, rfl, h1, h2⟩ := h
    exact ⟨arr, rfl, h1, fun j d hj => let ⟨u, h3, h4⟩ := h2 j d hj; ⟨u, h3, hcell h4⟩⟩
  | box cs =>
    simp only [ArgRep, hm 0]
    exact h
  | fv F => exact h
  | fvs F s => exact (show False from h).elim

theorem clos_st {wF : World} {g : FuncId} {k : Nat} {ctg : List AD → Option Post} (hg : Fits C.P g ⟨[(k + 2, 0)], ctg⟩) {A B : List AD} (hA : A.length = k) {arr : Array Value} (hsz : arr.size = k + 1 + B.length)
    (ha : ∀ (x : Nat) (d : AD), A[x]? = some d → ∃ u, arr[0 + x]? = some u ∧ ∀ i, ArgRep C.P wF [] [] [] i d u) (hb : ∀ (x : Nat) (d : AD), B[x]? = some d → ∃ u, arr[k + 1 + x]? = some u ∧ ∀ i, ArgRep C.P wF [] [] [] i d u)
    {b : Nat} (hp : arr[k]? = some (.pointer (some ⟨b, 0, none⟩))) (hnb : ∀ p u, wF.cell? p = some u → p.block ≠ b) : ClosS C.P wF b (mkSF ctg A B) (.func (.func g) #[] arr) := by
  obtain ⟨fn, hfn1, hfn2, hfn3⟩ := fits_clos hg
  refine ⟨g, arr, fn, rfl, hfn1, hfn2, hfn3, fun w s x y hk ⟨t, ht⟩ hq => ?_⟩
  obtain ⟨pre, n, s', h1, h2, h3, h4⟩ := stQ_ok hq
  let m : Img := ⟨.pointer (some ⟨b, 0, none⟩), []⟩
  have hmb : m.blocks = [b] := rfl
  have hmt : ∀ i j, i ≠ k + 2 → mtAt [(k + 2, 0)] i j = none := fun i j hi => by
    simp only [mtAt]
    rw [if_neg (by omega)]
    rfl
  have hx0 : mtAt [(k + 2, 0)] (k + 2) 0 = some 0 := by simp [mtAt]
  have hrep : ∀ {w : World} {s : Int} {t : TypeId}, w.heap[b]? = some (.cells #[.int .i64 s] t (0, 0)) → RepO (E0 w) w m (.bx [.int .i64 s]) := fun {w s t} ht =>
    ⟨b, _, t, rfl, by simp [m], ht, rfl, fun j d hj => by
      match j, hj with
      | 0, hj => simp at hj; subst hj; exact ⟨_, rfl, rfl, rfl⟩
      | j + 1, hj => simp at hj⟩
  have hlen : ([Value.int .i64 x, .int .i64 y] ++ arr.toList).length = ([AD.c (.int .i64 x), .c (.int .i64 y)] ++ (A ++ .box [.int .i64 s] :: B)).length := by
    simp only [List.length_append, List.length_cons, List.length_nil, Array.length_toList, hsz, hA]
    omega
  have := hg.run w wF ([.int .i64 x, .int .i64 y] ++ arr.toList) ([.c (.int .i64 x), .c (.int .i64 y)] ++ (A ++ .box [.int .i64 s] :: B)) _ [m] [.bx [.int .i64 s]] h1 h2 hlen rfl rfl rfl
    (fun z m' ob hz hz2 => by
      cases z with
      | zero => simp at hz hz2; subst hz; subst hz2; exact ⟨hrep ht, by rw [hmb]; simp⟩
      | succ z => simp at hz)
    (fun z z' m1 m2 hne hz hz' => by
      cases z with
      | zero =>
        cases z' with
        | zero => exact absurd rfl hne
        | succ z' => simp at hz'
      | succ z => simp at hz)
    (fun z ob rc hz hz2 => by
      cases z with
      | zero => simp at hz hz2; subst hz; subst hz2; exact ⟨_, _, by simp only [wrOb, bxSame, if_true]; rfl, trivial⟩
      | succ z => simp at hz)
    (fun p u hpu => ⟨hk p u hpu, fun m' hm' => by
      simp at hm'; subst hm'
      rw [hmb]
      simpa using hnb p u hpu⟩)
    (fun i d hi => by
      match i, hi with
      | 0, hi => simp at hi; subst hi; exact ⟨_, rfl, rfl, by rw [hmt 0 0 (by omega)]; rfl⟩
      | 1, hi => simp at hi; subst hi; exact ⟨_, rfl, rfl, by rw [hmt 1 0 (by omega)]; rfl⟩
      | i + 2, hi =>
        simp only [List.cons_append, List.nil_append, List.getElem?_cons_succ] at hi
        by_cases h5 : i < A.length
        · rw [List.getElem?_append_left h5] at hi
          obtain ⟨u, k1, k2⟩ := ha i d hi
          refine ⟨u, ?_, argRep_mt (fun j => hmt _ j (by omega)) (k2 _)⟩
          rw [Nat.zero_add] at k1
          simpa using k1
        · rw [List.getElem?_append_right (by omega)] at hi
          by_cases h6 : i = k
          · subst h6
            rw [hA, Nat.sub_self] at hi
            simp at hi
            subst hi
            refine ⟨_, by simpa using hp, ?_⟩
            simp only [ArgRep]
            rw [hx0]
            refine ⟨m, rfl, rfl, rfl, fun j d hj hs => ?_⟩
            match j, hj with
            | 0, hj => simp at hj; subst hj; cases hs
            | j + 1, hj => simp at hj
          · obtain ⟨z, hz⟩ : ∃ z, i - A.length = z + 1 := ⟨i - A.length - 1, by omega⟩
            rw [hz, List.getElem?_cons_succ] at hi
            obtain ⟨u, k1, k2⟩ := hb z d hi
            refine ⟨u, ?_, argRep_mt (fun j => hmt _ j (by omega)) (k2 _)⟩
            rw [show k + 1 + z = i by omega] at k1
            simpa using k1)
  rw [show ([Value.int .i64 x, .int .i64 y] ++ arr.toList).toArray = #[.int .i64 x, .int .i64 y] ++ arr by apply Array.ext'; simp] at this
  refine this.mono ?_
  rintro e w' ⟨v, ms', img, wG, rfl, haft, hml, hms, _, hret⟩
  have hlt1 : 0 < ms'.length := by rw [hml]; simp
  obtain ⟨j0, _, _, _, ob3, q4, j4, j5⟩ := hms 0 _ _ _ _ rfl (List.getElem?_eq_getElem hlt1) rfl rfl rfl
  simp only [wrOb, bxSame, if_true, Option.some.injEq, Prod.mk.injEq] at j4
  obtain ⟨rfl, _⟩ := j4
  rw [j0] at j5
  obtain ⟨b', arr', t', r1, _, r3, r4, r5⟩ := j5
  have hbb : b' = b := by simpa [m] using r1.symm
  subst hbb
  obtain ⟨u, r6, _, r7⟩ := r5 0 _ rfl
  have harr : arr' = #[.int .i64 s'] := by
    apply Array.ext
    · rw [r4]; rfl
    · intro z hz1 hz2
      have : z = 0 := by simp at hz2; omega
      subst this
      have h8 : arr'[0]? = some u := r6
      rw [Array.getElem?_eq_getElem hz1] at h8
      cases h8
      exact r7
  have hv : v = .int .i64 n := hret.val
  refine ⟨by rw [hv]; congr 1; exact (congrArg (Value.int .i64) h3.symm), haft.os, haft.tape, haft.output, haft.size, fun z hz hne => haft.block z hz fun m' hm' => by
    simp at hm'; subst hm'
    rw [hmb]; simpa using hne, t', ?_⟩
  rw [r3, harr]
  have : (mkSF ctg A B).nx s x y = s' := h4
  rw [this]

theorem sopCallF_ok {o : Nat} {F : SFV} {svs : List SV} {eff : Eff} (hr : (sopCallF o F svs).run σ = some eff) (hob : eff.obl) (h : St C σ mu a w) {v0 : Value} (hv0 : RepV C.P (σ.env C.wF mu) (.fvs o F) v0)
    {vs : List Value} (hvl : vs.length = svs.length) (hvs : ∀ (i : Nat) (sv : SV), svs[i]? = some sv → ∃ v, vs[i]? = some v ∧ RepV C.P (σ.env C.wF mu) sv v) {dst : Option Nat} (hd : ∀ d, dst = some d → d < C.N) :
    ∃ g caps, v0 = .func (.func g) #[] caps ∧ (∃ fn, C.P.funcs[g]? = some fn ∧ fn.body.isSome = true ∧ (fn.name == "runtime.NumGoroutine") = false) ∧
    Calls C.P g (vs.toArray ++ caps) w fun e w' => ∃ v, e = .returned v ∧ StE C (σ.app dst eff) (a.put dst v) w' := by
  unfold sopCallF at hr
  split at hr
  · rename_i x y
    obtain ⟨ob, ho, hr2⟩ := run_h hr
    split at hr2
    · rename_i s
      simp only [Rd.run, Option.some.injEq] at hr2
      subst hr2
      obtain ⟨b, hb, g, caps, fn, rfl, k1, k2, k3, k4⟩ := on_live ho hv0
      obtain ⟨g', arr, ty, h1, h2, h3, h4, h5⟩ := box_cell h ho
      have hgb : g' = b := by
        have hb : (mu o).hd = _ := hb
        rw [h1] at hb
        simpa using hb
      subst hgb
      have harr : arr = #[.int .i64 s] := by
        obtain ⟨u, r6, _, r7⟩ := h5 0 _ rfl
        apply Array.ext
        · rw [h4]; rfl
        · intro z hz1 hz2
          have : z = 0 := by simp at hz2; omega
          subst this
          rw [Array.getElem?_eq_getElem hz1] at r6
          cases r6
          exact r7
      subst harr
      have hb0 : g' ∈ (mu o).blocks := mem_blocks_hd (by rw [h1]; rfl)
      obtain ⟨u0, q1, q2⟩ := hvs 0 _ rfl
      obtain ⟨u1, q3, q4⟩ := hvs 1 _ rfl
      have q2 : u0 = .int .i64 x := q2
      have q4 : u1 = .int .i64 y := q4
      subst q2; subst q4
      have hvv : vs = [.int .i64 x, .int .i64 y] := by
        match vs, hvl, q1, q3 with
        | [_, _], _, q1, q3 => simp at q1 q3; rw [q1, q3]
      subst hvv
      refine ⟨g, caps, rfl, ⟨fn, k1, k2, by simpa using k3⟩, ?_⟩
      refine (k4 w s x y (fun p u hp => (h.cells p u hp).2) ⟨ty, h3⟩ hob).mono ?_
      rintro e w' ⟨rfl, t1, t2, t3, t4, t5, ty', t6⟩
      refine ⟨_, rfl, ?_⟩
      refine h.setV hd ho [] (by simp) (m := mu o) (fun E => rfl) t1 t2 t3 t4 (fun z hz hn => t5 z hz fun hc => hn (by rw [hc]; exact hb0)) rfl rfl (Nat.le_refl _) (fun _ => ⟨rfl, rfl⟩) ⟨g', _, ty', h1, h2, t6, rfl, fun j c hj => ?_⟩ (h.nd o _ ho).1 (fun z hz => .inl hz)
      match j, hj with
      | 0, hj => simp at hj; subst hj; exact ⟨_, rfl, rfl, rfl⟩
      | j + 1, hj => simp at hj
    · simp [Rd.run] at hr2
  · simp [Rd.run] at hr

theorem sopCallSt_ok {Γ : FuncId → Option Ctr} (hΓ : GOk C.P Γ) {d : Nat} {f : FuncId} {svs : List SV} {eff : Eff} (hr : (sopCallSt C.P Γ d f svs).run σ = some eff) (hob : eff.obl) (h : St C σ mu a w)
    {vs : List Value} (hvl : vs.length = svs.length) (hvs : ∀ (i : Nat) (sv : SV), svs[i]? = some sv → ∃ v, vs[i]? = some v ∧ RepV C.P (σ.env C.wF mu) sv v) {dst : Option Nat} (hd : ∀ d, dst = some d → d < C.N) :
    (∃ fn, C.P.funcs[f]? = some fn ∧ fn.body.isSome = true ∧ (fn.name == "runtime.NumGoroutine") = false) ∧
    Calls C.P f vs.toArray w fun e w' => ∃ v, e = .returned v ∧ StE C (σ.app dst eff) (a.put dst v) w' := by
  unfold sopCallSt at hr
  split at hr
  · rename_i ct hct
    have hf := hΓ f _ hct
    refine ⟨hf.fn, ?_⟩
    split at hr
    · rename_i n g caps
      split at hr
      · rename_i k0 ctg hctg
        have hg := hΓ g _ hctg
        split at hr
        · rename_i k
          split at hr
          · rename_i ca o cb hsp
            obtain ⟨hcs, hcl⟩ := splitAt_ok hsp
            obtain ⟨ob, ho, hr2⟩ := run_h hr
            clear hr
            split at hr2
            · rename_i s
              have hw := hidW_of h [o] (fun x hx => by simp at hx; subst hx; exact ⟨_, ho⟩)
              obtain ⟨A, hr3, hAl, hA⟩ := rdCaps_run h hw ca _ _ hr2
              obtain ⟨B, hr4, hBl, hB⟩ := rdCaps_run h hw cb _ _ hr3
              split at hr4
              · rename_i pre ret s' hpost
                split at hr4
                · simp [Rd.run] at hr4
                rename_i hnro
                obtain ⟨hr5, habs⟩ := absAll_run hr4
                simp only [Rd.run, Option.some.injEq] at hr5
                subst hr5
                obtain ⟨u0, q1, q2⟩ := hvs 0 _ rfl
                obtain ⟨u1, q3, arr, rfl, hasz, harr⟩ := hvs 1 _ rfl
                have q2 : u0 = .int .i64 n := q2
                subst q2
                obtain ⟨bb, arr0, ty, h1, h2, h3, h4, h5⟩ := box_cell h ho
                have harr0 : arr0 = #[.int .i64 s] := by
                  obtain ⟨u, r6, _, r7⟩ := h5 0 _ rfl
                  apply Array.ext
                  · rw [h4]; rfl
                  · intro z hz1 hz2
                    have : z = 0 := by simp at hz2; omega
                    subst this
                    rw [Array.getElem?_eq_getElem hz1] at r6
                    cases r6
                    exact r7
                subst harr0
                let m : Img := ⟨(mu o).hd, []⟩
                have hmb : m.blocks = (mu o).blocks := by rw [blocks_ptr (m := m) (by simp [m]), blocks_ptr h2]
                have hb0 : bb ∈ (mu o).blocks := mem_blocks_hd (by rw [h1]; rfl)
                have hcap : ∀ (z : Nat) (c : SC), (ca ++ .ptr o 0 :: cb)[z]? = some c → ∃ u, arr[z]? = some u ∧ RepC (σ.env C.wF mu) c u := fun z c hz => by
                  rw [← hcs] at hz
                  obtain ⟨u, k1, _, k3⟩ := harr z c hz
                  exact ⟨u, k1, k3⟩
                have hpt : arr[k]? = some (.pointer (some ⟨bb, 0, none⟩)) := by
                  obtain ⟨u, k1, k2⟩ := hcap k (.ptr o 0) (by rw [List.getElem?_append_right (by omega), hcl, Nat.sub_self]; rfl)
                  obtain ⟨_, b', k3, k4⟩ := on_live ho k2
                  have k3 : hdBlock (mu o).hd = some b' := k3
                  rw [h1] at k3
                  have : bb = b' := by simpa [hdBlock] using k3
                  rw [k1, k4, this]
                have hcl2 := clos_st (wF := hide w ([o].flatMap fun o => (mu o).blocks)) hg (A := A) (B := B) (by rw [hAl, hcl]) (arr := arr) (by rw [hasz, hcs]; simp [hcl, hBl]; omega)
                  (caps_at (σ := σ) (mu := mu) hA fun z c hz => by
                    rw [Nat.zero_add]
                    exact hcap z c (by rw [List.getElem?_append_left (List.getElem?_eq_some_iff.1 hz).1]; exact hz))
                  (caps_at (σ := σ) (mu := mu) hB fun z c hz => hcap (k + 1 + z) c (by rw [List.getElem?_append_right (by omega), show k + 1 + z - ca.length = z + 1 by omega]; simpa using hz))
                  hpt (fun p u hp hc => (hw.kept p u hp).2 o (by simp) (by rw [hc]; exact hb0))
                refine call_core hf h (hid := [o]) (by simp) rfl (ms := [m]) (obs := [.bx [.int .i64 s]]) rfl rfl hpost hob.1 hob.2 rfl (fun o' ho' => ?_) (fun x o' rc hx hrc => ?_) habs hw.kept (fun hc => by rw [hnro] at hc; cases hc) (by rw [hvl]; rfl) (fun i ad hi => ?_) hd
                · rw [lk_cons, if_neg (fun hc => ho' (by simp [hc]))]; rfl
                · cases x with
                  | succ x => simp at hx
                  | zero =>
                    simp at hx hrc
                    subst hx; subst hrc
                    refine ⟨m, .bx [.int .i64 s], .bx [.int .i64 s'], .box [.int .i64 s], True, rfl, rfl, ⟨bb, _, ty, h1, by simp [m], h3, rfl, fun j dd hj => ?_⟩, hmb, by simp only [wrOb, bxSame, if_true], fun _ => trivial, ho, rfl, .inr ⟨rfl, .box [.int .i64 s'], by simp [lk_cons], rfl, ⟨rfl, Nat.le_refl _, fun _ => rfl⟩, fun E w' _ _ hrep => ?_⟩⟩
                    · match j, hj with
                      | 0, hj => simp at hj; subst hj; exact ⟨_, rfl, rfl, rfl⟩
                      | j + 1, hj => simp at hj
                    · obtain ⟨b', arr', t', k1, k2, k3, k4, k5⟩ := hrep
                      refine ⟨b', arr', t', k1, h2, k3, k4, fun j c hj => ?_⟩
                      match j, hj with
                      | 0, hj =>
                        simp at hj; subst hj
                        obtain ⟨u, r3, r4, r5⟩ := k5 0 _ rfl
                        exact ⟨u, r3, r4, r5⟩
                      | j + 1, hj => simp at hj
                · match i, hi with
                  | 0, hi => simp at hi; subst hi; exact ⟨_, q1, rfl, rfl⟩
                  | 1, hi => simp at hi; subst hi; exact ⟨_, q3, m, bb, rfl, rfl, h1, rfl, hcl2⟩
                  | i + 2, hi => simp at hi
              · simp [Rd.run] at hr4
            · simp [Rd.run] at hr2
          · simp [Rd.run] at hr
        · simp [Rd.run] at hr
      · simp [Rd.run] at hr
    · simp [Rd.run] at hr
  · simp [Rd.run] at hr

end
end Go.Sx
