/- A function's contract from its body's run. -/
import Derived.Test.YtkpkbfklidaoiaaSxW
namespace Go.Sx
open Go.RowKit

theorem cell_lt {w : World} {p : Addr} {u : Value} (h : w.cell? p = some u) : p.block < w.heap.size := by
  by_cases hb : p.block < w.heap.size
  · exact hb
  · simp [World.cell?, Array.getElem?_eq_none (Nat.le_of_not_lt hb)] at h

theorem fits_of_run {P : Program} {Γ : FuncId → Option Ctr} (hΓ : GOk P Γ) {f : FuncId} {fn : Func} {c : Code} {mt : List (Nat × Nat)} {ct : List AD → Option Post}
    (hf : P.funcs[f]? = some fn) (hb : fn.body = some c) (hname : (fn.name == "runtime.NumGoroutine") = false) (hpid : nodupB (pids mt) = true)
    (h : ∀ ds p, ct ds = some p → p.pre → ∃ wr ann, runF P Γ wr ann fn c mt ds p) : Fits P f ⟨mt, ct⟩ := by
  refine ⟨⟨fn, hf, by simp [hb], hname⟩, ?_, fun hm => by
    have hm : mt = [(0, 99), (0, 99)] := hm
    rw [hm] at hpid; exact absurd hpid (by decide), fun hm => by
    have hm : mt = [(0, 98), (0, 98)] := hm
    rw [hm] at hpid; exact absurd hpid (by decide), fun hm => by
    have hm : mt = [(0, 97), (0, 97)] := hm
    rw [hm] at hpid; exact absurd hpid (by decide)⟩
  intro w wF vs ds p ms obs hct hpre hvl hml hol hwl hmo hsep hwr hwF hargs
  have hpn := nodupB_ok hpid
  obtain ⟨wr, ann, hrun⟩ := h ds p hct hpre
  unfold runF at hrun
  split at hrun
  · exact hrun.elim
  rename_i hp hhp
  let C : Cx := ⟨P, ds.length + (fn.ntmps - ds.length), w, wF, fun b => ∃ m ∈ ms, b ∈ m.blocks, fun o => lk ((pids mt).zip ms) o⟩
  let mu : Nat → Img := fun o => match lk ((pids mt).zip ms) o with
    | some m => m
    | none => ⟨undef, []⟩
  have hml' : ms.length = (pids mt).length := by simpa [pids] using hml
  -- the image of a written cell
  have hmu : ∀ (x i j : Nat), mt[x]? = some (i, j) → ∃ m, ms[x]? = some m ∧ mu (pid i j) = m ∧ lk ((pids mt).zip ms) (pid i j) = some m := fun x i j hx => by
    have h1 := pids_at hx
    obtain ⟨m, hm⟩ := lk_zip_mem (List.mem_of_getElem? h1) hml'
    obtain ⟨y, h2, h3⟩ := lk_zip hm
    have : y = x := pids_inj hpn h2 h1
    subst this
    exact ⟨m, h3, by simp only [mu, hm], hm⟩
  have hcell : ∀ {i j : Nat} {d : FC}, cellOf ds i j = some d → ∃ u, CellRep wF mt ms obs i j d u := fun {i j d} hc => by
    unfold cellOf at hc
    split at hc
    · rename_i d' hd
      split at hc
      · cases hc
        obtain ⟨v, _, h2⟩ := hargs i _ hd
        exact ⟨v, h2⟩
      · cases hc
    · rename_i cs hd
      obtain ⟨v, _, arr, _, _, h4⟩ := hargs i _ hd
      obtain ⟨u, _, h5⟩ := h4 j d hc
      exact ⟨u, h5⟩
    · cases hc
  let σ : State := ⟨argFr mt 0 ds, hp⟩
  have hlive : ∀ {x i j : Nat}, mt[x]? = some (i, j) → ∃ ob, σ.H (pid i j) = some (some ob) := fun {x i j} hx =>
    initH_has hhp _ (List.mem_of_getElem? (pids_at hx))
  -- an object of the start
  have hob : ∀ o ob, σ.H o = some (some ob) → ∃ (x : Nat) (m : Img), (pids mt)[x]? = some o ∧ ms[x]? = some m ∧ mu o = m ∧ ob.shp.ver = 0 ∧ RepO (σ.env C.wF mu) w m ob ∧ m.blocks.Nodup := fun o ob ho => by
    obtain ⟨x, i, j, d, ob', rc, h1, rfl, h3, h4, h5, h6⟩ := initH_ok hhp o _ ho
    cases h6
    obtain ⟨m, k1, k2, _⟩ := hmu x i j h1
    obtain ⟨u, hu⟩ := hcell h4
    have hu2 := hu.2
    rw [mtAt_is hpn h1] at hu2
    obtain ⟨m', ob2, q1, q2, q3, q4⟩ := hu2
    rw [k1] at q1; cases q1
    obtain ⟨r1, r2⟩ := hmo x m ob2 k1 q2
    obtain ⟨ob3, q, r3, _⟩ := hwr x ob2 rc q2 h3
    obtain ⟨r4, r5⟩ := mk_rep (E := σ.env C.wF mu) q4 r3 h5 r1
    exact ⟨x, m, pids_at h1, k1, k2, r5, r4, r2⟩
  have hargC : ∀ {i j : Nat} {d : FC} {u : Value}, CellRep wF mt ms obs i j d u → RepC (σ.env C.wF mu) (argC mt i j d) u ∧ u.oneCell' = true := fun {i j d u} hu => by
    refine ⟨?_, hu.1⟩
    have hu2 := hu.2
    unfold argC
    split
    · rename_i hmem
      rw [memP_eq] at hmem
      cases hmt : mtAt mt i j with
      | none => rw [hmt] at hmem; cases hmem
      | some x =>
        rw [hmt] at hu2
        obtain ⟨m, ob2, q1, q2, q3, q4⟩ := hu2
        obtain ⟨ob, hl⟩ := hlive (mtAt_ok hmt)
        obtain ⟨m', k1, k2, _⟩ := hmu x i j (mtAt_ok hmt)
        rw [q1] at k1; cases k1
        refine ⟨hu.1, ?_⟩
        have : (σ.env C.wF mu).st (pid i j) = .live ob.shp := ost_live hl
        rw [this]
        show u = (mu (pid i j)).hd
        rw [k2, q3]
    · rename_i hmem
      rw [memP_eq] at hmem
      cases hmt : mtAt mt i j with
      | none =>
        rw [hmt] at hu2
        exact (scOf_rep (E := σ.env C.wF mu) hu2).1
      | some x => rw [hmt] at hmem; cases hmem
  have hs : StE C σ { tmps := vs.toArray ++ Array.replicate (fn.ntmps - vs.toArray.size) undef, defers := [] } w := by
    refine ⟨mu, .refl _, rfl, rfl, Nat.le_refl _, fun _ _ _ => rfl, fun q u hq => ?_, ?_, rfl, fun t sv ht => ?_, fun o ob ho => ?_, fun o ob ho => ?_, fun o o' ob ob' hne ho ho' b hb hb' => ?_, fun o m hm => ?_⟩
    · obtain ⟨h1, h2⟩ := hwF q u hq
      exact ⟨⟨cell_lt h1, fun ⟨m, hm, hb⟩ => h2 m hm hb⟩, h1⟩
    · simp [C, hvl]
    · obtain ⟨i, d, h1, h2, rfl⟩ := argFr_lk ht
      rw [Nat.zero_add] at h2
      subst h2
      obtain ⟨v, h3, h4⟩ := hargs t d h1
      have hv : (vs.toArray ++ Array.replicate (fn.ntmps - vs.toArray.size) undef).getD t undef = v := by
        have hlt := (List.getElem?_eq_some_iff.1 h3).1
        rw [Array.getD_eq_getD_getElem?, Array.getElem?_append_left (by simpa using hlt)]
        simp [h3]
      simp only [hv]
      cases d with
      | c d => exact (hargC h4).1
      | agg cs =>
        obtain ⟨arr, h5, h6, h7⟩ := h4
        refine ⟨arr, h5, by rw [h6, argCs_len], fun k c hk => ?_⟩
        obtain ⟨d, h8, rfl⟩ := argCs_at hk
        rw [Nat.zero_add]
        obtain ⟨u, h9, h10⟩ := h7 k d h8
        exact ⟨u, h9, (hargC h10).2, (hargC h10).1⟩
      | box cs =>
        obtain ⟨b, off, h5, h6⟩ := h4
        exact ⟨b, off, h5, fun j fc hj => h6 j fc (by rwa [Nat.zero_add] at hj)⟩
      | fv F => exact h4
    · obtain ⟨x, m, _, _, h3, _, h5, _⟩ := hob o ob ho
      rw [h3]; exact h5
    · obtain ⟨x, m, _, h2, h3, _, _, h6⟩ := hob o ob ho
      rw [h3]
      exact ⟨h6, fun b hb => .inl ⟨m, List.mem_of_getElem? h2, hb⟩⟩
    · obtain ⟨x, m, h1, h2, h3, _⟩ := hob o ob ho
      obtain ⟨x', m', h1', h2', h3', _⟩ := hob o' ob' ho'
      rw [h3] at hb; rw [h3'] at hb'
      refine hsep x x' m m' (fun hc => hne ?_) h2 h2' b hb hb'
      subst hc
      rw [h1] at h1'
      exact Option.some.inj h1'
    · have hm : lk ((pids mt).zip ms) o = some m := hm
      obtain ⟨x, h1, h2⟩ := lk_zip hm
      obtain ⟨ob, hl⟩ := initH_has hhp o (List.mem_of_getElem? h1)
      have hl : σ.H o = some (some ob) := hl
      rw [ost_live hl]
      have : mu o = m := by simp only [mu, hm]
      exact ⟨by rw [this], fun _ => this⟩
  have hpins : ∀ o m, C.pin o = some m → o ∈ pids mt := fun o m hm => by
    obtain ⟨x, h1, _⟩ := lk_zip (show lk ((pids mt).zip ms) o = some m from hm)
    exact List.mem_of_getElem? h1
  have hwp := exec_ok (C := C) (k := ⟨P, Γ, wr, ds.length + (fn.ntmps - ds.length), pids mt⟩) rfl hΓ rfl hpins c 0 ann σ _ hrun _ _ hs
  refine calls_of_wp hf hb (wp_mono hwp ?_)
  rintro e a' w' ⟨σ', ⟨mu', hst⟩, hK⟩
  have fin : ∀ (svs : List SV) (us : List (Nat × Nat)) (q q' : Prop), allSome (rdRes P σ') fn.results.toList = some svs → matchV σ' svs p.ret = some (us, q) → nodupB (us.map (·.2)) = true → noneOr mt us = true →
      matchWs σ' (pids mt) p.wrs = some q' → q ∧ q' → ∃ v, (results fn a'.tmps).run P w' = .ok v w' ∧ ∃ (v' : Value) (ms' : List Img) (img : Nat → Img), Ending.returned v = .returned v' ∧ After w w' ms ∧ ms'.length = ms.length ∧
      (∀ (x : Nat) (m m' : Img) (ob : Ob) (rc : RC), ms[x]? = some m → ms'[x]? = some m' → obs[x]? = some ob → p.wrs[x]? = some rc →
        m' = m ∧ m'.hd = m.hd ∧ m'.blocks.Nodup ∧ (∀ b ∈ m'.blocks, b ∈ m.blocks) ∧ ∃ ob' q, wrOb ob rc = some (ob', q) ∧ RepO (E0 w) w' m' ob') ∧
      RetRep w w' wF img p.ret v' := by
    intro svs us q q' h1 h2 h3 h4 h5 h6
    obtain ⟨rs, r1, r2, r3⟩ := results_ok (C := C) (fn := fn) h1 hst
    have hM : us = [] ∨ ∀ b, ¬ C.M b := by
      cases us with
      | nil => exact .inl rfl
      | cons u us =>
        right
        cases hmt : mt with
        | cons x l => rw [hmt] at h4; cases h4
        | nil =>
          rw [hmt] at hml
          have : ms = [] := List.eq_nil_of_length_eq_zero hml
          rintro b ⟨m, hm, _⟩
          rw [this] at hm
          cases hm
    obtain ⟨img, r4⟩ := matchV_ok hst h2 h6.1 hM (nodupB_ok h3) r1 r3
    refine ⟨_, r2, _, ms, img, rfl, ⟨hst.os, hst.tape, hst.output, hst.size, fun b hb hm => hst.block b hb fun ⟨m, k1, k2⟩ => hm m k1 k2⟩, rfl, ?_, r4⟩
    intro x m m' ob rc k1 k2 k3 k4
    rw [k1] at k2; cases k2
    obtain ⟨r5, r6⟩ := hmo x m ob k1 k3
    obtain ⟨ob', q1, r7, _⟩ := hwr x ob rc k3 k4
    have hlt : x < (pids mt).length := by rw [← hml']; exact (List.getElem?_eq_some_iff.1 k1).1
    obtain ⟨obf, q2, r8, r9, r10⟩ := matchWs_ok h5 h6.2 x _ rc (List.getElem?_eq_getElem hlt) k4
    obtain ⟨r11, r12⟩ := matchW_ok (w := w') r7 r9 r10 (hst.ob _ _ r8)
    have hpin : lk ((pids mt).zip ms) (pids mt)[x] = some m := by
      obtain ⟨m2, hm2⟩ := lk_zip_mem (List.getElem_mem hlt) hml'
      obtain ⟨y, h7, h8⟩ := lk_zip hm2
      have : y = x := pids_inj hpn h7 (List.getElem?_eq_getElem hlt)
      subst this
      rw [k1] at h8; cases h8
      exact hm2
    have h9 := hst.pins _ m hpin
    rw [ost_live r8] at h9
    have h10 := h9.2 r11
    rw [h10] at r12
    exact ⟨rfl, rfl, r6, fun b hb => hb, ob', q1, r7, r12⟩
  have fin2 : finK P fn.results.toList mt p .ret σ' → ∃ v, (results fn a'.tmps).run P w' = .ok v w' ∧ ∃ (v' : Value) (ms' : List Img) (img : Nat → Img), Ending.returned v = .returned v' ∧ After w w' ms ∧ ms'.length = ms.length ∧
      (∀ (x : Nat) (m m' : Img) (ob : Ob) (rc : RC), ms[x]? = some m → ms'[x]? = some m' → obs[x]? = some ob → p.wrs[x]? = some rc →
        m' = m ∧ m'.hd = m.hd ∧ m'.blocks.Nodup ∧ (∀ b ∈ m'.blocks, b ∈ m.blocks) ∧ ∃ ob' q, wrOb ob rc = some (ob', q) ∧ RepO (E0 w) w' m' ob') ∧
      RetRep w w' wF img p.ret v' := fun hK => by
    simp only [finK] at hK
    split at hK
    · exact hK.elim
    · split at hK
      · exact hK.elim
      · split at hK
        · exact hK.elim
        · split at hK
          · exact hK.elim
          · split at hK
            · exact hK.elim
            · rename_i q' hq'
              exact fin _ _ _ _ ‹_› ‹_› ‹_› ‹_› ‹_› hK
  cases e with
  | normal => exact ⟨hst.df, fin2 hK⟩
  | ret => exact ⟨hst.df, fin2 hK⟩
  | _ => exact hK.elim

end Go.Sx
