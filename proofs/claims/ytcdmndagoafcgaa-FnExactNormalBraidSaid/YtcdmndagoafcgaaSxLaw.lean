/- SxLaw -/
import Derived.Test.YtcdmndagoafcgaaSxZ
import Derived.ProofKit
import Derived.OpenShut
import Derived.Lib.SmallJoins
import Derived.Deep.Matrix
namespace Go.Sx
set_option linter.unusedSimpArgs false
set_option linter.unusedVariables false
open Go.ChangeShapes Go.WideShapes Go.ChangeAt Go.RowKit Go.ChangeMaps Go.Deep

def I64s (n : Int) : Prop := -9223372036854775808 ≤ n ∧ n ≤ 9223372036854775807

theorem wf_i64' {n : Int} (h : (Lit.int .i64 n).wf = true) : I64s n := by
  simp only [Lit.wf, Bool.and_eq_true, decide_eq_true_eq] at h
  exact h

theorem maxLen_le : maxLen = 9223372036854775807 := rfl

section
variable {H : Type} {enc : TypeId × Value → H} {P : Program} {W : World}

/-- What a cell of a type reads as. -/
def Opn (P : Program) (W : World) (t : TypeId) (v : Value) (d : FC) : Prop := v.oneCell' = true ∧ Reads W v d

theorem opn_int {t : TypeId} {fuel : Nat} {v : Value} {x : DataW H × List MemPlace} (ht : P.underlying t = some (.int .i64)) (h : DataW.trod enc P W 0 (fun _ => true) true fuel t [v] = some x) :
    ∃ n, I64s n ∧ Opn P W t v (.int .i64 n) := by
  obtain ⟨n, h1, _, hw⟩ := DataW.trod_int ht h
  simp only [List.cons.injEq, and_true] at h1
  subst h1
  exact ⟨n, wf_i64' hw, rfl, rfl⟩

theorem opn_ints {t e : TypeId} {fuel : Nat} {v : Value} {x : DataW H × List MemPlace} (ht : P.underlying t = some (.slice e)) (he : P.underlying e = some (.int .i64)) (hc : P.cellsOf e = 1)
    (h : DataW.trod enc P W 0 (fun _ => true) true fuel t [v] = some x) : ∃ l : List Int, l.length ≤ maxLen ∧ (∀ n ∈ l, I64s n) ∧ Opn P W t v (.ints .i64 l) := by
  rcases open_ints ht he hc h with ⟨h1, _⟩ | ⟨a, len, cap, zs, h1, _, hl, hm, hz, _, hcell, hw⟩
  · simp only [List.cons.injEq, and_true] at h1
    subst h1
    exact ⟨[], Nat.zero_le _, by simp, rfl, none, 0, rfl, Nat.le_refl _, fun h => by simp at h⟩
  · simp only [List.cons.injEq, and_true] at h1
    subst h1
    simp only [if_true] at hz
    have hlen : (zs.take len).length = len := by simp; omega
    refine ⟨zs.take len, by rw [hlen]; omega, fun n hn => wf_i64' (hw n (List.mem_of_mem_take hn)), rfl, some a, cap, by rw [hlen], by rw [hlen]; exact hl, fun hpos => ?_⟩
    rw [hlen] at hpos
    obtain ⟨b, off, spot⟩ := a
    have hs : spot = none := by simpa [Addr.add] using World.cell?_spot (hcell 0 (by omega))
    subst hs
    refine ⟨b, off, rfl, fun i hi => ?_⟩
    rw [hlen] at hi
    refine ⟨_, by rw [← add_plain]; exact hcell i (by omega), ?_⟩
    simp [List.getD_eq_getElem?_getD, List.getElem?_take, hi]

theorem wf_u8' {n : Int} (h : (Lit.int .u8 n).wf = true) : 0 ≤ n ∧ n ≤ 255 := by
  simp only [Lit.wf, Bool.and_eq_true, decide_eq_true_eq] at h
  exact h

theorem opn_bytes {t e : TypeId} {fuel : Nat} {v : Value} {x : DataW H × List MemPlace} (ht : P.underlying t = some (.slice e)) (he : P.underlying e = some (.int .u8)) (hc : P.cellsOf e = 1)
    (h : DataW.trod enc P W 0 (fun _ => true) true fuel t [v] = some x) : ∃ l : List Int, l.length ≤ maxLen ∧ (∀ n ∈ l, 0 ≤ n ∧ n ≤ 255) ∧ Opn P W t v (.ints .u8 l) := by
  rcases open_ints ht he hc h with ⟨h1, _⟩ | ⟨a, len, cap, zs, h1, _, hl, hm, hz, _, hcell, hw⟩
  · simp only [List.cons.injEq, and_true] at h1
    subst h1
    exact ⟨[], Nat.zero_le _, by simp, rfl, none, 0, rfl, Nat.le_refl _, fun h => by simp at h⟩
  · simp only [List.cons.injEq, and_true] at h1
    subst h1
    simp only [if_true] at hz
    have hlen : (zs.take len).length = len := by simp; omega
    refine ⟨zs.take len, by rw [hlen]; omega, fun n hn => wf_u8' (hw n (List.mem_of_mem_take hn)), rfl, some a, cap, by rw [hlen], by rw [hlen]; exact hl, fun hpos => ?_⟩
    rw [hlen] at hpos
    obtain ⟨b, off, spot⟩ := a
    have hs : spot = none := by simpa [Addr.add] using World.cell?_spot (hcell 0 (by omega))
    subst hs
    refine ⟨b, off, rfl, fun i hi => ?_⟩
    rw [hlen] at hi
    refine ⟨_, by rw [← add_plain]; exact hcell i (by omega), ?_⟩
    simp [List.getD_eq_getElem?_getD, List.getElem?_take, hi]

theorem opn_rows {t e q : TypeId} {fuel : Nat} {v : Value} {x : DataW H × List MemPlace} (ht : P.underlying t = some (.slice e)) (he : P.underlying e = some (.slice q)) (hq : P.underlying q = some (.int .i64))
    (ce : P.cellsOf e = 1) (cq : P.cellsOf q = 1) (h : DataW.trod enc P W 0 (fun _ => true) true fuel t [v] = some x) :
    ∃ l : List (List Int), l.length ≤ maxLen ∧ (∀ r ∈ l, r.length ≤ maxLen ∧ ∀ n ∈ r, I64s n) ∧ Opn P W t v (.rows .i64 l) := by
  rcases open_int_rows ht he hq ce cq h with ⟨h1, _⟩ | ⟨a, len, cap, A, L, Cc, Z, h1, _, hl, hm, _, hrow⟩
  · simp only [List.cons.injEq, and_true] at h1
    subst h1
    exact ⟨[], Nat.zero_le _, by simp, rfl, none, 0, rfl, Nat.le_refl _, fun h => by simp at h⟩
  · simp only [List.cons.injEq, and_true] at h1
    subst h1
    refine ⟨(List.range len).map fun r => (Z r).take (L r), by simp; omega, ?_, rfl, some a, cap, by simp, by simpa using hl, fun hpos => ?_⟩
    · intro r hr
      simp only [List.mem_map, List.mem_range] at hr
      obtain ⟨j, hj, rfl⟩ := hr
      obtain ⟨_, k2, k3, k4, k5, _⟩ := hrow j (by omega)
      exact ⟨by simp; omega, fun n hn => wf_i64' (k5 n (List.mem_of_mem_take hn))⟩
    · simp only [List.length_map, List.length_range] at hpos
      obtain ⟨b, off, spot⟩ := a
      have hs : spot = none := by simpa [Addr.add] using World.cell?_spot (hrow 0 (by omega)).1
      subst hs
      refine ⟨b, off, rfl, fun i hi => ?_⟩
      simp only [List.length_map, List.length_range] at hi
      obtain ⟨k1, k2, k3, k4, k5, k6, k7⟩ := hrow i (by omega)
      refine ⟨_, by rw [← add_plain]; exact k1, ?_⟩
      have hget : ((List.range len).map fun r => (Z r).take (L r)).getD i [] = (Z i).take (L i) := by
        simp [List.getD_eq_getElem?_getD, hi]
      show ReadsI W .i64 _ _
      rw [hget]
      have hlen : ((Z i).take (L i)).length = L i := by simp; omega
      refine ⟨A i, Cc i, by rw [hlen], by rw [hlen]; exact k2, fun hp => ?_⟩
      rw [hlen] at hp
      cases hA : A i with
      | none => have := k6 hA; omega
      | some a' =>
        obtain ⟨_, hc⟩ := k7 a' hA
        obtain ⟨b', off', spot'⟩ := a'
        have hs : spot' = none := by simpa [Addr.add] using World.cell?_spot (hc 0 (by omega))
        subst hs
        refine ⟨b', off', rfl, fun j hj => ?_⟩
        rw [hlen] at hj
        refine ⟨_, by rw [← add_plain]; exact hc j (by omega), ?_⟩
        simp [List.getD_eq_getElem?_getD, List.getElem?_take, hj]

/-- A list of what each element reads as. -/
theorem opn_up {α : Type} {t e : TypeId} {fuel : Nat} {v : Value} {x : DataW H × List MemPlace} (ht : P.underlying t = some (.slice e)) (ce : P.cellsOf e = 1) (h : DataW.trod enc P W 0 (fun _ => true) true fuel t [v] = some x)
    (Q : α → Prop) (R : Value → α → Prop) (z : α) (each : ∀ (u : Value) (n : Nat) (y : DataW H × List MemPlace), DataW.trod enc P W 0 (fun _ => true) true n e [u] = some y → ∃ a, Q a ∧ R u a) :
    ∃ l : List α, l.length ≤ maxLen ∧ (∀ r ∈ l, Q r) ∧ v.oneCell' = true ∧ SliceOf W v l.length fun i u => R u (l.getD i z) := by
  rcases open_slice1 ht ce h with h1 | ⟨a, len, cap, m, n, V, D, Pl, h1, _, hl, hm, hmm, _, hx⟩
  · obtain ⟨rfl, _⟩ : v = Value.slice none 0 0 ∧ x = (DataW.nil, []) := by simpa using h1
    exact ⟨[], Nat.zero_le _, by simp, rfl, none, 0, rfl, Nat.le_refl _, fun h => by simp at h⟩
  · simp only [List.cons.injEq, and_true] at h1
    subst h1
    simp only [if_true] at hmm
    subst hmm
    haveI : Inhabited α := ⟨z⟩
    obtain ⟨y, hy⟩ := choose_lt fun r (hr : r < len) => each (V r) _ _ (hx r (by omega)).2
    refine ⟨(List.range len).map y, by simp; omega, fun r hr => ?_, rfl, some a, m, by simp, by simpa using hl, fun hpos => ?_⟩
    · simp only [List.mem_map, List.mem_range] at hr
      obtain ⟨j, hj, rfl⟩ := hr
      exact (hy j hj).1
    · simp only [List.length_map, List.length_range] at hpos
      obtain ⟨b, off, spot⟩ := a
      have hs : spot = none := by simpa [Addr.add] using World.cell?_spot (hx 0 (by omega)).1
      subst hs
      refine ⟨b, off, rfl, fun i hi => ?_⟩
      simp only [List.length_map, List.length_range] at hi
      refine ⟨_, by rw [← add_plain]; exact (hx i (by omega)).1, ?_⟩
      have hget : ((List.range len).map y).getD i z = y i := by simp [List.getD_eq_getElem?_getD, hi]
      show R _ (((List.range len).map y).getD i z)
      rw [hget]
      exact (hy i hi).2

theorem opn_r4 {t e q s : TypeId} {fuel : Nat} {v : Value} {x : DataW H × List MemPlace} (ht : P.underlying t = some (.slice e)) {e2 : TypeId} (he : P.underlying e = some (.slice e2)) (he2 : P.underlying e2 = some (.slice q)) (hq : P.underlying q = some (.slice s)) (hs : P.underlying s = some (.int .i64))
    (ce : P.cellsOf e = 1) (ce2 : P.cellsOf e2 = 1) (cq : P.cellsOf q = 1) (cs : P.cellsOf s = 1) (h : DataW.trod enc P W 0 (fun _ => true) true fuel t [v] = some x) :
    ∃ l : List (List (List (List Int))), l.length ≤ maxLen ∧ (∀ r ∈ l, r.length ≤ maxLen ∧ ∀ p ∈ r, p.length ≤ maxLen ∧ ∀ o ∈ p, o.length ≤ maxLen) ∧ Opn P W t v (.r4 .i64 l) := by
  obtain ⟨l, h1, h2, h3, h4⟩ := opn_up (α := List (List (List Int))) ht ce h (fun r => r.length ≤ maxLen ∧ ∀ p ∈ r, p.length ≤ maxLen ∧ ∀ o ∈ p, o.length ≤ maxLen) (fun u a => ReadsR3 W .i64 u a) [] fun u n y hy => by
    obtain ⟨l, k1, k2, _, k4⟩ := opn_up (α := List (List Int)) he ce2 hy (fun p => p.length ≤ maxLen ∧ ∀ o ∈ p, o.length ≤ maxLen) (fun u a => ReadsR W .i64 u a) [] fun u n y hy => by
      obtain ⟨l, j1, j2, j3⟩ := opn_rows he2 hq hs cq cs hy
      exact ⟨l, ⟨j1, fun o ho => (j2 o ho).1⟩, j3.2⟩
    exact ⟨l, ⟨k1, k2⟩, k4⟩
  exact ⟨l, h1, h2, h3, h4⟩

theorem opn_str {t : TypeId} {fuel : Nat} {v : Value} {x : DataW H × List MemPlace} (ht : P.underlying t = some .string) (h : DataW.trod enc P W 0 (fun _ => true) true fuel t [v] = some x) :
    ∃ l : List UInt8, l.length ≤ maxLen ∧ Opn P W t v (.str l) := by
  obtain ⟨s, h1, _, hs⟩ := DataW.trod_string ht h
  simp only [List.cons.injEq, and_true] at h1
  subst h1
  exact ⟨s.data.toList, by simpa using hs, rfl, rfl⟩

/-- An argument of one cell. -/
theorem arg_c {t : TypeId} {v : Value} {d : FC} (h : Opn P W t v d) (i : Nat) : ArgRep P W [] [] [] i (.c d) v := ⟨h.1, h.2⟩

theorem trod_of_okWide {t : TypeId} {v : Value} {d : DataW H} {p : List MemPlace} (h1 : v.cells.toList = [v]) (h : DataW.Trod enc P W 0 (fun _ => true) true t v d p) : ∃ n, DataW.trod enc P W 0 (fun _ => true) true n t [v] = some (d, p) := by
  obtain ⟨n, hn⟩ := h
  exact ⟨n, by rw [← h1]; exact hn⟩

theorem arg_agg2 {t : TypeId} {v0 v1 : Value} {t0 t1 : TypeId} {d0 d1 : FC} (h0 : Opn P W t0 v0 d0) (h1 : Opn P W t1 v1 d1) (i : Nat) : ArgRep P W [] [] [] i (.agg [d0, d1]) (.agg #[v0, v1]) :=
  ⟨_, rfl, rfl, fun j d hj => match j, hj with
    | 0, hj => by cases hj; exact ⟨v0, rfl, h0.1, h0.2⟩
    | 1, hj => by cases hj; exact ⟨v1, rfl, h1.1, h1.2⟩
    | j + 2, hj => by simp at hj⟩

theorem arg_agg1 {t : TypeId} {v0 : Value} {t0 : TypeId} {d0 : FC} (h0 : Opn P W t0 v0 d0) (i : Nat) : ArgRep P W [] [] [] i (.agg [d0]) (.agg #[v0]) :=
  ⟨_, rfl, rfl, fun j d hj => match j, hj with
    | 0, hj => by cases hj; exact ⟨v0, rfl, h0.1, h0.2⟩
    | j + 1, hj => by simp at hj⟩

open Go.Joins in
theorem opn_agg1 {r : Reach} {b0 : Nat} {t : TypeId} {f0 : Field} {v : Value} {d : DataW H} {p : List MemPlace} (hs : P.underlying t = some (.struct #[f0])) (hone : oneCellFields P #[f0] = true) (hC : P.cellsOf t = 1)
    (hv : Value.okWide P W r b0 t v) (h : DataW.Trod enc P W 0 (fun _ => true) true t v d p) :
    ∃ (v0 : Value) (y0 : DataW H × List MemPlace) (n : Nat), v = .agg #[v0] ∧ d = .agg [y0.1] ∧ p = y0.2 ∧ DataW.trod enc P W 0 (fun _ => true) true n f0.type [v0] = some y0 := by
  obtain ⟨cs, rfl, hsz⟩ := okWide_struct hs hv
  have h1 : cs.size = 1 := hsz.trans hC
  obtain ⟨c0, rfl⟩ : ∃ c0, cs = #[c0] := by
    cases cs with
    | mk l => match l, h1 with
      | [c], _ => exact ⟨c, rfl⟩
  obtain ⟨fuel, hf⟩ := h
  obtain ⟨y0, n, hx, _, h0⟩ := trod_struct1 hs hf
  obtain ⟨o0, k0⟩ := hone_of hone 0 f0 rfl
  simp only [Prod.mk.injEq] at hx
  exact ⟨c0, y0, n, rfl, hx.1, hx.2, by simpa [Value.cells, o0, k0] using h0⟩

theorem trodAll_keep (hl : laidOutB P = true) {W' : World} (hb : Below W.heap.size W W') : ∀ {ts : List TypeId} {vs : List Value} {ds : List (DataW H)} {p : List MemPlace}, (∀ t ∈ ts, P.readableRec t = true ∧ t < P.types.size) →
    DataW.TrodAll enc P W 0 (fun _ => true) true ts vs ds p → (∀ x ∈ p, x.block < W.heap.size) → DataW.TrodAll enc P W' 0 (fun b => decide (b < W.heap.size)) true ts vs ds p
  | [], [], [], p, _, h, _ => h
  | t :: ts, v :: vs, d :: ds, p, ht, h, hlt => by
    obtain ⟨p1, p2, h1, h2, rfl⟩ := h
    exact ⟨p1, p2, Below.trod hl (ht t (by simp)).1 (ht t (by simp)).2 h1 hb (fun x hx => hlt x (by simp [hx])), trodAll_keep hl hb (fun t' h' => ht t' (by simp [h'])) h2 (fun x hx => hlt x (by simp [hx])), rfl⟩
  | [], [], _ :: _, _, _, h, _ => h.elim
  | [], _ :: _, [], _, _, h, _ => h.elim
  | [], _ :: _, _ :: _, _, _, h, _ => h.elim
  | _ :: _, [], [], _, _, h, _ => h.elim
  | _ :: _, [], _ :: _, _, _, h, _ => h.elim
  | _ :: _, _ :: _, [], _, _, h, _ => h.elim

theorem trodAll_lens {W : World} {base : Nat} {sp : Nat → Bool} {hd : Bool} : ∀ {ts : List TypeId} {vs : List Value} {ds : List (DataW H)} {p : List MemPlace}, DataW.TrodAll enc P W base sp hd ts vs ds p → vs.length = ts.length ∧ ds.length = ts.length
  | [], [], [], _, _ => ⟨rfl, rfl⟩
  | t :: ts, v :: vs, d :: ds, p, h => by
    obtain ⟨p1, p2, _, h2, _⟩ := h
    have := trodAll_lens h2
    simp [this.1, this.2]
  | [], [], _ :: _, _, h => h.elim
  | [], _ :: _, [], _, h => h.elim
  | [], _ :: _, _ :: _, _, h => h.elim
  | _ :: _, [], [], _, h => h.elim
  | _ :: _, [], _ :: _, _, h => h.elim
  | _ :: _, _ :: _, [], _, h => h.elim

end

/-- The row's step of a law. -/
theorem law_lifted {C : Checked} {os : Os} {H : Type} {enc : TypeId × Value → H} {f : FuncId} {fn : Func} {s : ChangeSpec} {conds : List PathCond} {fresh handsOn : Bool} {tb : TypeId}
    (own : ownKnob C.prog.godebug = none) (started : os.Started) (noInit : C.prog.inits.idxOf? f = none) (hfn : C.prog.funcs[f]? = some fn) (hlaid : laidOutB C.prog = true)
    (hvars : s.vars = []) (hrd : ∀ t ∈ fn.params.toList, C.prog.readableRec t = true ∧ t < C.prog.types.size) (hres : fn.resultTypes = #[tb]) (htb : C.prog.underlying tb = some .bool)
    (hspec : ∀ ds : List (DataW H), ds.length = fn.params.toList.length → s.fn H ds = { results := [.lit (.bool true)], args := ds, vars := [] })
    (witness : ∃ (w : World) (tape : Tape) (i : Input), w.os = os ∧ (w.forCall tape i).Shaped C.prog ∧ i.vars = [] ∧ Input.okWide C.prog (w.forCall tape i) .any w.heap.size f i ∧
      s.pre6 enc C.prog fn conds false (w.forCall tape i).memory i.args ∧ ({} : Assume).holds C.prog (lone (Frame.enter C.prog f i.args .normal) [] (w.forCall tape i)))
    {ct : List AD → Option Post} (fits : Fits C.prog f ⟨[], ct⟩)
    (hopen : ∀ (W : World) (base : Nat) (vs : List Value) (ds : List (DataW H)) (p : List MemPlace), DataW.TrodAll enc C.prog W 0 (fun _ => true) true fn.params.toList vs ds p →
      (∀ (j : Nat) t v, fn.params[j]? = some t → vs[j]? = some v → Value.okWide C.prog W .any base t v) →
      ∃ (ads : List AD) (pre : Prop), ct ads = some ⟨pre, .c (.bool true), []⟩ ∧ pre ∧ vs.length = ads.length ∧ ∀ (i : Nat) (d : AD), ads[i]? = some d → ∃ v, vs[i]? = some v ∧ ArgRep C.prog W [] [] [] i d v) :
    ReturnsInHanded {} C os f .any (s.pre6 enc C.prog fn conds false) (s.post enc C.prog fn false fresh handsOn false) := by
  refine returnsInHanded_of_change own started noInit hfn witness ?_
  intro W base args ds gs before hval hW _ _
  have hW' := hW
  obtain ⟨p, q, hA, hV, rfl, hfz, hnd⟩ := hW
  rw [hvars] at hV
  obtain ⟨rfl, rfl⟩ := trodVars_none hV
  obtain ⟨ads, pre, h1, h2, h3, h4⟩ := hopen W base args.toList ds p hA (fun j t v ht hv => hval j t v ht (by simpa using hv))
  have hrun := fits.run W W args.toList ads _ [] [] h1 h2 h3 rfl rfl rfl (by simp) (by simp) (by simp) (fun q u hq => ⟨hq, by simp⟩) h4
  refine hrun.mono fun e W' ⟨v, ms', img, wG, he, haft, hms, _, _, hret⟩ => ?_
  subst he
  have hv : v = .bool true := hret.val
  subst hv
  have hB : Below W.heap.size W W' := haft.below
  have hlt : ∀ x ∈ p, x.block < W.heap.size := fun x hx => by simpa using hW'.lt x (by simp [hx])
  have hsp := hspec ds (trodAll_lens hA).2
  refine ⟨_, rfl, ds, [], p ++ [], [], p, [], hW', ?_, ?_, ?_, hB.frame _, fun h => by cases h⟩
  · rw [List.append_nil, hsp, hres]
    exact trodAll_cons_mk (shut_bool htb _) trodAll_mk0
  · rw [List.append_nil, hsp]
    exact trodAll_keep hlaid hB hrd hA hlt
  · rw [List.append_nil, hsp, hvars]
    rfl

end Go.Sx
