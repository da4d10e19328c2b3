/- Regions: the operations of a statement, in the text's order and in whatever order its edges allow. -/
import Derived.Test.YtjkbnanffneogaaSxP
namespace Go.Sx
open Go.RowKit

inductive KV where
  | f (x : Option SV)
  | h (x : Option (Option Ob))

def State.get (σ : State) : Key → KV
  | .f t => .f (σ.F t)
  | .h o => .h (σ.H o)

theorem Rd.agree {α : Type} {σ σ' : State} : ∀ (r : Rd α), (∀ κ ∈ r.keys σ, σ'.get κ = σ.get κ) → r.run σ' = r.run σ
  | .ret x, _ => rfl
  | .fail, _ => rfl
  | .f t k, hh => by
    have h1 : σ'.F t = σ.F t := by have := hh (.f t) (by simp [Rd.keys]); simpa [State.get] using this
    simp only [Rd.run, h1]
    cases hF : σ.F t with
    | none => rfl
    | some sv => exact Rd.agree (k sv) fun κ hκ => hh κ (by simp [Rd.keys, hF, hκ])
  | .h o k, hh => by
    have h1 : σ'.H o = σ.H o := by have := hh (.h o) (by simp [Rd.keys]); simpa [State.get] using this
    simp only [Rd.run, h1]
    cases hH : σ.H o with
    | none => rfl
    | some x =>
      cases x with
      | none => rfl
      | some ob => exact Rd.agree (k ob) fun κ hκ => hh κ (by simp [Rd.keys, hH, hκ])
  | .abs o k, hh => by
    have h1 : σ'.H o = σ.H o := by have := hh (.h o) (by simp [Rd.keys]); simpa [State.get] using this
    simp only [Rd.run, h1]
    cases hH : σ.H o with
    | none => exact Rd.agree k fun κ hκ => hh κ (by simp [Rd.keys, hκ])
    | some x => rfl

/-- States that read alike. -/
theorem StE.ext {C : Cx} {σ σ' : State} (h : ∀ κ, σ'.get κ = σ.get κ) {a : Act} {w : World} (hs : StE C σ a w) : StE C σ' a w := by
  have hF : ∀ t, σ'.F t = σ.F t := fun t => by have := h (.f t); simpa [State.get] using this
  have hH : ∀ o, σ'.H o = σ.H o := fun o => by have := h (.h o); simpa [State.get] using this
  exact StE.eqv hF hH hs

/-- A test. -/
def BrP (b : Bool) (A B : Prop) : Prop :=
  match b with
  | true => A
  | false => B

def AndO (p : Option Prop) (A : Prop) : Prop :=
  match p with
  | none => A
  | some q => q ∧ A

structure Ent where
  rd : List Key
  wr : List Key

def dstOk (N : Nat) (o : Oper) : Bool :=
  match o.dst with
  | none => true
  | some d => Nat.blt d N

/-- Does the operation's guard let it run? -/
def gd (ops : Array Oper) (σ : State) (o : Oper) : Option Bool :=
  match o.guard with
  | none => some true
  | some (j, want) => match ops[j]? with
    | none => none
    | some oj => match oj.dst with
      | none => none
      | some t => match σ.F t with
        | some (.c (.bool b)) => match b, want with
          | true, true => some true
          | true, false => some false
          | false, true => some false
          | false, false => some true
        | some (.c .und) => some false
        | _ => none

def gkeys (ops : Array Oper) (o : Oper) : List Key :=
  match o.guard with
  | none => []
  | some (j, _) => match ops[j]? with
    | none => []
    | some oj => match oj.dst with
      | none => []
      | some t => [.f t]

def dkeys (o : Oper) : List Key :=
  match o.dst with
  | none => []
  | some d => [.f d]

def isSrc (i : Nat) (d : Option Nat) : List Oper → Bool
  | [] => false
  | o :: rest => (match o.guard with
      | some (j, _) => Nat.beq j i
      | none => false) || (match o.op, d with
      | .pick (.tmp t) _ _, some d => Nat.beq t d
      | _, _ => false) || isSrc i d rest

def hkeys (l : List (Nat × Option Ob)) : List Key := l.map fun p => .h p.1

def regX (P : Program) (Γ : FuncId → Option Ctr) (wr : Nat → Bool) (N : Nat) (ops : Array Oper) : List Oper → Nat → State → List Ent → (State → List Ent → Prop) → Prop
  | [], _, σ, es, K => K σ es
  | o :: rest, i, σ, es, K =>
    match dstOk N o with
    | false => False
    | true => match gd ops σ o with
      | none => False
      | some false => regX P Γ wr N ops rest (i + 1) (σ.app o.dst ⟨.c .und, [], none⟩) (es ++ [⟨gkeys ops o, dkeys o⟩]) K
      | some true => match (sop P Γ wr o).run σ with
        | none => False
        | some ⟨val, hp, owed⟩ => AndO owed (match isSrc i o.dst rest with
          | false => regX P Γ wr N ops rest (i + 1) (σ.app o.dst ⟨val, hp, none⟩) (es ++ [⟨gkeys ops o ++ (sop P Γ wr o).keys σ, dkeys o ++ hkeys hp⟩]) K
          | true => match val with
            | .c (.bool b) => BrP b
                (regX P Γ wr N ops rest (i + 1) (σ.app o.dst ⟨.c (.bool true), hp, none⟩) (es ++ [⟨gkeys ops o ++ (sop P Γ wr o).keys σ, dkeys o ++ hkeys hp⟩]) K)
                (regX P Γ wr N ops rest (i + 1) (σ.app o.dst ⟨.c (.bool false), hp, none⟩) (es ++ [⟨gkeys ops o ++ (sop P Γ wr o).keys σ, dkeys o ++ hkeys hp⟩]) K)
            | _ => False)

/-- One operation's step, in any state that agrees with σ on what it reads. -/
def StepOk (C : Cx) (ops : Array Oper) (i : Nat) (o : Oper) (σ : State) (eff : Eff) (e : Ent) : Prop :=
  (∀ κ, κ ∉ e.wr → ∀ τ : State, (τ.app o.dst eff).get κ = τ.get κ) ∧ (∀ κ ∈ e.wr, ∀ τ τ' : State, (τ.app o.dst eff).get κ = (τ'.app o.dst eff).get κ) ∧
  ∀ τ : State, (∀ κ ∈ e.rd, τ.get κ = σ.get κ) → ∀ a w, StE C τ a w → ∀ Q, wpOp C.P ops Q i (fun a' w' => StE C (τ.app o.dst eff) a' w') a w

/-- A run in the text's order. -/
inductive Run (C : Cx) (ops : Array Oper) : List Oper → Nat → State → List Ent → State → Prop
  | nil {i : Nat} {σ : State} : Run C ops [] i σ [] σ
  | cons {o : Oper} {rest : List Oper} {i : Nat} {σ σ' : State} {eff : Eff} {e : Ent} {es : List Ent} (h : StepOk C ops i o σ eff e) (t : Run C ops rest (i + 1) (σ.app o.dst eff) es σ') : Run C ops (o :: rest) i σ (e :: es) σ'

section
variable {C : Cx}

theorem app_get {σ : State} {dst : Option Nat} {eff : Eff} {κ : Key} : (σ.app dst eff).get κ = match κ with
    | .f t => if dst = some t then .f (some eff.val) else σ.get (.f t)
    | .h o => match lk eff.hp o with | some x => .h (some x) | none => σ.get (.h o) := by
  cases κ with
  | f t => simp only [State.get, F_app]; split <;> rfl
  | h o =>
    simp only [State.get, H_app]
    cases lk eff.hp o <;> rfl

theorem lk_some_mem {α : Type} : ∀ {l : List (Nat × α)} {o : Nat} {x : α}, lk l o = some x → o ∈ l.map (·.1)
  | [], o, x, h => by simp [lk] at h
  | (k, v) :: l, o, x, h => by
    rw [lk_cons] at h
    split at h
    · rename_i hk; simp [hk]
    · have := lk_some_mem h; simp at this ⊢; exact .inr this

theorem lk_mem_some {α : Type} : ∀ {l : List (Nat × α)} {o : Nat}, o ∈ l.map (·.1) → ∃ x, lk l o = some x
  | [], o, h => by simp at h
  | (k, v) :: l, o, h => by
    rw [lk_cons]
    by_cases hk : k = o
    · exact ⟨v, by simp [hk]⟩
    · rw [if_neg hk]
      have h : o = k ∨ o ∈ l.map (·.1) := by simpa using h
      exact lk_mem_some (h.resolve_left (Ne.symm hk))

theorem wr_keys {dst : Option Nat} {eff : Eff} {o : Oper} (hd : o.dst = dst) (rd : List Key) :
    (∀ κ, κ ∉ (Ent.mk rd (dkeys o ++ hkeys eff.hp)).wr → ∀ τ : State, (τ.app dst eff).get κ = τ.get κ) ∧
    (∀ κ ∈ (Ent.mk rd (dkeys o ++ hkeys eff.hp)).wr, ∀ τ τ' : State, (τ.app dst eff).get κ = (τ'.app dst eff).get κ) := by
  constructor
  · intro κ hκ τ
    simp only [List.mem_append, not_or] at hκ
    rw [app_get]
    cases κ with
    | f t =>
      have : ¬ dst = some t := fun hc => hκ.1 (by simp [dkeys, hd, hc])
      simp only [this, if_false]
    | h x =>
      cases hx : lk eff.hp x with
      | none => simp only [hx]
      | some y =>
        exfalso
        apply hκ.2
        have := lk_some_mem hx
        simp only [hkeys, List.mem_map] at this ⊢
        obtain ⟨p, hp, rfl⟩ := this
        exact ⟨p, hp, rfl⟩
  · intro κ hκ τ τ'
    rw [app_get, app_get]
    simp only [List.mem_append] at hκ
    cases κ with
    | f t =>
      have : dst = some t := by
        rcases hκ with h1 | h1
        · unfold dkeys at h1
          rw [hd] at h1
          cases dst with
          | none => simp at h1
          | some d => simp at h1; rw [h1]
        · simp [hkeys] at h1
      simp only [this, if_true]
    | h x =>
      have hx : x ∈ eff.hp.map (·.1) := by
        rcases hκ with h1 | h1
        · unfold dkeys at h1
          split at h1 <;> simp at h1
        · simp only [hkeys, List.mem_map] at h1 ⊢
          obtain ⟨p, hp, h2⟩ := h1
          cases h2
          exact ⟨p, hp, rfl⟩
      obtain ⟨y, hy⟩ := lk_mem_some hx
      simp only [hy]

theorem dstOk_ok {N : Nat} {o : Oper} (h : dstOk N o = true) : ∀ d, o.dst = some d → d < N := by
  intro d hd
  unfold dstOk at h
  rw [hd] at h
  simpa using h

theorem tmp_at {σ : State} {a : Act} {w : World} {mu : Nat → Img} (h : St C σ mu a w) {t : Nat} {sv : SV} (ht : σ.F t = some sv) (hlt : t < C.N) : a.tmps[t]? = some (a.tmps.getD t undef) := by
  have : t < a.tmps.size := by rw [h.sz]; exact hlt
  have _ := ht
  simp [Array.getD, this]

/-- What the guard says is what the run does. -/
theorem gd_wanted {ops : Array Oper} {o : Oper} {σ : State} {b : Bool} (hg : gd ops σ o = some b) {a : Act} {w : World} {mu : Nat → Img} (h : St C σ mu a w) :
    Region.wanted o (yielded ops a.tmps) = b := by
  have yld : ∀ {j t : Nat} {oj : Oper} {v : Value}, ops[j]? = some oj → oj.dst = some t → a.tmps.getD t undef = v → (∀ c, v ≠ .bool c) → yielded ops a.tmps j = none := fun {j t oj v} h3 h4 h1 h2 => by
    unfold yielded
    rw [h3, Option.bind_some, h4, Option.bind_some]
    cases hx : a.tmps[t]? with
    | none => rfl
    | some u =>
      have : u = v := by rw [← h1]; simp [Array.getD_eq_getD_getElem?, hx]
      subst this
      cases u <;> first | rfl | exact absurd rfl (h2 _)
  have yldb : ∀ {j t : Nat} {oj : Oper} {c : Bool}, ops[j]? = some oj → oj.dst = some t → a.tmps.getD t undef = .bool c → yielded ops a.tmps j = some c := fun {j t oj c} h3 h4 h1 => by
    unfold yielded
    rw [h3, Option.bind_some, h4, Option.bind_some]
    cases hx : a.tmps[t]? with
    | none => simp [Array.getD_eq_getD_getElem?, hx, undef] at h1
    | some u =>
      have : u = .bool c := by rw [← h1]; simp [Array.getD_eq_getD_getElem?, hx]
      subst this; rfl
  unfold gd at hg
  unfold Region.wanted
  split at hg
  · rename_i hn
    cases hg
    rw [hn]
  · rename_i j want hjw
    rw [hjw]
    split at hg
    · cases hg
    · rename_i oj hoj
      split at hg
      · cases hg
      · rename_i t ht
        split at hg
        · rename_i c hc
          have hv : a.tmps.getD t undef = .bool c := h.fr t _ hc
          simp only [yldb hoj ht hv]
          cases c <;> cases want <;> cases hg <;> rfl
        · rename_i hc
          cases hg
          have hv : a.tmps.getD t undef = undef := h.fr t _ hc
          simp only [yld hoj ht hv (fun c hc => by cases hc)]
          cases want <;> rfl
        · cases hg

theorem gd_agree {ops : Array Oper} {o : Oper} {σ τ : State} (h : ∀ κ ∈ gkeys ops o, τ.get κ = σ.get κ) : gd ops τ o = gd ops σ o := by
  unfold gd
  unfold gkeys at h
  cases hg : o.guard with
  | none => rfl
  | some p =>
    obtain ⟨j, want⟩ := p
    rw [hg] at h
    simp only at h ⊢
    cases hj : ops[j]? with
    | none => rfl
    | some oj =>
      rw [hj] at h
      simp only at h ⊢
      cases hd : oj.dst with
      | none => rfl
      | some t =>
        rw [hd] at h
        have : τ.F t = σ.F t := by have := h (.f t) (by simp); simpa [State.get] using this
        simp only [this]

theorem step_skip {ops : Array Oper} {i : Nat} {o : Oper} {σ : State} (hi : ops[i]? = some o) (hd : dstOk C.N o = true) (hg : gd ops σ o = some false) :
    StepOk C ops i o σ ⟨.c .und, [], none⟩ ⟨gkeys ops o, dkeys o⟩ := by
  have hk := wr_keys (eff := ⟨.c .und, [], none⟩) (dst := o.dst) (o := o) rfl (gkeys ops o)
  simp only [hkeys, List.map_nil, List.append_nil] at hk
  refine ⟨hk.1, hk.2, fun τ hτ a w hs Q => ?_⟩
  obtain ⟨wG, mu, hgf, h⟩ := hs
  have hw := gd_wanted (gd_agree hτ |>.trans hg) h
  unfold wpOp
  rw [hi]
  simp only [hw]
  exact StE.up hgf (St.ex (h.put_pure (dstOk_ok hd) rfl rfl))

theorem step_run {Γ : FuncId → Option Ctr} (hΓ : GOk C.P Γ) {wr : Nat → Bool} {ops : Array Oper} {i : Nat} {o : Oper} {σ : State} {eff eff' : Eff} (hi : ops[i]? = some o) (hd : dstOk C.N o = true) (hg : gd ops σ o = some true)
    (hr : (sop C.P Γ wr o).run σ = some eff) (hob : eff.obl) (hval : eff'.val = eff.val) (hhp : eff'.hp = eff.hp) :
    StepOk C ops i o σ eff' ⟨gkeys ops o ++ (sop C.P Γ wr o).keys σ, dkeys o ++ hkeys eff.hp⟩ := by
  have hk := wr_keys (eff := eff') (dst := o.dst) (o := o) rfl (gkeys ops o ++ (sop C.P Γ wr o).keys σ)
  rw [hhp] at hk
  refine ⟨hk.1, hk.2, fun τ hτ a w hs Q => ?_⟩
  obtain ⟨wG, mu, hgf, h⟩ := hs
  have hw := gd_wanted (gd_agree (fun κ hκ => hτ κ (List.mem_append.2 (.inl hκ))) |>.trans hg) h
  have hrun := (Rd.agree (sop C.P Γ wr o) fun κ hκ => hτ κ (List.mem_append.2 (.inr hκ))).trans hr
  have happ : τ.app o.dst eff' = τ.app o.dst eff := by simp [State.app, hval, hhp]
  unfold wpOp
  rw [hi]
  simp only [hw, if_true]
  refine .inl ?_
  rw [happ]
  exact Oper.wp_mono (fun a w h => StE.up hgf h) (sop_ok (C := C.fz wG) hΓ hrun hob h (dstOk_ok hd) Q)

theorem andO_split {p : Option Prop} {A : Prop} (h : AndO p A) {val : SV} {hp : List (Nat × Option Ob)} : (Eff.mk val hp p).obl ∧ A := by
  cases p with
  | none => exact ⟨trivial, h⟩
  | some q => exact h

/-- A region's symbolic run is a run. -/
theorem regX_run {Γ : FuncId → Option Ctr} (hΓ : GOk C.P Γ) {wr : Nat → Bool} {ops : Array Oper} {K : State → List Ent → Prop} :
    ∀ (l : List Oper) (i : Nat) (σ : State) (es : List Ent), (∀ j : Nat, l[j]? = ops[i + j]?) → regX C.P Γ wr C.N ops l i σ es K → ∃ es' σ', Run C ops l i σ es' σ' ∧ K σ' (es ++ es')
  | [], i, σ, es, _, h => ⟨[], σ, .nil, by rw [List.append_nil]; exact h⟩
  | o :: rest, i, σ, es, hl, h => by
    have hi : ops[i]? = some o := by have := hl 0; simpa using this.symm
    have hl' : ∀ j : Nat, rest[j]? = ops[i + 1 + j]? := fun j => by have := hl (j + 1); rw [show i + 1 + j = i + (j + 1) by omega, ← this]; simp
    have go : ∀ (eff : Eff) (e : Ent), StepOk C ops i o σ eff e → regX C.P Γ wr C.N ops rest (i + 1) (σ.app o.dst eff) (es ++ [e]) K → ∃ es' σ', Run C ops (o :: rest) i σ es' σ' ∧ K σ' (es ++ es') := fun eff e h1 h2 => by
      obtain ⟨es', σ', h3, h4⟩ := regX_run hΓ rest (i + 1) _ _ hl' h2
      exact ⟨e :: es', σ', .cons h1 h3, by simpa using h4⟩
    unfold regX at h
    split at h
    · exact h.elim
    · rename_i hd
      split at h
      · exact h.elim
      · rename_i hg
        exact go _ _ (step_skip hi hd hg) h
      · rename_i hg
        split at h
        · exact h.elim
        · rename_i val hp owed hr
          obtain ⟨hob, h2⟩ := andO_split (val := val) (hp := hp) h
          clear h
          split at h2
          · exact go _ _ (step_run hΓ hi hd hg hr hob rfl rfl) h2
          · split at h2
            · rename_i b
              cases b with
              | true => exact go _ _ (step_run hΓ hi hd hg hr hob rfl rfl) h2
              | false => exact go _ _ (step_run hΓ hi hd hg hr hob rfl rfl) h2
            · exact h2.elim

theorem wpOp_K {P : Program} {ops : Array Oper} {Q : Exit → Act → World → Prop} {i : Nat} {rest : List Nat} {a : Act} {w : World} {K : Act → World → Prop} (h : wpOp P ops Q i K a w) (hk : ∀ a w, K a w → wpOps P ops Q rest a w) :
    wpOps P ops Q (i :: rest) a w := by
  rw [wpOps_cons]; exact wpOp_mono hk h

/-- In the text's order. -/
theorem run_text {ops : Array Oper} {Q : Exit → Act → World → Prop} : ∀ {l : List Oper} {i : Nat} {σ σ' : State} {es : List Ent}, Run C ops l i σ es σ' → ∀ a w, StE C σ a w → (∀ a w, StE C σ' a w → Q .normal a w) →
    wpOps C.P ops Q (List.range' i l.length) a w := by
  intro l i σ σ' es h
  induction h with
  | nil => intro a w hs hq; exact hq a w hs
  | cons h t ih =>
    intro a w hs hq
    rw [List.length_cons, List.range'_succ]
    exact wpOp_K (h.2.2 _ (fun _ _ => rfl) a w hs Q) fun a w hs' => ih a w hs' hq

end
end Go.Sx
