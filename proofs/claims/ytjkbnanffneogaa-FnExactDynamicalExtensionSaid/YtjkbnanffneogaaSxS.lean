/- One symbolic state stands for another. -/
import Derived.Test.YtjkbnanffneogaaSxR
namespace Go.Sx
open Go.RowKit

/-- Which old object a new name means; none: a new empty one. -/
abbrev Ren := List (Nat × Option Nat)

def conj : List Prop → Prop
  | [] => True
  | p :: l => match l with
    | [] => p
    | q :: r => p ∧ conj (q :: r)

theorem conj_cons {p : Prop} {l : List Prop} : conj (p :: l) ↔ p ∧ conj l := by
  cases l <;> simp [conj]

theorem conj_append {l l' : List Prop} : conj (l ++ l') ↔ conj l ∧ conj l' := by
  induction l with
  | nil => simp [conj]
  | cons p l ih => rw [List.cons_append, conj_cons, conj_cons, ih, and_assoc]

def bindR (ρ : Ren) (new : Nat) (old : Option Nat) : Option Ren :=
  match lk ρ new with
  | none => some ((new, old) :: ρ)
  | some x => match x, old with
    | some a, some b => match Nat.beq a b with
      | true => some ρ
      | false => none
    | none, none => some ρ
    | _, _ => none

def subFC : FC → FC → Option Prop
  | .int k n, .int k' n' => if k = k' then some (n = n') else none
  | .bool b, .bool b' => some (b = b')
  | .str l, .str l' => some (l = l')
  | .ints k l, .ints k' l' => if k = k' then some (l = l') else none
  | .bools l, .bools l' => some (l = l')
  | .rows k l, .rows k' l' => if k = k' then some (l = l') else none
  | .r3 k l, .r3 k' l' => if k = k' then some (l = l') else none
  | .r4 k l, .r4 k' l' => if k = k' then some (l = l') else none
  | _, _ => none

/-- The length of a live object that is no box. -/
def lens (σ : State) (o : Nat) : Option Nat :=
  match σ.H o with
  | some (some ob) => ob.len?
  | _ => none

/-- The rows of a live object stand as at this version. -/
def fresh (σ : State) (o v : Nat) : Bool :=
  match σ.H o with
  | some (some ob) => Nat.beq ob.shp.ver v
  | _ => false

def subC (σ : State) (ρ : Ren) (c n : SC) : Option (Ren × List Prop) :=
  match n with
  | .any => some (ρ, [])
  | .und => match c with
    | .und => some (ρ, [])
    | _ => none
  | .int k' x' => match c with
    | .int k x => if k = k' then some (ρ, [x = x']) else none
    | _ => none
  | .bool x' => match c with
    | .bool x => some (ρ, [x = x'])
    | _ => none
  | .str x' => match c with
    | .str x => some (ρ, [x = x'])
    | _ => none
  | .nil => match c with
    | .nil => some (ρ, [])
    | _ => none
  | .own o' => match c with
    | .own o => match bindR ρ o' (some o) with
      | some ρ' => some (ρ', [])
      | none => none
    | .nil => match bindR ρ o' none with
      | some ρ' => some (ρ', [])
      | none => none
    | _ => none
  | .pre o' x' => match c with
    | .pre o x => match bindR ρ o' (some o) with
      | some ρ' => some (ρ', [x = x'])
      | none => none
    | .own o => match lens σ o with
      | some L => match bindR ρ o' (some o) with
        | some ρ' => some (ρ', [L = x'])
        | none => none
      | none => none
    | .nil => match bindR ρ o' none with
      | some ρ' => some (ρ', [x' = 0])
      | none => none
    | _ => none
  | .sub o' y' x' => match c with
    | .sub o y x => match bindR ρ o' (some o) with
      | some ρ' => some (ρ', [y = y', x = x'])
      | none => none
    | .pre o x => match bindR ρ o' (some o) with
      | some ρ' => some (ρ', [0 = y', x = x'])
      | none => none
    | .own o => match lens σ o with
      | some L => match bindR ρ o' (some o) with
        | some ρ' => some (ρ', [0 = y', L = x'])
        | none => none
      | none => none
    | _ => none
  | .ptr o' x' => match c with
    | .ptr o x => match bindR ρ o' (some o) with
      | some ρ' => match Nat.beq x x' with
        | true => some (ρ', [])
        | false => none
      | none => none
    | _ => none
  | .row o' v' x' => match c with
    | .row o v x => match Nat.beq v' 0 && fresh σ o v with
      | true => match bindR ρ o' (some o) with
        | some ρ' => some (ρ', [x = x'])
        | none => none
      | false => none
    | _ => none
  | .ro d' => match c with
    | .ro d => match subFC d d' with
      | some p => some (ρ, [p])
      | none => none
    | .own o => match σ.H o with
      | some (some (.frz d)) => match subFC d d' with
        | some p => some (ρ, [p])
        | none => none
      | _ => none
    | .pre o n => match σ.H o with
      | some (some (.frz d)) => match takeFC 0 n d with
        | some d0 => match subFC d0 d' with
          | some p => some (ρ, [p])
          | none => none
        | none => none
      | _ => none
    | .sub o off n => match σ.H o with
      | some (some (.frz d)) => match takeFC off n d with
        | some d0 => match subFC d0 d' with
          | some p => some (ρ, [p])
          | none => none
        | none => none
      | _ => none
    | .nil => match isScal d' with
      | true => none
      | false => some (ρ, [d'.len = 0])
    | _ => none
  | .rob cs' x' => match c with
    | .rob cs x => some (ρ, [cs = cs', x = x'])
    | _ => none
  | .orig o' j' d' => match c with
    | .orig o j d => match Nat.beq j j' && fresh σ o 0 with
      | true => match bindR ρ o' (some o) with
        | some ρ' => match subFC d d' with
          | some p => some (ρ', [p])
          | none => none
        | none => none
      | false => none
    | _ => none
  | _ => none

def subCs (σ : State) : Ren → List SC → List SC → Option (Ren × List Prop)
  | ρ, [], [] => some (ρ, [])
  | ρ, c :: cs, n :: ns => match subC σ ρ c n with
    | some (ρ', ps) => match subCs σ ρ' cs ns with
      | some (ρ'', qs) => some (ρ'', ps ++ qs)
      | none => none
    | none => none
  | _, _, _ => none

def subV (σ : State) (ρ : Ren) (v n : SV) : Option (Ren × List Prop) :=
  match v, n with
  | .c c, .c d => subC σ ρ c d
  | .agg cs, .agg ns => subCs σ ρ cs ns
  | .fn f cs, .fn f' ns => match Nat.beq f f' with
    | true => subCs σ ρ cs ns
    | false => none
  | .fv F, .fv F' => some (ρ, [F = F'])
  | .fvs o F, .fvs o' F' => match bindR ρ o' (some o) with
    | some ρ' => some (ρ', [F = F'])
    | none => none
  | _, _ => none

def subF (σ : State) : Ren → List (Nat × SV) → Option (Ren × List Prop)
  | ρ, [] => some (ρ, [])
  | ρ, (t, n) :: l => match σ.F t with
    | some v => match subV σ ρ v n with
      | some (ρ', ps) => match subF σ ρ' l with
        | some (ρ'', qs) => some (ρ'', ps ++ qs)
        | none => none
      | none => none
    | none => none

def subO (σ : State) (pinned : Bool) (ρ : Ren) (ob n : Ob) : Option (Ren × List Prop) :=
  match ob, n with
  | .box cs, .box ns => subCs σ ρ cs ns
  | .ints e k l, .ints e' k' l' => if e = e' ∧ k = k' then some (ρ, [l = l']) else none
  | .bools e l, .bools e' l' => if e = e' then some (ρ, [l = l']) else none
  | .strs e l, .strs e' l' => if e = e' then some (ρ, [l = l']) else none
  | .rows v e ei k l, .rows v' e' ei' k' l' => if e = e' ∧ ei = ei' ∧ k = k' ∧ (pinned = true → v ≤ v') then some (ρ, [l = l']) else none
  | .lst v e d, .lst v' e' d' => if e = e' ∧ (pinned = true → v ≤ v') then (match subFC d d' with | some p => some (ρ, [p]) | none => none) else none
  | .mp l, .mp l' => some (ρ, [l = l'])
  | .tr v es d, .tr v' es' d' => match eqNs es es' with
    | true => if pinned = true → v ≤ v' then (match subFC d d' with | some p => some (ρ, [p]) | none => none) else none
    | false => none
  | .qu e k l, .qu e' k' l' => if e = e' ∧ k = k' then some (ρ, [l = l']) else none
  | .ints e k l, .qu e' k' l' => if e = e' ∧ k = k' then some (ρ, [l = l']) else none
  | _, _ => none

def nilO (n : Ob) : Option Prop :=
  match n with
  | .ints _ _ l => some (l = [])
  | .bools _ l => some (l = [])
  | .rows _ _ _ _ l => some (l = [])
  | .lst _ _ d => some (d.len = 0)
  | _ => none

def subH (σ : State) (pins : List Nat) : Ren → List (Nat × Option Ob) → Option (Ren × List Prop)
  | ρ, [] => some (ρ, [])
  | _, (_, none) :: _ => none
  | ρ, (o', some n) :: l => match lk ρ o' with
    | some (some o) => match σ.H o with
      | some (some ob) => match subO σ (!(notIn o' pins)) ρ ob n with
        | some (ρ', ps) => match subH σ pins ρ' l with
          | some (ρ'', qs) => some (ρ'', ps ++ qs)
          | none => none
        | none => none
      | _ => none
    | some none => match nilO n with
      | some p => match subH σ pins ρ l with
        | some (ρ'', qs) => some (ρ'', p :: qs)
        | none => none
      | none => none
    | none => none

def olds : Ren → List Nat
  | [] => []
  | (_, some o) :: l => o :: olds l
  | (_, none) :: l => olds l

def keysIn (hp : List (Nat × Option Ob)) : Ren → Bool
  | [] => true
  | (k, _) :: l => (match lk hp k with
      | some (some _) => true
      | _ => false) && keysIn hp l

def pinsIn (ρ : Ren) : List Nat → Bool
  | [] => true
  | p :: l => (match lk ρ p with
      | some (some q) => Nat.beq q p
      | _ => false) && pinsIn ρ l

/-- What must hold for the state n to stand for σ. -/
def subS (σ n : State) (pins : List Nat) : Option (List Prop) :=
  match subF σ (pins.map fun p => (p, some p)) n.fr with
  | none => none
  | some (ρ, ps) => match subH σ pins ρ n.hp with
    | none => none
    | some (ρ', qs) => match nodupB (olds ρ') && keysIn n.hp ρ' && pinsIn ρ' pins && nodupB (ρ'.map (·.1)) with
      | true => some (ps ++ qs)
      | false => none

def fzCv (σ : State) (o : Nat) : List (Nat × Option Ob) :=
  match σ.H o with
  | some (some ob) => match ob.isFz with
    | true => []
    | false => match frzD ob with
      | some d => [(o, some (.frz d))]
      | none => []
  | _ => []

def lstCv (σ : State) (o : Nat) : List (Nat × Option Ob) :=
  match σ.H o with
  | some (some (.rows v e _ k l)) => [(o, some (.lst (v + 1) e (.rows k l)))]
  | _ => []

/-- What must be given up for a cell to stand for another one. -/
def cvC (σ n : State) (c d : SC) : List (Nat × Option Ob) :=
  match c, d with
  | .own o, .ro _ => fzCv σ o
  | .pre o _, .ro _ => fzCv σ o
  | .sub o _ _, .ro _ => fzCv σ o
  | .own o, .own o' => match n.H o' with
    | some (some (.lst _ _ _)) => lstCv σ o
    | _ => []
  | _, _ => []

def cvCs (σ n : State) : List SC → List SC → List (Nat × Option Ob)
  | c :: cs, d :: ds => cvC σ n c d ++ cvCs σ n cs ds
  | _, _ => []

def cvV (σ n : State) (v d : SV) : List (Nat × Option Ob) :=
  match v, d with
  | .c c, .c d => match c, d with
    | .ptr o _, .ptr o' _ => match σ.H o, n.H o' with
      | some (some (.box cs)), some (some (.box ns)) => cvCs σ n cs ns
      | _, _ => []
    | c, d => cvC σ n c d
  | .agg cs, .agg ns => cvCs σ n cs ns
  | _, _ => []

def cvF (σ n : State) : List (Nat × SV) → List (Nat × Option Ob)
  | [] => []
  | (t, d) :: l => match σ.F t with
    | some v => cvV σ n v d ++ cvF σ n l
    | none => cvF σ n l

/-- Each object once. -/
def onceK : List (Nat × Option Ob) → List (Nat × Option Ob)
  | [] => []
  | (o, x) :: l => match notIn o ((onceK l).map (·.1)) with
    | true => (o, x) :: onceK l
    | false => onceK l

/-- The state, with what n wants given up. -/
def preSt (σ n : State) : State := ⟨σ.fr, onceK (cvF σ n n.fr) ++ σ.hp⟩

/-- What a renaming keeps. -/
def REx (ρ ρ' : Ren) : Prop := ∀ o x, lk ρ o = some x → lk ρ' o = some x

theorem REx.refl (ρ : Ren) : REx ρ ρ := fun _ _ h => h
theorem REx.trans {a b c : Ren} (h : REx a b) (k : REx b c) : REx a c := fun o x hx => k o x (h o x hx)

theorem bindR_ok {ρ ρ' : Ren} {n : Nat} {o : Option Nat} (h : bindR ρ n o = some ρ') : REx ρ ρ' ∧ lk ρ' n = some o := by
  unfold bindR at h
  split at h
  · rename_i hn
    cases h
    refine ⟨fun x y hx => ?_, by simp [lk_cons]⟩
    rw [lk_cons]
    split
    · rename_i hnx; subst hnx; rw [hn] at hx; cases hx
    · exact hx
  · rename_i x hx
    split at h
    · split at h
      · rename_i hab
        cases h
        rw [Nat.eq_of_beq_eq_true hab] at hx
        exact ⟨.refl _, hx⟩
      · cases h
    · cases h; exact ⟨.refl _, hx⟩
    · cases h

theorem subFC_eq {d d' : FC} {p : Prop} (h : subFC d d' = some p) (hp : p) : d = d' := by
  unfold subFC at h
  split at h
  · split at h
    · rename_i hk; cases h; rw [hk, hp]
    · cases h
  · cases h; rw [hp]
  · cases h; rw [hp]
  · split at h
    · rename_i hk; cases h; rw [hk, hp]
    · cases h
  · cases h; rw [hp]
  · split at h
    · rename_i hk; cases h; rw [hk, hp]
    · cases h
  · split at h
    · rename_i hk; cases h; rw [hk, hp]
    · cases h
  · split at h
    · rename_i hk; cases h; rw [hk, hp]
    · cases h
  · cases h

theorem nil_len {d : FC} (hs : isScal d = false) (h : d.len = 0) (w : World) : Reads w (.slice none 0 0) d := by
  have key : ∀ (R : Nat → Value → Prop), SliceOf w (.slice none 0 0) 0 R := fun R => ⟨_, _, rfl, Nat.le_refl _, fun h0 => by omega⟩
  cases d with
  | int k n => cases hs
  | bool b => cases hs
  | str l => cases hs
  | _ => rename_i l; cases l <;> first | exact key _ | (simp [FC.len] at h)

section
variable {C : Cx} {σ n : State} {mu mu' : Nat → Img} {a : Act} {w : World}

/-- What the renaming says of the objects. -/
def RenOk (σ n : State) (mu mu' : Nat → Img) (ρ : Ren) : Prop :=
  ∀ o' x, lk ρ o' = some x → ∃ nb, n.H o' = some (some nb) ∧ nb.isFz = false ∧ match x with
    | some o => ∃ ob, σ.H o = some (some ob) ∧ ob.isFz = false ∧ nb.shp.len = ob.shp.len ∧ mu' o' = mu o ∧ ∀ L, ob.len? = some L → ViewV (mu o).hd 0 L (mu o).hd ∧ ob.shp.len = L
    | none => mu' o' = ⟨.slice none 0 0, []⟩

theorem subC_ok {ρ ρ' : Ren} {c d : SC} {ps : List Prop} (h : subC σ ρ c d = some (ρ', ps)) (hp : conj ps) : REx ρ ρ' ∧ ∀ ρf, REx ρ' ρf → RenOk σ n mu mu' ρf → ∀ v, RepC (σ.env C.wF mu) c v → RepC (n.env C.wF mu') d v := by
  have ref : ∀ {o' o : Nat} {ρ'}, bindR ρ o' (some o) = some ρ' → ∀ {p q : Shp → Prop} {p2 q2 : FC → Prop} {v}, (∀ s s', s'.len = s.len → mu' o' = mu o → p s → q s') → ∀ ρf, REx ρ' ρf → RenOk σ n mu mu' ρf → RefOn (σ.env C.wF mu) o v p p2 → RefOn (n.env C.wF mu') o' v q q2 := fun {o' o ρ'} hb {p q p2 q2 v} hpq ρf hex hro hv => by
    obtain ⟨nb, h1, h1f, ob, h2, h2f, h3, h4, _⟩ := hro o' _ (hex _ _ (bindR_ok hb).2)
    have := on_live h2 hv
    exact rep_live h1 hv.1 (hpq _ _ h3 h4 this)
  have own : ∀ {o' o L : Nat} {ρ'}, lens σ o = some L → bindR ρ o' (some o) = some ρ' → ∀ {v} {ρf} {q2 : FC → Prop}, REx ρ' ρf → RenOk σ n mu mu' ρf → RepC (σ.env C.wF mu) (.own o) v → RefOn (n.env C.wF mu') o' v (fun s => L ≤ s.len ∧ ViewV (mu' o').hd 0 L v) q2 := fun {o' o L ρ'} hL hb {v ρf q2} hex hro hv => by
    obtain ⟨nb, h1, h1f, ob, h2, h2f, h3, h4, h5⟩ := hro o' _ (hex _ _ (bindR_ok hb).2)
    have := on_live h2 hv
    unfold lens at hL
    rw [h2] at hL
    obtain ⟨h6, h7⟩ := h5 L hL
    refine rep_live h1 hv.1 ⟨by rw [h3, h7]; exact Nat.le_refl _, ?_⟩
    rw [h4, show v = (mu o).hd from this]
    exact h6
  unfold subC at h
  split at h
  · cases h; exact ⟨.refl _, fun _ _ _ _ _ => trivial⟩
  · split at h
    · cases h; exact ⟨.refl _, fun _ _ _ v hv => hv⟩
    · cases h
  · split at h
    · split at h
      · rename_i hk; cases h; exact ⟨.refl _, fun _ _ _ v hv => by simp only [RepC] at hv ⊢; rw [hv, hk, show _ = _ from hp]⟩
      · cases h
    · cases h
  · split at h
    · cases h; exact ⟨.refl _, fun _ _ _ v hv => by simp only [RepC] at hv ⊢; rw [hv, show _ = _ from hp]⟩
    · cases h
  · split at h
    · cases h; exact ⟨.refl _, fun _ _ _ v hv => by simp only [RepC] at hv ⊢; rw [hv, show _ = _ from hp]⟩
    · cases h
  · split at h
    · cases h; exact ⟨.refl _, fun _ _ _ v hv => hv⟩
    · cases h
  · split at h
    · split at h
      · rename_i hb
        cases h
        exact ⟨(bindR_ok hb).1, fun ρf hex hro v hv => ref hb (p := fun _ => v = (mu _).hd) (fun s s' _ h2 h3 => by show v = (mu' _).hd; rw [h2]; exact h3) ρf hex hro hv⟩
      · cases h
    · split at h
      · rename_i hb
        cases h
        refine ⟨(bindR_ok hb).1, fun ρf hex hro v hv => ?_⟩
        obtain ⟨nb, h1, h1f, h2⟩ := hro _ _ (hex _ _ (bindR_ok hb).2)
        simp only [RepC] at hv
        subst hv
        refine rep_live h1 rfl ?_
        show _ = (mu' _).hd
        rw [show mu' _ = _ from h2]
      · cases h
    · cases h
  · split at h
    · split at h
      · rename_i hb
        cases h
        exact ⟨(bindR_ok hb).1, fun ρf hex hro v hv => ref hb (p := fun s => _ ≤ s.len ∧ ViewV (mu _).hd 0 _ v) (fun s s' h1 h2 h3 => by
          rw [← show _ = _ from hp]
          show _ ≤ s'.len ∧ ViewV (mu' _).hd 0 _ v
          rw [h2, h1]; exact h3) ρf hex hro hv⟩
      · cases h
    · split at h
      · rename_i hL
        split at h
        · rename_i hb
          cases h
          exact ⟨(bindR_ok hb).1, fun ρf hex hro v hv => by
            have hp : _ = _ := hp
            subst hp
            exact own hL hb hex hro hv⟩
        · cases h
      · cases h
    · split at h
      · rename_i hb
        cases h
        refine ⟨(bindR_ok hb).1, fun ρf hex hro v hv => ?_⟩
        obtain ⟨nb, h1, h1f, h2⟩ := hro _ _ (hex _ _ (bindR_ok hb).2)
        simp only [RepC] at hv
        subst hv
        refine rep_live h1 rfl ⟨by rw [show _ = _ from hp]; exact Nat.zero_le _, .inl ⟨?_, rfl, rfl, hp⟩⟩
        show (mu' _).hd = _
        rw [show mu' _ = _ from h2]
      · cases h
    · cases h
  · split at h
    · split at h
      · rename_i hb
        cases h
        obtain ⟨hp1, hp2⟩ := conj_cons.1 hp
        exact ⟨(bindR_ok hb).1, fun ρf hex hro v hv => ref hb (p := fun s => _ + _ ≤ s.len ∧ ViewV (mu _).hd _ _ v) (fun s s' h1 h2 h3 => by
          rw [← hp1, ← show _ = _ from hp2]
          show _ + _ ≤ s'.len ∧ ViewV (mu' _).hd _ _ v
          rw [h2, h1]; exact h3) ρf hex hro hv⟩
      · cases h
    · split at h
      · rename_i hb
        cases h
        obtain ⟨hp1, hp2⟩ := conj_cons.1 hp
        exact ⟨(bindR_ok hb).1, fun ρf hex hro v hv => ref hb (p := fun s => _ ≤ s.len ∧ ViewV (mu _).hd 0 _ v) (fun s s' h1 h2 h3 => by
          rw [← hp1, ← show _ = _ from hp2]
          show 0 + _ ≤ s'.len ∧ ViewV (mu' _).hd 0 _ v
          rw [h2, h1, Nat.zero_add]; exact h3) ρf hex hro hv⟩
      · cases h
    · split at h
      · rename_i hL
        split at h
        · rename_i hb
          cases h
          obtain ⟨hp1, hp2⟩ := conj_cons.1 hp
          exact ⟨(bindR_ok hb).1, fun ρf hex hro v hv => by
            have hp1 : 0 = _ := hp1
            have hp2 : _ = _ := hp2
            subst hp1
            subst hp2
            show RefOn _ _ _ (fun s => 0 + _ ≤ s.len ∧ _) _
            rw [Nat.zero_add]
            exact own hL hb hex hro hv⟩
        · cases h
      · cases h
    · cases h
  · split at h
    · split at h
      · rename_i hb
        split at h
        · rename_i hx
          cases h
          have hx := Nat.eq_of_beq_eq_true hx
          exact ⟨(bindR_ok hb).1, fun ρf hex hro v hv => ref hb (p := fun s => _ < s.len ∧ ∃ b, hdBlock (mu _).hd = some b ∧ v = .pointer (some ⟨b, _, none⟩)) (fun s s' h1 h2 h3 => by
            rw [← hx]
            show _ < s'.len ∧ ∃ b, hdBlock (mu' _).hd = some b ∧ v = .pointer (some ⟨b, _, none⟩)
            rw [h2, h1]; exact h3) ρf hex hro hv⟩
        · cases h
      · cases h
    · cases h
  · split at h
    · split at h
      · rename_i hf
        split at h
        · rename_i hb
          cases h
          rw [Bool.and_eq_true] at hf
          have hz := Nat.eq_of_beq_eq_true hf.1
          refine ⟨(bindR_ok hb).1, fun ρf hex hro v hv => ?_⟩
          obtain ⟨nb, h1, h1f, ob, h2, h2f, h3, h4, _⟩ := hro _ _ (hex _ _ (bindR_ok hb).2)
          have hfr := hf.2
          unfold fresh at hfr
          rw [h2] at hfr
          have h5 := Nat.eq_of_beq_eq_true hfr
          have h6 := on_live h2 hv
          refine rep_live h1 hv.1 ⟨by rw [hz]; exact Nat.zero_le _, fun _ => ?_⟩
          rw [h3, ← show _ = _ from hp]
          show (mu' _).ins[_]? = some v ∧ _
          rw [h4]
          exact h6.2 h5
        · cases h
      · cases h
    · cases h
  · split at h
    · split at h
      · rename_i hd
        cases h
        have := subFC_eq hd hp
        subst this
        exact ⟨.refl _, fun _ _ _ v hv => hv⟩
      · cases h
    · split at h
      · rename_i ho
        split at h
        · rename_i hd
          cases h
          have := subFC_eq hd hp
          subst this
          refine ⟨.refl _, fun _ _ _ v hv => ?_⟩
          have h2 := hv.2
          have e : (σ.env C.wF mu).st _ = .frz _ := ost_frz ho
          rw [e] at h2
          exact h2
        · cases h
      · cases h
    · split at h
      · rename_i ho
        split at h
        · rename_i ht
          split at h
          · rename_i hd
            cases h
            have := subFC_eq hd hp
            subst this
            refine ⟨.refl _, fun _ _ _ v hv => ?_⟩
            have h2 := hv.2
            have e : (σ.env C.wF mu).st _ = .frz _ := ost_frz ho
            rw [e] at h2
            obtain ⟨d', q1, q2⟩ := h2
            rw [ht] at q1; cases q1
            exact q2
          · cases h
        · cases h
      · cases h
    · split at h
      · rename_i ho
        split at h
        · rename_i ht
          split at h
          · rename_i hd
            cases h
            have := subFC_eq hd hp
            subst this
            refine ⟨.refl _, fun _ _ _ v hv => ?_⟩
            have h2 := hv.2
            have e : (σ.env C.wF mu).st _ = .frz _ := ost_frz ho
            rw [e] at h2
            obtain ⟨d', q1, q2⟩ := h2
            rw [ht] at q1; cases q1
            exact q2
          · cases h
        · cases h
      · cases h
    · split at h
      · cases h
      · rename_i hs
        cases h
        refine ⟨.refl _, fun _ _ _ v hv => ?_⟩
        simp only [RepC] at hv
        subst hv
        exact ⟨⟨_, _, _, rfl, Nat.le_refl _⟩, nil_len hs hp _⟩
    · cases h
  · split at h
    · cases h
      obtain ⟨hp1, hp2⟩ := conj_cons.1 hp
      have hp2 : _ = _ := hp2
      subst hp1; subst hp2
      exact ⟨.refl _, fun _ _ _ v hv => hv⟩
    · cases h
  · split at h
    · split at h
      · rename_i hf
        split at h
        · rename_i hb
          split at h
          · rename_i hd
            cases h
            have := subFC_eq hd hp
            subst this
            rw [Bool.and_eq_true] at hf
            have hj := Nat.eq_of_beq_eq_true hf.1
            refine ⟨(bindR_ok hb).1, fun ρf hex hro v hv => ⟨hv.1, ?_⟩⟩
            obtain ⟨nb, h1, h1f, ob, h2, h2f, h3, h4, _⟩ := hro _ _ (hex _ _ (bindR_ok hb).2)
            have hfr := hf.2
            unfold fresh at hfr
            rw [h2] at hfr
            have h5 := Nat.eq_of_beq_eq_true hfr
            have h6 := on_live h2 hv.2
            refine rep_live h1 hv.2.1 fun _ => ?_
            show (mu' _).ins[_]? = _
            rw [h4, ← hj]
            exact h6 h5
          · cases h
        · cases h
      · cases h
    · cases h
  · cases h

theorem subCs_ok : ∀ {cs ns : List SC} {ρ ρ' : Ren} {ps : List Prop}, subCs σ ρ cs ns = some (ρ', ps) → conj ps → REx ρ ρ' ∧ ns.length = cs.length ∧ ∀ ρf, REx ρ' ρf → RenOk σ n mu mu' ρf → ∀ arr, RepL (σ.env C.wF mu) cs arr → RepL (n.env C.wF mu') ns arr
  | [], [], ρ, ρ', ps, h, hp => by
    simp only [subCs] at h; cases h
    exact ⟨.refl _, rfl, fun _ _ _ arr ha => ⟨ha.1, fun i c hc => by simp at hc⟩⟩
  | [], _ :: _, ρ, ρ', ps, h, _ => by simp [subCs] at h
  | _ :: _, [], ρ, ρ', ps, h, _ => by simp [subCs] at h
  | c :: cs, d :: ns, ρ, ρ', ps, h, hp => by
    simp only [subCs] at h
    split at h
    · rename_i ρ1 ps1 h1
      split at h
      · rename_i ρ2 qs h2
        cases h
        obtain ⟨hp1, hp2⟩ := conj_append.1 hp
        obtain ⟨k1, k2⟩ := subC_ok (C := C) (σ := σ) (n := n) (mu := mu) (mu' := mu') h1 hp1
        obtain ⟨m1, m2, m3⟩ := subCs_ok h2 hp2
        refine ⟨k1.trans m1, by simp [m2], fun ρf hex hro arr ha => ⟨by rw [ha.1]; simp [m2], fun i x hx => ?_⟩⟩
        have tl : RepL (σ.env C.wF mu) cs (arr.extract 1 arr.size) := by
          have hsz := ha.1
          simp only [List.length_cons] at hsz
          refine ⟨by simp [hsz], fun j y hy => ?_⟩
          obtain ⟨u, q1, q2⟩ := ha.2 (j + 1) y (by simpa using hy)
          have hlt : j + 1 < arr.size := (Array.getElem?_eq_some_iff.1 q1).1
          refine ⟨u, ?_, q2⟩
          rw [Array.getElem?_extract, if_pos (by omega), Nat.add_comm 1 j]
          exact q1
        cases i with
        | zero =>
          simp at hx; subst hx
          obtain ⟨u, q1, q2, q3⟩ := ha.2 0 c rfl
          exact ⟨u, q1, q2, k2 ρf (m1.trans hex) hro u q3⟩
        | succ i =>
          obtain ⟨u, q1, q2⟩ := (m3 ρf hex hro _ tl).2 i x (by simpa using hx)
          refine ⟨u, ?_, q2⟩
          have hlt := (Array.getElem?_eq_some_iff.1 q1).1
          simp at hlt
          rw [Array.getElem?_extract, if_pos (by omega), Nat.add_comm 1 i] at q1
          exact q1
      · cases h
    · cases h

theorem subV_ok {ρ ρ' : Ren} {v d : SV} {ps : List Prop} (h : subV σ ρ v d = some (ρ', ps)) (hp : conj ps) : REx ρ ρ' ∧ ∀ ρf, REx ρ' ρf → RenOk σ n mu mu' ρf → ∀ u, RepV C.P (σ.env C.wF mu) v u → RepV C.P (n.env C.wF mu') d u := by
  unfold subV at h
  split at h
  · exact subC_ok h hp
  · obtain ⟨h1, _, h2⟩ := subCs_ok (C := C) (σ := σ) (n := n) (mu := mu) (mu' := mu') h hp
    refine ⟨h1, fun ρf hex hro u hu => ?_⟩
    obtain ⟨arr, rfl, ha⟩ := hu
    exact ⟨arr, rfl, h2 ρf hex hro arr ha⟩
  · split at h
    · rename_i hf
      obtain ⟨h1, _, h2⟩ := subCs_ok (C := C) (σ := σ) (n := n) (mu := mu) (mu' := mu') h hp
      refine ⟨h1, fun ρf hex hro u hu => ?_⟩
      obtain ⟨arr, rfl, ha⟩ := hu
      exact ⟨arr, by rw [Nat.eq_of_beq_eq_true hf], h2 ρf hex hro arr ha⟩
    · cases h
  · cases h
    have hp : _ = _ := hp
    subst hp
    exact ⟨.refl _, fun _ _ _ u hu => hu⟩
  · rename_i o F o' F'
    cases hb : bindR ρ o' (some o) with
    | none => simp [hb] at h
    | some ρ1 =>
      simp [hb] at h
      obtain ⟨rfl, rfl⟩ := h
      have hp : F = F' := hp
      subst hp
      refine ⟨(bindR_ok hb).1, fun ρf hex hro u hu => ?_⟩
      have hu : RefOn _ _ _ _ := hu
      obtain ⟨nb, h1, h1f, ob, h2, h2f, h3, h4, _⟩ := hro o' _ (hex _ _ (bindR_ok hb).2)
      obtain ⟨b, hb1, hb2⟩ := on_live h2 hu
      exact rep_live h1 hu.1 ⟨b, (show (mu' o').hd = _ by rw [h4]; exact hb1), hb2⟩
  · cases h

theorem subF_ok : ∀ {l : List (Nat × SV)} {ρ ρ' : Ren} {ps : List Prop}, subF σ ρ l = some (ρ', ps) → conj ps → REx ρ ρ' ∧ ∀ ρf, REx ρ' ρf → RenOk σ n mu mu' ρf → ∀ t d, lk l t = some d → ∃ v, σ.F t = some v ∧ ∀ u, RepV C.P (σ.env C.wF mu) v u → RepV C.P (n.env C.wF mu') d u
  | [], ρ, ρ', ps, h, hp => by
    simp only [subF] at h; cases h
    exact ⟨.refl _, fun _ _ _ t d ht => by simp [lk] at ht⟩
  | (t0, d0) :: l, ρ, ρ', ps, h, hp => by
    simp only [subF] at h
    split at h
    · rename_i v hv
      split at h
      · rename_i ρ1 ps1 h1
        split at h
        · rename_i ρ2 qs h2
          cases h
          obtain ⟨hp1, hp2⟩ := conj_append.1 hp
          obtain ⟨k1, k2⟩ := subV_ok (C := C) (σ := σ) (n := n) (mu := mu) (mu' := mu') h1 hp1
          obtain ⟨m1, m2⟩ := subF_ok h2 hp2
          refine ⟨k1.trans m1, fun ρf hex hro t d ht => ?_⟩
          rw [lk_cons] at ht
          split at ht
          · rename_i htt; subst htt; cases ht
            exact ⟨v, hv, k2 ρf (m1.trans hex) hro⟩
          · exact m2 ρf hex hro t d ht
        · cases h
      · cases h
    · cases h

/-- What the objects' limb says. -/
theorem subO_ok {pd : Bool} {ρ ρ' : Ren} {ob nb : Ob} {ps : List Prop} (h : subO σ pd ρ ob nb = some (ρ', ps)) (hp : conj ps) : REx ρ ρ' ∧ (nb.shp.len = ob.shp.len ∧ nb.isFz = false ∧ ob.isFz = false) ∧ (pd = true → ob.shp.ver ≤ nb.shp.ver) ∧
    ∀ ρf, REx ρ' ρf → RenOk σ n mu mu' ρf → ∀ m, RepO (σ.env C.wF mu) w m ob → RepO (n.env C.wF mu') w m nb := by
  unfold subO at h
  split at h
  · obtain ⟨h1, h2, h3⟩ := subCs_ok (C := C) (σ := σ) (n := n) (mu := mu) (mu' := mu') h hp
    refine ⟨h1, ⟨h2, rfl, rfl⟩, fun _ => Nat.le_refl _, fun ρf hex hro m hm => ?_⟩
    obtain ⟨b, arr, t, q1, q2, q3, q4⟩ := hm
    exact ⟨b, arr, t, q1, q2, q3, h3 ρf hex hro arr q4⟩
  · split at h
    · rename_i hk
      obtain ⟨rfl, rfl⟩ := hk
      cases h
      have hp : _ = _ := hp
      subst hp
      exact ⟨.refl _, ⟨rfl, rfl, rfl⟩, fun _ => Nat.le_refl _, fun _ _ _ m hm => hm⟩
    · cases h
  · split at h
    · rename_i hk
      subst hk
      cases h
      have hp : _ = _ := hp
      subst hp
      exact ⟨.refl _, ⟨rfl, rfl, rfl⟩, fun _ => Nat.le_refl _, fun _ _ _ m hm => hm⟩
    · cases h
  · split at h
    · rename_i hk
      subst hk
      cases h
      have hp : _ = _ := hp
      subst hp
      exact ⟨.refl _, ⟨rfl, rfl, rfl⟩, fun _ => Nat.le_refl _, fun _ _ _ m hm => hm⟩
    · cases h
  · split at h
    · rename_i hk
      obtain ⟨rfl, rfl, rfl, hv⟩ := hk
      cases h
      have hp : _ = _ := hp
      subst hp
      exact ⟨.refl _, ⟨rfl, rfl, rfl⟩, hv, fun _ _ _ m hm => hm⟩
    · cases h
  · split at h
    · rename_i hk
      obtain ⟨rfl, hv⟩ := hk
      split at h
      · rename_i hd
        cases h
        have := subFC_eq hd hp
        subst this
        exact ⟨.refl _, ⟨rfl, rfl, rfl⟩, hv, fun _ _ _ m hm => hm⟩
      · cases h
    · cases h
  · cases h
    have hp : _ = _ := hp
    subst hp
    exact ⟨.refl _, ⟨rfl, rfl, rfl⟩, fun _ => Nat.le_refl _, fun _ _ _ m hm => hm⟩
  · split at h
    · rename_i hes
      have hes := eqNs_ok hes
      subst hes
      split at h
      · rename_i hv
        split at h
        · rename_i hd
          cases h
          have := subFC_eq hd hp
          subst this
          exact ⟨.refl _, ⟨rfl, rfl, rfl⟩, hv, fun _ _ _ m hm => hm⟩
        · cases h
      · cases h
    · cases h
  · split at h
    · rename_i hk
      obtain ⟨rfl, rfl⟩ := hk
      cases h
      have hp : _ = _ := hp
      subst hp
      exact ⟨.refl _, ⟨rfl, rfl, rfl⟩, fun _ => Nat.le_refl _, fun _ _ _ m hm => hm⟩
    · cases h
  · split at h
    · rename_i hk
      obtain ⟨rfl, rfl⟩ := hk
      cases h
      have hp : _ = _ := hp
      subst hp
      exact ⟨.refl _, ⟨rfl, rfl, rfl⟩, fun _ => Nat.le_refl _, fun _ _ _ m hm => ⟨hm.1, q_of_own hm.2⟩⟩
    · cases h
  · cases h

theorem nilO_nf {nb : Ob} {p : Prop} (h : nilO nb = some p) : nb.isFz = false := by cases nb <;> first | rfl | cases h

theorem nilO_ok {nb : Ob} {p : Prop} (h : nilO nb = some p) (hp : p) (E : Env) : RepO E w ⟨.slice none 0 0, []⟩ nb := by
  unfold nilO at h
  split at h
  · cases h; have hp : _ = _ := hp; subst hp; exact ⟨rfl, World.ownsRow_nil _ _ _ _⟩
  · cases h; have hp : _ = _ := hp; subst hp; exact ⟨rfl, World.ownsRow_nil _ _ _ _⟩
  · cases h; have hp : _ = _ := hp; subst hp; exact ⟨World.ownsRow_nil _ _ _ _, rfl, fun i v r hi => by simp at hi⟩
  · cases h
    have hp : _ = _ := hp
    exact ⟨rfl, [], by rw [hp]; exact World.ownsRow_nil _ _ _ _, fun i u hi => by simp at hi⟩
  · cases h

theorem subH_ok {pins : List Nat} : ∀ {l : List (Nat × Option Ob)} {ρ ρ' : Ren} {ps : List Prop}, subH σ pins ρ l = some (ρ', ps) → conj ps → REx ρ ρ' ∧
    ∀ o' x, lk l o' = some x → ∃ nb, x = some nb ∧ nb.isFz = false ∧ ∃ y, lk ρ' o' = some y ∧ match y with
      | some o => ∃ ob, σ.H o = some (some ob) ∧ ob.isFz = false ∧ nb.shp.len = ob.shp.len ∧ (o' ∈ pins → ob.shp.ver ≤ nb.shp.ver) ∧ ∀ ρf, REx ρ' ρf → RenOk σ n mu mu' ρf → ∀ m, RepO (σ.env C.wF mu) w m ob → RepO (n.env C.wF mu') w m nb
      | none => ∀ E, RepO E w ⟨.slice none 0 0, []⟩ nb
  | [], ρ, ρ', ps, h, hp => by
    simp only [subH] at h; cases h
    exact ⟨.refl _, fun o' x hx => by simp [lk] at hx⟩
  | (_, none) :: _, ρ, ρ', ps, h, _ => by simp [subH] at h
  | (o0, some n0) :: l, ρ, ρ', ps, h, hp => by
    simp only [subH] at h
    split at h
    · rename_i o ho
      split at h
      · rename_i ob hob
        split at h
        · rename_i ρ1 ps1 h1
          split at h
          · rename_i ρ2 qs h2
            cases h
            obtain ⟨hp1, hp2⟩ := conj_append.1 hp
            obtain ⟨k1, k2, k3, k4⟩ := subO_ok (C := C) (σ := σ) (n := n) (mu := mu) (mu' := mu') (w := w) h1 hp1
            obtain ⟨m1, m2⟩ := subH_ok h2 hp2
            refine ⟨k1.trans m1, fun o' x hx => ?_⟩
            rw [lk_cons] at hx
            split at hx
            · rename_i hoo; subst hoo; cases hx
              refine ⟨n0, rfl, k2.2.1, some o, m1 _ _ (k1 _ _ ho), ob, hob, k2.2.2, k2.1, fun hpin => k3 ?_, fun ρf hex hro m hm => k4 ρf (m1.trans hex) hro m hm⟩
              cases hn : notIn o0 pins with
              | false => rfl
              | true => exact absurd hpin (notIn_ok hn)
            · exact m2 o' x hx
          · cases h
        · cases h
      · cases h
    · rename_i ho
      split at h
      · rename_i p hnil
        split at h
        · rename_i ρ2 qs h2
          cases h
          obtain ⟨hp1, hp2⟩ := conj_cons.1 hp
          obtain ⟨m1, m2⟩ := subH_ok h2 hp2
          refine ⟨m1, fun o' x hx => ?_⟩
          rw [lk_cons] at hx
          split at hx
          · rename_i hoo; subst hoo; cases hx
            exact ⟨n0, rfl, nilO_nf hnil, none, m1 _ _ ho, fun E => nilO_ok hnil hp1 E⟩
          · exact m2 o' x hx
        · cases h
      · cases h
    · cases h

theorem keysIn_ok {hp : List (Nat × Option Ob)} : ∀ {ρ : Ren}, keysIn hp ρ = true → ∀ o x, lk ρ o = some x → ∃ nb, lk hp o = some (some nb)
  | [], _, o, x, h => by simp [lk] at h
  | (k, y) :: ρ, hk, o, x, h => by
    simp only [keysIn, Bool.and_eq_true] at hk
    rw [lk_cons] at h
    split at h
    · rename_i hko; subst hko
      have := hk.1
      split at this
      · rename_i nb hnb; exact ⟨nb, hnb⟩
      · cases this
    · exact keysIn_ok hk.2 o x h

theorem pinsIn_ok {ρ : Ren} : ∀ {pins : List Nat}, pinsIn ρ pins = true → ∀ p ∈ pins, lk ρ p = some (some p)
  | [], _, p, h => by simp at h
  | q :: pins, hk, p, h => by
    simp only [pinsIn, Bool.and_eq_true] at hk
    rcases List.mem_cons.1 h with rfl | h
    · have := hk.1
      split at this
      · rename_i q hq; rw [hq, Nat.eq_of_beq_eq_true this]
      · cases this
    · exact pinsIn_ok hk.2 p h

theorem olds_mem : ∀ {ρ : Ren} {k o : Nat}, (k, some o) ∈ ρ → o ∈ olds ρ
  | [], _, _, h => by simp at h
  | (k', some o') :: ρ, k, o, h => by
    simp only [olds]
    rcases List.mem_cons.1 h with h | h
    · cases h; simp
    · exact List.mem_cons_of_mem _ (olds_mem h)
  | (k', none) :: ρ, k, o, h => by
    simp only [olds]
    rcases List.mem_cons.1 h with h | h
    · cases h
    · exact olds_mem h

theorem olds_inj : ∀ {ρ : Ren}, (olds ρ).Nodup → ∀ k k' o, (k, some o) ∈ ρ → (k', some o) ∈ ρ → (k, some o) = ((k', some o) : Nat × Option Nat)
  | [], _, k, k', o, h, _ => by simp at h
  | (q, none) :: ρ, hn, k, k', o, h, h' => by
    simp only [olds] at hn
    rcases List.mem_cons.1 h with h | h
    · cases h
    · rcases List.mem_cons.1 h' with h' | h'
      · cases h'
      · exact olds_inj hn k k' o h h'
  | (q, some x) :: ρ, hn, k, k', o, h, h' => by
    simp only [olds] at hn
    obtain ⟨h1, h2⟩ := List.nodup_cons.1 hn
    rcases List.mem_cons.1 h with h | h
    · rcases List.mem_cons.1 h' with h' | h'
      · rw [h, h']
      · cases h; exact absurd (olds_mem h') h1
    · rcases List.mem_cons.1 h' with h' | h'
      · cases h'; exact absurd (olds_mem h) h1
      · exact olds_inj h2 k k' o h h'

theorem lk_mem {α : Type} : ∀ {l : List (Nat × α)} {o : Nat} {x : α}, lk l o = some x → (o, x) ∈ l
  | [], o, x, h => by simp [lk] at h
  | (k, v) :: l, o, x, h => by
    rw [lk_cons] at h
    split at h
    · rename_i hk; subst hk; cases h; simp
    · exact List.mem_cons_of_mem _ (lk_mem h)

/-- THE WEAKENING. -/
theorem subS_ok {pins : List Nat} (hpins : ∀ o m, C.pin o = some m → o ∈ pins) {ps : List Prop} (hs : subS σ n pins = some ps) (hp : conj ps) (h : StE C σ a w) : StE C n a w := by
  obtain ⟨wG, mu, hgf, h⟩ := h
  unfold subS at hs
  split at hs
  · cases hs
  · rename_i ρ ps1 h1
    split at hs
    · cases hs
    · rename_i ρ' qs h2
      split at hs
      · rename_i hchk
        cases hs
        simp only [Bool.and_eq_true] at hchk
        obtain ⟨⟨⟨hn, hk⟩, hpi⟩, _⟩ := hchk
        obtain ⟨hp1, hp2⟩ := conj_append.1 hp
        let mu' : Nat → Img := fun o' => match lk ρ' o' with
          | some (some o) => mu o
          | some none => ⟨.slice none 0 0, []⟩
          | none => ⟨undef, []⟩
        obtain ⟨k1, k2⟩ := subF_ok (C := C.fz wG) (σ := σ) (n := n) (mu := mu) (mu' := mu') h1 hp1
        obtain ⟨m1, m2⟩ := subH_ok (C := C.fz wG) (σ := σ) (n := n) (mu := mu) (mu' := mu') (w := w) h2 hp2
        have hro : RenOk σ n mu mu' ρ' := fun o' x hx => by
          obtain ⟨nb, hnb⟩ := keysIn_ok hk o' x hx
          obtain ⟨nb', e1, e1f, y, e2, e3⟩ := m2 o' _ hnb
          cases e1
          have : y = x := Option.some.inj (e2.symm.trans hx)
          subst this
          refine ⟨nb, hnb, e1f, ?_⟩
          cases y with
          | some o =>
            obtain ⟨ob, q1, q1f, q2, _⟩ := e3
            exact ⟨ob, q1, q1f, q2, by simp only [mu', hx], fun L hL => own_view hL (h.ob o ob q1)⟩
          | none => simp only [mu', hx]
        have hob : ∀ o' nb, n.H o' = some (some nb) → (∃ o ob, lk ρ' o' = some (some o) ∧ σ.H o = some (some ob) ∧ mu' o' = mu o ∧ (nb.isFz = false ∧ ob.isFz = false) ∧ (o' ∈ pins → ob.shp.ver ≤ nb.shp.ver) ∧ RepO (n.env wG mu') w (mu' o') nb) ∨
            (lk ρ' o' = some none ∧ mu' o' = ⟨.slice none 0 0, []⟩ ∧ RepO (n.env wG mu') w (mu' o') nb) := fun o' nb hnb => by
          obtain ⟨nb', e1, e1f, y, e2, e3⟩ := m2 o' _ hnb
          cases e1
          cases y with
          | some o =>
            obtain ⟨ob, q1, q1f, q2, q3, q4⟩ := e3
            have hmu : mu' o' = mu o := by simp only [mu', e2]
            exact .inl ⟨o, ob, e2, q1, hmu, ⟨e1f, q1f⟩, q3, by rw [hmu]; exact q4 ρ' (.refl _) hro _ (h.ob o ob q1)⟩
          | none =>
            have hmu : mu' o' = ⟨.slice none 0 0, []⟩ := by simp only [mu', e2]
            exact .inr ⟨e2, hmu, by rw [hmu]; exact e3 _⟩
        refine ⟨wG, mu', hgf, h.os, h.tape, h.output, h.size, h.block, fun p u hp => ⟨fun o' nb ho hb => ?_, (h.cells p u hp).2⟩, h.sz, h.df, fun t sv ht => ?_, fun o' nb ho => ?_, fun o' nb ho => ?_, fun o1 o2 n1 n2 hne ho1 ho2 b hb hb' => ?_, fun o m hpm => ?_⟩
        · rcases hob o' nb ho with ⟨o, ob, _, q1, q2, _⟩ | ⟨_, q2, _⟩
          · rw [q2] at hb; exact (h.cells p u hp).1 o ob q1 hb
          · rw [q2] at hb; simp [Img.blocks, hdBlock] at hb
        · obtain ⟨v, q1, q2⟩ := k2 ρ' m1 hro t sv ht
          exact q2 _ (h.fr t v q1)
        · rcases hob o' nb ho with ⟨_, _, _, _, _, _, _, q⟩ | ⟨_, _, q⟩ <;> exact q
        · rcases hob o' nb ho with ⟨o, ob, _, q1, q2, _⟩ | ⟨_, q2, _⟩
          · rw [q2]; exact h.nd o ob q1
          · rw [q2]; simp [Img.blocks, hdBlock]
        · rcases hob o1 n1 ho1 with ⟨x1, y1, l1, q1, q2, _⟩ | ⟨_, q2, _⟩
          · rcases hob o2 n2 ho2 with ⟨x2, y2, l2, r1, r2, _⟩ | ⟨_, r2, _⟩
            · rw [q2] at hb; rw [r2] at hb'
              refine h.sep x1 x2 y1 y2 (fun hc => hne ?_) q1 r1 b hb hb'
              subst hc
              have := olds_inj (nodupB_ok hn) o1 o2 x1 (lk_mem l1) (lk_mem l2)
              simpa using this
            · rw [r2] at hb'; simp [Img.blocks, hdBlock] at hb'
          · rw [q2] at hb; simp [Img.blocks, hdBlock] at hb
        · have hop := hpins o m hpm
          have hlk := pinsIn_ok hpi o hop
          obtain ⟨nb, hnb⟩ := keysIn_ok hk o _ hlk
          have hH : n.H o = some (some nb) := hnb
          rcases hob o nb hH with ⟨x1, y1, l1, q1, q2, ⟨qf1, qf2⟩, q4, _⟩ | ⟨q1, _⟩
          · rw [ost_live hH qf1]
            have : x1 = o := by rw [hlk] at l1; cases l1; rfl
            subst this
            have h3 := h.pins x1 m hpm
            rw [ost_live q1 qf2] at h3
            rw [q2]
            exact ⟨h3.1, fun hv => h3.2 (by have := q4 hop; omega)⟩
          · rw [hlk] at q1; cases q1
      · cases hs

/-- A list of what may be given up, each object once. -/
def CvIn (σ : State) (l : List (Nat × Option Ob)) : Prop := ∀ o x, (o, x) ∈ l → ∃ ob ob', σ.H o = some (some ob) ∧ x = some ob' ∧ Cv ob ob'

theorem CvIn.app {l l' : List (Nat × Option Ob)} (h : CvIn σ l) (k : CvIn σ l') : CvIn σ (l ++ l') := fun o x hm => (List.mem_append.1 hm).elim (h o x) (k o x)

theorem CvIn.nil : CvIn σ [] := fun o x hm => by simp at hm

theorem fzCv_in {o : Nat} : CvIn σ (fzCv σ o) := by
  unfold fzCv
  split
  · rename_i ob ho
    split
    · exact .nil
    · split
      · rename_i d hd
        intro o' x hm
        simp at hm
        obtain ⟨rfl, rfl⟩ := hm
        exact ⟨ob, _, ho, rfl, .inl ⟨d, hd, rfl⟩⟩
      · exact .nil
  · exact .nil

theorem lstCv_in {o : Nat} : CvIn σ (lstCv σ o) := by
  unfold lstCv
  split
  · rename_i v e ei k l ho
    intro o' x hm
    simp at hm
    obtain ⟨rfl, rfl⟩ := hm
    exact ⟨_, _, ho, rfl, .inr ⟨v, e, ei, k, l, rfl, rfl⟩⟩
  · exact .nil

theorem cvC_in {c d : SC} : CvIn σ (cvC σ n c d) := by
  unfold cvC
  split
  · exact fzCv_in
  · exact fzCv_in
  · exact fzCv_in
  · split
    · exact lstCv_in
    · exact .nil
  · exact .nil

theorem cvCs_in : ∀ {cs ds : List SC}, CvIn σ (cvCs σ n cs ds)
  | [], _ => .nil
  | _ :: _, [] => .nil
  | _ :: _, _ :: _ => CvIn.app cvC_in cvCs_in

theorem cvV_in {v d : SV} : CvIn σ (cvV σ n v d) := by
  unfold cvV
  split
  · split
    · split
      · exact cvCs_in
      · exact .nil
    · exact cvC_in
  · exact cvCs_in
  · exact .nil

theorem cvF_in : ∀ {l : List (Nat × SV)}, CvIn σ (cvF σ n l)
  | [] => .nil
  | (t, d) :: l => by
    unfold cvF
    split
    · exact CvIn.app cvV_in cvF_in
    · exact cvF_in

theorem onceK_in : ∀ {l : List (Nat × Option Ob)}, CvIn σ l → CvIn σ (onceK l) ∧ ((onceK l).map (·.1)).Nodup
  | [], _ => ⟨.nil, by simp [onceK]⟩
  | (o, x) :: l, h => by
    obtain ⟨h1, h2⟩ := onceK_in (l := l) fun o' x' hm => h o' x' (List.mem_cons_of_mem _ hm)
    unfold onceK
    split
    · rename_i hn
      refine ⟨fun o' x' hm => ?_, ?_⟩
      · rcases List.mem_cons.1 hm with hm | hm
        · cases hm; exact h o x (List.mem_cons_self ..)
        · exact h1 o' x' hm
      · rw [List.map_cons]
        exact List.nodup_cons.2 ⟨notIn_ok hn, h2⟩
    · exact ⟨h1, h2⟩

theorem St.cvs (h : St C σ mu a w) : ∀ {fs : List (Nat × Option Ob)}, CvIn σ fs → (fs.map (·.1)).Nodup →
    ∃ wG mu', GrowF C wG ∧ St (C.fz wG) ⟨σ.fr, fs ++ σ.hp⟩ mu' a w ∧ EnvLe (σ.env C.wF mu) ((State.mk σ.fr (fs ++ σ.hp)).env wG mu')
  | [], _, _ => ⟨C.wF, mu, .refl C, h, EnvLe.refl _⟩
  | (o, x) :: fs, hc, hn => by
    rw [List.map_cons] at hn
    obtain ⟨n1, n2⟩ := List.nodup_cons.1 hn
    obtain ⟨wG, mu1, g1, s1, e1⟩ := St.cvs h (fs := fs) (fun o' x' hm => hc o' x' (List.mem_cons_of_mem _ hm)) n2
    obtain ⟨ob, ob', q1, rfl, q2⟩ := hc o x (List.mem_cons_self ..)
    have hno : ∀ x, (o, x) ∉ fs := fun x hm => n1 (List.mem_map.2 ⟨_, hm, rfl⟩)
    obtain ⟨wH, mu2, g2, s2, _, e2⟩ := s1.cv1 (by rw [fz_H hno]; exact q1) q2
    exact ⟨wH, mu2, g1.trans g2, s2, e1.trans e2⟩

theorem StE.cvs (h : StE C σ a w) {fs : List (Nat × Option Ob)} (hc : CvIn σ fs) : StE C ⟨σ.fr, onceK fs ++ σ.hp⟩ a w := by
  obtain ⟨wG, mu, hg, h⟩ := h
  obtain ⟨h1, h2⟩ := onceK_in hc
  obtain ⟨wH, mu1, g1, s1, _⟩ := h.cvs h1 h2
  exact ⟨wH, mu1, hg.trans g1, s1⟩

theorem preSt_ok (h : StE C σ a w) : StE C (preSt σ n) a w := h.cvs cvF_in

end
end Go.Sx
