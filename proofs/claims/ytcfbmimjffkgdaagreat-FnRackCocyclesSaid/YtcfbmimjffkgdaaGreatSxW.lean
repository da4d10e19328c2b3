/- SxW -/
import Derived.Test.YtcfbmimjffkgdaaGreatSxT
section
namespace Go.Sx
open Go.RowKit
def pid (i j : Nat) : Nat := 700 + 16 * i + j
def argC (mt : List (Nat × Nat)) (i j : Nat) (d : FC) : SC :=
  match memP i j mt with
  | true => .own (pid i j)
  | false => scOf d
def argCs (mt : List (Nat × Nat)) (i : Nat) : Nat → List FC → List SC
  | _, [] => []
  | j, d :: l => argC mt i j d :: argCs mt i (j + 1) l
def argS (mt : List (Nat × Nat)) (i : Nat) : AD → SV
  | .c d => .c (argC mt i 0 d)
  | .agg cs => .agg (argCs mt i 0 cs)
  | .box cs => match memP i 0 mt with
    | true => .c (.ptr (pid i 0) 0)
    | false => .c (.rob cs 0)
  | .fv F => .fv F
  | .fvs F _ => .fvs (pid i 0) F
def argFr (mt : List (Nat × Nat)) : Nat → List AD → List (Nat × SV)
  | _, [] => []
  | i, d :: l => (i, argS mt i d) :: argFr mt (i + 1) l
def cellOf (ds : List AD) (i j : Nat) : Option FC :=
  match ds[i]? with
  | some (.c d) => match j with
    | 0 => some d
    | _ + 1 => none
  | some (.agg cs) => cs[j]?
  | _ => none
def mkOb : FC → RC → Option Ob
  | .ints k l, .ints e k' _ => if k = k' then some (.ints e k l) else none
  | .bools l, .bools e _ => some (.bools e l)
  | .rows k l, .rows e ei k' _ => if k = k' then some (.rows 0 e ei k l) else none
  | .ints k l, .gone (.ints e k' _) => if k = k' then some (.ints e k l) else none
  | .rows k l, .gone (.rows e ei k' _) => if k = k' then some (.rows 0 e ei k l) else none
  | .rows k l, .gone (.lst e _) => some (.lst 0 e (.rows k l))
  | .r3 k l, .gone (.lst e _) => some (.lst 0 e (.r3 k l))
  | .r4 k l, .gone (.lst e _) => some (.lst 0 e (.r4 k l))
  | _, _ => none
def origCs (o : Nat) : Nat → List FC → List SC
  | _, [] => []
  | j, d :: l => (if isScal d then scOf d else .orig o j d) :: origCs o (j + 1) l
def boxOf (ds : List AD) (i j : Nat) : Option (List FC) :=
  match ds[i]? with
  | some (.box cs) => match j with
    | 0 => some cs
    | _ + 1 => none
  | some (.fvs _ s) => match j with
    | 0 => some [.int .i64 s]
    | _ + 1 => none
  | _ => none
def initO (ds : List AD) (i j : Nat) (rc : RC) : Option Ob :=
  match boxOf ds i j with
  | some cs => match rc with
    | .bx cs' => if cs'.length = cs.length ∧ cs ≠ [] then some (.box (origCs (pid i j) 0 cs)) else none
    | _ => none
  | none => match cellOf ds i j with
    | some d => mkOb d rc
    | none => none
def pinW : List (Nat × Nat) → List RC → List Nat
  | x :: mt, rc :: wrs => match rc.isGone with
    | true => pinW mt wrs
    | false => pid x.1 x.2 :: pinW mt wrs
  | _, _ => []
def pids (mt : List (Nat × Nat)) : List Nat := mt.map fun x => pid x.1 x.2
def initH (ds : List AD) : List (Nat × Nat) → List RC → Option (List (Nat × Option Ob))
  | [], [] => some []
  | x :: mt, rc :: wrs => match initO ds x.1 x.2 rc with
    | some ob => match initH ds mt wrs with
      | some l => some ((pid x.1 x.2, some ob) :: l)
      | none => none
    | none => none
  | _, _ => none
def rdRes (P : Program) (σ : State) : ResultVar → Option SV
  | .tmp t => σ.F t
  | .cell t T => match σ.F t with
    | some (.c cx) => match (sopLoad P T cx).run σ with
      | some e => some e.val
      | none => none
    | _ => none
/- What comes back, laid beside what was to come: the objects that are handed over, and what is to be shown. -/
def matchOb (i o : Nat) (ob : Ob) (rc : RC) : Option (List (Nat × Nat) × Prop) :=
  match ob with
  | .ints e k l => match rc with
    | .ints e' k' l' => if e = e' ∧ k = k' then some ([(i, o)], l = l') else none
    | _ => none
  | .bools e l => match rc with
    | .bools e' l' => if e = e' then some ([(i, o)], l = l') else none
    | _ => none
  | .rows _ e ei k l => match rc with
    | .rows e' ei' k' l' => if e = e' ∧ ei = ei' ∧ k = k' then some ([(i, o)], l = l') else none
    | .cut off n e' ei' k' l' => if e = e' ∧ ei = ei' ∧ k = k' then some ([(i, o)], 0 = off ∧ l.length = n ∧ l = l') else none
    | _ => none
  | .strs e l => match rc with
    | .strs e' l' => if e = e' then some ([(i, o)], l = l') else none
    | _ => none
  | .lst _ e d => match rc with
    | .lst e' d' => if e = e' then (match subFC d d' with | some p => some ([(i, o)], p) | none => none) else none
    | _ => none
  | .box _ => none
  | .bx _ => none
  | .frz _ => none
  | .mp _ => none
def matchPre (i o n : Nat) (ob : Ob) (rc : RC) : Option (List (Nat × Nat) × Prop) :=
  match ob with
  | .ints e k l => match rc with
    | .ints e' k' l' => if e = e' ∧ k = k' then some ([(i, o)], l.take n = l') else none
    | _ => none
  | .bools e l => match rc with
    | .bools e' l' => if e = e' then some ([(i, o)], l.take n = l') else none
    | _ => none
  | .rows _ e ei k l => match rc with
    | .cut off n' e' ei' k' l' => if e = e' ∧ ei = ei' ∧ k = k' then some ([(i, o)], 0 = off ∧ n = n' ∧ l = l') else none
    | _ => none
  | _ => none
def matchNil (rc : RC) : Option (List (Nat × Nat) × Prop) :=
  match rc with
  | .ints _ _ l => some ([], [] = l)
  | .bools _ l => some ([], [] = l)
  | .rows _ _ _ l => some ([], [] = l)
  | .nilq b => some ([], true = b)
  | .ro d => match isScal d with
    | true => none
    | false => some ([], d.len = 0)
  | .lst _ d => match isScal d with
    | true => none
    | false => some ([], d.len = 0)
  | _ => none
def roR : RC → Option FC
  | .ro d => some d
  | _ => none
def matchFz (ob : Ob) (cut : FC → Option FC) (d' : FC) : Option (List (Nat × Nat) × Prop) :=
  match ob with
  | .frz d => match cut d with
    | some d0 => match subFC d0 d' with
      | some p => some ([], p)
      | none => none
    | none => none
  | _ => none
def nqB : RC → Option Bool
  | .nilq b => some b
  | _ => none
def matchNew : List SC → List FC → Option Prop
  | [], [] => some True
  | .int k n :: cs, .int k' n' :: ds => if k = k' then (match matchNew cs ds with | some p => some (n = n' ∧ p) | none => none) else none
  | .bool b :: cs, .bool b' :: ds => (match matchNew cs ds with | some p => some (b = b' ∧ p) | none => none)
  | .ro d :: cs, d' :: ds => match subFC d d' with
    | some q => (match matchNew cs ds with | some p => some (q ∧ p) | none => none)
    | none => none
  | _, _ => none
def matchBx (o : Nat) : Nat → List SC → List FC → Option Prop
  | _, [], [] => some True
  | j, .int k n :: cs, .int k' n' :: ds => if k = k' then (match matchBx o (j + 1) cs ds with | some p => some (n = n' ∧ p) | none => none) else none
  | j, .bool b :: cs, .bool b' :: ds => (match matchBx o (j + 1) cs ds with | some p => some (b = b' ∧ p) | none => none)
  | j, .orig o' j' d :: cs, d' :: ds => match Nat.beq o' o && Nat.beq j' j with
    | true => match subFC d d' with
      | some q => if isScal d' = false then (match matchBx o (j + 1) cs ds with | some p => some (q ∧ p) | none => none) else none
      | none => none
    | false => none
  | _, _, _ => none
def bxD : RC → Option (List FC)
  | .bx ds => some ds
  | _ => none
def matchC (σ : State) (i : Nat) (c : SC) (rc : RC) : Option (List (Nat × Nat) × Prop) :=
  match c with
  | .int k n => match rc with
    | .int k' n' => if k = k' then some ([], n = n') else none
    | _ => none
  | .bool b => match rc with
    | .bool b' => some ([], b = b')
    | _ => none
  | .str l => match rc with
    | .str l' => some ([], l = l')
    | _ => none
  | .nil => matchNil rc
  | .own o => match σ.H o with
    | some (some ob) => match roR rc with
      | some d' => matchFz ob some d'
      | none => match nqB rc with
        | some b => match ob.len? with
          | some n => some ([], false = b ∧ n ≠ 0)
          | none => none
        | none => matchOb i o ob rc
    | _ => none
  | .pre o n => match σ.H o with
    | some (some ob) => match roR rc with
      | some d' => matchFz ob (takeFC 0 n) d'
      | none => matchPre i o n ob rc
    | _ => none
  | .sub o off n => match σ.H o with
    | some (some ob) => match roR rc with
      | some d' => matchFz ob (takeFC off n) d'
      | none => match ob with
        | .rows _ e ei k l => match rc with
          | .cut off' n' e' ei' k' l' => if e = e' ∧ ei = ei' ∧ k = k' then some ([(i, o)], off = off' ∧ n = n' ∧ l = l') else none
          | _ => none
        | _ => none
    | _ => none
  | .ptr o x => match x with
    | 0 => match σ.H o with
      | some (some (.box cs)) => match bxD rc with
        | some ds => match matchNew cs ds with
          | some p => some ([(i, o)], ds ≠ [] ∧ p)
          | none => none
        | none => none
      | _ => none
    | _ + 1 => none
  | .ro d => match rc with
    | .ro d' => match subFC d d' with
      | some p => some ([], p)
      | none => none
    | _ => none
  | _ => none
def matchL (σ : State) : Nat → List SC → List RC → Option (List (Nat × Nat) × Prop)
  | _, [], [] => some ([], True)
  | i, c :: cs, rc :: rcs => match matchC σ i c rc with
    | some (u, p) => match matchL σ (i + 1) cs rcs with
      | some (us, q) => some (u ++ us, p ∧ q)
      | none => none
    | none => none
  | _, _, _ => none
def matchS (σ : State) (i : Nat) (sv : SV) (x : RC ⊕ List RC) : Option (List (Nat × Nat) × Prop) :=
  match x with
  | .inl rc => match sv with
    | .c c => matchC σ i c rc
    | _ => none
  | .inr rcs => match sv with
    | .agg cs => if rcs.length ≤ 16 then matchL σ i cs rcs else none
    | _ => none
def matchT (σ : State) : Nat → List SV → List (RC ⊕ List RC) → Option (List (Nat × Nat) × Prop)
  | _, [], [] => some ([], True)
  | i, sv :: svs, x :: xs => match matchS σ (16 * i) sv x with
    | some (u, p) => match matchT σ (i + 1) svs xs with
      | some (us, q) => some (u ++ us, p ∧ q)
      | none => none
    | none => none
  | _, _, _ => none
def matchV (σ : State) (svs : List SV) (rv : RV) : Option (List (Nat × Nat) × Prop) :=
  match rv with
  | .c x => match svs with
    | [.c c] => matchC σ 0 c x
    | _ => none
  | .agg l => match svs with
    | [.agg cs] => matchL σ 0 cs l
    | _ => none
  | .tup l => match svs with
    | [_] => none
    | svs => matchT σ 0 svs l
def cvR (σ : State) (c : SC) (rc : RC) : List (Nat × Option Ob) :=
  match c, rc with
  | .own o, .ro _ => fzCv σ o
  | .pre o _, .ro _ => fzCv σ o
  | .sub o _ _, .ro _ => fzCv σ o
  | .own o, .lst _ _ => lstCv σ o
  | _, _ => []
def cvRL (σ : State) : List SC → List RC → List (Nat × Option Ob)
  | c :: cs, rc :: rcs => cvR σ c rc ++ cvRL σ cs rcs
  | _, _ => []
def cvRS (σ : State) (sv : SV) (x : RC ⊕ List RC) : List (Nat × Option Ob) :=
  match x with
  | .inl rc => match sv with
    | .c c => cvR σ c rc
    | _ => []
  | .inr rcs => match sv with
    | .agg cs => cvRL σ cs rcs
    | _ => []
def cvRT (σ : State) : List SV → List (RC ⊕ List RC) → List (Nat × Option Ob)
  | sv :: svs, x :: xs => cvRS σ sv x ++ cvRT σ svs xs
  | _, _ => []
def cvRV (σ : State) (svs : List SV) (rv : RV) : List (Nat × Option Ob) :=
  match rv with
  | .c x => match svs with
    | [sv] => cvRS σ sv (.inl x)
    | _ => []
  | .agg l => match svs with
    | [sv] => cvRS σ sv (.inr l)
    | _ => []
  | .tup l => cvRT σ svs l
def preRt (σ : State) (svs : List SV) (rv : RV) : State := ⟨σ.fr, onceK (cvRV σ svs rv) ++ σ.hp⟩
def matchW (o : Nat) (ob : Ob) (rc : RC) : Option Prop :=
  match ob with
  | .ints e k l => match rc with
    | .ints e' k' l' => if e = e' ∧ k = k' then some (l = l') else none
    | _ => none
  | .bools e l => match rc with
    | .bools e' l' => if e = e' then some (l = l') else none
    | _ => none
  | .rows ver e ei k l => match rc with
    | .rows e' ei' k' l' => if ver = 0 ∧ e = e' ∧ ei = ei' ∧ k = k' then some (l = l') else none
    | _ => none
  | .bx _ => none
  | .strs _ _ => none
  | .lst _ _ _ => none
  | .frz _ => none
  | .mp _ => none
  | .box cs => match bxD rc with
    | some ds => matchBx o 0 cs ds
    | none => none
def matchWs (σ : State) : List Nat → List RC → Option Prop
  | [], [] => some True
  | o :: os, rc :: rcs => match σ.H o with
    | some (some ob) => match matchW o ob rc with
      | some p => match matchWs σ os rcs with
        | some q => some (p ∧ q)
        | none => none
      | none => none
    | _ => none
  | _, _ => none
def noneOr (ps : List Nat) : List (Nat × Nat) → Bool
  | [] => true
  | (_, o) :: l => notIn o ps && noneOr ps l
def liveW : List RC → List RC
  | [] => []
  | rc :: l => match rc.isGone with
    | true => liveW l
    | false => rc :: liveW l
def finK (P : Program) (rvs : List ResultVar) (mt : List (Nat × Nat)) (p : Post) (e : Exit) (σ : State) : Prop :=
  match e with
  | .normal | .ret => match allSome (rdRes P σ) rvs with
    | none => False
    | some svs => match matchV (preRt σ svs p.ret) svs p.ret with
      | none => False
      | some (us, q) => match nodupB (us.map (·.2)) with
        | false => False
        | true => match noneOr (pinW mt p.wrs) us with
          | false => False
          | true => match matchWs (preRt σ svs p.ret) (pinW mt p.wrs) (liveW p.wrs) with
            | none => False
            | some q' => q ∧ q'
  | _ => False
def runF (P : Program) (Γ : FuncId → Option Ctr) (wr : Nat → Bool) (ann : Nat → Option Ann) (fn : Func) (c : Code) (mt : List (Nat × Nat)) (ds : List AD) (p : Post) : Prop :=
  match initH ds mt p.wrs with
  | none => False
  | some hp => exec ⟨P, Γ, wr, ds.length + (fn.ntmps - ds.length), pinW mt p.wrs⟩ c 0 ann ⟨argFr mt 0 ds, hp⟩ (finK P fn.results.toList mt p)
section
variable {C : Cx} {σ : State} {mu : Nat → Img} {a : Act} {w : World}
def valOf : List Value → Value
  | [v] => v
  | vs => .tuple vs.toArray
theorem loadVar_ok {P : Program} {T : TypeId} {x v : Value} (h : (Instr.loadAt T x).run P w = .ok v w) : (do loadVar T (← asAddr x) : Sem Value).run P w = .ok v w := by
  unfold Instr.loadAt at h
  cases x with
  | pointer a =>
    cases a with
    | some a => simpa [asAddr, Instr.sureAddr] using h
    | none => simp [Instr.sureAddr] at h
  | _ => simp [Instr.sureAddr] at h
def resOne (tmps : Array Value) : ResultVar → Sem Value
  | .tmp t => pure (tmps.getD t undef)
  | .cell p t => do loadVar t (← asAddr (tmps.getD p undef))
theorem rdRes_ok {r : ResultVar} {sv : SV} (hr : rdRes C.P σ r = some sv) (h : St C σ mu a w) :
    ∃ v, (resOne a.tmps r).run C.P w = .ok v w ∧ RepV C.P (σ.env C.wF mu) sv v := by
  cases r with
  | tmp t => exact ⟨_, rfl, h.fr t sv hr⟩
  | cell t T =>
    simp only [rdRes] at hr
    split at hr
    · rename_i cx hcx
      split at hr
      · rename_i e he
        cases hr
        obtain ⟨_, v, h1, h2⟩ := sopLoad_ok he (h.fr t _ hcx) h
        exact ⟨v, loadVar_ok h1, h2⟩
      · cases hr
    · cases hr
theorem results_ok {fn : Func} {svs : List SV} (hr : allSome (rdRes C.P σ) fn.results.toList = some svs) (h : St C σ mu a w) :
    ∃ vs : List Value, vs.length = svs.length ∧ (results fn a.tmps).run C.P w = .ok (valOf vs) w ∧
      ∀ (i : Nat) (sv : SV), svs[i]? = some sv → ∃ v, vs[i]? = some v ∧ RepV C.P (σ.env C.wF mu) sv v := by
  obtain ⟨hl, hs⟩ := allSome_spec hr
  have hex : ∀ r ∈ fn.results, ∃ v, (resOne a.tmps r).run C.P w = .ok v w ∧
      ∀ sv, rdRes C.P σ r = some sv → RepV C.P (σ.env C.wF mu) sv v := by
    intro r hm
    obtain ⟨i, hi⟩ := List.getElem?_of_mem (Array.mem_toList_iff.2 hm)
    have hlt : i < svs.length := by rw [hl]; exact (List.getElem?_eq_some_iff.1 hi).1
    obtain ⟨x, h1, h2⟩ := hs i _ (List.getElem?_eq_getElem hlt)
    rw [hi] at h1
    cases h1
    obtain ⟨v, h3, h4⟩ := rdRes_ok h2 h
    exact ⟨v, h3, fun sv hsv => by rw [h2] at hsv; cases hsv; exact h4⟩
  classical
  let g' : ResultVar → Value := fun r => if hm : r ∈ fn.results then Classical.choose (hex r hm) else undef
  have hg : ∀ r, (hm : r ∈ fn.results) → g' r = Classical.choose (hex r hm) := fun r hm => by simp only [g', hm, dite_true]
  have hmap := run_mapM_array (P := C.P) (w := w) (g := resOne a.tmps) (g' := g') fn.results
    (fun r hm => by rw [hg r hm]; exact (Classical.choose_spec (hex r hm)).1)
  refine ⟨fn.results.toList.map g', by simp [hl], ?_, fun i sv hi => ?_⟩
  · have hres : results fn a.tmps = (do let vs ← fn.results.mapM (resOne a.tmps); pure (if h : vs.size = 1 then vs[0] else .tuple vs)) := by
      unfold results
      congr 1
    rw [hres, Sem.run_bind, hmap]
    simp only [Result.andThen]
    generalize fn.results = rs
    obtain ⟨l⟩ := rs
    match l with
    | [] => simp [valOf]
    | [x] => simp [valOf]
    | x :: y :: l => simp [valOf]
  · obtain ⟨x, h1, h2⟩ := hs i sv hi
    have hm : x ∈ fn.results := Array.mem_toList_iff.1 (List.mem_of_getElem? h1)
    refine ⟨g' x, by rw [List.getElem?_map, h1]; rfl, ?_⟩
    rw [hg x hm]
    exact (Classical.choose_spec (hex x hm)).2 sv h2
end
end Go.Sx
end
section
namespace Go.Sx
open Go.RowKit
section
variable {Nw : Nat → Prop} {C : Cx} {σ : State} {mu : Nat → Img} {a : Act} {w : World}
def From (σ : State) (mu : Nat → Img) (us : List (Nat × Nat)) (i : Nat) (m : Img) : Prop :=
  ∀ b ∈ m.blocks, ∃ o ob, (i, o) ∈ us ∧ σ.H o = some (some ob) ∧ b ∈ (mu o).blocks
theorem From.mono {us us' : List (Nat × Nat)} {i : Nat} {m : Img} (h : From σ mu us i m) (hs : ∀ x ∈ us, x ∈ us') : From σ mu us' i m := fun b hb => by
  obtain ⟨o, ob, h1, h2, h3⟩ := h b hb
  exact ⟨o, ob, hs _ h1, h2, h3⟩
theorem from_nil {us : List (Nat × Nat)} {i : Nat} {v : Value} (hv : hdBlock v = none) : From σ mu us i ⟨v, []⟩ := fun b hb => by simp [Img.blocks, hv] at hb
theorem matchNew_ok : ∀ {cs : List SC} {ds : List FC} {p : Prop}, matchNew cs ds = some p → p → ds.length = cs.length ∧ ∀ (j : Nat) (d : FC), ds[j]? = some d → ∃ c, cs[j]? = some c ∧ ∀ (E E' : Env) (v : Value), E'.wF = E.wF → RepC E c v → RepC E' (scOf d) v
  | [], ds, p, h, _ => by
    cases ds with
    | nil => exact ⟨rfl, fun j d hj => by simp at hj⟩
    | cons d ds => simp [matchNew] at h
  | c :: cs, [], p, h, _ => by cases c <;> simp [matchNew] at h
  | c :: cs, d :: ds, p, h, hp => by
    have fin : ∀ {q : Prop}, matchNew cs ds = some q → q → (∀ (E E' : Env) (v : Value), E'.wF = E.wF → RepC E c v → RepC E' (scOf d) v) →
        (d :: ds).length = (c :: cs).length ∧ ∀ (j : Nat) (x : FC), (d :: ds)[j]? = some x → ∃ y, (c :: cs)[j]? = some y ∧ ∀ (E E' : Env) (v : Value), E'.wF = E.wF → RepC E y v → RepC E' (scOf x) v := fun {q} hq hq2 h0 => by
      obtain ⟨h1, h2⟩ := matchNew_ok hq hq2
      refine ⟨by simp [h1], fun j x hx => ?_⟩
      cases j with
      | zero => simp at hx; subst hx; exact ⟨c, rfl, h0⟩
      | succ j => simpa using h2 j x (by simpa using hx)
    unfold matchNew at h
    split at h
    · rename_i h1 h2; cases h1
    · rename_i h1 h2
      cases h1; cases h2
      split at h
      · rename_i hk
        subst hk
        split at h
        · rename_i q hq
          cases h
          exact fin hq hp.2 fun E E' v _ hv => by rw [← hp.1]; exact hv
        · cases h
      · cases h
    · rename_i h1 h2
      cases h1; cases h2
      split at h
      · rename_i q hq
        cases h
        exact fin hq hp.2 fun E E' v _ hv => by rw [← hp.1]; exact hv
      · cases h
    · rename_i h1 h2
      cases h1; cases h2
      split at h
      · rename_i q0 hq0
        split at h
        · rename_i q hq
          cases h
          have := subFC_eq hq0 hp.1
          subst this
          exact fin hq hp.2 fun E E' v he hv => (scOf_rep (E := E') (by rw [he]; exact hv.2)).1
        · cases h
      · cases h
    · cases h
theorem matchFz_ok {ob : Ob} {cut : FC → Option FC} {d' : FC} {us : List (Nat × Nat)} {p : Prop} (h : matchFz ob cut d' = some (us, p)) (hp : p) : ∃ d, ob = .frz d ∧ cut d = some d' ∧ us = [] := by
  unfold matchFz at h
  split at h
  · split at h
    · rename_i d0 h0
      split at h
      · rename_i p' hp'
        cases h
        have := subFC_eq hp' hp
        subst this
        exact ⟨_, rfl, h0, rfl⟩
      · cases h
    · cases h
  · cases h
theorem roR_ok {rc : RC} {d : FC} (h : roR rc = some d) : rc = .ro d := by
  unfold roR at h
  split at h
  · cases h; rfl
  · cases h
theorem matchC_ok {i : Nat} {c : SC} {rc : RC} {us : List (Nat × Nat)} {p : Prop} (hm : matchC σ i c rc = some (us, p)) (hp : p) (h : St C σ mu a w) (hM : ∀ i o ob, (i, o) ∈ us → σ.H o = some (some ob) → ∀ b ∈ (mu o).blocks, Nw b) {u : Value}
    (hu : RepC (σ.env C.wF mu) c u) : ∃ m, RetC Nw w C.wF m rc u ∧ From σ mu us i m := by
  unfold matchC at hm
  split at hm
  · split at hm
    · split at hm
      · rename_i hk
        cases hm; subst hk; subst hp
        exact ⟨⟨undef, []⟩, hu, from_nil rfl⟩
      · cases hm
    · cases hm
  · split at hm
    · cases hm; subst hp
      exact ⟨⟨undef, []⟩, hu, from_nil rfl⟩
    · cases hm
  · split at hm
    · cases hm; subst hp
      exact ⟨⟨undef, []⟩, hu, from_nil rfl⟩
    · cases hm
  · have hu' : u = .slice none 0 0 := hu
    subst hu'
    refine ⟨⟨.slice none 0 0, []⟩, ?_, from_nil rfl⟩
    unfold matchNil at hm
    split at hm
    all_goals first
      | (cases hm; subst hp; exact ⟨rfl, ⟨rfl, by simp, .inl ⟨rfl, rfl⟩⟩, by simp [Img.blocks, hdBlock], by simp [Img.blocks, hdBlock]⟩)
      | (cases hm; subst hp; exact ⟨rfl, ⟨⟨by simp, .inl ⟨rfl, rfl⟩⟩, rfl, by simp⟩, by simp [Img.blocks, hdBlock], by simp [Img.blocks, hdBlock]⟩)
      | (cases hm; subst hp; exact ⟨_, _, _, rfl, rfl⟩)
      | (split at hm
         · cases hm
         · rename_i hs
           cases hm
           exact ⟨⟨_, _, _, rfl, Nat.le_refl _⟩, nil_len hs hp _⟩)
      | (split at hm
         · cases hm
         · rename_i hs
           cases hm
           have hp : _ = _ := hp
           exact ⟨rfl, ⟨rfl, [], by rw [hp]; exact World.ownsRow_nil _ _ _ _, fun i u hi => by simp at hi⟩, by simp [Img.blocks, hdBlock], by simp [Img.blocks, hdBlock]⟩)
      | cases hm
  · rename_i o
    split at hm
    · rename_i ob ho
      split at hm
      · rename_i d' hro
        obtain ⟨d, rfl, h2, rfl⟩ := matchFz_ok hm hp
        cases h2
        have := roR_ok hro
        subst this
        have h3 := hu.2
        have e : (σ.env C.wF mu).st o = .frz _ := ost_frz ho
        rw [e] at h3
        exact ⟨⟨undef, []⟩, h3, from_nil rfl⟩
      have hnf : ob.isFz = false := by
        cases ob with
        | frz d => cases hq : nqB rc <;> simp [hq, Ob.len?, matchOb] at hm
        | mp l => cases hq : nqB rc <;> simp [hq, Ob.len?, matchOb] at hm
        | _ => rfl
      have hu' : u = (mu o).hd := on_live ho hu
      subst hu'
      have hnd := h.nd o ob ho
      have hrep := h.ob o ob ho
      split at hm
      · rename_i b hb
        split at hm
        · rename_i n hn
          cases hm
          obtain ⟨hp1, hp2⟩ := hp
          subst hp1
          have hrc : rc = .nilq false := by
            unfold nqB at hb
            split at hb
            · cases hb; rfl
            · cases hb
          subst hrc
          obtain ⟨hv, _⟩ := own_view hn hrep
          refine ⟨⟨undef, []⟩, ?_, from_nil rfl⟩
          rcases hv with ⟨_, _, _, h0⟩ | ⟨g, len, cap, ao, h1, h2, _⟩
          · exact absurd h0 hp2
          · exact ⟨_, _, _, h2, rfl⟩
        · cases hm
      refine ⟨mu o, ?_⟩
      unfold matchOb at hm
      split at hm
      · split at hm
        · split at hm
          · rename_i he
            obtain ⟨rfl, rfl⟩ := he
            cases hm; subst hp
            exact ⟨⟨rfl, hrep.env, hnd.1, fun b hb => hM i o _ (by simp) ho b hb⟩, fun b hb => ⟨o, _, by simp, ho, hb⟩⟩
          · cases hm
        · cases hm
      · split at hm
        · split at hm
          · rename_i he
            subst he
            cases hm; subst hp
            exact ⟨⟨rfl, hrep.env, hnd.1, fun b hb => hM i o _ (by simp) ho b hb⟩, fun b hb => ⟨o, _, by simp, ho, hb⟩⟩
          · cases hm
        · cases hm
      · split at hm
        · split at hm
          · rename_i he
            obtain ⟨rfl, rfl, rfl⟩ := he
            cases hm; subst hp
            exact ⟨⟨rfl, hrep.env.ver, hnd.1, fun b hb => hM i o _ (by simp) ho b hb⟩, fun b hb => ⟨o, _, by simp, ho, hb⟩⟩
          · cases hm
        · split at hm
          · rename_i he
            obtain ⟨rfl, rfl, rfl⟩ := he
            cases hm
            obtain ⟨rfl, rfl, rfl⟩ := hp
            exact ⟨⟨viewV_own hrep.1, by omega, hrep.env.ver, hnd.1, fun b hb => hM i o _ (by simp) ho b hb⟩, fun b hb => ⟨o, _, by simp, ho, hb⟩⟩
          · cases hm
        · cases hm
      · split at hm
        · split at hm
          · rename_i he
            subst he
            cases hm; subst hp
            exact ⟨⟨rfl, hrep.env, hnd.1, fun b hb => hM i o _ (by simp) ho b hb⟩, fun b hb => ⟨o, _, by simp, ho, hb⟩⟩
          · cases hm
        · cases hm
      · split at hm
        · split at hm
          · rename_i he
            subst he
            split at hm
            · rename_i hd
              cases hm
              have := subFC_eq hd hp
              subst this
              exact ⟨⟨rfl, hrep, hnd.1, fun b hb => hM i o _ (by simp) ho b hb⟩, fun b hb => ⟨o, _, by simp, ho, hb⟩⟩
            · cases hm
          · cases hm
        · cases hm
      · cases hm
      · cases hm
      · cases hm
      · cases hm
    · cases hm
  · rename_i o n
    split at hm
    · rename_i ob ho
      split at hm
      · rename_i d' hro
        obtain ⟨d, rfl, h2, rfl⟩ := matchFz_ok hm hp
        have := roR_ok hro
        subst this
        have h3 := hu.2
        have e : (σ.env C.wF mu).st o = .frz d := ost_frz ho
        rw [e] at h3
        obtain ⟨d'', h4, h5⟩ := h3
        rw [h2] at h4; cases h4
        exact ⟨⟨undef, []⟩, h5, from_nil rfl⟩
      have hnf : ob.isFz = false := by
        cases ob with
        | frz d => simp [matchPre] at hm
        | mp l => simp [matchPre] at hm
        | _ => rfl
      obtain ⟨hle, hview⟩ := on_live ho hu
      have hnd := h.nd o ob ho
      have hrep := h.ob o ob ho
      have hbl : ∀ b ∈ (⟨u, []⟩ : Img).blocks, b ∈ (mu o).blocks := fun b hb => by
        simp only [Img.blocks, viewV_block hview, List.filterMap_nil, List.append_nil] at hb ⊢
        exact List.mem_append_left _ hb
      have hndu : (⟨u, []⟩ : Img).blocks.Nodup := by
        simp only [Img.blocks, List.filterMap_nil, List.append_nil]
        cases hdBlock u <;> simp
      unfold matchPre at hm
      split at hm
      · split at hm
        · split at hm
          · rename_i l _ _ _ _ _ he
            obtain ⟨rfl, rfl⟩ := he
            cases hm; subst hp
            have hle' : n ≤ l.length := hle
            have := ownsRow_pre hrep.2 hview hle'
            rw [← List.map_take] at this
            refine ⟨⟨u, []⟩, ⟨rfl, ⟨rfl, ?_⟩, hndu, fun b hb => hM i o _ (by simp) ho b (hbl b hb)⟩, fun b hb => ⟨o, _, by simp, ho, hbl b hb⟩⟩
            rw [List.length_take, Nat.min_eq_left hle']
            exact this
          · cases hm
        · cases hm
      · split at hm
        · split at hm
          · rename_i l _ _ _ _ he
            subst he
            cases hm; subst hp
            have hle' : n ≤ l.length := hle
            have := ownsRow_pre hrep.2 hview hle'
            rw [← List.map_take] at this
            refine ⟨⟨u, []⟩, ⟨rfl, ⟨rfl, ?_⟩, hndu, fun b hb => hM i o _ (by simp) ho b (hbl b hb)⟩, fun b hb => ⟨o, _, by simp, ho, hbl b hb⟩⟩
            rw [List.length_take, Nat.min_eq_left hle']
            exact this
          · cases hm
        · cases hm
      · split at hm
        · split at hm
          · rename_i he
            obtain ⟨rfl, rfl, rfl⟩ := he
            cases hm
            obtain ⟨rfl, rfl, rfl⟩ := hp
            exact ⟨mu o, ⟨hview, Nat.le_trans (Nat.le_of_eq (Nat.zero_add n)) hle, hrep.env.ver, hnd.1, fun b hb => hM i o _ (by simp) ho b hb⟩, fun b hb => ⟨o, _, by simp, ho, hb⟩⟩
          · cases hm
        · cases hm
      · cases hm
    · cases hm
  · rename_i o off n
    split at hm
    · rename_i ob ho
      split at hm
      · rename_i d' hro
        obtain ⟨d, rfl, h2, rfl⟩ := matchFz_ok hm hp
        have := roR_ok hro
        subst this
        have h3 := hu.2
        have e : (σ.env C.wF mu).st o = .frz d := ost_frz ho
        rw [e] at h3
        obtain ⟨d'', h4, h5⟩ := h3
        rw [h2] at h4; cases h4
        exact ⟨⟨undef, []⟩, h5, from_nil rfl⟩
      split at hm
      case h_2 => cases hm
      rename_i ver e ei k l
      split at hm
      · split at hm
        · rename_i he
          obtain ⟨rfl, rfl, rfl⟩ := he
          cases hm
          obtain ⟨rfl, rfl, rfl⟩ := hp
          obtain ⟨hle, hview⟩ := on_live ho hu
          have hnd := h.nd o _ ho
          have hrep := h.ob o _ ho
          refine ⟨mu o, ⟨hview, hle, hrep.env.ver, hnd.1, fun b hb => hM i o _ (by simp) ho b hb⟩, fun b hb => ⟨o, _, by simp, ho, hb⟩⟩
        · cases hm
      · cases hm
    · cases hm
  · rename_i o x
    split at hm
    · split at hm
      · rename_i cs ho
        split at hm
        · rename_i ds hds
          split at hm
          · rename_i p' hp'
            cases hm
            have hrc : rc = .bx ds := by
              unfold bxD at hds
              split at hds
              · cases hds; rfl
              · cases hds
            subst hrc
            obtain ⟨b, arr, t, k1, k2, k3, k4, k5⟩ := h.ob o _ ho
            obtain ⟨q1, q2⟩ := matchNew_ok hp' hp.2
            obtain ⟨_, b', hb', hu'⟩ := on_live ho hu
            have hb' : hdBlock (mu o).hd = some b' := hb'
            have hbb : b' = b := by rw [k1] at hb'; simpa [hdBlock] using hb'.symm
            have hbl : ∀ c ∈ (⟨(mu o).hd, []⟩ : Img).blocks, c ∈ (mu o).blocks := fun c hc => by
              simp only [Img.blocks, List.filterMap_nil, List.append_nil, Option.mem_toList] at hc
              exact mem_blocks_hd hc
            refine ⟨⟨(mu o).hd, []⟩, ⟨by rw [hu', hbb, k1], ⟨b, arr, t, k1, by simp, k3, by rw [k4, List.length_map, q1], fun j c hj => ?_⟩, ?_, fun c hc => hM i o _ (by simp) ho c (hbl c hc), hp.1⟩, fun c hc => ⟨o, _, by simp, ho, hbl c hc⟩⟩
            · rw [List.getElem?_map] at hj
              cases hd : ds[j]? with
              | none => rw [hd] at hj; cases hj
              | some d =>
                rw [hd] at hj
                simp at hj
                subst hj
                obtain ⟨c, r1, r2⟩ := q2 j d hd
                obtain ⟨y, r3, r4, r5⟩ := k5 j c r1
                exact ⟨y, r3, r4, r2 (σ.env C.wF mu) _ y rfl r5⟩
            · simp only [Img.blocks, List.filterMap_nil, List.append_nil]
              cases hdBlock (mu o).hd <;> simp
          · cases hm
        · cases hm
      · cases hm
    · cases hm
  · rename_i d
    split at hm
    · split at hm
      · rename_i p' hp'
        cases hm
        have := subFC_eq hp' hp
        subst this
        exact ⟨⟨undef, []⟩, hu, from_nil rfl⟩
      · cases hm
    · cases hm
  · cases hm
theorem matchL_ok (h : St C σ mu a w) : ∀ {cs : List SC} {rcs : List RC} {i : Nat} {us : List (Nat × Nat)} {p : Prop}, matchL σ i cs rcs = some (us, p) → p → (∀ i o ob, (i, o) ∈ us → σ.H o = some (some ob) → ∀ b ∈ (mu o).blocks, Nw b) →
    rcs.length = cs.length ∧ ∀ arr : Array Value, RepL (σ.env C.wF mu) cs arr → ∃ img : Nat → Img, ∀ (j : Nat) (x : RC), rcs[j]? = some x → ∃ u, arr[j]? = some u ∧ RetC Nw w C.wF (img (i + j)) x u ∧ From σ mu us (i + j) (img (i + j))
  | [], [], i, us, p, _, _, _ => ⟨rfl, fun arr _ => ⟨fun _ => ⟨undef, []⟩, fun j x hx => by simp at hx⟩⟩
  | c :: cs, rc :: rcs, i, us, p, hm, hp, hM => by
    simp only [matchL] at hm
    split at hm
    · rename_i u1 p1 h1
      split at hm
      · rename_i u2 p2 h2
        cases hm
        have hM1 : ∀ i o ob, (i, o) ∈ u1 → σ.H o = some (some ob) → ∀ b ∈ (mu o).blocks, Nw b := fun i o ob hm => hM i o ob (List.mem_append_left _ hm)
        have hM2 : ∀ i o ob, (i, o) ∈ u2 → σ.H o = some (some ob) → ∀ b ∈ (mu o).blocks, Nw b := fun i o ob hm => hM i o ob (List.mem_append_right _ hm)
        obtain ⟨hl, hr⟩ := matchL_ok h h2 hp.2 hM2
        refine ⟨by simp [hl], fun arr harr => ?_⟩
        obtain ⟨hsz, hcs⟩ := harr
        obtain ⟨u, hu1, _, hu2⟩ := hcs 0 c rfl
        obtain ⟨m, hm1, hm2⟩ := matchC_ok h1 hp.1 h hM1 hu2
        obtain ⟨img, himg⟩ := hr (arr.toList.tail.toArray) ⟨by simp [hsz], fun j c' hj => by
          obtain ⟨u', q1, q2⟩ := hcs (j + 1) c' (by simpa using hj)
          refine ⟨u', ?_, q2⟩
          rw [← q1]
          simp [List.getElem?_tail]⟩
        refine ⟨fun k => if k = i then m else img k, fun j x hx => ?_⟩
        cases j with
        | zero =>
          simp only [List.getElem?_cons_zero, Option.some.injEq] at hx
          subst hx
          simp only [Nat.add_zero, if_true]
          exact ⟨u, hu1, hm1, hm2.mono fun x hx => List.mem_append_left _ hx⟩
        | succ j =>
          simp only [List.getElem?_cons_succ] at hx
          obtain ⟨u', q1, q2, q3⟩ := himg j x hx
          rw [show i + 1 + j = i + (j + 1) by omega] at q2 q3
          have hne : ¬ i + (j + 1) = i := by omega
          simp only [hne, if_false]
          refine ⟨u', ?_, q2, q3.mono fun x hx => List.mem_append_right _ hx⟩
          rw [← q1]
          simp [List.getElem?_tail]
      · cases hm
    · cases hm
  | [], _ :: _, _, _, _, hm, _, _ => by simp [matchL] at hm
  | _ :: _, [], _, _, _, hm, _, _ => by simp [matchL] at hm
theorem matchS_ok (h : St C σ mu a w) {s : Nat} {sv : SV} {x : RC ⊕ List RC} {us : List (Nat × Nat)} {p : Prop} (hm : matchS σ (16 * s) sv x = some (us, p)) (hp : p) (hM : ∀ i o ob, (i, o) ∈ us → σ.H o = some (some ob) → ∀ b ∈ (mu o).blocks, Nw b) {v : Value}
    (hv : RepV C.P (σ.env C.wF mu) sv v) : ∃ img : Nat → Img, RetS Nw w C.wF img (16 * s) x v ∧ ∀ k rc, AtSlot s k rc x → From σ mu us k (img k) := by
  unfold matchS at hm
  split at hm
  · split at hm
    · obtain ⟨m, h1, h2⟩ := matchC_ok hm hp h hM hv
      refine ⟨fun _ => m, h1, fun k rc hk => ?_⟩
      obtain ⟨_, rfl⟩ := hk
      exact h2
    · cases hm
  · split at hm
    · split at hm
      · rename_i hle
        obtain ⟨arr, rfl, harr⟩ := hv
        obtain ⟨hl, hr⟩ := matchL_ok h hm hp hM
        obtain ⟨img, himg⟩ := hr arr harr
        refine ⟨img, ⟨arr, rfl, by rw [harr.1, hl], fun j y hy => ?_⟩, fun k rc hk => ?_⟩
        · obtain ⟨u, q1, q2, _⟩ := himg j y hy
          exact ⟨u, q1, q2⟩
        · obtain ⟨j, hj, rfl⟩ := hk
          obtain ⟨u, q1, q2, q3⟩ := himg j rc hj
          exact q3
      · cases hm
    · cases hm
theorem atSlot_lt {s k : Nat} {rc : RC} {sv : SV} {x : RC ⊕ List RC} {us : List (Nat × Nat)} {p : Prop} (hm : matchS σ (16 * s) sv x = some (us, p)) (hk : AtSlot s k rc x) : 16 * s ≤ k ∧ k < 16 * (s + 1) := by
  unfold matchS at hm
  split at hm
  · obtain ⟨_, rfl⟩ := hk
    omega
  · split at hm
    · split at hm
      · obtain ⟨j, hj, rfl⟩ := hk
        have := (List.getElem?_eq_some_iff.1 hj).1
        omega
      · cases hm
    · cases hm
theorem retS_img {w0 : Nat → Prop} {w wF : World} {img img' : Nat → Img} {s : Nat} {sv : SV} {x : RC ⊕ List RC} {us : List (Nat × Nat)} {p : Prop} (hm : matchS σ (16 * s) sv x = some (us, p)) {v : Value} (h : RetS w0 w wF img (16 * s) x v)
    (he : ∀ k, 16 * s ≤ k → k < 16 * (s + 1) → img' k = img k) : RetS w0 w wF img' (16 * s) x v := by
  cases x with
  | inl rc =>
    show RetC _ _ _ _ _ _
    rw [he _ (by omega) (by omega)]
    exact h
  | inr rcs =>
    obtain ⟨arr, h1, h2, h3⟩ := h
    refine ⟨arr, h1, h2, fun j y hy => ?_⟩
    obtain ⟨u, h4, h5⟩ := h3 j y hy
    have hlt := atSlot_lt (rc := y) (k := 16 * s + j) hm ⟨j, hy, rfl⟩
    rw [he _ hlt.1 hlt.2]
    exact ⟨u, h4, h5⟩
theorem matchT_ok (h : St C σ mu a w) : ∀ {svs : List SV} {l : List (RC ⊕ List RC)} {s : Nat} {us : List (Nat × Nat)} {p : Prop}, matchT σ s svs l = some (us, p) → p → (∀ i o ob, (i, o) ∈ us → σ.H o = some (some ob) → ∀ b ∈ (mu o).blocks, Nw b) →
    l.length = svs.length ∧ ∀ vs : List Value, vs.length = svs.length → (∀ (i : Nat) (sv : SV), svs[i]? = some sv → ∃ v, vs[i]? = some v ∧ RepV C.P (σ.env C.wF mu) sv v) →
      ∃ img : Nat → Img, ∀ (j : Nat) (x : RC ⊕ List RC), l[j]? = some x → (∃ u, vs[j]? = some u ∧ RetS Nw w C.wF img (16 * (s + j)) x u) ∧ ∀ k rc, AtSlot (s + j) k rc x → From σ mu us k (img k)
  | [], [], s, us, p, _, _, _ => ⟨rfl, fun vs _ _ => ⟨fun _ => ⟨undef, []⟩, fun j x hx => by simp at hx⟩⟩
  | sv :: svs, x :: l, s, us, p, hm, hp, hM => by
    simp only [matchT] at hm
    split at hm
    · rename_i u1 p1 h1
      split at hm
      · rename_i u2 p2 h2
        cases hm
        have hM1 : ∀ i o ob, (i, o) ∈ u1 → σ.H o = some (some ob) → ∀ b ∈ (mu o).blocks, Nw b := fun i o ob hm => hM i o ob (List.mem_append_left _ hm)
        have hM2 : ∀ i o ob, (i, o) ∈ u2 → σ.H o = some (some ob) → ∀ b ∈ (mu o).blocks, Nw b := fun i o ob hm => hM i o ob (List.mem_append_right _ hm)
        obtain ⟨hl, hr⟩ := matchT_ok h h2 hp.2 hM2
        refine ⟨by simp [hl], fun vs hvl hvs => ?_⟩
        obtain ⟨v, hv1, hv2⟩ := hvs 0 sv rfl
        obtain ⟨img1, hi1, hi2⟩ := matchS_ok h h1 hp.1 hM1 hv2
        obtain ⟨img2, hj⟩ := hr vs.tail (by simp [hvl]) (fun j sv' hj => by
          obtain ⟨u', q1, q2⟩ := hvs (j + 1) sv' (by simpa using hj)
          exact ⟨u', by simpa [List.getElem?_tail] using q1, q2⟩)
        refine ⟨fun k => if k < 16 * (s + 1) then img1 k else img2 k, fun j y hy => ?_⟩
        cases j with
        | zero =>
          simp only [List.getElem?_cons_zero, Option.some.injEq] at hy
          subst hy
          refine ⟨⟨v, hv1, retS_img h1 hi1 fun k _ hk => by simp only [hk, if_true]⟩, fun k rc hk => ?_⟩
          have := atSlot_lt h1 hk
          simp only [this.2, if_true]
          exact (hi2 k rc hk).mono fun x hx => List.mem_append_left _ hx
        | succ j =>
          simp only [List.getElem?_cons_succ] at hy
          obtain ⟨⟨u, q1, q2⟩, q3⟩ := hj j y hy
          rw [show s + 1 + j = s + (j + 1) by omega] at q2 q3
          refine ⟨⟨u, by simpa [List.getElem?_tail] using q1, ?_⟩, fun k rc hk => ?_⟩
          · cases y with
            | inl rc =>
              have hne : ¬ 16 * (s + (j + 1)) < 16 * (s + 1) := by omega
              show RetC _ _ _ _ _ _
              simp only [hne, if_false]
              exact q2
            | inr rcs =>
              obtain ⟨arr, h1, h2, h3⟩ := q2
              refine ⟨arr, h1, h2, fun t y hy => ?_⟩
              obtain ⟨u, h4, h5⟩ := h3 t y hy
              have hne : ¬ 16 * (s + (j + 1)) + t < 16 * (s + 1) := by omega
              simp only [hne, if_false]
              exact ⟨u, h4, h5⟩
          · have hne : ¬ k < 16 * (s + 1) := by
              cases y with
              | inl rc => obtain ⟨_, rfl⟩ := hk; omega
              | inr rcs => obtain ⟨t, _, rfl⟩ := hk; omega
            simp only [hne, if_false]
            exact (q3 k rc hk).mono fun x hx => List.mem_append_right _ hx
      · cases hm
    · cases hm
  | [], _ :: _, _, _, _, hm, _, _ => by simp [matchT] at hm
  | _ :: _, [], _, _, _, hm, _, _ => by simp [matchT] at hm
theorem matchV_ok (h : St C σ mu a w) {svs : List SV} {rv : RV} {us : List (Nat × Nat)} {p : Prop} (hm : matchV σ svs rv = some (us, p)) (hp : p) (hM : ∀ i o ob, (i, o) ∈ us → σ.H o = some (some ob) → ∀ b ∈ (mu o).blocks, Nw b) (hn : (us.map (·.2)).Nodup)
    {vs : List Value} (hl : vs.length = svs.length) (hvs : ∀ (i : Nat) (sv : SV), svs[i]? = some sv → ∃ v, vs[i]? = some v ∧ RepV C.P (σ.env C.wF mu) sv v) :
    ∃ img, RetRep Nw w C.wF img rv (valOf vs) := by
  have key : ∃ img, RetVal Nw w C.wF img rv (valOf vs) ∧ ∀ k rc, (k, rc) ∈ slotsV rv → From σ mu us k (img k) := by
    unfold matchV at hm
    split at hm
    · split at hm
      · rename_i c
        obtain ⟨v, h1, h2⟩ := hvs 0 _ rfl
        obtain ⟨m, h3, h4⟩ := matchC_ok hm hp h hM h2
        match vs, hl, h1 with
        | [v'], _, h1 =>
          cases h1
          exact ⟨fun _ => m, h3, fun k rc hk => by simp [slotsV] at hk; rw [hk.1]; exact h4⟩
      · cases hm
    · split at hm
      · rename_i cs
        obtain ⟨v, h1, h2⟩ := hvs 0 _ rfl
        obtain ⟨arr, h3, h4⟩ := h2
        obtain ⟨hl', hr⟩ := matchL_ok h hm hp hM
        obtain ⟨img, himg⟩ := hr arr h4
        match vs, hl, h1 with
        | [v'], _, h1 =>
          cases h1
          refine ⟨img, ⟨arr, h3, by rw [h4.1, hl'], fun j x hx => ?_⟩, fun k rc hk => ?_⟩
          · obtain ⟨u, q1, q2, _⟩ := himg j x hx
            exact ⟨u, q1, q2⟩
          · obtain ⟨j, q1, rfl⟩ := slotsL_mem.1 hk
            obtain ⟨u, _, _, q3⟩ := himg j rc q1
            exact q3
      · cases hm
    · split at hm
      · cases hm
      · rename_i l svs hns
        obtain ⟨hl', hr⟩ := matchT_ok h hm hp hM
        obtain ⟨img, himg⟩ := hr vs hl hvs
        have hv : valOf vs = Value.tuple vs.toArray := by
          cases vs with
          | nil => rfl
          | cons x vs =>
            cases vs with
            | nil =>
              exfalso
              simp only [List.length_cons, List.length_nil] at hl
              obtain ⟨y, hy⟩ := List.length_eq_one_iff.1 hl.symm
              exact hns y hy
            | cons y l => rfl
        rw [hv]
        refine ⟨img, ⟨vs.toArray, rfl, by simp [hl, hl'], fun j x hx => ?_⟩, fun k rc hk => ?_⟩
        · obtain ⟨⟨u, q1, q2⟩, _⟩ := himg j x hx
          rw [Nat.zero_add] at q2
          exact ⟨u, by simpa using q1, q2⟩
        · obtain ⟨j, x, q1, q2⟩ := slotsT_mem.1 hk
          exact (himg j x q1).2 k rc q2
  obtain ⟨img, h1, h2⟩ := key
  refine ⟨img, h1, fun i j x y hi hj hne _ _ b hb hb' => ?_, fun q u hq i x hi _ hb => by
    obtain ⟨o, ob, q1, q2, q3⟩ := h2 i x hi _ hb
    exact (h.cells q u hq).1 o ob q2 q3⟩
  obtain ⟨o, ob, q1, q2, q3⟩ := h2 i x hi b hb
  obtain ⟨o', ob', r1, r2, r3⟩ := h2 j y hj b hb'
  by_cases ho : o = o'
  · subst ho
    obtain ⟨s, hs⟩ := List.getElem?_of_mem q1
    obtain ⟨t, ht⟩ := List.getElem?_of_mem r1
    have h3 : (us.map (·.2))[s]? = some o := by simp [hs]
    have h4 : (us.map (·.2))[t]? = some o := by simp [ht]
    have : s = t := (List.getElem?_inj (List.getElem?_eq_some_iff.1 h3).1 hn).1 (h3.trans h4.symm)
    subst this
    rw [hs] at ht
    cases ht
    exact hne rfl
  · exact h.sep o o' ob ob' ho q2 r2 b q3 r3
end
end Go.Sx
end
section
namespace Go.Sx
open Go.RowKit
theorem mtAt_mem : ∀ {mt : List (Nat × Nat)} {i j x : Nat}, mt[x]? = some (i, j) → ∃ y, mtAt mt i j = some y
  | [], _, _, _, h => by simp at h
  | (a, b) :: l, i, j, x, h => by
    simp only [mtAt]
    split
    · exact ⟨0, rfl⟩
    · rename_i hne
      cases x with
      | zero => simp at h; exact absurd h hne
      | succ x =>
        obtain ⟨y, hy⟩ := mtAt_mem (mt := l) (x := x) (by simpa using h)
        exact ⟨y + 1, by simp [hy]⟩
theorem pids_at {mt : List (Nat × Nat)} {x : Nat} {i j : Nat} (h : mt[x]? = some (i, j)) : (pids mt)[x]? = some (pid i j) := by simp [pids, h]
theorem pids_inj {mt : List (Nat × Nat)} (hn : (pids mt).Nodup) {x y o : Nat} (hx : (pids mt)[x]? = some o) (hy : (pids mt)[y]? = some o) : x = y :=
  (List.getElem?_inj (List.getElem?_eq_some_iff.1 hx).1 hn).1 (hx.trans hy.symm)
theorem mtAt_is {mt : List (Nat × Nat)} (hn : (pids mt).Nodup) {x i j : Nat} (h : mt[x]? = some (i, j)) : mtAt mt i j = some x := by
  obtain ⟨y, hy⟩ := mtAt_mem h
  rw [hy, pids_inj hn (pids_at (mtAt_ok hy)) (pids_at h)]
theorem initH_ok {ds : List AD} : ∀ {mt : List (Nat × Nat)} {wrs : List RC} {hp : List (Nat × Option Ob)}, initH ds mt wrs = some hp → ∀ o x, lk hp o = some x →
    ∃ (k i j : Nat) (ob : Ob) (rc : RC), mt[k]? = some (i, j) ∧ o = pid i j ∧ wrs[k]? = some rc ∧ initO ds i j rc = some ob ∧ x = some ob
  | [], [], hp, h, o, x, hx => by simp [initH] at h; subst h; simp [lk] at hx
  | y :: mt, rc :: wrs, hp, h, o, x, hx => by
    simp only [initH] at h
    split at h
    · rename_i ob hob
      split at h
      · rename_i l hl
        cases h
        rw [lk_cons] at hx
        split at hx
        · rename_i ho
          cases hx
          exact ⟨0, y.1, y.2, ob, rc, rfl, ho.symm, rfl, hob, rfl⟩
        · obtain ⟨k, i, j, ob', rc', h1, h2, h3, h4, h5⟩ := initH_ok hl o x hx
          exact ⟨k + 1, i, j, ob', rc', by simpa using h1, h2, by simpa using h3, h4, h5⟩
      · cases h
    · cases h
  | [], _ :: _, _, h, _, _, _ => by simp [initH] at h
  | _ :: _, [], _, h, _, _, _ => by simp [initH] at h
theorem initO_nf {ds : List AD} {i j : Nat} {rc : RC} {ob : Ob} (h : initO ds i j rc = some ob) : ob.isFz = false := by
  unfold initO at h
  split at h
  · split at h
    · split at h
      · cases h; rfl
      · cases h
    · cases h
  · split at h
    · unfold mkOb at h
      repeat' split at h
      all_goals first | cases h; done | (cases h; rfl)
    · cases h
theorem initH_has {ds : List AD} : ∀ {mt : List (Nat × Nat)} {wrs : List RC} {hp : List (Nat × Option Ob)}, initH ds mt wrs = some hp → ∀ o ∈ pids mt, ∃ ob, lk hp o = some (some ob)
  | [], _, _, _, o, ho => by simp [pids] at ho
  | y :: mt, rc :: wrs, hp, h, o, ho => by
    simp only [initH] at h
    split at h
    · rename_i ob hob
      split at h
      · rename_i l hl
        cases h
        rw [lk_cons]
        split
        · exact ⟨ob, rfl⟩
        · rename_i hne
          simp only [pids, List.map_cons, List.mem_cons] at ho
          exact initH_has hl o (ho.resolve_left (fun hc => hne hc.symm))
      · cases h
    · cases h
  | _ :: _, [], _, h, _, _ => by simp [initH] at h
theorem origCs_get {o : Nat} : ∀ {ds : List FC} {j k : Nat} {c : SC}, (origCs o j ds)[k]? = some c → ∃ d, ds[k]? = some d ∧ c = if isScal d then scOf d else .orig o (j + k) d
  | [], j, k, c, h => by simp [origCs] at h
  | d :: ds, j, k, c, h => by
    simp only [origCs] at h
    cases k with
    | zero => simp at h; exact ⟨d, rfl, by rw [Nat.add_zero, h]⟩
    | succ k =>
      obtain ⟨d', h1, h2⟩ := origCs_get (k := k) (by simpa using h)
      exact ⟨d', by simpa using h1, by rw [h2, show j + 1 + k = j + (k + 1) by omega]⟩
theorem origCs_len {o : Nat} : ∀ {ds : List FC} {j : Nat}, (origCs o j ds).length = ds.length
  | [], _ => rfl
  | d :: ds, j => by simp [origCs, origCs_len (ds := ds)]
theorem boxOf_ok {ds : List AD} {i j : Nat} {cs : List FC} (h : boxOf ds i j = some cs) : j = 0 ∧ (ds[i]? = some (.box cs) ∨ ∃ F s, ds[i]? = some (.fvs F s) ∧ cs = [.int .i64 s]) := by
  unfold boxOf at h
  split at h
  · split at h
    · cases h; exact ⟨rfl, .inl (by assumption)⟩
    · cases h
  · split at h
    · cases h; exact ⟨rfl, .inr ⟨_, _, by assumption, rfl⟩⟩
    · cases h
  · cases h
theorem argFr_lk {mt : List (Nat × Nat)} : ∀ {ds : List AD} {i t : Nat} {sv : SV}, lk (argFr mt i ds) t = some sv → ∃ j d, ds[j]? = some d ∧ t = i + j ∧ sv = argS mt t d
  | [], i, t, sv, h => by simp [argFr, lk] at h
  | d :: ds, i, t, sv, h => by
    simp only [argFr] at h
    rw [lk_cons] at h
    split at h
    · rename_i ht
      cases h
      exact ⟨0, d, rfl, by omega, by rw [ht]⟩
    · obtain ⟨j, d', h1, h2, h3⟩ := argFr_lk h
      exact ⟨j + 1, d', by simpa using h1, by omega, h3⟩
theorem argCs_at {mt : List (Nat × Nat)} {i : Nat} : ∀ {cs : List FC} {s k : Nat} {c : SC}, (argCs mt i s cs)[k]? = some c → ∃ d, cs[k]? = some d ∧ c = argC mt i (s + k) d
  | [], s, k, c, h => by simp [argCs] at h
  | d :: cs, s, k, c, h => by
    simp only [argCs] at h
    cases k with
    | zero => simp at h; exact ⟨d, rfl, h.symm⟩
    | succ k =>
      obtain ⟨d', h1, h2⟩ := argCs_at (k := k) (by simpa using h)
      exact ⟨d', by simpa using h1, by rw [h2]; congr 1; omega⟩
theorem argCs_len {mt : List (Nat × Nat)} {i : Nat} : ∀ {cs : List FC} {s : Nat}, (argCs mt i s cs).length = cs.length
  | [], _ => rfl
  | _ :: cs, s => by simp [argCs, argCs_len (cs := cs)]
theorem mk_rep {E : Env} {wF w : World} (hk : Kept wF E.wF) {m : Img} {ob ob0 ob1 : Ob} {rc : RC} {d : FC} {q : Prop} (h1 : obFC ob = some d) (h2 : wrOb ob rc = some (ob1, q)) (h3 : mkOb d rc = some ob0) (h : RepO (E0 wF) w m ob) :
    RepO E w m ob0 ∧ ob0.shp.ver = 0 := by
  unfold wrOb at h2
  split at h2
  · cases h1
    split at h2
    · rename_i he
      obtain ⟨rfl, rfl⟩ := he
      simp only [mkOb, if_true, Option.some.injEq] at h3
      subst h3
      exact ⟨h, rfl⟩
    · cases h2
  · cases h1
    split at h2
    · rename_i he
      subst he
      simp only [mkOb, Option.some.injEq] at h3
      subst h3
      exact ⟨h, rfl⟩
    · cases h2
  · cases h1
    split at h2
    · rename_i he
      obtain ⟨rfl, rfl, rfl⟩ := he
      simp only [mkOb, if_true, Option.some.injEq] at h3
      subst h3
      exact ⟨h, rfl⟩
    · cases h2
  · cases h1
  · obtain ⟨rfl, hs⟩ := obFC_lst h1
    split at h2
    · rename_i he
      subst he
      obtain ⟨q1, vs, q2, q3⟩ := h
      have fin : RepO E w m (.lst 0 _ d) := ⟨q1, vs, q2, fun i u hi => let ⟨r1, fc, r2, r3⟩ := q3 i u hi; ⟨r1, fc, r2, r3.mono hk⟩⟩
      cases d <;> simp only [mkOb, reduceCtorEq, Option.some.injEq] at h3 <;> subst h3 <;> exact ⟨fin, rfl⟩
    · cases h2
  · cases h1
    split at h2
    · rename_i he
      obtain ⟨rfl, rfl⟩ := he
      simp only [mkOb, if_true, Option.some.injEq] at h3
      subst h3
      exact ⟨h, rfl⟩
    · cases h2
  · cases h1
    split at h2
    · rename_i he
      obtain ⟨rfl, rfl, rfl⟩ := he
      simp only [mkOb, if_true, Option.some.injEq] at h3
      subst h3
      exact ⟨h, rfl⟩
    · cases h2
  · cases h2
theorem matchBx_ok {E : Env} {m : Img} {o : Nat} (hm : E.mu o = m) (hs : ∃ s, E.st o = .live s ∧ s.ver = 0) : ∀ {cs : List SC} {ds : List FC} {j : Nat} {p : Prop}, matchBx o j cs ds = some p → p →
    ds.length = cs.length ∧ ∀ (k : Nat) (d : FC), ds[k]? = some d → ∃ c, cs[k]? = some c ∧ ∀ v, RepC E c v → BxC m (j + k) d v
  | [], ds, j, p, h, _ => by
    cases ds with
    | nil => exact ⟨rfl, fun k d hk => by simp at hk⟩
    | cons d ds => simp [matchBx] at h
  | c :: cs, [], j, p, h, _ => by cases c <;> simp [matchBx] at h
  | c :: cs, d :: ds, j, p, h, hp => by
    have fin : ∀ {q : Prop}, matchBx o (j + 1) cs ds = some q → q → (∀ v, RepC E c v → BxC m j d v) →
        (d :: ds).length = (c :: cs).length ∧ ∀ (k : Nat) (x : FC), (d :: ds)[k]? = some x → ∃ y, (c :: cs)[k]? = some y ∧ ∀ v, RepC E y v → BxC m (j + k) x v := fun {q} hq hq2 h0 => by
      obtain ⟨h1, h2⟩ := matchBx_ok hm hs hq hq2
      refine ⟨by simp [h1], fun k x hx => ?_⟩
      cases k with
      | zero => simp at hx; subst hx; exact ⟨c, rfl, h0⟩
      | succ k =>
        obtain ⟨y, h3, h4⟩ := h2 k x (by simpa using hx)
        exact ⟨y, by simpa using h3, fun v hv => by rw [show j + (k + 1) = j + 1 + k by omega]; exact h4 v hv⟩
    unfold matchBx at h
    split at h
    · rename_i h1 h2; cases h1
    · rename_i h1 h2
      cases h1; cases h2
      split at h
      · rename_i hk
        subst hk
        split at h
        · rename_i q hq
          cases h
          exact fin hq hp.2 fun v hv => by rw [← hp.1]; exact hv
        · cases h
      · cases h
    · rename_i h1 h2
      cases h1; cases h2
      split at h
      · rename_i q hq
        cases h
        exact fin hq hp.2 fun v hv => by rw [← hp.1]; exact hv
      · cases h
    · rename_i h1 h2
      cases h1; cases h2
      split at h
      · rename_i hoj
        split at h
        · rename_i q0 hq0
          split at h
          · rename_i hsc
            split at h
            · rename_i q hq
              cases h
              have := subFC_eq hq0 hp.1
              subst this
              rw [Bool.and_eq_true] at hoj
              have e1 := Nat.eq_of_beq_eq_true hoj.1
              have e2 := Nat.eq_of_beq_eq_true hoj.2
              subst e1
              subst e2
              refine fin hq hp.2 fun v hv => ?_
              obtain ⟨s, k1, k2⟩ := hs
              have h5 := hv.2.2
              rw [k1] at h5
              have h6 := h5 k2
              rw [hm] at h6
              unfold BxC
              split
              · cases hsc
              · cases hsc
              · cases hsc
              · exact h6
            · cases h
          · cases h
        · cases h
      · cases h
    · cases h
theorem matchW_ver {o : Nat} {obf : Ob} {rc : RC} {p : Prop} (h : matchW o obf rc = some p) : obf.shp.ver = 0 := by
  cases obf with
  | box cs => rfl
  | bx cs => cases h
  | strs e l => cases h
  | lst ver e d => cases h
  | frz d => cases h
  | mp l => cases h
  | ints e k l => rfl
  | bools e l => rfl
  | rows ver e ei k l =>
    cases rc <;> simp only [matchW, reduceCtorEq] at h
    split at h
    · rename_i he; exact he.1
    · cases h
theorem matchW_nf {o : Nat} {obf : Ob} {rc : RC} {p : Prop} (h : matchW o obf rc = some p) : obf.isFz = false := by cases obf <;> first | rfl | cases h
theorem matchW_ok {E : Env} {w w0 : World} {m : Img} {o : Nat} {ob ob1 obf : Ob} {rc : RC} {q p : Prop} (h2 : wrOb ob rc = some (ob1, q)) (h3 : matchW o obf rc = some p) (hp : p) (h : RepO E w m obf)
    (hm : E.mu o = m) (hs : E.st o = .live obf.shp) : RepO (E0 w0) w m ob1 := by
  cases obf with
  | bx cs => cases h3
  | strs e l => cases h3
  | lst ver e d => cases h3
  | frz d => cases h3
  | mp l => cases h3
  | box cs =>
    cases rc <;> simp only [matchW, bxD, reduceCtorEq] at h3
    rename_i ds
    obtain ⟨q1, q2⟩ := matchBx_ok hm ⟨_, hs, rfl⟩ h3 hp
    obtain ⟨b, arr, t, k1, k2, k3, k4, k5⟩ := h
    have hob : ob1 = .bx ds := by
      cases ob <;> simp only [wrOb, reduceCtorEq] at h2
      split at h2
      · cases h2; rfl
      · cases h2
    subst hob
    refine ⟨b, arr, t, k1, k2, k3, by rw [k4, q1], fun j d hj => ?_⟩
    obtain ⟨c, r1, r2⟩ := q2 j d hj
    obtain ⟨u, r3, r4, r5⟩ := k5 j c r1
    have r6 := r2 u r5
    rw [Nat.zero_add] at r6
    exact ⟨u, r3, r4, r6⟩
  | ints e k l =>
    cases rc <;> simp only [matchW, reduceCtorEq] at h3
    split at h3
    · rename_i he
      obtain ⟨rfl, rfl⟩ := he
      cases h3; subst hp
      cases ob <;> simp only [wrOb, reduceCtorEq] at h2
      split at h2
      · rename_i he
        obtain ⟨rfl, rfl⟩ := he
        cases h2
        exact h
      · cases h2
    · cases h3
  | bools e l =>
    cases rc <;> simp only [matchW, reduceCtorEq] at h3
    split at h3
    · rename_i he
      subst he
      cases h3; subst hp
      cases ob <;> simp only [wrOb, reduceCtorEq] at h2
      split at h2
      · rename_i he
        subst he
        cases h2
        exact h
      · cases h2
    · cases h3
  | rows ver e ei k l =>
    cases rc <;> simp only [matchW, reduceCtorEq] at h3
    split at h3
    · rename_i he
      obtain ⟨rfl, rfl, rfl, rfl⟩ := he
      cases h3; subst hp
      cases ob <;> simp only [wrOb, reduceCtorEq] at h2
      split at h2
      · rename_i he
        obtain ⟨rfl, rfl, rfl⟩ := he
        cases h2
        exact h
      · cases h2
    · cases h3
section
variable {σ : State}
theorem cvR_in {c : SC} {rc : RC} : CvIn σ (cvR σ c rc) := by
  unfold cvR
  split
  · exact fzCv_in
  · exact fzCv_in
  · exact fzCv_in
  · exact lstCv_in
  · exact .nil
theorem cvRL_in : ∀ {cs : List SC} {rcs : List RC}, CvIn σ (cvRL σ cs rcs)
  | [], _ => .nil
  | _ :: _, [] => .nil
  | _ :: _, _ :: _ => CvIn.app cvR_in cvRL_in
theorem cvRS_in {sv : SV} {x : RC ⊕ List RC} : CvIn σ (cvRS σ sv x) := by
  unfold cvRS
  split
  · split
    · exact cvR_in
    · exact .nil
  · split
    · exact cvRL_in
    · exact .nil
theorem cvRT_in : ∀ {svs : List SV} {l : List (RC ⊕ List RC)}, CvIn σ (cvRT σ svs l)
  | [], _ => .nil
  | _ :: _, [] => .nil
  | _ :: _, _ :: _ => CvIn.app cvRS_in cvRT_in
theorem cvRV_in {svs : List SV} {rv : RV} : CvIn σ (cvRV σ svs rv) := by
  unfold cvRV
  split
  · split
    · exact cvRS_in
    · exact .nil
  · split
    · exact cvRS_in
    · exact .nil
  · exact cvRT_in
end
theorem notIn_mem {o : Nat} : ∀ {l : List Nat}, notIn o l = false → o ∈ l
  | [], h => by cases h
  | x :: l, h => by
    simp only [notIn] at h
    split at h
    · rename_i hx; rw [Nat.eq_of_beq_eq_true hx]; exact List.mem_cons_self ..
    · exact List.mem_cons_of_mem _ (notIn_mem h)
theorem pinW_at : ∀ {mt : List (Nat × Nat)} {wrs : List RC} {x i j : Nat} {rc : RC}, mt[x]? = some (i, j) → wrs[x]? = some rc → rc.isGone = false → ∃ y : Nat, (pinW mt wrs)[y]? = some (pid i j) ∧ (liveW wrs)[y]? = some rc
  | [], _, x, i, j, rc, h, _, _ => by simp at h
  | _ :: _, [], x, i, j, rc, _, h, _ => by simp at h
  | (i0, j0) :: mt, rc0 :: wrs, x, i, j, rc, h1, h2, h3 => by
    cases x with
    | zero =>
      simp at h1 h2
      obtain ⟨rfl, rfl⟩ := h1
      subst h2
      exact ⟨0, by simp [pinW, h3], by simp [liveW, h3]⟩
    | succ x =>
      obtain ⟨y, h4, h5⟩ := pinW_at (mt := mt) (wrs := wrs) (by simpa using h1) (by simpa using h2) h3
      cases hg : rc0.isGone with
      | true => exact ⟨y, by simpa [pinW, hg] using h4, by simpa [liveW, hg] using h5⟩
      | false => exact ⟨y + 1, by simpa [pinW, hg] using h4, by simpa [liveW, hg] using h5⟩
theorem matchWs_ok {σ : State} : ∀ {os : List Nat} {rcs : List RC} {p : Prop}, matchWs σ os rcs = some p → p → ∀ (x o : Nat) (rc : RC), os[x]? = some o → rcs[x]? = some rc →
    ∃ ob q, σ.H o = some (some ob) ∧ matchW o ob rc = some q ∧ q
  | [], [], _, _, _, x, o, rc, h, _ => by simp at h
  | o :: os, rc :: rcs, p, hm, hp, x, o', rc', h1, h2 => by
    simp only [matchWs] at hm
    split at hm
    · rename_i ob ho
      split at hm
      · rename_i q hq
        split at hm
        · rename_i q' hq'
          cases hm
          cases x with
          | zero => simp at h1 h2; subst h1; subst h2; exact ⟨ob, q, ho, hq, hp.1⟩
          | succ x => exact matchWs_ok hq' hp.2 x o' rc' (by simpa using h1) (by simpa using h2)
        · cases hm
      · cases hm
    · cases hm
  | [], _ :: _, _, h, _, _, _, _, _, _ => by simp [matchWs] at h
  | _ :: _, [], _, h, _, _, _, _, _, _ => by simp [matchWs] at h
end Go.Sx
end
