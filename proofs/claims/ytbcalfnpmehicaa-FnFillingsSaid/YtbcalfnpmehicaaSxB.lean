/- SxB -/
import Derived.Test.YtbcalfnpmehicaaSxA
namespace Go.Sx
open Go.RowKit

theorem ReadsI.mono {w0 w : World} (hc : ∀ p u, w0.cell? p = some u → w.cell? p = some u) {k : IntKind} {v : Value} {l : List Int} (h : ReadsI w0 k v l) : ReadsI w k v l := by
  obtain ⟨a, c, hv, hle, h⟩ := h
  refine ⟨a, c, hv, hle, fun h0 => ?_⟩
  obtain ⟨b, off, ha, h⟩ := h h0
  exact ⟨b, off, ha, fun i hi => let ⟨u, h1, h2⟩ := h i hi; ⟨u, hc _ _ h1, h2⟩⟩

theorem Reads.mono {w0 w : World} (hc : ∀ p u, w0.cell? p = some u → w.cell? p = some u) {v : Value} {d : FC} (h : Reads w0 v d) : Reads w v d := by
  cases d with
  | int k n => exact h
  | bool b => exact h
  | str l => exact h
  | ints k l => exact ReadsI.mono hc h
  | bools l =>
    obtain ⟨a, c, hv, hle, h⟩ := h
    refine ⟨a, c, hv, hle, fun h0 => ?_⟩
    obtain ⟨b, off, ha, h⟩ := h h0
    exact ⟨b, off, ha, fun i hi => let ⟨u, h1, h2⟩ := h i hi; ⟨u, hc _ _ h1, h2⟩⟩
  | rows k l =>
    obtain ⟨a, c, hv, hle, h⟩ := h
    refine ⟨a, c, hv, hle, fun h0 => ?_⟩
    obtain ⟨b, off, ha, h⟩ := h h0
    exact ⟨b, off, ha, fun i hi => let ⟨u, h1, h2⟩ := h i hi; ⟨u, hc _ _ h1, ReadsI.mono hc h2⟩⟩

theorem Below.cells {w0 w : World} (h : Below w0.heap.size w0 w) : ∀ p u, w0.cell? p = some u → w.cell? p = some u :=
  fun _ _ hp => (h.cell (World.block_lt_of_cell? w0 _ hp)).trans hp

/-- How an object's state may turn: what refers to it still holds. -/
def OLe (s s' : OSt) (m m' : Img) : Prop :=
  match s, s' with
  | .absent, _ => True
  | .dead, .dead => True
  | .live _, .dead => True
  | .live x, .live y => y.len = x.len ∧ m'.hd = m.hd ∧ x.ver ≤ y.ver ∧ (y.ver = x.ver → m' = m ∧ y.rl = x.rl)
  | _, _ => False

def EnvLe (E E' : Env) : Prop := E'.wF = E.wF ∧ ∀ o, OLe (E.st o) (E'.st o) (E.mu o) (E'.mu o)

theorem OLe.refl (s : OSt) (m : Img) : OLe s s m m := by cases s <;> simp [OLe]

theorem EnvLe.refl (E : Env) : EnvLe E E := ⟨rfl, fun _ => OLe.refl _ _⟩

theorem OSt.on_le {s s' : OSt} {m m' : Img} (h : OLe s s' m m') {p : Shp → Prop} {q : Shp → Prop} (hs : s.on p)
    (hpq : ∀ x y, y.len = x.len → m'.hd = m.hd → x.ver ≤ y.ver → (y.ver = x.ver → m' = m ∧ y.rl = x.rl) → p x → q y) : s'.on q := by
  cases s <;> cases s' <;> simp only [OLe, OSt.on] at *
  exact hpq _ _ h.1 h.2.1 h.2.2.1 h.2.2.2 hs

theorem RefOn.le {E E' : Env} {o : Nat} {v : Value} (h : OLe (E.st o) (E'.st o) (E.mu o) (E'.mu o)) {p : Shp → Prop} {q : Shp → Prop} (hs : RefOn E o v p)
    (hpq : ∀ x y, y.len = x.len → (E'.mu o).hd = (E.mu o).hd → x.ver ≤ y.ver → (y.ver = x.ver → E'.mu o = E.mu o ∧ y.rl = x.rl) → p x → q y) : RefOn E' o v q :=
  ⟨hs.1, OSt.on_le h hs.2 hpq⟩

theorem RepC.mono {E E' : Env} (h : EnvLe E E') {c : SC} {v : Value} (hr : RepC E c v) : RepC E' c v := by
  obtain ⟨hw, ho⟩ := h
  cases c with
  | any => trivial
  | und => exact hr
  | int k n => exact hr
  | bool b => exact hr
  | str l => exact hr
  | nil => exact hr
  | own o => exact RefOn.le (ho o) hr fun x y _ h2 _ _ hp => by rw [h2]; exact hp
  | pre o n => exact RefOn.le (ho o) hr fun x y h1 h2 _ _ hp => by rw [h2, h1]; exact hp
  | sub o off n => exact RefOn.le (ho o) hr fun x y h1 h2 _ _ hp => by rw [h2, h1]; exact hp
  | ptr o i => exact RefOn.le (ho o) hr fun x y h1 h2 _ _ hp => by rw [h2, h1]; exact hp
  | row o ver i => exact RefOn.le (ho o) hr fun x y h1 h2 h3 h4 hp => ⟨by omega, fun e => by
      have hv : y.ver = x.ver := by omega
      obtain ⟨h5, h6⟩ := h4 hv
      rw [h5, h1]; exact hp.2 (by omega)⟩
  | rptr o ver i j => exact RefOn.le (ho o) hr fun x y h1 h2 h3 h4 hp => ⟨by omega, fun e => by
      have hv : y.ver = x.ver := by omega
      obtain ⟨h5, h6⟩ := h4 hv
      rw [h5, h6, h1]; exact hp.2 (by omega)⟩
  | ro d => rw [RepC, hw]; exact hr
  | rop d i => rw [RepC, hw]; exact hr
  | rob cs i => rw [RepC, hw]; exact hr
  | nilq b => exact hr
  | emp => exact hr
  | bsl o n => exact RefOn.le (ho o) hr fun x y h1 h2 _ _ hp => by rw [h2, h1]; exact hp
  | orig o j d =>
    refine ⟨by rw [hw]; exact hr.1, RefOn.le (ho o) hr.2 fun x y h1 h2 h3 h4 hp e => ?_⟩
    have hv : y.ver = x.ver := by omega
    rw [(h4 hv).1]; exact hp (by omega)

theorem RepL.mono {E E' : Env} (h : EnvLe E E') {cs : List SC} {arr : Array Value} (hr : RepL E cs arr) : RepL E' cs arr :=
  ⟨hr.1, fun i c hi => let ⟨u, h1, h2, h3⟩ := hr.2 i c hi; ⟨u, h1, h2, h3.mono h⟩⟩

theorem RepS.mono {E E' : Env} (h : EnvLe E E') {c : SC ⊕ List SC} {v : Value} (hr : RepS E c v) : RepS E' c v := by
  cases c with
  | inl c => exact ⟨hr.1, hr.2.mono h⟩
  | inr cs => exact let ⟨arr, h1, h2⟩ := hr; ⟨arr, h1, h2.mono h⟩

theorem RepV.mono {P : Program} {E E' : Env} (h : EnvLe E E') {c : SV} {v : Value} (hr : RepV P E c v) : RepV P E' c v := by
  cases c with
  | c x => exact RepC.mono h hr
  | agg l => exact let ⟨arr, h1, h2⟩ := hr; ⟨arr, h1, h2.mono h⟩
  | fn f l => exact let ⟨arr, h1, h2⟩ := hr; ⟨arr, h1, h2.mono h⟩
  | fv F => rw [RepV, h.1]; exact hr
  | fvs o F => exact RefOn.le (h.2 o) hr fun x y _ h2 _ _ hp => by rw [h2, h.1]; exact hp
  | tup l => exact let ⟨arr, h1, h2, h3⟩ := hr; ⟨arr, h1, h2, fun i c hi => let ⟨u, h4, h5⟩ := h3 i c hi; ⟨u, h4, h5.mono h⟩⟩

theorem ownsRow_keep {w w' : World} {B e size n : Nat} {v : Value} {xs : List Value} (h : w.ownsRow B e size v n xs)
    (hk : ∀ b, hdBlock v = some b → w'.heap[b]? = w.heap[b]?) : w'.ownsRow B e size v n xs := by
  refine ⟨h.1, ?_⟩
  rcases h.2 with h2 | ⟨g, cap, cur, hv, hb, hg, r⟩
  · exact .inl h2
  · exact .inr ⟨g, cap, cur, hv, hb, by rw [hk g (by rw [hv]; rfl)]; exact hg, r⟩

theorem ownsRow_block {w : World} {B e size n : Nat} {v : Value} {xs : List Value} (h : w.ownsRow B e size v n xs) :
    ∀ b, hdBlock v = some b → B ≤ b ∧ b < w.heap.size := by
  intro b hb
  rcases h.2 with ⟨h2, _⟩ | ⟨g, cap, cur, hv, hB, hg, r⟩
  · subst h2; simp [hdBlock] at hb
  · subst hv; simp [hdBlock] at hb; subst hb
    exact ⟨hB, (Array.getElem?_eq_some_iff.1 hg).1⟩

theorem mem_blocks_hd {m : Img} {b : Nat} (h : hdBlock m.hd = some b) : b ∈ m.blocks := by simp [Img.blocks, h]
theorem mem_blocks_ins {m : Img} {b i : Nat} {v : Value} (hi : m.ins[i]? = some v) (h : hdBlock v = some b) : b ∈ m.blocks := by
  simp only [Img.blocks, List.mem_append, List.mem_filterMap]
  exact .inr ⟨v, List.mem_of_getElem? hi, h⟩

theorem RepO.keep {E E' : Env} (hE : EnvLe E E') {w w' : World} {m : Img} {ob : Ob} (h : RepO E w m ob)
    (hk : ∀ b ∈ m.blocks, w'.heap[b]? = w.heap[b]?) : RepO E' w' m ob := by
  cases ob with
  | box cs =>
    obtain ⟨b, arr, t, h1, h2, h4, h5⟩ := h
    exact ⟨b, arr, t, h1, h2, by rw [hk b (mem_blocks_hd (by rw [h1]; rfl))]; exact h4, h5.mono hE⟩
  | bx cs =>
    obtain ⟨b, arr, t, h1, h2, h4, h5⟩ := h
    exact ⟨b, arr, t, h1, h2, by rw [hk b (mem_blocks_hd (by rw [h1]; rfl))]; exact h4, h5⟩
  | ints e k l => exact ⟨h.1, ownsRow_keep h.2 fun b hb => hk b (mem_blocks_hd hb)⟩
  | bools e l => exact ⟨h.1, ownsRow_keep h.2 fun b hb => hk b (mem_blocks_hd hb)⟩
  | strs e l => exact ⟨h.1, ownsRow_keep h.2 fun b hb => hk b (mem_blocks_hd hb)⟩
  | rows ver e ei k l =>
    obtain ⟨h1, h2, h3⟩ := h
    refine ⟨ownsRow_keep h1 fun b hb => hk b (mem_blocks_hd hb), h2, fun i v r hi hr => ?_⟩
    exact ownsRow_keep (h3 i v r hi hr) fun b hb => hk b (mem_blocks_ins hi hb)

theorem RepO.block {E : Env} {w : World} {m : Img} {ob : Ob} (h : RepO E w m ob) : ∀ b ∈ m.blocks, b < w.heap.size := by
  intro b hb
  simp only [Img.blocks, List.mem_append, List.mem_filterMap, Option.mem_toList] at hb
  cases ob with
  | box cs =>
    obtain ⟨g, arr, t, h1, h2, h4, h5⟩ := h
    rcases hb with hb | ⟨v, hv, hvb⟩
    · rw [h1] at hb; simp [hdBlock] at hb; subst hb; exact (Array.getElem?_eq_some_iff.1 h4).1
    · rw [h2 v hv] at hvb; cases hvb
  | bx cs =>
    obtain ⟨g, arr, t, h1, h2, h4, h5⟩ := h
    rcases hb with hb | ⟨v, hv, hvb⟩
    · rw [h1] at hb; simp [hdBlock] at hb; subst hb; exact (Array.getElem?_eq_some_iff.1 h4).1
    · rw [h2 v hv] at hvb; cases hvb
  | ints e k l =>
    rcases hb with hb | ⟨v, hv, _⟩
    · exact (ownsRow_block h.2 b hb).2
    · simp [h.1] at hv
  | bools e l =>
    rcases hb with hb | ⟨v, hv, _⟩
    · exact (ownsRow_block h.2 b hb).2
    · simp [h.1] at hv
  | strs e l =>
    rcases hb with hb | ⟨v, hv, _⟩
    · exact (ownsRow_block h.2 b hb).2
    · simp [h.1] at hv
  | rows ver e ei k l =>
    obtain ⟨h1, h2, h3⟩ := h
    rcases hb with hb | ⟨v, hv, hb⟩
    · exact (ownsRow_block h1 b hb).2
    · obtain ⟨i, hi⟩ := List.getElem?_of_mem hv
      have hlt : i < l.length := by rw [← h2]; exact (List.getElem?_eq_some_iff.1 hi).1
      exact (ownsRow_block (h3 i v _ hi (List.getElem?_eq_getElem hlt)) b hb).2

section
variable {C : Cx} {σ σ' : State} {mu mu' : Nat → Img} {a a' : Act} {w w' : World}

/-- THE STEP: blocks in S may have turned; each object is as it was, apart from S, or it lies in S and in new blocks. -/
theorem St.upd (h : St C σ mu a w) (S : Nat → Prop) (hos : OsD w w') (htape : w'.tape = w.tape) (hout : w'.output = w.output) (hsize : w.heap.size ≤ w'.heap.size)
    (hS0 : ∀ b, S b → C.M b ∨ C.w0.heap.size ≤ b) (hkeep : ∀ b, b < w.heap.size → ¬ S b → w'.heap[b]? = w.heap[b]?)
    (hle : ∀ o, OLe (σ.ost o) (σ'.ost o) (mu o) (mu' o))
    (hob : ∀ o ob, σ'.H o = some (some ob) → (σ.H o = some (some ob) ∧ mu' o = mu o ∧ ∀ b ∈ (mu o).blocks, ¬ S b) ∨
      (RepO (σ'.env C.wF mu') w' (mu' o) ob ∧ (mu' o).blocks.Nodup ∧ (∀ b ∈ (mu' o).blocks, S b ∨ w.heap.size ≤ b) ∧
        ∀ o' ob', o ≠ o' → σ'.H o' = some (some ob') → (σ.H o' = some (some ob') ∧ mu' o' = mu o' ∧ ∀ b ∈ (mu o').blocks, ¬ S b) ∨ ∀ b ∈ (mu' o).blocks, b ∉ (mu' o').blocks))
    (hsz : a'.tmps.size = C.N) (hdf : a'.defers = [])
    (hfr : ∀ t sv, σ'.F t = some sv → (σ.F t = some sv ∧ a'.tmps.getD t undef = a.tmps.getD t undef) ∨ RepV C.P (σ'.env C.wF mu') sv (a'.tmps.getD t undef)) :
    St C σ' mu' a' w' := by
  have hE : EnvLe (σ.env C.wF mu) (σ'.env C.wF mu') := ⟨rfl, hle⟩
  have hbl : ∀ o ob, σ.H o = some (some ob) → ∀ b ∈ (mu o).blocks, b < w.heap.size := fun o ob ho => (h.ob o ob ho).block
  have hkb : ∀ k, k < C.w0.heap.size → ¬ C.M k → w'.heap[k]? = w.heap[k]? := fun k hk hm =>
    hkeep k (Nat.lt_of_lt_of_le hk h.size) (fun hs => by rcases hS0 k hs with h1 | h1 <;> first | exact hm h1 | omega)
  refine ⟨hos.trans h.os, htape.trans h.tape, hout.trans h.output, Nat.le_trans h.size hsize, fun k hk hm => ?_, fun p u hp => ?_, hsz, hdf, ?_, ?_, ?_, ?_, ?_⟩
  · rw [hkb k hk hm]; exact h.block k hk hm
  · obtain ⟨h1, h2⟩ := h.cells p u hp
    exact ⟨h1, (World.cell?_of_block (hkb _ h1.1 h1.2)).trans h2⟩
  · intro t sv ht
    rcases hfr t sv ht with ⟨h1, h2⟩ | h1
    · rw [h2]; exact (h.fr t sv h1).mono hE
    · exact h1
  · intro o ob ho
    rcases hob o ob ho with ⟨h1, h2, h3⟩ | ⟨h1, _⟩
    · rw [h2]; exact (h.ob o ob h1).keep hE fun b hb => hkeep b (hbl o ob h1 b hb) (h3 b hb)
    · exact h1
  · intro o ob ho
    rcases hob o ob ho with ⟨h1, h2, h3⟩ | ⟨_, h1, h2, _⟩
    · rw [h2]; exact h.nd o ob h1
    · exact ⟨h1, fun b hb => by
        rcases h2 b hb with hs | hs
        · exact hS0 b hs
        · exact .inr (Nat.le_trans h.size hs)⟩
  · intro o o' ob ob' hne ho ho' b hb hb'
    rcases hob o ob ho with ⟨h1, h2, h3⟩ | ⟨_, _, h1, h2⟩
    · rcases hob o' ob' ho' with ⟨k1, k2, k3⟩ | ⟨_, _, k1, k2⟩
      · rw [h2] at hb; rw [k2] at hb'
        exact h.sep o o' ob ob' hne h1 k1 b hb hb'
      · rw [h2] at hb
        rcases k1 b hb' with hs | hs
        · exact h3 b hb hs
        · have := hbl o ob h1 b hb; omega
    · rcases h2 o' ob' hne ho' with ⟨k1, k2, k3⟩ | k1
      · rw [k2] at hb'
        rcases h1 b hb with hs | hs
        · exact k3 b hb' hs
        · have := hbl o' ob' k1 b hb'; omega
      · exact k1 b hb hb'
  · intro o m hp
    have h1 := h.pins o m hp
    have h2 := hle o
    cases hs : σ.ost o with
    | absent => rw [hs] at h1; exact h1.elim
    | dead =>
      rw [hs] at h2
      cases hs' : σ'.ost o <;> rw [hs'] at h2 <;> first | trivial | exact h2.elim
    | live x =>
      rw [hs] at h1 h2
      cases hs' : σ'.ost o with
      | absent => rw [hs'] at h2; exact h2.elim
      | dead => trivial
      | live y =>
        rw [hs'] at h2
        obtain ⟨k1, k2, k3, k4⟩ := h2
        refine ⟨k2.trans h1.1, fun hv => ?_⟩
        rw [(k4 (by omega)).1]
        exact h1.2 (by omega)

end
end Go.Sx
