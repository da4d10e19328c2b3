/- SxIf -/
import Derived.Test.YtcfbmimjffkgdaaGreatSxF
section
section
namespace Go.Sx
open Go.RowKit
def OV (ov : Option Value) (oi : Option Int) : Prop :=
  match oi with
  | none => ov = none
  | some n => ∃ k, ov = some (.int k n)
def cutLo : Option Int → Nat
  | none => 0
  | some l => l.toNat
def cutHi (L : Nat) : Option Int → Nat
  | none => L
  | some h => h.toNat
theorem bds_lt {L : Nat} {l h : Option Int} (hb : bdsOk L l h) : cutLo l ≤ cutHi L h ∧ cutHi L h ≤ L := by
  cases l <;> cases h <;> simp only [bdsOk, cutLo, cutHi] at * <;> omega
theorem cutL_length {α : Type} {r : List α} {l h : Option Int} (hb : bdsOk r.length l h) : (cutL r l h).length = cutHi r.length h - cutLo l := by
  cases l <;> cases h <;> simp only [bdsOk, cutLo, cutHi, cutL] at * <;> simp <;> omega
theorem cutL_get {α : Type} {r : List α} {l h : Option Int} (hb : bdsOk r.length l h) {j : Nat} (hj : j < cutHi r.length h - cutLo l) : (cutL r l h)[j]? = r[cutLo l + j]? := by
  cases l <;> cases h <;> simp only [bdsOk, cutLo, cutHi, cutL] at *
  · simp
  · simp [List.getElem?_take]; intro; omega
  · simp [List.getElem?_drop]
  · simp only [List.getElem?_drop, List.getElem?_take]
    rw [if_pos (by omega)]
section
variable {C : Cx} {σ : State} {mu : Nat → Img} {a : Act} {w : World}
theorem rdo_run {α : Type} {x : Option Operand} {k : Option Int → Rd α} {r : α} (hr : (rdo x k).run σ = some r) (h : St C σ mu a w) :
    ∃ oi, (k oi).run σ = some r ∧ OV (x.map a.eval) oi := by
  cases x with
  | none => exact ⟨none, hr, rfl⟩
  | some y =>
    simp only [rdo] at hr
    obtain ⟨c, h1, h2⟩ := rdc_run hr h
    cases c with
    | int kd n => exact ⟨some n, h1, kd, by simp only [RepC] at h2; simp [h2]⟩
    | _ => simp [Rd.run] at h1
theorem run_slice {t e : TypeId} (he : elemT C.P t = some e) (hs : sizeT C.P e = some 1) {x : Option Addr} {len cap : Nat} {lo hi : Option Value} {l h : Option Int}
    (hl : OV lo l) (hh : OV hi h) (hb : bdsOk len l h) (hlc : len ≤ cap) :
    (Instr.sliceAt t (.slice x len cap) lo hi none).run C.P w = .ok (.slice (if cap = cutLo l then x else x.map (·.add (cutLo l))) (cutHi len h - cutLo l) (cap - cutLo l)) w := by
  have hu := run_underlying (elemT_ok he)
  have hsz := sizeT_ok hs
  cases l with
  | none =>
    simp only [OV] at hl; subst hl
    cases h with
    | none =>
      simp only [OV] at hh; subst hh
      simp [Instr.sliceAt, Instr.slice, Instr.sliceBounds, hu, hsz, cutLo, cutHi]
      rfl
    | some h =>
      obtain ⟨k, rfl⟩ := hh
      simp only [bdsOk] at hb
      have h2 : h ≤ (cap : Int) := by omega
      simp [Instr.sliceAt, Instr.slice, Instr.sliceBounds, Instr.sliceBound, asIntOf, hu, hsz, cutLo, cutHi, hb.1, h2]
      rfl
  | some l =>
    obtain ⟨k, rfl⟩ := hl
    cases h with
    | none =>
      simp only [OV] at hh; subst hh
      simp only [bdsOk] at hb
      simp [Instr.sliceAt, Instr.slice, Instr.sliceBounds, Instr.sliceBound, asIntOf, hu, hsz, cutLo, cutHi, hb.1, hb.2]
      rfl
    | some h =>
      obtain ⟨k', rfl⟩ := hh
      simp only [bdsOk] at hb
      have h1 : 0 ≤ h := by omega
      have h2 : h ≤ (cap : Int) := by omega
      have h3 : l ≤ max h 0 := by omega
      simp [Instr.sliceAt, Instr.slice, Instr.sliceBounds, Instr.sliceBound, asIntOf, hu, hsz, cutLo, cutHi, hb.1, h1, h2, h3]
      rfl
theorem viewV_cut {t e : TypeId} (he : elemT C.P t = some e) (hs : sizeT C.P e = some 1) {hd v : Value} {off n : Nat} (hv : ViewV hd off n v) {lo hi : Option Value} {l h : Option Int}
    (hl : OV lo l) (hh : OV hi h) (hb : bdsOk n l h) :
    ∃ v', (Instr.sliceAt t v lo hi none).run C.P w = .ok v' w ∧ ViewV hd (off + cutLo l) (cutHi n h - cutLo l) v' := by
  obtain ⟨h1, h2⟩ := bds_lt hb
  rcases hv with ⟨rfl, rfl, rfl, rfl⟩ | ⟨g, len, cap, ao, rfl, rfl, hc1, hc2, hao⟩
  · refine ⟨_, run_slice he hs hl hh hb (Nat.le_refl _), .inl ⟨rfl, ?_, by omega, by omega⟩⟩
    have e1 : cutLo l = 0 := by omega
    have e2 : cutHi 0 h = 0 := by omega
    simp [e1, e2]
  · refine ⟨_, run_slice he hs hl hh hb hc2, .inr ⟨g, len, cap, if cap - off = cutLo l then ao else ao.add (cutLo l), rfl, ?_, by omega, by omega, fun hor => ?_⟩⟩
    · have e1 : cap - (off + cutLo l) = cap - off - cutLo l := by omega
      rw [e1]
      by_cases hq : cap - off = cutLo l <;> simp [hq]
    · by_cases hq : cap - off = cutLo l
      · rw [if_pos hq]
        have : off = 0 ∧ cutLo l = 0 := by rcases hor with h3 | h3 <;> omega
        rw [this.1, this.2]
        exact hao (.inl this.1) |>.trans (by rw [this.1])
      · rw [if_neg hq, hao (.inr (by omega)), Addr.add_lit]
theorem sliceOf_cut {t e : TypeId} (he : elemT C.P t = some e) (hs : sizeT C.P e = some 1) {wF : World} {v : Value} {n : Nat} {R : Nat → Value → Prop} (hv : SliceOf wF v n R) {lo hi : Option Value} {l h : Option Int}
    (hl : OV lo l) (hh : OV hi h) (hb : bdsOk n l h) :
    ∃ v', (Instr.sliceAt t v lo hi none).run C.P w = .ok v' w ∧ SliceOf wF v' (cutHi n h - cutLo l) fun j u => R (cutLo l + j) u := by
  obtain ⟨h1, h2⟩ := bds_lt hb
  obtain ⟨x, c, rfl, hc, hk⟩ := hv
  refine ⟨_, run_slice he hs hl hh hb hc, _, _, rfl, by omega, fun h0 => ?_⟩
  obtain ⟨b, off, rfl, hk2⟩ := hk (by omega)
  refine ⟨b, off + cutLo l, ?_, fun i hi => ?_⟩
  · rw [if_neg (by omega)]; simp [Addr.add_lit]
  · obtain ⟨u, h3, h4⟩ := hk2 (cutLo l + i) (by omega)
    exact ⟨u, by rw [Nat.add_assoc]; exact h3, h4⟩
theorem SliceOf.mono {w : World} {v : Value} {n : Nat} {R R' : Nat → Value → Prop} (h : SliceOf w v n R) (hR : ∀ i u, i < n → R i u → R' i u) : SliceOf w v n R' := h.below hR
theorem cutL_getD {α : Type} {r : List α} {l h : Option Int} (hb : bdsOk r.length l h) {j : Nat} (hj : j < cutHi r.length h - cutLo l) (z : α) : (cutL r l h).getD j z = r.getD (cutLo l + j) z := by
  simp [List.getD, cutL_get hb hj]
theorem viewV_one {hd v : Value} {off n : Nat} (h : ViewV hd off n v) : v.oneCell' = true := by
  obtain ⟨x, c, rfl⟩ := viewV_form h
  rfl
theorem sopSlice_ok {t : TypeId} {cx : SC} {lo hi : Option Operand} {vx : Value} {eff : Eff} (hr : (sopSlice C.P t cx lo hi).run σ = some eff) (hob : eff.obl)
    (hx : RepC (σ.env C.wF mu) cx vx) (h : St C σ mu a w) :
    eff.hp = [] ∧ ∃ v, (Instr.sliceAt t vx (lo.map a.eval) (hi.map a.eval) none).run C.P w = .ok v w ∧ RepV C.P (σ.env C.wF mu) eff.val v := by
  unfold sopSlice at hr
  split at hr
  · rename_i r
    simp only [RepC] at hx
    subst hx
    split at hr
    · rename_i hu
      obtain ⟨l, hr, hl⟩ := rdo_run hr h
      obtain ⟨hh, hr, hhi⟩ := rdo_run hr h
      simp only [Rd.run, Option.some.injEq] at hr
      subst hr
      have hsz : (⟨r.toArray⟩ : ByteArray).size = r.length := by simp [ByteArray.size]
      have hb : bdsOk r.length l hh := hob
      have hex : (⟨r.toArray⟩ : ByteArray).extract (cutLo l) (cutHi r.length hh) = ⟨(cutL r l hh).toArray⟩ := by
        apply ByteArray.ext
        apply Array.ext'
        simp only [ByteArray.data_extract, Array.toList_extract]
        obtain ⟨h1, h2⟩ := bds_lt hb
        apply List.ext_getElem?
        intro j
        by_cases hj : j < cutHi r.length hh - cutLo l
        · rw [cutL_get hb hj]
          simp [List.extract, List.getElem?_drop, hj]
        · rw [List.getElem?_eq_none (l := cutL r l hh) (by rw [cutL_length hb]; omega)]
          simp [List.extract]
          omega
      refine ⟨rfl, .string ⟨(cutL r l hh).toArray⟩, ?_, rfl⟩
      rw [← hex]
      generalize lo.map a.eval = lo' at hl
      generalize hi.map a.eval = hi' at hhi
      cases l with
      | none =>
        simp only [OV] at hl; subst hl
        cases hh with
        | none => simp only [OV] at hhi; subst hhi; simp only [cutLo, cutHi, cutL] at hex; simp [Instr.sliceAt, Instr.slice, Instr.sliceBounds, run_underlying hu, cutLo, cutHi, hex]
        | some hh =>
          obtain ⟨k, rfl⟩ := hhi
          simp only [bdsOk] at hb
          simp [Instr.sliceAt, Instr.slice, Instr.sliceBounds, Instr.sliceBound, asIntOf, run_underlying hu, cutLo, cutHi, hsz, hb.1, hb.2]
      | some l =>
        obtain ⟨k, rfl⟩ := hl
        cases hh with
        | none =>
          simp only [OV] at hhi; subst hhi
          simp only [bdsOk] at hb
          simp [Instr.sliceAt, Instr.slice, Instr.sliceBounds, Instr.sliceBound, asIntOf, run_underlying hu, cutLo, cutHi, hsz, hb.1, hb.2]
        | some hh =>
          obtain ⟨k', rfl⟩ := hhi
          simp only [bdsOk] at hb
          have h1 : 0 ≤ hh := by omega
          have h3 : l ≤ max hh 0 := by omega
          simp [Instr.sliceAt, Instr.slice, Instr.sliceBounds, Instr.sliceBound, asIntOf, run_underlying hu, cutLo, cutHi, hsz, hb.1, hb.2.2, h1, h3]
    · simp [Rd.run] at hr
  · split at hr
    · simp [Rd.run] at hr
    · rename_i e he
      split at hr
      · rename_i hs
        obtain ⟨l, hr, hl⟩ := rdo_run hr h
        obtain ⟨hh, hr, hhi⟩ := rdo_run hr h
        cases cx with
        | own o =>
          obtain ⟨ob, ho, hr⟩ := run_h hr
          have hnf : ob.isFz = false := by cases ob <;> first | rfl | simp [Rd.run] at hr
          have hv' : vx = (mu o).hd := on_live ho hx
          subst hv'
          have key : ∀ L, ob.len? = some L → eff = ⟨.c (cutO o L l hh), [], some (bdsOk L l hh)⟩ →
              eff.hp = [] ∧ ∃ v, (Instr.sliceAt t (mu o).hd (lo.map a.eval) (hi.map a.eval) none).run C.P w = .ok v w ∧ RepV C.P (σ.env C.wF mu) eff.val v := fun L hL heff => by
            subst heff
            obtain ⟨h1, h2⟩ := own_view hL (h.ob o ob ho)
            obtain ⟨v', h3, h4⟩ := viewV_cut (w := w) he hs h1 hl hhi hob
            obtain ⟨b1, b2⟩ := bds_lt (show bdsOk L l hh from hob)
            refine ⟨rfl, v', h3, ?_⟩
            cases l <;> cases hh <;> simp only [cutO, cutLo, cutHi, Nat.zero_add, Nat.sub_zero] at h4 b1 b2 ⊢ <;> refine rep_live ho (viewV_one h4) ⟨by omega, h4⟩
          cases ob with
          | box cs => simp [Rd.run] at hr
          | bx cs => simp [Rd.run] at hr
          | strs e l => simp [Rd.run] at hr
          | ints e k l => simp only [Rd.run, Option.some.injEq] at hr; exact key _ rfl hr.symm
          | bools e l => simp only [Rd.run, Option.some.injEq] at hr; exact key _ rfl hr.symm
          | rows ver e ei k l => simp only [Rd.run, Option.some.injEq] at hr; exact key _ rfl hr.symm
          | lst ver e d => simp only [Rd.run, Option.some.injEq] at hr; exact key _ rfl hr.symm
          | frz d => simp [Rd.run] at hr
          | mp l => simp [Rd.run] at hr
        | pre o L =>
          obtain ⟨ob, ho, hr⟩ := run_h hr
          obtain ⟨hnf, hr⟩ := nfR_run hr
          simp only [Rd.run, Option.some.injEq] at hr
          subst hr
          obtain ⟨h2, h1⟩ := on_live ho hx
          obtain ⟨v', h3, h4⟩ := viewV_cut (w := w) he hs h1 hl hhi hob
          obtain ⟨b1, b2⟩ := bds_lt (show bdsOk L l hh from hob)
          refine ⟨rfl, v', h3, ?_⟩
          cases l <;> cases hh <;> simp only [cutO, cutLo, cutHi, Nat.zero_add, Nat.sub_zero] at h4 b1 b2 ⊢ <;> refine rep_live ho (viewV_one h4) ⟨by omega, h4⟩
        | sub o off L =>
          obtain ⟨ob, ho, hr⟩ := run_h hr
          obtain ⟨hnf, hr⟩ := nfR_run hr
          simp only [Rd.run, Option.some.injEq] at hr
          subst hr
          obtain ⟨h2, h1⟩ := on_live ho hx
          obtain ⟨v', h3, h4⟩ := viewV_cut (w := w) he hs h1 hl hhi hob
          obtain ⟨b1, b2⟩ := bds_lt (show bdsOk L l hh from hob)
          refine ⟨rfl, v', h3, ?_⟩
          cases l <;> cases hh <;> simp only [cutS, cutLo, cutHi, Nat.add_zero, Nat.sub_zero] at h4 b1 b2 ⊢ <;> refine rep_live ho (viewV_one h4) ⟨by omega, h4⟩
        | ro d =>
          obtain ⟨_, hx⟩ := hx
          cases d with
          | ints k r =>
            simp only [Rd.run, Option.some.injEq] at hr
            subst hr
            obtain ⟨v', h3, h4⟩ := sliceOf_cut (w := w) he hs hx hl hhi hob
            have hq : Reads C.wF v' (.ints k (cutL r l hh)) := by
              show SliceOf _ _ _ _
              rw [cutL_length hob]
              exact h4.mono fun i u hi hu => by rw [hu, cutL_getD hob hi]
            exact ⟨rfl, v', h3, hq.slice, hq⟩
          | bools r =>
            simp only [Rd.run, Option.some.injEq] at hr
            subst hr
            obtain ⟨v', h3, h4⟩ := sliceOf_cut (w := w) he hs hx hl hhi hob
            have hq : Reads C.wF v' (.bools (cutL r l hh)) := by
              show SliceOf _ _ _ _
              rw [cutL_length hob]
              exact h4.mono fun i u hi hu => by rw [hu, cutL_getD hob hi]
            exact ⟨rfl, v', h3, hq.slice, hq⟩
          | rows k r =>
            simp only [Rd.run, Option.some.injEq] at hr
            subst hr
            obtain ⟨v', h3, h4⟩ := sliceOf_cut (w := w) he hs hx hl hhi hob
            have hq : Reads C.wF v' (.rows k (cutL r l hh)) := by
              show SliceOf _ _ _ _
              rw [cutL_length hob]
              exact h4.mono fun i u hi hu => by rw [cutL_getD hob hi]; exact hu
            exact ⟨rfl, v', h3, hq.slice, hq⟩
          | r3 k r =>
            simp only [Rd.run, Option.some.injEq] at hr
            subst hr
            obtain ⟨v', h3, h4⟩ := sliceOf_cut (w := w) he hs hx hl hhi hob
            have hq : Reads C.wF v' (.r3 k (cutL r l hh)) := by
              show SliceOf _ _ _ _
              rw [cutL_length hob]
              exact h4.mono fun i u hi hu => by rw [cutL_getD hob hi]; exact hu
            exact ⟨rfl, v', h3, hq.slice, hq⟩
          | r4 k r =>
            simp only [Rd.run, Option.some.injEq] at hr
            subst hr
            obtain ⟨v', h3, h4⟩ := sliceOf_cut (w := w) he hs hx hl hhi hob
            have hq : Reads C.wF v' (.r4 k (cutL r l hh)) := by
              show SliceOf _ _ _ _
              rw [cutL_length hob]
              exact h4.mono fun i u hi hu => by rw [cutL_getD hob hi]; exact hu
            exact ⟨rfl, v', h3, hq.slice, hq⟩
          | _ => simp [Rd.run] at hr
        | _ => simp [Rd.run] at hr
      · simp [Rd.run] at hr
end
end Go.Sx
end
section
namespace Go.Sx
open Go.RowKit
theorem lk_append {α : Type} (l l' : List (Nat × α)) (t : Nat) : lk (l ++ l') t = match lk l t with | some x => some x | none => lk l' t := by
  induction l with
  | nil => simp [lk]
  | cons p l ih =>
    obtain ⟨k, v⟩ := p
    rw [List.cons_append, lk_cons, lk_cons]
    by_cases h : k = t <;> simp [h, ih]
section
variable {C : Cx} {σ : State} {mu mu' : Nat → Img} {a : Act} {w w' : World}
theorem H_app {dst : Option Nat} {e : Eff} {o : Nat} : (σ.app dst e).H o = match lk e.hp o with | some x => some x | none => σ.H o := by
  simp only [State.app, State.H, lk_append]
  cases lk e.hp o <;> rfl
def touched (σ : State) (mu : Nat → Img) (e : Eff) (b : Nat) : Prop := ∃ o x ob, lk e.hp o = some x ∧ σ.H o = some (some ob) ∧ b ∈ (mu o).blocks
def ostOf : Option Ob → OSt
  | none => .dead
  | some ob => obSt ob
theorem ups_ole {dst : Option Nat} {e : Eff} {wG : World} (hmu : ∀ o, lk e.hp o = none → mu' o = mu o)
    (hole : ∀ o x, lk e.hp o = some x → OLeF wG (σ.ost o) (ostOf x) (mu o) (mu' o)) (o : Nat) : OLeF wG (σ.ost o) ((σ.app dst e).ost o) (mu o) (mu' o) := by
  cases hx : lk e.hp o with
  | none =>
    have : (σ.app dst e).ost o = σ.ost o := by simp [State.ost, H_app, hx]
    rw [this, hmu o hx]; exact OLeF.refl _ _ _
  | some x =>
    have : (σ.app dst e).ost o = ostOf x := by cases x <;> simp [State.ost, H_app, hx, ostOf]
    rw [this]; exact hole o x hx
theorem St.upsG (h : St C σ mu a w) {dst : Option Nat} (hd : ∀ d, dst = some d → d < C.N) {e : Eff} {v : Value} {wG : World}
    (hos : OsD w w') (htape : w'.tape = w.tape) (hout : w'.output = w.output) (hsize : w.heap.size ≤ w'.heap.size)
    (hkeep : ∀ b, b < w.heap.size → ¬ touched σ mu e b → w'.heap[b]? = w.heap[b]?)
    (hG : Kept C.wF wG) (hG2 : ∀ p u, wG.cell? p = some u → C.wF.cell? p = some u ∨ (w'.cell? p = some u ∧ (∀ o ob, lk e.hp o = none → σ.H o = some (some ob) → p.block ∉ (mu o).blocks) ∧ ∀ o ob, lk e.hp o = some (some ob) → p.block ∉ (mu' o).blocks))
    (hmu : ∀ o, lk e.hp o = none → mu' o = mu o)
    (hole : ∀ o x, lk e.hp o = some x → OLeF wG (σ.ost o) (ostOf x) (mu o) (mu' o))
    (hnew : ∀ o ob, lk e.hp o = some (some ob) → RepO (σ.env wG mu) w' (mu' o) ob ∧ (mu' o).blocks.Nodup ∧ ∀ b ∈ (mu' o).blocks, touched σ mu e b ∨ w.heap.size ≤ b)
    (hsep : ∀ o o' ob ob', o ≠ o' → lk e.hp o = some (some ob) → lk e.hp o' = some (some ob') → ∀ b ∈ (mu' o).blocks, b ∉ (mu' o').blocks)
    (hval : EnvLe (σ.env C.wF mu) ((σ.app dst e).env wG mu') → RepV C.P ((σ.app dst e).env wG mu') e.val v) : St (C.fz wG) (σ.app dst e) mu' (a.put dst v) w' := by
  have hle := ups_ole (dst := dst) hmu hole
  have hE : EnvLe (σ.env C.wF mu) ((σ.app dst e).env wG mu') := ⟨hG, hle⟩
  have hE2 : EnvLe (σ.env wG mu) ((σ.app dst e).env wG mu') := ⟨fun _ _ h => h, hle⟩
  have hlive : ∀ o ob, (σ.app dst e).H o = some (some ob) → (lk e.hp o = none ∧ σ.H o = some (some ob)) ∨ lk e.hp o = some (some ob) := fun o ob ho => by
    rw [H_app] at ho
    cases hx : lk e.hp o with
    | none => rw [hx] at ho; exact .inl ⟨rfl, ho⟩
    | some x => rw [hx] at ho; exact .inr ho
  have hG3 : ∀ p u, wG.cell? p = some u → C.wF.cell? p = some u ∨ (w'.cell? p = some u ∧ ∀ o ob, (σ.app dst e).H o = some (some ob) → p.block ∉ (mu' o).blocks) := fun p u hp => by
    rcases hG2 p u hp with h1 | ⟨h1, h2, h3⟩
    · exact .inl h1
    · refine .inr ⟨h1, fun o ob ho => ?_⟩
      rcases hlive o ob ho with ⟨h4, h5⟩ | h4
      · rw [hmu o h4]; exact h2 o ob h4 h5
      · exact h3 o ob h4
  refine h.updG (touched σ mu e) hos htape hout hsize ?_ hkeep hG hG3 hle (fun o ob ho => ?_) (by rw [size_put]; exact h.sz) (by rw [defers_put]; exact h.df) (fr_app h hd (hval hE))
  · rintro b ⟨o, x, ob, _, h2, h3⟩
    exact ⟨o, ob, h2, h3⟩
  · have old : ∀ o' ob', lk e.hp o' = none → σ.H o' = some (some ob') → ∀ b ∈ (mu o').blocks, ¬ touched σ mu e b := by
      rintro o' ob' h1 h2 b hb ⟨o2, x, ob2, h3, h4, h5⟩
      have hne : o' ≠ o2 := fun hc => by rw [hc, h3] at h1; cases h1
      exact h.sep o' o2 ob' ob2 hne h2 h4 b hb h5
    rcases hlive o ob ho with ⟨hx, ho⟩ | hx
    · exact .inl ⟨ho, hmu o hx, old o ob hx ho⟩
    · obtain ⟨h1, h2, h3⟩ := hnew o ob hx
      refine .inr ⟨h1.keep hE2 (fun _ _ => rfl), h2, h3, fun o' ob' hne ho' => ?_⟩
      rcases hlive o' ob' ho' with ⟨hx', ho'⟩ | hx'
      · exact .inl ⟨ho', hmu o' hx', old o' ob' hx' ho'⟩
      · exact .inr (hsep o o' ob ob' hne hx hx')
theorem St.ups (h : St C σ mu a w) {dst : Option Nat} (hd : ∀ d, dst = some d → d < C.N) {e : Eff} {v : Value}
    (hos : OsD w w') (htape : w'.tape = w.tape) (hout : w'.output = w.output) (hsize : w.heap.size ≤ w'.heap.size)
    (hkeep : ∀ b, b < w.heap.size → ¬ touched σ mu e b → w'.heap[b]? = w.heap[b]?)
    (hmu : ∀ o, lk e.hp o = none → mu' o = mu o)
    (hole : ∀ o x, lk e.hp o = some x → OLe (σ.ost o) (ostOf x) (mu o) (mu' o))
    (hnew : ∀ o ob, lk e.hp o = some (some ob) → RepO (σ.env C.wF mu) w' (mu' o) ob ∧ (mu' o).blocks.Nodup ∧ ∀ b ∈ (mu' o).blocks, touched σ mu e b ∨ w.heap.size ≤ b)
    (hsep : ∀ o o' ob ob', o ≠ o' → lk e.hp o = some (some ob) → lk e.hp o' = some (some ob') → ∀ b ∈ (mu' o).blocks, b ∉ (mu' o').blocks)
    (hval : EnvLe (σ.env C.wF mu) ((σ.app dst e).env C.wF mu') → RepV C.P ((σ.app dst e).env C.wF mu') e.val v) : St C (σ.app dst e) mu' (a.put dst v) w' :=
  h.upsG hd hos htape hout hsize hkeep (fun _ _ h => h) (fun _ _ h => .inl h) hmu (fun o x hx => .inl (hole o x hx)) hnew hsep hval
theorem St.new (h : St C σ mu a w) {dst : Option Nat} (hd : ∀ d, dst = some d → d < C.N) {d : Nat} (habs : σ.H d = none) {val : SV} {p : Option Prop} {ob : Ob} {m : Img} {v : Value}
    (hg : GrB w w' none) (hrep : RepO (σ.env C.wF mu) w' m ob) (hnd : m.blocks.Nodup) (hb : ∀ b ∈ m.blocks, w.heap.size ≤ b)
    (hval : RepV C.P ⟨C.wF, fun o => if o = d then m else mu o, fun o => if o = d then obSt ob else σ.ost o⟩ val v) :
    StE C (σ.app dst ⟨val, [(d, some ob)], p⟩) (a.put dst v) w' := by
  have hlk : ∀ o, lk [(d, some ob)] o = if d = o then some (some ob) else none := fun o => by rw [lk_cons]; simp [lk]
  refine St.ex (mu := fun o => if o = d then m else mu o) (h.ups hd hg.os hg.tape hg.output hg.size (fun b hb' _ => hg.block b hb' (by simp)) (fun o ho => ?_) (fun o x ho => ?_) (fun o ob' ho => ?_) (fun o o' ob1 ob2 hne ho ho' => ?_) (fun _ => ?_))
  · rw [hlk] at ho
    split at ho
    · cases ho
    · rename_i hne; simp [Ne.symm hne]
  · rw [hlk] at ho
    split at ho
    · rename_i hdo; subst hdo
      have : σ.ost d = .absent := by simp [State.ost, habs]
      rw [this]; trivial
    · cases ho
  · rw [hlk] at ho
    split at ho
    · rename_i hdo; subst hdo; cases ho
      simp only [if_true]
      exact ⟨hrep, hnd, fun b hb' => .inr (hb b hb')⟩
    · cases ho
  · rw [hlk] at ho ho'
    split at ho <;> split at ho' <;> first | cases ho; done | cases ho'; done | (rename_i h1 h2; exact absurd (h1.symm.trans h2) hne)
  · have : (σ.app dst ⟨val, [(d, some ob)], p⟩).env C.wF (fun o => if o = d then m else mu o) = ⟨C.wF, fun o => if o = d then m else mu o, fun o => if o = d then obSt ob else σ.ost o⟩ := by
      simp only [State.env, Env.mk.injEq, true_and]
      funext o
      simp only [State.ost, H_app, hlk]
      by_cases hdo : d = o
      · subst hdo; simp
      · simp [hdo, Ne.symm hdo]
    rw [this]; exact hval
theorem repL_alloc {E : Env} {cs : List SC} {arr : Array Value} (h : RepL E cs arr) (t : TypeId) : RepO E (w.alloc (.cells arr t)) ⟨.pointer (some ⟨w.heap.size, 0, none⟩), []⟩ (.box cs) :=
  ⟨w.heap.size, arr, t, rfl, by simp, heap_alloc_new w _, h⟩
theorem St.newBox (h : St C σ mu a w) {dst : Option Nat} (hd : ∀ d, dst = some d → d < C.N) {d : Nat} (habs : σ.H d = none) {p : Option Prop} {cs : List SC} {arr : Array Value} (ty : TypeId)
    (hr : RepL (σ.env C.wF mu) cs arr) (hne : cs ≠ []) :
    StE C (σ.app dst ⟨.c (.ptr d 0), [(d, some (.box cs))], p⟩) (a.put dst (.pointer (some ⟨w.heap.size, 0, none⟩))) (w.alloc (.cells arr ty)) := by
  refine h.new hd habs (grB_alloc w _ none) (repL_alloc hr ty) (by simp [Img.blocks, hdBlock]) (by simp [Img.blocks, hdBlock]) ?_
  simp only [RepV, RepC, RefOn, if_true, OSt.on, Ob.shp, obSt]
  exact ⟨rfl, List.length_pos_iff.2 hne, w.heap.size, rfl, rfl⟩
theorem zeroCs_ok {P : Program} {t : TypeId} {cs : List SC} (h : zeroCs P t = some cs) (w : World) (E : Env) :
    ∃ z, (zeroValue t).run P w = .ok z w ∧ RepL E cs z.cells := by
  unfold zeroCs at h
  split at h
  · rename_i i hi
    split at h
    · rename_i z hz
      obtain ⟨h1, h2⟩ := allSome_spec h
      refine ⟨z, by simp [zeroValue, typeInfo, hi, hz], by simpa using h1.symm, fun j c hc => ?_⟩
      obtain ⟨x, h3, h4⟩ := h2 j c hc
      have := constC_rep (E := E) h4
      exact ⟨x, by simpa using h3, this.2.1, this.1⟩
    · cases h
  · cases h
theorem sopAlloc_ok {d : Nat} {t : TypeId} {eff : Eff} (hr : (sopAlloc C.P d t).run σ = some eff) (h : St C σ mu a w) {dst : Option Nat} (hd : ∀ d, dst = some d → d < C.N) :
    ∃ v w', (Instr.alloc t true (.tuple #[])).run C.P w = .ok v w' ∧ StE C (σ.app dst eff) (a.put dst v) w' := by
  unfold sopAlloc at hr
  split at hr
  · rename_i cs hcs
    obtain ⟨habs, hr⟩ := run_abs hr
    split at hr
    · rename_i hne
      simp only [Rd.run, Option.some.injEq] at hr
      subst hr
      obtain ⟨z, hz, hrep⟩ := zeroCs_ok hcs w (σ.env C.wF mu)
      refine ⟨_, _, ?_, h.newBox hd habs t hrep (by intro hc; subst hc; simp at hne)⟩
      simp [Instr.alloc, hz, newVar, newRow]
    · simp [Rd.run] at hr
  · simp [Rd.run] at hr
theorem plain_one {E : Env} {c : SC} {v : Value} (hp : c.plain = true) (hc : RepC E c v) : v.oneCell' = true := by
  cases c with
  | any => cases hp
  | und => cases hp
  | int k n => simp only [RepC] at hc; rw [hc]; rfl
  | bool b => simp only [RepC] at hc; rw [hc]; rfl
  | str l => simp only [RepC] at hc; rw [hc]; rfl
  | nil => simp only [RepC] at hc; rw [hc]; rfl
  | own o => exact hc.1
  | pre o n => exact hc.1
  | sub o off n => exact hc.1
  | ptr o i => exact hc.1
  | row o ver i => exact hc.1
  | rptr o ver i j => exact hc.1
  | ro d => obtain ⟨⟨a, n, c, hv, _⟩, _⟩ := hc; rw [hv]; rfl
  | rop d i => obtain ⟨b, off, fc, u, _, hv, _⟩ := hc; rw [hv]; rfl
  | rob cs i => obtain ⟨b, off, hv, _⟩ := hc; rw [hv]; rfl
  | nilq b => obtain ⟨a, n, c, hv, _⟩ := hc; rw [hv]; rfl
  | emp => obtain ⟨a, hv⟩ := hc; rw [hv]; rfl
  | bsl o n => exact hc.1
  | orig o j d => exact hc.2.1
theorem cells_one {v : Value} (h : v.oneCell' = true) : v.cells = #[v] := by cases v <;> first | rfl | cases h
theorem sopBox_ok {d : Nat} {t : TypeId} {sv : SV} {vx : Value} {eff : Eff} (hr : (sopBox d sv).run σ = some eff) (hx : RepV C.P (σ.env C.wF mu) sv vx) (h : St C σ mu a w)
    {dst : Option Nat} (hd : ∀ d, dst = some d → d < C.N) :
    ∃ v w', (Instr.box t vx).run C.P w = .ok v w' ∧ StE C (σ.app dst eff) (a.put dst v) w' := by
  unfold sopBox at hr
  split at hr
  · rename_i c
    split at hr
    · rename_i hp
      obtain ⟨habs, hr⟩ := run_abs hr
      simp only [Rd.run, Option.some.injEq] at hr
      subst hr
      have h1 := plain_one hp hx
      refine ⟨_, _, ?_, h.newBox hd habs (arr := vx.cells) t ?_ (by simp)⟩
      · simp [Instr.box, newVar, newRow]
      · rw [cells_one h1]
        refine ⟨rfl, fun i c' hc' => ?_⟩
        cases i with
        | zero => simp at hc'; subst hc'; exact ⟨vx, rfl, h1, hx⟩
        | succ i => simp at hc'
    · simp [Rd.run] at hr
  · rename_i cs
    obtain ⟨habs, hr⟩ := run_abs hr
    split at hr
    · rename_i hne
      simp only [Rd.run, Option.some.injEq] at hr
      subst hr
      obtain ⟨arr, rfl, hrep⟩ := hx
      refine ⟨_, _, ?_, h.newBox hd habs (arr := arr) t hrep (by intro hc; subst hc; simp at hne)⟩
      simp [Instr.box, newVar, newRow, Value.cells]
    · simp [Rd.run] at hr
  · simp [Rd.run] at hr
end
end Go.Sx
end
end
section
namespace Go.Sx
open Go.RowKit
theorem zeroIs_ok {P : Program} {e : TypeId} {c : SC} (h : zeroIs P e c = true) : ∃ i z, P.info? e = some i ∧ i.zero = some z ∧
    (∀ k n, c = .int k n → z = .int k n) ∧ (∀ b, c = .bool b → z = .bool b) ∧ (c = .nil → z = .slice none 0 0) ∧ z.cells = #[z] := by
  unfold zeroIs at h
  split at h
  · rename_i i hi
    refine ⟨i, ?_⟩
    split at h
    · rename_i k n hz
      refine ⟨_, hi, hz, ?_⟩
      cases c <;> simp_all [Value.cells]
    · rename_i b hz
      refine ⟨_, hi, hz, ?_⟩
      cases c <;> simp_all [Value.cells]
    · rename_i hz
      refine ⟨_, hi, hz, ?_⟩
      cases c <;> simp_all [Value.cells]
    · cases h
  · cases h
theorem bytesOk_ok {P : Program} {e : TypeId} (h : bytesOk P e = true) : ∃ i z, P.info? e = some i ∧ i.zero = some z ∧ i.size = 1 ∧ i.bytes ≤ 128 ∧ z.cells.size = 1 := by
  unfold bytesOk at h
  split at h
  · rename_i i hi
    simp only [Bool.and_eq_true, Nat.ble_eq] at h
    obtain ⟨⟨h1, h2⟩, h3⟩ := h
    split at h3
    · rename_i z hz
      exact ⟨i, z, hi, hz, Nat.eq_of_beq_eq_true h2, h1, Nat.eq_of_beq_eq_true h3⟩
    · cases h3
  · cases h
section
variable {C : Cx} {σ : State} {mu : Nat → Img} {a : Act} {w : World}
theorem run_mk {t e : TypeId} (he : elemT C.P t = some e) (hb : bytesOk C.P e = true) {i : TypeInfo} {z : Value} (hi : C.P.info? e = some i) (hz : i.zero = some z) (hzc : z.cells = #[z])
    {kl kc : IntKind} {n m : Int} (h0 : 0 ≤ n) (h1 : n ≤ m) (h2 : room m.toNat) :
    ∃ w', (Instr.makeSlice t (.int kl n) (.int kc m)).run C.P w = .ok (.slice (some ⟨w.heap.size, 0, none⟩) n.toNat m.toNat) w' ∧ GrB w w' none ∧
      w'.ownsRow 0 e 1 (.slice (some ⟨w.heap.size, 0, none⟩) n.toNat m.toNat) n.toNat (List.replicate n.toNat z) := by
  obtain ⟨i', z', hi', hz', hs, hby, _⟩ := bytesOk_ok hb
  rw [hi] at hi'; cases hi'
  unfold room at h2
  have hb1 : i.bytes * m.toNat ≤ 128 * 1099511627776 := Nat.mul_le_mul hby h2
  have hb2 : (i.bytes : Int) * m ≤ 281474976710656 := by
    have h3 : ((i.bytes * m.toNat : Nat) : Int) ≤ ((128 * 1099511627776 : Nat) : Int) := Int.ofNat_le.2 hb1
    rw [Int.natCast_mul, Int.toNat_of_nonneg (by omega)] at h3
    omega
  have hr := run_make (P := C.P) w t e i z (elemT_ok he) hi hz kl kc n m h0 h1 hb2 (by omega)
  refine ⟨_, hr, grB_alloc w _ none, by simp, .inr ⟨w.heap.size, m.toNat, _, rfl, Nat.zero_le _, heap_alloc_new w _, by omega, by unfold maxLen; omega, ?_, ?_⟩⟩
  · rw [size_madeCells, hs]
  · rw [hzc, toList_madeCells_one, hs]
    simp only [Nat.mul_one]
    rw [List.take_replicate]
    congr 1
    omega
theorem sopMake_ok {d : Nat} {t : TypeId} {cl cc : SC} {vl vc : Value} {eff : Eff} (hr : (sopMake C.P d t cl cc).run σ = some eff) (hob : eff.obl)
    (hl : RepC (σ.env C.wF mu) cl vl) (hc : RepC (σ.env C.wF mu) cc vc) (h : St C σ mu a w) {dst : Option Nat} (hd : ∀ d, dst = some d → d < C.N) :
    ∃ v w', (Instr.makeSlice t vl vc).run C.P w = .ok v w' ∧ StE C (σ.app dst eff) (a.put dst v) w' := by
  unfold sopMake at hr
  split at hr
  · simp [Rd.run] at hr
  · rename_i e he
    split at hr
    · rename_i hb
      split at hr
      · rename_i kl n kc m
        simp only [RepC] at hl hc
        subst hl; subst hc
        split at hr
        · rename_i k hu
          split at hr
          · rename_i hz
            obtain ⟨habs, hr⟩ := run_abs hr
            simp only [Rd.run, Option.some.injEq] at hr
            subst hr
            obtain ⟨i, z, hi, hz, h1, _, _, hzc⟩ := zeroIs_ok hz
            obtain ⟨w', hrun, hg, hown⟩ := run_mk (w := w) he hb hi hz hzc (kl := kl) (kc := kc) hob.1 hob.2.1 hob.2.2
            rw [h1 k 0 rfl] at hown
            refine ⟨_, w', hrun, h.new (m := ⟨.slice (some ⟨w.heap.size, 0, none⟩) n.toNat m.toNat, []⟩) hd habs hg ⟨rfl, by simpa using hown⟩ (by simp [Img.blocks, hdBlock]) (by simp [Img.blocks, hdBlock]) ?_⟩
            simp [RepV, RepC, RefOn, OSt.on, obSt, Value.oneCell']
          · simp [Rd.run] at hr
        · rename_i hu
          split at hr
          · rename_i hz
            obtain ⟨habs, hr⟩ := run_abs hr
            simp only [Rd.run, Option.some.injEq] at hr
            subst hr
            obtain ⟨i, z, hi, hz, _, h1, _, hzc⟩ := zeroIs_ok hz
            obtain ⟨w', hrun, hg, hown⟩ := run_mk (w := w) he hb hi hz hzc (kl := kl) (kc := kc) hob.1 hob.2.1 hob.2.2
            rw [h1 false rfl] at hown
            refine ⟨_, w', hrun, h.new (m := ⟨.slice (some ⟨w.heap.size, 0, none⟩) n.toNat m.toNat, []⟩) hd habs hg ⟨rfl, by simpa using hown⟩ (by simp [Img.blocks, hdBlock]) (by simp [Img.blocks, hdBlock]) ?_⟩
            simp [RepV, RepC, RefOn, OSt.on, obSt, Value.oneCell']
          · simp [Rd.run] at hr
        · rename_i ei hu
          split at hr
          · rename_i k hk
            split at hr
            · rename_i hz
              obtain ⟨habs, hr⟩ := run_abs hr
              simp only [Rd.run, Option.some.injEq] at hr
              subst hr
              obtain ⟨i, z, hi, hz, _, _, h1, hzc⟩ := zeroIs_ok hz
              obtain ⟨w', hrun, hg, hown⟩ := run_mk (w := w) he hb hi hz hzc (kl := kl) (kc := kc) hob.1 hob.2.1 hob.2.2
              rw [h1 rfl] at hown
              have hfm : (List.replicate n.toNat (Value.slice none 0 0)).filterMap hdBlock = [] := by
                rw [List.filterMap_eq_nil_iff]
                intro v hv
                rw [List.eq_of_mem_replicate hv]; rfl
              refine ⟨_, w', hrun, h.new (m := ⟨.slice (some ⟨w.heap.size, 0, none⟩) n.toNat m.toNat, List.replicate n.toNat (.slice none 0 0)⟩) hd habs hg ⟨by simpa using hown, by simp, fun j v r hj hr => ?_⟩ ?_ ?_ ?_⟩
              · rw [List.eq_of_mem_replicate (List.mem_of_getElem? hj), List.eq_of_mem_replicate (List.mem_of_getElem? hr)]
                exact World.ownsRow_nil _ _ _ _
              · simp [Img.blocks, hfm, hdBlock]
              · simp [Img.blocks, hfm, hdBlock]
              · simp [RepV, RepC, RefOn, OSt.on, obSt, Value.oneCell']
            · simp [Rd.run] at hr
          · simp [Rd.run] at hr
        · simp [Rd.run] at hr
      · simp [Rd.run] at hr
    · simp [Rd.run] at hr
def CellsAt (w : World) (y : Value) (m : Nat) (news : List Value) : Prop :=
  ∃ yo c, y = .slice yo m c ∧ news.length = m ∧ (0 < m → ∃ ad, yo = some ad ∧ ∀ (j : Nat) (u : Value), news[j]? = some u → w.cell? (ad.add j) = some u)
theorem run_app {t ty e : TypeId} (he : elemT C.P t = some e) (hb : bytesOk C.P e = true) {v y : Value} {n m : Nat} {xs news : List Value} (hown : w.ownsRow 0 e 1 v n xs)
    (hy : CellsAt w y m news) (h1 : ∀ u ∈ news, u.oneCell' = true) (hroom : room (n + m)) :
    ∃ v' w', (Builtin.append_ #[t, t] ty #[v, y]).run C.P w = .ok v' w' ∧ w'.ownsRow 0 e 1 v' (n + m) (xs ++ news) ∧ GrB w w' v.ownBlock ∧
      ∀ b, hdBlock v' = some b → hdBlock v = some b ∨ w.heap.size ≤ b := by
  obtain ⟨i, z, hi, hz, hs, hby, hzs⟩ := bytesOk_ok hb
  have ht := elemT_ok he
  obtain ⟨yo, c, rfl, hnl, hcell⟩ := hy
  unfold room at hroom
  have hbytes : (n + m) * i.bytes ≤ 140737488355328 := Nat.le_trans (Nat.mul_le_mul hroom hby) (by omega)
  by_cases hm : m = 0
  · subst hm
    have hnews : news = [] := List.eq_nil_of_length_eq_zero hnl
    subst hnews
    refine ⟨v, w, ?_, by simpa using hown, ⟨.refl _, rfl, rfl, Nat.le_refl _, fun _ _ _ => rfl⟩, fun b hb => .inl hb⟩
    have hf : (Builtin.firstCells 1 0 (.slice yo 0 c)).run C.P w = .ok #[] w := by cases yo <;> simp [Builtin.firstCells, loadCells, loadCellsFrom]
    rcases hown.2 with ⟨rfl, rfl⟩ | ⟨g, cap, cur, rfl, _, _, hnc, _⟩
    · simp [Builtin.append_, run_underlying ht, sizeOf, typeInfo, hi, hs, Builtin.lenOf, hf]
    · simp [Builtin.append_, run_underlying ht, sizeOf, typeInfo, hi, hs, Builtin.lenOf, hf, hnc, storeCells]
  · obtain ⟨ad, rfl, hcl⟩ := hcell (by omega)
    have hnl' : news.length = m * i.size := by rw [hs, Nat.mul_one]; exact hnl
    have hxl : xs.length = n := by simpa using hown.1
    have grown : ∀ (old : Nat), old < n + m → ∀ (row : Option Nat),
        (w.drew.alloc (.cells (xs.toArray ++ news.toArray ++ Builtin.zeroCells z.cells (grownCap w (n + m) old e - (n + m))) e)).ownsRow 0 e 1
          (.slice (some ⟨w.heap.size, 0, none⟩) (n + m) (grownCap w (n + m) old e)) (n + m) (xs ++ news) ∧
        GrB w (w.drew.alloc (.cells (xs.toArray ++ news.toArray ++ Builtin.zeroCells z.cells (grownCap w (n + m) old e - (n + m))) e)) row := by
      intro old ho row
      have hge := grownCap_ge w (n + m) old e
      have hcm : grownCap w (n + m) old e ≤ maxLen := grownCap_le_maxLen w (n + m) old e (by unfold maxLen; omega)
      refine ⟨⟨by simp [hxl, hnl], .inr ⟨w.heap.size, _, _, rfl, Nat.zero_le _, heap_alloc_new w.drew _, hge, hcm, ?_, ?_⟩⟩, ⟨⟨rfl, Nat.le_succ _⟩, rfl, rfl, by simp, fun k hk _ => (World.grownBy_alloc w.drew _ none).block k hk (by simp)⟩⟩
      · simp only [Array.size_append, List.size_toArray, size_zeroCells, hzs, hxl, hnl]
        omega
      · simp only [Array.toList_append, List.append_assoc]
        rw [← List.append_assoc, show (n + m) * 1 = (xs ++ news).length by simp [hxl, hnl]]
        exact List.take_left
    rcases hown.2 with ⟨rfl, rfl⟩ | ⟨g, cap, cur, rfl, _, hg, hnc, hcm, hcs, htake⟩
    · have hx : xs = [] := List.eq_nil_of_length_eq_zero hxl
      subst hx
      have hr := run_append_nil (P := C.P) w t ty e i z ht hi hz ad m c news hnl' hcl (by omega) (by omega) (by have hb := hbytes; simp only [Nat.zero_add] at hb; omega)
      have hgr := grown 0 (by omega) (Value.ownBlock (.slice none 0 0))
      simp only [Nat.zero_add, List.nil_append, Array.empty_append] at hgr ⊢
      exact ⟨_, _, hr, hgr.1, hgr.2, fun b hb => .inr (by simp [hdBlock] at hb; omega)⟩
    · by_cases hfit : n + m ≤ cap
      · have hfit' : n * i.size + news.length ≤ cur.size := by rw [hs, hcs, hnl]; omega
        have hr := run_append_room (P := C.P) w t ty e i ht hi g n cap cur hg ad m c news hnl' hcl h1 hfit hfit'
        rw [hs, Nat.mul_one] at hr
        refine ⟨_, _, hr, ⟨by simp [hxl, hnl], .inr ⟨g, cap, _, rfl, Nat.zero_le _, setRow_heap w g cur _ e _ hg, hfit, hcm, ?_, ?_⟩⟩, ⟨⟨rfl, Nat.le_refl _⟩, rfl, rfl, by simp, fun k _ hk => setRow_other w g k _ (fun e => hk (by simp [Value.ownBlock, e]))⟩,
          fun b hb => .inl hb⟩
        · simp only [List.size_toArray, List.length_append, List.length_take, List.length_drop, Array.length_toList]
          omega
        · simp only [Nat.mul_one] at htake
          rw [htake, show (n + m) * 1 = (xs ++ news).length by simp [hxl, hnl]]
          exact List.take_left
      · have holds : ∀ j u, xs[j]? = some u → w.cell? ((⟨g, 0, none⟩ : Addr).add j) = some u := hown.cells (g := g) rfl
        have hr := run_append_grow (P := C.P) w t ty e i z ht hi hz ⟨g, 0, none⟩ n cap xs (by rw [hs]; simpa using hxl) holds ad m c news hnl' hcl (by omega) (by omega) (growslice_fits (by omega) hbytes)
        have hgr := grown cap (by omega) (Value.ownBlock (.slice (some ⟨g, 0, none⟩) n cap))
        exact ⟨_, _, hr, hgr.1, hgr.2, fun b hb => .inr (by simp [hdBlock] at hb; omega)⟩
theorem run_app_emp {t ty e : TypeId} (he : elemT C.P t = some e) (hb : bytesOk C.P e = true) {bs : Option Addr} {y : Value} {m : Nat} {news : List Value}
    (hy : CellsAt w y m news) (h1 : ∀ u ∈ news, u.oneCell' = true) (hm : m ≠ 0) (hroom : room m) :
    ∃ v' w', (Builtin.append_ #[t, t] ty #[.slice bs 0 0, y]).run C.P w = .ok v' w' ∧ w'.ownsRow 0 e 1 v' m news ∧ GrB w w' none ∧
      ∀ b, hdBlock v' = some b → w.heap.size ≤ b := by
  cases bs with
  | none =>
    obtain ⟨v', w', q1, q2, q3, q4⟩ := run_app (ty := ty) he hb (v := .slice none 0 0) (n := 0) (xs := []) (World.ownsRow_nil _ _ _ _) hy h1 (by simpa using hroom)
    exact ⟨v', w', q1, by simpa using q2, q3, fun b hb' => (q4 b hb').resolve_left (by simp [hdBlock])⟩
  | some a =>
    obtain ⟨i, z, hi, hz, hs, hby, hzs⟩ := bytesOk_ok hb
    have ht := elemT_ok he
    obtain ⟨yo, c, rfl, hnl, hcell⟩ := hy
    unfold room at hroom
    have hbytes : m * i.bytes ≤ 140737488355328 := Nat.le_trans (Nat.mul_le_mul hroom hby) (by omega)
    obtain ⟨ad, rfl, hcl⟩ := hcell (by omega)
    have hnl' : news.length = m * i.size := by rw [hs, Nat.mul_one]; exact hnl
    have hr := run_append_grow (P := C.P) w t ty e i z ht hi hz a 0 0 [] (by simp) (fun j v hj => by simp at hj) ad m c news hnl' hcl (by omega) (by omega) (growslice_fits (by omega) (by simpa using hbytes))
    simp only [Nat.zero_add, Array.empty_append] at hr
    have hge := grownCap_ge w m 0 e
    have hcm : grownCap w m 0 e ≤ maxLen := grownCap_le_maxLen w m 0 e (by unfold maxLen; omega)
    refine ⟨_, _, hr, ⟨by simp [hnl], .inr ⟨w.heap.size, _, _, rfl, Nat.zero_le _, heap_alloc_new w.drew _, hge, hcm, ?_, ?_⟩⟩, ⟨⟨rfl, Nat.le_succ _⟩, rfl, rfl, by simp, fun k hk _ => (World.grownBy_alloc w.drew _ none).block k hk (by simp)⟩, fun b hb' => by simp [hdBlock] at hb'; omega⟩
    · simp only [Array.size_append, List.size_toArray, size_zeroCells, hzs, hnl]
      omega
    · simp only [Array.toList_append]
      rw [show m * 1 = news.length by simp [hnl]]
      exact List.take_left
theorem ownBlock_eq (v : Value) (h : ∀ a, v ≠ .pointer a) (h' : ∀ a, v ≠ .map a) : v.ownBlock = hdBlock v := by
  cases v with
  | slice a n c => cases a <;> rfl
  | pointer a => exact absurd rfl (h a)
  | map a => exact absurd rfl (h' a)
  | _ => rfl
theorem ownsRow_np {B e size n : Nat} {v : Value} {xs : List Value} (h : w.ownsRow B e size v n xs) : v.ownBlock = hdBlock v := by
  apply ownBlock_eq
  all_goals
    intro p hp
    subst hp
    rcases h.2 with ⟨h1, _⟩ | ⟨g, cap, cur, h1, _⟩ <;> cases h1
theorem ownsRow_pre {e L n : Nat} {hd v : Value} {xs : List Value} (h : w.ownsRow 0 e 1 hd L xs) (hv : ViewV hd 0 n v) (hn : n ≤ L) : w.ownsRow 0 e 1 v n (xs.take n) := by
  have hl : xs.length = L := by simpa using h.1
  rcases h.2 with ⟨rfl, rfl⟩ | ⟨g, cap, cur, rfl, _, hg, hnc, hcm, hcs, htake⟩
  · rcases hv with ⟨_, rfl, _, rfl⟩ | ⟨g, len, cap, ao, h1, _⟩
    · exact ⟨by simp, .inl ⟨rfl, rfl⟩⟩
    · cases h1
  · rcases hv with ⟨h1, _⟩ | ⟨g', len, cap', ao, h1, rfl, _, h2, h3⟩
    · cases h1
    · cases h1
      rw [h3 (.inl rfl)]
      refine ⟨by simp [hl]; omega, .inr ⟨g, cap, cur, rfl, Nat.zero_le _, hg, by omega, hcm, hcs, ?_⟩⟩
      rw [← htake, List.take_take]
      congr 1
      omega
theorem viewV_block {hd v : Value} {n : Nat} (hv : ViewV hd 0 n v) : hdBlock v = hdBlock hd := by
  rcases hv with ⟨rfl, rfl, _⟩ | ⟨g, len, cap, ao, rfl, rfl, _, _, h⟩
  · rfl
  · rw [h (.inl rfl)]; rfl
theorem view_cells {e L off n : Nat} {hd v : Value} {xs : List Value} (h : w.ownsRow 0 e 1 hd L xs) (hv : ViewV hd off n v) (hn : off + n ≤ L) : CellsAt w v n ((xs.drop off).take n) := by
  have hl : xs.length = L := by simpa using h.1
  obtain ⟨x, c, rfl⟩ := viewV_form hv
  refine ⟨x, c, rfl, by simp [hl]; omega, fun h0 => ?_⟩
  rcases hv with ⟨_, _, _, h1⟩ | ⟨g, len, cap, ao, rfl, hvv, hc1, hc2, hao⟩
  · omega
  · cases hvv
    refine ⟨ao, rfl, fun j u hu => ?_⟩
    rw [hao (.inr (by omega)), Addr.add_lit]
    rw [List.getElem?_take] at hu
    split at hu
    · rw [List.getElem?_drop] at hu
      rw [ownsRow_cell h (b := g) rfl (off + j) (by omega)]; exact hu
    · cases hu
theorem sliceOf_cells {wF : World} (hc : ∀ p u, wF.cell? p = some u → w.cell? p = some u) {v : Value} {n : Nat} {R : Nat → Value → Prop} (h : SliceOf wF v n R) {f : Nat → Value} (hR : ∀ i u, i < n → R i u → u = f i) :
    CellsAt w v n ((List.range n).map f) := by
  obtain ⟨x, c, rfl, _, hk⟩ := h
  refine ⟨x, c, rfl, by simp, fun h0 => ?_⟩
  obtain ⟨b, off, rfl, hk2⟩ := hk h0
  refine ⟨_, rfl, fun j u hu => ?_⟩
  have hj : j < n := by have := (List.getElem?_eq_some_iff.1 hu).1; simpa using this
  obtain ⟨u', h1, h2⟩ := hk2 j hj
  have : u = f j := by simp [hj] at hu; exact hu.symm
  rw [Addr.add_lit, this, ← hR j u' hj h2]
  exact hc _ _ h1
theorem map_getD {α β : Type} (l : List α) (z : α) (g : α → β) : (List.range l.length).map (fun i => g (l.getD i z)) = l.map g := by
  apply List.ext_getElem?
  intro j
  by_cases hj : j < l.length <;> simp [hj]
theorem int_one (k : IntKind) (l : List Int) : ∀ u ∈ l.map (Value.int k), u.oneCell' = true := by
  intro u hu; obtain ⟨_, _, rfl⟩ := List.mem_map.1 hu; rfl
theorem bool_one (l : List Bool) : ∀ u ∈ l.map Value.bool, u.oneCell' = true := by
  intro u hu; obtain ⟨_, _, rfl⟩ := List.mem_map.1 hu; rfl
theorem rdNums_run {k : IntKind} {c : SC} {K : List Int → Rd Eff} {r : Eff} (hr : (rdNums k c K).run σ = some r) {v : Value} (hc : RepC (σ.env C.wF mu) c v) (h : St C σ mu a w) :
    ∃ l, (K l).run σ = some r ∧ CellsAt w v l.length (l.map (.int k)) := by
  cases c with
  | nil =>
    simp only [RepC] at hc; subst hc
    exact ⟨[], hr, none, 0, rfl, rfl, fun h0 => by simp at h0⟩
  | own o =>
    obtain ⟨ob, ho, hr2⟩ := run_h hr
    clear hr
    cases ob with
    | ints e k' l =>
      simp only at hr2
      split at hr2
      · rename_i hk; subst hk
        refine ⟨l, hr2, ?_⟩
        have hv : v = (mu o).hd := on_live ho hc
        subst hv
        have := h.ob o _ ho
        have hcl := view_cells this.2 (viewV_own this.2) (by omega)
        rwa [List.drop_zero, List.take_of_length_le (by simp)] at hcl
      · simp [Rd.run] at hr2
    | _ => simp [Rd.run] at hr2
  | pre o n =>
    obtain ⟨ob, ho, hr2⟩ := run_h hr
    clear hr
    cases ob with
    | ints e k' l =>
      simp only at hr2
      split at hr2
      · rename_i hk; subst hk
        obtain ⟨hn, hv⟩ := on_live ho hc
        have hn' : n ≤ l.length := hn
        refine ⟨l.take n, hr2, ?_⟩
        have := h.ob o _ ho
        have hcl := view_cells this.2 hv (by omega)
        rw [List.length_take, Nat.min_eq_left hn', List.map_take]
        simpa using hcl
      · simp [Rd.run] at hr2
    | _ => simp [Rd.run] at hr2
  | sub o off n =>
    obtain ⟨ob, ho, hr2⟩ := run_h hr
    clear hr
    cases ob with
    | ints e k' l =>
      simp only at hr2
      split at hr2
      · rename_i hk; subst hk
        obtain ⟨hn, hv⟩ := on_live ho hc
        have hn' : off + n ≤ l.length := hn
        refine ⟨(l.drop off).take n, hr2, ?_⟩
        have := h.ob o _ ho
        have hcl := view_cells this.2 hv hn'
        rw [List.length_take, List.length_drop, Nat.min_eq_left (by omega), List.map_take, List.map_drop]
        exact hcl
      · simp [Rd.run] at hr2
    | _ => simp [Rd.run] at hr2
  | row o ver i =>
    obtain ⟨ob, ho, hr2⟩ := run_h hr
    clear hr
    cases ob with
    | rows ver' e ei k' l =>
      simp only at hr2
      split at hr2
      · rename_i hk
        obtain ⟨rfl, rfl⟩ := hk
        obtain ⟨_, hx⟩ := on_live ho hc
        obtain ⟨hins, hlt⟩ := hx rfl
        have hlt' : i < l.length := hlt
        obtain ⟨_, _, h3⟩ := h.ob o _ ho
        have hrow := h3 i v _ hins (List.getElem?_eq_getElem hlt')
        have hgd : l.getD i [] = l[i] := by simp [List.getD, hlt']
        refine ⟨_, hr2, ?_⟩
        rw [hgd]
        have hcl := view_cells hrow (viewV_own hrow) (by omega)
        rwa [List.drop_zero, List.take_of_length_le (by simp)] at hcl
      · simp [Rd.run] at hr2
    | _ => simp [Rd.run] at hr2
  | ro d =>
    cases d with
    | ints k' l =>
      simp only [rdNums] at hr
      split at hr
      · rename_i hk; subst hk
        refine ⟨l, hr, ?_⟩
        have hcl := sliceOf_cells (w := w) (fun p u hp => (h.cells p u hp).2) hc.2 (f := fun i => .int k' (l.getD i 0)) (fun i u _ hu => hu)
        rwa [map_getD l 0 (Value.int k')] at hcl
      · simp [Rd.run] at hr
    | _ => simp [rdNums, Rd.run] at hr
  | _ => simp [rdNums, Rd.run] at hr
theorem str_one (l : List (List UInt8)) : ∀ u ∈ l.map strV, u.oneCell' = true := by
  intro u hu; obtain ⟨_, _, rfl⟩ := List.mem_map.1 hu; rfl
theorem rdStrs_run {c : SC} {K : List (List UInt8) → Rd Eff} {r : Eff} (hr : (rdStrs c K).run σ = some r) {v : Value} (hc : RepC (σ.env C.wF mu) c v) (h : St C σ mu a w) :
    ∃ l, (K l).run σ = some r ∧ CellsAt w v l.length (l.map strV) := by
  cases c with
  | own o =>
    obtain ⟨ob, ho, hr2⟩ := run_h hr
    clear hr
    cases ob with
    | strs e l =>
      refine ⟨l, hr2, ?_⟩
      have hv : v = (mu o).hd := on_live ho hc
      subst hv
      have := h.ob o _ ho
      have hcl := view_cells this.2 (viewV_own this.2) (by omega)
      rwa [List.drop_zero, List.take_of_length_le (by simp)] at hcl
    | _ => simp [Rd.run] at hr2
  | _ => simp [rdStrs, Rd.run] at hr
theorem rdBools_run {c : SC} {K : List Bool → Rd Eff} {r : Eff} (hr : (rdBools c K).run σ = some r) {v : Value} (hc : RepC (σ.env C.wF mu) c v) (h : St C σ mu a w) :
    ∃ l, (K l).run σ = some r ∧ CellsAt w v l.length (l.map .bool) := by
  cases c with
  | nil =>
    simp only [RepC] at hc; subst hc
    exact ⟨[], hr, none, 0, rfl, rfl, fun h0 => by simp at h0⟩
  | own o =>
    obtain ⟨ob, ho, hr2⟩ := run_h hr
    clear hr
    cases ob with
    | bools e l =>
      refine ⟨l, hr2, ?_⟩
      have hv : v = (mu o).hd := on_live ho hc
      subst hv
      have := h.ob o _ ho
      have hcl := view_cells this.2 (viewV_own this.2) (by omega)
      rwa [List.drop_zero, List.take_of_length_le (by simp)] at hcl
    | _ => simp [Rd.run] at hr2
  | ro d =>
    cases d with
    | bools l =>
      refine ⟨l, hr, ?_⟩
      have hcl := sliceOf_cells (w := w) (fun p u hp => (h.cells p u hp).2) hc.2 (f := fun i => .bool (l.getD i false)) (fun i u _ hu => hu)
      rwa [map_getD l false Value.bool] at hcl
    | _ => simp [rdBools, Rd.run] at hr
  | _ => simp [rdBools, Rd.run] at hr
end
end Go.Sx
end
section
namespace Go.Sx
open Go.RowKit
set_option linter.unusedSimpArgs false
set_option linter.unusedVariables false
theorem sliceOf_own {w : World} {e n : Nat} {hd : Value} {xs : List Value} (h : w.ownsRow 0 e 1 hd n xs) {off m : Nat} {v : Value} (hv : ViewV hd off m v) (hle : off + m ≤ n) :
    SliceOf w v m fun i u => xs[off + i]? = some u := by
  have hl : xs.length = n := by simpa using h.1
  rcases hv with ⟨_, rfl, _, rfl⟩ | ⟨g, len, cap, ao, rfl, rfl, hc1, hc2, hao⟩
  · exact ⟨_, _, rfl, Nat.le_refl _, fun h0 => by omega⟩
  · refine ⟨_, _, rfl, hc2, fun h0 => ?_⟩
    rw [hao (.inr (by omega))]
    refine ⟨g, off, rfl, fun i hi => ?_⟩
    have hlt : off + i < xs.length := by omega
    exact ⟨xs[off + i], by rw [ownsRow_cell h (b := g) rfl (off + i) (by omega)]; exact List.getElem?_eq_getElem hlt, List.getElem?_eq_getElem hlt⟩
theorem reads_ints {w : World} {e n : Nat} {k : IntKind} {hd : Value} {l : List Int} (h : w.ownsRow 0 e 1 hd n (l.map (.int k))) {off m : Nat} {v : Value} (hv : ViewV hd off m v) (hle : off + m ≤ n) :
    ReadsI w k v ((l.drop off).take m) := by
  have hl : l.length = n := by simpa using h.1
  have := sliceOf_own h hv hle
  have hlen : ((l.drop off).take m).length = m := by simp; omega
  unfold ReadsI
  rw [hlen]
  exact this.mono fun i u hi hu => by
    rw [List.getElem?_map] at hu
    cases hx : l[off + i]? with
    | none => simp [hx] at hu
    | some x => simp [hx] at hu; rw [← hu]; simp [List.getD, hi, hx]
theorem obFC_lst {ver : Nat} {e : TypeId} {d d' : FC} (h : obFC (.lst ver e d) = some d') : d' = d ∧ isScal d = false := by
  simp only [obFC] at h
  split at h
  · cases h
  · cases h; exact ⟨rfl, by assumption⟩
theorem reads_view {E : Env} {w : World} (hk : Kept E.wF w) {m : Img} {ob : Ob} (h : RepO E w m ob) {d d' : FC} (hd : obFC ob = some d) {off n : Nat} {v : Value} (hv : ViewV m.hd off n v) (hle : off + n ≤ ob.shp.len)
    (hd' : takeFC off n d = some d') : Reads w v d' := by
  cases ob with
  | box cs => cases hd
  | bx cs => cases hd
  | strs e l => cases hd
  | frz d => cases hd
  | mp l => cases hd
  | lst ver e d0 =>
    obtain ⟨rfl, _⟩ := obFC_lst hd
    obtain ⟨_, vs, h1, h2⟩ := h
    have ln : ∀ {α : Type} (l : List α), off + n ≤ l.length → ((l.drop off).take n).length = n := fun l h => by simp; omega
    have hs := sliceOf_own h1 hv hle
    have el : ∀ i u, vs[off + i]? = some u → ∃ fc, d.elem (off + i) = some fc ∧ Reads w u fc := fun i u hu => by
      obtain ⟨_, fc, h3, h4⟩ := h2 _ _ hu
      exact ⟨fc, h3, h4.mono hk⟩
    cases d with
    | int k n => cases hd'
    | bool b => cases hd'
    | str l => cases hd'
    | ints k l =>
      cases hd'
      show SliceOf _ _ _ _
      rw [ln l hle]
      refine hs.below fun i u hi hu => ?_
      obtain ⟨fc, h3, h4⟩ := el i u hu
      have e := getD_cut l off n i 0 hi
      simp only [FC.elem] at h3
      split at h3 <;> cases h3
      rw [e]; exact h4
    | bools l =>
      cases hd'
      show SliceOf _ _ _ _
      rw [ln l hle]
      refine hs.below fun i u hi hu => ?_
      obtain ⟨fc, h3, h4⟩ := el i u hu
      have e := getD_cut l off n i false hi
      simp only [FC.elem] at h3
      split at h3 <;> cases h3
      rw [e]; exact h4
    | rows k l =>
      cases hd'
      show SliceOf _ _ _ _
      rw [ln l hle]
      refine hs.below fun i u hi hu => ?_
      obtain ⟨fc, h3, h4⟩ := el i u hu
      have e := getD_cut l off n i [] hi
      simp only [FC.elem] at h3
      split at h3 <;> cases h3
      rw [e]; exact h4
    | r3 k l =>
      cases hd'
      show SliceOf _ _ _ _
      rw [ln l hle]
      refine hs.below fun i u hi hu => ?_
      obtain ⟨fc, h3, h4⟩ := el i u hu
      have e := getD_cut l off n i [] hi
      simp only [FC.elem] at h3
      split at h3 <;> cases h3
      rw [e]; exact h4
    | r4 k l =>
      cases hd'
      show SliceOf _ _ _ _
      rw [ln l hle]
      refine hs.below fun i u hi hu => ?_
      obtain ⟨fc, h3, h4⟩ := el i u hu
      have e := getD_cut l off n i [] hi
      simp only [FC.elem] at h3
      split at h3 <;> cases h3
      rw [e]; exact h4
  | ints e k l =>
    cases hd; cases hd'
    exact reads_ints h.2 hv hle
  | bools e l =>
    cases hd; cases hd'
    have hlen : ((l.drop off).take n).length = n := by simp; simp only [Ob.shp] at hle; omega
    show SliceOf _ _ _ _
    rw [hlen]
    exact (sliceOf_own h.2 hv hle).mono fun i u hi hu => by
      rw [List.getElem?_map] at hu
      cases hx : l[off + i]? with
      | none => simp [hx] at hu
      | some x => simp [hx] at hu; rw [← hu]; simp [List.getD, hi, hx]
  | rows ver e ei k l =>
    cases hd; cases hd'
    obtain ⟨h1, h2, h3⟩ := h
    have hlen : ((l.drop off).take n).length = n := by simp; simp only [Ob.shp] at hle; omega
    show SliceOf _ _ _ _
    rw [hlen]
    exact (sliceOf_own h1 hv hle).mono fun i u hi hu => by
      have hlt : off + i < l.length := by simp only [Ob.shp] at hle; omega
      have hg : ((l.drop off).take n).getD i [] = l[off + i] := by simp [List.getD, hi, hlt]
      rw [hg]
      have hrow := h3 _ u _ hu (List.getElem?_eq_getElem hlt)
      have := reads_ints hrow (viewV_own hrow) (by omega)
      simpa using this
theorem take_len {d d' : FC} (h : takeFC 0 d.len d = some d') : d' = d := by
  cases d <;> simp only [takeFC, FC.len, List.drop_zero, List.take_length, reduceCtorEq, Option.some.injEq] at h <;> exact h.symm
theorem obFC_shp {ob : Ob} {d : FC} (hd : obFC ob = some d) : ob.shp.len = d.len := by
  cases ob with
  | lst ver e d0 => obtain ⟨rfl, _⟩ := obFC_lst hd; rfl
  | _ => cases hd <;> rfl
theorem take_all {ob : Ob} {d d' : FC} (hd : obFC ob = some d) (ht : takeFC 0 d.len d = some d') : takeFC 0 ob.shp.len d = some d := by
  rw [obFC_shp hd, ht, take_len ht]
theorem obFC_len {ob : Ob} {d : FC} (hd : obFC ob = some d) : ob.len? = some ob.shp.len := by
  cases ob with
  | lst ver e d0 => rfl
  | _ => cases hd <;> rfl
theorem reads_own {E : Env} {w : World} (hk : Kept E.wF w) {m : Img} {ob : Ob} (h : RepO E w m ob) {d : FC} (hd : obFC ob = some d) (hv : ViewV m.hd 0 ob.shp.len m.hd) : Reads w m.hd d := by
  cases ht : takeFC 0 d.len d with
  | some d' => exact reads_view hk h hd hv (by omega) (take_all hd ht)
  | none =>
    exfalso
    cases ob with
    | lst ver e d0 =>
      obtain ⟨rfl, hs⟩ := obFC_lst hd
      cases d <;> first | cases hs; done | (simp [takeFC] at ht; done)
    | _ => cases hd <;> simp [takeFC] at ht
def mix (w wF : World) (B : List Nat) : World := { w with heap := (Array.range w.heap.size).map fun b => if b ∈ B then w.heap.getD b (.map #[] 0) else wF.heap.getD b (.map #[] 0) }
theorem mix_in {w wF : World} {B : List Nat} {b : Nat} (h : b ∈ B) : (mix w wF B).heap[b]? = w.heap[b]? := by
  simp only [mix, Array.getElem?_map]
  by_cases hb : b < w.heap.size
  · rw [Array.getElem?_range, if_pos hb]
    simp [h, Array.getD, hb]
  · rw [Array.getElem?_range, if_neg hb, Array.getElem?_eq_none (by omega)]; rfl
theorem mix_out {w wF : World} {B : List Nat} {p : Addr} (h : p.block ∉ B) (hlt : p.block < w.heap.size) : (mix w wF B).cell? p = wF.cell? p := by
  have e : (mix w wF B).heap[p.block]? = some (wF.heap.getD p.block (.map #[] 0)) := by
    simp only [mix, Array.getElem?_map]
    rw [Array.getElem?_range, if_pos hlt]
    simp [h]
  by_cases hb : p.block < wF.heap.size
  · refine World.cell?_of_block ?_
    rw [e]
    simp [Array.getD, hb]
  · have e2 : wF.heap[p.block]? = none := Array.getElem?_eq_none (by omega)
    simp only [World.cell?, e, e2]
    simp [Array.getD, hb]
def Cv (ob ob' : Ob) : Prop := (∃ d, frzD ob = some d ∧ ob' = .frz d) ∨ ∃ v e ei k l, ob = .rows v e ei k l ∧ ob' = .lst (v + 1) e (.rows k l)
theorem frzD_cases {ob : Ob} {d : FC} (h : frzD ob = some d) : ob = .frz d ∨ (obFC ob = some d ∧ ∃ d', takeFC 0 d.len d = some d') := by
  unfold frzD at h
  split at h
  · cases h; exact .inl rfl
  · split at h
    · split at h
      · cases h; exact .inr ⟨by assumption, _, by assumption⟩
      · cases h
    · cases h
section
variable {C : Cx} {σ : State} {mu : Nat → Img} {a : Act} {w : World}
theorem st_fr {x : Nat × Option Ob} {hp : List (Nat × Option Ob)} {fr : List (Nat × SV)} (o : Nat) : (State.mk fr (x :: hp)).H o = if x.1 = o then some x.2 else lk hp o := by
  obtain ⟨k, v⟩ := x
  simp only [State.H]
  rw [lk_cons]
theorem St.cv1 (h : St C σ mu a w) {o : Nat} {ob ob' : Ob} (ho : σ.H o = some (some ob)) (hc : Cv ob ob') :
    ∃ wG mu', GrowF C wG ∧ St (C.fz wG) ⟨σ.fr, (o, some ob') :: σ.hp⟩ mu' a w ∧ (∀ x, x ≠ o → mu' x = mu x) ∧ EnvLe (σ.env C.wF mu) ((State.mk σ.fr ((o, some ob') :: σ.hp)).env wG mu') := by
  have hH : ∀ x, (State.mk σ.fr ((o, some ob') :: σ.hp)).H x = if o = x then some (some ob') else σ.H x := fun x => st_fr x
  have hlt := (h.ob o ob ho).block
  have hsame : ob' = ob → ∃ wG mu', GrowF C wG ∧ St (C.fz wG) ⟨σ.fr, (o, some ob') :: σ.hp⟩ mu' a w ∧ (∀ x, x ≠ o → mu' x = mu x) ∧ EnvLe (σ.env C.wF mu) ((State.mk σ.fr ((o, some ob') :: σ.hp)).env wG mu') := fun he => by
    subst he
    have e : ∀ x, (State.mk σ.fr ((o, some ob') :: σ.hp)).H x = σ.H x := fun x => by
      rw [hH]
      split
      · rename_i hx; subst hx; exact ho.symm
      · rfl
    have est : (State.mk σ.fr ((o, some ob') :: σ.hp)).ost = σ.ost := funext fun x => by simp only [State.ost, e]
    refine ⟨C.wF, mu, .refl C, h.upd (fun _ => False) (.refl _) rfl rfl (Nat.le_refl _) (fun _ hs => hs.elim) (fun _ _ _ => rfl) (fun x => by rw [est]; exact OLe.refl _ _) (fun x ob2 hx => by rw [e] at hx; exact .inl ⟨hx, rfl, fun _ _ hs => hs⟩) h.sz h.df (fun t sv ht => .inl ⟨ht, rfl⟩), fun _ _ => rfl, fun _ _ h => h, fun x => by
      show OLeF C.wF (σ.ost x) ((State.mk σ.fr ((o, some ob') :: σ.hp)).ost x) (mu x) (mu x)
      rw [est]; exact OLeF.refl _ _ _⟩
  have key : ∀ (B : List Nat) (m : Img), (∀ b ∈ B, b ∈ (mu o).blocks) → (∀ b ∈ m.blocks, b ∈ (mu o).blocks ∧ b ∉ B) → m.blocks.Nodup →
      (∀ wG, Kept C.wF wG → (∀ b ∈ B, wG.heap[b]? = w.heap[b]?) → OLeF wG (σ.ost o) (obSt ob') (mu o) m ∧ RepO (σ.env wG mu) w m ob') → (∀ E E' : Env, E.wF = E'.wF → RepO E w m ob' → RepO E' w m ob') →
      ∃ wG mu', GrowF C wG ∧ St (C.fz wG) ⟨σ.fr, (o, some ob') :: σ.hp⟩ mu' a w ∧ (∀ x, x ≠ o → mu' x = mu x) ∧ EnvLe (σ.env C.wF mu) ((State.mk σ.fr ((o, some ob') :: σ.hp)).env wG mu') := fun B m hB hm hnd hrep henv => by
    let wG := mix w C.wF B
    have hcell : ∀ p u, C.wF.cell? p = some u → p.block ∉ B ∧ p.block < w.heap.size := fun p u hp => by
      obtain ⟨h1, h2⟩ := h.cells p u hp
      exact ⟨fun hb => h1 o ob ho (hB _ hb), cell_lt' h2⟩
    have hG : Kept C.wF wG := fun p u hp => by
      obtain ⟨h1, h2⟩ := hcell p u hp
      exact (mix_out h1 h2).trans hp
    have hG2 : ∀ p u, wG.cell? p = some u → C.wF.cell? p = some u ∨ (p.block ∈ B ∧ w.cell? p = some u) := fun p u hp => by
      by_cases hb : p.block ∈ B
      · exact .inr ⟨hb, (World.cell?_of_block (mix_in hb)).symm.trans hp⟩
      · have hlt2 : p.block < w.heap.size := by
          have := cell_lt' hp
          simpa [wG, mix] using this
        exact .inl ((mix_out hb hlt2).symm.trans hp)
    obtain ⟨r1, r2⟩ := hrep wG hG fun b hb => mix_in hb
    have hle : ∀ x, OLeF wG (σ.ost x) ((State.mk σ.fr ((o, some ob') :: σ.hp)).ost x) (mu x) (if x = o then m else mu x) := fun x => by
      by_cases hxo : x = o
      · subst hxo
        simp only [State.ost, hH, if_true]
        exact r1
      · have : (State.mk σ.fr ((o, some ob') :: σ.hp)).ost x = σ.ost x := by simp only [State.ost, hH, if_neg (Ne.symm hxo)]
        rw [this]
        simp only [hxo, if_false]
        exact OLeF.refl _ _ _
    refine ⟨wG, fun x => if x = o then m else mu x, ⟨hG, fun p u hp => (hG2 p u hp).imp id fun ⟨hb, _⟩ => ((h.nd o ob ho).2 _ (hB _ hb)).symm⟩, ?_, fun x hx => by simp [hx], hG, hle⟩
    have hno : ∀ x ob2, x ≠ o → σ.H x = some (some ob2) → ∀ b ∈ (mu x).blocks, b ∉ m.blocks := fun x ob2 hxo hx b hb hc => h.sep x o ob2 ob hxo hx ho b hb (hm b hc).1
    have hG3 : ∀ b ∈ B, ∀ x ob2, (State.mk σ.fr ((o, some ob') :: σ.hp)).H x = some (some ob2) → b ∉ (if x = o then m else mu x).blocks := fun b hb x ob2 hx => by
      rw [hH] at hx
      by_cases hxo : x = o
      · simp only [hxo, if_true]
        exact fun hc => (hm _ hc).2 hb
      · rw [if_neg (Ne.symm hxo)] at hx
        simp only [hxo, if_false]
        exact h.sep o x ob ob2 (Ne.symm hxo) ho hx _ (hB _ hb)
    refine h.updG (fun b => b ∈ m.blocks) (.refl _) rfl rfl (Nat.le_refl _) (fun b hb => ⟨o, ob, ho, (hm b hb).1⟩) (fun _ _ _ => rfl) hG (fun p u hp => (hG2 p u hp).imp id fun q => ⟨q.2, hG3 _ q.1⟩) hle (fun x ob2 hx => ?_) h.sz h.df (fun t sv ht => .inl ⟨ht, rfl⟩)
    · rw [hH] at hx
      by_cases hxo : x = o
      · subst hxo
        rw [if_pos rfl] at hx
        cases hx
        simp only [if_true]
        refine .inr ⟨henv (σ.env wG mu) _ rfl r2, hnd, fun b hb => .inl hb, fun x' ob3 hne hx' => ?_⟩
        rw [hH, if_neg hne] at hx'
        simp only [Ne.symm hne, if_false]
        exact .inl ⟨hx', trivial, hno x' ob3 (Ne.symm hne) hx'⟩
      · rw [if_neg (Ne.symm hxo)] at hx
        simp only [hxo, if_false]
        exact .inl ⟨hx, trivial, hno x ob2 hxo hx⟩
  have hE : ∀ {wG}, Kept C.wF wG → EnvLe (σ.env C.wF mu) (σ.env wG mu) := fun {wG} hG => ⟨hG, fun _ => OLeF.refl _ _ _⟩
  rcases hc with ⟨d, h1, rfl⟩ | ⟨v, e, ei, k, l, rfl, rfl⟩
  · rcases frzD_cases h1 with rfl | ⟨h2, d', h3⟩
    · exact hsame rfl
    · refine key (mu o).blocks ⟨.slice none 0 0, []⟩ (fun b hb => hb) (fun b hb => by simp [Img.blocks, hdBlock] at hb) (by simp [Img.blocks, hdBlock]) (fun wG hG hk => ⟨.inr ⟨ob.shp, d, ost_live ho (len_nf (obFC_len h2)), rfl, obFC_shp h2, ?_, _, h3⟩, by simp [RepO, Img.blocks, hdBlock]⟩) (fun _ _ _ h => h)
      have hr := (h.ob o ob ho).keep (hE hG) hk
      obtain ⟨h4, _⟩ := own_view (obFC_len h2) hr
      have hrd := reads_view (E := σ.env wG mu) (fun _ _ h => h) hr h2 h4 (by omega) (take_all h2 h3)
      refine ⟨?_, hrd⟩
      rcases h4 with ⟨_, e, _, _⟩ | ⟨g, len, cap, ao, _, e, _, hc2, _⟩
      · exact ⟨_, _, _, e, Nat.le_refl _⟩
      · exact ⟨_, _, _, e, hc2⟩
  · have hnd := (h.nd o _ ho).1
    obtain ⟨n1, n2⟩ : ((mu o).ins.filterMap hdBlock).Nodup ∧ ∀ b, hdBlock (mu o).hd = some b → b ∉ (mu o).ins.filterMap hdBlock := by
      unfold Img.blocks at hnd
      rw [List.nodup_append] at hnd
      exact ⟨hnd.2.1, fun b hb hc => hnd.2.2 b (by simp [hb]) b hc rfl⟩
    refine key ((mu o).ins.filterMap hdBlock) ⟨(mu o).hd, []⟩ (fun b hb => by simp only [Img.blocks, List.mem_append]; exact .inr hb) (fun b hb => ?_) ?_ (fun wG hG hk => ⟨.inl ?_, ?_⟩) (fun E E' he h => ?_)
    · simp only [Img.blocks, List.filterMap_nil, List.append_nil, Option.mem_toList] at hb
      exact ⟨mem_blocks_hd hb, n2 b hb⟩
    · simp only [Img.blocks, List.filterMap_nil, List.append_nil]
      cases hdBlock (mu o).hd <;> simp
    · rw [ost_live ho]
      refine ⟨rfl, rfl, Nat.le_succ _, fun hv => ?_⟩
      simp [Ob.shp] at hv
    · obtain ⟨q1, q2, q3⟩ := h.ob o _ ho
      refine ⟨rfl, (mu o).ins, q1, fun i u hi => ?_⟩
      have hlt2 : i < l.length := by rw [← q2]; exact (List.getElem?_eq_some_iff.1 hi).1
      have hrow := q3 i u _ hi (List.getElem?_eq_getElem hlt2)
      have hrow2 : wG.ownsRow 0 ei 1 u l[i].length (l[i].map (.int k)) := ownsRow_keep hrow fun b hb => hk b (List.mem_filterMap.2 ⟨u, List.mem_of_getElem? hi, hb⟩)
      refine ⟨ownsRow_one hrow, .ints k (l.getD i []), by simp [FC.elem, hlt2], ?_⟩
      have hgd : l.getD i [] = l[i] := by simp [List.getD, hlt2]
      rw [hgd]
      have := reads_ints hrow2 (viewV_own hrow2) (by omega)
      show ReadsI wG k u l[i]
      simpa using this
    · obtain ⟨q1, vs, q2, q3⟩ := h
      exact ⟨q1, vs, q2, fun i u hi => let ⟨h4, fc, h5, h6⟩ := q3 i u hi; ⟨h4, fc, h5, by rw [← he]; exact h6⟩⟩
theorem St.fzs (h : St C σ mu a w) : ∀ (fs : List (Nat × Option Ob)), (∀ o x, (o, x) ∈ fs → ∃ ob d, σ.H o = some (some ob) ∧ frzD ob = some d ∧ x = some (.frz d)) →
    ∃ wG mu', GrowF C wG ∧ St (C.fz wG) ⟨σ.fr, fs ++ σ.hp⟩ mu' a w ∧ (∀ o, (∀ x, (o, x) ∉ fs) → mu' o = mu o) ∧ EnvLe (σ.env C.wF mu) ((State.mk σ.fr (fs ++ σ.hp)).env wG mu')
  | [], _ => ⟨C.wF, mu, .refl C, h, fun _ _ => rfl, EnvLe.refl _⟩
  | (o, x) :: fs, hf => by
    obtain ⟨wG, mu1, g1, s1, k1, e1⟩ := St.fzs h fs fun o' x' hm => hf o' x' (List.mem_cons_of_mem _ hm)
    obtain ⟨ob, d, q1, q2, rfl⟩ := hf o x (List.mem_cons_self ..)
    have hcur : ∃ ob1, (State.mk σ.fr (fs ++ σ.hp)).H o = some (some ob1) ∧ frzD ob1 = some d := by
      simp only [State.H, lk_append]
      cases hx : lk fs o with
      | none => exact ⟨ob, q1, q2⟩
      | some y =>
        have hm : (o, y) ∈ fs := by
          clear hf s1 k1 g1 e1
          induction fs with
          | nil => simp [lk] at hx
          | cons z fs ih =>
            obtain ⟨k, v⟩ := z
            rw [lk_cons] at hx
            split at hx
            · rename_i hk; subst hk; cases hx; exact List.mem_cons_self ..
            · exact List.mem_cons_of_mem _ (ih hx)
        obtain ⟨ob', d', r1, r2, rfl⟩ := hf o y (List.mem_cons_of_mem _ hm)
        rw [q1] at r1
        cases r1
        rw [q2] at r2
        cases r2
        exact ⟨.frz d, rfl, rfl⟩
    obtain ⟨ob1, c1, c2⟩ := hcur
    obtain ⟨wH, mu2, g2, s2, k2, e2⟩ := s1.cv1 c1 (.inl ⟨d, c2, rfl⟩)
    refine ⟨wH, mu2, g1.trans g2, s2, fun o' hn => ?_, e1.trans e2⟩
    rw [k2 o' (fun hc => hn (some (.frz d)) (by rw [hc]; exact List.mem_cons_self ..))]
    exact k1 o' fun x hx => hn x (List.mem_cons_of_mem _ hx)
theorem StE.eqv {C : Cx} {σ σ' : State} (hF : ∀ t, σ'.F t = σ.F t) (hH : ∀ o, σ'.H o = σ.H o) {a : Act} {w : World} (hs : StE C σ a w) : StE C σ' a w := by
  have hst : σ'.ost = σ.ost := funext fun o => by simp [State.ost, hH]
  obtain ⟨wG, mu, hg, q⟩ := hs
  have henv : ∀ wF, σ'.env wF mu = σ.env wF mu := fun wF => by simp [State.env, hst]
  exact ⟨wG, mu, hg, q.os, q.tape, q.output, q.size, q.block, fun p u hp => ⟨fun o ob ho => (q.cells p u hp).1 o ob (by rw [← hH]; exact ho), (q.cells p u hp).2⟩, q.sz, q.df, fun t sv ht => by rw [henv]; exact q.fr t sv (by rw [← hF]; exact ht), fun o ob ho => by rw [henv]; exact q.ob o ob (by rw [← hH]; exact ho),
    fun o ob ho => q.nd o ob (by rw [← hH]; exact ho), fun o o' ob ob' hne ho ho' => q.sep o o' ob ob' hne (by rw [← hH]; exact ho) (by rw [← hH]; exact ho'), fun o m hp => by rw [hst]; exact q.pins o m hp⟩
end
end Go.Sx
end
