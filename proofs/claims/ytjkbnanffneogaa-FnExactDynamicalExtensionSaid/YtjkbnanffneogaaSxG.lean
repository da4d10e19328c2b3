/- Parts of slices and strings. -/
import Derived.Test.YtjkbnanffneogaaSxF
namespace Go.Sx
open Go.RowKit

/-- An operand that may be left out, as a number that may be left out. -/
def OV (ov : Option Value) (oi : Option Int) : Prop :=
  match oi with
  | none => ov = none
  | some n => ∃ k, ov = some (.int k n)

def cutLo : Option Int → Nat
  | none => 0
  | some l => l.toNat

def cutHi (L : Nat) : Option Int → Nat
  | none => L
  | some h => h.toNat

theorem bds_lt {L : Nat} {l h : Option Int} (hb : bdsOk L l h) : cutLo l ≤ cutHi L h ∧ cutHi L h ≤ L := by
  cases l <;> cases h <;> simp only [bdsOk, cutLo, cutHi] at * <;> omega

theorem cutL_length {α : Type} {r : List α} {l h : Option Int} (hb : bdsOk r.length l h) : (cutL r l h).length = cutHi r.length h - cutLo l := by
  cases l <;> cases h <;> simp only [bdsOk, cutLo, cutHi, cutL] at * <;> simp <;> omega

theorem cutL_get {α : Type} {r : List α} {l h : Option Int} (hb : bdsOk r.length l h) {j : Nat} (hj : j < cutHi r.length h - cutLo l) : (cutL r l h)[j]? = r[cutLo l + j]? := by
  cases l <;> cases h <;> simp only [bdsOk, cutLo, cutHi, cutL] at *
  · simp
  · simp [List.getElem?_take]; intro; omega
  · simp [List.getElem?_drop]
  · simp only [List.getElem?_drop, List.getElem?_take]
    rw [if_pos (by omega)]

section
variable {C : Cx} {σ : State} {mu : Nat → Img} {a : Act} {w : World}

theorem rdo_run {α : Type} {x : Option Operand} {k : Option Int → Rd α} {r : α} (hr : (rdo x k).run σ = some r) (h : St C σ mu a w) :
    ∃ oi, (k oi).run σ = some r ∧ OV (x.map a.eval) oi := by
  cases x with
  | none => exact ⟨none, hr, rfl⟩
  | some y =>
    simp only [rdo] at hr
    obtain ⟨c, h1, h2⟩ := rdc_run hr h
    cases c with
    | int kd n => exact ⟨some n, h1, kd, by simp only [RepC] at h2; simp [h2]⟩
    | _ => simp [Rd.run] at h1

theorem run_slice {t e : TypeId} (he : elemT C.P t = some e) (hs : sizeT C.P e = some 1) {x : Option Addr} {len cap : Nat} {lo hi : Option Value} {l h : Option Int}
    (hl : OV lo l) (hh : OV hi h) (hb : bdsOk len l h) (hlc : len ≤ cap) :
    (Instr.sliceAt t (.slice x len cap) lo hi none).run C.P w = .ok (.slice (if cap = cutLo l then x else x.map (·.add (cutLo l))) (cutHi len h - cutLo l) (cap - cutLo l)) w := by
  have hu := run_underlying (elemT_ok he)
  have hsz := sizeT_ok hs
  cases l with
  | none =>
    simp only [OV] at hl; subst hl
    cases h with
    | none =>
      simp only [OV] at hh; subst hh
      simp [Instr.sliceAt, Instr.slice, Instr.sliceBounds, hu, hsz, cutLo, cutHi]
      rfl
    | some h =>
      obtain ⟨k, rfl⟩ := hh
      simp only [bdsOk] at hb
      have h2 : h ≤ (cap : Int) := by omega
      simp [Instr.sliceAt, Instr.slice, Instr.sliceBounds, Instr.sliceBound, asIntOf, hu, hsz, cutLo, cutHi, hb.1, h2]
      rfl
  | some l =>
    obtain ⟨k, rfl⟩ := hl
    cases h with
    | none =>
      simp only [OV] at hh; subst hh
      simp only [bdsOk] at hb
      simp [Instr.sliceAt, Instr.slice, Instr.sliceBounds, Instr.sliceBound, asIntOf, hu, hsz, cutLo, cutHi, hb.1, hb.2]
      rfl
    | some h =>
      obtain ⟨k', rfl⟩ := hh
      simp only [bdsOk] at hb
      have h1 : 0 ≤ h := by omega
      have h2 : h ≤ (cap : Int) := by omega
      have h3 : l ≤ max h 0 := by omega
      simp [Instr.sliceAt, Instr.slice, Instr.sliceBounds, Instr.sliceBound, asIntOf, hu, hsz, cutLo, cutHi, hb.1, h1, h2, h3]
      rfl

theorem viewV_cut {t e : TypeId} (he : elemT C.P t = some e) (hs : sizeT C.P e = some 1) {hd v : Value} {off n : Nat} (hv : ViewV hd off n v) {lo hi : Option Value} {l h : Option Int}
    (hl : OV lo l) (hh : OV hi h) (hb : bdsOk n l h) :
    ∃ v', (Instr.sliceAt t v lo hi none).run C.P w = .ok v' w ∧ ViewV hd (off + cutLo l) (cutHi n h - cutLo l) v' := by
  obtain ⟨h1, h2⟩ := bds_lt hb
  rcases hv with ⟨rfl, rfl, rfl, rfl⟩ | ⟨g, len, cap, ao, rfl, rfl, hc1, hc2, hao⟩
  · refine ⟨_, run_slice he hs hl hh hb (Nat.le_refl _), .inl ⟨rfl, ?_, by omega, by omega⟩⟩
    have e1 : cutLo l = 0 := by omega
    have e2 : cutHi 0 h = 0 := by omega
    simp [e1, e2]
  · refine ⟨_, run_slice he hs hl hh hb hc2, .inr ⟨g, len, cap, if cap - off = cutLo l then ao else ao.add (cutLo l), rfl, ?_, by omega, by omega, fun hor => ?_⟩⟩
    · have e1 : cap - (off + cutLo l) = cap - off - cutLo l := by omega
      rw [e1]
      by_cases hq : cap - off = cutLo l <;> simp [hq]
    · by_cases hq : cap - off = cutLo l
      · rw [if_pos hq]
        have : off = 0 ∧ cutLo l = 0 := by rcases hor with h3 | h3 <;> omega
        rw [this.1, this.2]
        exact hao (.inl this.1) |>.trans (by rw [this.1])
      · rw [if_neg hq, hao (.inr (by omega)), Addr.add_lit]

theorem sliceOf_cut {t e : TypeId} (he : elemT C.P t = some e) (hs : sizeT C.P e = some 1) {wF : World} {v : Value} {n : Nat} {R : Nat → Value → Prop} (hv : SliceOf wF v n R) {lo hi : Option Value} {l h : Option Int}
    (hl : OV lo l) (hh : OV hi h) (hb : bdsOk n l h) :
    ∃ v', (Instr.sliceAt t v lo hi none).run C.P w = .ok v' w ∧ SliceOf wF v' (cutHi n h - cutLo l) fun j u => R (cutLo l + j) u := by
  obtain ⟨h1, h2⟩ := bds_lt hb
  obtain ⟨x, c, rfl, hc, hk⟩ := hv
  refine ⟨_, run_slice he hs hl hh hb hc, _, _, rfl, by omega, fun h0 => ?_⟩
  obtain ⟨b, off, rfl, hk2⟩ := hk (by omega)
  refine ⟨b, off + cutLo l, ?_, fun i hi => ?_⟩
  · rw [if_neg (by omega)]; simp [Addr.add_lit]
  · obtain ⟨u, h3, h4⟩ := hk2 (cutLo l + i) (by omega)
    exact ⟨u, by rw [Nat.add_assoc]; exact h3, h4⟩

theorem SliceOf.mono {w : World} {v : Value} {n : Nat} {R R' : Nat → Value → Prop} (h : SliceOf w v n R) (hR : ∀ i u, i < n → R i u → R' i u) : SliceOf w v n R' := h.below hR

theorem cutL_getD {α : Type} {r : List α} {l h : Option Int} (hb : bdsOk r.length l h) {j : Nat} (hj : j < cutHi r.length h - cutLo l) (z : α) : (cutL r l h).getD j z = r.getD (cutLo l + j) z := by
  simp [List.getD, cutL_get hb hj]

theorem viewV_one {hd v : Value} {off n : Nat} (h : ViewV hd off n v) : v.oneCell' = true := by
  obtain ⟨x, c, rfl⟩ := viewV_form h
  rfl

theorem sopSlice_ok {t : TypeId} {cx : SC} {lo hi : Option Operand} {vx : Value} {eff : Eff} (hr : (sopSlice C.P t cx lo hi).run σ = some eff) (hob : eff.obl)
    (hx : RepC (σ.env C.wF mu) cx vx) (h : St C σ mu a w) :
    eff.hp = [] ∧ ∃ v, (Instr.sliceAt t vx (lo.map a.eval) (hi.map a.eval) none).run C.P w = .ok v w ∧ RepV C.P (σ.env C.wF mu) eff.val v := by
  unfold sopSlice at hr
  split at hr
  · rename_i r
    simp only [RepC] at hx
    subst hx
    split at hr
    · rename_i hu
      obtain ⟨l, hr, hl⟩ := rdo_run hr h
      obtain ⟨hh, hr, hhi⟩ := rdo_run hr h
      simp only [Rd.run, Option.some.injEq] at hr
      subst hr
      have hsz : (⟨r.toArray⟩ : ByteArray).size = r.length := by simp [ByteArray.size]
      have hb : bdsOk r.length l hh := hob
      have hex : (⟨r.toArray⟩ : ByteArray).extract (cutLo l) (cutHi r.length hh) = ⟨(cutL r l hh).toArray⟩ := by
        apply ByteArray.ext
        apply Array.ext'
        simp only [ByteArray.data_extract, Array.toList_extract]
        obtain ⟨h1, h2⟩ := bds_lt hb
        apply List.ext_getElem?
        intro j
        by_cases hj : j < cutHi r.length hh - cutLo l
        · rw [cutL_get hb hj]
          simp [List.extract, List.getElem?_drop, hj]
        · rw [List.getElem?_eq_none (l := cutL r l hh) (by rw [cutL_length hb]; omega)]
          simp [List.extract]
          omega
      refine ⟨rfl, .string ⟨(cutL r l hh).toArray⟩, ?_, rfl⟩
      rw [← hex]
      generalize lo.map a.eval = lo' at hl
      generalize hi.map a.eval = hi' at hhi
      cases l with
      | none =>
        simp only [OV] at hl; subst hl
        cases hh with
        | none => simp only [OV] at hhi; subst hhi; simp only [cutLo, cutHi, cutL] at hex; simp [Instr.sliceAt, Instr.slice, Instr.sliceBounds, run_underlying hu, cutLo, cutHi, hex]
        | some hh =>
          obtain ⟨k, rfl⟩ := hhi
          simp only [bdsOk] at hb
          simp [Instr.sliceAt, Instr.slice, Instr.sliceBounds, Instr.sliceBound, asIntOf, run_underlying hu, cutLo, cutHi, hsz, hb.1, hb.2]
      | some l =>
        obtain ⟨k, rfl⟩ := hl
        cases hh with
        | none =>
          simp only [OV] at hhi; subst hhi
          simp only [bdsOk] at hb
          simp [Instr.sliceAt, Instr.slice, Instr.sliceBounds, Instr.sliceBound, asIntOf, run_underlying hu, cutLo, cutHi, hsz, hb.1, hb.2]
        | some hh =>
          obtain ⟨k', rfl⟩ := hhi
          simp only [bdsOk] at hb
          have h1 : 0 ≤ hh := by omega
          have h3 : l ≤ max hh 0 := by omega
          simp [Instr.sliceAt, Instr.slice, Instr.sliceBounds, Instr.sliceBound, asIntOf, run_underlying hu, cutLo, cutHi, hsz, hb.1, hb.2.2, h1, h3]
    · simp [Rd.run] at hr
  · split at hr
    · simp [Rd.run] at hr
    · rename_i e he
      split at hr
      · rename_i hs
        obtain ⟨l, hr, hl⟩ := rdo_run hr h
        obtain ⟨hh, hr, hhi⟩ := rdo_run hr h
        cases cx with
        | own o =>
          obtain ⟨ob, ho, hr⟩ := run_h hr
          have hnf : ob.isFz = false := by cases ob <;> first | rfl | simp [Rd.run] at hr
          have hv' : vx = (mu o).hd := on_live ho hx
          subst hv'
          have key : ∀ L, ob.len? = some L → eff = ⟨.c (cutO o L l hh), [], some (bdsOk L l hh)⟩ →
              eff.hp = [] ∧ ∃ v, (Instr.sliceAt t (mu o).hd (lo.map a.eval) (hi.map a.eval) none).run C.P w = .ok v w ∧ RepV C.P (σ.env C.wF mu) eff.val v := fun L hL heff => by
            subst heff
            obtain ⟨h1, h2⟩ := own_view hL (h.ob o ob ho)
            obtain ⟨v', h3, h4⟩ := viewV_cut (w := w) he hs h1 hl hhi hob
            obtain ⟨b1, b2⟩ := bds_lt (show bdsOk L l hh from hob)
            refine ⟨rfl, v', h3, ?_⟩
            cases l <;> cases hh <;> simp only [cutO, cutLo, cutHi, Nat.zero_add, Nat.sub_zero] at h4 b1 b2 ⊢ <;> refine rep_live ho (viewV_one h4) ⟨by omega, h4⟩
          cases ob with
          | box cs => simp [Rd.run] at hr
          | bx cs => simp [Rd.run] at hr
          | strs e l => simp [Rd.run] at hr
          | ints e k l => simp only [Rd.run, Option.some.injEq] at hr; exact key _ rfl hr.symm
          | bools e l => simp only [Rd.run, Option.some.injEq] at hr; exact key _ rfl hr.symm
          | rows ver e ei k l => simp only [Rd.run, Option.some.injEq] at hr; exact key _ rfl hr.symm
          | lst ver e d => simp only [Rd.run, Option.some.injEq] at hr; exact key _ rfl hr.symm
          | frz d => simp [Rd.run] at hr
          | mp l => simp [Rd.run] at hr
          | qu e k l => simp [Rd.run] at hr
          | rowsH ver e ei k l hs => simp [Rd.run] at hr
          | tr ver es d => simp [Rd.run] at hr
        | pre o L =>
          obtain ⟨ob, ho, hr⟩ := run_h hr
          obtain ⟨hnf, hr⟩ := nfR_run hr
          simp only [Rd.run, Option.some.injEq] at hr
          subst hr
          obtain ⟨h2, h1⟩ := on_live ho hx
          obtain ⟨v', h3, h4⟩ := viewV_cut (w := w) he hs h1 hl hhi hob
          obtain ⟨b1, b2⟩ := bds_lt (show bdsOk L l hh from hob)
          refine ⟨rfl, v', h3, ?_⟩
          cases l <;> cases hh <;> simp only [cutO, cutLo, cutHi, Nat.zero_add, Nat.sub_zero] at h4 b1 b2 ⊢ <;> refine rep_live ho (viewV_one h4) ⟨by omega, h4⟩
        | sub o off L =>
          obtain ⟨ob, ho, hr⟩ := run_h hr
          obtain ⟨hnf, hr⟩ := nfR_run hr
          simp only [Rd.run, Option.some.injEq] at hr
          subst hr
          obtain ⟨h2, h1⟩ := on_live ho hx
          obtain ⟨v', h3, h4⟩ := viewV_cut (w := w) he hs h1 hl hhi hob
          obtain ⟨b1, b2⟩ := bds_lt (show bdsOk L l hh from hob)
          refine ⟨rfl, v', h3, ?_⟩
          cases l <;> cases hh <;> simp only [cutS, cutLo, cutHi, Nat.add_zero, Nat.sub_zero] at h4 b1 b2 ⊢ <;> refine rep_live ho (viewV_one h4) ⟨by omega, h4⟩
        | ro d =>
          obtain ⟨_, hx⟩ := hx
          cases d with
          | ints k r =>
            simp only [Rd.run, Option.some.injEq] at hr
            subst hr
            obtain ⟨v', h3, h4⟩ := sliceOf_cut (w := w) he hs hx hl hhi hob
            have hq : Reads C.wF v' (.ints k (cutL r l hh)) := by
              show SliceOf _ _ _ _
              rw [cutL_length hob]
              exact h4.mono fun i u hi hu => by rw [hu, cutL_getD hob hi]
            exact ⟨rfl, v', h3, hq.slice, hq⟩
          | bools r =>
            simp only [Rd.run, Option.some.injEq] at hr
            subst hr
            obtain ⟨v', h3, h4⟩ := sliceOf_cut (w := w) he hs hx hl hhi hob
            have hq : Reads C.wF v' (.bools (cutL r l hh)) := by
              show SliceOf _ _ _ _
              rw [cutL_length hob]
              exact h4.mono fun i u hi hu => by rw [hu, cutL_getD hob hi]
            exact ⟨rfl, v', h3, hq.slice, hq⟩
          | rows k r =>
            simp only [Rd.run, Option.some.injEq] at hr
            subst hr
            obtain ⟨v', h3, h4⟩ := sliceOf_cut (w := w) he hs hx hl hhi hob
            have hq : Reads C.wF v' (.rows k (cutL r l hh)) := by
              show SliceOf _ _ _ _
              rw [cutL_length hob]
              exact h4.mono fun i u hi hu => by rw [cutL_getD hob hi]; exact hu
            exact ⟨rfl, v', h3, hq.slice, hq⟩
          | r3 k r =>
            simp only [Rd.run, Option.some.injEq] at hr
            subst hr
            obtain ⟨v', h3, h4⟩ := sliceOf_cut (w := w) he hs hx hl hhi hob
            have hq : Reads C.wF v' (.r3 k (cutL r l hh)) := by
              show SliceOf _ _ _ _
              rw [cutL_length hob]
              exact h4.mono fun i u hi hu => by rw [cutL_getD hob hi]; exact hu
            exact ⟨rfl, v', h3, hq.slice, hq⟩
          | r4 k r =>
            simp only [Rd.run, Option.some.injEq] at hr
            subst hr
            obtain ⟨v', h3, h4⟩ := sliceOf_cut (w := w) he hs hx hl hhi hob
            have hq : Reads C.wF v' (.r4 k (cutL r l hh)) := by
              show SliceOf _ _ _ _
              rw [cutL_length hob]
              exact h4.mono fun i u hi hu => by rw [cutL_getD hob hi]; exact hu
            exact ⟨rfl, v', h3, hq.slice, hq⟩
          | _ => simp [Rd.run] at hr
        | _ => simp [Rd.run] at hr
      · simp [Rd.run] at hr

end
end Go.Sx
