/- SxF -/
import Derived.Test.YtcfbmimjffkgdaaGreatSxC
section
namespace Go.Sx
open Go.RowKit
set_option linter.unusedSimpArgs false
def State.app (σ : State) (dst : Option Nat) (e : Eff) : State :=
  ⟨match dst with
    | some d => (d, e.val) :: σ.fr
    | none => σ.fr, e.hp ++ σ.hp⟩
theorem lk_cons {α : Type} (k : Nat) (v : α) (l : List (Nat × α)) (t : Nat) : lk ((k, v) :: l) t = if k = t then some v else lk l t := by
  simp only [lk]
  cases h : Nat.beq k t with
  | true => have := Nat.eq_of_beq_eq_true h; simp [this]
  | false => have := Nat.ne_of_beq_eq_false h; simp [this]
theorem getD_put (a : Act) (dst : Option Nat) (v : Value) (t : Nat) :
    (a.put dst v).tmps.getD t undef = if dst = some t ∧ t < a.tmps.size then v else a.tmps.getD t undef := by
  cases dst with
  | none => simp [Act.put]
  | some d =>
    simp only [Act.put, Option.some.injEq]
    by_cases h : d = t
    · subst h
      by_cases hs : d < a.tmps.size <;> simp [Array.getD, hs]
    · simp [h, Array.getD_eq_getD_getElem?, Array.getElem?_setIfInBounds_ne h]
theorem size_put (a : Act) (dst : Option Nat) (v : Value) : (a.put dst v).tmps.size = a.tmps.size := by cases dst <;> simp [Act.put]
theorem defers_put (a : Act) (dst : Option Nat) (v : Value) : (a.put dst v).defers = a.defers := by cases dst <;> simp [Act.put]
section
variable {C : Cx} {σ : State} {mu : Nat → Img} {a : Act} {w : World}
theorem F_app {dst : Option Nat} {e : Eff} {t : Nat} : (σ.app dst e).F t = if dst = some t then some e.val else σ.F t := by
  cases dst with
  | none => simp [State.app, State.F]
  | some d => simp [State.app, State.F, lk_cons]
theorem fr_app (h : St C σ mu a w) {dst : Option Nat} (hd : ∀ d, dst = some d → d < C.N) {e : Eff} {v : Value} {E : Env} (hrep : RepV C.P E e.val v) :
    ∀ t sv, (σ.app dst e).F t = some sv → (σ.F t = some sv ∧ (a.put dst v).tmps.getD t undef = a.tmps.getD t undef) ∨ RepV C.P E sv ((a.put dst v).tmps.getD t undef) := by
  intro t sv ht
  rw [F_app] at ht
  rw [getD_put]
  by_cases hdt : dst = some t
  · have hlt := hd t hdt
    rw [if_pos hdt] at ht
    rw [if_pos ⟨hdt, by rw [h.sz]; exact hlt⟩]
    cases ht
    exact .inr hrep
  · rw [if_neg hdt] at ht
    rw [if_neg (fun hc => hdt hc.1)]
    exact .inl ⟨ht, rfl⟩
theorem St.put_pure (h : St C σ mu a w) {dst : Option Nat} (hd : ∀ d, dst = some d → d < C.N) {e : Eff} (he : e.hp = []) {v : Value}
    (hrep : RepV C.P (σ.env C.wF mu) e.val v) : St C (σ.app dst e) mu (a.put dst v) w := by
  have hH : ∀ o, (σ.app dst e).H o = σ.H o := fun o => by simp [State.app, State.H, he]
  have hst : (σ.app dst e).ost = σ.ost := funext fun o => by simp [State.ost, hH]
  have henv : (σ.app dst e).env C.wF mu = σ.env C.wF mu := by simp [State.env, hst]
  refine h.upd (fun _ => False) (.refl _) rfl rfl (Nat.le_refl _) (fun _ hs => hs.elim) (fun _ _ _ => rfl) (fun o => by rw [hst]; exact OLe.refl _ _) (fun o ob ho => ?_)
    (by rw [size_put]; exact h.sz) (by rw [defers_put]; exact h.df) ?_
  · rw [hH] at ho; exact .inl ⟨ho, rfl, fun _ _ hs => hs⟩
  · rw [henv]; exact fr_app h hd hrep
theorem allSome_spec {α β : Type} {f : α → Option β} : ∀ {l : List α} {r : List β}, allSome f l = some r → r.length = l.length ∧ ∀ (i : Nat) (y : β), r[i]? = some y → ∃ x, l[i]? = some x ∧ f x = some y
  | [], r, h => by simp [allSome] at h; subst h; simp
  | x :: l, r, h => by
    simp only [allSome] at h
    split at h
    · rename_i y hy
      split at h
      · rename_i ys hys
        simp at h; subst h
        obtain ⟨h1, h2⟩ := allSome_spec hys
        refine ⟨by simp [h1], fun i z hz => ?_⟩
        cases i with
        | zero => simp at hz; subst hz; exact ⟨x, by simp, hy⟩
        | succ i => simp at hz; obtain ⟨x', h3, h4⟩ := h2 i z hz; exact ⟨x', by simpa using h3, h4⟩
      · cases h
    · cases h
theorem constC_rep {E : Env} {v : Value} {c : SC} (h : constC v = some c) : RepC E c v ∧ v.oneCell' = true ∧ v.cells = #[v] ∧ c.plain = true := by
  unfold constC at h
  split at h <;> cases h <;> simp [RepC, Value.oneCell', Value.cells, SC.plain]
theorem rdv_run {α : Type} {x : Operand} {k : SV → Rd α} {r : α} (hr : (rdv x k).run σ = some r) (h : St C σ mu a w) :
    ∃ sv, (k sv).run σ = some r ∧ RepV C.P (σ.env C.wF mu) sv (a.eval x) := by
  cases x with
  | tmp t =>
    simp only [rdv, Rd.run] at hr
    split at hr
    · rename_i sv hsv; exact ⟨sv, hr, h.fr t sv hsv⟩
    · cases hr
  | const v =>
    have key : ∀ c, constC v = some c → (k (.c c)).run σ = some r → ∃ sv, (k sv).run σ = some r ∧ RepV C.P (σ.env C.wF mu) sv (a.eval (.const v)) :=
      fun c hc hk => ⟨_, hk, (constC_rep hc).1⟩
    cases v with
    | agg cs =>
      simp only [rdv] at hr
      split at hr
      · rename_i l hl
        obtain ⟨h1, h2⟩ := allSome_spec hl
        refine ⟨_, hr, cs, rfl, by simpa using h1.symm, fun i c hc => ?_⟩
        obtain ⟨x, h3, h4⟩ := h2 i c hc
        have := constC_rep (E := σ.env C.wF mu) h4
        exact ⟨x, by simpa using h3, this.2.1, this.1⟩
      · simp [Rd.run] at hr
    | _ =>
      simp only [rdv] at hr
      split at hr
      · rename_i c hc; exact key c hc hr
      · simp [Rd.run] at hr
  | global g => simp [rdv, Rd.run] at hr
  | func f => exact ⟨_, hr, #[], rfl, by simp [RepL]⟩
theorem ole_dead {o : Nat} {ob : Ob} {m m' : Img} (h : σ.H o = some (some ob)) : OLe (σ.ost o) .dead m m' := by
  simp only [State.ost, h]
  cases ob <;> trivial
theorem nfR_run {α : Type} {ob : Ob} {k : Rd α} {r : α} (hr : (nfR ob k).run σ = some r) : ob.isFz = false ∧ k.run σ = some r := by
  unfold nfR at hr
  split at hr
  · simp [Rd.run] at hr
  · exact ⟨by assumption, hr⟩
theorem obSt_live {ob : Ob} (hf : ob.isFz = false := by first | rfl | assumption) : obSt ob = .live ob.shp := by cases ob <;> first | rfl | cases hf
theorem ost_frz {o : Nat} {d : FC} (h : σ.H o = some (some (.frz d))) : σ.ost o = .frz d := by simp [State.ost, h, obSt]
theorem unfz_run {α : Type} {c : SC} {k : SC → Rd α} {r : α} (hr : (unfz c k).run σ = some r) {v : Value} (hv : RepC (σ.env C.wF mu) c v) :
    ∃ c', (k c').run σ = some r ∧ RepC (σ.env C.wF mu) c' v := by
  have two : ∀ {o : Nat} {K : Ob → Rd α}, (Rd.h o K).run σ = some r → ∃ ob, σ.H o = some (some ob) ∧ (K ob).run σ = some r := fun {o K} hr => by
    simp only [Rd.run] at hr
    split at hr
    · rename_i ob hob; exact ⟨ob, hob, hr⟩
    · cases hr
    · cases hr
  unfold unfz at hr
  split at hr
  · obtain ⟨ob, ho, hr⟩ := two hr
    split at hr
    · refine ⟨_, hr, ?_⟩
      have h2 := hv.2
      have e : (σ.env C.wF mu).st _ = .frz _ := ost_frz ho
      rw [e] at h2
      exact h2
    · exact ⟨_, hr, hv⟩
  · obtain ⟨ob, ho, hr⟩ := two hr
    split at hr
    · have h2 := hv.2
      have e : (σ.env C.wF mu).st _ = .frz _ := ost_frz ho
      rw [e] at h2
      obtain ⟨d', h3, h4⟩ := h2
      rw [h3] at hr
      exact ⟨_, hr, h4⟩
    · exact ⟨_, hr, hv⟩
  · obtain ⟨ob, ho, hr⟩ := two hr
    split at hr
    · have h2 := hv.2
      have e : (σ.env C.wF mu).st _ = .frz _ := ost_frz ho
      rw [e] at h2
      obtain ⟨d', h3, h4⟩ := h2
      rw [h3] at hr
      exact ⟨_, hr, h4⟩
    · exact ⟨_, hr, hv⟩
  · exact ⟨_, hr, hv⟩
theorem rdc_run {α : Type} {x : Operand} {k : SC → Rd α} {r : α} (hr : (rdc x k).run σ = some r) (h : St C σ mu a w) :
    ∃ c, (k c).run σ = some r ∧ RepC (σ.env C.wF mu) c (a.eval x) := by
  obtain ⟨sv, h1, h2⟩ := rdv_run hr h
  cases sv with
  | c c => exact unfz_run h1 h2
  | _ => simp [Rd.run] at h1
theorem run_h {α : Type} {o : Nat} {k : Ob → Rd α} {r : α} (hr : (Rd.h o k).run σ = some r) : ∃ ob, σ.H o = some (some ob) ∧ (k ob).run σ = some r := by
  simp only [Rd.run] at hr
  split at hr
  · rename_i ob hob; exact ⟨ob, hob, hr⟩
  · cases hr
  · cases hr
theorem run_abs {α : Type} {o : Nat} {k : Rd α} {r : α} (hr : (Rd.abs o k).run σ = some r) : σ.H o = none ∧ k.run σ = some r := by
  simp only [Rd.run] at hr
  split at hr
  · rename_i hob; exact ⟨hob, hr⟩
  · cases hr
theorem ost_live {o : Nat} {ob : Ob} (h : σ.H o = some (some ob)) (hf : ob.isFz = false := by first | rfl | assumption) : σ.ost o = .live ob.shp := by
  simp only [State.ost, h]
  exact obSt_live hf
theorem arith_ok {E : Env} {P : Program} {wr : Bool} {k : IntKind} {r : Int} (h : (arith wr k r).obl) :
    (arith wr k r).hp = [] ∧ RepV P E (arith wr k r).val (.int k (k.wrap r)) := by
  unfold arith at *
  split at h
  · refine ⟨rfl, ?_⟩
    have : IntKind.i64.wrap r = r := by rw [IntKind.wrap_i64]; obtain ⟨h1, h2⟩ := h; omega
    rw [this]; exact rfl
  · exact ⟨rfl, rfl⟩
theorem isBoolT_ok {P : Program} {t : TypeId} (h : isBoolT P t = true) : P.underlying t = some .bool := by
  unfold isBoolT at h
  split at h
  · assumption
  · cases h
theorem sliceOf_some {w : World} {a : Option Addr} {n c m : Nat} {R : Nat → Value → Prop} (h : SliceOf w (.slice a n c) m R) (hm : m ≠ 0) : a.isNone = false := by
  obtain ⟨a', c', h1, _, h2⟩ := h
  cases h1
  obtain ⟨b, off, h3, _⟩ := h2 (by omega)
  rw [h3]; rfl
theorem ro_some {w : World} {d : FC} {a : Option Addr} {n c : Nat} (h : Reads w (.slice a n c) d) (hd : d.len ≠ 0) : a.isNone = false := by
  cases d with
  | int k n => exact absurd rfl hd
  | bool b => exact absurd rfl hd
  | str l => cases h
  | ints k l => exact sliceOf_some h hd
  | bools l => exact sliceOf_some h hd
  | rows k l => exact sliceOf_some h hd
  | r3 k l => exact sliceOf_some h hd
  | r4 k l => exact sliceOf_some h hd
theorem bits64 {a : Int} (h : 0 ≤ a ∧ a ≤ 9223372036854775807) : (BitVec.ofInt IntKind.i64.bits a).toNat = a.toNat := by
  show (BitVec.ofInt 64 a).toNat = a.toNat
  rw [BitVec.toNat_ofInt]
  have : a % ((2 ^ 64 : Nat) : Int) = a := Int.emod_eq_of_lt h.1 (by omega)
  rw [this]
theorem and64 {a b : Int} (ha : 0 ≤ a ∧ a ≤ 9223372036854775807) (hb : 0 ≤ b ∧ b ≤ 9223372036854775807) :
    IntKind.i64.wrap ((BitVec.ofInt IntKind.i64.bits a &&& BitVec.ofInt IntKind.i64.bits b).toNat : Int) = ((a.toNat &&& b.toNat : Nat) : Int) := by
  rw [BitVec.toNat_and, bits64 ha, bits64 hb]
  have : a.toNat &&& b.toNat ≤ a.toNat := Nat.and_le_left
  rw [IntKind.wrap_i64]; omega
theorem or64 {a b : Int} (ha : 0 ≤ a ∧ a ≤ 9223372036854775807) (hb : 0 ≤ b ∧ b ≤ 9223372036854775807) :
    IntKind.i64.wrap ((BitVec.ofInt IntKind.i64.bits a ||| BitVec.ofInt IntKind.i64.bits b).toNat : Int) = ((a.toNat ||| b.toNat : Nat) : Int) := by
  rw [BitVec.toNat_or, bits64 ha, bits64 hb]
  have : a.toNat ||| b.toNat < 2 ^ 63 := Nat.or_lt_two_pow (by omega) (by omega)
  rw [IntKind.wrap_i64]; omega
theorem bitsU64 {a : Int} (h : 0 ≤ a ∧ a ≤ 18446744073709551615) : (BitVec.ofInt IntKind.u64.bits a).toNat = a.toNat := by
  show (BitVec.ofInt 64 a).toNat = a.toNat
  rw [BitVec.toNat_ofInt]
  have : a % ((2 ^ 64 : Nat) : Int) = a := Int.emod_eq_of_lt h.1 (by omega)
  rw [this]
theorem andU64 {a b : Int} (ha : 0 ≤ a ∧ a ≤ 18446744073709551615) (hb : 0 ≤ b ∧ b ≤ 18446744073709551615) :
    IntKind.u64.wrap ((BitVec.ofInt IntKind.u64.bits a &&& BitVec.ofInt IntKind.u64.bits b).toNat : Int) = ((a.toNat &&& b.toNat : Nat) : Int) := by
  rw [BitVec.toNat_and, bitsU64 ha, bitsU64 hb]
  have : a.toNat &&& b.toNat ≤ a.toNat := Nat.and_le_left
  exact IntWalk.u64_in _ (by omega)
theorem sopAndU_ok {P : Program} {E : Env} {op : BinOp} {cx cy : SC} {vx vy : Value} {eff : Eff} {t : TypeId} (hop : isAndU op cx cy = true) (hr : (sopAndU cx cy).run σ = some eff) (hob : eff.obl)
    (hx : RepC E cx vx) (hy : RepC E cy vy) (x y : Operand) (w : World) :
    eff.hp = [] ∧ ∃ v, (do eqGuard op t x y vx vy; binOp op t vx vy : Sem Value).run P w = .ok v w ∧ RepV P E eff.val v := by
  unfold isAndU at hop
  split at hop
  · simp only [sopAndU, Rd.run, Option.some.injEq] at hr
    subst hr
    obtain ⟨ha, hb⟩ := hob
    simp only [RepC] at hx hy
    subst hx; subst hy
    rename_i a b
    refine ⟨rfl, .int .u64 (IntKind.u64.wrap ((BitVec.ofInt IntKind.u64.bits a &&& BitVec.ofInt IntKind.u64.bits b).toNat : Int)), ?_, by rw [andU64 ha hb]; rfl⟩
    simp [binOp, Op.intBits, eqGuard_at_int]
  · cases hop
theorem sopShift_ok {P : Program} {E : Env} {wr : Bool} {op : BinOp} {cx cy : SC} {vx vy : Value} {eff : Eff} {t : TypeId} (hr : (sopShift wr op cx cy).run σ = some eff) (hob : eff.obl)
    (hx : RepC E cx vx) (hy : RepC E cy vy) (x y : Operand) (w : World) :
    eff.hp = [] ∧ ∃ v, (do eqGuard op t x y vx vy; binOp op t vx vy : Sem Value).run P w = .ok v w ∧ RepV P E eff.val v := by
  unfold sopShift at hr
  split at hr
  · rename_i a k' b
    simp only [RepC] at hx hy
    subst hx; subst hy
    split at hr
    · simp only [Rd.run, Option.some.injEq] at hr
      subst hr
      obtain ⟨⟨hb0, hb⟩, h3⟩ := hob
      obtain ⟨_, h2⟩ := arith_ok (P := P) (E := E) h3
      have hn : ¬ b < 0 := by omega
      have hm : min b.toNat IntKind.i64.bits = b.toNat := by show min b.toNat 64 = b.toNat; omega
      exact ⟨rfl, _, by simp [binOp, Op.shift, eqGuard_at_int, hn, hm], h2⟩
    · simp only [Rd.run, Option.some.injEq] at hr
      subst hr
      obtain ⟨hb0, hb⟩ := hob
      have hn : ¬ b < 0 := by omega
      have hm : min b.toNat IntKind.i64.bits = b.toNat := by show min b.toNat 64 = b.toNat; omega
      have hf : a.fdiv (2 ^ b.toNat) = a / 2 ^ b.toNat := Int.fdiv_eq_ediv_of_nonneg _ (Int.le_of_lt (Int.pow_pos (by omega)))
      exact ⟨rfl, .int .i64 (a / 2 ^ b.toNat), by simp [binOp, Op.shift, eqGuard_at_int, hn, hm, hf], rfl⟩
    · simp [Rd.run] at hr
  · rename_i a k' b
    simp only [RepC] at hx hy
    subst hx; subst hy
    split at hr
    · simp only [Rd.run, Option.some.injEq] at hr
      subst hr
      obtain ⟨hb0, hb⟩ := hob
      have hn : ¬ b < 0 := by omega
      have hm : min b.toNat IntKind.u64.bits = b.toNat := by show min b.toNat 64 = b.toNat; omega
      have hf : a.fdiv (2 ^ b.toNat) = a / 2 ^ b.toNat := Int.fdiv_eq_ediv_of_nonneg _ (Int.le_of_lt (Int.pow_pos (by omega)))
      exact ⟨rfl, .int .u64 (a / 2 ^ b.toNat), by simp [binOp, Op.shift, eqGuard_at_int, hn, hm, hf], rfl⟩
    · simp [Rd.run] at hr
  · simp [Rd.run] at hr
theorem sopMin_ok {P : Program} {E : Env} {cx cy : SC} {vx vy : Value} {eff : Eff} (hr : (sopMin cx cy).run σ = some eff) (hx : RepC E cx vx) (hy : RepC E cy vy) (ts : Array TypeId) (ty : TypeId) (w : World) :
    eff.hp = [] ∧ ∃ v, (Builtin.min_ ts ty #[vx, vy]).run P w = .ok v w ∧ RepV P E eff.val v := by
  unfold sopMin at hr
  split at hr
  · rename_i k a k' b
    simp only [RepC] at hx hy
    subst hx; subst hy
    split at hr
    · rename_i hk
      subst hk
      simp only [Rd.run, Option.some.injEq] at hr
      subst hr
      exact ⟨rfl, _, by simp [Builtin.min_, Builtin.min2], rfl⟩
    · simp [Rd.run] at hr
  · simp [Rd.run] at hr
theorem sopMax_ok {P : Program} {E : Env} {cx cy : SC} {vx vy : Value} {eff : Eff} (hr : (sopMax cx cy).run σ = some eff) (hx : RepC E cx vx) (hy : RepC E cy vy) (ts : Array TypeId) (ty : TypeId) (w : World) :
    eff.hp = [] ∧ ∃ v, (Builtin.max_ ts ty #[vx, vy]).run P w = .ok v w ∧ RepV P E eff.val v := by
  unfold sopMax at hr
  split at hr
  · rename_i k a k' b
    simp only [RepC] at hx hy
    subst hx; subst hy
    split at hr
    · rename_i hk
      subst hk
      simp only [Rd.run, Option.some.injEq] at hr
      subst hr
      exact ⟨rfl, _, by simp [Builtin.max_, Builtin.max2], rfl⟩
    · simp [Rd.run] at hr
  · simp [Rd.run] at hr
theorem sopBin_ok {P : Program} {E : Env} {wr : Bool} {op : BinOp} {cx cy : SC} {vx vy : Value} {eff : Eff} {t : TypeId} (hr : (sopBin P t wr op cx cy).run σ = some eff) (hob : eff.obl)
    (hx : RepC E cx vx) (hy : RepC E cy vy) (x y : Operand) (w : World) :
    eff.hp = [] ∧ ∃ v, (do eqGuard op t x y vx vy; binOp op t vx vy : Sem Value).run P w = .ok v w ∧ RepV P E eff.val v := by
  unfold sopBin at hr
  split at hr
  · exact sopShift_ok hr hob hx hy x y w
  split at hr
  · rename_i hop
    exact sopAndU_ok hop hr hob hx hy x y w
  rename_i hopf
  clear hopf
  split at hr
  · rename_i k a k' b
    simp only [RepC] at hx hy
    subst hx; subst hy
    split at hr
    · rename_i hk
      subst hk
      cases op <;> simp only [Rd.run, pure1, Option.some.injEq, reduceCtorEq] at hr <;> subst hr
      · obtain ⟨h1, h2⟩ := arith_ok (P := P) (E := E) hob
        exact ⟨h1, _, by simp [binOp, Op.intArith, eqGuard_at_int], h2⟩
      · obtain ⟨h1, h2⟩ := arith_ok (P := P) (E := E) hob
        exact ⟨h1, _, by simp [binOp, Op.intArith, eqGuard_at_int], h2⟩
      · obtain ⟨h1, h2⟩ := arith_ok (P := P) (E := E) hob
        exact ⟨h1, _, by simp [binOp, Op.intArith, eqGuard_at_int], h2⟩
      · obtain ⟨h1, h2⟩ := arith_ok (P := P) (E := E) hob.2
        have hne : b ≠ 0 := hob.1
        exact ⟨rfl, _, by simp [binOp, Op.intDiv, eqGuard_at_int, hne], h2⟩
      · have hne : b ≠ 0 := hob
        exact ⟨rfl, _, by simp [binOp, Op.intDiv, eqGuard_at_int, hne], rfl⟩
      · obtain ⟨hk, ha, hb⟩ := hob
        subst hk
        refine ⟨rfl, .int .i64 (IntKind.i64.wrap ((BitVec.ofInt IntKind.i64.bits a &&& BitVec.ofInt IntKind.i64.bits b).toNat : Int)), ?_, by rw [and64 ha hb]; rfl⟩
        simp [binOp, Op.intBits, eqGuard_at_int]
      · obtain ⟨hk, ha, hb⟩ := hob
        subst hk
        refine ⟨rfl, .int .i64 (IntKind.i64.wrap ((BitVec.ofInt IntKind.i64.bits a ||| BitVec.ofInt IntKind.i64.bits b).toNat : Int)), ?_, by rw [or64 ha hb]; rfl⟩
        simp [binOp, Op.intBits, eqGuard_at_int]
      all_goals exact ⟨rfl, _, by simp [binOp, Op.intCmp, eqGuard_at_int], rfl⟩
    · simp [Rd.run] at hr
  · rename_i a b
    simp only [RepC] at hx hy
    subst hx; subst hy
    split at hr
    · rename_i hb
      have hb := isBoolT_ok hb
      cases op <;> simp only [Rd.run, pure1, Option.some.injEq, reduceCtorEq] at hr <;> subst hr
      · exact ⟨rfl, _, by simp [eqGuard_at_bool, run_eql_bool (P := P) w t a b hb], rfl⟩
      · exact ⟨rfl, _, by simp [eqGuard_at_bool, run_neq_bool (P := P) w t a b hb], rfl⟩
    · simp [Rd.run] at hr
  · rename_i a b
    simp only [RepC] at hx hy
    subst hx; subst hy
    cases op <;> simp only [Rd.run, pure1, Option.some.injEq, reduceCtorEq] at hr <;> subst hr
    · have hlt : ¬ ((9223372036854775807 : Int) < ((⟨a.toArray⟩ : ByteArray).size : Int) + ((⟨b.toArray⟩ : ByteArray).size : Int)) := by
        have h1 : (⟨a.toArray⟩ : ByteArray).size = a.length := by simp [ByteArray.size]
        have h2 : (⟨b.toArray⟩ : ByteArray).size = b.length := by simp [ByteArray.size]
        have h3 : a.length + b.length ≤ 1099511627776 := hob
        rw [h1, h2]; omega
      refine ⟨rfl, .string (⟨a.toArray⟩ ++ ⟨b.toArray⟩), by simp [binOp, Op.stringOp, eqGuard_at_string, hlt], ?_⟩
      have : (⟨a.toArray⟩ ++ ⟨b.toArray⟩ : ByteArray) = ⟨(a ++ b).toArray⟩ := by
        apply ByteArray.ext; simp
      simp [RepV, RepC, this]
    · exact ⟨rfl, _, by simp [binOp, Op.stringOp, eqGuard_at_string], rfl⟩
    · exact ⟨rfl, _, by simp [binOp, Op.stringOp, eqGuard_at_string], rfl⟩
  · rename_i b
    obtain ⟨a, n, c, rfl, hb⟩ := hx
    simp only [RepC] at hy
    subst hy
    split at hr
    · rename_i e he
      have hu : P.underlying t = some (.slice e) := by
        unfold elemT at he
        split at he
        · cases he; assumption
        · cases he
      have hg : (eqGuard op t x y (.slice a n c) (.slice none 0 0)).run P w = .ok () w := by
        unfold eqGuard
        split <;> rfl
      cases op <;> simp only [Rd.run, pure1, Option.some.injEq, reduceCtorEq] at hr <;> subst hr
      · refine ⟨rfl, .bool a.isNone, ?_, by rw [hb]; rfl⟩
        rw [Sem.run_bind, hg]
        exact Lib.run_eql_slice_nil w t e a n c 0 0 hu
      · refine ⟨rfl, .bool (!a.isNone), ?_, by rw [hb]; rfl⟩
        rw [Sem.run_bind, hg]
        exact Go.run_neq_slice_nil_any w t e a n c 0 0 hu
    · simp [Rd.run] at hr
  · rename_i d
    obtain ⟨⟨a, n, c, rfl, _⟩, hrd⟩ := hx
    simp only [RepC] at hy
    subst hy
    split at hr
    · rename_i e he
      have hu : P.underlying t = some (.slice e) := by
        unfold elemT at he
        split at he
        · cases he; assumption
        · cases he
      have hg : (eqGuard op t x y (.slice a n c) (.slice none 0 0)).run P w = .ok () w := by
        unfold eqGuard
        split <;> rfl
      cases op <;> simp only [Rd.run, pure1, Option.some.injEq, reduceCtorEq] at hr <;> subst hr
      · have hb := ro_some hrd hob
        refine ⟨rfl, .bool a.isNone, ?_, by rw [hb]; rfl⟩
        rw [Sem.run_bind, hg]
        exact Lib.run_eql_slice_nil w t e a n c 0 0 hu
      · have hb := ro_some hrd hob
        refine ⟨rfl, .bool (!a.isNone), ?_, by rw [hb]; rfl⟩
        rw [Sem.run_bind, hg]
        exact Go.run_neq_slice_nil_any w t e a n c 0 0 hu
    · simp [Rd.run] at hr
  · simp [Rd.run] at hr
theorem sopUn_ok {P : Program} {E : Env} {wr : Bool} {op : UnOp} {cx : SC} {vx : Value} {eff : Eff} (hr : (sopUn wr op cx).run σ = some eff) (hob : eff.obl)
    (hx : RepC E cx vx) (w : World) : eff.hp = [] ∧ ∃ v, (Op.unary op vx).run P w = .ok v w ∧ RepV P E eff.val v := by
  unfold sopUn at hr
  split at hr
  · simp only [RepC] at hx
    simp only [Rd.run, Option.some.injEq] at hr
    subst hx; subst hr
    obtain ⟨h1, h2⟩ := arith_ok (P := P) (E := E) hob
    exact ⟨h1, _, by simp [Op.unary, Op.intArith], h2⟩
  · simp only [RepC] at hx
    simp only [Rd.run, pure1, Option.some.injEq] at hr
    subst hx; subst hr
    exact ⟨rfl, _, by simp [Op.unary], rfl⟩
  · simp [Rd.run] at hr
theorem kindT_ok {P : Program} {t : TypeId} {k : IntKind} (h : kindT P t = some k) : P.underlying t = some (.int k) := by
  unfold kindT at h
  split at h
  · cases h; assumption
  · cases h
theorem sopConv_ok {P : Program} {E : Env} {wr : Bool} {src dst : TypeId} {cx : SC} {vx : Value} {eff : Eff} (hr : (sopConv P wr src dst cx).run σ = some eff) (hob : eff.obl)
    (hx : RepC E cx vx) (w : World) : eff.hp = [] ∧ ∃ v, (convert src dst vx).run P w = .ok v w ∧ RepV P E eff.val v := by
  unfold sopConv at hr
  split at hr
  · simp only [RepC] at hx
    subst hx
    split at hr
    · rename_i d hd
      split at hr
      · rename_i k hk
        simp only [Rd.run, Option.some.injEq] at hr
        subst hr
        obtain ⟨h1, h2⟩ := arith_ok (P := P) (E := E) hob
        refine ⟨h1, _, ?_, h2⟩
        simp [convert, run_underlying hd, run_underlying (kindT_ok hk), Conv.intToInt]
      · simp [Rd.run] at hr
    · simp [Rd.run] at hr
  · simp [Rd.run] at hr
theorem isAggT_ok {P : Program} {t : TypeId} {b : Bool} (h : isAggT P t = some b) (w : World) : (isAgg t).run P w = .ok b w := by
  unfold isAggT at h
  unfold isAgg
  split at h
  · rename_i hu; cases h; simp [run_underlying hu]
  · rename_i hu; cases h; simp [run_underlying hu]
  · rename_i d _ _ hu
    cases h
    rw [Sem.run_bind, run_underlying hu]
    cases d <;> simp_all
  · cases h
theorem sizeT_ok {P : Program} {t : TypeId} {n : Nat} (h : sizeT P t = some n) (w : World) : (sizeOf t).run P w = .ok n w := by
  unfold sizeT at h
  split at h
  · rename_i i hi; cases h; simp [sizeOf, typeInfo, hi]
  · cases h
theorem elemT_ok {P : Program} {t e : TypeId} (h : elemT P t = some e) : P.underlying t = some (.slice e) := by
  unfold elemT at h
  split at h
  · cases h; assumption
  · cases h
theorem run_loadVar_one {P : Program} {t : TypeId} (ha : isAggT P t = some false) {p : Addr} {u : Value} (hp : w.cell? p = some u) : (loadVar t p).run P w = .ok u w := by
  simp [loadVar, isAggT_ok ha, hp]
theorem run_loadVar_many {P : Program} {t : TypeId} (ha : isAggT P t = some true) {b i n : Nat} (hn : sizeT P t = some n) {cs : List Value} (hl : cs.length = n)
    (hc : ∀ (j : Nat) (u : Value), cs[j]? = some u → w.cell? ⟨b, i + j, none⟩ = some u) : (loadVar t ⟨b, i, none⟩).run P w = .ok (.agg cs.toArray) w := by
  have hl' := run_loadCells_list (P := P) w ⟨b, i, none⟩ cs (fun j v hv => by rw [Addr.add_lit]; exact hc j v hv)
  rw [hl] at hl'
  simp [loadVar, isAggT_ok ha, sizeT_ok hn, hl']
end
end Go.Sx
end
section
namespace Go.Sx
open Go.RowKit
theorem ownsRow_hd {w : World} {B e size n : Nat} {v : Value} {xs : List Value} (h : w.ownsRow B e size v n xs) {b : Nat} (hb : hdBlock v = some b) :
    ∃ cap, v = .slice (some ⟨b, 0, none⟩) n cap ∧ n ≤ cap := by
  rcases h.2 with ⟨rfl, _⟩ | ⟨g, cap, cur, rfl, _, _, hn, _⟩
  · simp [hdBlock] at hb
  · simp [hdBlock] at hb; subst hb; exact ⟨cap, rfl, hn⟩
theorem ownsRow_cell {w : World} {B e n : Nat} {v : Value} {xs : List Value} (h : w.ownsRow B e 1 v n xs) {b : Nat} (hb : hdBlock v = some b) (j : Nat) (hj : j < n) :
    w.cell? ⟨b, j, none⟩ = xs[j]? := by
  obtain ⟨cap, rfl, _⟩ := ownsRow_hd h hb
  exact h.cellAt j (by omega)
theorem ownsRow_one {w : World} {B e size n : Nat} {v : Value} {xs : List Value} (h : w.ownsRow B e size v n xs) : v.oneCell' = true := by
  rcases h.2 with ⟨rfl, _⟩ | ⟨g, cap, cur, rfl, _⟩ <;> rfl
section
variable {C : Cx} {σ : State} {mu : Nat → Img} {a : Act} {w : World}
theorem on_live {o : Nat} {ob : Ob} (ho : σ.H o = some (some ob)) {v : Value} {p : Shp → Prop} {q : FC → Prop} (h : RefOn (σ.env C.wF mu) o v p q) (hf : ob.isFz = false := by first | rfl | assumption) : p ob.shp := by
  have h := h.2
  have : (σ.env C.wF mu).st o = .live ob.shp := ost_live ho hf
  rw [this] at h
  exact h
theorem Reads.slice {w : World} {v : Value} {d : FC} (h : Reads w v d) (hd : isScal d = false := by rfl) : ∃ a n c, v = .slice a n c ∧ n ≤ c := by
  cases d with
  | int k n => cases hd
  | bool b => cases hd
  | str l => cases hd
  | _ => obtain ⟨a, c, hv, hle, _⟩ := h; exact ⟨a, _, c, hv, hle⟩
theorem scOf_rep {E : Env} {u : Value} {fc : FC} (h : Reads E.wF u fc) : RepC E (scOf fc) u ∧ u.oneCell' = true := by
  cases fc with
  | int k n => simp only [Reads] at h; subst h; exact ⟨rfl, rfl⟩
  | bool b => simp only [Reads] at h; subst h; exact ⟨rfl, rfl⟩
  | str l => simp only [Reads] at h; subst h; exact ⟨rfl, rfl⟩
  | ints k l => obtain ⟨a, n, c, hv, hle⟩ := h.slice; exact ⟨⟨⟨a, n, c, hv, hle⟩, h⟩, by rw [hv]; rfl⟩
  | bools l => obtain ⟨a, n, c, hv, hle⟩ := h.slice; exact ⟨⟨⟨a, n, c, hv, hle⟩, h⟩, by rw [hv]; rfl⟩
  | rows k l => obtain ⟨a, n, c, hv, hle⟩ := h.slice; exact ⟨⟨⟨a, n, c, hv, hle⟩, h⟩, by rw [hv]; rfl⟩
  | r3 k l => obtain ⟨a, n, c, hv, hle⟩ := h.slice; exact ⟨⟨⟨a, n, c, hv, hle⟩, h⟩, by rw [hv]; rfl⟩
  | r4 k l => obtain ⟨a, n, c, hv, hle⟩ := h.slice; exact ⟨⟨⟨a, n, c, hv, hle⟩, h⟩, by rw [hv]; rfl⟩
theorem elD_elem {d : FC} {i : Nat} {x fc : FC} (h : elD d i = some x) (h2 : d.elem i = some fc) : x = fc := by
  cases d <;> simp only [elD, reduceCtorEq] at h <;> simp only [FC.elem] at h2 <;> split at h2 <;> cases h2 <;> cases h <;> rfl
theorem elD_scal {d : FC} {i : Nat} {x : FC} (h : elD d i = some x) : isScal x = false := by
  cases d <;> simp only [elD, reduceCtorEq] at h <;> cases h <;> rfl
theorem unO_rep {E : Env} {c : SC} {v : Value} (h : RepC E c v) : RepC E (unO c) v := by
  unfold unO
  split
  · exact h.1
  · exact h
theorem box_cell (h : St C σ mu a w) {o : Nat} {cs : List SC} (ho : σ.H o = some (some (.box cs))) :
    ∃ b arr t, (mu o).hd = .pointer (some ⟨b, 0, none⟩) ∧ (∀ u ∈ (mu o).ins, hdBlock u = none) ∧ w.heap[b]? = some (.cells arr t (0, 0)) ∧ RepL (σ.env C.wF mu) cs arr := h.ob o _ ho
theorem sopLoad_ok {t : TypeId} {cx : SC} {vx : Value} {eff : Eff} (hr : (sopLoad C.P t cx).run σ = some eff) (hx : RepC (σ.env C.wF mu) cx vx) (h : St C σ mu a w) :
    eff.hp = [] ∧ ∃ v, (Instr.loadAt t vx).run C.P w = .ok v w ∧ RepV C.P (σ.env C.wF mu) eff.val v := by
  unfold sopLoad at hr
  split at hr
  · simp [Rd.run] at hr
  · rename_i hagg
    split at hr
    · simp [Rd.run] at hr
    · rename_i n hn
      split at hr
      · rename_i o i
        obtain ⟨ob, ho, hr⟩ := run_h hr
        cases ob with
        | box cs =>
          simp only at hr
          split at hr
          · rename_i hle
            simp only [Rd.run, Option.some.injEq] at hr
            subst hr
            obtain ⟨_, b, hb, rfl⟩ := on_live ho hx
            obtain ⟨g, arr, ty, h1, h2, h3, h4⟩ := box_cell h ho
            rw [State.env, h1] at hb
            simp [hdBlock] at hb
            subst hb
            refine ⟨rfl, .agg ((arr.toList.drop i).take n).toArray, ?_, _, rfl, ?_⟩
            · simp only [Instr.loadAt, Instr.sureAddr, Sem.run_bind, Sem.run_pure, Result.andThen_ok]
              refine run_loadVar_many hagg hn (by simp [h4.1]; omega) fun j u hu => ?_
              rw [cell_of_row w g (i + j) arr ty (0, 0) h3]
              rw [List.getElem?_take] at hu
              split at hu
              · simpa using hu
              · cases hu
            · refine ⟨by simp [h4.1], fun j c hj => ?_⟩
              rw [List.getElem?_take] at hj
              split at hj
              · rename_i hjn
                rw [List.getElem?_drop] at hj
                obtain ⟨u, h5, h6⟩ := h4.2 (i + j) c hj
                exact ⟨u, by simp [hjn, h5], h6⟩
              · cases hj
          · simp [Rd.run] at hr
        | _ => simp [Rd.run] at hr
      · rename_i cs i
        split at hr
        · rename_i hle
          simp only [Rd.run, Option.some.injEq] at hr
          subst hr
          obtain ⟨b, off, rfl, hc⟩ := hx
          have hex : ∀ j, j < n → ∃ u, w.cell? ⟨b, off + j, none⟩ = some u ∧ ∃ fc, cs[i + j]? = some fc ∧ Reads C.wF u fc := fun j hj => by
            obtain ⟨u, h1, h2⟩ := hc j _ (List.getElem?_eq_getElem (by omega : i + j < cs.length))
            exact ⟨u, (h.cells _ _ h1).2, _, List.getElem?_eq_getElem (by omega : i + j < cs.length), h2⟩
          let us := (List.range n).map fun j => (w.cell? ⟨b, off + j, none⟩).getD undef
          have hus : ∀ j, j < n → us[j]? = w.cell? ⟨b, off + j, none⟩ := fun j hj => by
            obtain ⟨u, h1, _⟩ := hex j hj
            simp [us, hj, h1]
          refine ⟨rfl, .agg us.toArray, ?_, _, rfl, ?_⟩
          · simp only [Instr.loadAt, Instr.sureAddr, Sem.run_bind, Sem.run_pure, Result.andThen_ok]
            refine run_loadVar_many hagg hn (by simp [us]) fun j u hu => ?_
            have hj : j < n := by have := (List.getElem?_eq_some_iff.1 hu).1; simpa [us] using this
            rw [← hus j hj]; exact hu
          · refine ⟨by simp [us]; omega, fun j c hj => ?_⟩
            rw [List.getElem?_map, List.getElem?_take] at hj
            split at hj
            · rename_i hjn
              rw [List.getElem?_drop] at hj
              obtain ⟨u, h1, fc, h2, h3⟩ := hex j hjn
              rw [h2] at hj
              simp at hj
              subst hj
              have := scOf_rep (E := σ.env C.wF mu) h3
              exact ⟨u, by simp only [List.getElem?_toArray]; rw [hus j hjn]; exact h1, this.2, this.1⟩
            · simp at hj
        · simp [Rd.run] at hr
      · simp [Rd.run] at hr
  · rename_i hagg
    have hone : ∀ (b i : Nat) (u : Value), w.cell? ⟨b, i, none⟩ = some u → (Instr.loadAt t (.pointer (some ⟨b, i, none⟩))).run C.P w = .ok u w := fun b i u hu => by
      simp only [Instr.loadAt, Instr.sureAddr, Sem.run_bind, Sem.run_pure, Result.andThen_ok]
      exact run_loadVar_one hagg hu
    split at hr
    · rename_i o i
      obtain ⟨ob, ho, hr⟩ := run_h hr
      have hnf : ob.isFz = false := by cases ob <;> first | rfl | simp [Rd.run] at hr
      obtain ⟨hlt, b, hb, rfl⟩ := on_live ho hx hnf
      clear hnf
      cases ob with
      | frz d => simp [Rd.run] at hr
      | mp l => simp [Rd.run] at hr
      | lst ver e d =>
        simp only at hr
        split at hr
        · rename_i x hx'
          simp only [Rd.run, pure1, Option.some.injEq] at hr
          subst hr
          obtain ⟨_, vs, h1, h2⟩ := h.ob o _ ho
          have hlt2 : i < d.len := hlt
          have hlv : vs.length = d.len := by simpa using h1.1
          obtain ⟨h3, fc, h4, h5⟩ := h2 i _ (List.getElem?_eq_getElem (by omega))
          have hfx : x = fc := elD_elem hx' h4
          subst hfx
          exact ⟨rfl, vs[i]'(by omega), hone b i _ (by rw [ownsRow_cell h1 hb i hlt2]; exact List.getElem?_eq_getElem (by omega)), h5.slice (elD_scal hx'), h5⟩
        · simp [Rd.run] at hr
      | box cs =>
        simp only at hr
        split at hr
        · rename_i c hc
          simp only [Rd.run, pure1, Option.some.injEq] at hr
          subst hr
          obtain ⟨g, arr, ty, h1, h2, h3, h4⟩ := box_cell h ho
          rw [State.env, h1] at hb
          simp [hdBlock] at hb
          subst hb
          obtain ⟨u, h5, h6, h7⟩ := h4.2 i c hc
          exact ⟨rfl, u, hone g i u (by rw [cell_of_row w g i arr ty (0, 0) h3]; exact h5), unO_rep h7⟩
        · simp [Rd.run] at hr
      | bx cs => simp [Rd.run] at hr
      | strs e l =>
        simp only [Rd.run, pure1, Option.some.injEq] at hr
        subst hr
        have := h.ob o _ ho
        exact ⟨rfl, _, hone b i _ (by rw [ownsRow_cell this.2 hb i hlt]; simp [show i < l.length from hlt]; rfl), by simp [RepV, RepC, strV, List.getD, show i < l.length from hlt]⟩
      | ints e k l =>
        simp only [Rd.run, pure1, Option.some.injEq] at hr
        subst hr
        have := h.ob o _ ho
        exact ⟨rfl, _, hone b i _ (by rw [ownsRow_cell this.2 hb i hlt]; simp [show i < l.length from hlt]; rfl), by simp [RepV, RepC, List.getD, show i < l.length from hlt]⟩
      | bools e l =>
        simp only [Rd.run, pure1, Option.some.injEq] at hr
        subst hr
        have := h.ob o _ ho
        exact ⟨rfl, _, hone b i _ (by rw [ownsRow_cell this.2 hb i hlt]; simp [show i < l.length from hlt]; rfl), by simp [RepV, RepC, List.getD, show i < l.length from hlt]⟩
      | rows ver e ei k l =>
        simp only [Rd.run, pure1, Option.some.injEq] at hr
        subst hr
        obtain ⟨h1, h2, h3⟩ := h.ob o _ ho
        have hlt' : i < (mu o).ins.length := by rw [h2]; exact hlt
        have hone' : (mu o).ins[i].oneCell' = true := ownsRow_one (h3 i _ _ (List.getElem?_eq_getElem hlt') (List.getElem?_eq_getElem hlt))
        refine ⟨rfl, (mu o).ins[i], hone b i _ (by rw [ownsRow_cell h1 hb i hlt, List.getElem?_eq_getElem hlt']), hone', ?_⟩
        have : (σ.env C.wF mu).st o = .live (Ob.rows ver e ei k l).shp := ost_live ho
        rw [this]
        exact ⟨Nat.le_refl _, fun _ => ⟨List.getElem?_eq_getElem hlt', hlt⟩⟩
    · rename_i o ver i j
      obtain ⟨ob, ho, hr⟩ := run_h hr
      have hnf : ob.isFz = false := by cases ob <;> first | rfl | simp [Rd.run] at hr
      have hx := on_live ho hx
      clear hnf
      cases ob with
      | rows ver' e ei k l =>
        simp only at hr
        split at hr
        · rename_i hv
          simp only [Rd.run, pure1, Option.some.injEq] at hr
          subst hr
          obtain ⟨h1, h2, h3⟩ := h.ob o _ ho
          obtain ⟨hi, hj, r, b, hins, hb, rfl⟩ := hx.2 hv.symm
          have hi' : i < l.length := hi
          have hrow := h3 i r _ hins (List.getElem?_eq_getElem hi')
          have hj' : j < l[i].length := by
            have : ((l.map List.length).getD i 0) = l[i].length := by simp [List.getD, hi']
            simp only [Ob.shp] at hj
            omega
          refine ⟨rfl, _, hone b j _ (by rw [ownsRow_cell hrow hb j hj']; simp [hj']; rfl), by simp [RepV, RepC, List.getD, hi', hj']⟩
        · simp [Rd.run] at hr
      | _ => simp [Rd.run] at hr
    · rename_i d i
      obtain ⟨b, off, fc, u, hfc, rfl, hcell, hrd⟩ := hx
      have hu := hone b off u (h.cells _ _ hcell).2
      split at hr <;> simp only [Rd.run, pure1, Option.some.injEq, reduceCtorEq] at hr <;> subst hr
      · simp only [FC.elem] at hfc
        split at hfc <;> cases hfc
        exact ⟨rfl, u, hu, hrd⟩
      · simp only [FC.elem] at hfc
        split at hfc <;> cases hfc
        exact ⟨rfl, u, hu, hrd⟩
      · simp only [FC.elem] at hfc
        split at hfc <;> cases hfc
        exact ⟨rfl, u, hu, hrd.slice, hrd⟩
      · simp only [FC.elem] at hfc
        split at hfc <;> cases hfc
        exact ⟨rfl, u, hu, hrd.slice, hrd⟩
      · simp only [FC.elem] at hfc
        split at hfc <;> cases hfc
        exact ⟨rfl, u, hu, hrd.slice, hrd⟩
    · rename_i cs i
      obtain ⟨b, off, rfl, hc⟩ := hx
      split at hr
      · rename_i fc hfc
        simp only [Rd.run, pure1, Option.some.injEq] at hr
        subst hr
        obtain ⟨u, h1, h2⟩ := hc 0 fc hfc
        exact ⟨rfl, u, hone b off u (h.cells _ _ h1).2, (scOf_rep (E := σ.env C.wF mu) h2).1⟩
      · simp [Rd.run] at hr
    · simp [Rd.run] at hr
end
end Go.Sx
end
section
namespace Go.Sx
open Go.RowKit
section
variable {C : Cx} {σ : State} {mu : Nat → Img} {a : Act} {w : World}
theorem rep_live {o : Nat} {ob : Ob} (ho : σ.H o = some (some ob)) {v : Value} (hv : v.oneCell' = true) {p : Shp → Prop} {q : FC → Prop} (h : p ob.shp) (hf : ob.isFz = false := by first | rfl | assumption) : RefOn (σ.env C.wF mu) o v p q := by
  have : (σ.env C.wF mu).st o = .live ob.shp := ost_live ho hf
  refine ⟨hv, ?_⟩
  rw [this]; exact h
theorem sopFieldAddr_ok {s : TypeId} {cx : SC} {f : Nat} {vx : Value} {eff : Eff} (hr : (sopFieldAddr C.P s cx f).run σ = some eff) (hx : RepC (σ.env C.wF mu) cx vx) :
    eff.hp = [] ∧ ∃ v, (Instr.fieldAt s vx f).run C.P w = .ok v w ∧ RepV C.P (σ.env C.wF mu) eff.val v := by
  unfold sopFieldAddr at hr
  split at hr
  · rename_i fs hu
    split at hr
    · simp [Rd.run] at hr
    · rename_i fd hfd
      split at hr
      · rename_i n hn
        have hsz := sizeT_ok hn
        have hrun : ∀ b i, (Instr.fieldAt s (.pointer (some ⟨b, i, none⟩)) f).run C.P w = .ok (.pointer (some ⟨b, i + fd.offset, none⟩)) w := fun b i => by
          simp [Instr.fieldAt, run_underlying hu, hfd, Instr.sureAddr, fieldPlace, hsz, Addr.add_lit]
        split at hr
        · rename_i o i
          obtain ⟨ob, ho, hr⟩ := run_h hr
          cases ob with
          | box cs =>
            simp only at hr
            split at hr
            · rename_i hlt
              simp only [Rd.run, pure1, Option.some.injEq] at hr
              subst hr
              obtain ⟨_, b, hb, rfl⟩ := on_live ho hx
              exact ⟨rfl, _, hrun b i, rep_live ho rfl ⟨hlt, b, hb, rfl⟩⟩
            · simp [Rd.run] at hr
          | _ => simp [Rd.run] at hr
        · rename_i cs i
          simp only [Rd.run, pure1, Option.some.injEq] at hr
          subst hr
          obtain ⟨b, off, rfl, hc⟩ := hx
          exact ⟨rfl, _, hrun b off, b, off + fd.offset, rfl, fun j fc hj => by
            obtain ⟨u, h1, h2⟩ := hc (fd.offset + j) fc (by rw [← Nat.add_assoc]; exact hj)
            exact ⟨u, by rw [Nat.add_assoc]; exact h1, h2⟩⟩
        · simp [Rd.run] at hr
      · simp [Rd.run] at hr
  · simp [Rd.run] at hr
theorem sopField_ok {s : TypeId} {sv : SV} {f : Nat} {vx : Value} {eff : Eff} (hr : (sopField C.P s sv f).run σ = some eff) (hx : RepV C.P (σ.env C.wF mu) sv vx) :
    eff.hp = [] ∧ ∃ v, (Instr.field s vx f).run C.P w = .ok v w ∧ RepV C.P (σ.env C.wF mu) eff.val v := by
  unfold sopField at hr
  split at hr
  · rename_i fs hu
    split at hr
    · simp [Rd.run] at hr
    · rename_i fd hfd
      split at hr
      · rename_i cs
        obtain ⟨arr, rfl, hsz, hcs⟩ := hx
        split at hr
        · rename_i hagg
          split at hr
          · rename_i n hn
            split at hr
            · rename_i hle
              simp only [Rd.run, Option.some.injEq] at hr
              subst hr
              refine ⟨rfl, .agg (arr.extract fd.offset (fd.offset + n)), ?_, _, rfl, ?_⟩
              · simp [Instr.field, run_underlying hu, hfd, asAgg, part, isAggT_ok hagg, sizeT_ok hn]
              · refine ⟨by simp [hsz]; omega, fun i c hi => ?_⟩
                rw [List.getElem?_take] at hi
                split at hi
                · rename_i hin
                  rw [List.getElem?_drop] at hi
                  obtain ⟨u, h1, h2⟩ := hcs _ c hi
                  have hlt : fd.offset + i < arr.size := (Array.getElem?_eq_some_iff.1 h1).1
                  refine ⟨u, ?_, h2⟩
                  rw [Array.getElem?_extract, if_pos (by omega)]
                  exact h1
                · cases hi
            · simp [Rd.run] at hr
          · simp [Rd.run] at hr
        · rename_i hagg
          split at hr
          · rename_i c hc
            simp only [Rd.run, pure1, Option.some.injEq] at hr
            subst hr
            obtain ⟨u, h1, h2, h3⟩ := hcs _ c hc
            refine ⟨rfl, u, ?_, h3⟩
            simp [Instr.field, run_underlying hu, hfd, asAgg, part, isAggT_ok hagg, h1]
          · simp [Rd.run] at hr
        · simp [Rd.run] at hr
      · simp [Rd.run] at hr
  · simp [Rd.run] at hr
theorem run_indexAt {t e : TypeId} (he : elemT C.P t = some e) (hs : sizeT C.P e = some 1) {ad : Addr} {len cap : Nat} {k : IntKind} {n : Int} (hn : inB n len) :
    (Instr.indexAt t (.slice (some ad) len cap) (.int k n)).run C.P w = .ok (.pointer (some (ad.add n.toNat))) w := by
  have h1 : 0 ≤ n ∧ n < (len : Int) := hn
  simp [Instr.indexAt, run_underlying (elemT_ok he), asIntOf, h1.1, h1.2, sizeT_ok hs]
theorem viewV_index {t e : TypeId} (he : elemT C.P t = some e) (hs : sizeT C.P e = some 1) {hd v : Value} {off len : Nat} (hv : ViewV hd off len v) {k : IntKind} {n : Int} (hn : inB n len) :
    ∃ b, hdBlock hd = some b ∧ (Instr.indexAt t v (.int k n)).run C.P w = .ok (.pointer (some ⟨b, off + n.toNat, none⟩)) w := by
  have h1 : 0 ≤ n ∧ n < (len : Int) := hn
  rcases hv with ⟨_, _, _, h0⟩ | ⟨g, l, cap, ao, rfl, rfl, hc1, hc2, hao⟩
  · omega
  · refine ⟨g, rfl, ?_⟩
    rw [hao (.inr (by omega)), run_indexAt he hs hn, Addr.add_lit]
theorem viewV_own {w : World} {B e size n : Nat} {v : Value} {xs : List Value} (h : w.ownsRow B e size v n xs) : ViewV v 0 n v := by
  rcases h.2 with ⟨rfl, rfl⟩ | ⟨g, cap, cur, rfl, _, _, hn, _⟩
  · exact .inl ⟨rfl, rfl, rfl, rfl⟩
  · exact .inr ⟨g, n, cap, _, rfl, rfl, Nat.zero_le _, hn, fun _ => rfl⟩
def Ob.len? : Ob → Option Nat
  | .box _ => none
  | .bx _ => none
  | .strs _ l => some l.length
  | .ints _ _ l => some l.length
  | .bools _ l => some l.length
  | .rows _ _ _ _ l => some l.length
  | .lst _ _ d => some d.len
  | .frz _ => none
  | .mp _ => none
theorem len_nf {ob : Ob} {L : Nat} (h : ob.len? = some L) : ob.isFz = false := by cases ob <;> first | rfl | cases h
theorem own_view {E : Env} {m : Img} {ob : Ob} {L : Nat} (hl : ob.len? = some L) (h : RepO E w m ob) : ViewV m.hd 0 L m.hd ∧ ob.shp.len = L := by
  cases ob with
  | box cs => cases hl
  | bx cs => cases hl
  | strs e l => cases hl; exact ⟨viewV_own h.2, rfl⟩
  | ints e k l => cases hl; exact ⟨viewV_own h.2, rfl⟩
  | bools e l => cases hl; exact ⟨viewV_own h.2, rfl⟩
  | rows ver e ei k l => cases hl; exact ⟨viewV_own h.1, rfl⟩
  | lst ver e d => cases hl; obtain ⟨_, vs, h1, _⟩ := h; exact ⟨viewV_own h1, rfl⟩
  | frz d => cases hl
  | mp l => cases hl
theorem sliceOf_index {t e : TypeId} (he : elemT C.P t = some e) (hs : sizeT C.P e = some 1) {wF : World} {v : Value} {len : Nat} {R : Nat → Value → Prop} (hv : SliceOf wF v len R) {k : IntKind} {n : Int} (hn : inB n len) :
    ∃ b off u, (Instr.indexAt t v (.int k n)).run C.P w = .ok (.pointer (some ⟨b, off, none⟩)) w ∧ wF.cell? ⟨b, off, none⟩ = some u ∧ R n.toNat u := by
  have h1 : 0 ≤ n ∧ n < (len : Int) := hn
  obtain ⟨ad, c, rfl, _, hk⟩ := hv
  obtain ⟨b, off, rfl, hk2⟩ := hk (by omega)
  obtain ⟨u, h2, h3⟩ := hk2 n.toNat (by omega)
  exact ⟨b, off + n.toNat, u, by rw [run_indexAt he hs hn, Addr.add_lit], h2, h3⟩
theorem sopIndexAddr_ok {t : TypeId} {cx ci : SC} {vx vi : Value} {eff : Eff} (hr : (sopIndexAddr C.P t cx ci).run σ = some eff) (hob : eff.obl)
    (hx : RepC (σ.env C.wF mu) cx vx) (hi : RepC (σ.env C.wF mu) ci vi) (h : St C σ mu a w) :
    eff.hp = [] ∧ ∃ v, (Instr.indexAt t vx vi).run C.P w = .ok v w ∧ RepV C.P (σ.env C.wF mu) eff.val v := by
  unfold sopIndexAddr at hr
  split at hr
  · simp [Rd.run] at hr
  · rename_i e he
    split at hr
    · rename_i hs
      split at hr
      · rename_i k n
        simp only [RepC] at hi
        subst hi
        split at hr
        · rename_i o
          obtain ⟨ob, ho, hr⟩ := run_h hr
          have hnf : ob.isFz = false := by cases ob <;> first | rfl | simp [Rd.run] at hr
          have hv := on_live ho hx hnf
          have hv' : vx = (mu o).hd := hv
          subst hv'
          have key : ∀ L, ob.len? = some L → eff = ⟨.c (.ptr o n.toNat), [], some (inB n L)⟩ → eff.hp = [] ∧ ∃ v, (Instr.indexAt t (mu o).hd (.int k n)).run C.P w = .ok v w ∧ RepV C.P (σ.env C.wF mu) eff.val v := fun L hL heff => by
            subst heff
            obtain ⟨h1, h2⟩ := own_view hL (h.ob o ob ho)
            obtain ⟨b, h3, h4⟩ := viewV_index (w := w) (k := k) he hs h1 hob
            refine ⟨rfl, _, h4, rep_live ho rfl ⟨?_, b, h3, by simp⟩ hnf⟩
            have h5 : 0 ≤ n ∧ n < (L : Int) := hob
            omega
          clear hnf
          cases ob with
          | frz d => simp [Rd.run] at hr
          | mp l => simp [Rd.run] at hr
          | lst ver e d => simp only [Rd.run, Option.some.injEq] at hr; exact key _ rfl hr.symm
          | box cs => simp [Rd.run] at hr
          | bx cs => simp [Rd.run] at hr
          | ints e k l => simp only [Rd.run, Option.some.injEq] at hr; exact key _ rfl hr.symm
          | bools e l => simp only [Rd.run, Option.some.injEq] at hr; exact key _ rfl hr.symm
          | strs e l => simp only [Rd.run, Option.some.injEq] at hr; exact key _ rfl hr.symm
          | rows ver e ei k l => simp only [Rd.run, Option.some.injEq] at hr; exact key _ rfl hr.symm
        · rename_i o len
          obtain ⟨ob, ho, hr⟩ := run_h hr
          obtain ⟨hnf, hr⟩ := nfR_run hr
          simp only [Rd.run, Option.some.injEq] at hr
          subst hr
          obtain ⟨hle, hv⟩ := on_live ho hx
          obtain ⟨b, h3, h4⟩ := viewV_index (w := w) (k := k) he hs hv hob
          have h5 : 0 ≤ n ∧ n < (len : Int) := hob
          exact ⟨rfl, _, h4, rep_live ho rfl ⟨by omega, b, h3, by simp⟩⟩
        · rename_i o off len
          obtain ⟨ob, ho, hr⟩ := run_h hr
          obtain ⟨hnf, hr⟩ := nfR_run hr
          simp only [Rd.run, Option.some.injEq] at hr
          subst hr
          obtain ⟨hle, hv⟩ := on_live ho hx
          obtain ⟨b, h3, h4⟩ := viewV_index (w := w) (k := k) he hs hv hob
          have h5 : 0 ≤ n ∧ n < (len : Int) := hob
          exact ⟨rfl, _, h4, rep_live ho rfl ⟨by omega, b, h3, rfl⟩⟩
        · rename_i o ver i
          obtain ⟨ob, ho, hr⟩ := run_h hr
          have hnf : ob.isFz = false := by cases ob <;> first | rfl | simp [Rd.run] at hr
          cases ob with
          | rows ver' e' ei k' l =>
            simp only at hr
            split at hr
            · rename_i hver
              simp only [Rd.run, Option.some.injEq] at hr
              subst hr
              obtain ⟨h0, hx⟩ := on_live ho hx
              obtain ⟨hins, hlt⟩ := hx hver.symm
              have hlt' : i < l.length := hlt
              obtain ⟨_, _, h3⟩ := h.ob o _ ho
              have hrow := h3 i vx _ hins (List.getElem?_eq_getElem hlt')
              have hgd : l.getD i [] = l[i] := by simp [List.getD, hlt']
              have hob' : inB n l[i].length := by rw [← hgd]; exact hob
              obtain ⟨b, h4, h5⟩ := viewV_index (w := w) (k := k) he hs (viewV_own hrow) hob'
              have h6 : 0 ≤ n ∧ n < (l[i].length : Int) := hob'
              refine ⟨rfl, _, h5, rep_live ho rfl ⟨h0, fun _ => ⟨hlt', ?_, vx, b, hins, h4, by simp⟩⟩⟩
              have : ((Ob.rows ver' e' ei k' l).shp.rl.getD i 0) = l[i].length := by simp [Ob.shp, List.getD, hlt']
              omega
            · simp [Rd.run] at hr
          | _ => simp [Rd.run] at hr
        · rename_i d
          have h5 : ∀ L, inB n L → n.toNat < L := fun L hL => by have : 0 ≤ n ∧ n < (L : Int) := hL; omega
          split at hr <;> simp only [Rd.run, Option.some.injEq, reduceCtorEq] at hr <;> subst hr
          · rename_i kk l
            obtain ⟨b, off, u, h1, h2, h3⟩ := sliceOf_index (w := w) (k := k) he hs hx.2 hob
            exact ⟨rfl, _, h1, b, off, .int kk (l.getD n.toNat 0), u, by simp [FC.elem, h5 _ hob], rfl, h2, h3⟩
          · rename_i l
            obtain ⟨b, off, u, h1, h2, h3⟩ := sliceOf_index (w := w) (k := k) he hs hx.2 hob
            exact ⟨rfl, _, h1, b, off, .bool (l.getD n.toNat false), u, by simp [FC.elem, h5 _ hob], rfl, h2, h3⟩
          · rename_i kk l
            obtain ⟨b, off, u, h1, h2, h3⟩ := sliceOf_index (w := w) (k := k) he hs hx.2 hob
            exact ⟨rfl, _, h1, b, off, .ints kk (l.getD n.toNat []), u, by simp [FC.elem, h5 _ hob], rfl, h2, h3⟩
          · rename_i kk l
            obtain ⟨b, off, u, h1, h2, h3⟩ := sliceOf_index (w := w) (k := k) he hs hx.2 hob
            exact ⟨rfl, _, h1, b, off, .rows kk (l.getD n.toNat []), u, by simp [FC.elem, h5 _ hob], rfl, h2, h3⟩
          · rename_i kk l
            obtain ⟨b, off, u, h1, h2, h3⟩ := sliceOf_index (w := w) (k := k) he hs hx.2 hob
            exact ⟨rfl, _, h1, b, off, .r3 kk (l.getD n.toNat []), u, by simp [FC.elem, h5 _ hob], rfl, h2, h3⟩
        · simp [Rd.run] at hr
      · simp [Rd.run] at hr
    · simp [Rd.run] at hr
theorem run_len {t e ty : TypeId} (he : elemT C.P t = some e) (x : Option Addr) (n c : Nat) : (Builtin.len_ #[t] ty #[.slice x n c]).run C.P w = .ok (.int .i64 (n : Int)) w := by
  simp [Builtin.len_, run_underlying (elemT_ok he), goInt]
theorem viewV_form {hd v : Value} {off n : Nat} (h : ViewV hd off n v) : ∃ x c, v = .slice x n c := by
  rcases h with ⟨_, rfl, _, rfl⟩ | ⟨g, l, cap, ao, _, rfl, _⟩
  · exact ⟨_, _, rfl⟩
  · exact ⟨_, _, rfl⟩
theorem sopLen_ok {t ty e : TypeId} {cx : SC} {vx : Value} {eff : Eff} (hr : (sopLen cx).run σ = some eff)
    (ht : elemT C.P t = some e ∨ (∃ l, cx = .str l) ∧ C.P.underlying t = some .string) (hn : (∃ l, cx = .str l) → C.P.underlying t = some .string)
    (hx : RepC (σ.env C.wF mu) cx vx) (h : St C σ mu a w) :
    eff.hp = [] ∧ ∃ v, (Builtin.len_ #[t] ty #[vx]).run C.P w = .ok v w ∧ RepV C.P (σ.env C.wF mu) eff.val v := by
  have hsl : ∀ (n : Nat), (∀ l, cx ≠ .str l) → (∃ x c, vx = .slice x n c) → eff = ⟨.c (.int .i64 n), [], none⟩ →
      eff.hp = [] ∧ ∃ v, (Builtin.len_ #[t] ty #[vx]).run C.P w = .ok v w ∧ RepV C.P (σ.env C.wF mu) eff.val v := fun n hne ⟨x, c, hv⟩ heff => by
    rcases ht with he | ⟨⟨l, hl⟩, _⟩
    · subst heff; subst hv
      exact ⟨rfl, _, run_len he x n c, rfl⟩
    · exact absurd hl (hne l)
  unfold sopLen at hr
  split at hr
  · simp only [RepC] at hx
    simp only [Rd.run, pure1, Option.some.injEq] at hr
    exact hsl 0 (by simp) ⟨_, _, hx⟩ hr.symm
  · rename_i l
    simp only [RepC] at hx
    simp only [Rd.run, pure1, Option.some.injEq] at hr
    subst hr; subst hx
    refine ⟨rfl, _, by simp [Builtin.len_, run_underlying (hn ⟨l, rfl⟩), goInt]; rfl, ?_⟩
    simp [RepV, RepC, ByteArray.size]
  · rename_i o
    obtain ⟨ob, ho, hr⟩ := run_h hr
    have hnf : ob.isFz = false := by cases ob <;> first | rfl | simp [Rd.run] at hr
    have hv' : vx = (mu o).hd := on_live ho hx
    have key : ∀ L, ob.len? = some L → eff = ⟨.c (.int .i64 L), [], none⟩ → _ := fun L hL heff => by
      obtain ⟨h1, _⟩ := own_view hL (h.ob o ob ho)
      rw [← hv'] at h1
      exact hsl L (by simp) (viewV_form h1) heff
    cases ob with
    | box cs => simp [Rd.run] at hr
    | bx cs => simp [Rd.run] at hr
    | ints e k l => simp only [Rd.run, pure1, Option.some.injEq] at hr; exact key _ rfl hr.symm
    | bools e l => simp only [Rd.run, pure1, Option.some.injEq] at hr; exact key _ rfl hr.symm
    | strs e l => simp only [Rd.run, pure1, Option.some.injEq] at hr; exact key _ rfl hr.symm
    | rows ver e ei k l => simp only [Rd.run, pure1, Option.some.injEq] at hr; exact key _ rfl hr.symm
    | lst ver e d => simp only [Rd.run, pure1, Option.some.injEq] at hr; exact key _ rfl hr.symm
    | frz d => simp [Rd.run] at hr
    | mp l => simp [Rd.run] at hr
  · rename_i o n
    obtain ⟨ob, ho, hr⟩ := run_h hr
    obtain ⟨hnf, hr⟩ := nfR_run hr
    simp only [Rd.run, pure1, Option.some.injEq] at hr
    exact hsl n (by simp) (viewV_form (on_live ho hx).2) hr.symm
  · rename_i o off n
    obtain ⟨ob, ho, hr⟩ := run_h hr
    obtain ⟨hnf, hr⟩ := nfR_run hr
    simp only [Rd.run, pure1, Option.some.injEq] at hr
    exact hsl n (by simp) (viewV_form (on_live ho hx).2) hr.symm
  · rename_i o ver i
    obtain ⟨ob, ho, hr⟩ := run_h hr
    cases ob with
    | rows ver' e' ei k' l =>
      simp only at hr
      split at hr
      · rename_i hver
        simp only [Rd.run, pure1, Option.some.injEq] at hr
        obtain ⟨h0, hx⟩ := on_live ho hx
        obtain ⟨hins, hlt⟩ := hx hver.symm
        have hlt' : i < l.length := hlt
        obtain ⟨_, _, h3⟩ := h.ob o _ ho
        have hrow := h3 i vx _ hins (List.getElem?_eq_getElem hlt')
        have hgd : l.getD i [] = l[i] := by simp [List.getD, hlt']
        rw [hgd] at hr
        exact hsl _ (by simp) (viewV_form (viewV_own hrow)) hr.symm
      · simp [Rd.run] at hr
    | _ => simp [Rd.run] at hr
  · rename_i d
    split at hr <;> simp only [Rd.run, pure1, Option.some.injEq, reduceCtorEq] at hr
    all_goals
      obtain ⟨_, x, c, hv, _, _⟩ := hx
      exact hsl _ (by simp) ⟨x, c, hv⟩ hr.symm
  · simp [Rd.run] at hr
theorem sopExtract_ok {sv : SV} {i : Nat} {vx : Value} {eff : Eff} (hr : (sopExtract sv i).run σ = some eff) (hx : RepV C.P (σ.env C.wF mu) sv vx) :
    eff.hp = [] ∧ ∃ v, (Instr.extract vx i).run C.P w = .ok v w ∧ RepV C.P (σ.env C.wF mu) eff.val v := by
  unfold sopExtract at hr
  split at hr
  · obtain ⟨arr, rfl, hsz, hc⟩ := hx
    split at hr
    · rename_i c hcc
      simp only [Rd.run, pure1, Option.some.injEq] at hr
      subst hr
      obtain ⟨u, h1, h2⟩ := hc i _ hcc
      exact ⟨rfl, u, by simp [Instr.extract, h1], h2.2⟩
    · rename_i cs hcc
      simp only [Rd.run, Option.some.injEq] at hr
      subst hr
      obtain ⟨u, h1, h2⟩ := hc i _ hcc
      exact ⟨rfl, u, by simp [Instr.extract, h1], h2⟩
    · simp [Rd.run] at hr
  · simp [Rd.run] at hr
theorem sopIndex_ok {t : TypeId} {cx ci : SC} {vx vi : Value} {eff : Eff} (hr : (sopIndex C.P t cx ci).run σ = some eff) (hob : eff.obl)
    (hx : RepC (σ.env C.wF mu) cx vx) (hi : RepC (σ.env C.wF mu) ci vi) :
    eff.hp = [] ∧ ∃ v, (Instr.index t vx vi).run C.P w = .ok v w ∧ RepV C.P (σ.env C.wF mu) eff.val v := by
  unfold sopIndex at hr
  split at hr
  · rename_i l k n
    simp only [RepC] at hx hi
    subst hx; subst hi
    split at hr
    · rename_i hu
      simp only [Rd.run, Option.some.injEq] at hr
      subst hr
      have h1 : 0 ≤ n ∧ n < (l.length : Int) := hob
      have h2 : n.toNat < l.length := by omega
      have hget : (⟨l.toArray⟩ : ByteArray)[n.toNat]? = some l[n.toNat] := by
        rw [ByteArray.getElem?_lt' _ _ (by simpa [ByteArray.size] using h2)]
        rfl
      refine ⟨rfl, .int .u8 (l[n.toNat].toNat : Int), ?_, by simp [RepV, RepC, List.getD, h2]⟩
      simp [Instr.index, asIntOf, run_underlying hu, h1.1, hget]
    · simp [Rd.run] at hr
  · simp [Rd.run] at hr
end
end Go.Sx
end
