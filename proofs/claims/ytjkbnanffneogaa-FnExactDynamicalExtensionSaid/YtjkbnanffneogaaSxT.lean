/- A body's symbolic run. -/
import Derived.Test.YtjkbnanffneogaaSxS
namespace Go.Sx
open Go.RowKit

/-- What a loop keeps: a state for each x, a condition on x, a measure; and what the loops within keep in the round for x. -/
inductive Ann where
  | mk (X : Type) (inv : X → State) (pre : X → Prop) (m : X → Nat) (sub : X → Nat → Option Ann)
  | peel (M : Nat) (X : Type) (inv : X → State) (pre : X → Prop) (m : X → Nat) (sub : X → Nat → Option Ann)

def over (f g : Nat → Option Ann) (n : Nat) : Option Ann :=
  match f n with
  | some a => some a
  | none => g n

def SubP (σ n : State) (pins : List Nat) : Prop :=
  match subS (preSt σ n) n pins with
  | none => False
  | some ps => conj ps

/-- What a run needs to know. -/
structure Kn where
  P : Program
  Γ : FuncId → Option Ctr
  wr : Nat → Bool
  N : Nat
  pins : List Nat

/-- The region that a piece of code begins with. -/
def headR : Code → Option Nat
  | .region id _ _ => some id
  | .seq a _ => headR a
  | _ => none

/-- A cut ahead of region r: what is kept there has the number r + 1000. -/
def joinA (ann : Nat → Option Ann) (b : Code) : Option Ann := match headR b with
  | some r => ann (r + 1000)
  | none => none

def exec (k : Kn) : Code → Nat → (Nat → Option Ann) → State → (Exit → State → Prop) → Prop
  | .skip, _, _, σ, K => K .normal σ
  | .label _, _, _, σ, K => K .normal σ
  | .ret, _, _, σ, K => K .ret σ
  | .exit id, _, _, σ, K => K (.exit id) σ
  | .region _ ops draw, _, _, σ, K => match draw with
    | false => regX k.P k.Γ k.wr k.N ops ops.toList 0 σ [] fun σ' _ => K .normal σ'
    | true => match k.P.follows .mixedOrders with
      | true => regX k.P k.Γ k.wr k.N ops ops.toList 0 σ [] fun σ' es => match ordOk ops.toList es with
        | true => K .normal σ'
        | false => False
      | false => False
  | .seq a b, _, ann, σ, K => match joinA ann b with
    | some (.mk _ inv pre _ sub) => (exec k a 0 ann σ fun e σ' => match e with
      | .normal => ∃ x, pre x ∧ SubP σ' (inv x) k.pins
      | e => K e σ') ∧ ∀ x, pre x → exec k b 0 (over (sub x) ann) (inv x) K
    | _ => exec k a 0 ann σ fun e σ' => match e with
      | .normal => exec k b 0 ann σ' K
      | e => K e σ'
  | .cond c a b, _, ann, σ, K => match c with
    | .tmp t => match σ.F t with
      | some (.c (.bool x)) => BrP x (exec k a 0 ann σ K) (exec k b 0 ann σ K)
      | _ => False
    | _ => False
  | .block id c, _, ann, σ, K => exec k c id ann σ fun e σ' => match e with
    | .exit id' => match Nat.beq id' id with
      | true => K .normal σ'
      | false => K (.exit id') σ'
    | e => K e σ'
  | .loop c, cur, ann, σ, K => match ann cur with
    | none => False
    | some (.mk _ inv pre m sub) => (∃ x, pre x ∧ SubP σ (inv x) k.pins) ∧ ∀ x, pre x → exec k c 0 (over (sub x) ann) (inv x) fun e σ' => match e with
      | .normal => ∃ x', pre x' ∧ m x' < m x ∧ SubP σ' (inv x') k.pins
      | e => K e σ'
    | some (.peel M _ inv pre m sub) => (exec k c 0 ann σ fun e σ' => match e with
      | .normal => ∃ x', pre x' ∧ m x' < M ∧ SubP σ' (inv x') k.pins
      | e => K e σ') ∧ ∀ x, pre x → exec k c 0 (over (sub x) ann) (inv x) fun e σ' => match e with
      | .normal => ∃ x', pre x' ∧ m x' < m x ∧ SubP σ' (inv x') k.pins
      | e => K e σ'
  | _, _, _, _, _ => False

section
variable {C : Cx}

/-- The post that a run's continuation gives. -/
def PostK (C : Cx) (K : Exit → State → Prop) : Exit → Act → World → Prop := fun e a w => ∃ σ', StE C σ' a w ∧ K e σ'

theorem drew_ok {σ : State} {a : Act} {w : World} (h : StE C σ a w) : StE C σ a { w with drawn := w.drawn + 1 } := by
  obtain ⟨wG, mu, hg, q⟩ := h
  exact ⟨wG, mu, hg, ⟨q.os.os, Nat.le_succ_of_le q.os.drawn⟩, q.tape, q.output, q.size, q.block, q.cells, q.sz, q.df, q.fr, fun o ob ho => (q.ob o ob ho).keep (EnvLe.refl _) (fun _ _ => rfl), q.nd, q.sep, q.pins⟩

theorem exec_ok {k : Kn} (hP : k.P = C.P) (hΓ : GOk C.P k.Γ) (hN : k.N = C.N) (hpins : ∀ o m, C.pin o = some m → o ∈ k.pins) :
    ∀ (c : Code) (cur : Nat) (ann : Nat → Option Ann) (σ : State) (K : Exit → State → Prop), exec k c cur ann σ K → ∀ a w, StE C σ a w → c.wp C.P (PostK C K) a w := by
  have sp : ∀ {σ n : State} {a w}, SubP σ n k.pins → StE C σ a w → StE C n a w := fun {σ n a w} h1 h2 => by
    unfold SubP at h1
    split at h1
    · exact h1.elim
    · rename_i ps hps
      exact subS_ok hpins hps h1 (preSt_ok h2)
  intro c
  induction c with
  | skip => intro cur ann σ K h a w hs; exact wp_skip ⟨σ, hs, h⟩
  | label l => intro cur ann σ K h a w hs; exact wp_label ⟨σ, hs, h⟩
  | ret => intro cur ann σ K h a w hs; exact wp_ret ⟨σ, hs, h⟩
  | exit id => intro cur ann σ K h a w hs; exact wp_exit ⟨σ, hs, h⟩
  | region id ops draw =>
    intro cur ann σ K h a w hs
    simp only [exec] at h
    rw [hP, hN] at h
    split at h
    · obtain ⟨es, σ', h1, h2⟩ := regX_run hΓ ops.toList 0 σ [] (fun j => by simp) h
      refine wp_region ?_
      have := run_text (Q := PostK C K) h1 a w hs (fun a w hs' => ⟨σ', hs', h2⟩)
      rw [List.range_eq_range', ← Array.length_toList]
      exact this
    · split at h
      · rename_i hmix
        obtain ⟨es, σ', h1, h2⟩ := regX_run hΓ ops.toList 0 σ [] (fun j => by simp) h
        rw [List.nil_append] at h2
        split at h2
        · rename_i hord
          obtain ⟨prs, p1, p2, p3, p4⟩ := steps_shift h1
          have hst : Steps2 C ops σ prs es := ⟨p2, fun i o eff e hi he => by have := p4 i o eff e hi he; rwa [Nat.zero_add] at this⟩
          refine wp_region_any hmix ?_
          refine any_order hst p1 hord (fun a w hs' => ⟨σ', by rw [p3]; exact hs', h2⟩) ops.size _ a _ (by simp) (fun S hS hk => nodup_le _ S hS fun k hk' => (hk k hk').1) (fun j o _ hj => ?_) ?_
          · exfalso
            by_cases hjs : j < ops.size <;> simp [Array.getD, hjs] at hj
          · have : sub σ prs (fun k => (Array.replicate ops.size false).getD k false) prs.length = σ := by
              have hall : ∀ n, sub σ prs (fun k => (Array.replicate ops.size false).getD k false) n = σ := by
                intro n
                induction n with
                | zero => rfl
                | succ n ih =>
                  have hf : (Array.replicate ops.size false).getD n false = false := by
                    by_cases hn : n < ops.size <;> simp [Array.getD, hn]
                  simp only [sub, ih, hf]
                  split <;> rfl
              exact hall _
            rw [this]
            exact drew_ok hs
        · exact h2.elim
      · exact h.elim
  | seq x y ihx ihy =>
    intro cur ann σ K h a w hs
    simp only [exec] at h
    split at h
    · obtain ⟨h1, h2⟩ := h
      refine wp_seq (wp_mono (ihx 0 ann σ _ h1 a w hs) ?_)
      rintro e a' w' ⟨σ', hs', hk⟩
      cases e with
      | normal =>
        obtain ⟨x0, p1, p2⟩ := hk
        exact ihy 0 _ _ K (h2 x0 p1) a' w' (sp p2 hs')
      | _ => exact ⟨σ', hs', hk⟩
    · refine wp_seq (wp_mono (ihx 0 ann σ _ h a w hs) ?_)
      rintro e a' w' ⟨σ', hs', hk⟩
      cases e with
      | normal => exact ihy 0 ann σ' K hk a' w' hs'
      | _ => exact ⟨σ', hs', hk⟩
  | cond c x y ihx ihy =>
    intro cur ann σ K h a w hs
    simp only [exec] at h
    split at h
    · rename_i t
      split at h
      · rename_i b hb
        have hv : a.eval (.tmp t) = .bool b := by
          obtain ⟨wG, mu, hg, q⟩ := hs
          exact q.fr t _ hb
        refine wp_cond_split hv (fun hbt => ?_) (fun hbf => ?_)
        · subst hbt; exact ihx 0 ann σ K h a w hs
        · subst hbf; exact ihy 0 ann σ K h a w hs
      · exact h.elim
    · exact h.elim
  | block id c ih =>
    intro cur ann σ K h a w hs
    simp only [exec] at h
    refine wp_block (wp_mono (ih id ann σ _ h a w hs) ?_)
    rintro e a' w' ⟨σ', hs', hk⟩
    cases e with
    | exit id' =>
      simp only at hk
      simp only [Exit.inBlock]
      split at hk
      · rename_i hid
        rw [if_pos (Nat.eq_of_beq_eq_true hid)]
        exact ⟨σ', hs', hk⟩
      · rename_i hid
        rw [if_neg (Nat.ne_of_beq_eq_false hid)]
        exact ⟨σ', hs', hk⟩
    | _ => exact ⟨σ', hs', hk⟩
  | loop c ih =>
    intro cur ann σ K h a w hs
    simp only [exec] at h
    split at h
    · exact h.elim
    · rename_i X inv pre m sub _
      obtain ⟨⟨x0, hx0, hsub⟩, hround⟩ := h
      refine wp_loop_ghost (fun n a w => ∃ x, pre x ∧ m x = n ∧ StE C (inv x) a w) (m x0) ⟨x0, hx0, rfl, sp hsub hs⟩ ?_
      rintro n a w ⟨x, hx, rfl, hst⟩
      refine wp_mono (ih 0 _ (inv x) _ (hround x hx) a w hst) ?_
      rintro e a' w' ⟨σ', hs', hk⟩
      cases e with
      | normal =>
        obtain ⟨x', h1, h2, h3⟩ := hk
        exact ⟨m x', h2, x', h1, rfl, sp h3 hs'⟩
      | _ => exact ⟨σ', hs', hk⟩
    · rename_i M X inv pre m sub _
      obtain ⟨hfst, hround⟩ := h
      refine wp_loop_ghost (fun n a w => (n = M ∧ StE C σ a w) ∨ ∃ x, pre x ∧ m x = n ∧ StE C (inv x) a w) M (.inl ⟨rfl, hs⟩) ?_
      rintro n a w (⟨rfl, hst⟩ | ⟨x, hx, rfl, hst⟩)
      · refine wp_mono (ih 0 _ σ _ hfst a w hst) ?_
        rintro e a' w' ⟨σ', hs', hk⟩
        cases e with
        | normal =>
          obtain ⟨x', h1, h2, h3⟩ := hk
          exact ⟨m x', h2, .inr ⟨x', h1, rfl, sp h3 hs'⟩⟩
        | _ => exact ⟨σ', hs', hk⟩
      · refine wp_mono (ih 0 _ (inv x) _ (hround x hx) a w hst) ?_
        rintro e a' w' ⟨σ', hs', hk⟩
        cases e with
        | normal =>
          obtain ⟨x', h1, h2, h3⟩ := hk
          exact ⟨m x', h2, .inr ⟨x', h1, rfl, sp h3 hs'⟩⟩
        | _ => exact ⟨σ', hs', hk⟩
  | _ => intro cur ann σ K h; exact h.elim

end

end Go.Sx
