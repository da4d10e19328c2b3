/- A region whose order is open: whatever order its edges allow comes to the same. -/
import Derived.Test.YtjkbnanffneogaaSxQ
namespace Go.Sx
open Go.RowKit

def edgesOf (o : Oper) : List Nat := (o.after.toList.filter fun e => Region.binds .any e).map (·.on)

def ancMask (acc : List Nat) : List Nat → Nat → Nat
  | [], m => m
  | k :: ks, m => ancMask acc ks ((m ||| (1 <<< k)) ||| acc.getD k 0)

def ancs : List Oper → List Nat → List Nat
  | [], acc => acc
  | o :: l, acc => ancs l (acc ++ [ancMask acc (edgesOf o) 0])

def edgesLt : List Oper → Nat → Bool
  | [], _ => true
  | o :: l, i => (edgesOf o).all (fun k => Nat.blt k i) && edgesLt l (i + 1)

def hasKey (κ : Key) : List Key → Bool
  | [] => false
  | x :: l => Key.eq x κ || hasKey κ l

def meet : List Key → List Key → Bool
  | [], _ => false
  | κ :: l, l' => hasKey κ l' || meet l l'

def confl (e e' : Ent) : Bool := meet e.wr e'.rd || meet e.wr e'.wr || meet e.rd e'.wr

def chk1 (e : Ent) (m : Nat) : List Ent → Nat → Bool
  | [], _ => true
  | e' :: l, i => (!(confl e' e) || m.testBit i) && chk1 e m l (i + 1)

def chkAll : List Ent → List Ent → List Nat → Bool
  | _, [], _ => true
  | _, _ :: _, [] => false
  | prev, e :: es, m :: ms => chk1 e m prev 0 && chkAll (prev ++ [e]) es ms

/-- May the region be run in any order that its edges allow? -/
def ordOk (ops : List Oper) (es : List Ent) : Bool := edgesLt ops 0 && chkAll [] es (ancs ops [])

theorem Key.eq_ok {a b : Key} (h : Key.eq a b = true) : a = b := by
  cases a <;> cases b <;> simp only [Key.eq] at h
  · rw [Nat.eq_of_beq_eq_true h]
  · cases h
  · cases h
  · rw [Nat.eq_of_beq_eq_true h]

theorem Key.eq_self (a : Key) : Key.eq a a = true := by cases a <;> simp [Key.eq]

theorem hasKey_iff {κ : Key} : ∀ {l : List Key}, κ ∈ l → hasKey κ l = true
  | [], h => by simp at h
  | x :: l, h => by
    simp only [hasKey, Bool.or_eq_true]
    rcases List.mem_cons.1 h with rfl | h
    · exact .inl (Key.eq_self _)
    · exact .inr (hasKey_iff h)

theorem meet_of {κ : Key} : ∀ {l l' : List Key}, κ ∈ l → κ ∈ l' → meet l l' = true
  | [], _, h, _ => by simp at h
  | x :: l, l', h, h' => by
    simp only [meet, Bool.or_eq_true]
    rcases List.mem_cons.1 h with rfl | h
    · exact .inl (hasKey_iff h')
    · exact .inr (meet_of h h')

theorem edgesLt_ok : ∀ {l : List Oper} {i : Nat}, edgesLt l i = true → ∀ (j : Nat) (o : Oper), l[j]? = some o → ∀ k ∈ edgesOf o, k < i + j
  | [], _, _, j, o, h => by simp at h
  | o' :: l, i, h, j, o, hj => by
    simp only [edgesLt, Bool.and_eq_true] at h
    cases j with
    | zero =>
      simp at hj; subst hj
      intro k hk
      have := List.all_eq_true.1 h.1 k hk
      simpa using this
    | succ j =>
      intro k hk
      have := edgesLt_ok h.2 j o (by simpa using hj) k hk
      omega

theorem ancMask_bit {acc : List Nat} {i : Nat} : ∀ {ks : List Nat} {m : Nat}, (ancMask acc ks m).testBit i = true → m.testBit i = true ∨ ∃ k ∈ ks, k = i ∨ (acc.getD k 0).testBit i = true
  | [], m, h => .inl h
  | k :: ks, m, h => by
    have h : (ancMask acc ks ((m ||| (1 <<< k)) ||| acc.getD k 0)).testBit i = true := h
    rcases ancMask_bit (ks := ks) h with h1 | ⟨k', h1, h2⟩
    · simp only [Nat.testBit_or, Bool.or_eq_true] at h1
      rcases h1 with (h1 | h1) | h1
      · exact .inl h1
      · rw [Nat.one_shiftLeft, Nat.testBit_two_pow] at h1
        exact .inr ⟨k, by simp, .inl (by simpa using h1)⟩
      · exact .inr ⟨k, by simp, .inr h1⟩
    · exact .inr ⟨k', by simp [h1], h2⟩

theorem ancs_pre : ∀ {l : List Oper} {acc : List Nat} {k : Nat}, k < acc.length → (ancs l acc)[k]? = acc[k]?
  | [], _, _, _ => rfl
  | o :: l, acc, k, h => by
    simp only [ancs]
    rw [ancs_pre (by simp; omega), List.getElem?_append_left h]

theorem ancs_ok : ∀ {l : List Oper} {acc : List Nat} {i : Nat}, acc.length = i → edgesLt l i = true → ∀ (j : Nat) (o : Oper), l[j]? = some o → ∀ x, ((ancs l acc).getD (i + j) 0).testBit x = true →
    ∃ k ∈ edgesOf o, k = x ∨ ((ancs l acc).getD k 0).testBit x = true
  | [], _, _, _, _, j, o, h => by simp at h
  | o' :: l, acc, i, hl, he, j, o, hj => by
    intro x hx
    have he2 := he
    simp only [edgesLt, Bool.and_eq_true] at he
    cases j with
    | zero =>
      simp at hj; subst hj
      simp only [ancs, Nat.add_zero, List.getD_eq_getElem?_getD] at hx ⊢
      rw [ancs_pre (by simp; omega), ← hl, List.getElem?_append_right (Nat.le_refl _)] at hx
      simp at hx
      rcases ancMask_bit hx with h1 | ⟨k, h1, h2⟩
      · simp at h1
      · refine ⟨k, h1, h2.imp id fun h3 => ?_⟩
        have hk : k < acc.length := by
          have := List.all_eq_true.1 he.1 k h1
          rw [hl]; simpa using this
        rw [ancs_pre (by simp; omega), List.getElem?_append_left hk]
        simpa [List.getD_eq_getElem?_getD] using h3
    | succ j =>
      simp only [ancs] at hx ⊢
      exact ancs_ok (i := i + 1) (by simp [hl]) he.2 j o (by simpa using hj) x (by rw [show i + 1 + j = i + (j + 1) by omega]; exact hx)

theorem chk1_ok {e : Ent} {m : Nat} : ∀ {l : List Ent} {i : Nat}, chk1 e m l i = true → ∀ (x : Nat) (e' : Ent), l[x]? = some e' → confl e' e = true → m.testBit (i + x) = true
  | [], _, _, x, e', h => by simp at h
  | e0 :: l, i, h, x, e', hx => by
    intro hc
    simp only [chk1, Bool.and_eq_true, Bool.or_eq_true] at h
    cases x with
    | zero =>
      simp at hx; subst hx
      rcases h.1 with h1 | h1
      · rw [hc] at h1; cases h1
      · simpa using h1
    | succ x =>
      rw [show i + (x + 1) = i + 1 + x by omega]
      exact chk1_ok h.2 x e' (by simpa using hx) hc

theorem chkAll_ok : ∀ {es prev : List Ent} {ms : List Nat}, chkAll prev es ms = true → ∀ (j : Nat) (e : Ent), es[j]? = some e → ∀ (x : Nat) (e' : Ent), x < prev.length + j → (prev ++ es)[x]? = some e' → confl e' e = true → (ms.getD j 0).testBit x = true
  | [], _, _, _, j, e, h => by simp at h
  | _ :: _, _, [], h, _, _, _ => by simp [chkAll] at h
  | e0 :: es, prev, m :: ms, h, j, e, hj => by
    intro x e' hx he hc
    simp only [chkAll, Bool.and_eq_true] at h
    cases j with
    | zero =>
      simp at hj; subst hj
      have hx : x < prev.length := by omega
      rw [List.getElem?_append_left hx] at he
      have := chk1_ok h.1 x e' he hc
      simpa using this
    | succ j =>
      have := chkAll_ok h.2 j e (by simpa using hj) x e' (by simp; omega) (by simpa using he) hc
      simpa using this

/-- The state after those of the first k steps that are in L. -/
def sub (σ0 : State) (prs : List (Oper × Eff)) (L : Nat → Bool) : Nat → State
  | 0 => σ0
  | k + 1 => match prs[k]? with
    | some (o, eff) => match L k with
      | true => (sub σ0 prs L k).app o.dst eff
      | false => sub σ0 prs L k
    | none => sub σ0 prs L k

section
variable {C : Cx} {ops : Array Oper} {σ0 : State} {prs : List (Oper × Eff)} {es : List Ent}

/-- What a run in the text's order gives, step by step. -/
def Steps2 (C : Cx) (ops : Array Oper) (σ0 : State) (prs : List (Oper × Eff)) (es : List Ent) : Prop :=
  es.length = prs.length ∧ ∀ (i : Nat) (o : Oper) (eff : Eff) (e : Ent), prs[i]? = some (o, eff) → es[i]? = some e → StepOk C ops i o (sub σ0 prs (fun _ => true) i) eff e

theorem sub_shift {o : Oper} {eff : Eff} {σ : State} {prs : List (Oper × Eff)} : ∀ k, sub σ ((o, eff) :: prs) (fun _ => true) (k + 1) = sub (σ.app o.dst eff) prs (fun _ => true) k
  | 0 => rfl
  | k + 1 => by
    have := sub_shift (o := o) (eff := eff) (σ := σ) (prs := prs) k
    simp only [sub, List.getElem?_cons_succ] at this ⊢
    rw [this]

theorem steps_shift {l : List Oper} {i : Nat} {σ σ' : State} {es : List Ent} (h : Run C ops l i σ es σ') :
    ∃ prs : List (Oper × Eff), prs.map (·.1) = l ∧ es.length = prs.length ∧ σ' = sub σ prs (fun _ => true) prs.length ∧
      ∀ (j : Nat) (o : Oper) (eff : Eff) (e : Ent), prs[j]? = some (o, eff) → es[j]? = some e → StepOk C ops (i + j) o (sub σ prs (fun _ => true) j) eff e := by
  induction h with
  | nil => exact ⟨[], rfl, rfl, rfl, fun j o eff e h => by simp at h⟩
  | @cons o rest i σ σ' eff e es h t ih =>
    obtain ⟨prs, h1, h2, h3, h4⟩ := ih
    refine ⟨(o, eff) :: prs, by simp [h1], by simp [h2], ?_, fun j o' eff' e' hj he => ?_⟩
    · rw [h3, List.length_cons, sub_shift]
    · cases j with
      | zero => simp at hj he; obtain ⟨rfl, rfl⟩ := hj; subst he; exact h
      | succ j =>
        rw [sub_shift]
        have := h4 j o' eff' e' (by simpa using hj) (by simpa using he)
        rwa [show i + (j + 1) = i + 1 + j by omega]

variable (hst : Steps2 C ops σ0 prs es)
include hst

theorem ent_at {i : Nat} {o : Oper} {eff : Eff} (h : prs[i]? = some (o, eff)) : ∃ e, es[i]? = some e ∧ StepOk C ops i o (sub σ0 prs (fun _ => true) i) eff e := by
  have hlt : i < es.length := by rw [hst.1]; exact (List.getElem?_eq_some_iff.1 h).1
  exact ⟨es[i], List.getElem?_eq_getElem hlt, hst.2 i o eff _ h (List.getElem?_eq_getElem hlt)⟩

theorem sub_agree {L L' : Nat → Bool} {κ : Key} : ∀ (k : Nat), (∀ (j : Nat) (e : Ent), j < k → es[j]? = some e → κ ∈ e.wr → L j = L' j) → (sub σ0 prs L k).get κ = (sub σ0 prs L' k).get κ
  | 0, _ => rfl
  | k + 1, h => by
    have ih := sub_agree k fun j e hj => h j e (by omega)
    simp only [sub]
    cases hp : prs[k]? with
    | none => exact ih
    | some p =>
      obtain ⟨o, eff⟩ := p
      obtain ⟨e, he, hs⟩ := ent_at hst hp
      by_cases hκ : κ ∈ e.wr
      · have := h k e (by omega) he hκ
        simp only [this]
        cases L' k with
        | true => exact hs.2.1 κ hκ _ _
        | false => exact ih
      · cases hL : L k <;> cases hL' : L' k <;> simp only [hs.1 κ hκ] <;> exact ih

omit hst in
theorem sub_above {L : Nat → Bool} {i : Nat} (h : ∀ j, i ≤ j → L j = false) : ∀ k, i ≤ k → sub σ0 prs L k = sub σ0 prs L i
  | 0, hk => by have : i = 0 := by omega
                subst this; rfl
  | k + 1, hk => by
    by_cases hik : i = k + 1
    · subst hik; rfl
    · have ih := sub_above h k (by omega)
      simp only [sub]
      cases prs[k]? with
      | none => exact ih
      | some p => simp only [h k (by omega)]; exact ih

omit hst in
theorem sub_below {L L' : Nat → Bool} : ∀ k, (∀ j, j < k → L j = L' j) → sub σ0 prs L k = sub σ0 prs L' k
  | 0, _ => rfl
  | k + 1, h => by
    have ih := sub_below k fun j hj => h j (by omega)
    simp only [sub, ih, h k (by omega)]

/-- No later writer of a key in L: the state reads there as it did. -/
theorem sub_stay {L : Nat → Bool} {κ : Key} {i : Nat} (h : ∀ (j : Nat) (e : Ent), i ≤ j → es[j]? = some e → κ ∈ e.wr → L j = false) : ∀ k, i ≤ k → (sub σ0 prs L k).get κ = (sub σ0 prs L i).get κ
  | 0, hk => by have : i = 0 := by omega
                subst this; rfl
  | k + 1, hk => by
    by_cases hik : i = k + 1
    · subst hik; rfl
    · have ih := sub_stay h k (by omega)
      simp only [sub]
      cases hp : prs[k]? with
      | none => exact ih
      | some p =>
        obtain ⟨o, eff⟩ := p
        obtain ⟨e, he, hs⟩ := ent_at hst hp
        by_cases hκ : κ ∈ e.wr
        · simp only [h k e (by omega) he hκ]; exact ih
        · cases hL : L k <;> simp only [hs.1 κ hκ] <;> exact ih

end

theorem nodup_le : ∀ (n : Nat) (S : List Nat), S.Nodup → (∀ k ∈ S, k < n) → S.length ≤ n
  | 0, S, _, h => by
    cases S with
    | nil => simp
    | cons x S => have := h x (by simp); omega
  | n + 1, S, hn, h => by
    by_cases hx : n ∈ S
    · have := nodup_le n (S.erase n) (hn.erase n) fun k hk => by
        have h1 := (hn.mem_erase_iff).1 hk
        have := h k h1.2
        have := h1.1
        omega
      rw [List.length_erase_of_mem hx] at this
      omega
    · have := nodup_le n S hn fun k hk => by
        have := h k hk
        have : k ≠ n := fun hc => hx (hc ▸ hk)
        omega
      omega

section
variable {C : Cx} {ops : Array Oper} {σ0 : State} {prs : List (Oper × Eff)} {es : List Ent}

/-- THE THEOREM: in any order. -/
theorem any_order (hst : Steps2 C ops σ0 prs es) (hl : prs.map (·.1) = ops.toList) (hok : ordOk ops.toList es = true) {Q : Exit → Act → World → Prop}
    (hq : ∀ a w, StE C (sub σ0 prs (fun _ => true) prs.length) a w → Q .normal a w) :
    ∀ (fuel : Nat) (listed : Array Bool) (a : Act) (w : World), listed.size = ops.size →
      (∀ S : List Nat, S.Nodup → (∀ k ∈ S, k < ops.size ∧ listed.getD k true = false) → S.length ≤ fuel) →
      (∀ (j : Nat) (o : Oper), ops[j]? = some o → listed.getD j false = true → ∀ k ∈ edgesOf o, listed.getD k false = true) →
      StE C (sub σ0 prs (fun k => listed.getD k false) prs.length) a w → wpAny C.P .any ops Q fuel listed a w := by
  have hlen : prs.length = ops.size := by have := congrArg List.length hl; simpa using this
  simp only [ordOk, Bool.and_eq_true] at hok
  obtain ⟨helt, hchk⟩ := hok
  have hop : ∀ (i : Nat) (o : Oper), ops[i]? = some o → ∃ eff, prs[i]? = some (o, eff) := fun i o hi => by
    have h1 : (prs.map (·.1))[i]? = some o := by rw [hl]; simpa using hi
    rw [List.getElem?_map] at h1
    cases hp : prs[i]? with
    | none => simp [hp] at h1
    | some p => simp [hp] at h1; exact ⟨p.2, by rw [← h1]⟩
  have hpo : ∀ (i : Nat) (o : Oper) (eff : Eff), prs[i]? = some (o, eff) → ops[i]? = some o := fun i o eff hi => by
    have h1 : (prs.map (·.1))[i]? = some o := by simp [hi]
    rw [hl] at h1; simpa using h1
  have hdep : ∀ (j : Nat) (o : Oper), ops[j]? = some o → ∀ x, ((ancs ops.toList []).getD j 0).testBit x = true → ∃ k ∈ edgesOf o, k = x ∨ ((ancs ops.toList []).getD k 0).testBit x = true := fun j o hj x hx => by
    have := ancs_ok (acc := []) (i := 0) rfl helt j o (by simpa using hj) x (by rw [Nat.zero_add]; exact hx)
    exact this
  have hcon : ∀ (i j : Nat) (e e' : Ent), i < j → es[i]? = some e → es[j]? = some e' → confl e e' = true → ((ancs ops.toList []).getD j 0).testBit i = true := fun i j e e' hij hi hj hc =>
    chkAll_ok hchk j e' hj i e (by simpa using hij) (by simpa using hi) hc
  have hgd : ∀ (listed : Array Bool), listed.size = ops.size → ∀ k, k < ops.size → (listed.getD k false = true ↔ listed.getD k true = true) := fun listed hs k hk => by
    have : k < listed.size := by omega
    simp [Array.getD, this]
  -- closed under dependence
  have hclosed : ∀ (listed : Array Bool), (∀ (j : Nat) (o : Oper), ops[j]? = some o → listed.getD j false = true → ∀ k ∈ edgesOf o, listed.getD k false = true) →
      ∀ (n j : Nat) (o : Oper), j < n → ops[j]? = some o → listed.getD j false = true → ∀ x, ((ancs ops.toList []).getD j 0).testBit x = true → listed.getD x false = true := by
    intro listed hcl n
    induction n with
    | zero => intro j o hj; omega
    | succ n ih =>
      intro j o hj ho hlj x hx
      obtain ⟨k, hk, h1⟩ := hdep j o ho x hx
      have hkl := hcl j o ho hlj k hk
      rcases h1 with rfl | h1
      · exact hkl
      · have hkj : k < j := by have := edgesLt_ok helt j o (by simpa using ho) k hk; omega
        have hko : ∃ ok, ops[k]? = some ok := by
          have : k < ops.size := by have := (Array.getElem?_eq_some_iff.1 ho).1; omega
          exact ⟨ops[k], Array.getElem?_eq_getElem this⟩
        obtain ⟨ok, hko⟩ := hko
        exact ih k ok (by omega) hko hkl x h1
  intro fuel
  induction fuel with
  | zero =>
    intro listed a w hs hcnt hcl hse
    have hall : ∀ k, k < ops.size → listed.getD k false = true := fun k hk => by
      refine Classical.byContradiction fun hc => ?_
      have := hcnt [k] (by simp) (fun k' hk' => by
        simp at hk'; subst hk'
        refine ⟨hk, ?_⟩
        have := hgd listed hs k' hk
        cases hx : listed.getD k' true with
        | false => rfl
        | true => exact absurd (this.2 hx) hc)
      simp at this
    refine ⟨?_, hq a w ?_⟩
    · unfold Region.ready
      rw [List.filter_eq_nil_iff]
      intro i hi
      have hi' : i < ops.size := by simpa using hi
      simp [(hgd listed hs i hi').1 (hall i hi')]
    · rw [sub_below prs.length (L' := fun k => listed.getD k false) fun j hj => (hall j (by omega)).symm]
      exact hse
  | succ fuel ih =>
    intro listed a w hs hcnt hcl hse
    refine ⟨fun hready => hq a w ?_, fun i hi => ?_⟩
    · -- nothing is ready: all are listed
      have hall : ∀ n k, k < n → k < ops.size → listed.getD k false = true := by
        intro n
        induction n with
        | zero => intro k hk; omega
        | succ n ihn =>
          intro k hk hko
          refine Classical.byContradiction fun hc => ?_
          have hmem : k ∈ Region.ready .any ops listed := by
            unfold Region.ready
            rw [List.mem_filter]
            refine ⟨by simpa using hko, ?_⟩
            have h1 : listed.getD k true = false := by
              cases hx : listed.getD k true with
              | false => rfl
              | true => exact absurd ((hgd listed hs k hko).2 hx) hc
            rw [h1]
            have h2 : ops[k]? = some ops[k] := Array.getElem?_eq_getElem hko
            rw [h2]
            simp only [Bool.not_false, Option.map_some, Option.getD_some, Bool.true_and, Array.all_eq_true_iff_forall_mem]
            intro e he
            cases hb : Region.binds .any e with
            | false => rfl
            | true =>
              have hon : e.on ∈ edgesOf ops[k] := List.mem_map.2 ⟨e, List.mem_filter.2 ⟨by simpa using he, hb⟩, rfl⟩
              have hlt : e.on < k := by have := edgesLt_ok helt k ops[k] (by simp) e.on hon; omega
              simpa using ihn e.on (by omega) (by omega)
          rw [hready] at hmem
          simp at hmem
      rw [sub_below prs.length (L' := fun k => listed.getD k false) fun j hj => (hall (j + 1) j (by omega) (by omega)).symm]
      exact hse
    · -- operation i is ready
      unfold Region.ready at hi
      rw [List.mem_filter] at hi
      obtain ⟨hir, hi2⟩ := hi
      have hio : i < ops.size := by simpa using hir
      have ho : ops[i]? = some ops[i] := Array.getElem?_eq_getElem hio
      simp only [Bool.and_eq_true, Bool.not_eq_true', ho, Option.map_some, Option.getD_some] at hi2
      obtain ⟨hil, hiall⟩ := hi2
      have hil' : listed.getD i false = false := by
        cases hx : listed.getD i false with
        | false => rfl
        | true => rw [(hgd listed hs i hio).1 hx] at hil; cases hil
      have hedge : ∀ k ∈ edgesOf ops[i], listed.getD k false = true := fun k hk => by
        obtain ⟨e, he, rfl⟩ := List.mem_map.1 hk
        obtain ⟨he1, he2⟩ := List.mem_filter.1 he
        have := Array.all_eq_true_iff_forall_mem.1 hiall e (by simpa using he1)
        rw [he2] at this
        simpa using this
      have hanc : ∀ x, ((ancs ops.toList []).getD i 0).testBit x = true → listed.getD x false = true := fun x hx => by
        obtain ⟨k, hk, h1⟩ := hdep i _ ho x hx
        rcases h1 with rfl | h1
        · exact hedge k hk
        · have hki : k < i := by have := edgesLt_ok helt i ops[i] (by simp) k hk; omega
          have hko : ops[k]? = some (ops[k]'(by omega)) := Array.getElem?_eq_getElem (by omega)
          exact hclosed listed hcl (k + 1) k _ (by omega) hko (hedge k hk) x h1
      have hafter : ∀ (j : Nat), i < j → ((ancs ops.toList []).getD j 0).testBit i = true → j < ops.size → listed.getD j false = false := fun j hij hb hj => by
        cases hx : listed.getD j false with
        | false => rfl
        | true =>
          have hjo : ops[j]? = some ops[j] := Array.getElem?_eq_getElem hj
          have := hclosed listed hcl (j + 1) j _ (by omega) hjo hx i hb
          rw [hil'] at this; cases this
      obtain ⟨eff, hpi⟩ := hop i _ ho
      obtain ⟨e, hei, hstep⟩ := ent_at hst hpi
      have hesz : ∀ (j : Nat) (e' : Ent), es[j]? = some e' → j < ops.size := fun j e' hj => by
        have := (List.getElem?_eq_some_iff.1 hj).1
        rw [hst.1] at this; omega
      have hread : ∀ κ ∈ e.rd, (sub σ0 prs (fun k => listed.getD k false) prs.length).get κ = (sub σ0 prs (fun _ => true) i).get κ := fun κ hκ => by
        have h1 : (sub σ0 prs (fun k => listed.getD k false) prs.length).get κ = (sub σ0 prs (fun k => decide (k < i)) prs.length).get κ := sub_agree hst _ fun j e' hj he' hκ' => by
          by_cases hji : j < i
          · have := hanc j (hcon j i e' e hji he' hei (by simp only [confl, meet_of hκ' hκ]; rfl))
            rw [this]; simp [hji]
          · by_cases hij : j = i
            · subst hij; rw [hil']; simp
            · have hb := hcon i j e e' (by omega) hei he' (by simp only [confl, meet_of hκ hκ']; simp)
              rw [hafter j (by omega) hb (hesz j e' he')]
              simp; omega
        rw [h1, sub_above (i := i) (fun j hj => by simp; omega) prs.length (by have := (List.getElem?_eq_some_iff.1 hpi).1; omega), sub_below i (L' := fun _ => true) fun j hj => by simp [hj]]
      have hwp := hstep.2.2 _ hread a w hse Q
      refine wpOp_mono (fun a' w' hse' => ?_) hwp
      have hset : ∀ k, (listed.setIfInBounds i true).getD k false = (listed.getD k false || decide (k = i)) := fun k => by
        by_cases hk : k = i
        · subst hk
          have : k < listed.size := by omega
          simp [Array.getD, this]
        · have hne : i ≠ k := fun h => hk h.symm
          simp [Array.getD_eq_getD_getElem?, Array.getElem?_setIfInBounds_ne hne, hk]
      refine ih (listed.setIfInBounds i true) a' w' (by simpa using hs) (fun S hS hSk => ?_) (fun j o hj hlj k hk => ?_) (hse'.ext fun κ => ?_)
      · have hiS : i ∉ S := fun hc => by
          have := (hSk i hc).2
          have hlt : i < listed.size := by omega
          simp [Array.getD, hlt] at this
        have := hcnt (i :: S) (List.nodup_cons.2 ⟨hiS, hS⟩) (fun k hk => by
          rcases List.mem_cons.1 hk with rfl | hk
          · exact ⟨hio, hil⟩
          · refine ⟨(hSk k hk).1, ?_⟩
            have h1 := (hSk k hk).2
            have hne : i ≠ k := fun hc => hiS (hc ▸ hk)
            simpa [Array.getD_eq_getD_getElem?, Array.getElem?_setIfInBounds_ne hne] using h1)
        simp at this; omega
      · rw [hset] at hlj ⊢
        simp only [Bool.or_eq_true, decide_eq_true_eq] at hlj ⊢
        rcases hlj with h1 | h1
        · exact .inl (hcl j o hj h1 k hk)
        · subst h1
          have : o = ops[j] := Option.some.inj (hj.symm.trans ho)
          subst this
          exact .inl (hedge k hk)
      · -- the states read alike
        have hfun : (fun k => (listed.setIfInBounds i true).getD k false) = fun k => (listed.getD k false || decide (k = i)) := funext hset
        rw [hfun]
        have hile : i < prs.length := (List.getElem?_eq_some_iff.1 hpi).1
        by_cases hκ : κ ∈ e.wr
        · rw [sub_stay hst (i := i + 1) (fun j e' hj he' hκ' => by
            have hb := hcon i j e e' (by omega) hei he' (by simp only [confl, meet_of hκ hκ']; simp)
            rw [hafter j (by omega) hb (hesz j e' he')]
            simp; omega) prs.length (by omega)]
          simp only [sub, hpi]
          simp only [hil', decide_true, Bool.or_true]
          exact hstep.2.1 κ hκ _ _
        · rw [hstep.1 κ hκ]
          refine sub_agree hst _ fun j e' hj he' hκ' => ?_
          have hne : j ≠ i := fun hc => by
            subst hc
            have : e' = e := Option.some.inj (he'.symm.trans hei)
            subst this
            exact hκ hκ'
          simp [hne]

end
end Go.Sx
