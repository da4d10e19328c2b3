/- NbP NbN NbW -/
import Derived.Test.YtcdmndagoafcgaaPerm
section
open Go Go.Proofs
namespace Go.Sx
set_option linter.unusedSimpArgs false
set_option linter.unusedVariables false

/-- A permutation of n places. -/
structure PmP (n : Nat) (p : List Int) : Prop where
  len : p.length = n
  rng : ∀ i, i < n → 0 ≤ p.getD i 0 ∧ p.getD i 0 < (n : Int)
  inj : ∀ i j, i < n → j < n → p.getD i 0 = p.getD j 0 → i = j

def sgF (k : Nat) (v : Int) : Int := if v = (k : Int) then (k : Int) + 1 else if v = (k : Int) + 1 then (k : Int) else v
/-- The values k and k + 1 exchanged. -/
def vsw (p : List Int) (k : Nat) : List Int := p.map (sgF k)
def bgB (p : List Int) (k : Nat) : Bool := decide (p.getD (k + 1) 0 < p.getD k 0)
def edB (p : List Int) (k : Nat) : Bool := bgB (backL p) k

theorem swapAt_get {p : List Int} {k : Nat} (hk : k + 1 < p.length) (x : Nat) : (swapAt p k).getD x 0 = if x = k + 1 then p.getD k 0 else if x = k then p.getD (k + 1) 0 else p.getD x 0 := by
  by_cases hx : x < p.length
  · unfold swapAt
    rw [getD_set _ _ _ _ (by rw [List.length_set]; exact hx), getD_set _ _ _ _ hx]
  · rw [if_neg (by omega), if_neg (by omega)]
    simp [List.getD_eq_getElem?_getD, swapAt, List.getElem?_eq_none (show p.length ≤ x by omega), List.getElem?_eq_none (show ((p.set k (p[k + 1]?.getD 0)).set (k + 1) (p[k]?.getD 0)).length ≤ x by simp; omega)]

theorem vsw_get {p : List Int} {k x : Nat} (hx : x < p.length) : (vsw p k).getD x 0 = sgF k (p.getD x 0) := getD_map p (sgF k) 0 0 x hx
theorem vsw_length (p : List Int) (k : Nat) : (vsw p k).length = p.length := by simp [vsw]

theorem backN_get {n : Nat} {p : List Int} (h : PmP n p) : ∀ m, m ≤ n → ∀ i, i < m → (backN p m).getD (p.getD i 0).toNat 0 = (i : Int)
  | 0, _, i, hi => by omega
  | m + 1, hm, i, hi => by
    have r := h.rng i (by omega)
    have r' := h.rng m (by omega)
    rw [backN, getD_set _ _ _ _ (by rw [backN_length, h.len]; omega)]
    split
    · rename_i e
      rw [h.inj i m (by omega) (by omega) (by omega)]
    · rename_i e
      exact backN_get h m (by omega) i (by
        by_cases c : i = m
        · subst c; exact absurd rfl e
        · omega)

theorem back_get {n : Nat} {p : List Int} (h : PmP n p) {i : Nat} (hi : i < n) : (backL p).getD (p.getD i 0).toNat 0 = (i : Int) := by
  rw [backL, h.len]; exact backN_get h n (Nat.le_refl _) i hi

theorem back_length {n : Nat} {p : List Int} (h : PmP n p) : (backL p).length = n := by rw [backL, backN_length, h.len]

/-- Every value stands somewhere. -/
theorem pm_onto {n : Nat} {p : List Int} (h : PmP n p) {v : Nat} (hv : v < n) : ∃ i, i < n ∧ p.getD i 0 = (v : Int) := by
  refine Classical.byContradiction fun hn => ?_
  have nd : (((v : Nat) : Int) :: p).Nodup := by
    refine List.nodup_cons.2 ⟨fun hm => ?_, List.pairwise_iff_getElem.2 fun a b ha hb hab e => by
      have := h.inj a b (by have := h.len; omega) (by have := h.len; omega) (by rw [getD_lt p 0 a ha, getD_lt p 0 b hb]; exact e)
      omega⟩
    obtain ⟨i, hi, e⟩ := List.getElem_of_mem hm
    exact hn ⟨i, by have := h.len; omega, by rw [getD_lt p 0 i hi]; exact e⟩
  have sub : ∀ x ∈ ((v : Nat) : Int) :: p, x ∈ (List.range n).map fun i : Nat => (i : Int) := fun x hx => by
    rw [List.mem_map]
    rcases List.mem_cons.1 hx with e | e
    · exact ⟨v, List.mem_range.2 hv, e.symm⟩
    · obtain ⟨i, hi, e⟩ := List.getElem_of_mem e
      have := h.rng i (by have := h.len; omega)
      rw [getD_lt p 0 i hi, e] at this
      exact ⟨x.toNat, List.mem_range.2 (by omega), by omega⟩
  have := nd.length_le_of_subset sub
  rw [List.length_cons, List.length_map, List.length_range, h.len] at this
  omega

theorem back_at {n : Nat} {p : List Int} (h : PmP n p) {v : Nat} (hv : v < n) : ∃ i, i < n ∧ p.getD i 0 = (v : Int) ∧ (backL p).getD v 0 = (i : Int) := by
  obtain ⟨i, hi, e⟩ := pm_onto h hv
  have := back_get h hi
  rw [e, Int.toNat_natCast] at this
  exact ⟨i, hi, e, this⟩

theorem back_pm {n : Nat} {p : List Int} (h : PmP n p) : PmP n (backL p) := by
  refine ⟨back_length h, fun v hv => ?_, fun v w hv hw e => ?_⟩
  · obtain ⟨i, hi, _, e⟩ := back_at h hv
    rw [e]; omega
  · obtain ⟨i, hi, a, b⟩ := back_at h hv
    obtain ⟨j, hj, c, d⟩ := back_at h hw
    have : i = j := by omega
    subst this
    omega

theorem back_iff {n : Nat} {p : List Int} (h : PmP n p) {i v : Nat} (hi : i < n) (hv : v < n) : p.getD i 0 = (v : Int) ↔ (backL p).getD v 0 = (i : Int) := by
  obtain ⟨j, hj, a, b⟩ := back_at h hv
  constructor
  · intro e
    rw [b]
    have := h.inj i j hi hj (by omega)
    omega
  · intro e
    rw [show i = j by omega]; exact a

/-- Two lists are each other's inverses. -/
theorem back_eq {n : Nat} {p q : List Int} (h : PmP n p) (hl : q.length = n) (he : ∀ i, i < n → q.getD (p.getD i 0).toNat 0 = (i : Int)) : backL p = q := by
  refine list_ext (by rw [back_length h, hl]) fun v hv => ?_
  rw [back_length h] at hv
  obtain ⟨i, hi, a, b⟩ := back_at h hv
  have := he i hi
  rw [a, Int.toNat_natCast] at this
  rw [b, this]

theorem sgF_in {n k : Nat} (hk : k + 1 < n) {v : Int} (h : 0 ≤ v ∧ v < (n : Int)) : 0 ≤ sgF k v ∧ sgF k v < (n : Int) := by
  unfold sgF
  split
  · omega
  · split <;> omega

theorem sgF_inj {k : Nat} {v w : Int} (h : sgF k v = sgF k w) : v = w := by
  unfold sgF at h
  repeat' split at h
  all_goals omega

theorem swap_pm {n k : Nat} {p : List Int} (h : PmP n p) (hk : k + 1 < n) : PmP n (swapAt p k) := by
  have hl := h.len
  refine ⟨by rw [swapAt_length, hl], fun i hi => ?_, fun i j hi hj e => ?_⟩
  · rw [swapAt_get (by omega)]
    split
    · exact h.rng k (by omega)
    · split
      · exact h.rng (k + 1) hk
      · exact h.rng i hi
  · rw [swapAt_get (by omega), swapAt_get (by omega)] at e
    repeat' split at e
    all_goals
      have e := h.inj _ _ (by omega) (by omega) e
      omega

theorem vsw_pm {n k : Nat} {p : List Int} (h : PmP n p) (hk : k + 1 < n) : PmP n (vsw p k) := by
  have hl := h.len
  refine ⟨by rw [vsw_length, hl], fun i hi => ?_, fun i j hi hj e => ?_⟩
  · rw [vsw_get (by omega)]; exact sgF_in hk (h.rng i hi)
  · rw [vsw_get (by omega), vsw_get (by omega)] at e
    exact h.inj i j hi hj (sgF_inj e)

theorem back_vsw {n k : Nat} {p : List Int} (h : PmP n p) (hk : k + 1 < n) : backL (vsw p k) = swapAt (backL p) k := by
  refine back_eq (vsw_pm h hk) (by rw [swapAt_length, back_length h]) fun i hi => ?_
  have hl := back_length h
  have hp := h.len
  have r := h.rng i hi
  rw [vsw_get (by omega), swapAt_get (by omega)]
  have g := back_get h hi
  unfold sgF
  split
  · rename_i e
    rw [if_pos (by omega)]
    rw [e, Int.toNat_natCast] at g
    exact g
  · split
    · rename_i e
      rw [if_neg (by omega), if_pos (by omega)]
      rw [e, show ((k : Int) + 1).toNat = k + 1 by omega] at g
      exact g
    · rw [if_neg (by omega), if_neg (by omega)]
      exact g

theorem back_swap {n k : Nat} {p : List Int} (h : PmP n p) (hk : k + 1 < n) : backL (swapAt p k) = vsw (backL p) k := by
  have hl := back_length h
  have hp := h.len
  refine back_eq (swap_pm h hk) (by rw [vsw_length, hl]) fun i hi => ?_
  have q := (swap_pm h hk).rng i hi
  rw [vsw_get (by omega), swapAt_get (by omega)]
  have g := back_get h hi
  have g0 := back_get h (i := k) (by omega)
  have g1 := back_get h (i := k + 1) hk
  unfold sgF
  split
  · rename_i e
    subst e
    first | omega | (rw [g0, if_pos rfl]; omega)
  · split
    · rename_i e
      subst e
      first | omega | (rw [g1, if_neg (by omega), if_pos (by omega)]; omega)
    · first | omega | rw [g, if_neg (by omega), if_neg (by omega)]

section
variable {n : Nat} {p : List Int}

theorem bg_self (h : PmP n p) {k : Nat} (hk : k + 1 < n) : bgB (swapAt p k) k = !bgB p k := by
  have hl := h.len
  unfold bgB
  rw [swapAt_get (by omega), swapAt_get (by omega), if_pos rfl, if_neg (by omega), if_pos rfl]
  have : p.getD k 0 ≠ p.getD (k + 1) 0 := fun e => by have := h.inj _ _ (by omega) hk e; omega
  rw [Bool.eq_iff_iff]
  simp only [decide_eq_true_eq, Bool.not_eq_true', decide_eq_false_iff_not]
  omega

theorem bg_far (h : PmP n p) {k l : Nat} (hk : k + 1 < n) (hf : k + 1 < l ∨ l + 1 < k) : bgB (swapAt p k) l = bgB p l := by
  have hl := h.len
  unfold bgB
  rw [swapAt_get (by omega), swapAt_get (by omega), if_neg (by omega), if_neg (by omega), if_neg (by omega), if_neg (by omega)]

theorem sw_ext {a b : List Int} (ha : a.length = n) (hb : b.length = n) (h : ∀ x, x < n → a.getD x 0 = b.getD x 0) : a = b := list_ext (by omega) fun x hx => h x (by omega)

theorem sw_far (h : PmP n p) {k l : Nat} (hk : k + 1 < n) (hl : l + 1 < n) (hf : k + 1 < l ∨ l + 1 < k) : swapAt (swapAt p k) l = swapAt (swapAt p l) k := by
  have hp := h.len
  refine sw_ext (n := n) (by simp only [swapAt_length, hp]) (by simp only [swapAt_length, hp]) fun x hx => ?_
  rw [swapAt_get (by rw [swapAt_length]; omega), swapAt_get (p := swapAt p l) (by rw [swapAt_length]; omega)]
  simp only [swapAt_get (p := p) (k := k) (by omega), swapAt_get (p := p) (k := l) (by omega)]
  repeat' split
  all_goals first | rfl | omega

theorem sw_k {k : Nat} (hk : k + 1 < p.length) : (swapAt p k).getD k 0 = p.getD (k + 1) 0 := by rw [swapAt_get hk, if_neg (by omega), if_pos rfl]
theorem sw_k1 {k : Nat} (hk : k + 1 < p.length) : (swapAt p k).getD (k + 1) 0 = p.getD k 0 := by rw [swapAt_get hk, if_pos rfl]
theorem sw_ne {k x : Nat} (hk : k + 1 < p.length) (h1 : x ≠ k) (h2 : x ≠ k + 1) : (swapAt p k).getD x 0 = p.getD x 0 := by rw [swapAt_get hk, if_neg h2, if_neg h1]

/-- Three neighbours, under two exchanges. -/
theorem sw_up {k : Nat} (hk : k + 1 + 1 < p.length) : (swapAt (swapAt p k) (k + 1)).getD k 0 = p.getD (k + 1) 0 ∧ (swapAt (swapAt p k) (k + 1)).getD (k + 1) 0 = p.getD (k + 1 + 1) 0 ∧ (swapAt (swapAt p k) (k + 1)).getD (k + 1 + 1) 0 = p.getD k 0 := by
  have l1 : (swapAt p k).length = p.length := swapAt_length _ _
  refine ⟨?_, ?_, ?_⟩
  · rw [sw_ne (by omega) (by omega) (by omega), sw_k (by omega)]
  · rw [sw_k (by omega), sw_ne (by omega) (by omega) (by omega)]
  · rw [sw_k1 (by omega), sw_k1 (by omega)]
theorem sw_dn {k : Nat} (hk : k + 1 + 1 < p.length) : (swapAt (swapAt p (k + 1)) k).getD k 0 = p.getD (k + 1 + 1) 0 ∧ (swapAt (swapAt p (k + 1)) k).getD (k + 1) 0 = p.getD k 0 ∧ (swapAt (swapAt p (k + 1)) k).getD (k + 1 + 1) 0 = p.getD (k + 1) 0 := by
  have l1 : (swapAt p (k + 1)).length = p.length := swapAt_length _ _
  refine ⟨?_, ?_, ?_⟩
  · rw [sw_k (by omega), sw_k (by omega)]
  · rw [sw_k1 (by omega), sw_ne (by omega) (by omega) (by omega)]
  · rw [sw_ne (by omega) (by omega) (by omega), sw_k1 (by omega)]

/-- Neighbours that both fall: whatever is exchanged first. -/
theorem bg_near (h : PmP n p) {k l : Nat} (hk : k + 1 < n) (hl : l + 1 < n) (hn : l = k + 1 ∨ k = l + 1) (b1 : bgB p k = true) (b2 : bgB p l = true) :
    bgB (swapAt p k) l = true ∧ bgB (swapAt (swapAt p k) l) k = true := by
  have hp := h.len
  unfold bgB at *
  simp only [decide_eq_true_eq] at *
  rcases hn with e | e
  · subst e
    obtain ⟨s1, s2, _⟩ := sw_up (p := p) (k := k) (by omega)
    refine ⟨?_, ?_⟩
    · rw [sw_k1 (by omega), sw_ne (by omega) (by omega) (by omega)]; omega
    · rw [s1, s2]; omega
  · subst e
    obtain ⟨_, s2, s3⟩ := sw_dn (p := p) (k := l) (by omega)
    refine ⟨?_, ?_⟩
    · rw [sw_k (by omega), sw_ne (by omega) (by omega) (by omega)]; omega
    · rw [s2, s3]; omega

theorem ng_near (h : PmP n p) {k l : Nat} (hk : k + 1 < n) (hl : l + 1 < n) (hn : l = k + 1 ∨ k = l + 1) (b1 : bgB p k = false) (b2 : bgB p l = false) :
    bgB (swapAt p k) l = false ∧ bgB (swapAt (swapAt p k) l) k = false := by
  have hp := h.len
  unfold bgB at *
  simp only [decide_eq_false_iff_not] at *
  rcases hn with e | e
  · subst e
    obtain ⟨s1, s2, _⟩ := sw_up (p := p) (k := k) (by omega)
    refine ⟨?_, ?_⟩
    · rw [sw_k1 (by omega), sw_ne (by omega) (by omega) (by omega)]; omega
    · rw [s1, s2]; omega
  · subst e
    obtain ⟨_, s2, s3⟩ := sw_dn (p := p) (k := l) (by omega)
    refine ⟨?_, ?_⟩
    · rw [sw_k (by omega), sw_ne (by omega) (by omega) (by omega)]; omega
    · rw [s2, s3]; omega

theorem sw_near1 (h : PmP n p) {k : Nat} (hl : k + 1 + 1 < n) : swapAt (swapAt (swapAt p k) (k + 1)) k = swapAt (swapAt (swapAt p (k + 1)) k) (k + 1) := by
  have hp := h.len
  have l1 : (swapAt (swapAt p k) (k + 1)).length = n := by simp only [swapAt_length, hp]
  have l2 : (swapAt (swapAt p (k + 1)) k).length = n := by simp only [swapAt_length, hp]
  obtain ⟨s1, s2, s3⟩ := sw_up (p := p) (k := k) (by omega)
  obtain ⟨d1, d2, d3⟩ := sw_dn (p := p) (k := k) (by omega)
  refine sw_ext (n := n) (by rw [swapAt_length]; exact l1) (by rw [swapAt_length]; exact l2) fun x hx => ?_
  by_cases e0 : x = k
  · subst e0; rw [sw_k (by omega), s2, sw_ne (by omega) (by omega) (by omega), d1]
  by_cases e1 : x = k + 1
  · subst e1; rw [sw_k1 (by omega), s1, sw_k (by omega), d3]
  by_cases e2 : x = k + 1 + 1
  · subst e2; rw [sw_ne (by omega) (by omega) (by omega), s3, sw_k1 (by omega), d2]
  have l3 : (swapAt p k).length = n := by rw [swapAt_length, hp]
  have l4 : (swapAt p (k + 1)).length = n := by rw [swapAt_length, hp]
  rw [sw_ne (by omega) (by omega) (by omega), sw_ne (by omega) (by omega) (by omega), sw_ne (by omega) (by omega) (by omega), sw_ne (p := swapAt (swapAt p (k + 1)) k) (by omega) (by omega) (by omega), sw_ne (p := swapAt p (k + 1)) (by omega) (by omega) (by omega), sw_ne (by omega) (by omega) (by omega)]

theorem sw_near (h : PmP n p) {k l : Nat} (hk : k + 1 < n) (hl : l + 1 < n) (hn : l = k + 1 ∨ k = l + 1) : swapAt (swapAt (swapAt p k) l) k = swapAt (swapAt (swapAt p l) k) l := by
  rcases hn with e | e
  · subst e; exact sw_near1 h (by omega)
  · subst e; exact (sw_near1 h (by omega)).symm
end

section
variable {n : Nat} {p : List Int}

theorem ed_self (h : PmP n p) {k : Nat} (hk : k + 1 < n) : edB (vsw p k) k = !edB p k := by
  unfold edB; rw [back_vsw h hk]; exact bg_self (back_pm h) hk
theorem ed_far (h : PmP n p) {k l : Nat} (hk : k + 1 < n) (hf : k + 1 < l ∨ l + 1 < k) : edB (vsw p k) l = edB p l := by
  unfold edB; rw [back_vsw h hk]; exact bg_far (back_pm h) hk hf
theorem ed_near (h : PmP n p) {k l : Nat} (hk : k + 1 < n) (hl : l + 1 < n) (hn : l = k + 1 ∨ k = l + 1) (b1 : edB p k = false) (b2 : edB p l = false) :
    edB (vsw p k) l = false ∧ edB (vsw (vsw p k) l) k = false := by
  unfold edB at *
  rw [back_vsw (vsw_pm h hk) hl, back_vsw h hk]
  exact ng_near (back_pm h) hk hl hn b1 b2

theorem vsw_ext {a b : List Int} (ha : PmP n a) (hb : PmP n b) (h : backL a = backL b) : a = b := by
  refine sw_ext ha.len hb.len fun x hx => ?_
  have r := ha.rng x hx
  have := (back_iff hb hx (v := (a.getD x 0).toNat) (by omega)).2 (by rw [← h]; exact back_get ha hx)
  omega

theorem vs_far (h : PmP n p) {k l : Nat} (hk : k + 1 < n) (hl : l + 1 < n) (hf : k + 1 < l ∨ l + 1 < k) : vsw (vsw p k) l = vsw (vsw p l) k := by
  refine vsw_ext (vsw_pm (vsw_pm h hk) hl) (vsw_pm (vsw_pm h hl) hk) ?_
  rw [back_vsw (vsw_pm h hk) hl, back_vsw h hk, back_vsw (vsw_pm h hl) hk, back_vsw h hl]
  exact sw_far (back_pm h) hk hl hf
theorem vs_near (h : PmP n p) {k l : Nat} (hk : k + 1 < n) (hl : l + 1 < n) (hn : l = k + 1 ∨ k = l + 1) : vsw (vsw (vsw p k) l) k = vsw (vsw (vsw p l) k) l := by
  refine vsw_ext (vsw_pm (vsw_pm (vsw_pm h hk) hl) hk) (vsw_pm (vsw_pm (vsw_pm h hl) hk) hl) ?_
  rw [back_vsw (vsw_pm (vsw_pm h hk) hl) hk, back_vsw (vsw_pm h hk) hl, back_vsw h hk, back_vsw (vsw_pm (vsw_pm h hl) hk) hl, back_vsw (vsw_pm h hl) hk, back_vsw h hl]
  exact sw_near (back_pm h) hk hl hn

/-- What a letter behind does not undo. -/
theorem bg_vsw (h : PmP n p) {k l : Nat} (hk : k + 1 < n) (hl : l + 1 < n) (b : bgB p k = true) (e : edB p l = false) : bgB (vsw p l) k = true := by
  have hp := h.len
  unfold edB bgB at *
  rw [decide_eq_true_eq] at *
  rw [decide_eq_false_iff_not] at e
  rw [vsw_get (by omega), vsw_get (by omega)]
  unfold sgF
  have c : ¬ (p.getD k 0 = (l : Int) + 1 ∧ p.getD (k + 1) 0 = (l : Int)) := fun ⟨c1, c2⟩ => by
    have d1 := (back_iff h (i := k) (v := l + 1) (by omega) hl).1 (by omega)
    have d2 := (back_iff h (i := k + 1) (v := l) hk (by omega)).1 c2
    omega
  repeat' split
  all_goals omega

theorem ed_swap (h : PmP n p) {k l : Nat} (hk : k + 1 < n) (hl : l + 1 < n) (b : bgB p k = true) (e : edB p l = false) : edB (swapAt p k) l = false := by
  have hp := back_length h
  unfold edB
  rw [back_swap h hk]
  unfold edB bgB at *
  rw [decide_eq_true_eq] at b
  rw [decide_eq_false_iff_not] at *
  rw [vsw_get (by omega), vsw_get (by omega)]
  unfold sgF
  have c : ¬ ((backL p).getD l 0 = (k : Int) ∧ (backL p).getD (l + 1) 0 = (k : Int) + 1) := fun ⟨c1, c2⟩ => by
    have d1 := (back_iff h (i := k) (v := l) (by omega) (by omega)).2 c1
    have d2 := (back_iff h (i := k + 1) (v := l + 1) hk hl).2 (by omega)
    omega
  repeat' split
  all_goals omega

theorem sw_vs (h : PmP n p) {k l : Nat} (hk : k + 1 < n) : swapAt (vsw p l) k = vsw (swapAt p k) l := by
  have hp := h.len
  refine sw_ext (n := n) (by simp only [swapAt_length, vsw_length, hp]) (by simp only [swapAt_length, vsw_length, hp]) fun x hx => ?_
  rw [swapAt_get (by rw [vsw_length]; omega), vsw_get (p := swapAt p k) (by rw [swapAt_length]; omega), swapAt_get (by omega), vsw_get (by omega), vsw_get (by omega), vsw_get (by omega)]
  repeat' split
  all_goals rfl
end

end Go.Sx
end

section
open Go Go.Proofs
namespace Go.Sx
set_option linter.unusedSimpArgs false
set_option linter.unusedVariables false

def stp (L : List (List Int)) (i k : Nat) : List (List Int) := (L.set i (vsw (L.getD i []) k)).set (i + 1) (swapAt (L.getD (i + 1) []) k)
def tst (L : List (List Int)) (i k : Nat) : Bool := bgB (L.getD (i + 1) []) k && !edB (L.getD i []) k
def okL (n : Nat) (L : List (List Int)) : Prop := ∀ i, i < L.length → PmP n (L.getD i [])

theorem tst_iff {L : List (List Int)} {i k : Nat} : tst L i k = true ↔ bgB (L.getD (i + 1) []) k = true ∧ edB (L.getD i []) k = false := by
  unfold tst
  rw [Bool.and_eq_true, Bool.not_eq_true']

theorem getD_set2 (L : List (List Int)) (a i : Nat) (v : List Int) (h : a < L.length) : (L.set a v).getD i [] = if i = a then v else L.getD i [] := by
  simp only [List.getD_eq_getElem?_getD, List.getElem?_set]
  by_cases e : a = i
  · subst e; simp [h]
  · simp [e, Ne.symm e]

theorem ext2 {a b : List (List Int)} (hl : a.length = b.length) (h : ∀ i, i < a.length → a.getD i [] = b.getD i []) : a = b := by
  apply List.ext_getElem hl
  intro i h1 h2
  have := h i h1
  rwa [getD_lt a [] i h1, getD_lt b [] i h2] at this

theorem stp_length (L : List (List Int)) (i k : Nat) : (stp L i k).length = L.length := by simp [stp]

theorem stp_get {L : List (List Int)} {i k : Nat} (h : i + 1 < L.length) (j : Nat) :
    (stp L i k).getD j [] = if j = i + 1 then swapAt (L.getD (i + 1) []) k else if j = i then vsw (L.getD i []) k else L.getD j [] := by
  unfold stp
  rw [getD_set2 _ _ _ _ (by rw [List.length_set]; exact h), getD_set2 _ _ _ _ (by omega)]

theorem stp_ok {n : Nat} {L : List (List Int)} {i k : Nat} (h : okL n L) (hi : i + 1 < L.length) (hk : k + 1 < n) : okL n (stp L i k) := fun j hj => by
  rw [stp_length] at hj
  rw [stp_get hi]
  split
  · exact swap_pm (h _ hi) hk
  · split
    · exact vsw_pm (h _ (by omega)) hk
    · exact h j hj

inductive Rch (n : Nat) : List (List Int) → List (List Int) → Prop where
  | rfl (L : List (List Int)) : Rch n L L
  | st {L L' : List (List Int)} {i k : Nat} (hi : i + 1 < L.length) (hk : k + 1 < n) (ht : tst L i k = true) (h : Rch n (stp L i k) L') : Rch n L L'

def Nrm (n : Nat) (L : List (List Int)) : Prop := ∀ i k, i + 1 < L.length → k + 1 < n → tst L i k = false

theorem Rch.trans {n : Nat} {A B C : List (List Int)} (h : Rch n A B) (h2 : Rch n B C) : Rch n A C := by
  induction h with
  | rfl => exact h2
  | st hi hk ht _ ih => exact .st hi hk ht (ih h2)

theorem Rch.one {n : Nat} {L : List (List Int)} {i k : Nat} (hi : i + 1 < L.length) (hk : k + 1 < n) (ht : tst L i k = true) : Rch n L (stp L i k) := .st hi hk ht (.rfl _)

theorem Rch.ok {n : Nat} {A B : List (List Int)} (h : Rch n A B) (hA : okL n A) : okL n B ∧ B.length = A.length := by
  induction h with
  | rfl => exact ⟨hA, Eq.refl _⟩
  | st hi hk ht _ ih =>
    have := ih (stp_ok hA hi hk)
    rw [stp_length] at this
    exact this

/-- Two neighbours written anew. -/
def up2 (L : List (List Int)) (i : Nat) (x y : List Int) : List (List Int) := (L.set i x).set (i + 1) y
def up3 (L : List (List Int)) (i : Nat) (x y z : List Int) : List (List Int) := ((L.set i x).set (i + 1) y).set (i + 2) z

theorem up2_get {L : List (List Int)} {i : Nat} (h : i + 1 < L.length) (x y : List Int) (j : Nat) : (up2 L i x y).getD j [] = if j = i + 1 then y else if j = i then x else L.getD j [] := by
  unfold up2
  rw [getD_set2 _ _ _ _ (by rw [List.length_set]; exact h), getD_set2 _ _ _ _ (by omega)]
theorem up3_get {L : List (List Int)} {i : Nat} (h : i + 2 < L.length) (x y z : List Int) (j : Nat) : (up3 L i x y z).getD j [] = if j = i + 2 then z else if j = i + 1 then y else if j = i then x else L.getD j [] := by
  unfold up3
  rw [getD_set2 _ _ _ _ (by simp only [List.length_set]; omega), getD_set2 _ _ _ _ (by rw [List.length_set]; omega), getD_set2 _ _ _ _ (by omega)]

theorem up2_length (L : List (List Int)) (i : Nat) (x y : List Int) : (up2 L i x y).length = L.length := by simp [up2]
theorem up3_length (L : List (List Int)) (i : Nat) (x y z : List Int) : (up3 L i x y z).length = L.length := by simp [up3]

theorem stp_up2 {L : List (List Int)} {i : Nat} (h : i + 1 < L.length) (x y : List Int) (k : Nat) : stp (up2 L i x y) i k = up2 L i (vsw x k) (swapAt y k) := by
  refine ext2 (by simp only [stp_length, up2_length]) fun j _ => ?_
  have a : (up2 L i x y).getD i [] = x := by rw [up2_get h, if_neg (by omega), if_pos (Eq.refl _)]
  have b : (up2 L i x y).getD (i + 1) [] = y := by rw [up2_get h, if_pos (Eq.refl _)]
  rw [stp_get (by rw [up2_length]; exact h), a, b, up2_get h, up2_get h]
  repeat' split
  all_goals first | rfl | omega
theorem tst_up2 {L : List (List Int)} {i : Nat} (h : i + 1 < L.length) (x y : List Int) (k : Nat) : tst (up2 L i x y) i k = (bgB y k && !edB x k) := by
  unfold tst
  rw [up2_get h, up2_get h, if_pos rfl, if_neg (by omega), if_pos rfl]
theorem up2_self {L : List (List Int)} {i : Nat} (h : i + 1 < L.length) : up2 L i (L.getD i []) (L.getD (i + 1) []) = L := by
  refine ext2 (up2_length _ _ _ _) fun j _ => ?_
  rw [up2_get h]
  split
  · rename_i e; rw [e]
  · split
    · rename_i e; rw [e]
    · rfl
theorem up3_self {L : List (List Int)} {i : Nat} (h : i + 2 < L.length) : up3 L i (L.getD i []) (L.getD (i + 1) []) (L.getD (i + 2) []) = L := by
  refine ext2 (up3_length _ _ _ _ _) fun j _ => ?_
  rw [up3_get h]
  repeat' split
  all_goals first | rfl | (rename_i e; rw [e])
theorem stp_up3 {L : List (List Int)} {i : Nat} (h : i + 2 < L.length) (x y z : List Int) (k : Nat) : stp (up3 L i x y z) i k = up3 L i (vsw x k) (swapAt y k) z := by
  refine ext2 (by simp only [stp_length, up3_length]) fun j _ => ?_
  have a : (up3 L i x y z).getD i [] = x := by rw [up3_get h, if_neg (by omega), if_neg (by omega), if_pos (Eq.refl _)]
  have b : (up3 L i x y z).getD (i + 1) [] = y := by rw [up3_get h, if_neg (by omega), if_pos (Eq.refl _)]
  rw [stp_get (by rw [up3_length]; omega), a, b, up3_get h, up3_get h]
  repeat' split
  all_goals first | rfl | omega
theorem stp_up3' {L : List (List Int)} {i : Nat} (h : i + 2 < L.length) (x y z : List Int) (k : Nat) : stp (up3 L i x y z) (i + 1) k = up3 L i x (vsw y k) (swapAt z k) := by
  refine ext2 (by simp only [stp_length, up3_length]) fun j _ => ?_
  have a : (up3 L i x y z).getD (i + 1) [] = y := by rw [up3_get h, if_neg (by omega), if_pos (Eq.refl _)]
  have b : (up3 L i x y z).getD (i + 1 + 1) [] = z := by rw [up3_get h, if_pos (Eq.refl _)]
  rw [stp_get (by rw [up3_length]; omega), a, b, up3_get h, up3_get h]
  repeat' split
  all_goals first | rfl | omega
theorem tst_up3 {L : List (List Int)} {i : Nat} (h : i + 2 < L.length) (x y z : List Int) (k : Nat) : tst (up3 L i x y z) i k = (bgB y k && !edB x k) := by
  unfold tst
  rw [up3_get h, up3_get h, if_neg (by omega), if_pos rfl, if_neg (by omega), if_neg (by omega), if_pos rfl]
theorem tst_up3' {L : List (List Int)} {i : Nat} (h : i + 2 < L.length) (x y z : List Int) (k : Nat) : tst (up3 L i x y z) (i + 1) k = (bgB z k && !edB y k) := by
  unfold tst
  rw [up3_get h, up3_get h, if_pos rfl, if_neg (by omega), if_pos rfl]

section
variable {n : Nat} {L : List (List Int)} {i k l : Nat}

theorem one2 (hi : i + 1 < L.length) (hk : k + 1 < n) {x y : List Int} (hb : bgB y k = true) (he : edB x k = false) : Rch n (up2 L i x y) (up2 L i (vsw x k) (swapAt y k)) := by
  rw [← stp_up2 hi]
  exact .one (by rw [up2_length]; exact hi) hk (by rw [tst_up2 hi, hb, he]; rfl)

theorem loc_same (hL : okL n L) (hi : i + 1 < L.length) (hk : k + 1 < n) (hl : l + 1 < n) (t1 : tst L i k = true) (t2 : tst L i l = true) :
    ∃ M, Rch n (stp L i k) M ∧ Rch n (stp L i l) M := by
  have A := hL i (by omega)
  have B := hL (i + 1) hi
  have e := up2_self hi
  rw [tst_iff] at t1 t2
  generalize L.getD i [] = a at *
  generalize L.getD (i + 1) [] = b at *
  rw [← e, stp_up2 hi, stp_up2 hi]
  by_cases c : k = l
  · subst c; exact ⟨_, .rfl _, .rfl _⟩
  by_cases f : k + 1 < l ∨ l + 1 < k
  · refine ⟨_, one2 hi hl (by rw [bg_far B hk f]; exact t2.1) (by rw [ed_far A hk f]; exact t2.2), ?_⟩
    rw [vs_far A hk hl f, sw_far B hk hl f]
    exact one2 hi hk (by rw [bg_far B hl (by omega)]; exact t1.1) (by rw [ed_far A hl (by omega)]; exact t1.2)
  · have n1 : l = k + 1 ∨ k = l + 1 := by omega
    have n2 : k = l + 1 ∨ l = k + 1 := by omega
    obtain ⟨b1, b2⟩ := bg_near B hk hl n1 t1.1 t2.1
    obtain ⟨e1, e2⟩ := ed_near A hk hl n1 t1.2 t2.2
    obtain ⟨b3, b4⟩ := bg_near B hl hk n2 t2.1 t1.1
    obtain ⟨e3, e4⟩ := ed_near A hl hk n2 t2.2 t1.2
    refine ⟨_, (one2 hi hl b1 e1).trans (one2 hi hk b2 e2), ?_⟩
    rw [vs_near A hk hl n1, sw_near B hk hl n1]
    exact (one2 hi hk b3 e3).trans (one2 hi hl b4 e4)

theorem loc_next (hL : okL n L) (hi : i + 2 < L.length) (hk : k + 1 < n) (hl : l + 1 < n) (t1 : tst L i k = true) (t2 : tst L (i + 1) l = true) :
    ∃ M, Rch n (stp L i k) M ∧ Rch n (stp L (i + 1) l) M := by
  have A := hL i (by omega)
  have B := hL (i + 1) (by omega)
  have e := up3_self hi
  rw [tst_iff] at t1 t2
  rw [show i + 1 + 1 = i + 2 from rfl] at t2
  generalize L.getD i [] = a at *
  generalize L.getD (i + 1) [] = b at *
  generalize L.getD (i + 2) [] = c at *
  rw [← e, stp_up3 hi, stp_up3' hi]
  have ln : ∀ x y z, i + 2 < (up3 L i x y z).length := fun x y z => by rw [up3_length]; exact hi
  refine ⟨_, .one (i := i + 1) (k := l) (ln _ _ _) hl ?_, ?_⟩
  · rw [tst_up3' hi, t2.1, ed_swap B hk hl t1.1 t2.2]; rfl
  · rw [stp_up3' hi, ← sw_vs B hk, ← stp_up3 hi]
    refine .one (by have := ln a (vsw b l) (swapAt c l); omega) hk ?_
    rw [tst_up3 hi, bg_vsw B hk hl t1.1 t2.2, t1.2]; rfl

theorem loc_far {j : Nat} (hi : i + 1 < L.length) (hj : j + 1 < L.length) (hk : k + 1 < n) (hl : l + 1 < n) (hij : i + 1 < j) (t1 : tst L i k = true) (t2 : tst L j l = true) :
    ∃ M, Rch n (stp L i k) M ∧ Rch n (stp L j l) M := by
  rw [tst_iff] at t1 t2
  refine ⟨_, .one (i := j) (k := l) (by rw [stp_length]; exact hj) hl ?_, ?_⟩
  · rw [tst_iff, stp_get hi, stp_get hi, if_neg (by omega), if_neg (by omega), if_neg (by omega), if_neg (by omega)]; exact t2
  · have : stp (stp L i k) j l = stp (stp L j l) i k := by
      refine ext2 (by simp only [stp_length]) fun x _ => ?_
      rw [stp_get (by rw [stp_length]; exact hj), stp_get (L := stp L j l) (by rw [stp_length]; exact hi)]
      simp only [stp_get hi, stp_get hj]
      repeat' split
      all_goals first | rfl | omega
    rw [this]
    refine .one (by rw [stp_length]; exact hi) hk ?_
    rw [tst_iff, stp_get hj, stp_get hj, if_neg (by omega), if_neg (by omega), if_neg (by omega), if_neg (by omega)]; exact t1

theorem loc {j : Nat} (hL : okL n L) (hi : i + 1 < L.length) (hj : j + 1 < L.length) (hk : k + 1 < n) (hl : l + 1 < n) (t1 : tst L i k = true) (t2 : tst L j l = true) :
    ∃ M, Rch n (stp L i k) M ∧ Rch n (stp L j l) M := by
  by_cases e : i = j
  · subst e; exact loc_same hL hi hk hl t1 t2
  by_cases e1 : j = i + 1
  · subst e1; exact loc_next hL hj hk hl t1 t2
  by_cases e2 : i = j + 1
  · subst e2
    obtain ⟨M, a, b⟩ := loc_next hL hi hl hk t2 t1
    exact ⟨M, b, a⟩
  by_cases e3 : i + 1 < j
  · exact loc_far hi hj hk hl e3 t1 t2
  · obtain ⟨M, a, b⟩ := loc_far hj hi hl hk (by omega) t2 t1
    exact ⟨M, b, a⟩
end

/-! ### Slides end. -/

def dS (p : List Int) : Nat → Int
  | 0 => 0
  | x + 1 => dS p x + (x : Int) * p.getD x 0

theorem dS_in {n : Nat} {p : List Int} (h : PmP n p) : ∀ m, m ≤ n → 0 ≤ dS p m ∧ dS p m ≤ (m : Int) * ((n : Int) * (n : Int))
  | 0, _ => by simp [dS]
  | m + 1, hm => by
    have ⟨a, b⟩ := dS_in h m (by omega)
    have r := h.rng m (by omega)
    have c : 0 ≤ (m : Int) * p.getD m 0 := Int.mul_nonneg (by omega) r.1
    have d : (m : Int) * p.getD m 0 ≤ (n : Int) * (n : Int) := Int.mul_le_mul (by omega) (by omega) r.1 (by omega)
    rw [dS, show ((m + 1 : Nat) : Int) = (m : Int) + 1 by omega, Int.add_mul, Int.one_mul]
    omega

theorem dS_swap {n k : Nat} {p : List Int} (h : PmP n p) (hk : k + 1 < n) : ∀ m, dS (swapAt p k) m = dS p m + (if m ≤ k then 0 else if m = k + 1 then (k : Int) * p.getD (k + 1) 0 - (k : Int) * p.getD k 0 else p.getD k 0 - p.getD (k + 1) 0)
  | 0 => by simp [dS]
  | m + 1 => by
    have hl := h.len
    have ih := dS_swap h hk m
    rw [dS, dS, ih, swapAt_get (by omega)]
    by_cases a : m < k
    · rw [if_pos (by omega), if_neg (by omega), if_neg (by omega), if_pos (by omega)]; omega
    · by_cases b : m = k
      · subst b
        rw [if_pos (by omega), if_neg (by omega), if_pos rfl, if_neg (by omega), if_pos rfl]; omega
      · by_cases c : m = k + 1
        · subst c
          rw [if_neg (by omega), if_pos rfl, if_pos rfl, if_neg (by omega), if_neg (by omega), show ((k + 1 : Nat) : Int) = (k : Int) + 1 by omega, Int.add_mul, Int.add_mul]
          omega
        · rw [if_neg (by omega), if_neg (by omega), if_neg (by omega), if_neg (by omega), if_neg (by omega), if_neg (by omega)]; omega

def vl (n : Nat) (p : List Int) : Nat := (((n * n * n : Nat) : Int) + 1 - dS p n).toNat
def vL (n : Nat) : List (List Int) → Nat
  | [] => 0
  | p :: r => vl n p + (n * n * n + 2) * vL n r

theorem vl_in {n : Nat} {p : List Int} (h : PmP n p) : vl n p < n * n * n + 2 ∧ ((vl n p : Nat) : Int) = ((n * n * n : Nat) : Int) + 1 - dS p n := by
  have := dS_in h n (Nat.le_refl _)
  have e : ((n * n * n : Nat) : Int) = (n : Int) * ((n : Int) * (n : Int)) := by rw [Int.natCast_mul, Int.natCast_mul, Int.mul_assoc]
  unfold vl
  omega

theorem vl_swap {n k : Nat} {p : List Int} (h : PmP n p) (hk : k + 1 < n) (hb : bgB p k = true) : vl n (swapAt p k) + 1 ≤ vl n p := by
  have a := (vl_in h).2
  have b := (vl_in (swap_pm h hk)).2
  rw [dS_swap h hk n, if_neg (by omega), if_neg (by omega)] at b
  unfold bgB at hb
  rw [decide_eq_true_eq] at hb
  omega

theorem vL_stp {n k : Nat} (hk : k + 1 < n) : ∀ (i : Nat) (L : List (List Int)), okL n L → i + 1 < L.length → tst L i k = true → vL n (stp L i k) < vL n L
  | 0, a :: b :: r, hL, _, ht => by
    have A : PmP n a := hL 0 (by simp)
    have B : PmP n b := hL 1 (by simp)
    have hb : bgB b k = true := (tst_iff.1 ht).1
    show vl n (vsw a k) + _ * (vl n (swapAt b k) + _ * vL n r) < vl n a + _ * (vl n b + _ * vL n r)
    have c := (vl_in (vsw_pm A hk)).1
    have d := vl_swap B hk hb
    generalize (n * n * n + 2) * vL n r = R
    have := Nat.mul_le_mul_left (n * n * n + 2) (show vl n (swapAt b k) + R + 1 ≤ vl n b + R by omega)
    rw [Nat.mul_add, Nat.mul_one] at this
    omega
  | i + 1, a :: r, hL, hi, ht => by
    have : vL n (stp r i k) < vL n r := vL_stp hk i r (fun j hj => hL (j + 1) (by simp; omega)) (by simpa using hi) ht
    show vl n a + _ * vL n (stp r i k) < vl n a + _ * vL n r
    have := Nat.mul_lt_mul_of_pos_left this (show 0 < n * n * n + 2 by omega)
    omega
  | 0, [], _, hi, _ => by simp at hi
  | 0, [_], _, hi, _ => by simp at hi
  | _ + 1, [], _, hi, _ => by simp at hi

theorem nrm_end {n : Nat} {A B : List (List Int)} (h : Rch n A B) (hA : Nrm n A) : B = A := by
  cases h with
  | rfl => rfl
  | st hi hk ht _ => rw [hA _ _ hi hk] at ht; cases ht

/-- The first place and letter that slide. -/
def fstS (n : Nat) (L : List (List Int)) : Option (Nat × Nat) := ((List.range L.length).flatMap fun i => (List.range n).map fun k => (i, k)).find? fun x => decide (x.1 + 1 < L.length) && decide (x.2 + 1 < n) && tst L x.1 x.2

theorem fstS_none {n : Nat} {L : List (List Int)} (h : fstS n L = none) : Nrm n L := fun i k hi hk => by
  have := List.find?_eq_none.1 h (i, k) (List.mem_flatMap.2 ⟨i, List.mem_range.2 (by omega), List.mem_map.2 ⟨k, List.mem_range.2 (by omega), rfl⟩⟩)
  simpa [hi, hk] using this

theorem fstS_some {n : Nat} {L : List (List Int)} {x : Nat × Nat} (h : fstS n L = some x) : x.1 + 1 < L.length ∧ x.2 + 1 < n ∧ tst L x.1 x.2 = true := by
  have := List.find?_some h
  simp only [Bool.and_eq_true, decide_eq_true_eq] at this
  exact ⟨this.1.1, this.1.2, this.2⟩

def nfN (n : Nat) : Nat → List (List Int) → List (List Int)
  | 0, L => L
  | f + 1, L => match fstS n L with
    | none => L
    | some x => nfN n f (stp L x.1 x.2)
/-- The list when no letter slides any more. -/
def nfL (n : Nat) (L : List (List Int)) : List (List Int) := nfN n (vL n L + 1) L

theorem nfN_ok {n : Nat} : ∀ (f : Nat) (L : List (List Int)), okL n L → vL n L < f → Rch n L (nfN n f L) ∧ Nrm n (nfN n f L)
  | 0, _, _, h => by omega
  | f + 1, L, hL, h => by
    rw [nfN]
    split
    · rename_i e; exact ⟨.rfl _, fstS_none e⟩
    · rename_i x e
      obtain ⟨a, b, c⟩ := fstS_some e
      have := nfN_ok f (stp L x.1 x.2) (stp_ok hL a b) (by have := vL_stp b x.1 L hL a c; omega)
      exact ⟨.st a b c this.1, this.2⟩

theorem nfL_ok {n : Nat} {L : List (List Int)} (h : okL n L) : Rch n L (nfL n L) ∧ Nrm n (nfL n L) := nfN_ok _ L h (by omega)

/-- There is one end only. -/
theorem nf_one {n : Nat} : ∀ (f : Nat) (L : List (List Int)), vL n L < f → okL n L → ∀ A B, Rch n L A → Rch n L B → Nrm n A → Nrm n B → A = B
  | 0, _, h, _, _, _, _, _, _, _ => by omega
  | f + 1, L, h, hL, A, B, hA, hB, nA, nB => by
    cases hA with
    | rfl => exact (nrm_end hB nA).symm
    | st i1 k1 t1 r1 =>
      cases hB with
      | rfl => rw [nB _ _ i1 k1] at t1; cases t1
      | st i2 k2 t2 r2 =>
        obtain ⟨M, m1, m2⟩ := loc hL i1 i2 k1 k2 t1 t2
        have o1 := stp_ok hL i1 k1
        have o2 := stp_ok hL i2 k2
        have v1 := vL_stp k1 _ L hL i1 t1
        have v2 := vL_stp k2 _ L hL i2 t2
        obtain ⟨c1, c2⟩ := nfL_ok (m1.ok o1).1
        have e1 := nf_one f _ (by omega) o1 A _ r1 (m1.trans c1) nA c2
        have e2 := nf_one f _ (by omega) o2 B _ r2 (m2.trans c1) nB c2
        rw [e1, e2]

theorem nf_eq {n : Nat} {L A : List (List Int)} (h : okL n L) (hA : Rch n L A) (nA : Nrm n A) : A = nfL n L := nf_one _ L (Nat.lt_succ_self _) h A _ hA (nfL_ok h).1 nA (nfL_ok h).2

theorem nf_rch {n : Nat} {L A : List (List Int)} (h : okL n L) (hA : Rch n L A) : nfL n A = nfL n L := by
  have := nfL_ok (hA.ok h).1
  exact nf_eq h (hA.trans this.1) this.2

end Go.Sx
end

section
open Go Go.Proofs
namespace Go.Sx
set_option linter.unusedSimpArgs false
set_option linter.unusedVariables false

theorem unit_len (n : Nat) : (unitL n).length = n := by simp [unitL, tab_length]
theorem unit_get {n i : Nat} (h : i < n) : (unitL n).getD i 0 = (i : Int) := by rw [unitL, tab_getD _ _ _ h]
theorem unit_pm (n : Nat) : PmP n (unitL n) := ⟨unit_len n, fun i hi => by rw [unit_get hi]; omega, fun i j hi hj e => by rw [unit_get hi, unit_get hj] at e; omega⟩

def halfL (n : Nat) : List Int := tab n fun i => (n : Int) - 1 - (i : Int)
theorem half_len (n : Nat) : (halfL n).length = n := tab_length _ _
theorem half_get {n i : Nat} (h : i < n) : (halfL n).getD i 0 = (n : Int) - 1 - (i : Int) := by rw [halfL, tab_getD _ _ _ h]
theorem half_pm (n : Nat) : PmP n (halfL n) := ⟨half_len n, fun i hi => by rw [half_get hi]; omega, fun i j hi hj e => by rw [half_get hi, half_get hj] at e; omega⟩
theorem half_rev (n : Nat) : (unitL n).reverse = halfL n := by
  refine list_ext (by rw [List.length_reverse, unit_len, half_len]) fun i hi => ?_
  rw [List.length_reverse, unit_len] at hi
  rw [half_get hi, show (unitL n).reverse.getD i 0 = (unitL n).getD (n - 1 - i) 0 by simp [List.getD_eq_getElem?_getD, List.getElem?_reverse (show i < (unitL n).length by rw [unit_len]; exact hi), unit_len], unit_get (by omega)]
  omega

/-- The half twist turns a permutation braid. -/
def turnL (p : List Int) : List Int := tab p.length fun i => (p.length : Int) - 1 - p.getD (p.length - 1 - i) 0
theorem turn_get {n : Nat} {p : List Int} (h : PmP n p) {i : Nat} (hi : i < n) : (turnL p).getD i 0 = (n : Int) - 1 - p.getD (n - 1 - i) 0 := by
  rw [turnL, h.len, tab_getD _ _ _ hi]
theorem turn_pm {n : Nat} {p : List Int} (h : PmP n p) : PmP n (turnL p) := by
  refine ⟨by rw [turnL, tab_length, h.len], fun i hi => ?_, fun i j hi hj e => ?_⟩
  · have := h.rng (n - 1 - i) (by omega)
    rw [turn_get h hi]; omega
  · rw [turn_get h hi, turn_get h hj] at e
    have := h.inj (n - 1 - i) (n - 1 - j) (by omega) (by omega) (by omega)
    omega

def stepP (n k : Nat) : List Int := swapAt (unitL n) k

def facN (n : Nat) (w : List Int) : Nat → List (List Int)
  | 0 => []
  | i + 1 => if 0 < w.getD i 0 then facN n w i ++ [stepP n (plc (w.getD i 0)).toNat] else (facN n w i).map turnL ++ [vsw (halfL n) (plc (w.getD i 0)).toNat]
def expN (w : List Int) : Nat → Int
  | 0 => 0
  | i + 1 => if 0 < w.getD i 0 then expN w i else expN w i - 1

theorem expN_in (w : List Int) : ∀ i : Nat, -(i : Int) ≤ expN w i ∧ expN w i ≤ 0
  | 0 => ⟨by simp [expN], by simp [expN]⟩
  | i + 1 => by
    have := expN_in w i
    rw [expN]
    split <;> omega

theorem facN_len (n : Nat) (w : List Int) : ∀ i, (facN n w i).length = i
  | 0 => rfl
  | i + 1 => by
    have := facN_len n w i
    rw [facN]
    split <;> simp [this]

theorem okL_snoc {n : Nat} {L : List (List Int)} {p : List Int} (h : okL n L) (hp : PmP n p) : okL n (L ++ [p]) := fun i hi => by
  by_cases e : i < L.length
  · rw [getD_append_left' _ _ _ _ e]; exact h i e
  · have : i = L.length := by simp at hi; omega
    subst this
    rw [getD_append_right' _ _ _ _ (Nat.le_refl _), Nat.sub_self]; exact hp
theorem okL_map {n : Nat} {L : List (List Int)} {f : List Int → List Int} (h : okL n L) (hf : ∀ p, PmP n p → PmP n (f p)) : okL n (L.map f) := fun i hi => by
  rw [List.length_map] at hi
  rw [getD_map L f [] [] i hi]
  exact hf _ (h i hi)

theorem facN_ok {s : Int} {w : List Int} (hb : braidB s w = true) : ∀ i, i ≤ w.length → okL s.toNat (facN s.toNat w i)
  | 0, _ => fun i hi => by simp [facN] at hi
  | i + 1, hi => by
    have ih := facN_ok hb i (by omega)
    have hp := plc_in hb i (by omega)
    rw [facN]
    split
    · exact okL_snoc ih (swap_pm (unit_pm _) (by omega))
    · exact okL_snoc (okL_map ih fun p h => turn_pm h) (vsw_pm (half_pm _) (by omega))

/-- How many elements in front are h. -/
def ldH (h : List Int) : List (List Int) → Nat
  | [] => 0
  | p :: r => if p = h then ldH h r + 1 else 0
/-- How many elements stand ahead of the first u. -/
def ctU (u : List Int) : List (List Int) → Nat
  | [] => 0
  | p :: r => if p = u then 0 else ctU u r + 1

theorem ldH_le (h : List Int) : ∀ L, ldH h L ≤ L.length
  | [] => Nat.le_refl _
  | p :: r => by
    have := ldH_le h r
    rw [ldH, List.length_cons]
    split <;> omega
theorem ctU_le (h : List Int) : ∀ L, ctU h L ≤ L.length
  | [] => Nat.le_refl _
  | p :: r => by
    have := ctU_le h r
    rw [ctU, List.length_cons]
    split <;> omega

theorem ldH_iff (h : List Int) : ∀ (L : List (List Int)) (j : Nat), (∀ i, i < j → L.getD i [] = h) → j ≤ L.length → (j < ldH h L ↔ j < L.length ∧ L.getD j [] = h)
  | [], j, _, hj => by simp at hj; subst hj; simp [ldH]
  | p :: r, 0, _, _ => by
    rw [ldH]
    by_cases e : p = h
    · simp [e]
    · simp [e]
  | p :: r, j + 1, hi, hj => by
    have h0 : p = h := hi 0 (by omega)
    have := ldH_iff h r j (fun i hi2 => hi (i + 1) (by omega)) (by simpa using hj)
    rw [ldH, if_pos h0]
    show j + 1 < ldH h r + 1 ↔ j + 1 < r.length + 1 ∧ r.getD j [] = h
    rw [Nat.add_lt_add_iff_right, Nat.add_lt_add_iff_right]; exact this

/-- In a list where nothing slides, behind an identity stand identities alone. -/
theorem unit_next {n : Nat} {L : List (List Int)} (hL : okL n L) (hN : Nrm n L) {i : Nat} (hi : i + 1 < L.length) (h : L.getD i [] = unitL n) : L.getD (i + 1) [] = unitL n := by
  have P := hL (i + 1) hi
  have bu : backL (unitL n) = unitL n := back_eq (unit_pm n) (unit_len n) fun i hi => by rw [unit_get hi, Int.toNat_natCast, unit_get hi]
  have inc : incB (L.getD (i + 1) []) = true := by
    have key : ∀ j k, n - k ≤ j → incB ((L.getD (i + 1) []).drop k) = true := fun j => by
      induction j with
      | zero => intro k hk; exact incB_short _ _ (by rw [P.len]; omega)
      | succ j ih =>
        intro k hk
        by_cases e : k + 1 < n
        · rw [incB_drop _ _ (by rw [P.len]; exact e), ih (k + 1) (by omega), Bool.and_true, decide_eq_true_eq]
          have t := hN i k hi e
          have eu : edB (L.getD i []) k = false := by
            rw [h, edB, bu, bgB, unit_get e, unit_get (show k < n by omega), decide_eq_false_iff_not]; omega
          rw [tst, eu, Bool.not_false, Bool.and_true, bgB, decide_eq_false_iff_not] at t
          have : (L.getD (i + 1) []).getD k 0 ≠ (L.getD (i + 1) []).getD (k + 1) 0 := fun hc => by have := P.inj _ _ (by omega) e hc; omega
          omega
        · exact incB_short _ _ (by rw [P.len]; omega)
    have := key n 0 (by omega)
    rwa [List.drop_zero] at this
  have r : rngB ((L.getD (i + 1) []).length : Int) (L.getD (i + 1) []) := fun x hx => by
    obtain ⟨j, hj, rfl⟩ := List.getElem_of_mem hx
    have := P.rng j (by have := P.len; omega)
    rw [getD_lt _ 0 j hj] at this
    rw [P.len]; exact this
  rw [inc_unit r, decide_eq_true_eq, P.len] at inc
  exact inc

theorem unit_all {n : Nat} {L : List (List Int)} (hL : okL n L) (hN : Nrm n L) {i : Nat} (h : L.getD i [] = unitL n) : ∀ d, i + d < L.length → L.getD (i + d) [] = unitL n
  | 0, _ => h
  | d + 1, hd => unit_next hL hN (i := i + d) hd (unit_all hL hN h d (by omega))

theorem ctU_spec (u : List Int) : ∀ (L : List (List Int)), (∀ i, i < ctU u L → L.getD i [] ≠ u) ∧ (ctU u L < L.length → L.getD (ctU u L) [] = u)
  | [] => ⟨fun i hi => by simp [ctU] at hi, fun hi => by simp [ctU] at hi⟩
  | p :: r => by
    obtain ⟨a, b⟩ := ctU_spec u r
    by_cases e : p = u
    · rw [ctU, if_pos e]
      exact ⟨fun i hi => by omega, fun _ => e⟩
    · rw [ctU, if_neg e]
      refine ⟨fun i hi => ?_, fun hi => b (by simpa using hi)⟩
      cases i with
      | zero => exact e
      | succ i => exact a i (by omega)

/-- The part behind the half twists, and of it what is no identity. -/
def nbN (s : Int) (w : List Int) : List (List Int) := nfL s.toNat (facN s.toNat w w.length)
def nbJ (s : Int) (w : List Int) : Nat := ldH (halfL s.toNat) (nbN s w)
def nbR (s : Int) (w : List Int) : List (List Int) := (nbN s w).drop (nbJ s w)
def nbC (s : Int) (w : List Int) : Nat := ctU (unitL s.toNat) (nbR s w)
def nbE (s : Int) (w : List Int) : Int := expN w w.length + (nbJ s w : Int)

theorem nbN_ok {s : Int} {w : List Int} (hb : braidB s w = true) : okL s.toNat (nbN s w) ∧ Nrm s.toNat (nbN s w) ∧ (nbN s w).length = w.length := by
  have F := facN_ok hb w.length (Nat.le_refl _)
  obtain ⟨a, b⟩ := nfL_ok F
  obtain ⟨c, d⟩ := a.ok F
  exact ⟨c, b, by rw [nbN, d, facN_len]⟩

theorem nbR_get (s : Int) (w : List Int) (i : Nat) : (nbR s w).getD i [] = (nbN s w).getD (nbJ s w + i) [] := by
  rw [nbR]; exact drop_getD _ _ _ _
theorem nbR_len (s : Int) (w : List Int) : (nbR s w).length = (nbN s w).length - nbJ s w := by simp [nbR]

/-- From the first identity on, all are. -/
theorem nbR_tail {s : Int} {w : List Int} (hb : braidB s w = true) {i : Nat} (h1 : nbC s w ≤ i) (h2 : i < (nbR s w).length) : (nbR s w).getD i [] = unitL s.toNat := by
  obtain ⟨a, b, c⟩ := nbN_ok hb
  have l := nbR_len s w
  have u := (ctU_spec (unitL s.toNat) (nbR s w)).2 (show nbC s w < _ by omega)
  have u : (nbR s w).getD (nbC s w) [] = unitL s.toNat := u
  rw [nbR_get] at u ⊢
  have := unit_all a b u (i - nbC s w) (by omega)
  rwa [show nbJ s w + nbC s w + (i - nbC s w) = nbJ s w + i by omega] at this
theorem nbR_head {s : Int} {w : List Int} {i : Nat} (h : i < nbC s w) : (nbR s w).getD i [] ≠ unitL s.toNat := (ctU_spec (unitL s.toNat) (nbR s w)).1 i h

/-- What is left when the identities are struck. -/
theorem nb_filter {s : Int} {w : List Int} (hb : braidB s w = true) (p : List Int → Bool) (hp : ∀ q, PmP s.toNat q → p q = decide (q = unitL s.toNat)) : (nbR s w).filter (fun q => !p q) = (nbR s w).take (nbC s w) := by
  obtain ⟨a, b, c⟩ := nbN_ok hb
  have l := nbR_len s w
  have P : ∀ i, i < (nbR s w).length → PmP s.toNat ((nbR s w).getD i []) := fun i hi => by rw [nbR_get]; exact a _ (by omega)
  have e : nbR s w = (nbR s w).take (nbC s w) ++ (nbR s w).drop (nbC s w) := (List.take_append_drop _ _).symm
  conv => lhs; rw [e]
  rw [List.filter_append]
  have h1 : ((nbR s w).take (nbC s w)).filter (fun q => !p q) = (nbR s w).take (nbC s w) := List.filter_eq_self.2 fun q hq => by
    obtain ⟨i, hi, rfl⟩ := List.getElem_of_mem hq
    rw [List.length_take] at hi
    rw [List.getElem_take, ← getD_lt (nbR s w) [] i (by omega), hp _ (P i (by omega)), decide_eq_false (nbR_head (by omega))]; rfl
  have h2 : ((nbR s w).drop (nbC s w)).filter (fun q => !p q) = [] := List.filter_eq_nil_iff.2 fun q hq => by
    obtain ⟨i, hi, rfl⟩ := List.getElem_of_mem hq
    rw [List.length_drop] at hi
    rw [List.getElem_drop, ← getD_lt (nbR s w) [] (nbC s w + i) (by omega), hp _ (P _ (by omega)), decide_eq_true (nbR_tail hb (by omega) (by omega))]
    decide
  rw [h1, h2, List.append_nil]

end Go.Sx
end
