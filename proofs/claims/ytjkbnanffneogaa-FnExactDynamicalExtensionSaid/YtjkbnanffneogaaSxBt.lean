/- Trees of own slices: paths, parts, other parts. -/
import Derived.Test.YtjkbnanffneogaaSxB
namespace Go.Sx
open Go.RowKit

/-- A list of lists with another element. -/
def putEl : FC → Nat → FC → Option FC
  | .rows k l, i, .ints k' x => if k = k' then some (.rows k (l.set i x)) else none
  | .r3 k l, i, .rows k' x => if k = k' then some (.r3 k (l.set i x)) else none
  | .r4 k l, i, .r3 k' x => if k = k' then some (.r4 k (l.set i x)) else none
  | _, _, _ => none

/-- The data behind a path. -/
def atP : FC → List Nat → Option FC
  | d, [] => some d
  | d, i :: p => match elD d i with
    | some x => atP x p
    | none => none

/-- Other data behind a path. -/
def putP : FC → List Nat → FC → Option FC
  | _, [], x => some x
  | d, i :: p, x => match elD d i with
    | some y => match putP y p x with
      | some y' => putEl d i y'
      | none => none
    | none => none

/-- Another node behind a path. -/
def ndSet : Value → List Nat → Value → Value
  | _, [], u' => u'
  | nd, i :: p, u' => match (ndKs nd)[i]? with
    | some u => mkNd (ndHd nd) ((ndKs nd).set i (ndSet u p u'))
    | none => nd

/-- The same types, written out. -/
def eqNs : List Nat → List Nat → Bool
  | [], [] => true
  | a :: l, b :: m => Nat.beq a b && eqNs l m
  | _, _ => false

theorem eqNs_ok : ∀ {l m : List Nat}, eqNs l m = true → l = m
  | [], [], _ => rfl
  | [], _ :: _, h => by simp [eqNs] at h
  | _ :: _, [], h => by simp [eqNs] at h
  | a :: l, b :: m, h => by
    simp only [eqNs, Bool.and_eq_true] at h
    rw [Nat.eq_of_beq_eq_true h.1, eqNs_ok h.2]

theorem kids_len {w : World} {e e2 : TypeId} {es : List TypeId} {nd : Value} {d : FC} (h : OwnT w (e :: e2 :: es) nd d) : (ndKs nd).length = d.len := by
  have := h.2.2.1.1
  simpa using this

theorem OwnT.at {w : World} : ∀ {p : List Nat} {es : List TypeId} {nd u : Value} {d : FC}, OwnT w es nd d → ndAt nd p = some u →
    ∃ x, atP d p = some x ∧ OwnT w (es.drop p.length) u x ∧ ∀ b ∈ bks (es.drop p.length).length u, b ∈ bks es.length nd
  | [], es, nd, u, d, h, hu => by
    cases hu
    exact ⟨d, rfl, h, fun b hb => hb⟩
  | i :: p, [], nd, u, d, h, hu => False.elim h
  | i :: p, [e], nd, u, d, h, hu => by
    simp only [ndAt, leaf_ks h.1] at hu
    simp at hu
  | i :: p, e :: e2 :: es, nd, u, d, ⟨h1, h2, h3, h4⟩, hu => by
    simp only [ndAt] at hu
    split at hu
    · rename_i v hv
      obtain ⟨x0, hx0, _⟩ := elD_some h2 i
      obtain ⟨x, k1, k2, k3⟩ := OwnT.at (p := p) (es := e2 :: es) (h4 i v x0 hv hx0) hu
      refine ⟨x, by simp only [atP, hx0]; exact k1, k2, fun b hb => mem_bks.2 (.inr ⟨v, List.mem_of_getElem? hv, k3 b hb⟩)⟩
    · cases hu

theorem putEl_dep {d d' x : FC} {i : Nat} (h : putEl d i x = some d') : d'.dep = d.dep ∧ d'.len = d.len := by
  cases d <;> cases x <;> simp only [putEl, reduceCtorEq] at h
  all_goals
    split at h
    · cases h; exact ⟨rfl, by simp [FC.len]⟩
    · cases h

theorem putEl_el {d d' x : FC} {i j : Nat} (h : putEl d i x = some d') : (j = i → i < d.len → elD d' j = some x) ∧ (j ≠ i → elD d' j = elD d j) := by
  cases d <;> cases x <;> simp only [putEl, reduceCtorEq] at h
  all_goals
    split at h
    · rename_i hk
      subst hk
      cases h
      refine ⟨fun e hi => ?_, fun e => ?_⟩
      · subst e
        change j < List.length _ at hi
        simp [elD, List.getD, hi]
      · simp [elD, List.getD, List.getElem?_set_ne (Ne.symm e)]
    · cases h

theorem nodup_set {α : Type} {f : α → List Nat} {A : List Nat} {l : List α} {i : Nat} {v v' : α} (h : (A ++ l.flatMap f).Nodup) (hi : l[i]? = some v) (h1 : (f v').Nodup) (h2 : ∀ b ∈ f v', b ∈ f v ∨ b ∉ A ++ l.flatMap f) :
    (A ++ (l.set i v').flatMap f).Nodup ∧ (∀ b ∈ (l.set i v').flatMap f, b ∈ l.flatMap f ∨ b ∈ f v') ∧ (∀ b ∈ A, b ∉ f v) ∧ ∀ (j : Nat) (y : α), j ≠ i → l[j]? = some y → ∀ b ∈ f y, b ∉ f v := by
  obtain ⟨hlt, hv⟩ := List.getElem?_eq_some_iff.1 hi
  have e1 : l = l.take i ++ v :: l.drop (i + 1) := by rw [← hv]; simp
  have e2 : l.set i v' = l.take i ++ v' :: l.drop (i + 1) := List.set_eq_take_append_cons_drop.trans (if_pos hlt)
  have sep : ∀ (j : Nat) (y : α), j ≠ i → l[j]? = some y → y ∈ l.take i ∨ y ∈ l.drop (i + 1) := fun j y hj hy => by
    by_cases hji : j < i
    · exact .inl (List.mem_of_getElem? (i := j) (by rw [List.getElem?_take, if_pos hji]; exact hy))
    · exact .inr (List.mem_of_getElem? (i := j - (i + 1)) (by rw [List.getElem?_drop, show i + 1 + (j - (i + 1)) = j by omega]; exact hy))
  rw [e2]
  have h2' : ∀ b ∈ f v', b ∈ f v ∨ b ∉ A ++ (l.take i ++ v :: l.drop (i + 1)).flatMap f := fun b hb => by rw [← e1]; exact h2 b hb
  have h3 : (A ++ (l.take i ++ v :: l.drop (i + 1)).flatMap f).Nodup := by rw [← e1]; exact h
  have h4 : ∀ b, b ∈ (l.take i ++ v :: l.drop (i + 1)).flatMap f → b ∈ l.flatMap f := fun b hb => by rw [e1]; exact hb
  clear h h2 e1 e2 hi hv
  generalize l.take i = l1 at *
  generalize l.drop (i + 1) = l2 at *
  simp only [List.flatMap_append, List.flatMap_cons, List.nodup_append, List.mem_append] at h2' h3 h4 ⊢
  obtain ⟨a1, ⟨a2, ⟨a3, a4, a5⟩, a6⟩, a7⟩ := h3
  refine ⟨⟨a1, ⟨a2, ⟨h1, a4, fun b hb c hc e => ?_⟩, fun b hb c hc e => ?_⟩, fun b hb c hc e => ?_⟩, fun b hb => ?_, fun b hb hc => a7 b hb b (.inr (.inl hc)) rfl, fun j y hj hy b hb hc => ?_⟩
  · subst e
    rcases h2' b hb with k | k
    · exact a5 b k b hc rfl
    · exact k (.inr (.inr (.inr hc)))
  · subst e
    rcases hc with hc | hc
    · rcases h2' b hc with k | k
      · exact a6 b hb b (.inl k) rfl
      · exact k (.inr (.inl hb))
    · exact a6 b hb b (.inr hc) rfl
  · subst e
    rcases hc with hc | hc | hc
    · exact a7 b hb b (.inl hc) rfl
    · rcases h2' b hc with k | k
      · exact a7 b hb b (.inr (.inl k)) rfl
      · exact k (.inl hb)
    · exact a7 b hb b (.inr (.inr hc)) rfl
  · rcases hb with hb | hb | hb
    · exact .inl (h4 b (.inl hb))
    · exact .inr hb
    · exact .inl (h4 b (.inr (.inr hb)))
  · rcases sep j y hj hy with k | k
    · exact a6 b (List.mem_flatMap.2 ⟨y, k, hb⟩) b (.inl hc) rfl
    · exact a5 b hc b (List.mem_flatMap.2 ⟨y, k, hb⟩) rfl

/-- Another part behind a path, in a later world. -/
theorem own_set {w w' : World} : ∀ {p : List Nat} {es : List TypeId} {nd u u' : Value} {d x' d' : FC}, OwnT w es nd d → (bks es.length nd).Nodup → ndAt nd p = some u → putP d p x' = some d' → ndHd u' = ndHd u →
    (∀ b ∈ bks es.length nd, b ∉ bks (es.drop p.length).length u → w'.heap[b]? = w.heap[b]?) → OwnT w' (es.drop p.length) u' x' → (bks (es.drop p.length).length u').Nodup →
    (∀ b ∈ bks (es.drop p.length).length u', b ∈ bks (es.drop p.length).length u ∨ b ∉ bks es.length nd) →
    OwnT w' es (ndSet nd p u') d' ∧ ndHd (ndSet nd p u') = ndHd nd ∧ (bks es.length (ndSet nd p u')).Nodup ∧ ∀ b ∈ bks es.length (ndSet nd p u'), b ∈ bks es.length nd ∨ b ∈ bks (es.drop p.length).length u'
  | [], es, nd, u, u', d, x', d', h, hn, hu, hp, hh, hk, ho, hn', hb => by
    cases hu; cases hp
    exact ⟨ho, hh, hn', fun b hb => .inr hb⟩
  | i :: p, [], nd, u, u', d, x', d', h, hn, hu, hp, hh, hk, ho, hn', hb => False.elim h
  | i :: p, [e], nd, u, u', d, x', d', h, hn, hu, hp, hh, hk, ho, hn', hb => by
    simp only [ndAt, leaf_ks h.1] at hu
    simp at hu
  | i :: p, e :: e2 :: es, nd, u, u', d, x', d', h, hn, hu, hp, hh, hk, ho, hn', hb => by
    have hl := kids_len h
    obtain ⟨h1, h2, h3, h4⟩ := h
    simp only [ndAt] at hu
    split at hu
    · rename_i v hv
      obtain ⟨x0, hx0, _⟩ := elD_some h2 i
      simp only [putP, hx0] at hp
      split at hp
      · rename_i y' hy'
        have hv0 := h4 i v x0 hv hx0
        have sub : ∀ b ∈ bks (e2 :: es).length v, b ∈ bks (e :: e2 :: es).length nd := fun b hb => mem_bks.2 (.inr ⟨v, List.mem_of_getElem? hv, hb⟩)
        obtain ⟨_, _, _, subu⟩ := OwnT.at hv0 hu
        have hn0 : ((hdBlock (ndHd nd)).toList ++ (ndKs nd).flatMap (bks (e2 :: es).length)).Nodup := by
          have := hn
          rw [List.length_cons, bks_succ] at this
          exact this
        have hnv : (bks (e2 :: es).length v).Nodup := by
          have h9 := (List.nodup_append.1 hn0).2.1
          have h8 := List.pairwise_flatMap.1 h9
          exact h8.1 v (List.mem_of_getElem? hv)
        obtain ⟨k1, k2, k3, k4⟩ := own_set (p := p) (es := e2 :: es) hv0 hnv hu hy' hh (fun b hb hn => hk b (sub b hb) hn) ho hn' (fun b hb1 => (hb b hb1).imp id fun hc hc2 => hc (sub b hc2))
        have fresh : ∀ b ∈ bks (e2 :: es).length (ndSet v p u'), b ∈ bks (e2 :: es).length v ∨ b ∉ (hdBlock (ndHd nd)).toList ++ (ndKs nd).flatMap (bks (e2 :: es).length) := fun b hb1 => by
          rcases k4 b hb1 with c | c
          · exact .inl c
          · rcases hb b c with c | c
            · exact .inl (subu b c)
            · refine .inr fun hc => c ?_
              rw [List.length_cons, bks_succ]
              exact hc
        obtain ⟨n1, n2, n3, n4⟩ := nodup_set hn0 hv k3 fresh
        have hil : i < d.len := by rw [← hl]; exact (List.getElem?_eq_some_iff.1 hv).1
        obtain ⟨p1, p2⟩ := putEl_dep hp
        have hmap : ((ndKs nd).set i (ndSet v p u')).map ndHd = (ndKs nd).map ndHd := by
          rw [List.map_set, k2]
          apply List.ext_getElem?
          intro x
          rw [List.getElem?_set]
          split
          · rename_i hx
            subst hx
            rw [if_pos (by rw [List.length_map]; exact (List.getElem?_eq_some_iff.1 hv).1), List.getElem?_map, hv]; rfl
          · rfl
        have hset : ndSet nd (i :: p) u' = mkNd (ndHd nd) ((ndKs nd).set i (ndSet v p u')) := by simp only [ndSet, hv]
        rw [hset]
        refine ⟨⟨rfl, p1.trans h2, ?_, fun j y x hj hx => ?_⟩, rfl, ?_, fun b hb1 => ?_⟩
        · rw [mkNd_hd, mkNd_ks, hmap, p2]
          exact ownsRow_keep h3 fun b hb1 => hk b (mem_bks.2 (.inl hb1)) fun hc => n3 b (by rw [hb1]; simp) (subu b hc)
        · rw [mkNd_ks, List.getElem?_set] at hj
          split at hj
          · rename_i hij
            subst hij
            split at hj
            · cases hj
              rw [(putEl_el hp).1 rfl hil] at hx
              cases hx
              exact k1
            · cases hj
          · rename_i hij
            rw [(putEl_el hp).2 (Ne.symm hij)] at hx
            exact (h4 j y x hj hx).keep fun b hb1 => hk b (mem_bks.2 (.inr ⟨y, List.mem_of_getElem? hj, hb1⟩)) fun hc => n4 j y (Ne.symm hij) hj b hb1 (subu b hc)
        · rw [List.length_cons, bks_succ]
          exact n1
        · rcases mem_bks.1 hb1 with c | c
          · exact .inl (mem_bks.2 (.inl c))
          · rcases n2 b (by rw [mkNd_ks] at c; exact List.mem_flatMap.2 c) with c | c
            · exact .inl (mem_bks.2 (.inr (List.mem_flatMap.1 c)))
            · rcases k4 b c with c | c
              · exact .inl (sub b c)
              · exact .inr c
      · cases hp
    · cases hu

end Go.Sx
