/- OrbI -/
import Derived.Test.YtbppifmljnnogaaGreatBetP
import Derived.Test.YtbppifmljnnogaaGreatBndC
open Go Go.Proofs
namespace Go.Sx
set_option linter.unusedSimpArgs false
set_option linter.unusedVariables false
def bfX (L : List (List Int)) (q : List Int) (k : Nat) : Int := (L.getD k []).getD (q.getD 0 0).toNat 0
def bfK (L : List (List Int)) (c : Int) (s : List Int × List Int) : Nat → List Int × List Int
  | 0 => s
  | k + 1 => if (bfK L c s k).1.getD (bfX L (bfK L c s k).2 k).toNat 0 < 0 then ((bfK L c s k).1.set (bfX L (bfK L c s k).2 k).toNat c, (bfK L c s k).2 ++ [bfX L (bfK L c s k).2 k]) else bfK L c s k
def bfI (L : List (List Int)) (c : Int) (s : List Int × List Int) : Nat → List Int × List Int
  | 0 => s
  | i + 1 => if (bfI L c s i).2 = [] then bfI L c s i else ((bfK L c (bfI L c s i) L.length).1, (bfK L c (bfI L c s i) L.length).2.drop 1)
def bf0 (l : List Int) (c : Int) (x : Nat) : List Int × List Int := (l.set x c, [(x : Int)])
def blN (L : List (List Int)) : Nat → List Int × Int
  | 0 => (List.replicate L.length (-1), 0)
  | x + 1 => if 0 ≤ (blN L x).1.getD x 0 then blN L x else ((bfI L (blN L x).2 (bf0 (blN L x).1 (blN L x).2 x) L.length).1, (blN L x).2 + 1)
def quN (L : List (List Int)) (x i : Nat) : List Int × List Int := bfI L (blN L x).2 (bf0 (blN L x).1 (blN L x).2 x) i
def ngN (l : List Int) : Nat → Nat := cN fun x => decide (l.getD x 0 < 0)
theorem cN_le (P : Nat → Bool) : ∀ Z, cN P Z ≤ Z
  | 0 => Nat.le_refl _
  | Z + 1 => by
    have := cN_le P Z
    simp only [cN]
    split <;> omega
theorem ngN_succ (l : List Int) (Z : Nat) : ngN l (Z + 1) = ngN l Z + (if l.getD Z 0 < 0 then 1 else 0) := by
  show (if decide (l.getD Z 0 < 0) = true then _ else _) = _
  by_cases h : l.getD Z 0 < 0
  · rw [if_pos (by simpa using h), if_pos h]; rfl
  · rw [if_neg (by simpa using h), if_neg h]; rfl
theorem ngN_set {l : List Int} {x : Nat} {c : Int} (hc : 0 ≤ c) (hx : x < l.length) (hn : l.getD x 0 < 0) : ∀ Z, ngN (l.set x c) Z + (if x < Z then 1 else 0) = ngN l Z
  | 0 => rfl
  | Z + 1 => by
    have ih := ngN_set hc hx hn Z
    rw [ngN_succ, ngN_succ]
    by_cases e : Z = x
    · subst e
      rw [if_neg (by omega)] at ih
      rw [if_neg (by rw [getD_set _ _ _ _ hx, if_pos rfl]; omega), if_pos (by omega), if_pos hn]
      omega
    · have g : (l.set x c).getD Z 0 = l.getD Z 0 := by simp only [List.getD_eq_getElem?_getD, List.getElem?_set_ne (Ne.symm e)]
      rw [g]
      by_cases h : x < Z
      · rw [if_pos h] at ih
        rw [if_pos (show x < Z + 1 by omega)]
        omega
      · rw [if_neg h] at ih
        rw [if_neg (show ¬ x < Z + 1 by omega)]
        omega
structure BfOk (L : List (List Int)) (c : Int) (a : Nat) (l0 : List Int) (s : List Int × List Int) : Prop where
  len : s.1.length = L.length
  rng : ∀ x, x < L.length → -1 ≤ s.1.getD x 0 ∧ s.1.getD x 0 ≤ c
  el : ∀ v ∈ s.2, 0 ≤ v ∧ v < (L.length : Int) ∧ s.1.getD v.toNat 0 = c
  cn : ∀ x, x < L.length → s.1.getD x 0 = l0.getD x 0 ∨ l0.getD x 0 < 0 ∧ s.1.getD x 0 = c ∧ Cn L a x
section
variable {L : List (List Int)} {c : Int} {a : Nat} {l0 : List Int}
theorem bfK_ok (ht : tabB L = true) (hc : 0 ≤ c) {s : List Int × List Int} (h : BfOk L c a l0 s) (hac : ∀ x, x < L.length → s.1.getD x 0 = c → Cn L a x) (hq : s.2 ≠ []) : ∀ k, k ≤ L.length →
    BfOk L c a l0 (bfK L c s k) ∧ (∃ r, (bfK L c s k).2 = s.2 ++ r) ∧ (bfK L c s k).2.getD 0 0 = s.2.getD 0 0 ∧ ngN (bfK L c s k).1 L.length + (bfK L c s k).2.length = ngN s.1 L.length + s.2.length ∧
      (∀ x, x < L.length → 0 ≤ s.1.getD x 0 → (bfK L c s k).1.getD x 0 = s.1.getD x 0) ∧
      (∀ x, x < L.length → (bfK L c s k).1.getD x 0 = c → s.1.getD x 0 = c ∨ (x : Int) ∈ (bfK L c s k).2) ∧
      (∀ x, x < L.length → (bfK L c s k).1.getD x 0 = c → Cn L a x) ∧
      ∀ j, j < k → 0 ≤ (bfK L c s k).1.getD (bfX L s.2 j).toNat 0
  | 0, _ => ⟨h, ⟨[], by simp [bfK]⟩, rfl, rfl, fun _ _ _ => rfl, fun _ _ h => .inl h, hac, fun j hj => by omega⟩
  | k + 1, hk => by
    obtain ⟨i1, ⟨r, i2⟩, i3, i4, i5, i6, i7, i8⟩ := bfK_ok ht hc h hac hq k (by omega)
    have hl : 0 < s.2.length := List.length_pos_iff.2 hq
    have hd := h.el _ (getD_mem s.2 0 0 hl)
    have xe : bfX L (bfK L c s k).2 k = bfX L s.2 k := by unfold bfX; rw [i3]
    have en0 : bfX L s.2 k = en L k (s.2.getD 0 0).toNat := rfl
    have ev := en_lt ht (x := k) (y := (s.2.getD 0 0).toNat) (by omega) (by omega)
    rw [← en0] at ev
    have hcn : Cn L a (bfX L s.2 k).toNat := .tr (hac _ (by omega) hd.2.2) (.st (by omega) (by omega))
    rw [bfK, xe]
    generalize hx : bfX L s.2 k = x at *
    split
    · rename_i hn
      have g : ∀ y, y < L.length → ((bfK L c s k).1.set x.toNat c).getD y 0 = if y = x.toNat then c else (bfK L c s k).1.getD y 0 := fun y hy => getD_set _ _ _ _ (by rw [i1.len]; exact hy)
      have hq2 : 0 < (bfK L c s k).2.length := by rw [i2, List.length_append]; omega
      refine ⟨⟨by rw [List.length_set]; exact i1.len, fun y hy => ?_, fun v hv => ?_, fun y hy => ?_⟩, ⟨r ++ [x], by rw [i2, List.append_assoc]⟩, ?_, ?_, fun y hy h0 => ?_, fun y hy h0 => ?_, fun y hy h0 => ?_, fun j hj => ?_⟩
      · rw [g y hy]
        split
        · omega
        · exact i1.rng y hy
      · rcases List.mem_append.1 hv with hv | hv
        · have := i1.el v hv
          refine ⟨this.1, this.2.1, ?_⟩
          rw [g _ (by omega)]
          split
          · rfl
          · exact this.2.2
        · rw [List.mem_singleton] at hv
          subst hv
          exact ⟨by omega, by omega, by rw [g _ (by omega), if_pos rfl]⟩
      · rw [g y hy]
        split
        · rename_i e
          subst e
          rcases i1.cn _ hy with e | e
          · exact .inr ⟨by omega, rfl, hcn⟩
          · omega
        · exact i1.cn y hy
      · rw [getD_append_left' _ _ _ _ hq2]; exact i3
      · have := ngN_set hc (l := (bfK L c s k).1) (x := x.toNat) (by rw [i1.len]; omega) hn L.length
        rw [if_pos (by omega)] at this
        show ngN ((bfK L c s k).1.set x.toNat c) L.length + ((bfK L c s k).2 ++ [x]).length = _
        rw [List.length_append, List.length_singleton]
        omega
      · rw [g y hy]
        split
        · rename_i e
          subst e
          have := i5 _ hy h0
          omega
        · exact i5 y hy h0
      · rw [g y hy] at h0
        split at h0
        · rename_i e
          exact .inr (List.mem_append_right _ (by rw [List.mem_singleton]; omega))
        · rcases i6 y hy h0 with e | e
          · exact .inl e
          · exact .inr (List.mem_append_left _ e)
      · rw [g y hy] at h0
        split at h0
        · rename_i e; subst e; exact hcn
        · exact i7 y hy h0
      · by_cases e : j = k
        · subst e; rw [hx, g _ (by omega), if_pos rfl]; exact hc
        · have b := i8 j (by omega)
          have e2 := en_lt ht (x := j) (y := (s.2.getD 0 0).toNat) (by omega) (by omega)
          have : (bfX L s.2 j).toNat < L.length := e2.1
          rw [g _ this]
          split
          · exact hc
          · exact b
    · rename_i hn
      refine ⟨i1, ⟨r, i2⟩, i3, i4, i5, i6, i7, fun j hj => ?_⟩
      by_cases e : j = k
      · subst e; rw [hx]; omega
      · exact i8 j (by omega)
theorem bfI_ok (ht : tabB L = true) (hc : 0 ≤ c) {s : List Int × List Int} (h : BfOk L c a l0 s) (hac : ∀ x, x < L.length → s.1.getD x 0 = c → Cn L a x) (hs : ∀ x, x < L.length → s.1.getD x 0 = c → (x : Int) ∈ s.2) : ∀ i,
    BfOk L c a l0 (bfI L c s i) ∧ (∀ x, x < L.length → (bfI L c s i).1.getD x 0 = c → Cn L a x) ∧
      (∀ x, x < L.length → (bfI L c s i).1.getD x 0 = c → (x : Int) ∈ (bfI L c s i).2 ∨ ∀ j, j < L.length → 0 ≤ (bfI L c s i).1.getD (en L j x).toNat 0) ∧
      ((bfI L c s i).2 = [] ∨ ngN (bfI L c s i).1 L.length + (bfI L c s i).2.length + i = ngN s.1 L.length + s.2.length) ∧ ∀ x, x < L.length → 0 ≤ s.1.getD x 0 → (bfI L c s i).1.getD x 0 = s.1.getD x 0
  | 0 => ⟨h, hac, fun x hx e => .inl (hs x hx e), .inr rfl, fun _ _ _ => rfl⟩
  | i + 1 => by
    obtain ⟨j1, j2, j3, j4, j5⟩ := bfI_ok ht hc h hac hs i
    rw [bfI]
    split
    · rename_i e
      exact ⟨j1, j2, j3, .inl e, j5⟩
    · rename_i e
      obtain ⟨i1, ⟨r, i2⟩, i3, i4, i5, i6, i7, i8⟩ := bfK_ok ht hc j1 j2 e L.length (Nat.le_refl _)
      have hl : 0 < (bfI L c s i).2.length := List.length_pos_iff.2 e
      have hq : (bfK L c (bfI L c s i) L.length).2.length = (bfI L c s i).2.length + r.length := by rw [i2, List.length_append]
      have hm : ∀ v, v ∈ (bfK L c (bfI L c s i) L.length).2 → v ∈ (bfK L c (bfI L c s i) L.length).2.drop 1 ∨ v = (bfI L c s i).2.getD 0 0 := fun v hv => by
        obtain ⟨w, hw⟩ : ∃ w, (bfK L c (bfI L c s i) L.length).2 = (bfI L c s i).2.getD 0 0 :: w := by
          cases hb : (bfK L c (bfI L c s i) L.length).2 with
          | nil => rw [hb] at hq; simp at hq; omega
          | cons y w => rw [hb] at i3; exact ⟨w, by rw [← i3]; rfl⟩
        rw [hw] at hv ⊢
        rcases List.mem_cons.1 hv with hv | hv
        · exact .inr hv
        · exact .inl hv
      refine ⟨⟨i1.len, i1.rng, fun v hv => i1.el v (List.mem_of_mem_drop hv), i1.cn⟩, i7, fun x hx e2 => ?_, .inr ?_, fun x hx h0 => ?_⟩
      · have head : x = ((bfI L c s i).2.getD 0 0).toNat → ∀ j, j < L.length → 0 ≤ (bfK L c (bfI L c s i) L.length).1.getD (en L j x).toNat 0 := fun hxe j hj => by
          have := i8 j hj
          rwa [show bfX L (bfI L c s i).2 j = en L j x by rw [hxe]; rfl] at this
        rcases i6 x hx e2 with g | g
        · rcases j3 x hx g with w | w
          · rcases hm _ (by rw [i2]; exact List.mem_append_left _ w) with v | v
            · exact .inl v
            · exact .inr (head (by omega))
          · refine .inr fun j hj => ?_
            have := w j hj
            rw [i5 _ (en_lt ht hj hx).1 this]; exact this
        · rcases hm _ g with v | v
          · exact .inl v
          · exact .inr (head (by omega))
      · show ngN (bfK L c (bfI L c s i) L.length).1 L.length + ((bfK L c (bfI L c s i) L.length).2.drop 1).length + (i + 1) = _
        rw [List.length_drop]
        rcases j4 with j4 | j4
        · exact absurd j4 e
        · omega
      · have := j5 x hx h0
        rw [i5 x hx (by omega), this]
theorem bfI_end (ht : tabB L = true) (hc : 0 ≤ c) {s : List Int × List Int} (h : BfOk L c a l0 s) (hac : ∀ x, x < L.length → s.1.getD x 0 = c → Cn L a x) (hs : ∀ x, x < L.length → s.1.getD x 0 = c → (x : Int) ∈ s.2) (hn : ngN s.1 L.length + s.2.length ≤ L.length) : (bfI L c s L.length).2 = [] := by
  rcases (bfI_ok ht hc h hac hs L.length).2.2.2.1 with e | e
  · exact e
  · exact List.eq_nil_of_length_eq_zero (by omega)
theorem bfI_stop {s : List Int × List Int} {i : Nat} (h : (bfI L c s i).2 = []) : ∀ j, bfI L c s (i + j) = bfI L c s i
  | 0 => rfl
  | j + 1 => by
    have := bfI_stop h j
    show bfI L c s (i + j + 1) = _
    rw [bfI, this, if_pos h]
end
theorem pig {n : Nat} {f : Nat → Nat} {S : Nat → Prop} (hf : ∀ y, y < n → f y < n) (hs : ∀ y, y < n → S y → S (f y)) (hi : ∀ y z, y < n → z < n → f y = f z → y = z) {v : Nat} (hv : v < n) (h : S (f v)) : S v := by
  classical
  refine Classical.byContradiction fun hn => ?_
  have hl : ∀ y : Int, y ∈ (ints n).filter (fun y => decide (S y.toNat)) ↔ (0 ≤ y ∧ y < (n : Int)) ∧ S y.toNat := fun y => by rw [List.mem_filter, ints_mem]; simp
  have nd : ((ints n).filter (fun y => decide (S y.toNat))).Nodup := List.Pairwise.filter _ (ints_nodup n)
  generalize (ints n).filter (fun y => decide (S y.toNat)) = l at hl nd
  have hv2 : (v : Int) ∉ l := fun h => hn (by have := ((hl _).1 h).2; rwa [Int.toNat_natCast] at this)
  have nd2 : ((v : Int) :: l).Nodup := List.nodup_cons.2 ⟨hv2, nd⟩
  have rng : ∀ y, y ∈ (v : Int) :: l → 0 ≤ y ∧ y < (n : Int) := fun y hy => by
    rcases List.mem_cons.1 hy with e | e
    · subst e; omega
    · exact ((hl y).1 e).1
  have sf : ∀ y, y ∈ (v : Int) :: l → S (f y.toNat) := fun y hy => by
    rcases List.mem_cons.1 hy with e | e
    · subst e; rw [Int.toNat_natCast]; exact h
    · have := (hl y).1 e
      exact hs _ (by omega) this.2
  have := nodupLe (a := ((v : Int) :: l).map fun y => ((f y.toNat : Nat) : Int)) (b := l)
    (List.pairwise_map.2 (nd2.imp_of_mem fun {a b} ha hb hne he => by
      have ra := rng a ha
      have rb := rng b hb
      have := hi a.toNat b.toNat (by omega) (by omega) (by omega)
      omega))
    fun x hx => by
      obtain ⟨y, hy, rfl⟩ := List.mem_map.1 hx
      have r := rng y hy
      have := hf y.toNat (by omega)
      exact (hl _).2 ⟨by omega, by rw [Int.toNat_natCast]; exact sf y hy⟩
  rw [List.length_map, List.length_cons] at this
  omega
structure BlOk (L : List (List Int)) (x : Nat) (r : List Int × Int) : Prop where
  len : r.1.length = L.length
  lo : 0 ≤ r.2 ∧ r.2 ≤ (x : Int)
  rng : ∀ y, y < L.length → -1 ≤ r.1.getD y 0 ∧ r.1.getD y 0 ≤ r.2 - 1
  fil : ∀ y, y < x → y < L.length → 0 ≤ r.1.getD y 0
  cls : ∀ y, y < L.length → 0 ≤ r.1.getD y 0 → ∀ k, k < L.length → r.1.getD (en L k y).toNat 0 = r.1.getD y 0
  rep : ∀ c, 0 ≤ c → c < r.2 → ∃ u, u < L.length ∧ r.1.getD u 0 = c ∧ ∀ y, y < L.length → r.1.getD y 0 = c → Cn L u y
theorem rack_inj {L : List (List Int)} (hr : rackB L = true) {k y z : Nat} (hk : k < L.length) (hy : y < L.length) (hz : z < L.length) (h : (en L k y).toNat = (en L k z).toNat) : y = z := by
  have ht := rackB_tab hr
  have lk : (L.getD k []).length = L.length := by have := (tabB_of ht).2.2 k hk; omega
  have pk : permB (L.getD k []) = true := by
    unfold rackB at hr
    simp only [Bool.and_eq_true, List.all_eq_true] at hr
    exact hr.1.2 _ (getD_mem L [] k hk)
  simp only [permB, decide_eq_true_eq] at pk
  have e1 := en_lt ht hk hy
  have e2 := en_lt ht hk hz
  have nd := List.pairwise_iff_getElem.1 pk.2
  have eq : ∀ i (hi : i < (L.getD k []).length), (L.getD k []).getD i 0 = (L.getD k [])[i] := fun i hi => getD_lt _ 0 i hi
  have hh : (L.getD k []).getD y 0 = (L.getD k []).getD z 0 := by show en L k y = en L k z; omega
  rw [eq y (by omega), eq z (by omega)] at hh
  rcases Nat.lt_trichotomy y z with a | a | a
  · exact absurd hh (nd y z (by omega) (by omega) a)
  · exact a
  · exact absurd hh.symm (nd z y (by omega) (by omega) a)
theorem bf0_ok {L : List (List Int)} {x : Nat} {r : List Int × Int} (h : BlOk L x r) (hx : x < L.length) (hn : r.1.getD x 0 < 0) :
    BfOk L r.2 x r.1 (bf0 r.1 r.2 x) ∧ (∀ y, y < L.length → (bf0 r.1 r.2 x).1.getD y 0 = if y = x then r.2 else r.1.getD y 0) ∧ (∀ y, y < L.length → (bf0 r.1 r.2 x).1.getD y 0 = r.2 → Cn L x y) ∧
      (∀ y, y < L.length → (bf0 r.1 r.2 x).1.getD y 0 = r.2 → (y : Int) ∈ (bf0 r.1 r.2 x).2) ∧ ngN (bf0 r.1 r.2 x).1 L.length + (bf0 r.1 r.2 x).2.length ≤ L.length := by
  have hl := h.len
  have g : ∀ y, y < L.length → (bf0 r.1 r.2 x).1.getD y 0 = if y = x then r.2 else r.1.getD y 0 := fun y hy => getD_set _ _ _ _ (by omega)
  have only : ∀ y, y < L.length → (bf0 r.1 r.2 x).1.getD y 0 = r.2 → y = x := fun y hy e => by
    rw [g y hy] at e
    split at e
    · assumption
    · have := h.rng y hy; omega
  refine ⟨⟨by simp [bf0, hl], fun y hy => ?_, fun v hv => ?_, fun y hy => ?_⟩, g, fun y hy e => by rw [only y hy e]; exact .rfl _, fun y hy e => by rw [only y hy e]; simp [bf0], ?_⟩
  · rw [g y hy]
    have := h.rng y hy
    have := h.lo
    split <;> omega
  · have hv : v = (x : Int) := by simpa [bf0] using hv
    subst hv
    exact ⟨by omega, by omega, by rw [Int.toNat_natCast, g x hx, if_pos rfl]⟩
  · rw [g y hy]
    split
    · rename_i e; subst e; exact .inr ⟨hn, rfl, .rfl _⟩
    · exact .inl rfl
  · have := ngN_set h.lo.1 (l := r.1) (x := x) (by omega) hn L.length
    rw [if_pos hx] at this
    have c := cN_le (fun x => decide (r.1.getD x 0 < 0)) L.length
    show ngN (r.1.set x r.2) L.length + 1 ≤ _
    unfold ngN at *
    omega
theorem blN_ok {L : List (List Int)} (hr : rackB L = true) : ∀ x, x ≤ L.length → BlOk L x (blN L x)
  | 0, _ => by
    have g : ∀ y, y < L.length → (List.replicate L.length (-1 : Int)).getD y 0 = -1 := fun y hy => by simp [List.getD, hy]
    refine ⟨by simp [blN], by simp [blN], fun y hy => ?_, fun y hy => by omega, fun y hy h0 => ?_, fun c c0 c1 => ?_⟩
    · show -1 ≤ (List.replicate L.length (-1 : Int)).getD y 0 ∧ (List.replicate L.length (-1 : Int)).getD y 0 ≤ (0 : Int) - 1
      rw [g y hy]; omega
    · rw [show (blN L 0).1 = List.replicate L.length (-1) from rfl, g y hy] at h0; omega
    · rw [show (blN L 0).2 = 0 from rfl] at c1; omega
  | x + 1, hx => by
    have ht := rackB_tab hr
    have h := blN_ok hr x (by omega)
    rw [blN]
    split
    · rename_i h0
      exact ⟨h.len, by have := h.lo; omega, h.rng, fun y hy hl => by
        by_cases e : y = x
        · subst e; exact h0
        · exact h.fil y (by omega) hl, h.cls, h.rep⟩
    · rename_i h0
      have hn : (blN L x).1.getD x 0 < 0 := by omega
      obtain ⟨a1, g, a3, a4, a5⟩ := bf0_ok h (by omega) hn
      have hc := h.lo.1
      have E := bfI_end ht hc a1 a3 a4 a5
      obtain ⟨j1, j2, j3, _, j5⟩ := bfI_ok ht hc a1 a3 a4 L.length
      generalize blN L x = r at *
      generalize bfI L r.2 (bf0 r.1 r.2 x) L.length = s at *
      have old : ∀ y, y < L.length → 0 ≤ r.1.getD y 0 → s.1.getD y 0 = r.1.getD y 0 := fun y hy h1 => by
        rcases j1.cn y hy with e | e
        · exact e
        · omega
      have hxx : s.1.getD x 0 = r.2 := by rw [j5 x (by omega) (by rw [g x (by omega), if_pos rfl]; exact hc), g x (by omega), if_pos rfl]
      refine ⟨j1.len, ⟨by show 0 ≤ r.2 + 1; omega, by show r.2 + 1 ≤ ((x + 1 : Nat) : Int); have := h.lo; omega⟩, fun y hy => by show -1 ≤ s.1.getD y 0 ∧ s.1.getD y 0 ≤ r.2 + 1 - 1; have := j1.rng y hy; omega, fun y hy hl => ?_, fun y hy h1 k hk => ?_, fun c c0 c1 => ?_⟩
      · by_cases e : y = x
        · subst e; show 0 ≤ s.1.getD y 0; rw [hxx]; exact hc
        · have := h.fil y (by omega) hl
          show 0 ≤ s.1.getD y 0
          rw [old y hl this]; exact this
      · show s.1.getD (en L k y).toNat 0 = s.1.getD y 0
        have h1 : 0 ≤ s.1.getD y 0 := h1
        have zl := (en_lt ht hk hy).1
        rcases j1.cn y hy with e | ⟨e1, e2, e3⟩
        · rw [e] at h1
          have := h.cls y hy h1 k hk
          rw [old _ zl (by omega), this, e]
        · rcases j3 y hy e2 with w | w
          · rw [E] at w; simp at w
          · have w := w k hk
            rcases j1.cn _ zl with f | f
            · exfalso
              rw [f] at w
              have : r.1.getD y 0 = r.1.getD (en L k y).toNat 0 := pig (n := L.length) (f := fun z => (en L k z).toNat) (S := fun z => r.1.getD z 0 = r.1.getD (en L k y).toNat 0) (fun z hz => (en_lt ht hk hz).1)
                (fun z hz e => by rw [h.cls z hz (by omega) k hk]; exact e) (fun u v hu hv e => rack_inj hr hk hu hv e) hy rfl
              omega
            · rw [f.2.1, e2]
      · have c1 : c < r.2 + 1 := c1
        by_cases e : c = r.2
        · subst e
          exact ⟨x, by omega, hxx, j2⟩
        · obtain ⟨u, u1, u2, u3⟩ := h.rep c c0 (by omega)
          refine ⟨u, u1, by show s.1.getD u 0 = c; rw [old u u1 (by omega)]; exact u2, fun y hy e2 => ?_⟩
          have e2 : s.1.getD y 0 = c := e2
          rcases j1.cn y hy with f | f
          · exact u3 y hy (by omega)
          · omega
def lbF (L : List (List Int)) (x : Nat) : Nat := ((blN L L.length).1.getD x 0).toNat
theorem orbD {L : List (List Int)} (hr : rackB L = true) : ∃ rep, OrbD L (lbF L) (blN L L.length).2.toNat rep := by
  classical
  have ht := rackB_tab hr
  have h := blN_ok hr L.length (Nat.le_refl _)
  have ex : ∀ c : Nat, ∃ u, c < (blN L L.length).2.toNat → u < L.length ∧ (blN L L.length).1.getD u 0 = (c : Int) ∧ ∀ y, y < L.length → (blN L L.length).1.getD y 0 = (c : Int) → Cn L u y := fun c => by
    by_cases e : c < (blN L L.length).2.toNat
    · obtain ⟨u, hu⟩ := h.rep c (by omega) (by omega)
      exact ⟨u, fun _ => hu⟩
    · exact ⟨0, fun x => absurd x e⟩
  have lt : ∀ x, x < L.length → lbF L x < (blN L L.length).2.toNat := fun x hx => by
    have a := h.rng x hx
    have b := h.fil x hx hx
    unfold lbF; omega
  refine ⟨fun c => (ex c).choose, lt, fun x hx y hy => ?_, fun c hc => ?_, fun x hx => ?_⟩
  · unfold lbF; rw [h.cls y hy (h.fil y hy hy) x hx]
  · obtain ⟨a, b, _⟩ := (ex c).choose_spec hc
    exact ⟨a, by unfold lbF; rw [b]; rfl⟩
  · obtain ⟨_, _, c⟩ := (ex (lbF L x)).choose_spec (lt x hx)
    refine c x hx ?_
    have b := h.fil x hx hx
    unfold lbF; omega
def tpN (l : List Int) : Nat → Int
  | 0 => 0
  | i + 1 => if tpN l i ≤ l.getD i 0 then l.getD i 0 + 1 else tpN l i
theorem tpN_le {l : List Int} {m : Int} (h0 : 0 ≤ m) : ∀ i, (∀ x, x < i → l.getD x 0 ≤ m - 1) → 0 ≤ tpN l i ∧ tpN l i ≤ m ∧ ∀ x, x < i → l.getD x 0 + 1 ≤ tpN l i
  | 0, _ => ⟨Int.le_refl _, h0, fun x hx => by omega⟩
  | i + 1, h => by
    obtain ⟨a, b, c⟩ := tpN_le h0 i fun x hx => h x (by omega)
    have := h i (by omega)
    rw [tpN]
    split
    · refine ⟨by omega, by omega, fun x hx => ?_⟩
      by_cases e : x = i
      · subst e; omega
      · have := c x (by omega); omega
    · refine ⟨a, b, fun x hx => ?_⟩
      by_cases e : x = i
      · subst e; omega
      · exact c x (by omega)
theorem tp_bl {L : List (List Int)} (hr : rackB L = true) : tpN (blN L L.length).1 (blN L L.length).1.length = (blN L L.length).2 := by
  have h := blN_ok hr L.length (Nat.le_refl _)
  obtain ⟨a, b, c⟩ := tpN_le h.lo.1 L.length fun x hx => (h.rng x hx).2
  rw [h.len]
  by_cases e : (blN L L.length).2 = 0
  · omega
  · obtain ⟨u, u1, u2, _⟩ := h.rep ((blN L L.length).2 - 1) (by have := h.lo.1; omega) (by omega)
    have := c u u1
    omega
theorem qu_facts {L : List (List Int)} (hr : rackB L = true) {x : Nat} (hx : x < L.length) (hn : ¬ 0 ≤ (blN L x).1.getD x 0) (i : Nat) :
    (quN L x i).1.length = L.length ∧ (quN L x i).2.length ≤ L.length ∧ (quN L x L.length).2 = [] ∧ ∀ k, k ≤ L.length → (quN L x i).2 ≠ [] →
      (bfK L (blN L x).2 (quN L x i) k).1.length = L.length ∧ (bfK L (blN L x).2 (quN L x i) k).2.length ≤ L.length ∧ 0 < (bfK L (blN L x).2 (quN L x i) k).2.length ∧
      (0 ≤ (bfK L (blN L x).2 (quN L x i) k).2.getD 0 0 ∧ (bfK L (blN L x).2 (quN L x i) k).2.getD 0 0 < (L.length : Int)) := by
  have ht := rackB_tab hr
  have h := blN_ok hr x (by omega)
  have hc := h.lo.1
  obtain ⟨a1, g, a3, a4, a5⟩ := bf0_ok h hx (by omega)
  have E := bfI_end ht hc a1 a3 a4 a5
  obtain ⟨j1, j2, j3, j4, j5⟩ := bfI_ok ht hc a1 a3 a4 i
  have ln : (quN L x i).2.length ≤ L.length := by
    rcases j4 with e | e
    · show (bfI L _ _ i).2.length ≤ _
      rw [e]; simp
    · show (bfI L _ _ i).2.length ≤ _
      omega
  have nn : (quN L x i).2 = [] ∨ ngN (quN L x i).1 L.length + (quN L x i).2.length ≤ L.length := by
    rcases j4 with e | e
    · exact .inl e
    · right
      show ngN (bfI L _ _ i).1 L.length + (bfI L _ _ i).2.length ≤ _
      omega
  refine ⟨j1.len, ln, E, fun k hk hq => ?_⟩
  obtain ⟨i1, ⟨r, i2⟩, i3, i4, _, _, _, _⟩ := bfK_ok ht hc j1 j2 hq k hk
  have hl : 0 < (quN L x i).2.length := List.length_pos_iff.2 hq
  have hd := j1.el _ (getD_mem (quN L x i).2 0 0 hl)
  have l2 : (bfK L (blN L x).2 (quN L x i) k).2.length = (quN L x i).2.length + r.length := by
    have : (bfK L (blN L x).2 (quN L x i) k).2 = (quN L x i).2 ++ r := i2
    rw [this, List.length_append]
  have i3 : (bfK L (blN L x).2 (quN L x i) k).2.getD 0 0 = (quN L x i).2.getD 0 0 := i3
  have i4 : ngN (bfK L (blN L x).2 (quN L x i) k).1 L.length + (bfK L (blN L x).2 (quN L x i) k).2.length = ngN (quN L x i).1 L.length + (quN L x i).2.length := i4
  refine ⟨i1.len, ?_, by omega, by rw [i3]; exact ⟨hd.1, hd.2.1⟩⟩
  rcases nn with e | e
  · exact absurd e hq
  · omega
def orbitLabels_p (n : Int) (L : List (List Int)) : Post := ⟨rackB L = true ∧ n = (L.length : Int), .c (.ints 2 .i64 ((blN L L.length).1)), []⟩
def orbitLabels_ct : List AD → Option Post
  | [.c (.int .i64 (n)), .c (.rows .i64 (L))] => some (orbitLabels_p n L)
  | _ => none
def orbitLabels_ann (n : Int) (L : List (List Int)) : Nat → Option Ann
  | 0 => some (Ann.mk ((Nat)) (fun i => ⟨[(0, .c (.int .i64 (n))), (1, .c (.ro (.rows .i64 (L)))), (5, .c (.own (14))), (16, .c (.int .i64 ((L.length : Int)))), (17, .c (.int .i64 ((i : Int))))], [(14, some (.ints 2 .i64 (List.replicate i (-1) ++ List.replicate (L.length - i) 0)))]⟩) (fun i => i ≤ L.length) (fun i => L.length - i) (fun _ => noAnn))
  | 2 => some (Ann.mk ((Nat)) (fun x => ⟨[(0, .c (.int .i64 (n))), (1, .c (.ro (.rows .i64 (L)))), (5, .c (.own (14))), (7, .c (.int .i64 ((blN L x).2))), (25, .c (.int .i64 ((L.length : Int)))), (26, .c (.int .i64 ((x : Int))))], [(14, some (.ints 2 .i64 ((blN L x).1)))]⟩) (fun x => x ≤ L.length) (fun x => L.length - x) (fun x => fun b_ => match b_ with | 4 => some (Ann.mk ((Nat)) (fun i => ⟨[(0, .c (.int .i64 (n))), (1, .c (.ro (.rows .i64 (L)))), (5, .c (.own (14))), (7, .c (.int .i64 ((blN L x).2))), (8, .c (.int .i64 ((x : Int)))), (9, .c (.own (39))), (25, .c (.int .i64 ((L.length : Int)))), (26, .c (.int .i64 ((x : Int))))], [(14, some (.ints 2 .i64 ((quN L x i).1))), (39, some (.qu 2 .i64 ((quN L x i).2)))]⟩) (fun i => i ≤ L.length ∧ x < L.length ∧ ¬ 0 ≤ (blN L x).1.getD x 0) (fun i => L.length - i) (fun i => fun b_ => match b_ with | 6 => some (Ann.mk ((Nat)) (fun k => ⟨[(0, .c (.int .i64 (n))), (1, .c (.ro (.rows .i64 (L)))), (5, .c (.own (14))), (7, .c (.int .i64 ((blN L x).2))), (8, .c (.int .i64 ((x : Int)))), (9, .c (.own (39))), (25, .c (.int .i64 ((L.length : Int)))), (26, .c (.int .i64 ((x : Int)))), (45, .c (.ro (.rows .i64 (L)))), (46, .c (.int .i64 ((L.length : Int)))), (47, .c (.int .i64 ((k : Int))))], [(14, some (.ints 2 .i64 ((bfK L (blN L x).2 (quN L x i) k).1))), (39, some (.qu 2 .i64 ((bfK L (blN L x).2 (quN L x i) k).2)))]⟩) (fun k => k ≤ L.length ∧ (quN L x i).2 ≠ []) (fun k => L.length - k) (fun _ => noAnn)) | _ => none)) | _ => none))
  | _ => none
def orbitLabels_G : List (Nat × Ctr) := []
def orbitLabels_c1 (L : List (List Int)) (x0 : Nat) (x1 : Nat) (x2 : Nat) := ((((bfK L ((blN L x0).2) (quN L x0 x1) x2).2).getD (0:Nat) (0:Int)).toNat)
def orbitLabels_V (n : Int) (L : List (List Int)) : Prop :=
 ((((0:Int) ≤ n)∧((n ≤ n)∧(room (n.toNat))))∧((∃ x0 : Nat, ((x0 ≤ L.length)∧((n = n)∧((L = L)∧(((↑((List.replicate (n.toNat) (0:Int)).length):Int) = (↑(L.length):Int))∧(((0:Int) = (↑x0:Int))∧(List.replicate (n.toNat) (0:Int) = List.replicate x0 (-1:Int) ++ List.replicate (L.length - x0) (0:Int))))))))∧(∀ x1 : Nat, ((x1 ≤ L.length) → (BrP (decide ((↑x1:Int) < (↑(L.length):Int))) ((inB (↑x1:Int) ((List.replicate x1 (-1:Int) ++ List.replicate (L.length - x1) (0:Int)).length))∧((InR ((↑x1:Int) + (1:Int)))∧(∃ x2 : Nat, ((x2 ≤ L.length)∧((L.length - x2 < L.length - x1)∧((n = n)∧((L = L)∧(((↑(L.length):Int) = (↑(L.length):Int))∧(((↑x1:Int) + (1:Int) = (↑x2:Int))∧(List.set (List.replicate x1 (-1:Int) ++ List.replicate (L.length - x1) (0:Int)) ((↑x1:Int).toNat) (-1:Int) = List.replicate x2 (-1:Int) ++ List.replicate (L.length - x2) (0:Int))))))))))) ((∃ x3 : Nat, ((x3 ≤ L.length)∧((n = n)∧((L = L)∧(((0:Int) = (blN L x3).2)∧(((↑((List.replicate x1 (-1:Int) ++ List.replicate (L.length - x1) (0:Int)).length):Int) = (↑(L.length):Int))∧(((0:Int) = (↑x3:Int))∧(List.replicate x1 (-1:Int) ++ List.replicate (L.length - x1) (0:Int) = (blN L x3).1))))))))∧(∀ x4 : Nat, ((x4 ≤ L.length) → (BrP (decide ((↑x4:Int) < (↑(L.length):Int))) ((inB (↑x4:Int) (((blN L x4).1).length))∧(BrP (decide ((0:Int) ≤ ((blN L x4).1).getD ((↑x4:Int).toNat) (0:Int))) ((InR ((↑x4:Int) + (1:Int)))∧(∃ x5 : Nat, ((x5 ≤ L.length)∧((L.length - x5 < L.length - x4)∧((n = n)∧((L = L)∧(((blN L x4).2 = (blN L x5).2) ∧
 (((↑(L.length):Int) = (↑(L.length):Int))∧(((↑x4:Int) + (1:Int) = (↑x5:Int))∧((blN L x4).1 = (blN L x5).1)))))))))) ((inB (↑x4:Int) (((blN L x4).1).length))∧((∃ x6 : Nat, (((x6 ≤ L.length)∧((x4 < L.length)∧(¬(0:Int) ≤ ((blN L x4).1).getD x4 (0:Int))))∧((n = n)∧((L = L)∧(((blN L x4).2 = (blN L x4).2)∧(((↑x4:Int) = (↑x4:Int))∧(((↑(L.length):Int) = (↑(L.length):Int))∧(((↑x4:Int) = (↑x4:Int))∧((List.set ((blN L x4).1) ((↑x4:Int).toNat) ((blN L x4).2) = (quN L x4 x6).1)∧([(↑x4:Int)] = (quN L x4 x6).2))))))))))∧(∀ x7 : Nat, (((x7 ≤ L.length)∧((x4 < L.length)∧(¬(0:Int) ≤ ((blN L x4).1).getD x4 (0:Int)))) → (BrP (decide ((0:Int) < (↑(((quN L x4 x7).2).length):Int))) ((∃ x8 : Nat, (((x8 ≤ L.length)∧((quN L x4 x7).2 ≠ []))∧((n = n)∧((L = L)∧(((blN L x4).2 = (blN L x4).2)∧(((↑x4:Int) = (↑x4:Int))∧(((↑(L.length):Int) = (↑(L.length):Int))∧(((↑x4:Int) = (↑x4:Int))∧((L = L)∧(((↑(L.length):Int) = (↑(L.length):Int))∧(((0:Int) = (↑x8:Int))∧(((quN L x4 x7).1 = (bfK L ((blN L x4).2) (quN L x4 x7) x8).1)∧((quN L x4 x7).2 = (bfK L ((blN L x4).2) (quN L x4 x7) x8).2)))))))))))))∧(∀ x9 : Nat, (((x9 ≤ L.length)∧((quN L x4 x7).2 ≠ [])) → (BrP (decide ((↑x9:Int) < (↑(L.length):Int))) ((inB (↑x9:Int) (L.length))∧((inB (0:Int) (((bfK L ((blN L x4).2) (quN L x4 x7) x9).2).length))∧((inB (((bfK L ((blN L x4).2) (quN L x4 x7) x9).2).getD (0:Nat) (0:Int)) ((L.getD ((↑x9:Int).toNat) []).length)) ∧
 ((inB ((List.getD L ((↑x9:Int).toNat) []).getD (orbitLabels_c1 L x4 x7 x9) (0:Int)) (((bfK L ((blN L x4).2) (quN L x4 x7) x9).1).length))∧(BrP (decide (((bfK L ((blN L x4).2) (quN L x4 x7) x9).1).getD (((List.getD L ((↑x9:Int).toNat) []).getD ((((bfK L ((blN L x4).2) (quN L x4 x7) x9).2).getD (0:Nat) (0:Int)).toNat) (0:Int)).toNat) (0:Int) < (0:Int))) ((inB ((List.getD L ((↑x9:Int).toNat) []).getD (orbitLabels_c1 L x4 x7 x9) (0:Int)) (((bfK L ((blN L x4).2) (quN L x4 x7) x9).1).length))∧((([(List.getD L ((↑x9:Int).toNat) []).getD (orbitLabels_c1 L x4 x7 x9) (0:Int)].length ≠ (0:Nat))∧(room (((bfK L ((blN L x4).2) (quN L x4 x7) x9).2).length + [(List.getD L ((↑x9:Int).toNat) []).getD (orbitLabels_c1 L x4 x7 x9) (0:Int)].length)))∧((InR ((↑x9:Int) + (1:Int)))∧(∃ x10 : Nat, (((x10 ≤ L.length)∧((quN L x4 x7).2 ≠ []))∧((L.length - x10 < L.length - x9)∧((n = n)∧((L = L)∧(((blN L x4).2 = (blN L x4).2)∧(((↑x4:Int) = (↑x4:Int))∧(((↑(L.length):Int) = (↑(L.length):Int))∧(((↑x4:Int) = (↑x4:Int))∧((L = L)∧(((↑(L.length):Int) = (↑(L.length):Int))∧(((↑x9:Int) + (1:Int) = (↑x10:Int))∧((List.set ((bfK L ((blN L x4).2) (quN L x4 x7) x9).1) (((List.getD L ((↑x9:Int).toNat) []).getD (orbitLabels_c1 L x4 x7 x9) (0:Int)).toNat) ((blN L x4).2) = (bfK L ((blN L x4).2) (quN L x4 x7) x10).1)∧((bfK L ((blN L x4).2) (quN L x4 x7) x9).2 ++ [(List.getD L ((↑x9:Int).toNat) []).getD (orbitLabels_c1 L x4 x7 x9) (0:Int)] = (bfK L ((blN L x4).2) (quN L x4 x7) x10).2)))))))))))))))))
 ((InR ((↑x9:Int) + (1:Int)))∧(∃ x11 : Nat, (((x11 ≤ L.length)∧((quN L x4 x7).2 ≠ []))∧((L.length - x11 < L.length - x9)∧((n = n)∧((L = L)∧(((blN L x4).2 = (blN L x4).2)∧(((↑x4:Int) = (↑x4:Int))∧(((↑(L.length):Int) = (↑(L.length):Int))∧(((↑x4:Int) = (↑x4:Int))∧((L = L)∧(((↑(L.length):Int) = (↑(L.length):Int))∧(((↑x9:Int) + (1:Int) = (↑x11:Int))∧(((bfK L ((blN L x4).2) (quN L x4 x7) x9).1 = (bfK L ((blN L x4).2) (quN L x4 x7) x11).1)∧((bfK L ((blN L x4).2) (quN L x4 x7) x9).2 = (bfK L ((blN L x4).2) (quN L x4 x7) x11).2)))))))))))))))))))) ((((0:Int) ≤ (1:Int))∧((1:Int) ≤ (↑(((bfK L ((blN L x4).2) (quN L x4 x7) x9).2).length):Int)))∧(∃ x12 : Nat, (((x12 ≤ L.length)∧((x4 < L.length)∧(¬(0:Int) ≤ ((blN L x4).1).getD x4 (0:Int))))∧((L.length - x12 < L.length - x7)∧((n = n)∧((L = L)∧(((blN L x4).2 = (blN L x4).2)∧(((↑x4:Int) = (↑x4:Int))∧(((↑(L.length):Int) = (↑(L.length):Int))∧(((↑x4:Int) = (↑x4:Int))∧(((bfK L ((blN L x4).2) (quN L x4 x7) x9).1 = (quN L x4 x12).1)∧(List.drop ((1:Int).toNat) ((bfK L ((blN L x4).2) (quN L x4 x7) x9).2) = (quN L x4 x12).2)))))))))))))))) ((InR ((blN L x4).2 + (1:Int)))∧((InR ((↑x4:Int) + (1:Int)))∧(∃ x13 : Nat, ((x13 ≤ L.length)∧((L.length - x13 < L.length - x4)∧((n = n)∧((L = L)∧(((blN L x4).2 + (1:Int) = (blN L x13).2)∧(((↑(L.length):Int) = (↑(L.length):Int))∧(((↑x4:Int) + (1:Int) = (↑x13:Int))∧((quN L x4 x7).1 = (blN L x13).1)))))))))))))))))) (((blN L x4).1 = (blN L (L.length)).1)∧True))))))))))
theorem orbitLabels_vc (n : Int) (L : List (List Int)) : runF Tryz.prog (gam orbitLabels_G) noWr (orbitLabels_ann n L) Tryz.f55 (bodyOf Tryz.f55) [] [.c (.int .i64 (n)), .c (.rows .i64 (L))] (orbitLabels_p n L) = orbitLabels_V n L := by kernel_rfl
theorem orbitLabels_ok (n : Int) (L : List (List Int)) (hpre : (orbitLabels_p n L).pre) : orbitLabels_V n L := by
  simp only [orbitLabels_p, orbitLabels_V, orbitLabels_c1, BrP_iff, u1, u2, u3, u4, u5, u6, u7, u8, u9, v1, v2, v3, v4, v5, v6, v7, v8, v9, w1, w2, w3, w4, markL_length, inB, InR, room, bdsOk] at hpre ⊢
  obtain ⟨hr, hn⟩ := hpre
  have ht := rackB_tab hr
  obtain ⟨n1, n2, tt⟩ := tabB_of ht
  have fs : ∀ i, i < L.length → (List.replicate i (-1 : Int) ++ List.replicate (L.length - i) 0).set i (-1) = List.replicate (i + 1) (-1) ++ List.replicate (L.length - (i + 1)) 0 := fun i hi => by
    rw [List.set_append_right _ _ (by simp), List.length_replicate, Nat.sub_self, show L.length - i = (L.length - (i + 1)) + 1 by omega, List.replicate_succ, List.set_cons_zero, List.replicate_succ' , List.append_assoc]
    rfl
  refine ⟨by omega, ⟨0, by omega, by omega, by omega, by rw [hn]; simp⟩, fun i hi => ⟨fun h => ⟨by omega, by omega, i + 1, by omega, by omega, by omega, fs i (by omega)⟩, fun h => ⟨⟨0, by omega, rfl, by omega, rfl, ?_⟩, fun x hx => ⟨fun h2 => ⟨?_, fun h3 => ⟨by omega, x + 1, by omega, by omega, ?_, by omega, ?_⟩, fun h3 => ⟨?_, ⟨0, ⟨by omega, by omega, h3⟩, rfl, rfl⟩, fun j ⟨hj, hxl, hg⟩ => ⟨fun h4 => ⟨⟨0, ⟨by omega, ?_⟩, rfl, rfl, rfl⟩, fun k ⟨hk, hq⟩ => ⟨fun h5 => ?_, fun h5 => ?_⟩⟩, fun h4 => ?_⟩⟩⟩, fun h2 => ?_⟩⟩⟩⟩
  · first | (rw [show i = L.length by omega, Nat.sub_self]; done) | (rw [show i = L.length by omega, Nat.sub_self]; simp [blN])
  · have := (blN_ok hr x hx).len; omega
  · rw [blN, if_pos h3]
  · rw [blN, if_pos h3]
  · have := (blN_ok hr x hx).len; omega
  · intro e; rw [e] at h4; simp at h4
  · obtain ⟨q1, q2, q3, q4⟩ := qu_facts hr hxl hg j
    obtain ⟨r1, r2, r3, r4, r5⟩ := q4 k hk hq
    have tk := tt k (by omega)
    have tv := tk.2 ((bfK L (blN L x).2 (quN L x j) k).2.getD 0 0).toNat (by omega)
    have e : bfX L (bfK L (blN L x).2 (quN L x j) k).2 k = (L.getD k []).getD ((bfK L (blN L x).2 (quN L x j) k).2.getD 0 0).toNat 0 := rfl
    have st : bfK L (blN L x).2 (quN L x j) (k + 1) = if (bfK L (blN L x).2 (quN L x j) k).1.getD (bfX L (bfK L (blN L x).2 (quN L x j) k).2 k).toNat 0 < 0 then ((bfK L (blN L x).2 (quN L x j) k).1.set (bfX L (bfK L (blN L x).2 (quN L x j) k).2 k).toNat (blN L x).2, (bfK L (blN L x).2 (quN L x j) k).2 ++ [bfX L (bfK L (blN L x).2 (quN L x j) k).2 k]) else bfK L (blN L x).2 (quN L x j) k := rfl
    rw [e] at st
    refine ⟨by omega, by omega, by omega, by omega, fun h6 => ⟨by omega, ⟨by omega, by omega⟩, by omega, k + 1, ⟨by omega, hq⟩, by omega, by omega, ?_, ?_⟩, fun h6 => ⟨by omega, k + 1, ⟨by omega, hq⟩, by omega, by omega, ?_, ?_⟩⟩
    · rw [st, if_pos h6]
    · rw [st, if_pos h6]
    · rw [st, if_neg (by omega)]
    · rw [st, if_neg (by omega)]
  · obtain ⟨q1, q2, q3, q4⟩ := qu_facts hr hxl hg j
    obtain ⟨r1, r2, r3, r4, r5⟩ := q4 k hk hq
    have jl : j < L.length := by
      by_cases c : j = L.length
      · rw [c] at hq; exact absurd q3 hq
      · omega
    have st : quN L x (j + 1) = if (quN L x j).2 = [] then quN L x j else ((bfK L (blN L x).2 (quN L x j) L.length).1, (bfK L (blN L x).2 (quN L x j) L.length).2.drop 1) := rfl
    rw [if_neg hq, show L.length = k by omega] at st
    exact ⟨by omega, j + 1, ⟨by omega, by omega, hg⟩, by omega, by rw [st], by rw [st]; rfl⟩
  · obtain ⟨q1, q2, q3, q4⟩ := qu_facts hr hxl hg j
    have lo := (blN_ok hr x hx).lo
    have e0 : (quN L x j).2 = [] := List.eq_nil_of_length_eq_zero (by omega)
    have e1 : quN L x L.length = quN L x j := by
      have := bfI_stop e0 (L.length - j)
      rw [show j + (L.length - j) = L.length by omega] at this
      exact this
    have st : blN L (x + 1) = if 0 ≤ (blN L x).1.getD x 0 then blN L x else ((quN L x L.length).1, (blN L x).2 + 1) := rfl
    rw [if_neg hg, e1] at st
    exact ⟨by omega, by omega, x + 1, by omega, by omega, by rw [st], by omega, by rw [st]⟩
  · rw [show x = L.length by omega]; first | done | exact ⟨rfl, trivial⟩
theorem orbitLabels_fits : Fits Tryz.prog 55 ⟨[], orbitLabels_ct⟩ := by
  refine ffn (Γ := gam orbitLabels_G) gok_nil Tryz.func55 fun ds p h hp => ?_
  unfold orbitLabels_ct at h
  split at h
  · cases h
    exact ⟨noWr, orbitLabels_ann _ _ , by rw [orbitLabels_vc]; exact orbitLabels_ok _ _  hp⟩
  · cases h
end Go.Sx
