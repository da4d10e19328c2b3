/- Ech SrtP Ker -/
import Derived.Test.YtbppifmljnnogaaGreatRnk
import Derived.Test.YtbppifmljnnogaaGreatSrt
section
open Go Go.Proofs
namespace Go.Sx
set_option linter.unusedSimpArgs false
set_option linter.unusedVariables false
structure Rref (p : Int) (N : Nat) (B : List (List Int)) : Prop where
  row : ∀ k, k < B.length → rwP p N (B.getD k [])
  nn : ∀ k, k < B.length → 0 ≤ ldF (B.getD k [])
  one : ∀ k, k < B.length → at2 B k (ldN B k) = 1
  all : ∀ j k, j ≠ k → j < B.length → k < B.length → at2 B j (ldN B k) = 0
  inc : ∀ j k, j < k → k < B.length → ldN B j < ldN B k
section
variable {p : Int} {N : Nat} {B B' : List (List Int)}
theorem Rref.piv (h : Rref p N B) {k : Nat} (hk : k < B.length) : ldN B k < N := by
  have a := ld_yes (h.nn k hk)
  have b := (h.row k hk).1
  unfold ldN
  omega
theorem Rref.bef (h : Rref p N B) {k q : Nat} (hk : k < B.length) (hq : q < ldN B k) : at2 B k q = 0 :=
  (ld_yes (h.nn k hk)).2.2 q hq
theorem Rref.coord (h : Rref p N B) {v : Nat → Int} (hv : SpP p N B v) : ∀ q, q < N → p ∣ v q - sm (fun k => v (ldN B k) * at2 B k q) B.length := by
  obtain ⟨c, hc⟩ := hv
  have hcv : ∀ j, j < B.length → p ∣ v (ldN B j) - c j := fun j hj => by
    have := hc _ (h.piv hj)
    have e : sm (fun k => c k * at2 B k (ldN B j)) B.length = c j := by
      rw [sm_ext (g := fun k => if k = j then c j else 0) fun k hk => by
        by_cases e : k = j
        · subst e; rw [h.one k hk]; simp
        · rw [h.all k j e hk hj]; simp [e], sm_delta, if_pos hj]
    rwa [e] at this
  intro q hq
  have m := sm_mod (p := p) (fun k => v (ldN B k) * at2 B k q) (fun k => c k * at2 B k q) B.length fun k hk => by
    have : p ∣ (v (ldN B k) - c k) * at2 B k q := Int.dvd_mul_of_dvd_left (hcv k hk)
    rwa [Int.sub_mul] at this
  have e := Int.dvd_sub (hc q hq) m
  rwa [show v q - sm (fun k => c k * at2 B k q) B.length - (sm (fun k => v (ldN B k) * at2 B k q) B.length - sm (fun k => c k * at2 B k q) B.length) = v q - sm (fun k => v (ldN B k) * at2 B k q) B.length by omega] at e
theorem Rref.mem (h : Rref p N B) {v : Nat → Int} (hv : SpP p N B v) {a : Nat} (ha : a < N) (h0 : ∀ q, q < a → v q = 0) (h1 : ¬ p ∣ v a) : ∃ k, k < B.length ∧ ldN B k = a := by
  refine Classical.byContradiction fun hn => h1 ?_
  have c := h.coord hv a ha
  have e : sm (fun k => v (ldN B k) * at2 B k a) B.length = 0 := by
    rw [sm_ext (g := fun _ => (0 : Int) * 0) fun k hk => by
      rcases Nat.lt_trichotomy (ldN B k) a with z | z | z
      · rw [h0 _ z]; simp
      · exact absurd ⟨k, hk, z⟩ hn
      · rw [h.bef hk z]; simp, sm_mul]
    simp
  rwa [e, Int.sub_zero] at c
theorem Rref.sub (h : Rref p N B) (h' : Rref p N B') (hp : 2 ≤ p) (he : ∀ v, SpP p N B v ↔ SpP p N B' v) {j : Nat} (hj : j < B'.length) : ∃ k, k < B.length ∧ ldN B k = ldN B' j :=
  h.mem ((he _).2 (sp_mem hj)) (h'.piv hj) (fun q hq => h'.bef hj hq) (by
    rw [h'.one j hj]
    intro hd
    have := Int.le_of_dvd (by decide) hd
    omega)
theorem Rref.same (h : Rref p N B) (h' : Rref p N B') (hp : 2 ≤ p) (he : ∀ v, SpP p N B v ↔ SpP p N B' v) : ∀ n k, k < n → k < B.length → k < B'.length ∧ ldN B' k = ldN B k
  | 0, k, hk, _ => absurd hk (Nat.not_lt_zero k)
  | n + 1, k, hk, hB => by
    have ih := Rref.same h h' hp he n
    by_cases hkn : k < n
    · exact ih k hkn hB
    have hkn : k = n := by omega
    subst hkn
    obtain ⟨i, hi, ei⟩ := h'.sub h hp (fun v => (he v).symm) hB
    have ik : k ≤ i := by
      refine Classical.byContradiction fun hc => ?_
      have a := ih i (by omega) (by omega)
      have b := h.inc i k (by omega) hB
      omega
    have hB' : k < B'.length := by omega
    obtain ⟨m, hm, em⟩ := h.sub h' hp he hB'
    have mk : k ≤ m := by
      refine Classical.byContradiction fun hc => ?_
      have a := ih m (by omega) hm
      have b := h'.inc m k (by omega) hB'
      omega
    have x1 : ldN B' k ≤ ldN B' i := by
      rcases Nat.eq_or_lt_of_le ik with e | e
      · rw [e]; exact Nat.le_refl _
      · exact Nat.le_of_lt (h'.inc k i e hi)
    have x2 : ldN B k ≤ ldN B m := by
      rcases Nat.eq_or_lt_of_le mk with e | e
      · rw [e]; exact Nat.le_refl _
      · exact Nat.le_of_lt (h.inc k m e hm)
    exact ⟨hB', by omega⟩
theorem Rref.uniq (h : Rref p N B) (h' : Rref p N B') (hp : 2 ≤ p) (he : ∀ v, SpP p N B v ↔ SpP p N B' v) : B = B' := by
  have l1 : B.length ≤ B'.length := by
    refine Classical.byContradiction fun hc => ?_
    have := (h.same h' hp he B.length B'.length (by omega) (by omega)).1
    omega
  have l2 : B'.length ≤ B.length := by
    refine Classical.byContradiction fun hc => ?_
    have := (h'.same h hp (fun v => (he v).symm) B'.length B.length (by omega) (by omega)).1
    omega
  refine list2_ext (by omega) fun j hj => ?_
  have hj' : j < B'.length := by omega
  have r := h.row j hj
  have r' := h'.row j hj'
  have a1 := r.1
  have a2 := r'.1
  have c := h.coord ((he _).2 (sp_mem hj'))
  apply List.ext_getElem (by omega)
  intro q q1 q2
  rw [← getD_lt (B.getD j []) 0 q q1, ← getD_lt (B'.getD j []) 0 q q2]
  have d := c q (by omega)
  have e : sm (fun k => at2 B' j (ldN B k) * at2 B k q) B.length = at2 B j q := by
    rw [sm_ext (g := fun k => if k = j then at2 B j q else 0) fun k hk => by
      have s := h.same h' hp he (k + 1) k (by omega) hk
      rw [← s.2]
      by_cases e : k = j
      · subst e; rw [h'.one k hj']; simp
      · rw [h'.all j k (fun x => e x.symm) hj' s.1]; simp [e], sm_delta, if_pos hj]
  rw [e] at d
  have b1 := r.2 q q1
  have b2 := r'.2 q q2
  have d : p ∣ (B'.getD j []).getD q 0 - (B.getD j []).getD q 0 := d
  have := Int.emod_eq_emod_iff_emod_sub_eq_zero.2 (Int.emod_eq_zero_of_dvd d)
  rw [Int.emod_eq_of_lt b2.1 (by omega), Int.emod_eq_of_lt b1.1 (by omega)] at this
  exact this.symm
end
structure EInv (p : Int) (N : Nat) (R out : List (List Int)) (d a : Nat) : Prop where
  dl : d ≤ out.length
  row : ∀ i, i < out.length → rwP p N (out.getD i [])
  nn : ∀ k, k < d → 0 ≤ ldF (out.getD k [])
  lt : ∀ k, k < d → ldN out k < a
  one : ∀ k, k < d → at2 out k (ldN out k) = 1
  inc : ∀ j k, j < k → k < d → ldN out j < ldN out k
  all : ∀ i k, i ≠ k → i < out.length → k < d → at2 out i (ldN out k) = 0
  low : ∀ i, d ≤ i → i < out.length → ∀ q, q < a → at2 out i q = 0
  sp : ∀ v, SpP p N out v ↔ SpP p N R v
theorem EInv.skip {p : Int} {N : Nat} {R out : List (List Int)} {d a : Nat} (h : EInv p N R out d a) (hz : ∀ i, d ≤ i → i < out.length → at2 out i a = 0) : EInv p N R out d (a + 1) :=
  ⟨h.dl, h.row, h.nn, fun k hk => Nat.lt_succ_of_lt (h.lt k hk), h.one, h.inc, h.all, fun i h1 h2 q hq => by
    rcases Nat.lt_or_ge q a with e | e
    · exact h.low i h1 h2 q e
    · rw [show q = a by omega]; exact hz i h1 h2, h.sp⟩
theorem upR_ok {p : Int} (hp : 2 ≤ p) {N : Nat} {s b : List Int} {a : Nat} (ha : a < N) (hs : rwP p N s) (h1 : s.getD a 0 = 1) (hb : rwP p N b) :
    rwP p N (upR p s a b) ∧ (upR p s a b).getD a 0 = 0 ∧ (∀ q, q < N → s.getD q 0 = 0 → (upR p s a b).getD q 0 = b.getD q 0) ∧ ∃ c : Int, ∀ q, q < N → p ∣ (upR p s a b).getD q 0 - (b.getD q 0 + c * s.getD q 0) := by
  have bl := hb.1
  have c := hb.2 a (by omega)
  unfold upR
  by_cases h0 : b.getD a 0 ≠ 0
  · rw [if_pos h0]
    refine ⟨stF_rw (by omega) (by omega) hs hb, ?_, fun q hq hz => ?_, p - b.getD a 0, fun q hq => stF_mod (by omega) (by omega) hs hb hq⟩
    · rw [stF_get (by omega), h1, show b.getD a 0 + (p - b.getD a 0) * 1 = p by omega, Int.tmod_self]
    · have cq := hb.2 q (by omega)
      rw [stF_get (by omega), hz, Int.mul_zero, Int.add_zero]
      exact Int.tmod_eq_of_lt cq.1 (by omega)
  · rw [if_neg h0]
    exact ⟨hb, by omega, fun _ _ _ => rfl, 0, fun q _ => by simp⟩
theorem EInv.step {p : Int} (hp : primeB p = true) {N : Nat} {R out : List (List Int)} {d a : Nat} (h : EInv p N R out d a) (ha : a < N) {r : Nat} (hr : d ≤ r) (hr2 : r < out.length) (hne : at2 out r a ≠ 0)
    {s : List Int} (hs : s = scF p (ivM p ((out.getD r []).getD a 0)) (out.getD r [])) {out' : List (List Int)} (hl : out'.length = out.length)
    (hg : ∀ i, i < out.length → out'.getD i [] = if i = d then s else upR p s a (if i = r then out.getD d [] else out.getD i [])) : EInv p N R out' (d + 1) (a + 1) := by
  obtain ⟨p2, p7⟩ := primeB_le hp
  have rr := h.row r hr2
  have lr : ldF (out.getD r []) = (a : Int) := ld_is hne fun i hi => h.low r hr hr2 i hi
  have n := scF_nrm hp rr (by omega)
  rw [lr, Int.toNat_natCast, ← hs] at n
  have n1 : s.getD a 0 = 1 := by have := n.one; rwa [lr, Int.toNat_natCast] at this
  have sz : ∀ q, q < a → s.getD q 0 = 0 := fun q hq => n.zer q (by omega) (h.low r hr hr2 q hq)
  have sP : ∀ k, k < d → s.getD (ldN out k) 0 = 0 := fun k hk => sz _ (h.lt k hk)
  have dl : d < out.length := by omega
  have src : ∀ i, i < out.length → ∃ j, j < out.length ∧ (if i = r then out.getD d [] else out.getD i []) = out.getD j [] ∧ (i < d → j = i) ∧ (d ≤ i → d ≤ j) := fun i hi => by
    by_cases e : i = r
    · rw [if_pos e]; exact ⟨d, dl, rfl, fun x => by omega, fun _ => Nat.le_refl _⟩
    · rw [if_neg e]; exact ⟨i, hi, rfl, fun _ => rfl, fun x => x⟩
  have gd : out'.getD d [] = s := by rw [hg d dl, if_pos rfl]
  have up : ∀ i, i < out.length → i ≠ d → ∃ j, j < out.length ∧ (i < d → j = i) ∧ (d ≤ i → d ≤ j) ∧ rwP p N (out'.getD i []) ∧ at2 out' i a = 0 ∧ (∀ q, q < N → s.getD q 0 = 0 → at2 out' i q = at2 out j q) ∧
      ∃ c : Int, ∀ q, q < N → p ∣ at2 out' i q - (at2 out j q + c * s.getD q 0) := fun i hi hid => by
    obtain ⟨j, j1, j2, j3, j4⟩ := src i hi
    have e := hg i hi
    rw [if_neg hid, j2] at e
    obtain ⟨u1, u2, u3, u4⟩ := upR_ok p2 ha n.row n1 (h.row j j1)
    refine ⟨j, j1, j3, j4, by rw [e]; exact u1, by rw [at2, e]; exact u2, fun q hq hz => by rw [at2, e]; exact u3 q hq hz, ?_⟩
    obtain ⟨c, hc⟩ := u4
    exact ⟨c, fun q hq => by rw [at2, e]; exact hc q hq⟩
  have ldd : ldF (out'.getD d []) = (a : Int) := by rw [gd]; exact ld_is (by rw [n1]; decide) sz
  have lnd : ldN out' d = a := by unfold ldN; rw [ldd]; exact Int.toNat_natCast _
  have old : ∀ k, k < d → ldF (out'.getD k []) = ldF (out.getD k []) := fun k hk => by
    obtain ⟨j, j1, j3, _, u1, u2, u3, _⟩ := up k (by omega) (by omega)
    have := j3 hk
    subst this
    have y := ld_yes (h.nn j hk)
    have pl := h.lt j hk
    have e0 : (ldF (out.getD j [])).toNat = ldN out j := rfl
    rw [e0] at y
    have nn := h.nn j hk
    rw [show ldF (out.getD j []) = ((ldN out j : Nat) : Int) by unfold ldN; omega]
    refine ld_is ?_ fun i hi => ?_
    · have := u3 (ldN out j) (by omega) (sP j hk)
      show at2 out' j (ldN out j) ≠ 0
      rw [this]; exact y.2.1
    · have := u3 i (by omega) (sz i (by omega))
      show at2 out' j i = 0
      rw [this]; exact y.2.2 i hi
  have oldN : ∀ k, k < d → ldN out' k = ldN out k := fun k hk => by unfold ldN; rw [old k hk]
  refine ⟨by omega, fun i hi => ?_, fun k hk => ?_, fun k hk => ?_, fun k hk => ?_, fun j k hjk hk => ?_, fun i k hik hi hk => ?_, fun i h1 hi q hq => ?_, fun v => ?_⟩
  · by_cases e : i = d
    · rw [e, gd]; exact n.row
    · obtain ⟨_, _, _, _, u1, _⟩ := up i (by omega) e; exact u1
  · by_cases e : k = d
    · rw [e, ldd]; omega
    · rw [old k (by omega)]; exact h.nn k (by omega)
  · by_cases e : k = d
    · rw [e, lnd]; omega
    · rw [oldN k (by omega)]; exact Nat.lt_succ_of_lt (h.lt k (by omega))
  · by_cases e : k = d
    · rw [e, lnd, at2, gd]; exact n1
    · obtain ⟨j, j1, j3, _, _, _, u3, _⟩ := up k (by omega) e
      have := j3 (by omega)
      subst this
      have lt := h.lt j (by omega)
      rw [oldN j (by omega), u3 _ (by omega) (sP j (by omega))]
      exact h.one j (by omega)
  · by_cases e : k = d
    · rw [e, lnd, oldN j (by omega)]; exact h.lt j (by omega)
    · rw [oldN j (by omega), oldN k (by omega)]; exact h.inc j k hjk (by omega)
  · by_cases e : k = d
    · rw [e, lnd]
      obtain ⟨_, _, _, _, _, u2, _⟩ := up i (by omega) (by omega)
      exact u2
    · have lt := h.lt k (by omega)
      rw [oldN k (by omega)]
      by_cases e2 : i = d
      · rw [e2, at2, gd]; exact sP k (by omega)
      · obtain ⟨j, j1, j3, j4, _, _, u3, _⟩ := up i (by omega) e2
        rw [u3 _ (by omega) (sP k (by omega))]
        refine h.all j k ?_ j1 (by omega)
        rcases Nat.lt_or_ge i d with x | x
        · rw [j3 x]; exact hik
        · have := j4 x; omega
  · obtain ⟨j, j1, _, j4, _, u2, u3, _⟩ := up i (by omega) (by omega)
    rcases Nat.lt_or_ge q a with e | e
    · rw [u3 q (by omega) (sz q e)]
      exact h.low j (j4 (by omega)) j1 q e
    · rw [show q = a by omega]; exact u2
  · rw [← h.sp v]
    have sS : SpP p N out (fun q => s.getD q 0) := by
      obtain ⟨m, hm⟩ := n.mod
      exact sp_congr hm (sp_mul m (sp_mem hr2))
    have sS' : SpP p N out' (fun q => s.getD q 0) := sp_congr (fun q _ => by rw [at2, gd, Int.sub_self]; exact Int.dvd_zero _) (sp_mem (B := out') (i := d) (by omega))
    constructor
    · refine sp_sub fun i hi => ?_
      by_cases e : i = d
      · rw [e]
        exact sp_congr (fun q _ => by rw [at2, gd, Int.sub_self]; exact Int.dvd_zero _) sS
      · obtain ⟨j, j1, _, _, _, _, _, c, hc⟩ := up i (by omega) e
        exact sp_congr hc (sp_add (sp_mem j1) (sp_mul c sS))
    · refine sp_sub fun j hj => ?_
      by_cases e : j = r
      · rw [e]
        obtain ⟨m, hm⟩ := n.dom
        exact sp_congr hm (sp_mul m sS')
      · have pl : ∃ i, i < out.length ∧ i ≠ d ∧ (if i = r then out.getD d [] else out.getD i []) = out.getD j [] := by
          by_cases e2 : j = d
          · exact ⟨r, hr2, fun x => e (by omega), by rw [if_pos rfl, e2]⟩
          · exact ⟨j, hj, e2, by rw [if_neg e]⟩
        obtain ⟨i, i1, i2, i3⟩ := pl
        have e3 := hg i i1
        rw [if_neg i2, i3] at e3
        obtain ⟨_, _, _, c, hc⟩ := upR_ok p2 ha n.row n1 (h.row j hj)
        refine sp_congr (fun q hq => ?_) (sp_add (sp_mem (B := out') (i := i) (by omega)) (sp_mul (-c) sS'))
        have x := hc q hq
        rw [← e3] at x
        have y := Int.dvd_neg.2 x
        have z : at2 out j q - (at2 out' i q + -c * s.getD q 0) = -((out'.getD i []).getD q 0 - ((out.getD j []).getD q 0 + c * s.getD q 0)) := by
          unfold at2
          rw [Int.neg_mul]
          omega
        rw [z]; exact y
theorem EInv.fin {p : Int} {N : Nat} {R out : List (List Int)} {d : Nat} (h : EInv p N R out d N) : Rref p N (out.take d) ∧ ∀ v, SpP p N (out.take d) v ↔ SpP p N R v := by
  have dl := h.dl
  have tl : (out.take d).length = d := by rw [List.length_take]; omega
  have tg : ∀ k, k < d → (out.take d).getD k [] = out.getD k [] := fun k hk => by
    rw [List.getD_eq_getElem?_getD, List.getElem?_take, if_pos hk, ← List.getD_eq_getElem?_getD]
  have tn : ∀ k, k < d → ldN (out.take d) k = ldN out k := fun k hk => by unfold ldN; rw [tg k hk]
  have ta : ∀ k q, k < d → at2 (out.take d) k q = at2 out k q := fun k q hk => by unfold at2; rw [tg k hk]
  refine ⟨⟨fun k hk => ?_, fun k hk => ?_, fun k hk => ?_, fun j k hjk hj hk => ?_, fun j k hjk hk => ?_⟩, fun v => ?_⟩
  · rw [tl] at hk; rw [tg k hk]; exact h.row k (by omega)
  · rw [tl] at hk; rw [tg k hk]; exact h.nn k hk
  · rw [tl] at hk; rw [tn k hk, ta k _ hk]; exact h.one k hk
  · rw [tl] at hj hk; rw [tn k hk, ta j _ hj]; exact h.all j k hjk (by omega) hk
  · rw [tl] at hk; rw [tn j (by omega), tn k hk]; exact h.inc j k hjk hk
  · rw [← h.sp v]
    constructor
    · refine sp_sub fun k hk => ?_
      rw [tl] at hk
      exact sp_congr (fun q _ => by rw [ta k q hk, Int.sub_self]; exact Int.dvd_zero _) (sp_mem (B := out) (i := k) (by omega))
    · refine sp_sub fun i hi => ?_
      by_cases e : i < d
      · exact sp_congr (fun q _ => by rw [ta i q e, Int.sub_self]; exact Int.dvd_zero _) (sp_mem (B := out.take d) (i := i) (by omega))
      · exact sp_zero fun q hq => by rw [h.low i (by omega) hi q hq]; exact Int.dvd_zero _
end Go.Sx
end
section
open Go Go.Proofs
namespace Go.Sx
set_option linter.unusedSimpArgs false
set_option linter.unusedVariables false
theorem srt_get (l : List (List Int)) (h : 0 < l.length) : ∃ σ : Nat → Nat, (∀ i, i < l.length → σ i < l.length ∧ (srtL l).getD i [] = l.getD (σ i) []) ∧ (∀ i j, i < l.length → j < l.length → σ i = σ j → i = j) ∧
    (∀ k, k < l.length → ∃ i, i < l.length ∧ σ i = k) ∧ ∀ i j, i < j → j < l.length → ¬ cmpG cmpI (l.getD (σ i) []) (l.getD (σ j) []) < 0 := by
  letI : Inhabited (Fin l.length) := ⟨⟨0, h⟩⟩
  have P := srtI_ok l h
  have S := (Go.Sort.pdq_sorts (fun i j => decide (rwC l i j < 0)) (rwC_swo l) (List.finRange l.length).toArray 0 (List.finRange l.length).toArray.size (Lib.bitLen (List.finRange l.length).toArray.size) true true (Nat.zero_le _) (Nat.le_refl _) (Or.inl rfl)).2
  have S : ∀ i j : Nat, i < j → j < l.length → decide (rwC l (srtI l h)[j]! (srtI l h)[i]! < 0) = false := fun i j h1 h2 => S i j (Nat.zero_le _) h1 (by simpa using h2)
  have hS : srtL l = (srtI l h).toList.map (fun i => l.getD i.1 []) := by unfold srtL; rw [dif_pos h]
  have sl : (srtI l h).toList.length = l.length := by rw [P.length_eq]; simp
  have sz : (srtI l h).size = l.length := by simpa using sl
  have nd : (srtI l h).toList.Nodup := P.nodup_iff.2 (List.nodup_finRange _)
  have g : ∀ i (hi : i < l.length), (srtI l h)[i]! = (srtI l h).toList[i]'(by omega) := fun i hi => by
    rw [getElem!_pos (srtI l h) i (by omega)]; simp
  refine ⟨fun i => ((srtI l h)[i]!).1, fun i hi => ⟨((srtI l h)[i]!).2, ?_⟩, fun i j hi hj e => ?_, fun k hk => ?_, fun i j hij hj => ?_⟩
  · show (srtL l).getD i [] = l.getD ((srtI l h)[i]!).1 []
    rw [g i hi, hS, getD_lt _ [] i (by rw [List.length_map]; omega), List.getElem_map]
  · have e := Fin.ext e
    rw [g i hi, g j hj] at e
    have pw := List.pairwise_iff_getElem.1 nd
    rcases Nat.lt_trichotomy i j with x | x | x
    · exact absurd e (pw i j (by omega) (by omega) x)
    · exact x
    · exact absurd e.symm (pw j i (by omega) (by omega) x)
  · have m : (⟨k, hk⟩ : Fin l.length) ∈ (srtI l h).toList := P.mem_iff.2 (List.mem_finRange _)
    obtain ⟨i, hi, e⟩ := List.mem_iff_getElem.1 m
    exact ⟨i, by omega, by show ((srtI l h)[i]!).1 = k; rw [g i (by omega), e]⟩
  · have := S i j hij hj
    rw [decide_eq_false_iff_not] at this
    exact this
theorem cmpG_at : ∀ (n : Nat) (a b : List Int), n < a.length → n < b.length → (∀ q, q < n → a.getD q 0 = b.getD q 0) → a.getD n 0 < b.getD n 0 → cmpG cmpI a b < 0
  | _, [], _, h, _, _, _ => by simp at h
  | _, _ :: _, [], _, h, _, _ => by simp at h
  | 0, x :: a, y :: b, _, _, _, h => by
    have h : x < y := h
    have c : cmpI x y = -1 := if_pos h
    simp only [cmpG, c]
    rw [if_neg (by decide)]
    decide
  | n + 1, x :: a, y :: b, h1, h2, h3, h => by
    have e : x = y := h3 0 (by omega)
    have := cmpG_at n a b (by simpa using h1) (by simpa using h2) (fun q hq => h3 (q + 1) (by omega)) h
    simp only [cmpG]
    rw [if_pos (cmpI_zero.2 e)]
    exact this
theorem srt_rref {p : Int} {N : Nat} {B : List (List Int)} (h : Full p N B) : Rref p N (srtL B) ∧ ∀ v, SpP p N (srtL B) v ↔ SpP p N B v := by
  have sl := srtL_len B
  by_cases h0 : 0 < B.length
  · obtain ⟨σ, s1, s2, s3, s4⟩ := srt_get B h0
    have n : ∀ i, i < B.length → ldN (srtL B) i = ldN B (σ i) := fun i hi => by unfold ldN; rw [(s1 i hi).2]
    have a : ∀ i q, i < B.length → at2 (srtL B) i q = at2 B (σ i) q := fun i q hi => by unfold at2; rw [(s1 i hi).2]
    refine ⟨⟨fun k hk => ?_, fun k hk => ?_, fun k hk => ?_, fun j k hjk hj hk => ?_, fun j k hjk hk => ?_⟩, fun v => ⟨sp_sub fun k hk => ?_, sp_sub fun k hk => ?_⟩⟩
    · rw [sl] at hk; rw [(s1 k hk).2]; exact h.bas.row _ (s1 k hk).1
    · rw [sl] at hk; rw [(s1 k hk).2]; exact h.nn _ (s1 k hk).1
    · rw [sl] at hk; rw [n k hk, a k _ hk]; exact h.bas.one _ (s1 k hk).1
    · rw [sl] at hj hk; rw [n k hk, a j _ hj]; exact h.all _ _ (fun e => hjk (s2 j k hj hk e)) (s1 j hj).1 (s1 k hk).1
    · rw [sl] at hk
      have hj : j < B.length := by omega
      rw [n j hj, n k hk]
      have j1 := (s1 j hj).1
      have k1 := (s1 k hk).1
      have ne : σ j ≠ σ k := fun e => by have := s2 j k hj hk e; omega
      have pne : ldN B (σ j) ≠ ldN B (σ k) := fun e => by
        have x := h.all (σ j) (σ k) ne j1 k1
        rw [← e, h.bas.one _ j1] at x
        cases x
      refine Classical.byContradiction fun hc => s4 j k hjk hk ?_
      have lt : ldN B (σ k) < ldN B (σ j) := by omega
      have yj := ld_yes (h.nn _ j1)
      have yk := ld_yes (h.nn _ k1)
      have lj := (h.bas.row _ j1).1
      have lk := (h.bas.row _ k1).1
      have pk := h.bas.piv _ k1
      refine cmpG_at (ldN B (σ k)) _ _ (by omega) (by omega) (fun q hq => ?_) ?_
      · rw [yj.2.2 q (by show q < ldN B (σ j); omega), yk.2.2 q hq]
      · have o := h.bas.one _ k1
        have z := yj.2.2 (ldN B (σ k)) lt
        unfold at2 at o
        rw [o, z]; decide
    · rw [sl] at hk
      exact sp_congr (fun q _ => by rw [a k q hk, Int.sub_self]; exact Int.dvd_zero _) (sp_mem (s1 k hk).1)
    · obtain ⟨i, hi, e⟩ := s3 k hk
      exact sp_congr (fun q _ => by rw [a i q hi, e, Int.sub_self]; exact Int.dvd_zero _) (sp_mem (B := srtL B) (i := i) (by omega))
  · have e : B = [] := List.length_eq_zero_iff.1 (by omega)
    have e2 : srtL B = [] := List.length_eq_zero_iff.1 (by omega)
    rw [e2, e]
    exact ⟨⟨fun k hk => by simp at hk, fun k hk => by simp at hk, fun k hk => by simp at hk, fun j k _ hj => by simp at hj, fun j k _ hk => by simp at hk⟩, fun v => Iff.rfl⟩
theorem red_rref {p : Int} (hp : primeB p = true) {N : Nat} {R : List (List Int)} (hR : rwsP p N R) : Rref p N (srtL (imN p R R.length)) ∧ ∀ v, SpP p N (srtL (imN p R R.length)) v ↔ SpP p N R v := by
  obtain ⟨f, s⟩ := imN_ok hp hR R.length (Nat.le_refl _)
  obtain ⟨r, t⟩ := srt_rref f
  refine ⟨r, fun v => ?_⟩
  rw [t v, s v, List.take_of_length_le (Nat.le_refl _)]
end Go.Sx
end
section
open Go Go.Proofs
namespace Go.Sx
set_option linter.unusedSimpArgs false
set_option linter.unusedVariables false
end Go.Sx
end
