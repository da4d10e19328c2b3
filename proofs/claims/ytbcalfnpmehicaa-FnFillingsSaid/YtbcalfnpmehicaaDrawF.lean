/- FilP DrawC DrawF -/
import Derived.Test.YtbcalfnpmehicaaFil
import Derived.Test.YtbcalfnpmehicaaDrawY
import Derived.Test.YtbcalfnpmehicaaPair
import Derived.Test.YtbcalfnpmehicaaCmp
section
open Go Go.Proofs
namespace Go.Sx
set_option linter.unusedSimpArgs false
set_option linter.unusedVariables false
set_option linter.unusedVariables false

/-- The combination of the rows ρ with the numbers of s. -/
def lnc (ρ : Nat → List Int) (M : Nat) (s : List Int) (q : Nat) : Int := sm (fun i => s.getD i 0 * (ρ i).getD q 0) M

theorem lnc_congr {p : Int} {ρ : Nat → List Int} {M : Nat} {a : List Int} {f : Nat → Int} (h : ∀ i, i < M → p ∣ a.getD i 0 - f i) (q : Nat) : p ∣ lnc ρ M a q - sm (fun i => f i * (ρ i).getD q 0) M :=
  sm_mod _ _ _ fun k hk => by
    have : p ∣ (a.getD k 0 - f k) * (ρ k).getD q 0 := Int.dvd_mul_of_dvd_left (h k hk)
    rwa [Int.sub_mul] at this

theorem sm_lin (ρ : Nat → List Int) (a b : List Int) (m : Int) (q : Nat) (M : Nat) : sm (fun i => (a.getD i 0 + m * b.getD i 0) * (ρ i).getD q 0) M = lnc ρ M a q + m * lnc ρ M b q := by
  unfold lnc
  rw [← sm_mul, ← sm_add]
  exact sm_ext fun k _ => by rw [Int.add_mul, Int.mul_assoc]

theorem lnc_st {p m : Int} (hp : 1 ≤ p) (hm : 0 ≤ m) {ρ : Nat → List Int} {M : Nat} {b r : List Int} (hb : rwP p M b) (hr : rwP p M r) (q : Nat) : p ∣ lnc ρ M (stF p m b r) q - (lnc ρ M r q + m * lnc ρ M b q) := by
  have := lnc_congr (ρ := ρ) (M := M) (a := stF p m b r) (f := fun i => r.getD i 0 + m * b.getD i 0) (fun i hi => stF_mod hp hm hb hr hi) q
  rwa [sm_lin] at this

theorem lnc_sc {p m : Int} (hp : 1 ≤ p) (hm : 0 ≤ m) {ρ : Nat → List Int} {M : Nat} {r : List Int} (hr : rwP p M r) (q : Nat) : p ∣ lnc ρ M (scF p m r) q - m * lnc ρ M r q := by
  have l := hr.1
  have := lnc_congr (ρ := ρ) (M := M) (a := scF p m r) (f := fun i => m * r.getD i 0) (fun i hi => by
    rw [scF_get (by omega), Int.mul_comm m]
    exact tmod_dvd (Int.mul_nonneg (hr.2 i (by omega)).1 hm) hp) q
  have e : sm (fun i => m * r.getD i 0 * (ρ i).getD q 0) M = m * lnc ρ M r q := by
    unfold lnc
    rw [← sm_mul]
    exact sm_ext fun k _ => Int.mul_assoc _ _ _
  rwa [e] at this

theorem ehN_get {M i k : Nat} (hi : i < M) (hk : k < M) : (ehN M i).getD k 0 = if k = i then 1 else 0 := by
  unfold ehN
  rw [getD_set _ _ _ _ (by rw [List.length_replicate]; exact hk)]
  split
  · rfl
  · simp [List.getD, hk]

theorem lnc_eh {ρ : Nat → List Int} {M i : Nat} (hi : i < M) (q : Nat) : lnc ρ M (ehN M i) q = (ρ i).getD q 0 := by
  unfold lnc
  rw [sm_ext (g := fun k => if k = i then (ρ i).getD q 0 else 0) fun k hk => by
    rw [ehN_get hi hk]
    split
    · rename_i h; subst h; simp
    · simp, sm_delta, if_pos hi]

theorem lnc_zero (ρ : Nat → List Int) (M q : Nat) : lnc ρ M (List.replicate M 0) q = 0 := by
  unfold lnc
  rw [sm_ext (g := fun _ => (0 : Int) * 0) fun k hk => by simp [List.getD, hk], sm_mul]
  simp

theorem ngF_get {p : Int} {s : List Int} {q : Nat} (hq : q < s.length) : (ngF p s).getD q 0 = (p - s.getD q 0).tmod p := by rw [ngF, tab_getD _ _ _ hq]

theorem ngF_rw {p : Int} (hp : 1 ≤ p) {M : Nat} {s : List Int} (hs : rwP p M s) : rwP p M (ngF p s) := by
  refine ⟨by rw [ngF_length]; exact hs.1, fun q hq => ?_⟩
  rw [ngF_length] at hq
  rw [ngF_get hq]
  have a := hs.2 q hq
  have b := Int.tmod_lt_of_pos (p - s.getD q 0) (show 0 < p by omega)
  have c := Int.tmod_nonneg p (show 0 ≤ p - s.getD q 0 by omega)
  omega

theorem lnc_ng {p : Int} (hp : 1 ≤ p) {ρ : Nat → List Int} {M : Nat} {s : List Int} (hs : rwP p M s) (q : Nat) : p ∣ lnc ρ M (ngF p s) q + lnc ρ M s q := by
  have l := hs.1
  have := lnc_congr (ρ := ρ) (M := M) (a := ngF p s) (f := fun i => -1 * s.getD i 0) (fun i hi => by
    rw [ngF_get (by omega)]
    have a := hs.2 i (by omega)
    have d := tmod_dvd (a := p - s.getD i 0) (p := p) (by omega) hp
    have := Int.dvd_add d (Int.dvd_refl p)
    rwa [show (p - s.getD i 0).tmod p - (p - s.getD i 0) + p = (p - s.getD i 0).tmod p - -1 * s.getD i 0 by omega] at this) q
  have e : sm (fun i => -1 * s.getD i 0 * (ρ i).getD q 0) M = -1 * lnc ρ M s q := by
    unfold lnc
    rw [← sm_mul]
    exact sm_ext fun k _ => Int.mul_assoc _ _ _
  rw [e] at this
  rwa [show lnc ρ M (ngF p s) q - -1 * lnc ρ M s q = lnc ρ M (ngF p s) q + lnc ρ M s q by omega] at this

/-- What a source gives is, up to a constant, what is left of the row. -/
theorem src_lin {p : Int} {N M : Nat} {B S : List (List Int)} {ρ : Nat → List Int} (hp : 2 ≤ p) (h : FlOk p N M B S) (hL : ∀ k, k < B.length → ∀ q, q < N → p ∣ lnc ρ M (S.getD k []) q - at2 B k q)
    {r s : List Int} (hr : rwP p N r) (hs : rwP p M s) : ∀ k, k ≤ B.length → ∀ q, q < N → p ∣ (lnc ρ M (srcN p B S (ldN B) r s k) q - (redN p B (ldN B) r k).getD q 0) - (lnc ρ M s q - r.getD q 0)
  | 0, _, q, _ => by
    show p ∣ (lnc ρ M s q - r.getD q 0) - (lnc ρ M s q - r.getD q 0)
    rw [Int.sub_self]; exact Int.dvd_zero _
  | k + 1, hk, q, hq => by
    have ih := src_lin hp h hL hr hs k (by omega) q hq
    have hrk := (red_ok hp h.bas hr k (by omega)).1
    have hsk := srcN_ok hp h hr hs k (by omega)
    have l1 := hrk.1
    have c := hrk.2 (ldN B k) (by have := h.bas.piv k (by omega); omega)
    have hl := h.len
    have bk := h.bas.row k (by omega)
    have sk := h.src k (by omega)
    simp only [redN, srcN]
    split
    · generalize hm : p - (redN p B (ldN B) r k).getD (ldN B k) 0 = m
      have a := lnc_st (ρ := ρ) (m := m) (by omega) (by omega) sk hsk q
      have b := stF_mod (t := m) (by omega) (by omega) bk hrk hq
      have d : p ∣ m * (lnc ρ M (S.getD k []) q - at2 B k q) := Int.dvd_mul_of_dvd_right (hL k (by omega) q hq)
      rw [Int.mul_sub] at d
      have e := Int.dvd_add (Int.dvd_add (Int.dvd_sub a b) d) ih
      have f : at2 B k q = (B.getD k []).getD q 0 := rfl
      rw [f] at e
      generalize lnc ρ M (stF p m (S.getD k []) (srcN p B S (ldN B) r s k)) q = x1 at *
      generalize (stF p m (B.getD k []) (redN p B (ldN B) r k)).getD q 0 = x2 at *
      generalize m * lnc ρ M (S.getD k []) q = x3 at *
      generalize m * (B.getD k []).getD q 0 = x4 at *
      generalize lnc ρ M (srcN p B S (ldN B) r s k) q = x5 at *
      rwa [show x1 - (x5 + x3) - (x2 - ((redN p B (ldN B) r k).getD q 0 + x4)) + (x3 - x4) + (x5 - (redN p B (ldN B) r k).getD q 0 - (lnc ρ M s q - r.getD q 0)) = x1 - x2 - (lnc ρ M s q - r.getD q 0) by omega] at e
    · exact ih

/-- The rows from 0 on. -/
def rwL (ρ : Nat → List Int) (i : Nat) : List (List Int) := (List.range i).map ρ
theorem rwL_succ (ρ : Nat → List Int) (i : Nat) : rwL ρ (i + 1) = rwL ρ i ++ [ρ i] := by simp [rwL, List.range_succ]

theorem fl_inv {p : Int} (hp : primeB p = true) {N M : Nat} {ρ : Nat → List Int} : ∀ i, i ≤ M → (∀ j, j < i → rwP p N (ρ j)) →
    (∀ v, SpP p N (flN p ρ M i).1 v ↔ SpP p N (rwL ρ i) v) ∧ ∀ k, k < (flN p ρ M i).1.length → ∀ q, q < N → p ∣ lnc ρ M ((flN p ρ M i).2.getD k []) q - at2 (flN p ρ M i).1 k q
  | 0, _, _ => ⟨fun v => Iff.rfl, fun k hk => by simp [flN] at hk⟩
  | i + 1, hi, hρ => by
    obtain ⟨p2, p7⟩ := primeB_le hp
    obtain ⟨hA, hL⟩ := fl_inv hp (N := N) (M := M) (ρ := ρ) i (by omega) fun j hj => hρ j (by omega)
    obtain ⟨_, h⟩ := flN_ok hp (N := N) (M := M) (ρ := ρ) i fun j hj => hρ j (by omega)
    have hr := hρ i (by omega)
    obtain ⟨r1, r2, _⟩ := red_ok p2 h.bas hr (flN p ρ M i).1.length (Nat.le_refl _)
    have rz := red_zero p2 h.bas hr
    have eh : rwP p M (ehN M i) := ⟨ehN_length M i, ehN_in p2 M i⟩
    have s1 := srcN_ok p2 h hr eh _ (Nat.le_refl _)
    have lin := src_lin (ρ := ρ) p2 h hL hr eh _ (Nat.le_refl _)
    rw [rwL_succ, flN_step]
    generalize hB : (flN p ρ M i).1 = B at *
    generalize hS : (flN p ρ M i).2 = S at *
    generalize hss : srcN p B S (ldN B) (ρ i) (ehN M i) B.length = u at *
    by_cases hl : 0 ≤ ldF (redN p B (ldN B) (ρ i) B.length)
    · rw [if_pos hl]
      have n := scF_nrm hp r1 hl
      refine ⟨span_step p2 h.bas hr hA n, fun k hk q hq => ?_⟩
      generalize hrr : redN p B (ldN B) (ρ i) B.length = r at *
      have y := ld_yes hl
      have l1 := r1.1
      have c := r1.2 _ y.1
      have iv := ivM_ok hp (a := r.getD (ldF r).toNat 0) (by omega) (by omega)
      have gl := h.len
      dsimp only at hk ⊢
      by_cases e : k < B.length
      · rw [snoc_get _ _ (show k < S.length by omega), at2_app _ _ e]; exact hL k e q hq
      · have : k = B.length := by simp at hk; omega
        subst this
        rw [at2_last, ← gl, show (S ++ [scF p (ivM p (r.getD (ldF r).toNat 0)) u]).getD S.length [] = scF p (ivM p (r.getD (ldF r).toNat 0)) u by simp [List.getD]]
        generalize ivM p (r.getD (ldF r).toNat 0) = m at *
        have a := lnc_sc (ρ := ρ) (p := p) (m := m) (by omega) (by omega) s1 q
        have b : p ∣ (scF p m r).getD q 0 - m * r.getD q 0 := by
          rw [scF_get (by omega), Int.mul_comm m]
          exact tmod_dvd (Int.mul_nonneg (r1.2 q (by omega)).1 (by omega)) (by omega)
        have d := lin q hq
        rw [lnc_eh (by omega), Int.sub_self, Int.sub_zero] at d
        have d : p ∣ m * (lnc ρ M u q - r.getD q 0) := Int.dvd_mul_of_dvd_right d
        rw [Int.mul_sub] at d
        have e := Int.dvd_add (Int.dvd_sub a b) d
        rwa [show lnc ρ M (scF p m u) q - m * lnc ρ M u q - ((scF p m r).getD q 0 - m * r.getD q 0) + (m * lnc ρ M u q - m * r.getD q 0) = lnc ρ M (scF p m u) q - (scF p m r).getD q 0 by omega] at e
    · rw [if_neg hl]
      simp only [hB, hS]
      exact ⟨span_skip hA (rz.1 (by omega)), hL⟩

theorem bd_lin {t : List (List Int)} {p : Int} (hp : 2 ≤ p) {K : Nat} {c : List Int} (hc : inP p c) : ∀ i, i ≤ c.length → rwP p (t.length ^ (K - 1)) (bdF t p K c i) ∧ ∀ q, q < t.length ^ (K - 1) → p ∣ (bdF t p K c i).getD q 0 - sm (fun j => c.getD j 0 * (btF t p K j).getD q 0) i
  | 0, _ => ⟨⟨List.length_replicate .., rep_in (by omega) _⟩, fun q hq => by simp [bdF, sm, List.getD, hq]⟩
  | i + 1, hi => by
    obtain ⟨h1, h2⟩ := bd_lin hp hc (t := t) (K := K) i (by omega)
    have b := btF_ok t hp K i
    have ci := hc i (by omega)
    have eb : ptF t p (digN (t.length : Int) K (i : Int)) K = btF t p K i := rfl
    simp only [bdF, sm]
    split
    · rename_i z
      refine ⟨h1, fun q hq => ?_⟩
      rw [z, Int.zero_mul, Int.add_zero]
      exact h2 q hq
    · refine ⟨by rw [eb]; exact stF_rw (by omega) ci.1 b h1, fun q hq => ?_⟩
      rw [eb]
      have a := stF_mod (by omega) ci.1 b h1 hq
      have e := Int.dvd_add a (h2 q hq)
      rwa [show (stF p (c.getD i 0) (btF t p K i) (bdF t p K c i)).getD q 0 - ((bdF t p K c i).getD q 0 + c.getD i 0 * (btF t p K i).getD q 0) + ((bdF t p K c i).getD q 0 - sm (fun j => c.getD j 0 * (btF t p K j).getD q 0) i) =
        (stF p (c.getD i 0) (btF t p K i) (bdF t p K c i)).getD q 0 - (sm (fun j => c.getD j 0 * (btF t p K j).getD q 0) i + c.getD i 0 * (btF t p K i).getD q 0) by omega] at e

theorem mod_eq {p x y : Int} (hx : 0 ≤ x ∧ x ≤ p - 1) (hy : 0 ≤ y ∧ y ≤ p - 1) (h : p ∣ x - y) : x = y := by
  have a := Int.emod_emod_of_dvd x (Int.dvd_refl p)
  have := Int.emod_eq_emod_iff_emod_sub_eq_zero.2 (Int.emod_eq_zero_of_dvd h)
  rwa [Int.emod_eq_of_lt hx.1 (by omega), Int.emod_eq_of_lt hy.1 (by omega)] at this

section
variable {t : List (List Int)} {p : Int} (hp : primeB p = true) {K : Nat} {c : List Int}
include hp

/-- A filling's boundary is the chain. -/
theorem fill_bd (hc : rwP p (t.length ^ (K - 1)) c) (h : (flV t p K c).2 = true) : rwP p (t.length ^ K) (flV t p K c).1 ∧ bdF t p K (flV t p K c).1 (flV t p K c).1.length = c := by
  obtain ⟨p2, p7⟩ := primeB_le hp
  have B0 := fun j => btF_ok t p2 K j
  obtain ⟨_, G⟩ := flN_ok hp (N := t.length ^ (K - 1)) (M := t.length ^ K) (ρ := btF t p K) (t.length ^ K) fun j _ => B0 j
  obtain ⟨_, hL⟩ := fl_inv hp (N := t.length ^ (K - 1)) (M := t.length ^ K) (ρ := btF t p K) (t.length ^ K) (Nat.le_refl _) fun j _ => B0 j
  have hs : rwP p (t.length ^ K) (List.replicate (t.length ^ K) 0) := ⟨List.length_replicate .., rep_in (by omega) _⟩
  have s1 := srcN_ok p2 G hc hs _ (Nat.le_refl _)
  have lin := src_lin p2 G hL hc hs _ (Nat.le_refl _)
  have e1 : flR t p K c = (redN p (flN p (btF t p K) (t.length ^ K) (t.length ^ K)).1 (ldN (flN p (btF t p K) (t.length ^ K) (t.length ^ K)).1) c (flN p (btF t p K) (t.length ^ K) (t.length ^ K)).1.length,
   srcN p (flN p (btF t p K) (t.length ^ K) (t.length ^ K)).1 (flN p (btF t p K) (t.length ^ K) (t.length ^ K)).2 (ldN (flN p (btF t p K) (t.length ^ K) (t.length ^ K)).1) c (List.replicate (t.length ^ K) 0) (flN p (btF t p K) (t.length ^ K) (t.length ^ K)).1.length) := rfl
  unfold flV at h ⊢
  rw [e1] at h ⊢
  generalize redN p (flN p (btF t p K) (t.length ^ K) (t.length ^ K)).1 (ldN (flN p (btF t p K) (t.length ^ K) (t.length ^ K)).1) c (flN p (btF t p K) (t.length ^ K) (t.length ^ K)).1.length = r at *
  generalize srcN p (flN p (btF t p K) (t.length ^ K) (t.length ^ K)).1 (flN p (btF t p K) (t.length ^ K) (t.length ^ K)).2 (ldN (flN p (btF t p K) (t.length ^ K) (t.length ^ K)).1) c (List.replicate (t.length ^ K) 0) (flN p (btF t p K) (t.length ^ K) (t.length ^ K)).1.length = u at *
  dsimp only at h ⊢
  by_cases hl : 0 ≤ ldF r
  · rw [if_pos hl] at h; cases h
  rw [if_neg hl]
  dsimp only
  have ng := ngF_rw (p := p) (by omega) s1
  refine ⟨ng, ?_⟩
  have nl := ng.1
  obtain ⟨b1, b2⟩ := bd_lin (t := t) p2 (K := K) ng.2 (ngF p u).length (Nat.le_refl _)
  have bl := b1.1
  have cl := hc.1
  refine ext_getD (by omega) fun q hq => ?_
  refine mod_eq (p := p) (b1.2 q hq) (hc.2 q (by omega)) ?_
  have a := b2 q (by omega)
  have d := lnc_ng (ρ := btF t p K) (p := p) (by omega) s1 q
  have f := lin q (by omega)
  rw [lnc_zero, ld_no (by omega : ldF r < 0) q] at f
  have e2 : sm (fun j => (ngF p u).getD j 0 * (btF t p K j).getD q 0) (ngF p u).length = lnc (btF t p K) (t.length ^ K) (ngF p u) q := by rw [nl]; rfl
  rw [e2] at a
  have g := Int.dvd_sub (Int.dvd_add a d) f
  rwa [show (bdF t p K (ngF p u) (ngF p u).length).getD q 0 - lnc (btF t p K) (t.length ^ K) (ngF p u) q + (lnc (btF t p K) (t.length ^ K) (ngF p u) q + lnc (btF t p K) (t.length ^ K) u q) - (lnc (btF t p K) (t.length ^ K) u q - 0 - (0 - c.getD q 0)) =
    (bdF t p K (ngF p u) (ngF p u).length).getD q 0 - c.getD q 0 by omega] at g

/-- Each boundary has a filling. -/
theorem bd_fill (hc : rwP p (t.length ^ K) c) : (flV t p K (bdF t p K c c.length)).2 = true := by
  obtain ⟨p2, p7⟩ := primeB_le hp
  have B0 := fun j => btF_ok t p2 K j
  obtain ⟨_, G⟩ := flN_ok hp (N := t.length ^ (K - 1)) (M := t.length ^ K) (ρ := btF t p K) (t.length ^ K) fun j _ => B0 j
  obtain ⟨hA, _⟩ := fl_inv hp (N := t.length ^ (K - 1)) (M := t.length ^ K) (ρ := btF t p K) (t.length ^ K) (Nat.le_refl _) fun j _ => B0 j
  obtain ⟨b1, b2⟩ := bd_lin (t := t) p2 (K := K) hc.2 c.length (Nat.le_refl _)
  have sp : SpP p (t.length ^ (K - 1)) (rwL (btF t p K) (t.length ^ K)) (fun q => (bdF t p K c c.length).getD q 0) := by
    refine ⟨fun j => c.getD j 0, fun q hq => ?_⟩
    have a := b2 q hq
    have cl := hc.1
    have e : sm (fun k => c.getD k 0 * at2 (rwL (btF t p K) (t.length ^ K)) k q) (rwL (btF t p K) (t.length ^ K)).length = sm (fun j => c.getD j 0 * (btF t p K j).getD q 0) c.length := by
      rw [show (rwL (btF t p K) (t.length ^ K)).length = c.length by simp [rwL, cl]]
      refine sm_ext fun k hk => ?_
      have : (rwL (btF t p K) (t.length ^ K)).getD k [] = btF t p K k := by simp [rwL, List.getD, show k < t.length ^ K by omega]
      rw [at2, this]
    rw [e]; exact a
  have z := (red_zero p2 G.bas b1).2 ((hA _).2 sp)
  unfold flV
  rw [if_neg]
  have e1 : (flR t p K (bdF t p K c c.length)).1 = redN p (flN p (btF t p K) (t.length ^ K) (t.length ^ K)).1 (ldN (flN p (btF t p K) (t.length ^ K) (t.length ^ K)).1) (bdF t p K c c.length) (flN p (btF t p K) (t.length ^ K) (t.length ^ K)).1.length := rfl
  rw [e1]
  omega
end

end Go.Sx
end

section
open Go Go.Proofs
namespace Go.Sx
set_option linter.unusedSimpArgs false
set_option linter.unusedVariables false

def primeD (code : List Int) (a h : Int) : Int × Int × Int :=
  let b := nxA code.length a 20
  let g := nxH h 20
  if nxV code a h 20 = 0 then (([4, 1, 11, 0, -2] : List Int).getD (nxV code b g 5).toNat 0, nxA code.length b 5, nxH g 5)
  else (([2, 3, 5, 7, 2, 3] : List Int).getD (nxV code b g 6).toNat 0, nxA code.length b 6, nxH g 6)

def l15DrawPrime_p (code : List Int) (a : Int) (h : Int) : Post := ⟨bytesB code ∧ 0 ≤ a ∧ a ≤ (code.length : Int) ∧ code.length ≤ 4096, .c (.int .i64 ((primeD code a h).1)), [.bx [.ints .u8 (code), .int .i64 ((primeD code a h).2.1), .int .u64 ((primeD code a h).2.2)]]⟩
def l15DrawPrime_ct : List AD → Option Post
  | [.box [.ints .u8 (code), .int .i64 (a), .int .u64 (h)]] => some (l15DrawPrime_p code a h)
  | _ => none
def l15DrawPrime_G : List (Nat × Ctr) := [(53, ⟨[(0, 0)], l01Next_ct⟩), (90, ⟨[(0, 0)], l01Pick_ct⟩)]
def l15DrawPrime_V (code : List Int) (a : Int) (h : Int) : Prop :=
  ((((bytesB code) ∧
 (((0 : Int) ≤ a) ∧
 (a ≤ (1099511627776 : Int)))) ∧
 ((code = code) ∧
 (True))) ∧
 (BrP (nxV code a h (20 : Int) == (0 : Int))
 ((((bytesB code) ∧
 (((0 : Int) ≤ nxA (List.length code) a (20 : Int)) ∧
 ((nxA (List.length code) a (20 : Int) ≤ (1099511627776 : Int)) ∧
 (((1 : Nat) ≤ List.length [(4 : Int), (1 : Int), (11 : Int), (0 : Int), (-2 : Int)]) ∧
 (List.length [(4 : Int), (1 : Int), (11 : Int), (0 : Int), (-2 : Int)] ≤ (100 : Nat)))))) ∧
 ((code = code) ∧
 (True))) ∧
 ((List.getD [(4 : Int), (1 : Int), (11 : Int), (0 : Int), (-2 : Int)] (Int.toNat (nxV code (nxA (List.length code) a (20 : Int)) (nxH h (20 : Int)) (↑(List.length [(4 : Int), (1 : Int), (11 : Int), (0 : Int), (-2 : Int)]) : Int))) (0 : Int) = Prod.fst (primeD code a h)) ∧
 (((code = code) ∧
 ((nxA (List.length code) (nxA (List.length code) a (20 : Int)) (↑(List.length [(4 : Int), (1 : Int), (11 : Int), (0 : Int), (-2 : Int)]) : Int) = Prod.fst (Prod.snd (primeD code a h))) ∧
 ((nxH (nxH h (20 : Int)) (↑(List.length [(4 : Int), (1 : Int), (11 : Int), (0 : Int), (-2 : Int)]) : Int) = Prod.snd (Prod.snd (primeD code a h))) ∧
 (True)))) ∧
 (True))))
 ((((bytesB code) ∧
 (((0 : Int) ≤ nxA (List.length code) a (20 : Int)) ∧
 ((nxA (List.length code) a (20 : Int) ≤ (1099511627776 : Int)) ∧
 (((1 : Nat) ≤ List.length [(2 : Int), (3 : Int), (5 : Int), (7 : Int), (2 : Int), (3 : Int)]) ∧
 (List.length [(2 : Int), (3 : Int), (5 : Int), (7 : Int), (2 : Int), (3 : Int)] ≤ (100 : Nat)))))) ∧
 ((code = code) ∧
 (True))) ∧
 ((List.getD [(2 : Int), (3 : Int), (5 : Int), (7 : Int), (2 : Int), (3 : Int)] (Int.toNat (nxV code (nxA (List.length code) a (20 : Int)) (nxH h (20 : Int)) (↑(List.length [(2 : Int), (3 : Int), (5 : Int), (7 : Int), (2 : Int), (3 : Int)]) : Int))) (0 : Int) = Prod.fst (primeD code a h)) ∧
 (((code = code) ∧
 ((nxA (List.length code) (nxA (List.length code) a (20 : Int)) (↑(List.length [(2 : Int), (3 : Int), (5 : Int), (7 : Int), (2 : Int), (3 : Int)]) : Int) = Prod.fst (Prod.snd (primeD code a h))) ∧
 ((nxH (nxH h (20 : Int)) (↑(List.length [(2 : Int), (3 : Int), (5 : Int), (7 : Int), (2 : Int), (3 : Int)]) : Int) = Prod.snd (Prod.snd (primeD code a h))) ∧
 (True)))) ∧
 (True))))))
theorem l15DrawPrime_vc (code : List Int) (a : Int) (h : Int) : runF Try.prog (gam l15DrawPrime_G) noWr noAnn Try.f45 (bodyOf Try.f45) [(0, 0)] [.box [.ints .u8 (code), .int .i64 (a), .int .u64 (h)]] (l15DrawPrime_p code a h) = l15DrawPrime_V code a h := by kernel_rfl
theorem l15DrawPrime_ok (code : List Int) (a : Int) (h : Int) (hpre : (l15DrawPrime_p code a h).pre) : l15DrawPrime_V code a h := by
  simp only [l15DrawPrime_p, l15DrawPrime_V, BrP_iff, true_and, and_true, decide_eq_true_eq, decide_eq_false_iff_not, bne_iff_ne, beq_iff_eq, bne_eq_false_iff_eq, beq_eq_false_iff_ne, Bool.not_eq_true, Bool.not_eq_false, Bool.not_true, Bool.not_false, Bool.not_eq_eq_eq_not, Int.toNat_natCast, List.length_append, List.length_take, List.length_replicate, List.length_set, List.length_map, List.length_drop, List.length_nil, List.length_cons, markL_length, inB, InR, room, bdsOk] at hpre ⊢
  obtain ⟨hb, h0, h1, h2⟩ := hpre
  have s := nxA_in (n := 20) h0 h1
  refine ⟨⟨hb, h0, by omega⟩, fun z => ?_, fun z => ?_⟩
  · simp only [primeD, if_pos z]; exact ⟨⟨hb, s.1, by omega, by omega, by omega⟩, rfl, rfl, rfl⟩
  · simp only [primeD, if_neg z]; exact ⟨⟨hb, s.1, by omega, by omega, by omega⟩, rfl, rfl, rfl⟩
theorem l15DrawPrime_fits : Fits Try.prog 45 ⟨[(0, 0)], l15DrawPrime_ct⟩ := by
  refine fits_fn (Γ := gam l15DrawPrime_G) (gok_cons l01Next_fits (gok_cons l01Pick_fits gok_nil)) Try.func45 (by kernel_rfl) (by kernel_rfl) (by kernel_rfl) fun ds p h hp => ?_
  unfold l15DrawPrime_ct at h
  split at h
  · cases h
    exact ⟨noWr, noAnn, by rw [l15DrawPrime_vc]; exact l15DrawPrime_ok _ _ _  hp⟩
  · cases h

def pwV (n k : Int) : Int := if n = 0 then 1 else if n ^ k.toNat ≤ 512 then n ^ k.toNat else 513

def l15PowerG_p (n : Int) (k : Int) : Post := ⟨0 ≤ n ∧ n ≤ 12 ∧ 0 ≤ k ∧ k ≤ 1000, .c (.int .i64 (pwV n k)), []⟩
def l15PowerG_ct : List AD → Option Post
  | [.c (.int .i64 (n)), .c (.int .i64 (k))] => some (l15PowerG_p n k)
  | _ => none
def l15PowerG_ann (n : Int) (k : Int) : Nat → Option Ann
  | 0 => some (Ann.mk ((Nat)) (fun i => ⟨[(0, .c (.int .i64 (n))), (1, .c (.int .i64 (k - (i : Int)))), (5, .c (.int .i64 (n ^ i)))], []⟩) (fun i => i ≤ k.toNat ∧ n ^ i ≤ 512 ∧ (n = 0 → i = 0)) (fun i => k.toNat - i) (fun _ => noAnn))
  | _ => none
def l15PowerG_G : List (Nat × Ctr) := []
def l15PowerG_V (n : Int) (k : Int) : Prop :=
  ((∃ x0 : Nat, (((x0 ≤ Int.toNat k) ∧
 ((n ^ x0 ≤ (512 : Int)) ∧
 (n = (0 : Int) → x0 = (0 : Nat)))) ∧
 ((n = n) ∧
 ((k = k - (↑x0 : Int)) ∧
 ((1 : Int) = n ^ x0))))) ∧
 (∀ x1 : Nat, (((x1 ≤ Int.toNat k) ∧
 ((n ^ x1 ≤ (512 : Int)) ∧
 (n = (0 : Int) → x1 = (0 : Nat)))) →
 (BrP (Decidable.decide ((0 : Int) < k - (↑x1 : Int)))
 (BrP (Decidable.decide ((1 : Int) < n))
 ((InR (n ^ x1 * n)) ∧
 (BrP (Decidable.decide ((512 : Int) < n ^ x1 * n))
 (((513 : Int) = pwV n k) ∧
 (True))
 ((InR (k - (↑x1 : Int) - (1 : Int))) ∧
 (∃ x2 : Nat, (((x2 ≤ Int.toNat k) ∧
 ((n ^ x2 ≤ (512 : Int)) ∧
 (n = (0 : Int) → x2 = (0 : Nat)))) ∧
 ((Int.toNat k - x2 < Int.toNat k - x1) ∧
 ((n = n) ∧
 ((k - (↑x1 : Int) - (1 : Int) = k - (↑x2 : Int)) ∧
 (n ^ x1 * n = n ^ x2)))))))))
 ((n ^ x1 = pwV n k) ∧
 (True)))
 ((n ^ x1 = pwV n k) ∧
 (True))))))
theorem l15PowerG_vc (n : Int) (k : Int) : runF Try.prog (gam l15PowerG_G) noWr (l15PowerG_ann n k) Try.f64 (bodyOf Try.f64) [] [.c (.int .i64 (n)), .c (.int .i64 (k))] (l15PowerG_p n k) = l15PowerG_V n k := by kernel_rfl
theorem l15PowerG_ok (n : Int) (k : Int) (hpre : (l15PowerG_p n k).pre) : l15PowerG_V n k := by
  simp only [l15PowerG_p, l15PowerG_V, BrP_iff, true_and, and_true, decide_eq_true_eq, decide_eq_false_iff_not, bne_iff_ne, beq_iff_eq, bne_eq_false_iff_eq, beq_eq_false_iff_ne, Bool.not_eq_true, Bool.not_eq_false, Bool.not_true, Bool.not_false, Bool.not_eq_eq_eq_not, Int.toNat_natCast, List.length_append, List.length_take, List.length_replicate, List.length_set, List.length_map, List.length_drop, List.length_nil, List.length_cons, markL_length, inB, InR, room, bdsOk] at hpre ⊢
  obtain ⟨h1, h2, h3, h4⟩ := hpre
  refine ⟨⟨0, ⟨by omega, by simp, fun _ => rfl⟩, by simp, by simp⟩, fun i ⟨hi, hp, hz⟩ => ⟨fun h => ⟨fun hn => ?_, fun hn => ?_⟩, fun h => ?_⟩⟩
  · have h1 : 1 ≤ n := by omega
    have e : n ^ i * n = n ^ (i + 1) := (Int.pow_succ n i).symm
    have pos := pow_pos' h1 (i + 1)
    have le := Int.mul_le_mul hp h2 (by omega) (by omega)
    refine ⟨by omega, fun h5 => ?_, fun h5 => ⟨by omega, i + 1, ⟨by omega, by omega, fun z => by omega⟩, by omega, by omega, e⟩⟩
    have := pow_le h1 (show i + 1 ≤ k.toNat by omega)
    rw [pwV, if_neg (by omega), if_neg (by omega)]
  · by_cases z : n = 0
    · rw [hz z, pwV, if_pos z]; simp
    · obtain rfl : n = 1 := by omega
      simp [pwV, pow_one']
  · by_cases z : n = 0
    · rw [hz z, pwV, if_pos z]; simp
    · rw [show i = k.toNat by omega] at hp ⊢
      rw [pwV, if_neg z, if_pos hp]
theorem l15PowerG_fits : Fits Try.prog 64 ⟨[], l15PowerG_ct⟩ := by
  refine fits_fn (Γ := gam l15PowerG_G) gok_nil Try.func64 (by kernel_rfl) (by kernel_rfl) (by kernel_rfl) fun ds p h hp => ?_
  unfold l15PowerG_ct at h
  split at h
  · cases h
    exact ⟨noWr, l15PowerG_ann _ _ , by rw [l15PowerG_vc]; exact l15PowerG_ok _ _  hp⟩
  · cases h

def kU (n most : Int) : Nat → Int → Int
  | 0, k => k
  | f + 1, k => if pwV n (k + 1) ≤ most then kU n most f (k + 1) else k

def degD (code : List Int) (a h n most : Int) : Int × Int × Int :=
  let b := nxA code.length a 20
  let g := nxH h 20
  if nxV code a h 20 = 0 then (([-1, 4, 5, 9, 10, 1001] : List Int).getD (nxV code b g 6).toNat 0, nxA code.length b 6, nxH g 6)
  else (nxV code b g (kU n most 4 0 + 1), nxA code.length b (kU n most 4 0 + 1), nxH g (kU n most 4 0 + 1))

def l15Degree_p (code : List Int) (a : Int) (h : Int) (n : Int) (most : Int) : Post := ⟨bytesB code ∧ 0 ≤ a ∧ a ≤ (code.length : Int) ∧ code.length ≤ 4096 ∧ 0 ≤ n ∧ n ≤ 12, .c (.int .i64 ((degD code a h n most).1)), [.bx [.ints .u8 (code), .int .i64 ((degD code a h n most).2.1), .int .u64 ((degD code a h n most).2.2)]]⟩
def l15Degree_ct : List AD → Option Post
  | [.box [.ints .u8 (code), .int .i64 (a), .int .u64 (h)], .c (.int .i64 (n)), .c (.int .i64 (most))] => some (l15Degree_p code a h n most)
  | _ => none
def l15Degree_ann (code : List Int) (a : Int) (h : Int) (n : Int) (most : Int) : Nat → Option Ann
  | 0 => some (Ann.mk ((Nat)) (fun k => ⟨[(0, .c (.ptr 700 0)), (1, .c (.int .i64 (n))), (2, .c (.int .i64 (most))), (7, .c (.int .i64 ((k : Int))))], [(700, some (.box [.orig 700 0 (.ints .u8 (code)), .int .i64 (nxA code.length a 20), .int .u64 (nxH h 20)]))]⟩) (fun k => k ≤ 4 ∧ nxV code a h 20 ≠ 0 ∧ kU n most 4 0 = kU n most (4 - k) (k : Int)) (fun k => 4 - k) (fun _ => noAnn))
  | _ => none
def l15Degree_G : List (Nat × Ctr) := [(53, ⟨[(0, 0)], l01Next_ct⟩), (90, ⟨[(0, 0)], l01Pick_ct⟩), (64, ⟨[], l15PowerG_ct⟩)]
def l15Degree_V (code : List Int) (a : Int) (h : Int) (n : Int) (most : Int) : Prop :=
  ((((bytesB code) ∧
 (((0 : Int) ≤ a) ∧
 (a ≤ (1099511627776 : Int)))) ∧
 ((code = code) ∧
 (True))) ∧
 (BrP (nxV code a h (20 : Int) == (0 : Int))
 ((((bytesB code) ∧
 (((0 : Int) ≤ nxA (List.length code) a (20 : Int)) ∧
 ((nxA (List.length code) a (20 : Int) ≤ (1099511627776 : Int)) ∧
 (((1 : Nat) ≤ List.length [(-1 : Int), (4 : Int), (5 : Int), (9 : Int), (10 : Int), (1001 : Int)]) ∧
 (List.length [(-1 : Int), (4 : Int), (5 : Int), (9 : Int), (10 : Int), (1001 : Int)] ≤ (100 : Nat)))))) ∧
 ((code = code) ∧
 (True))) ∧
 ((List.getD [(-1 : Int), (4 : Int), (5 : Int), (9 : Int), (10 : Int), (1001 : Int)] (Int.toNat (nxV code (nxA (List.length code) a (20 : Int)) (nxH h (20 : Int)) (↑(List.length [(-1 : Int), (4 : Int), (5 : Int), (9 : Int), (10 : Int), (1001 : Int)]) : Int))) (0 : Int) = Prod.fst (degD code a h n most)) ∧
 (((code = code) ∧
 ((nxA (List.length code) (nxA (List.length code) a (20 : Int)) (↑(List.length [(-1 : Int), (4 : Int), (5 : Int), (9 : Int), (10 : Int), (1001 : Int)]) : Int) = Prod.fst (Prod.snd (degD code a h n most))) ∧
 ((nxH (nxH h (20 : Int)) (↑(List.length [(-1 : Int), (4 : Int), (5 : Int), (9 : Int), (10 : Int), (1001 : Int)]) : Int) = Prod.snd (Prod.snd (degD code a h n most))) ∧
 (True)))) ∧
 (True))))
 ((∃ x0 : Nat, (((x0 ≤ (4 : Nat)) ∧
 ((nxV code a h (20 : Int) ≠ (0 : Int)) ∧
 (kU n most (4 : Nat) (0 : Int) = kU n most ((4 : Nat) - x0) (↑x0 : Int)))) ∧
 ((n = n) ∧
 ((most = most) ∧
 (((0 : Int) = (↑x0 : Int)) ∧
 ((code = code) ∧
 ((nxA (List.length code) a (20 : Int) = nxA (List.length code) a (20 : Int)) ∧
 (nxH h (20 : Int) = nxH h (20 : Int))))))))) ∧
 (∀ x1 : Nat, (((x1 ≤ (4 : Nat)) ∧
 ((nxV code a h (20 : Int) ≠ (0 : Int)) ∧
 (kU n most (4 : Nat) (0 : Int) = kU n most ((4 : Nat) - x1) (↑x1 : Int)))) →
 (BrP (Decidable.decide ((↑x1 : Int) < (4 : Int)))
 ((InR ((↑x1 : Int) + (1 : Int))) ∧
 (((((0 : Int) ≤ n) ∧
 ((n ≤ (12 : Int)) ∧
 (((0 : Int) ≤ (↑x1 : Int) + (1 : Int)) ∧
 ((↑x1 : Int) + (1 : Int) ≤ (1000 : Int))))) ∧
 (True)) ∧
 (BrP (Decidable.decide (pwV n ((↑x1 : Int) + (1 : Int)) ≤ most))
 ((InR ((↑x1 : Int) + (1 : Int))) ∧
 (∃ x2 : Nat, (((x2 ≤ (4 : Nat)) ∧
 ((nxV code a h (20 : Int) ≠ (0 : Int)) ∧
 (kU n most (4 : Nat) (0 : Int) = kU n most ((4 : Nat) - x2) (↑x2 : Int)))) ∧
 (((4 : Nat) - x2 < (4 : Nat) - x1) ∧
 ((n = n) ∧
 ((most = most) ∧
 (((↑x1 : Int) + (1 : Int) = (↑x2 : Int)) ∧
 ((code = code) ∧
 ((nxA (List.length code) a (20 : Int) = nxA (List.length code) a (20 : Int)) ∧
 (nxH h (20 : Int) = nxH h (20 : Int)))))))))))
 ((InR ((↑x1 : Int) + (1 : Int))) ∧
 ((((bytesB code) ∧
 (((0 : Int) ≤ nxA (List.length code) a (20 : Int)) ∧
 (nxA (List.length code) a (20 : Int) ≤ (1099511627776 : Int)))) ∧
 ((code = code) ∧
 (True))) ∧
 ((nxV code (nxA (List.length code) a (20 : Int)) (nxH h (20 : Int)) ((↑x1 : Int) + (1 : Int)) = Prod.fst (degD code a h n most)) ∧
 (((code = code) ∧
 ((nxA (List.length code) (nxA (List.length code) a (20 : Int)) ((↑x1 : Int) + (1 : Int)) = Prod.fst (Prod.snd (degD code a h n most))) ∧
 ((nxH (nxH h (20 : Int)) ((↑x1 : Int) + (1 : Int)) = Prod.snd (Prod.snd (degD code a h n most))) ∧
 (True)))) ∧
 (True))))))))
 ((InR ((↑x1 : Int) + (1 : Int))) ∧
 ((((bytesB code) ∧
 (((0 : Int) ≤ nxA (List.length code) a (20 : Int)) ∧
 (nxA (List.length code) a (20 : Int) ≤ (1099511627776 : Int)))) ∧
 ((code = code) ∧
 (True))) ∧
 ((nxV code (nxA (List.length code) a (20 : Int)) (nxH h (20 : Int)) ((↑x1 : Int) + (1 : Int)) = Prod.fst (degD code a h n most)) ∧
 (((code = code) ∧
 ((nxA (List.length code) (nxA (List.length code) a (20 : Int)) ((↑x1 : Int) + (1 : Int)) = Prod.fst (Prod.snd (degD code a h n most))) ∧
 ((nxH (nxH h (20 : Int)) ((↑x1 : Int) + (1 : Int)) = Prod.snd (Prod.snd (degD code a h n most))) ∧
 (True)))) ∧
 (True)))))))))))
theorem l15Degree_vc (code : List Int) (a : Int) (h : Int) (n : Int) (most : Int) : runF Try.prog (gam l15Degree_G) noWr (l15Degree_ann code a h n most) Try.f46 (bodyOf Try.f46) [(0, 0)] [.box [.ints .u8 (code), .int .i64 (a), .int .u64 (h)], .c (.int .i64 (n)), .c (.int .i64 (most))] (l15Degree_p code a h n most) = l15Degree_V code a h n most := by kernel_rfl
theorem l15Degree_ok (code : List Int) (a : Int) (h : Int) (n : Int) (most : Int) (hpre : (l15Degree_p code a h n most).pre) : l15Degree_V code a h n most := by
  simp only [l15Degree_p, l15Degree_V, BrP_iff, true_and, and_true, decide_eq_true_eq, decide_eq_false_iff_not, bne_iff_ne, beq_iff_eq, bne_eq_false_iff_eq, beq_eq_false_iff_ne, Bool.not_eq_true, Bool.not_eq_false, Bool.not_true, Bool.not_false, Bool.not_eq_eq_eq_not, Int.toNat_natCast, List.length_append, List.length_take, List.length_replicate, List.length_set, List.length_map, List.length_drop, List.length_nil, List.length_cons, markL_length, inB, InR, room, bdsOk] at hpre ⊢
  obtain ⟨hb, h0, h1, h2, h3, h4⟩ := hpre
  have s := nxA_in (n := 20) h0 h1
  refine ⟨⟨hb, h0, by omega⟩, fun z => ?_, fun z => ⟨⟨0, ⟨by omega, z, rfl⟩, rfl⟩, fun j ⟨hj, _, hk⟩ => ?_⟩⟩
  · simp only [degD, if_pos z]; exact ⟨⟨hb, s.1, by omega, by omega, by omega⟩, rfl, rfl, rfl⟩
  have fin : kU n most 4 0 = (j : Int) → nxV code (nxA code.length a 20) (nxH h 20) ((j : Int) + 1) = (degD code a h n most).fst ∧ nxA code.length (nxA code.length a 20) ((j : Int) + 1) = (degD code a h n most).snd.fst ∧ nxH (nxH h 20) ((j : Int) + 1) = (degD code a h n most).snd.snd := fun e => by
    simp only [degD, if_neg z, e]; exact ⟨trivial, trivial, trivial⟩
  refine ⟨fun hl => ?_, fun hl => ⟨by omega, ⟨hb, s.1, by omega⟩, fin (by rw [hk, show 4 - j = 0 by omega]; rfl)⟩⟩
  have st : kU n most (4 - j) (j : Int) = if pwV n ((j : Int) + 1) ≤ most then kU n most (4 - (j + 1)) (((j + 1 : Nat) : Int)) else (j : Int) := by
    rw [show 4 - j = (4 - (j + 1)) + 1 by omega, show ((j + 1 : Nat) : Int) = (j : Int) + 1 by omega]; rfl
  exact ⟨by omega, ⟨by omega, by omega, by omega, by omega⟩, fun y => ⟨by omega, j + 1, ⟨by omega, z, by rw [hk, st, if_pos y]⟩, by omega, by omega⟩, fun y => ⟨by omega, ⟨hb, s.1, by omega⟩, fin (by rw [hk, st, if_neg y])⟩⟩
theorem l15Degree_fits : Fits Try.prog 46 ⟨[(0, 0)], l15Degree_ct⟩ := by
  refine fits_fn (Γ := gam l15Degree_G) (gok_cons l01Next_fits (gok_cons l01Pick_fits (gok_cons l15PowerG_fits gok_nil))) Try.func46 (by kernel_rfl) (by kernel_rfl) (by kernel_rfl) fun ds p h hp => ?_
  unfold l15Degree_ct at h
  split at h
  · cases h
    exact ⟨noWr, l15Degree_ann _ _ _ _ _ , by rw [l15Degree_vc]; exact l15Degree_ok _ _ _ _ _  hp⟩
  · cases h

theorem degB_of' {n k : Int} (h : degB n k = true) : 0 ≤ k ∧ k ≤ 1000 ∧ n ^ k.toNat ≤ 512 := by
  simp only [degB, Bool.and_eq_true, decide_eq_true_eq] at h
  omega

def chL (code : List Int) (size p : Int) : Nat → List Int × Int × Int → List Int × Int × Int
  | 0, s => s
  | j + 1, s => chL code size p j (s.1.set (nxV code s.2.1 s.2.2 size).toNat (nxV code (nxA code.length s.2.1 size) (nxH s.2.2 size) p), nxA code.length (nxA code.length s.2.1 size) p, nxH (nxH s.2.2 size) p)

def chE (code : List Int) (size p : Int) (s : List Int × Int × Int) : List Int × Int × Int :=
  let c := nxV code s.2.1 s.2.2 24
  let a := nxA code.length s.2.1 24
  let h := nxH s.2.2 24
  if c = 0 then (s.1.set (nxV code a h size).toNat (([-1, p] : List Int).getD (nxV code (nxA code.length a size) (nxH h size) 2).toNat 0), nxA code.length (nxA code.length a size) 2, nxH (nxH h size) 2)
  else if c = 1 then (s.1 ++ [0], a, h) else (s.1, a, h)

def chainD (code : List Int) (a h n p k : Int) : List Int × Int × Int :=
  if n < 1 ∨ primeB p = false ∨ degB n k = false then ([0], a, h)
  else chE code (n ^ k.toNat) p (chL code (n ^ k.toNat) p (nxV code a h 6).toNat (List.replicate (n ^ k.toNat).toNat 0, nxA code.length a 6, nxH h 6))

def l15DrawChain_p (code : List Int) (a : Int) (h : Int) (n : Int) (p : Int) (k : Int) : Post := ⟨bytesB code ∧ 0 ≤ a ∧ a ≤ (code.length : Int) ∧ code.length ≤ 4096 ∧ 0 ≤ n ∧ n ≤ 12, .c (.ints 2 .i64 ((chainD code a h n p k).1)), [.bx [.ints .u8 (code), .int .i64 ((chainD code a h n p k).2.1), .int .u64 ((chainD code a h n p k).2.2)]]⟩
def l15DrawChain_ct : List AD → Option Post
  | [.box [.ints .u8 (code), .int .i64 (a), .int .u64 (h)], .c (.int .i64 (n)), .c (.int .i64 (p)), .c (.int .i64 (k))] => some (l15DrawChain_p code a h n p k)
  | _ => none
def l15DrawChain_ann (code : List Int) (a : Int) (h : Int) (n : Int) (p : Int) (k : Int) : Nat → Option Ann
  | 0 => some (Ann.mk ((Nat) × (List Int) × (Int) × (Int)) (fun x => match x with | (j, l, b, g) => ⟨[(0, .c (.ptr 700 0)), (1, .c (.int .i64 (n))), (2, .c (.int .i64 (p))), (3, .c (.int .i64 (k))), (9, .c (.int .i64 (n ^ k.toNat))), (10, .c (.own (30))), (11, .c (.int .i64 ((j : Int))))], [(700, some (.box [.orig 700 0 (.ints .u8 (code)), .int .i64 (b), .int .u64 (g)])), (30, some (.ints 2 .i64 (l)))]⟩) (fun x => match x with | (j, l, b, g) => 1 ≤ n ∧ primeB p = true ∧ degB n k = true ∧ j ≤ 6 ∧ (l.length : Int) = n ^ k.toNat ∧ 0 ≤ b ∧ b ≤ (code.length : Int) ∧ chainD code a h n p k = chE code (n ^ k.toNat) p (chL code (n ^ k.toNat) p j (l, b, g))) (fun x => match x with | (j, l, b, g) => j) (fun _ => noAnn))
  | _ => none
def l15DrawChain_G : List (Nat × Ctr) := [(53, ⟨[(0, 0)], l01Next_ct⟩), (90, ⟨[(0, 0)], l01Pick_ct⟩), (91, ⟨[], l15Prime_ct⟩), (62, ⟨[], l15Allowed_ct⟩), (64, ⟨[], l15Power_ct⟩)]
def l15DrawChain_V (code : List Int) (a : Int) (h : Int) (n : Int) (p : Int) (k : Int) : Prop :=
  (BrP (Decidable.decide (n < (1 : Int)))
 (([(0 : Int)] = Prod.fst (chainD code a h n p k)) ∧
 (((code = code) ∧
 ((a = Prod.fst (Prod.snd (chainD code a h n p k))) ∧
 ((h = Prod.snd (Prod.snd (chainD code a h n p k))) ∧
 (True)))) ∧
 (True)))
 (((True) ∧
 (True)) ∧
 (BrP (!primeB p)
 (([(0 : Int)] = Prod.fst (chainD code a h n p k)) ∧
 (((code = code) ∧
 ((a = Prod.fst (Prod.snd (chainD code a h n p k))) ∧
 ((h = Prod.snd (Prod.snd (chainD code a h n p k))) ∧
 (True)))) ∧
 (True)))
 (((((1 : Int) ≤ n) ∧
 (n ≤ (12 : Int))) ∧
 (True)) ∧
 (BrP (!degB n k)
 (([(0 : Int)] = Prod.fst (chainD code a h n p k)) ∧
 (((code = code) ∧
 ((a = Prod.fst (Prod.snd (chainD code a h n p k))) ∧
 ((h = Prod.snd (Prod.snd (chainD code a h n p k))) ∧
 (True)))) ∧
 (True)))
 (((((1 : Int) ≤ n) ∧
 ((n ≤ (12 : Int)) ∧
 (((0 : Int) ≤ k) ∧
 (k ≤ (1000 : Int))))) ∧
 (True)) ∧
 ((((0 : Int) ≤ if n ^ Int.toNat k ≤ (512 : Int) then n ^ Int.toNat k else (513 : Int)) ∧
 (((if n ^ Int.toNat k ≤ (512 : Int) then n ^ Int.toNat k else (513 : Int)) ≤ if n ^ Int.toNat k ≤ (512 : Int) then n ^ Int.toNat k else (513 : Int)) ∧
 (room (Int.toNat (if n ^ Int.toNat k ≤ (512 : Int) then n ^ Int.toNat k else (513 : Int)))))) ∧
 ((((bytesB code) ∧
 (((0 : Int) ≤ a) ∧
 (a ≤ (1099511627776 : Int)))) ∧
 ((code = code) ∧
 (True))) ∧
 ((∃ x0 : Nat × List Int × Int × Int, ((((1 : Int) ≤ n) ∧
 ((primeB p = Bool.true) ∧
 ((degB n k = Bool.true) ∧
 ((Prod.fst x0 ≤ (6 : Nat)) ∧
 (((↑(List.length (Prod.fst x0.2)) : Int) = n ^ Int.toNat k) ∧
 (((0 : Int) ≤ Prod.fst x0.2.2) ∧
 ((Prod.fst x0.2.2 ≤ (↑(List.length code) : Int)) ∧
 (chainD code a h n p k = chE code (n ^ Int.toNat k) p (chL code (n ^ Int.toNat k) p (Prod.fst x0) (Prod.fst x0.2, Prod.fst x0.2.2, Prod.snd x0.2.2)))))))))) ∧
 ((n = n) ∧
 ((p = p) ∧
 ((k = k) ∧
 (((if n ^ Int.toNat k ≤ (512 : Int) then n ^ Int.toNat k else (513 : Int)) = n ^ Int.toNat k) ∧
 ((nxV code a h (6 : Int) = (↑x0.1 : Int)) ∧
 ((code = code) ∧
 ((nxA (List.length code) a (6 : Int) = x0.2.2.1) ∧
 ((nxH h (6 : Int) = x0.2.2.2) ∧
 (List.replicate (Int.toNat (if n ^ Int.toNat k ≤ (512 : Int) then n ^ Int.toNat k else (513 : Int))) (0 : Int) = x0.2.1))))))))))) ∧
 (∀ x1 : Nat × List Int × Int × Int, ((((1 : Int) ≤ n) ∧
 ((primeB p = Bool.true) ∧
 ((degB n k = Bool.true) ∧
 ((Prod.fst x1 ≤ (6 : Nat)) ∧
 (((↑(List.length (Prod.fst x1.2)) : Int) = n ^ Int.toNat k) ∧
 (((0 : Int) ≤ Prod.fst x1.2.2) ∧
 ((Prod.fst x1.2.2 ≤ (↑(List.length code) : Int)) ∧
 (chainD code a h n p k = chE code (n ^ Int.toNat k) p (chL code (n ^ Int.toNat k) p (Prod.fst x1) (Prod.fst x1.2, Prod.fst x1.2.2, Prod.snd x1.2.2)))))))))) →
 (BrP (Decidable.decide ((0 : Int) < (↑x1.1 : Int)))
 ((((bytesB code) ∧
 (((0 : Int) ≤ x1.2.2.1) ∧
 (x1.2.2.1 ≤ (1099511627776 : Int)))) ∧
 ((code = code) ∧
 (True))) ∧
 ((((bytesB code) ∧
 (((0 : Int) ≤ nxA (List.length code) x1.2.2.1 (n ^ Int.toNat k)) ∧
 (nxA (List.length code) x1.2.2.1 (n ^ Int.toNat k) ≤ (1099511627776 : Int)))) ∧
 ((code = code) ∧
 (True))) ∧
 ((inB (nxV code x1.2.2.1 x1.2.2.2 (n ^ Int.toNat k)) (List.length x1.2.1)) ∧
 ((InR ((↑x1.1 : Int) - (1 : Int))) ∧
 (∃ x2 : Nat × List Int × Int × Int, ((((1 : Int) ≤ n) ∧
 ((primeB p = Bool.true) ∧
 ((degB n k = Bool.true) ∧
 ((Prod.fst x2 ≤ (6 : Nat)) ∧
 (((↑(List.length (Prod.fst x2.2)) : Int) = n ^ Int.toNat k) ∧
 (((0 : Int) ≤ Prod.fst x2.2.2) ∧
 ((Prod.fst x2.2.2 ≤ (↑(List.length code) : Int)) ∧
 (chainD code a h n p k = chE code (n ^ Int.toNat k) p (chL code (n ^ Int.toNat k) p (Prod.fst x2) (Prod.fst x2.2, Prod.fst x2.2.2, Prod.snd x2.2.2)))))))))) ∧
 ((Prod.fst x2 < Prod.fst x1) ∧
 ((n = n) ∧
 ((p = p) ∧
 ((k = k) ∧
 ((n ^ Int.toNat k = n ^ Int.toNat k) ∧
 (((↑x1.1 : Int) - (1 : Int) = (↑x2.1 : Int)) ∧
 ((code = code) ∧
 ((nxA (List.length code) (nxA (List.length code) x1.2.2.1 (n ^ Int.toNat k)) p = x2.2.2.1) ∧
 ((nxH (nxH x1.2.2.2 (n ^ Int.toNat k)) p = x2.2.2.2) ∧
 (List.set x1.2.1 (Int.toNat (nxV code x1.2.2.1 x1.2.2.2 (n ^ Int.toNat k))) (nxV code (nxA (List.length code) x1.2.2.1 (n ^ Int.toNat k)) (nxH x1.2.2.2 (n ^ Int.toNat k)) p) = x2.2.1))))))))))))))))
 ((((bytesB code) ∧
 (((0 : Int) ≤ x1.2.2.1) ∧
 (x1.2.2.1 ≤ (1099511627776 : Int)))) ∧
 ((code = code) ∧
 (True))) ∧
 (BrP (nxV code x1.2.2.1 x1.2.2.2 (24 : Int) == (0 : Int))
 ((((bytesB code) ∧
 (((0 : Int) ≤ nxA (List.length code) x1.2.2.1 (24 : Int)) ∧
 (nxA (List.length code) x1.2.2.1 (24 : Int) ≤ (1099511627776 : Int)))) ∧
 ((code = code) ∧
 (True))) ∧
 ((((bytesB code) ∧
 (((0 : Int) ≤ nxA (List.length code) (nxA (List.length code) x1.2.2.1 (24 : Int)) (n ^ Int.toNat k)) ∧
 ((nxA (List.length code) (nxA (List.length code) x1.2.2.1 (24 : Int)) (n ^ Int.toNat k) ≤ (1099511627776 : Int)) ∧
 (((1 : Nat) ≤ List.length [(-1 : Int), p]) ∧
 (List.length [(-1 : Int), p] ≤ (100 : Nat)))))) ∧
 ((code = code) ∧
 (True))) ∧
 ((inB (nxV code (nxA (List.length code) x1.2.2.1 (24 : Int)) (nxH x1.2.2.2 (24 : Int)) (n ^ Int.toNat k)) (List.length x1.2.1)) ∧
 ((List.set x1.2.1 (Int.toNat (nxV code (nxA (List.length code) x1.2.2.1 (24 : Int)) (nxH x1.2.2.2 (24 : Int)) (n ^ Int.toNat k))) (List.getD [(-1 : Int), p] (Int.toNat (nxV code (nxA (List.length code) (nxA (List.length code) x1.2.2.1 (24 : Int)) (n ^ Int.toNat k)) (nxH (nxH x1.2.2.2 (24 : Int)) (n ^ Int.toNat k)) (↑(List.length [(-1 : Int), p]) : Int))) (0 : Int)) = Prod.fst (chainD code a h n p k)) ∧
 (((code = code) ∧
 ((nxA (List.length code) (nxA (List.length code) (nxA (List.length code) x1.2.2.1 (24 : Int)) (n ^ Int.toNat k)) (↑(List.length [(-1 : Int), p]) : Int) = Prod.fst (Prod.snd (chainD code a h n p k))) ∧
 ((nxH (nxH (nxH x1.2.2.2 (24 : Int)) (n ^ Int.toNat k)) (↑(List.length [(-1 : Int), p]) : Int) = Prod.snd (Prod.snd (chainD code a h n p k))) ∧
 (True)))) ∧
 (True))))))
 (BrP (nxV code x1.2.2.1 x1.2.2.2 (24 : Int) == (1 : Int))
 ((room (List.length x1.2.1 + List.length [(0 : Int)])) ∧
 ((x1.2.1 ++ [(0 : Int)] = Prod.fst (chainD code a h n p k)) ∧
 (((code = code) ∧
 ((nxA (List.length code) x1.2.2.1 (24 : Int) = Prod.fst (Prod.snd (chainD code a h n p k))) ∧
 ((nxH x1.2.2.2 (24 : Int) = Prod.snd (Prod.snd (chainD code a h n p k))) ∧
 (True)))) ∧
 (True))))
 ((x1.2.1 = Prod.fst (chainD code a h n p k)) ∧
 (((code = code) ∧
 ((nxA (List.length code) x1.2.2.1 (24 : Int) = Prod.fst (Prod.snd (chainD code a h n p k))) ∧
 ((nxH x1.2.2.2 (24 : Int) = Prod.snd (Prod.snd (chainD code a h n p k))) ∧
 (True)))) ∧
 (True))))))))))))))))))
theorem l15DrawChain_vc (code : List Int) (a : Int) (h : Int) (n : Int) (p : Int) (k : Int) : runF Try.prog (gam l15DrawChain_G) noWr (l15DrawChain_ann code a h n p k) Try.f47 (bodyOf Try.f47) [(0, 0)] [.box [.ints .u8 (code), .int .i64 (a), .int .u64 (h)], .c (.int .i64 (n)), .c (.int .i64 (p)), .c (.int .i64 (k))] (l15DrawChain_p code a h n p k) = l15DrawChain_V code a h n p k := by kernel_rfl
theorem l15DrawChain_ok (code : List Int) (a : Int) (h : Int) (n : Int) (p : Int) (k : Int) (hpre : (l15DrawChain_p code a h n p k).pre) : l15DrawChain_V code a h n p k := by
  simp only [l15DrawChain_p, l15DrawChain_V, BrP_iff, true_and, and_true, decide_eq_true_eq, decide_eq_false_iff_not, bne_iff_ne, beq_iff_eq, bne_eq_false_iff_eq, beq_eq_false_iff_ne, Bool.not_eq_true, Bool.not_eq_false, Bool.not_true, Bool.not_false, Bool.not_eq_eq_eq_not, Int.toNat_natCast, List.length_append, List.length_take, List.length_replicate, List.length_set, List.length_map, List.length_drop, List.length_nil, List.length_cons, markL_length, inB, InR, room, bdsOk] at hpre ⊢
  obtain ⟨hb, h0, h1, h2, h3, h4⟩ := hpre
  refine ⟨fun z => by simp only [chainD, if_pos (Or.inl z : n < 1 ∨ primeB p = false ∨ degB n k = false)]; exact ⟨trivial, trivial, trivial⟩, fun z => ⟨fun y => by simp only [chainD, if_pos (Or.inr (Or.inl y) : n < 1 ∨ primeB p = false ∨ degB n k = false)]; exact ⟨trivial, trivial, trivial⟩, fun y => ⟨⟨by omega, h4⟩, fun x => by simp only [chainD, if_pos (Or.inr (Or.inr x) : n < 1 ∨ primeB p = false ∨ degB n k = false)]; exact ⟨trivial, trivial, trivial⟩, fun x => ?_⟩⟩⟩
  obtain ⟨d1, d2, d3⟩ := degB_of' x
  have e : chainD code a h n p k = chE code (n ^ k.toNat) p (chL code (n ^ k.toNat) p (nxV code a h 6).toNat (List.replicate (n ^ k.toNat).toNat 0, nxA code.length a 6, nxH h 6)) := by
    rw [chainD, if_neg (by simp [y, x]; omega)]
  have pos := pow_pos' (show 1 ≤ n by omega) k.toNat
  have v := nxV_in hb a h (n := 6) (by omega)
  have s := nxA_in (n := 6) h0 h1
  rw [if_pos d3]
  generalize n ^ k.toNat = N at *
  refine ⟨⟨by omega, h4, by omega, by omega⟩, ⟨by omega, by omega, by omega⟩, ⟨hb, h0, by omega⟩, ⟨((nxV code a h 6).toNat, List.replicate N.toNat 0, nxA code.length a 6, nxH h 6), ?_⟩, ?_⟩
  · dsimp only
    exact ⟨⟨by omega, y, x, by omega, by rw [List.length_replicate]; omega, s.1, s.2, e⟩, rfl, by omega, rfl, rfl, rfl⟩
  rintro ⟨j, l, b, g⟩ ⟨_, _, _, q1, q2, q3, q4, q5⟩
  dsimp only at q1 q2 q3 q4 q5 ⊢
  have w1 := nxV_in hb b g (n := N) (by omega)
  have s1 := nxA_in (n := N) q3 q4
  have s2 := nxA_in (n := p) s1.1 s1.2
  have t1 := nxA_in (n := 24) q3 q4
  have t2 := nxA_in (n := N) t1.1 t1.2
  have w2 := nxV_in hb (nxA code.length b 24) (nxH g 24) (n := N) (by omega)
  refine ⟨fun hl => ⟨⟨hb, q3, by omega⟩, ⟨hb, s1.1, by omega⟩, by omega, by omega, (j - 1, l.set (nxV code b g N).toNat (nxV code (nxA code.length b N) (nxH g N) p), nxA code.length (nxA code.length b N) p, nxH (nxH g N) p), ?_⟩, fun hl => ⟨⟨hb, q3, by omega⟩, fun z1 => ?_, fun z1 => ⟨fun z2 => ?_, fun z2 => ?_⟩⟩⟩
  · dsimp only
    refine ⟨⟨by omega, y, x, by omega, by rw [List.length_set]; exact q2, s2.1, s2.2, ?_⟩, by omega, by omega, rfl, rfl, rfl⟩
    rw [q5, show j = (j - 1) + 1 by omega]; rfl
  · rw [q5, show j = 0 by omega, chL]
    simp only [chE, if_pos z1]
    exact ⟨⟨hb, t1.1, by omega⟩, ⟨hb, t2.1, by omega, by omega, by omega⟩, by omega, rfl, rfl, rfl⟩
  · rw [q5, show j = 0 by omega, chL]
    simp only [chE, if_neg z1, if_pos z2]
    exact ⟨by omega, trivial, trivial, trivial⟩
  · rw [q5, show j = 0 by omega, chL]
    simp only [chE, if_neg z1, if_neg z2]
    exact ⟨trivial, trivial, trivial⟩
theorem l15DrawChain_fits : Fits Try.prog 47 ⟨[(0, 0)], l15DrawChain_ct⟩ := by
  refine fits_fn (Γ := gam l15DrawChain_G) (gok_cons l01Next_fits (gok_cons l01Pick_fits (gok_cons l15Prime_fits (gok_cons l15Allowed_fits (gok_cons l15Power_fits gok_nil))))) Try.func47 (by kernel_rfl) (by kernel_rfl) (by kernel_rfl) fun ds p h hp => ?_
  unfold l15DrawChain_ct at h
  split at h
  · cases h
    exact ⟨noWr, l15DrawChain_ann _ _ _ _ _ _ , by rw [l15DrawChain_vc]; exact l15DrawChain_ok _ _ _ _ _ _  hp⟩
  · cases h

def big_p (code : List Int) : Post := ⟨True, .c (.bool (decide (4096 < (code.length : Int)))), []⟩
def big_ct : List AD → Option Post
  | [.c (.ints .u8 (code))] => some (big_p code)
  | _ => none
def big_G : List (Nat × Ctr) := []
def big_V (code : List Int) : Prop :=
  ((Decidable.decide ((4096 : Int) < (↑(List.length code) : Int)) = Decidable.decide ((4096 : Int) < (↑(List.length code) : Int))) ∧
 (True))
theorem big_vc (code : List Int) : runF Try.prog (gam big_G) noWr noAnn Try.f6 (bodyOf Try.f6) [] [.c (.ints .u8 (code))] (big_p code) = big_V code := by kernel_rfl
theorem big_ok (code : List Int) (hpre : (big_p code).pre) : big_V code := by
  simp only [big_p, big_V, BrP_iff, true_and, and_true, decide_eq_true_eq, decide_eq_false_iff_not, bne_iff_ne, beq_iff_eq, bne_eq_false_iff_eq, beq_eq_false_iff_ne, Bool.not_eq_true, Bool.not_eq_false, Bool.not_true, Bool.not_false, Bool.not_eq_eq_eq_not, Int.toNat_natCast, List.length_append, List.length_take, List.length_replicate, List.length_set, List.length_map, List.length_drop, List.length_nil, List.length_cons, markL_length, inB, InR, room, bdsOk] at hpre ⊢
theorem big_fits : Fits Try.prog 6 ⟨[], big_ct⟩ := by
  refine fits_fn (Γ := gam big_G) gok_nil Try.func6 (by kernel_rfl) (by kernel_rfl) (by kernel_rfl) fun ds p h hp => ?_
  unfold big_ct at h
  split at h
  · cases h
    exact ⟨noWr, noAnn, by rw [big_vc]; exact big_ok _  hp⟩
  · cases h

def likeInts_p (a : List Int) (b : List Int) : Post := ⟨room a.length, .c (.bool (decide (a = b))), []⟩
def likeInts_ct : List AD → Option Post
  | [.c (.ints .i64 (a)), .c (.ints .i64 (b))] => some (likeInts_p a b)
  | _ => none
def likeInts_ann (a : List Int) (b : List Int) : Nat → Option Ann
  | 0 => some (Ann.mk ((Nat)) (fun i => ⟨[(0, .c (.ro (.ints .i64 (a)))), (1, .c (.ro (.ints .i64 (b)))), (5, .c (.int .i64 ((i : Int))))], []⟩) (fun i => i ≤ a.length ∧ a.length = b.length ∧ a.take i = b.take i) (fun i => a.length - i) (fun _ => noAnn))
  | _ => none
def likeInts_G : List (Nat × Ctr) := []
def likeInts_V (a : List Int) (b : List Int) : Prop :=
  (BrP ((↑(List.length a) : Int) != (↑(List.length b) : Int))
 ((Bool.false = Decidable.decide (a = b)) ∧
 (True))
 ((∃ x0 : Nat, (((x0 ≤ List.length a) ∧
 ((List.length a = List.length b) ∧
 (List.take x0 a = List.take x0 b))) ∧
 ((a = a) ∧
 ((b = b) ∧
 ((0 : Int) = (↑x0 : Int)))))) ∧
 (∀ x1 : Nat, (((x1 ≤ List.length a) ∧
 ((List.length a = List.length b) ∧
 (List.take x1 a = List.take x1 b))) →
 (BrP (Decidable.decide ((↑x1 : Int) < (↑(List.length a) : Int)))
 ((inB (↑x1 : Int) (List.length a)) ∧
 ((inB (↑x1 : Int) (List.length b)) ∧
 (BrP (List.getD a (Int.toNat (↑x1 : Int)) (0 : Int) != List.getD b (Int.toNat (↑x1 : Int)) (0 : Int))
 ((Bool.false = Decidable.decide (a = b)) ∧
 (True))
 ((InR ((↑x1 : Int) + (1 : Int))) ∧
 (∃ x2 : Nat, (((x2 ≤ List.length a) ∧
 ((List.length a = List.length b) ∧
 (List.take x2 a = List.take x2 b))) ∧
 ((List.length a - x2 < List.length a - x1) ∧
 ((a = a) ∧
 ((b = b) ∧
 ((↑x1 : Int) + (1 : Int) = (↑x2 : Int)))))))))))
 ((Bool.true = Decidable.decide (a = b)) ∧
 (True)))))))
theorem likeInts_vc (a : List Int) (b : List Int) : runF Try.prog (gam likeInts_G) noWr (likeInts_ann a b) Try.f18 (bodyOf Try.f18) [] [.c (.ints .i64 (a)), .c (.ints .i64 (b))] (likeInts_p a b) = likeInts_V a b := by kernel_rfl
theorem likeInts_ok (a : List Int) (b : List Int) (hpre : (likeInts_p a b).pre) : likeInts_V a b := by
  simp only [likeInts_p, likeInts_V, BrP_iff, true_and, and_true, decide_eq_true_eq, decide_eq_false_iff_not, bne_iff_ne, beq_iff_eq, bne_eq_false_iff_eq, beq_eq_false_iff_ne, Bool.not_eq_true, Bool.not_eq_false, Bool.not_true, Bool.not_false, Bool.not_eq_eq_eq_not, Int.toNat_natCast, List.length_append, List.length_take, List.length_replicate, List.length_set, List.length_map, List.length_drop, List.length_nil, List.length_cons, markL_length, inB, InR, room, bdsOk] at hpre ⊢
  refine ⟨fun h => ?_, fun h => ⟨⟨0, ⟨by omega, by omega, rfl⟩, by simp⟩, fun i hi => ⟨fun h1 => ⟨by omega, by omega, fun h2 => ?_, fun h2 => ⟨by omega, i + 1, ⟨by omega, hi.2.1, ?_⟩, by omega, by omega⟩⟩, fun h1 => ?_⟩⟩⟩
  · exact (decide_eq_false fun e => h (by rw [e])).symm
  · exact (decide_eq_false fun e => h2 (by rw [e])).symm
  · exact (take_eq_step a b 0 i (by omega) (by omega) hi.2.2).2 h2
  · refine (decide_eq_true ?_).symm
    have := hi.2.2
    rwa [List.take_of_length_le (by omega), List.take_of_length_le (by omega)] at this
theorem likeInts_fits : Fits Try.prog 18 ⟨[], likeInts_ct⟩ := by
  refine fits_fn (Γ := gam likeInts_G) gok_nil Try.func18 (by kernel_rfl) (by kernel_rfl) (by kernel_rfl) fun ds p h hp => ?_
  unfold likeInts_ct at h
  split at h
  · cases h
    exact ⟨noWr, likeInts_ann _ _ , by rw [likeInts_vc]; exact likeInts_ok _ _  hp⟩
  · cases h

def lsS (code : List Int) (m : Int) : Nat → List Int × Int × Int → List Int × Int × Int
  | 0, s => s
  | j + 1, s => lsS code m j (s.1 ++ [nxV code s.2.1 s.2.2 m], nxA code.length s.2.1 m, nxH s.2.2 m)

def list5_p (code : List Int) (a : Int) (h : Int) (n : Int) (m : Int) : Post := ⟨bytesB code ∧ 0 ≤ a ∧ a ≤ (code.length : Int) ∧ code.length ≤ 4096 ∧ n ≤ 1000000 ∧ 1 ≤ m, .c (.ints 2 .i64 ((lsS code m n.toNat ([], a, h)).1)), [.bx [.ints .u8 (code), .int .i64 ((lsS code m n.toNat ([], a, h)).2.1), .int .u64 ((lsS code m n.toNat ([], a, h)).2.2)]]⟩
def list5_ct : List AD → Option Post
  | [.box [.ints .u8 (code), .int .i64 (a), .int .u64 (h)], .c (.int .i64 (n)), .c (.int .i64 (m))] => some (list5_p code a h n m)
  | _ => none
def list5_ann (code : List Int) (a : Int) (h : Int) (n : Int) (m : Int) : Nat → Option Ann
  | 0 => some (Ann.mk ((Nat) × (List Int) × (Int) × (Int)) (fun x => match x with | (j, l, b, g) => ⟨[(0, .c (.ptr 700 0)), (1, .c (.int .i64 (n - (n.toNat - j : Nat)))), (2, .c (.int .i64 (m))), (7, .c (.own (8)))], [(700, some (.box [.orig 700 0 (.ints .u8 (code)), .int .i64 (b), .int .u64 (g)])), (8, some (.ints 2 .i64 (l)))]⟩) (fun x => match x with | (j, l, b, g) => j ≤ n.toNat ∧ l.length = n.toNat - j ∧ 0 ≤ b ∧ b ≤ (code.length : Int) ∧ lsS code m n.toNat ([], a, h) = lsS code m j (l, b, g)) (fun x => match x with | (j, l, b, g) => j) (fun _ => noAnn))
  | _ => none
def list5_G : List (Nat × Ctr) := [(21, ⟨[(0, 0)], below_ct⟩)]
def list5_V (code : List Int) (a : Int) (h : Int) (n : Int) (m : Int) : Prop :=
  ((∃ x0 : Nat × List Int × Int × Int, (((Prod.fst x0 ≤ Int.toNat n) ∧
 ((List.length (Prod.fst x0.2) = Int.toNat n - Prod.fst x0) ∧
 (((0 : Int) ≤ Prod.fst x0.2.2) ∧
 ((Prod.fst x0.2.2 ≤ (↑(List.length code) : Int)) ∧
 (lsS code m (Int.toNat n) ([], a, h) = lsS code m (Prod.fst x0) (Prod.fst x0.2, Prod.fst x0.2.2, Prod.snd x0.2.2)))))) ∧
 ((n = n - (↑(Int.toNat n - x0.1) : Int)) ∧
 ((m = m) ∧
 ((code = code) ∧
 ((a = x0.2.2.1) ∧
 ((h = x0.2.2.2) ∧
 ([] = x0.2.1)))))))) ∧
 (∀ x1 : Nat × List Int × Int × Int, (((Prod.fst x1 ≤ Int.toNat n) ∧
 ((List.length (Prod.fst x1.2) = Int.toNat n - Prod.fst x1) ∧
 (((0 : Int) ≤ Prod.fst x1.2.2) ∧
 ((Prod.fst x1.2.2 ≤ (↑(List.length code) : Int)) ∧
 (lsS code m (Int.toNat n) ([], a, h) = lsS code m (Prod.fst x1) (Prod.fst x1.2, Prod.fst x1.2.2, Prod.snd x1.2.2)))))) →
 (BrP (Decidable.decide ((0 : Int) < n - (↑(Int.toNat n - x1.1) : Int)))
 ((((bytesB code) ∧
 (((0 : Int) ≤ x1.2.2.1) ∧
 (x1.2.2.1 ≤ (1099511627776 : Int)))) ∧
 ((code = code) ∧
 (True))) ∧
 ((room (List.length x1.2.1 + List.length [nxV code x1.2.2.1 x1.2.2.2 m])) ∧
 ((InR (n - (↑(Int.toNat n - x1.1) : Int) - (1 : Int))) ∧
 (∃ x2 : Nat × List Int × Int × Int, (((Prod.fst x2 ≤ Int.toNat n) ∧
 ((List.length (Prod.fst x2.2) = Int.toNat n - Prod.fst x2) ∧
 (((0 : Int) ≤ Prod.fst x2.2.2) ∧
 ((Prod.fst x2.2.2 ≤ (↑(List.length code) : Int)) ∧
 (lsS code m (Int.toNat n) ([], a, h) = lsS code m (Prod.fst x2) (Prod.fst x2.2, Prod.fst x2.2.2, Prod.snd x2.2.2)))))) ∧
 ((Prod.fst x2 < Prod.fst x1) ∧
 ((n - (↑(Int.toNat n - x1.1) : Int) - (1 : Int) = n - (↑(Int.toNat n - x2.1) : Int)) ∧
 ((m = m) ∧
 ((code = code) ∧
 ((nxA (List.length code) x1.2.2.1 m = x2.2.2.1) ∧
 ((nxH x1.2.2.2 m = x2.2.2.2) ∧
 (x1.2.1 ++ [nxV code x1.2.2.1 x1.2.2.2 m] = x2.2.1))))))))))))
 ((x1.2.1 = Prod.fst (lsS code m (Int.toNat n) ([], a, h))) ∧
 (((code = code) ∧
 ((x1.2.2.1 = Prod.fst (Prod.snd (lsS code m (Int.toNat n) ([], a, h)))) ∧
 ((x1.2.2.2 = Prod.snd (Prod.snd (lsS code m (Int.toNat n) ([], a, h)))) ∧
 (True)))) ∧
 (True)))))))
theorem list5_vc (code : List Int) (a : Int) (h : Int) (n : Int) (m : Int) : runF Try.prog (gam list5_G) noWr (list5_ann code a h n m) Try.f20 (bodyOf Try.f20) [(0, 0)] [.box [.ints .u8 (code), .int .i64 (a), .int .u64 (h)], .c (.int .i64 (n)), .c (.int .i64 (m))] (list5_p code a h n m) = list5_V code a h n m := by kernel_rfl
theorem list5_ok (code : List Int) (a : Int) (h : Int) (n : Int) (m : Int) (hpre : (list5_p code a h n m).pre) : list5_V code a h n m := by
  simp only [list5_p, list5_V, BrP_iff, true_and, and_true, decide_eq_true_eq, decide_eq_false_iff_not, bne_iff_ne, beq_iff_eq, bne_eq_false_iff_eq, beq_eq_false_iff_ne, Bool.not_eq_true, Bool.not_eq_false, Bool.not_true, Bool.not_false, Bool.not_eq_eq_eq_not, Int.toNat_natCast, List.length_append, List.length_take, List.length_replicate, List.length_set, List.length_map, List.length_drop, List.length_nil, List.length_cons, markL_length, inB, InR, room, bdsOk] at hpre ⊢
  obtain ⟨hb, h0, h1, h2, h3, h4⟩ := hpre
  refine ⟨⟨(n.toNat, [], a, h), ?_⟩, ?_⟩
  · dsimp only
    exact ⟨⟨Nat.le_refl _, by simp, h0, h1, rfl⟩, by omega, rfl, rfl, rfl⟩
  rintro ⟨j, l, b, g⟩ ⟨q1, q2, q3, q4, q5⟩
  dsimp only at q1 q2 q3 q4 q5 ⊢
  have s1 := nxA_in (n := m) q3 q4
  refine ⟨fun hl => ⟨⟨hb, q3, by omega⟩, by omega, by omega, (j - 1, l ++ [nxV code b g m], nxA code.length b m, nxH g m), ?_⟩, fun hl => ?_⟩
  · dsimp only
    refine ⟨⟨by omega, by rw [List.length_append]; show l.length + 1 = _; omega, s1.1, s1.2, ?_⟩, by omega, by omega, rfl, rfl, rfl⟩
    rw [q5, show j = (j - 1) + 1 by omega]; rfl
  · rw [q5, show j = 0 by omega]; exact ⟨rfl, rfl, rfl⟩
theorem list5_fits : Fits Try.prog 20 ⟨[(0, 0)], list5_ct⟩ := by
  refine fits_fn (Γ := gam list5_G) (gok_cons below_fits gok_nil) Try.func20 (by kernel_rfl) (by kernel_rfl) (by kernel_rfl) fun ds p h hp => ?_
  unfold list5_ct at h
  split at h
  · cases h
    exact ⟨noWr, list5_ann _ _ _ _ _ , by rw [list5_vc]; exact list5_ok _ _ _ _ _  hp⟩
  · cases h

end Go.Sx
end

section
open Go Go.Proofs
namespace Go.Sx
set_option linter.unusedSimpArgs false
set_option linter.unusedVariables false

theorem getD_in {lo hi : Int} (h0 : lo ≤ 0 ∧ 0 ≤ hi) : ∀ {l : List Int}, (∀ x ∈ l, lo ≤ x ∧ x ≤ hi) → ∀ i, lo ≤ l.getD i 0 ∧ l.getD i 0 ≤ hi := fun {l} h i => by
  by_cases hi : i < l.length
  · rw [getD_lt l 0 i hi]; exact h _ (List.getElem_mem hi)
  · rw [List.getD_eq_getElem?_getD, List.getElem?_eq_none (by omega)]; exact h0

theorem primeD_in {code : List Int} {a h : Int} (h0 : 0 ≤ a) (h1 : a ≤ (code.length : Int)) : 0 ≤ (primeD code a h).2.1 ∧ (primeD code a h).2.1 ≤ (code.length : Int) := by
  have s := nxA_in (n := 20) h0 h1
  unfold primeD
  dsimp only
  split
  · exact nxA_in (n := 5) s.1 s.2
  · exact nxA_in (n := 6) s.1 s.2

theorem kU_in {n most : Int} : ∀ (f : Nat) (k : Int), k ≤ kU n most f k ∧ kU n most f k ≤ k + (f : Int)
  | 0, k => by simp [kU]
  | f + 1, k => by
    have := kU_in (n := n) (most := most) f (k + 1)
    unfold kU
    split <;> omega

theorem degD_in {code : List Int} (hb : bytesB code) {a h n most : Int} (h0 : 0 ≤ a) (h1 : a ≤ (code.length : Int)) : (-1 ≤ (degD code a h n most).1 ∧ (degD code a h n most).1 ≤ 1001) ∧ 0 ≤ (degD code a h n most).2.1 ∧ (degD code a h n most).2.1 ≤ (code.length : Int) := by
  have s := nxA_in (n := 20) h0 h1
  have k := kU_in (n := n) (most := most) 4 0
  unfold degD
  dsimp only
  split
  · exact ⟨getD_in (by omega) (by decide) _, nxA_in (n := 6) s.1 s.2⟩
  · have v := nxV_in hb (nxA code.length a 20) (nxH h 20) (n := kU n most 4 0 + 1) (by omega)
    exact ⟨⟨by show -1 ≤ nxV _ _ _ _; omega, by show nxV _ _ _ _ ≤ 1001; omega⟩, nxA_in s.1 s.2⟩

theorem chL_in {code : List Int} {size p : Int} : ∀ (j : Nat) (s : List Int × Int × Int), 0 ≤ s.2.1 → s.2.1 ≤ (code.length : Int) → (chL code size p j s).1.length = s.1.length ∧ 0 ≤ (chL code size p j s).2.1 ∧ (chL code size p j s).2.1 ≤ (code.length : Int)
  | 0, s, h0, h1 => ⟨rfl, h0, h1⟩
  | j + 1, s, h0, h1 => by
    have a := nxA_in (n := size) h0 h1
    have b := nxA_in (n := p) a.1 a.2
    have := chL_in (code := code) (size := size) (p := p) j (s.1.set (nxV code s.2.1 s.2.2 size).toNat (nxV code (nxA code.length s.2.1 size) (nxH s.2.2 size) p), nxA code.length (nxA code.length s.2.1 size) p, nxH (nxH s.2.2 size) p) b.1 b.2
    rw [List.length_set] at this
    exact this

theorem chainD_in {code : List Int} {a h n p k : Int} (h0 : 0 ≤ a) (h1 : a ≤ (code.length : Int)) : (chainD code a h n p k).1.length ≤ 513 ∧ 0 ≤ (chainD code a h n p k).2.1 ∧ (chainD code a h n p k).2.1 ≤ (code.length : Int) := by
  unfold chainD
  split
  · exact ⟨by simp, h0, h1⟩
  · rename_i z
    have d : degB n k = true := by
      cases e : degB n k with
      | true => rfl
      | false => exact absurd (Or.inr (Or.inr e)) z
    obtain ⟨d1, d2, d3⟩ := degB_of' d
    have s := nxA_in (n := 6) h0 h1
    have C := chL_in (code := code) (size := n ^ k.toNat) (p := p) (nxV code a h 6).toNat (List.replicate (n ^ k.toNat).toNat 0, nxA code.length a 6, nxH h 6) s.1 s.2
    rw [List.length_replicate] at C
    generalize chL code (n ^ k.toNat) p (nxV code a h 6).toNat (List.replicate (n ^ k.toNat).toNat 0, nxA code.length a 6, nxH h 6) = r at *
    obtain ⟨c1, c2, c3⟩ := C
    have t1 := nxA_in (n := 24) c2 c3
    have t2 := nxA_in (n := n ^ k.toNat) t1.1 t1.2
    have t3 := nxA_in (n := 2) t2.1 t2.2
    unfold chE
    dsimp only
    split
    · exact ⟨by rw [List.length_set]; omega, t3.1, t3.2⟩
    · split
      · exact ⟨by rw [List.length_append]; show r.1.length + 1 ≤ 513; omega, t1.1, t1.2⟩
      · exact ⟨by show r.1.length ≤ 513; omega, t1.1, t1.2⟩

def yT (y : Dy) : List (List Int) := (y.1.drop y.2.1).take (y.1.length - y.2.1)
def fY (code : List Int) : Dy := drY code 0 (frH code code.length) 5
def fN (code : List Int) : Nat := (fY code).1.length - (fY code).2.1
def fP (code : List Int) : Int × Int × Int := primeD code (fY code).2.2.1 (fY code).2.2.2
def fK (code : List Int) : Int × Int × Int := degD code (fP code).2.1 (fP code).2.2 (fN code : Int) 30
def fC (code : List Int) : List Int × Int × Int := chainD code (fK code).2.1 (fK code).2.2 (fN code : Int) (fP code).1 (fK code).1
def fA (code : List Int) : List Int × Int × Int := chainD code (nxA code.length (fC code).2.1 3) (nxH (fC code).2.2 3) (fN code : Int) (fP code).1 ((fK code).1 + 1)
def fR (code : List Int) : List Int :=
  if dgC (yT (fY code)) (fP code).1 (fK code).1 = 0 ∧ degB (fN code : Int) ((fK code).1 + 1) = true ∧ 0 < nxV code (fC code).2.1 (fC code).2.2 3 ∧
      (decide (((fA code).1.length : Int) = (fN code : Int) ^ ((fK code).1 + 1).toNat) && allW 0 ((fP code).1 - 1) (fA code).1) = true then
    bdF (yT (fY code)) (fP code).1 ((fK code).1 + 1).toNat (fA code).1 (fA code).1.length
  else (fC code).1

theorem fY_ok {code : List Int} (hb : bytesB code) : okY code (fY code) := drY_ok hb (by omega) (by omega) (by omega) (by omega)

theorem yT_length (y : Dy) : (yT y).length = y.1.length - y.2.1 := by simp [yT]

theorem yT_room {code : List Int} {y : Dy} (h : okY code y) : roomR (yT y) := by
  refine ⟨by rw [yT_length]; have := h.2.1; omega, fun r hr => ?_⟩
  have := h.2.2.1 r (List.mem_of_mem_drop (List.mem_of_mem_take hr))
  omega

def DrawFillingOf_p (code : List Int) : Post := ⟨bytesB code ∧ code.length ≤ 4096, .tup [.inr [.cut ((fY code).2.1) (fN code) 34 2 .i64 ((fY code).1)], .inl (.int .i64 ((fP code).1)), .inl (.int .i64 ((fK code).1)), .inl (.ints 2 .i64 (fR code))], []⟩
def DrawFillingOf_ct : List AD → Option Post
  | [.c (.ints .u8 (code))] => some (DrawFillingOf_p code)
  | _ => none
def DrawFillingOf_G : List (Nat × Ctr) := [(43, ⟨[], l01From_ct⟩), (44, ⟨[(0, 0)], l03DrawAny_ct⟩), (45, ⟨[(0, 0)], l15DrawPrime_ct⟩), (46, ⟨[(0, 0)], l15Degree_ct⟩), (47, ⟨[(0, 0)], l15DrawChain_ct⟩), (50, ⟨[], l15Code_ct⟩), (62, ⟨[], l15Allowed_ct⟩), (53, ⟨[(0, 0)], l01Next_ct⟩), (51, ⟨[], l15Chain_ct⟩), (52, ⟨[], l15Boundary_ct⟩)]
def DrawFillingOf_V (code : List Int) : Prop :=
  ((((bytesB code) ∧
 (List.length code ≤ (4096 : Nat))) ∧
 (True)) ∧
 ((((bytesB code) ∧
 ((List.length code ≤ (4096 : Nat)) ∧
 (((0 : Int) ≤ (0 : Int)) ∧
 (((0 : Int) ≤ (↑(List.length code) : Int)) ∧
 (((1 : Int) ≤ (5 : Int)) ∧
 ((5 : Int) ≤ (5 : Int))))))) ∧
 ((code = code) ∧
 (True))) ∧
 ((((bytesB code) ∧
 (((0 : Int) ≤ Prod.fst (Prod.snd (Prod.snd (fY code)))) ∧
 ((Prod.fst (Prod.snd (Prod.snd (fY code))) ≤ (↑(List.length code) : Int)) ∧
 (List.length code ≤ (4096 : Nat))))) ∧
 ((code = code) ∧
 (True))) ∧
 ((((bytesB code) ∧
 (((0 : Int) ≤ Prod.fst (Prod.snd (fP code))) ∧
 ((Prod.fst (Prod.snd (fP code)) ≤ (↑(List.length code) : Int)) ∧
 ((List.length code ≤ (4096 : Nat)) ∧
 (((0 : Int) ≤ (↑(fN code) : Int)) ∧
 ((↑(fN code) : Int) ≤ (12 : Int))))))) ∧
 ((code = code) ∧
 (True))) ∧
 ((((bytesB code) ∧
 (((0 : Int) ≤ Prod.fst (Prod.snd (degD code (Prod.fst (Prod.snd (fP code))) (Prod.snd (Prod.snd (fP code))) (↑(fN code) : Int) (30 : Int)))) ∧
 ((Prod.fst (Prod.snd (degD code (Prod.fst (Prod.snd (fP code))) (Prod.snd (Prod.snd (fP code))) (↑(fN code) : Int) (30 : Int))) ≤ (↑(List.length code) : Int)) ∧
 ((List.length code ≤ (4096 : Nat)) ∧
 (((0 : Int) ≤ (↑(fN code) : Int)) ∧
 ((↑(fN code) : Int) ≤ (12 : Int))))))) ∧
 ((code = code) ∧
 (True))) ∧
 (((roomR (List.take (fN code) (List.drop (Prod.fst (Prod.snd (fY code))) (Prod.fst (fY code))))) ∧
 (True)) ∧
 (BrP (dgC (List.take (fN code) (List.drop (Prod.fst (Prod.snd (fY code))) (Prod.fst (fY code)))) (Prod.fst (fP code)) (Prod.fst (degD code (Prod.fst (Prod.snd (fP code))) (Prod.snd (Prod.snd (fP code))) (↑(fN code) : Int) (30 : Int))) == (0 : Int))
 ((InR (Prod.fst (degD code (Prod.fst (Prod.snd (fP code))) (Prod.snd (Prod.snd (fP code))) (↑(fN code) : Int) (30 : Int)) + (1 : Int))) ∧
 (((((1 : Int) ≤ (↑(fN code) : Int)) ∧
 ((↑(fN code) : Int) ≤ (12 : Int))) ∧
 (True)) ∧
 (BrP (degB (↑(fN code) : Int) (Prod.fst (degD code (Prod.fst (Prod.snd (fP code))) (Prod.snd (Prod.snd (fP code))) (↑(fN code) : Int) (30 : Int)) + (1 : Int)))
 ((((bytesB code) ∧
 (((0 : Int) ≤ Prod.fst (Prod.snd (chainD code (Prod.fst (Prod.snd (degD code (Prod.fst (Prod.snd (fP code))) (Prod.snd (Prod.snd (fP code))) (↑(fN code) : Int) (30 : Int)))) (Prod.snd (Prod.snd (degD code (Prod.fst (Prod.snd (fP code))) (Prod.snd (Prod.snd (fP code))) (↑(fN code) : Int) (30 : Int)))) (↑(fN code) : Int) (Prod.fst (fP code)) (Prod.fst (degD code (Prod.fst (Prod.snd (fP code))) (Prod.snd (Prod.snd (fP code))) (↑(fN code) : Int) (30 : Int)))))) ∧
 (Prod.fst (Prod.snd (chainD code (Prod.fst (Prod.snd (degD code (Prod.fst (Prod.snd (fP code))) (Prod.snd (Prod.snd (fP code))) (↑(fN code) : Int) (30 : Int)))) (Prod.snd (Prod.snd (degD code (Prod.fst (Prod.snd (fP code))) (Prod.snd (Prod.snd (fP code))) (↑(fN code) : Int) (30 : Int)))) (↑(fN code) : Int) (Prod.fst (fP code)) (Prod.fst (degD code (Prod.fst (Prod.snd (fP code))) (Prod.snd (Prod.snd (fP code))) (↑(fN code) : Int) (30 : Int))))) ≤ (1099511627776 : Int)))) ∧
 ((code = code) ∧
 (True))) ∧
 (BrP (Decidable.decide ((0 : Int) < nxV code (Prod.fst (Prod.snd (chainD code (Prod.fst (Prod.snd (degD code (Prod.fst (Prod.snd (fP code))) (Prod.snd (Prod.snd (fP code))) (↑(fN code) : Int) (30 : Int)))) (Prod.snd (Prod.snd (degD code (Prod.fst (Prod.snd (fP code))) (Prod.snd (Prod.snd (fP code))) (↑(fN code) : Int) (30 : Int)))) (↑(fN code) : Int) (Prod.fst (fP code)) (Prod.fst (degD code (Prod.fst (Prod.snd (fP code))) (Prod.snd (Prod.snd (fP code))) (↑(fN code) : Int) (30 : Int)))))) (Prod.snd (Prod.snd (chainD code (Prod.fst (Prod.snd (degD code (Prod.fst (Prod.snd (fP code))) (Prod.snd (Prod.snd (fP code))) (↑(fN code) : Int) (30 : Int)))) (Prod.snd (Prod.snd (degD code (Prod.fst (Prod.snd (fP code))) (Prod.snd (Prod.snd (fP code))) (↑(fN code) : Int) (30 : Int)))) (↑(fN code) : Int) (Prod.fst (fP code)) (Prod.fst (degD code (Prod.fst (Prod.snd (fP code))) (Prod.snd (Prod.snd (fP code))) (↑(fN code) : Int) (30 : Int)))))) (3 : Int)))
 ((InR (Prod.fst (degD code (Prod.fst (Prod.snd (fP code))) (Prod.snd (Prod.snd (fP code))) (↑(fN code) : Int) (30 : Int)) + (1 : Int))) ∧
 ((((bytesB code) ∧
 (((0 : Int) ≤ nxA (List.length code) (Prod.fst (Prod.snd (chainD code (Prod.fst (Prod.snd (degD code (Prod.fst (Prod.snd (fP code))) (Prod.snd (Prod.snd (fP code))) (↑(fN code) : Int) (30 : Int)))) (Prod.snd (Prod.snd (degD code (Prod.fst (Prod.snd (fP code))) (Prod.snd (Prod.snd (fP code))) (↑(fN code) : Int) (30 : Int)))) (↑(fN code) : Int) (Prod.fst (fP code)) (Prod.fst (degD code (Prod.fst (Prod.snd (fP code))) (Prod.snd (Prod.snd (fP code))) (↑(fN code) : Int) (30 : Int)))))) (3 : Int)) ∧
 ((nxA (List.length code) (Prod.fst (Prod.snd (chainD code (Prod.fst (Prod.snd (degD code (Prod.fst (Prod.snd (fP code))) (Prod.snd (Prod.snd (fP code))) (↑(fN code) : Int) (30 : Int)))) (Prod.snd (Prod.snd (degD code (Prod.fst (Prod.snd (fP code))) (Prod.snd (Prod.snd (fP code))) (↑(fN code) : Int) (30 : Int)))) (↑(fN code) : Int) (Prod.fst (fP code)) (Prod.fst (degD code (Prod.fst (Prod.snd (fP code))) (Prod.snd (Prod.snd (fP code))) (↑(fN code) : Int) (30 : Int)))))) (3 : Int) ≤ (↑(List.length code) : Int)) ∧
 ((List.length code ≤ (4096 : Nat)) ∧
 (((0 : Int) ≤ (↑(fN code) : Int)) ∧
 ((↑(fN code) : Int) ≤ (12 : Int))))))) ∧
 ((code = code) ∧
 (True))) ∧
 ((InR (Prod.fst (degD code (Prod.fst (Prod.snd (fP code))) (Prod.snd (Prod.snd (fP code))) (↑(fN code) : Int) (30 : Int)) + (1 : Int))) ∧
 (((((1 : Int) ≤ (↑(fN code) : Int)) ∧
 (((↑(fN code) : Int) ≤ (12 : Int)) ∧
 ((degB (↑(fN code) : Int) (Prod.fst (degD code (Prod.fst (Prod.snd (fP code))) (Prod.snd (Prod.snd (fP code))) (↑(fN code) : Int) (30 : Int)) + (1 : Int)) = Bool.true) ∧
 (((2 : Int) ≤ Prod.fst (fP code)) ∧
 ((Prod.fst (fP code) ≤ (7 : Int)) ∧
 (List.length (Prod.fst (chainD code (nxA (List.length code) (Prod.fst (Prod.snd (chainD code (Prod.fst (Prod.snd (degD code (Prod.fst (Prod.snd (fP code))) (Prod.snd (Prod.snd (fP code))) (↑(fN code) : Int) (30 : Int)))) (Prod.snd (Prod.snd (degD code (Prod.fst (Prod.snd (fP code))) (Prod.snd (Prod.snd (fP code))) (↑(fN code) : Int) (30 : Int)))) (↑(fN code) : Int) (Prod.fst (fP code)) (Prod.fst (degD code (Prod.fst (Prod.snd (fP code))) (Prod.snd (Prod.snd (fP code))) (↑(fN code) : Int) (30 : Int)))))) (3 : Int)) (nxH (Prod.snd (Prod.snd (chainD code (Prod.fst (Prod.snd (degD code (Prod.fst (Prod.snd (fP code))) (Prod.snd (Prod.snd (fP code))) (↑(fN code) : Int) (30 : Int)))) (Prod.snd (Prod.snd (degD code (Prod.fst (Prod.snd (fP code))) (Prod.snd (Prod.snd (fP code))) (↑(fN code) : Int) (30 : Int)))) (↑(fN code) : Int) (Prod.fst (fP code)) (Prod.fst (degD code (Prod.fst (Prod.snd (fP code))) (Prod.snd (Prod.snd (fP code))) (↑(fN code) : Int) (30 : Int)))))) (3 : Int)) (↑(fN code) : Int) (Prod.fst (fP code)) (Prod.fst (degD code (Prod.fst (Prod.snd (fP code))) (Prod.snd (Prod.snd (fP code))) (↑(fN code) : Int) (30 : Int)) + (1 : Int)))) ≤ (1099511627776 : Nat))))))) ∧
 (True)) ∧
 (BrP (Decidable.decide ((↑(List.length (Prod.fst (chainD code (nxA (List.length code) (Prod.fst (Prod.snd (chainD code (Prod.fst (Prod.snd (degD code (Prod.fst (Prod.snd (fP code))) (Prod.snd (Prod.snd (fP code))) (↑(fN code) : Int) (30 : Int)))) (Prod.snd (Prod.snd (degD code (Prod.fst (Prod.snd (fP code))) (Prod.snd (Prod.snd (fP code))) (↑(fN code) : Int) (30 : Int)))) (↑(fN code) : Int) (Prod.fst (fP code)) (Prod.fst (degD code (Prod.fst (Prod.snd (fP code))) (Prod.snd (Prod.snd (fP code))) (↑(fN code) : Int) (30 : Int)))))) (3 : Int)) (nxH (Prod.snd (Prod.snd (chainD code (Prod.fst (Prod.snd (degD code (Prod.fst (Prod.snd (fP code))) (Prod.snd (Prod.snd (fP code))) (↑(fN code) : Int) (30 : Int)))) (Prod.snd (Prod.snd (degD code (Prod.fst (Prod.snd (fP code))) (Prod.snd (Prod.snd (fP code))) (↑(fN code) : Int) (30 : Int)))) (↑(fN code) : Int) (Prod.fst (fP code)) (Prod.fst (degD code (Prod.fst (Prod.snd (fP code))) (Prod.snd (Prod.snd (fP code))) (↑(fN code) : Int) (30 : Int)))))) (3 : Int)) (↑(fN code) : Int) (Prod.fst (fP code)) (Prod.fst (degD code (Prod.fst (Prod.snd (fP code))) (Prod.snd (Prod.snd (fP code))) (↑(fN code) : Int) (30 : Int)) + (1 : Int))))) : Int) = (↑(fN code) : Int) ^ Int.toNat (Prod.fst (degD code (Prod.fst (Prod.snd (fP code))) (Prod.snd (Prod.snd (fP code))) (↑(fN code) : Int) (30 : Int)) + (1 : Int))) && allW (0 : Int) (Prod.fst (fP code) - (1 : Int)) (Prod.fst (chainD code (nxA (List.length code) (Prod.fst (Prod.snd (chainD code (Prod.fst (Prod.snd (degD code (Prod.fst (Prod.snd (fP code))) (Prod.snd (Prod.snd (fP code))) (↑(fN code) : Int) (30 : Int)))) (Prod.snd (Prod.snd (degD code (Prod.fst (Prod.snd (fP code))) (Prod.snd (Prod.snd (fP code))) (↑(fN code) : Int) (30 : Int)))) (↑(fN code) : Int) (Prod.fst (fP code)) (Prod.fst (degD code (Prod.fst (Prod.snd (fP code))) (Prod.snd (Prod.snd (fP code))) (↑(fN code) : Int) (30 : Int)))))) (3 : Int)) (nxH (Prod.snd (Prod.snd (chainD code (Prod.fst (Prod.snd (degD code (Prod.fst (Prod.snd (fP code))) (Prod.snd (Prod.snd (fP code))) (↑(fN code) : Int) (30 : Int)))) (Prod.snd (Prod.snd (degD code (Prod.fst (Prod.snd (fP code))) (Prod.snd (Prod.snd (fP code))) (↑(fN code) : Int) (30 : Int)))) (↑(fN code) : Int) (Prod.fst (fP code)) (Prod.fst (degD code (Prod.fst (Prod.snd (fP code))) (Prod.snd (Prod.snd (fP code))) (↑(fN code) : Int) (30 : Int)))))) (3 : Int)) (↑(fN code) : Int) (Prod.fst (fP code)) (Prod.fst (degD code (Prod.fst (Prod.snd (fP code))) (Prod.snd (Prod.snd (fP code))) (↑(fN code) : Int) (30 : Int)) + (1 : Int)))))
 ((InR (Prod.fst (degD code (Prod.fst (Prod.snd (fP code))) (Prod.snd (Prod.snd (fP code))) (↑(fN code) : Int) (30 : Int)) + (1 : Int))) ∧
 (((cnOk (List.take (fN code) (List.drop (Prod.fst (Prod.snd (fY code))) (Prod.fst (fY code)))) (Prod.fst (fP code)) (Prod.fst (degD code (Prod.fst (Prod.snd (fP code))) (Prod.snd (Prod.snd (fP code))) (↑(fN code) : Int) (30 : Int)) + (1 : Int)) (Prod.fst (chainD code (nxA (List.length code) (Prod.fst (Prod.snd (chainD code (Prod.fst (Prod.snd (degD code (Prod.fst (Prod.snd (fP code))) (Prod.snd (Prod.snd (fP code))) (↑(fN code) : Int) (30 : Int)))) (Prod.snd (Prod.snd (degD code (Prod.fst (Prod.snd (fP code))) (Prod.snd (Prod.snd (fP code))) (↑(fN code) : Int) (30 : Int)))) (↑(fN code) : Int) (Prod.fst (fP code)) (Prod.fst (degD code (Prod.fst (Prod.snd (fP code))) (Prod.snd (Prod.snd (fP code))) (↑(fN code) : Int) (30 : Int)))))) (3 : Int)) (nxH (Prod.snd (Prod.snd (chainD code (Prod.fst (Prod.snd (degD code (Prod.fst (Prod.snd (fP code))) (Prod.snd (Prod.snd (fP code))) (↑(fN code) : Int) (30 : Int)))) (Prod.snd (Prod.snd (degD code (Prod.fst (Prod.snd (fP code))) (Prod.snd (Prod.snd (fP code))) (↑(fN code) : Int) (30 : Int)))) (↑(fN code) : Int) (Prod.fst (fP code)) (Prod.fst (degD code (Prod.fst (Prod.snd (fP code))) (Prod.snd (Prod.snd (fP code))) (↑(fN code) : Int) (30 : Int)))))) (3 : Int)) (↑(fN code) : Int) (Prod.fst (fP code)) (Prod.fst (degD code (Prod.fst (Prod.snd (fP code))) (Prod.snd (Prod.snd (fP code))) (↑(fN code) : Int) (30 : Int)) + (1 : Int))))) ∧
 (True)) ∧
 (((((Prod.fst (Prod.snd (fY code)) = Prod.fst (Prod.snd (fY code))) ∧
 ((fN code = fN code) ∧
 (Prod.fst (fY code) = Prod.fst (fY code)))) ∧
 (True)) ∧
 ((Prod.fst (fP code) = Prod.fst (fP code)) ∧
 ((Prod.fst (degD code (Prod.fst (Prod.snd (fP code))) (Prod.snd (Prod.snd (fP code))) (↑(fN code) : Int) (30 : Int)) = Prod.fst (fK code)) ∧
 ((bdF (List.take (fN code) (List.drop (Prod.fst (Prod.snd (fY code))) (Prod.fst (fY code)))) (Prod.fst (fP code)) (Int.toNat (Prod.fst (degD code (Prod.fst (Prod.snd (fP code))) (Prod.snd (Prod.snd (fP code))) (↑(fN code) : Int) (30 : Int)) + (1 : Int))) (Prod.fst (chainD code (nxA (List.length code) (Prod.fst (Prod.snd (chainD code (Prod.fst (Prod.snd (degD code (Prod.fst (Prod.snd (fP code))) (Prod.snd (Prod.snd (fP code))) (↑(fN code) : Int) (30 : Int)))) (Prod.snd (Prod.snd (degD code (Prod.fst (Prod.snd (fP code))) (Prod.snd (Prod.snd (fP code))) (↑(fN code) : Int) (30 : Int)))) (↑(fN code) : Int) (Prod.fst (fP code)) (Prod.fst (degD code (Prod.fst (Prod.snd (fP code))) (Prod.snd (Prod.snd (fP code))) (↑(fN code) : Int) (30 : Int)))))) (3 : Int)) (nxH (Prod.snd (Prod.snd (chainD code (Prod.fst (Prod.snd (degD code (Prod.fst (Prod.snd (fP code))) (Prod.snd (Prod.snd (fP code))) (↑(fN code) : Int) (30 : Int)))) (Prod.snd (Prod.snd (degD code (Prod.fst (Prod.snd (fP code))) (Prod.snd (Prod.snd (fP code))) (↑(fN code) : Int) (30 : Int)))) (↑(fN code) : Int) (Prod.fst (fP code)) (Prod.fst (degD code (Prod.fst (Prod.snd (fP code))) (Prod.snd (Prod.snd (fP code))) (↑(fN code) : Int) (30 : Int)))))) (3 : Int)) (↑(fN code) : Int) (Prod.fst (fP code)) (Prod.fst (degD code (Prod.fst (Prod.snd (fP code))) (Prod.snd (Prod.snd (fP code))) (↑(fN code) : Int) (30 : Int)) + (1 : Int)))) (List.length (Prod.fst (chainD code (nxA (List.length code) (Prod.fst (Prod.snd (chainD code (Prod.fst (Prod.snd (degD code (Prod.fst (Prod.snd (fP code))) (Prod.snd (Prod.snd (fP code))) (↑(fN code) : Int) (30 : Int)))) (Prod.snd (Prod.snd (degD code (Prod.fst (Prod.snd (fP code))) (Prod.snd (Prod.snd (fP code))) (↑(fN code) : Int) (30 : Int)))) (↑(fN code) : Int) (Prod.fst (fP code)) (Prod.fst (degD code (Prod.fst (Prod.snd (fP code))) (Prod.snd (Prod.snd (fP code))) (↑(fN code) : Int) (30 : Int)))))) (3 : Int)) (nxH (Prod.snd (Prod.snd (chainD code (Prod.fst (Prod.snd (degD code (Prod.fst (Prod.snd (fP code))) (Prod.snd (Prod.snd (fP code))) (↑(fN code) : Int) (30 : Int)))) (Prod.snd (Prod.snd (degD code (Prod.fst (Prod.snd (fP code))) (Prod.snd (Prod.snd (fP code))) (↑(fN code) : Int) (30 : Int)))) (↑(fN code) : Int) (Prod.fst (fP code)) (Prod.fst (degD code (Prod.fst (Prod.snd (fP code))) (Prod.snd (Prod.snd (fP code))) (↑(fN code) : Int) (30 : Int)))))) (3 : Int)) (↑(fN code) : Int) (Prod.fst (fP code)) (Prod.fst (degD code (Prod.fst (Prod.snd (fP code))) (Prod.snd (Prod.snd (fP code))) (↑(fN code) : Int) (30 : Int)) + (1 : Int))))) = fR code) ∧
 (True))))) ∧
 (True))))
 (((((Prod.fst (Prod.snd (fY code)) = Prod.fst (Prod.snd (fY code))) ∧
 ((fN code = fN code) ∧
 (Prod.fst (fY code) = Prod.fst (fY code)))) ∧
 (True)) ∧
 ((Prod.fst (fP code) = Prod.fst (fP code)) ∧
 ((Prod.fst (degD code (Prod.fst (Prod.snd (fP code))) (Prod.snd (Prod.snd (fP code))) (↑(fN code) : Int) (30 : Int)) = Prod.fst (fK code)) ∧
 ((Prod.fst (chainD code (Prod.fst (Prod.snd (degD code (Prod.fst (Prod.snd (fP code))) (Prod.snd (Prod.snd (fP code))) (↑(fN code) : Int) (30 : Int)))) (Prod.snd (Prod.snd (degD code (Prod.fst (Prod.snd (fP code))) (Prod.snd (Prod.snd (fP code))) (↑(fN code) : Int) (30 : Int)))) (↑(fN code) : Int) (Prod.fst (fP code)) (Prod.fst (degD code (Prod.fst (Prod.snd (fP code))) (Prod.snd (Prod.snd (fP code))) (↑(fN code) : Int) (30 : Int)))) = fR code) ∧
 (True))))) ∧
 (True)))))))
 (((((Prod.fst (Prod.snd (fY code)) = Prod.fst (Prod.snd (fY code))) ∧
 ((fN code = fN code) ∧
 (Prod.fst (fY code) = Prod.fst (fY code)))) ∧
 (True)) ∧
 ((Prod.fst (fP code) = Prod.fst (fP code)) ∧
 ((Prod.fst (degD code (Prod.fst (Prod.snd (fP code))) (Prod.snd (Prod.snd (fP code))) (↑(fN code) : Int) (30 : Int)) = Prod.fst (fK code)) ∧
 ((Prod.fst (chainD code (Prod.fst (Prod.snd (degD code (Prod.fst (Prod.snd (fP code))) (Prod.snd (Prod.snd (fP code))) (↑(fN code) : Int) (30 : Int)))) (Prod.snd (Prod.snd (degD code (Prod.fst (Prod.snd (fP code))) (Prod.snd (Prod.snd (fP code))) (↑(fN code) : Int) (30 : Int)))) (↑(fN code) : Int) (Prod.fst (fP code)) (Prod.fst (degD code (Prod.fst (Prod.snd (fP code))) (Prod.snd (Prod.snd (fP code))) (↑(fN code) : Int) (30 : Int)))) = fR code) ∧
 (True))))) ∧
 (True))))
 (((((Prod.fst (Prod.snd (fY code)) = Prod.fst (Prod.snd (fY code))) ∧
 ((fN code = fN code) ∧
 (Prod.fst (fY code) = Prod.fst (fY code)))) ∧
 (True)) ∧
 ((Prod.fst (fP code) = Prod.fst (fP code)) ∧
 ((Prod.fst (degD code (Prod.fst (Prod.snd (fP code))) (Prod.snd (Prod.snd (fP code))) (↑(fN code) : Int) (30 : Int)) = Prod.fst (fK code)) ∧
 ((Prod.fst (chainD code (Prod.fst (Prod.snd (degD code (Prod.fst (Prod.snd (fP code))) (Prod.snd (Prod.snd (fP code))) (↑(fN code) : Int) (30 : Int)))) (Prod.snd (Prod.snd (degD code (Prod.fst (Prod.snd (fP code))) (Prod.snd (Prod.snd (fP code))) (↑(fN code) : Int) (30 : Int)))) (↑(fN code) : Int) (Prod.fst (fP code)) (Prod.fst (degD code (Prod.fst (Prod.snd (fP code))) (Prod.snd (Prod.snd (fP code))) (↑(fN code) : Int) (30 : Int)))) = fR code) ∧
 (True))))) ∧
 (True)))))
 (((((Prod.fst (Prod.snd (fY code)) = Prod.fst (Prod.snd (fY code))) ∧
 ((fN code = fN code) ∧
 (Prod.fst (fY code) = Prod.fst (fY code)))) ∧
 (True)) ∧
 ((Prod.fst (fP code) = Prod.fst (fP code)) ∧
 ((Prod.fst (degD code (Prod.fst (Prod.snd (fP code))) (Prod.snd (Prod.snd (fP code))) (↑(fN code) : Int) (30 : Int)) = Prod.fst (fK code)) ∧
 ((Prod.fst (chainD code (Prod.fst (Prod.snd (degD code (Prod.fst (Prod.snd (fP code))) (Prod.snd (Prod.snd (fP code))) (↑(fN code) : Int) (30 : Int)))) (Prod.snd (Prod.snd (degD code (Prod.fst (Prod.snd (fP code))) (Prod.snd (Prod.snd (fP code))) (↑(fN code) : Int) (30 : Int)))) (↑(fN code) : Int) (Prod.fst (fP code)) (Prod.fst (degD code (Prod.fst (Prod.snd (fP code))) (Prod.snd (Prod.snd (fP code))) (↑(fN code) : Int) (30 : Int)))) = fR code) ∧
 (True))))) ∧
 (True)))))))))
theorem DrawFillingOf_vc (code : List Int) : runF Try.prog (gam DrawFillingOf_G) noWr noAnn Try.f27 (bodyOf Try.f27) [] [.c (.ints .u8 (code))] (DrawFillingOf_p code) = DrawFillingOf_V code := by kernel_rfl
theorem DrawFillingOf_ok (code : List Int) (hpre : (DrawFillingOf_p code).pre) : DrawFillingOf_V code := by
  simp only [DrawFillingOf_p, DrawFillingOf_V, BrP_iff, true_and, and_true, decide_eq_true_eq, decide_eq_false_iff_not, bne_iff_ne, beq_iff_eq, bne_eq_false_iff_eq, beq_eq_false_iff_ne, Bool.not_eq_true, Bool.not_eq_false, Bool.not_true, Bool.not_false, Bool.not_eq_eq_eq_not, Int.toNat_natCast, List.length_append, List.length_take, List.length_replicate, List.length_set, List.length_map, List.length_drop, List.length_nil, List.length_cons, markL_length, inB, InR, room, bdsOk] at hpre ⊢
  obtain ⟨hb, hc⟩ := hpre
  have eY : drY code 0 (frH code code.length) 5 = fY code := rfl
  have eN : (fY code).1.length - (fY code).2.1 = fN code := rfl
  have eP : primeD code (fY code).2.2.1 (fY code).2.2.2 = fP code := rfl
  have eK : degD code (fP code).2.1 (fP code).2.2 (fN code : Int) 30 = fK code := rfl
  have eC : chainD code (fK code).2.1 (fK code).2.2 (fN code : Int) (fP code).1 (fK code).1 = fC code := rfl
  have eA : chainD code (nxA code.length (fC code).2.1 3) (nxH (fC code).2.2 3) (fN code : Int) (fP code).1 ((fK code).1 + 1) = fA code := rfl
  have eT : List.take (fN code) (List.drop (fY code).2.1 (fY code).1) = yT (fY code) := rfl
  simp only [eY, eN, eP, eK, eC, eA, eT]
  have K := fY_ok hb
  have P := primeD_in (h := (fY code).2.2.2) K.2.2.2.2.1 K.2.2.2.2.2
  rw [eP] at P
  have D := degD_in hb (h := (fP code).2.2) (n := (fN code : Int)) (most := 30) P.1 P.2
  rw [eK] at D
  have C := chainD_in (h := (fK code).2.2) (n := (fN code : Int)) (p := (fP code).1) (k := (fK code).1) D.2.1 D.2.2
  rw [eC] at C
  have a3 := nxA_in (n := 3) C.2.1 C.2.2
  have A := chainD_in (h := nxH (fC code).2.2 3) (n := (fN code : Int)) (p := (fP code).1) (k := (fK code).1 + 1) a3.1 a3.2
  rw [eA] at A
  have N5 : fN code ≤ 5 := by have := K.2.1; omega
  have T := yT_room K
  have TL := yT_length (fY code)
  rw [eN] at TL
  refine ⟨⟨hb, hc⟩, ⟨hb, hc, by omega, by omega, by omega, by omega⟩, ⟨hb, K.2.2.2.2.1, K.2.2.2.2.2, hc⟩, ⟨hb, P.1, P.2, hc, by omega, by omega⟩, ⟨hb, D.2.1, D.2.2, hc, by omega, by omega⟩, T, fun z => ?_, fun z => ⟨trivial, by rw [fR, if_neg fun e => z e.1]⟩⟩
  obtain ⟨r1, r2, r3, _⟩ := dgC_ok z
  have tb := tabB_of (rackB_tab r1)
  have pr := primeB_le r2
  have d0 := degB_of r3
  refine ⟨by omega, ⟨by omega, by omega⟩, fun y => ⟨⟨hb, C.2.1, by omega⟩, fun x => ⟨by omega, ⟨hb, a3.1, a3.2, hc, by omega, by omega⟩, by omega, ⟨by omega, by omega, y, by omega, by omega, by omega⟩, fun v => ⟨by omega, ?_, trivial, by rw [fR, if_pos ⟨z, y, x, v⟩]⟩, fun v => ⟨trivial, by rw [fR, if_neg fun e => by rw [e.2.2.2] at v; cases v]⟩⟩, fun x => ⟨trivial, by rw [fR, if_neg fun e => x e.2.2.1]⟩⟩, fun y => ⟨trivial, by rw [fR, if_neg fun e => by rw [e.2.1] at y; cases y]⟩⟩
  rw [Bool.and_eq_true, decide_eq_true_eq] at v
  refine ⟨rackB_tab r1, by omega, by omega, by omega, by rw [TL]; exact y, allW_inP v.2, ?_⟩
  have := v.1
  rw [← Int.natCast_pow] at this
  rw [TL]
  omega
theorem DrawFillingOf_fits : Fits Try.prog 27 ⟨[], DrawFillingOf_ct⟩ := by
  refine fits_fn (Γ := gam DrawFillingOf_G) (gok_cons l01From_fits (gok_cons l03DrawAny_fits (gok_cons l15DrawPrime_fits (gok_cons l15Degree_fits (gok_cons l15DrawChain_fits (gok_cons l15Code_fits (gok_cons l15Allowed_fits (gok_cons l01Next_fits (gok_cons l15Chain_fits (gok_cons l15Boundary_fits gok_nil)))))))))) Try.func27 (by kernel_rfl) (by kernel_rfl) (by kernel_rfl) fun ds p h hp => ?_
  unfold DrawFillingOf_ct at h
  split at h
  · cases h
    exact ⟨noWr, noAnn, by rw [DrawFillingOf_vc]; exact DrawFillingOf_ok _  hp⟩
  · cases h

theorem lsS_in {code : List Int} (hb : bytesB code) {m : Int} (hm : 1 ≤ m) : ∀ (j : Nat) (s : List Int × Int × Int), (∀ x ∈ s.1, 0 ≤ x ∧ x ≤ m - 1) → (lsS code m j s).1.length = s.1.length + j ∧ ∀ x ∈ (lsS code m j s).1, 0 ≤ x ∧ x ≤ m - 1
  | 0, s, h => ⟨rfl, h⟩
  | j + 1, s, h => by
    have v := nxV_in hb s.2.1 s.2.2 hm
    have := lsS_in hb hm j (s.1 ++ [nxV code s.2.1 s.2.2 m], nxA code.length s.2.1 m, nxH s.2.2 m) fun x hx => by
      rcases List.mem_append.1 hx with hx | hx
      · exact h x hx
      · rw [List.mem_singleton.1 hx]; exact v
    refine ⟨?_, this.2⟩
    have e := this.1
    rw [List.length_append] at e
    show (lsS code m j _).1.length = _
    rw [e]
    show s.1.length + 1 + j = s.1.length + (j + 1)
    omega

theorem allW_of {p : Int} {c : List Int} (h : inP p c) : allW 0 (p - 1) c = true := by
  simp only [allW, List.all_eq_true, decide_eq_true_eq]
  intro x hx
  obtain ⟨i, hi, rfl⟩ := List.mem_iff_getElem.1 hx
  have := h i hi
  rwa [getD_lt c 0 i hi] at this

theorem chC_mk {t : List (List Int)} {p k : Int} {c : List Int} (h1 : rackB t = true) (h2 : primeB p = true) (h3 : degB t.length k = true) (h4 : rwP p (t.length ^ k.toNat) c) : chC t p k c = 0 := by
  have e : chB t p k c = true := by
    rw [chB, allW_of h4.2, h4.1, Int.natCast_pow]; simp
  simp [chC, h1, dgB, h2, h3, e]

theorem chC_val (t : List (List Int)) (p k : Int) (c : List Int) : chC t p k c = 0 ∨ chC t p k c = 1 ∨ chC t p k c = 2 := by
  unfold chC
  split
  · split
    · split
      · exact .inl rfl
      · exact .inr (.inr rfl)
    · exact .inr (.inr rfl)
  · exact .inr (.inl rfl)

theorem fl_state {t : List (List Int)} {p k : Int} {c : List Int} (h : (flC t p k c).2 = 0 ∨ (flC t p k c).2 = 4) : chC t p k c = 0 ∧ degB (t.length : Int) (k + 1) = true := by
  have v := chC_val t p k c
  unfold flC at h
  split at h
  · rename_i z
    split at h
    · rename_i y; exact ⟨z, y⟩
    · simp at h
  · rename_i z
    dsimp only at h
    omega

theorem fl_zero {t : List (List Int)} {p k : Int} {c : List Int} (h : (flC t p k c).2 = 0) : (flV t p (k + 1).toNat c).2 = true ∧ (flC t p k c).1 = (flV t p (k + 1).toNat c).1 := by
  obtain ⟨z, y⟩ := fl_state (.inl h)
  rw [flC, if_pos z, if_pos y] at h ⊢
  split at h
  · rename_i x; exact ⟨x, by rw [if_pos x]⟩
  · simp at h

theorem ch_rw {t : List (List Int)} {p k : Int} {c : List Int} (h : chC t p k c = 0) : rackB t = true ∧ primeB p = true ∧ degB t.length k = true ∧ rwP p (t.length ^ k.toNat) c := by
  obtain ⟨h1, h2, h3, h4, _⟩ := chC_ok h
  obtain ⟨c1, c2, c3⟩ := chB_of h4
  exact ⟨h1, h2, h3, c1, c2⟩

/-- What FillingOf answers has the chain as its boundary. -/
theorem fl_main {t : List (List Int)} {p k : Int} {c : List Int} (h : (flC t p k c).2 = 0) : (rbC t p (k + 1) (flC t p k c).1).2 = 0 ∧ (rbC t p (k + 1) (flC t p k c).1).1 = c := by
  obtain ⟨z, y⟩ := fl_state (.inl h)
  obtain ⟨v, e⟩ := fl_zero h
  obtain ⟨h1, h2, h3, h4⟩ := ch_rw z
  have d := degB_of h3
  have K1 : (k + 1).toNat - 1 = k.toNat := by omega
  obtain ⟨f1, f2⟩ := fill_bd h2 (t := t) (K := (k + 1).toNat) (c := c) (by rw [K1]; exact h4) v
  have ch := chC_mk h1 h2 y f1
  rw [e]
  have r := rbC_yes ch (by omega)
  rw [f2] at r
  exact ⟨r.2.symm, r.1.symm⟩

theorem fl_tail {t : List (List Int)} {p k : Int} {c : List Int} (h : chC t p k c = 0 ∧ degB (t.length : Int) (k + 1) = true) {code : List Int} (hb : bytesB code) (g : Int) :
    (0 ≤ (c.length : Int) * (t.length : Int) ∧ (c.length : Int) * (t.length : Int) ≤ 1000000) ∧ 1 ≤ p ∧ (0 ≤ k ∧ k ≤ 1000) ∧ (lsS code p ((c.length : Int) * (t.length : Int)).toNat ([], 0, g)).1.length ≤ 1000000 ∧
      (rbC t p (k + 1) (lsS code p ((c.length : Int) * (t.length : Int)).toNat ([], 0, g)).1).2 = 0 ∧ (flC t p k (rbC t p (k + 1) (lsS code p ((c.length : Int) * (t.length : Int)).toNat ([], 0, g)).1).1).2 = 0 := by
  obtain ⟨z, y⟩ := h
  obtain ⟨h1, h2, h3, h4⟩ := ch_rw z
  obtain ⟨p2, p7⟩ := primeB_le h2
  have d := degB_of h3
  have dy := degB_of y
  have K1 : (k + 1).toNat = k.toNat + 1 := by omega
  have cl := h4.1
  have eN : (c.length : Int) * (t.length : Int) = ((t.length ^ (k.toNat + 1) : Nat) : Int) := by rw [cl, Nat.pow_succ, Int.natCast_mul]
  have N5 : ((t.length ^ (k.toNat + 1) : Nat) : Int) ≤ 512 := by rw [Int.natCast_pow, ← K1]; exact dy.2.2
  rw [eN, Int.toNat_natCast]
  obtain ⟨l1, l2⟩ := lsS_in hb (show 1 ≤ p by omega) (t.length ^ (k.toNat + 1)) ([], 0, g) fun x hx => (List.not_mem_nil hx).elim
  generalize (lsS code p (t.length ^ (k.toNat + 1)) ([], 0, g)).1 = l at *
  have l1 : l.length = t.length ^ (k.toNat + 1) := by rw [l1]; simp
  have lr : rwP p (t.length ^ (k + 1).toNat) l := ⟨by rw [l1, K1], fun q hq => by rw [getD_lt l 0 q hq]; exact l2 _ (List.getElem_mem hq)⟩
  have ch := chC_mk h1 h2 y lr
  have r := rbC_yes ch (by omega)
  have b := bd_fill h2 lr
  obtain ⟨b1, _⟩ := bd_lin (t := t) p2 (K := (k + 1).toNat) lr.2 l.length (Nat.le_refl _)
  rw [show (k + 1).toNat - 1 = k.toNat by omega] at b1
  have ch2 := chC_mk h1 h2 h3 b1
  refine ⟨by omega, by omega, by omega, by omega, r.2.symm, ?_⟩
  rw [← r.1, flC, if_pos ch2, if_pos y, if_pos b]

theorem fR_len {code : List Int} (hb : bytesB code) : (fR code).length ≤ 1000 := by
  have K := fY_ok hb
  have P := primeD_in (h := (fY code).2.2.2) K.2.2.2.2.1 K.2.2.2.2.2
  have D := degD_in hb (h := (fP code).2.2) (n := (fN code : Int)) (most := 30) P.1 P.2
  have C := chainD_in (h := (fK code).2.2) (n := (fN code : Int)) (p := (fP code).1) (k := (fK code).1) D.2.1 D.2.2
  unfold fR
  split
  · rename_i h
    obtain ⟨r1, r2, r3, _⟩ := dgC_ok h.1
    have d := degB_of r3
    rw [bdF_length, show ((fK code).1 + 1).toNat - 1 = (fK code).1.toNat by omega]
    rw [← Int.natCast_pow] at d
    omega
  · exact Nat.le_trans C.1 (by omega)

def lFills_p (code : List Int) : Post := ⟨bytesB code, .c (.bool (true)), []⟩
def lFills_ct : List AD → Option Post
  | [.c (.ints .u8 (code))] => some (lFills_p code)
  | _ => none
def lFills_G : List (Nat × Ctr) := [(6, ⟨[], big_ct⟩), (27, ⟨[], DrawFillingOf_ct⟩), (28, ⟨[], iFil_ct⟩), (29, ⟨[], sFil_ct⟩), (18, ⟨[], likeInts_ct⟩), (16, ⟨[], iRB_ct⟩), (19, ⟨[], roll_ct⟩), (20, ⟨[(0, 0)], list5_ct⟩)]
def lFills_V (code : List Int) : Prop :=
  (((True) ∧
 (True)) ∧
 (BrP (Decidable.decide ((4096 : Int) < (↑(List.length code) : Int)))
 ((Bool.true = Bool.true) ∧
 (True))
 ((((bytesB code) ∧
 (List.length code ≤ (4096 : Nat))) ∧
 (True)) ∧
 ((((roomR (List.take (fN code) (List.drop (Prod.fst (Prod.snd (fY code))) (Prod.fst (fY code))))) ∧
 (List.length (fR code) ≤ (1099511627776 : Nat))) ∧
 (True)) ∧
 ((((roomR (List.take (fN code) (List.drop (Prod.fst (Prod.snd (fY code))) (Prod.fst (fY code))))) ∧
 (List.length (fR code) ≤ (1099511627776 : Nat))) ∧
 (True)) ∧
 (BrP (Prod.snd (flC (List.take (fN code) (List.drop (Prod.fst (Prod.snd (fY code))) (Prod.fst (fY code)))) (Prod.fst (fP code)) (Prod.fst (fK code)) (fR code)) != Prod.snd (flC (List.take (fN code) (List.drop (Prod.fst (Prod.snd (fY code))) (Prod.fst (fY code)))) (Prod.fst (fP code)) (Prod.fst (fK code)) (fR code)))
 ((Bool.false = Bool.true) ∧
 (True))
 (((room (List.length (Prod.fst (flC (List.take (fN code) (List.drop (Prod.fst (Prod.snd (fY code))) (Prod.fst (fY code)))) (Prod.fst (fP code)) (Prod.fst (fK code)) (fR code))))) ∧
 (True)) ∧
 (BrP (!Decidable.decide (Prod.fst (flC (List.take (fN code) (List.drop (Prod.fst (Prod.snd (fY code))) (Prod.fst (fY code)))) (Prod.fst (fP code)) (Prod.fst (fK code)) (fR code)) = Prod.fst (flC (List.take (fN code) (List.drop (Prod.fst (Prod.snd (fY code))) (Prod.fst (fY code)))) (Prod.fst (fP code)) (Prod.fst (fK code)) (fR code))))
 ((Bool.false = Bool.true) ∧
 (True))
 (BrP (Prod.snd (flC (List.take (fN code) (List.drop (Prod.fst (Prod.snd (fY code))) (Prod.fst (fY code)))) (Prod.fst (fP code)) (Prod.fst (fK code)) (fR code)) != (0 : Int))
 (BrP (Prod.snd (flC (List.take (fN code) (List.drop (Prod.fst (Prod.snd (fY code))) (Prod.fst (fY code)))) (Prod.fst (fP code)) (Prod.fst (fK code)) (fR code)) != (4 : Int))
 ((Bool.true = Bool.true) ∧
 (True))
 (BrP (Prod.snd (flC (List.take (fN code) (List.drop (Prod.fst (Prod.snd (fY code))) (Prod.fst (fY code)))) (Prod.fst (fP code)) (Prod.fst (fK code)) (fR code)) == (0 : Int))
 ((InR (Prod.fst (fK code) + (1 : Int))) ∧
 ((((roomR (List.take (fN code) (List.drop (Prod.fst (Prod.snd (fY code))) (Prod.fst (fY code))))) ∧
 (List.length (Prod.fst (flC (List.take (fN code) (List.drop (Prod.fst (Prod.snd (fY code))) (Prod.fst (fY code)))) (Prod.fst (fP code)) (Prod.fst (fK code)) (fR code))) ≤ (1099511627776 : Nat))) ∧
 (True)) ∧
 (BrP (Prod.snd (rbC (List.take (fN code) (List.drop (Prod.fst (Prod.snd (fY code))) (Prod.fst (fY code)))) (Prod.fst (fP code)) (Prod.fst (fK code) + (1 : Int)) (Prod.fst (flC (List.take (fN code) (List.drop (Prod.fst (Prod.snd (fY code))) (Prod.fst (fY code)))) (Prod.fst (fP code)) (Prod.fst (fK code)) (fR code)))) != (0 : Int))
 ((Bool.false = Bool.true) ∧
 (True))
 (((room (List.length (Prod.fst (rbC (List.take (fN code) (List.drop (Prod.fst (Prod.snd (fY code))) (Prod.fst (fY code)))) (Prod.fst (fP code)) (Prod.fst (fK code) + (1 : Int)) (Prod.fst (flC (List.take (fN code) (List.drop (Prod.fst (Prod.snd (fY code))) (Prod.fst (fY code)))) (Prod.fst (fP code)) (Prod.fst (fK code)) (fR code))))))) ∧
 (True)) ∧
 (BrP (!Decidable.decide (Prod.fst (rbC (List.take (fN code) (List.drop (Prod.fst (Prod.snd (fY code))) (Prod.fst (fY code)))) (Prod.fst (fP code)) (Prod.fst (fK code) + (1 : Int)) (Prod.fst (flC (List.take (fN code) (List.drop (Prod.fst (Prod.snd (fY code))) (Prod.fst (fY code)))) (Prod.fst (fP code)) (Prod.fst (fK code)) (fR code)))) = fR code))
 ((Bool.false = Bool.true) ∧
 (True))
 ((InR ((↑(List.length (fR code)) : Int) * (↑(fN code) : Int))) ∧
 ((InR (Prod.fst (fK code) + (1 : Int))) ∧
 ((((bytesB code) ∧
 (List.length code ≤ (4096 : Nat))) ∧
 (True)) ∧
 ((((bytesB code) ∧
 (((0 : Int) ≤ (0 : Int)) ∧
 (((0 : Int) ≤ (↑(List.length code) : Int)) ∧
 ((List.length code ≤ (4096 : Nat)) ∧
 (((↑(List.length (fR code)) : Int) * (↑(fN code) : Int) ≤ (1000000 : Int)) ∧
 ((1 : Int) ≤ Prod.fst (fP code))))))) ∧
 ((code = code) ∧
 (True))) ∧
 ((((roomR (List.take (fN code) (List.drop (Prod.fst (Prod.snd (fY code))) (Prod.fst (fY code))))) ∧
 (List.length (Prod.fst (lsS code (Prod.fst (fP code)) (Int.toNat ((↑(List.length (fR code)) : Int) * (↑(fN code) : Int))) ([], (0 : Int), rlH code (821 : Int) (List.length code)))) ≤ (1099511627776 : Nat))) ∧
 (True)) ∧
 ((((roomR (List.take (fN code) (List.drop (Prod.fst (Prod.snd (fY code))) (Prod.fst (fY code))))) ∧
 (List.length (Prod.fst (rbC (List.take (fN code) (List.drop (Prod.fst (Prod.snd (fY code))) (Prod.fst (fY code)))) (Prod.fst (fP code)) (Prod.fst (fK code) + (1 : Int)) (Prod.fst (lsS code (Prod.fst (fP code)) (Int.toNat ((↑(List.length (fR code)) : Int) * (↑(fN code) : Int))) ([], (0 : Int), rlH code (821 : Int) (List.length code)))))) ≤ (1099511627776 : Nat))) ∧
 (True)) ∧
 (BrP (Prod.snd (rbC (List.take (fN code) (List.drop (Prod.fst (Prod.snd (fY code))) (Prod.fst (fY code)))) (Prod.fst (fP code)) (Prod.fst (fK code) + (1 : Int)) (Prod.fst (lsS code (Prod.fst (fP code)) (Int.toNat ((↑(List.length (fR code)) : Int) * (↑(fN code) : Int))) ([], (0 : Int), rlH code (821 : Int) (List.length code))))) == (0 : Int))
 (((Prod.snd (flC (List.take (fN code) (List.drop (Prod.fst (Prod.snd (fY code))) (Prod.fst (fY code)))) (Prod.fst (fP code)) (Prod.fst (fK code)) (Prod.fst (rbC (List.take (fN code) (List.drop (Prod.fst (Prod.snd (fY code))) (Prod.fst (fY code)))) (Prod.fst (fP code)) (Prod.fst (fK code) + (1 : Int)) (Prod.fst (lsS code (Prod.fst (fP code)) (Int.toNat ((↑(List.length (fR code)) : Int) * (↑(fN code) : Int))) ([], (0 : Int), rlH code (821 : Int) (List.length code))))))) == (0 : Int)) = Bool.true) ∧
 (True))
 ((Bool.false = Bool.true) ∧
 (True))))))))))))))
 ((InR ((↑(List.length (fR code)) : Int) * (↑(fN code) : Int))) ∧
 ((InR (Prod.fst (fK code) + (1 : Int))) ∧
 ((((bytesB code) ∧
 (List.length code ≤ (4096 : Nat))) ∧
 (True)) ∧
 ((((bytesB code) ∧
 (((0 : Int) ≤ (0 : Int)) ∧
 (((0 : Int) ≤ (↑(List.length code) : Int)) ∧
 ((List.length code ≤ (4096 : Nat)) ∧
 (((↑(List.length (fR code)) : Int) * (↑(fN code) : Int) ≤ (1000000 : Int)) ∧
 ((1 : Int) ≤ Prod.fst (fP code))))))) ∧
 ((code = code) ∧
 (True))) ∧
 ((((roomR (List.take (fN code) (List.drop (Prod.fst (Prod.snd (fY code))) (Prod.fst (fY code))))) ∧
 (List.length (Prod.fst (lsS code (Prod.fst (fP code)) (Int.toNat ((↑(List.length (fR code)) : Int) * (↑(fN code) : Int))) ([], (0 : Int), rlH code (821 : Int) (List.length code)))) ≤ (1099511627776 : Nat))) ∧
 (True)) ∧
 ((((roomR (List.take (fN code) (List.drop (Prod.fst (Prod.snd (fY code))) (Prod.fst (fY code))))) ∧
 (List.length (Prod.fst (rbC (List.take (fN code) (List.drop (Prod.fst (Prod.snd (fY code))) (Prod.fst (fY code)))) (Prod.fst (fP code)) (Prod.fst (fK code) + (1 : Int)) (Prod.fst (lsS code (Prod.fst (fP code)) (Int.toNat ((↑(List.length (fR code)) : Int) * (↑(fN code) : Int))) ([], (0 : Int), rlH code (821 : Int) (List.length code)))))) ≤ (1099511627776 : Nat))) ∧
 (True)) ∧
 (BrP (Prod.snd (rbC (List.take (fN code) (List.drop (Prod.fst (Prod.snd (fY code))) (Prod.fst (fY code)))) (Prod.fst (fP code)) (Prod.fst (fK code) + (1 : Int)) (Prod.fst (lsS code (Prod.fst (fP code)) (Int.toNat ((↑(List.length (fR code)) : Int) * (↑(fN code) : Int))) ([], (0 : Int), rlH code (821 : Int) (List.length code))))) == (0 : Int))
 (((Prod.snd (flC (List.take (fN code) (List.drop (Prod.fst (Prod.snd (fY code))) (Prod.fst (fY code)))) (Prod.fst (fP code)) (Prod.fst (fK code)) (Prod.fst (rbC (List.take (fN code) (List.drop (Prod.fst (Prod.snd (fY code))) (Prod.fst (fY code)))) (Prod.fst (fP code)) (Prod.fst (fK code) + (1 : Int)) (Prod.fst (lsS code (Prod.fst (fP code)) (Int.toNat ((↑(List.length (fR code)) : Int) * (↑(fN code) : Int))) ([], (0 : Int), rlH code (821 : Int) (List.length code))))))) == (0 : Int)) = Bool.true) ∧
 (True))
 ((Bool.false = Bool.true) ∧
 (True)))))))))))
 (BrP (Prod.snd (flC (List.take (fN code) (List.drop (Prod.fst (Prod.snd (fY code))) (Prod.fst (fY code)))) (Prod.fst (fP code)) (Prod.fst (fK code)) (fR code)) == (0 : Int))
 ((InR (Prod.fst (fK code) + (1 : Int))) ∧
 ((((roomR (List.take (fN code) (List.drop (Prod.fst (Prod.snd (fY code))) (Prod.fst (fY code))))) ∧
 (List.length (Prod.fst (flC (List.take (fN code) (List.drop (Prod.fst (Prod.snd (fY code))) (Prod.fst (fY code)))) (Prod.fst (fP code)) (Prod.fst (fK code)) (fR code))) ≤ (1099511627776 : Nat))) ∧
 (True)) ∧
 (BrP (Prod.snd (rbC (List.take (fN code) (List.drop (Prod.fst (Prod.snd (fY code))) (Prod.fst (fY code)))) (Prod.fst (fP code)) (Prod.fst (fK code) + (1 : Int)) (Prod.fst (flC (List.take (fN code) (List.drop (Prod.fst (Prod.snd (fY code))) (Prod.fst (fY code)))) (Prod.fst (fP code)) (Prod.fst (fK code)) (fR code)))) != (0 : Int))
 ((Bool.false = Bool.true) ∧
 (True))
 (((room (List.length (Prod.fst (rbC (List.take (fN code) (List.drop (Prod.fst (Prod.snd (fY code))) (Prod.fst (fY code)))) (Prod.fst (fP code)) (Prod.fst (fK code) + (1 : Int)) (Prod.fst (flC (List.take (fN code) (List.drop (Prod.fst (Prod.snd (fY code))) (Prod.fst (fY code)))) (Prod.fst (fP code)) (Prod.fst (fK code)) (fR code))))))) ∧
 (True)) ∧
 (BrP (!Decidable.decide (Prod.fst (rbC (List.take (fN code) (List.drop (Prod.fst (Prod.snd (fY code))) (Prod.fst (fY code)))) (Prod.fst (fP code)) (Prod.fst (fK code) + (1 : Int)) (Prod.fst (flC (List.take (fN code) (List.drop (Prod.fst (Prod.snd (fY code))) (Prod.fst (fY code)))) (Prod.fst (fP code)) (Prod.fst (fK code)) (fR code)))) = fR code))
 ((Bool.false = Bool.true) ∧
 (True))
 ((InR ((↑(List.length (fR code)) : Int) * (↑(fN code) : Int))) ∧
 ((InR (Prod.fst (fK code) + (1 : Int))) ∧
 ((((bytesB code) ∧
 (List.length code ≤ (4096 : Nat))) ∧
 (True)) ∧
 ((((bytesB code) ∧
 (((0 : Int) ≤ (0 : Int)) ∧
 (((0 : Int) ≤ (↑(List.length code) : Int)) ∧
 ((List.length code ≤ (4096 : Nat)) ∧
 (((↑(List.length (fR code)) : Int) * (↑(fN code) : Int) ≤ (1000000 : Int)) ∧
 ((1 : Int) ≤ Prod.fst (fP code))))))) ∧
 ((code = code) ∧
 (True))) ∧
 ((((roomR (List.take (fN code) (List.drop (Prod.fst (Prod.snd (fY code))) (Prod.fst (fY code))))) ∧
 (List.length (Prod.fst (lsS code (Prod.fst (fP code)) (Int.toNat ((↑(List.length (fR code)) : Int) * (↑(fN code) : Int))) ([], (0 : Int), rlH code (821 : Int) (List.length code)))) ≤ (1099511627776 : Nat))) ∧
 (True)) ∧
 ((((roomR (List.take (fN code) (List.drop (Prod.fst (Prod.snd (fY code))) (Prod.fst (fY code))))) ∧
 (List.length (Prod.fst (rbC (List.take (fN code) (List.drop (Prod.fst (Prod.snd (fY code))) (Prod.fst (fY code)))) (Prod.fst (fP code)) (Prod.fst (fK code) + (1 : Int)) (Prod.fst (lsS code (Prod.fst (fP code)) (Int.toNat ((↑(List.length (fR code)) : Int) * (↑(fN code) : Int))) ([], (0 : Int), rlH code (821 : Int) (List.length code)))))) ≤ (1099511627776 : Nat))) ∧
 (True)) ∧
 (BrP (Prod.snd (rbC (List.take (fN code) (List.drop (Prod.fst (Prod.snd (fY code))) (Prod.fst (fY code)))) (Prod.fst (fP code)) (Prod.fst (fK code) + (1 : Int)) (Prod.fst (lsS code (Prod.fst (fP code)) (Int.toNat ((↑(List.length (fR code)) : Int) * (↑(fN code) : Int))) ([], (0 : Int), rlH code (821 : Int) (List.length code))))) == (0 : Int))
 (((Prod.snd (flC (List.take (fN code) (List.drop (Prod.fst (Prod.snd (fY code))) (Prod.fst (fY code)))) (Prod.fst (fP code)) (Prod.fst (fK code)) (Prod.fst (rbC (List.take (fN code) (List.drop (Prod.fst (Prod.snd (fY code))) (Prod.fst (fY code)))) (Prod.fst (fP code)) (Prod.fst (fK code) + (1 : Int)) (Prod.fst (lsS code (Prod.fst (fP code)) (Int.toNat ((↑(List.length (fR code)) : Int) * (↑(fN code) : Int))) ([], (0 : Int), rlH code (821 : Int) (List.length code))))))) == (0 : Int)) = Bool.true) ∧
 (True))
 ((Bool.false = Bool.true) ∧
 (True))))))))))))))
 ((InR ((↑(List.length (fR code)) : Int) * (↑(fN code) : Int))) ∧
 ((InR (Prod.fst (fK code) + (1 : Int))) ∧
 ((((bytesB code) ∧
 (List.length code ≤ (4096 : Nat))) ∧
 (True)) ∧
 ((((bytesB code) ∧
 (((0 : Int) ≤ (0 : Int)) ∧
 (((0 : Int) ≤ (↑(List.length code) : Int)) ∧
 ((List.length code ≤ (4096 : Nat)) ∧
 (((↑(List.length (fR code)) : Int) * (↑(fN code) : Int) ≤ (1000000 : Int)) ∧
 ((1 : Int) ≤ Prod.fst (fP code))))))) ∧
 ((code = code) ∧
 (True))) ∧
 ((((roomR (List.take (fN code) (List.drop (Prod.fst (Prod.snd (fY code))) (Prod.fst (fY code))))) ∧
 (List.length (Prod.fst (lsS code (Prod.fst (fP code)) (Int.toNat ((↑(List.length (fR code)) : Int) * (↑(fN code) : Int))) ([], (0 : Int), rlH code (821 : Int) (List.length code)))) ≤ (1099511627776 : Nat))) ∧
 (True)) ∧
 ((((roomR (List.take (fN code) (List.drop (Prod.fst (Prod.snd (fY code))) (Prod.fst (fY code))))) ∧
 (List.length (Prod.fst (rbC (List.take (fN code) (List.drop (Prod.fst (Prod.snd (fY code))) (Prod.fst (fY code)))) (Prod.fst (fP code)) (Prod.fst (fK code) + (1 : Int)) (Prod.fst (lsS code (Prod.fst (fP code)) (Int.toNat ((↑(List.length (fR code)) : Int) * (↑(fN code) : Int))) ([], (0 : Int), rlH code (821 : Int) (List.length code)))))) ≤ (1099511627776 : Nat))) ∧
 (True)) ∧
 (BrP (Prod.snd (rbC (List.take (fN code) (List.drop (Prod.fst (Prod.snd (fY code))) (Prod.fst (fY code)))) (Prod.fst (fP code)) (Prod.fst (fK code) + (1 : Int)) (Prod.fst (lsS code (Prod.fst (fP code)) (Int.toNat ((↑(List.length (fR code)) : Int) * (↑(fN code) : Int))) ([], (0 : Int), rlH code (821 : Int) (List.length code))))) == (0 : Int))
 (((Prod.snd (flC (List.take (fN code) (List.drop (Prod.fst (Prod.snd (fY code))) (Prod.fst (fY code)))) (Prod.fst (fP code)) (Prod.fst (fK code)) (Prod.fst (rbC (List.take (fN code) (List.drop (Prod.fst (Prod.snd (fY code))) (Prod.fst (fY code)))) (Prod.fst (fP code)) (Prod.fst (fK code) + (1 : Int)) (Prod.fst (lsS code (Prod.fst (fP code)) (Int.toNat ((↑(List.length (fR code)) : Int) * (↑(fN code) : Int))) ([], (0 : Int), rlH code (821 : Int) (List.length code))))))) == (0 : Int)) = Bool.true) ∧
 (True))
 ((Bool.false = Bool.true) ∧
 (True)))))))))))))))))))
theorem lFills_vc (code : List Int) : runF Try.prog (gam lFills_G) noWr noAnn Try.f5 (bodyOf Try.f5) [] [.c (.ints .u8 (code))] (lFills_p code) = lFills_V code := by kernel_rfl
theorem lFills_ok (code : List Int) (hpre : (lFills_p code).pre) : lFills_V code := by
  simp only [lFills_p, lFills_V, BrP_iff, true_and, and_true, decide_eq_true_eq, decide_eq_false_iff_not, bne_iff_ne, beq_iff_eq, bne_eq_false_iff_eq, beq_eq_false_iff_ne, Bool.not_eq_true, Bool.not_eq_false, Bool.not_true, Bool.not_false, Bool.not_eq_eq_eq_not, Int.toNat_natCast, List.length_append, List.length_take, List.length_replicate, List.length_set, List.length_map, List.length_drop, List.length_nil, List.length_cons, markL_length, inB, InR, room, bdsOk] at hpre ⊢
  have eN : (fY code).1.length - (fY code).2.1 = fN code := rfl
  have eT : List.take (fN code) (List.drop (fY code).2.1 (fY code).1) = yT (fY code) := rfl
  simp only [eN, eT]
  refine ⟨fun _ => trivial, fun hc => ?_⟩
  have K := fY_ok hpre
  have T := yT_room K
  have TL := yT_length (fY code)
  rw [eN] at TL
  have FL := fR_len hpre
  rw [← TL]
  generalize yT (fY code) = t at T ⊢
  generalize (fP code).1 = p
  generalize (fK code).1 = k
  generalize fR code = c at FL ⊢
  have G := flC_len t p k c
  have tail : ((flC t p k c).2 = 0 ∨ (flC t p k c).2 = 4) → _ := fun h => fl_tail (fl_state h) hpre (rlH code 821 code.length)
  refine ⟨⟨hpre, by omega⟩, ⟨T, by omega⟩, ⟨T, by omega⟩, fun h => absurd rfl h, fun _ => ⟨by omega, fun h => absurd trivial h, fun _ => ⟨fun z => ⟨fun _ => trivial, fun y => ⟨fun h => absurd h z, fun _ => ?_⟩⟩, fun z => ⟨fun _ => ?_, fun h => absurd z h⟩⟩⟩⟩
  · obtain ⟨t1, t2, t3, t4, t5, t6⟩ := tail (.inr y)
    have R := rbC_len t p (k + 1) (lsS code p ((c.length : Int) * (t.length : Int)).toNat ([], 0, rlH code 821 code.length)).1
    exact ⟨by omega, by omega, ⟨hpre, by omega⟩, ⟨hpre, by omega, by omega, by omega, by omega, t2⟩, ⟨T, by omega⟩, ⟨T, by omega⟩, fun _ => t6, fun h => absurd t5 h⟩
  · obtain ⟨t1, t2, t3, t4, t5, t6⟩ := tail (.inl z)
    obtain ⟨m1, m2⟩ := fl_main z
    have R := rbC_len t p (k + 1) (lsS code p ((c.length : Int) * (t.length : Int)).toNat ([], 0, rlH code 821 code.length)).1
    have R2 := rbC_len t p (k + 1) (flC t p k c).1
    refine ⟨by omega, ⟨T, by omega⟩, fun h => absurd m1 h, fun _ => ⟨by omega, fun h => absurd m2 h, fun _ => ?_⟩⟩
    exact ⟨by omega, by omega, ⟨hpre, by omega⟩, ⟨hpre, by omega, by omega, by omega, by omega, t2⟩, ⟨T, by omega⟩, ⟨T, by omega⟩, fun _ => t6, fun h => absurd t5 h⟩
theorem lFills_fits : Fits Try.prog 5 ⟨[], lFills_ct⟩ := by
  refine fits_fn (Γ := gam lFills_G) (gok_cons big_fits (gok_cons DrawFillingOf_fits (gok_cons iFil_fits (gok_cons sFil_fits (gok_cons likeInts_fits (gok_cons iRB_fits (gok_cons roll_fits (gok_cons list5_fits gok_nil)))))))) Try.func5 (by kernel_rfl) (by kernel_rfl) (by kernel_rfl) fun ds p h hp => ?_
  unfold lFills_ct at h
  split at h
  · cases h
    exact ⟨noWr, noAnn, by rw [lFills_vc]; exact lFills_ok _  hp⟩
  · cases h

end Go.Sx
end
