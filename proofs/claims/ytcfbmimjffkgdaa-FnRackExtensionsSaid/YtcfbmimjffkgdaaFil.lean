/- Fil -/
import Derived.Test.YtcfbmimjffkgdaaRnkC
import Derived.Test.YtcfbmimjffkgdaaLists
open Go Go.Proofs
namespace Go.Sx
set_option linter.unusedSimpArgs false
set_option linter.unusedVariables false

/-- The source of a row that is made 0 at the pivots. -/
def srcN (p : Int) (B S : List (List Int)) (P : Nat → Nat) (r s : List Int) : Nat → List Int
  | 0 => s
  | k + 1 => if (redN p B P r k).getD (P k) 0 ≠ 0 then stF p (p - (redN p B P r k).getD (P k) 0) (S.getD k []) (srcN p B S P r s k) else srcN p B S P r s k

/-- 1 at one place. -/
def ehN (M i : Nat) : List Int := (List.replicate M 0).set i 1

theorem ehN_length (M i : Nat) : (ehN M i).length = M := by simp [ehN]

theorem ehN_in {p : Int} (hp : 2 ≤ p) (M i : Nat) : inP p (ehN M i) := fun q hq => by
  rw [ehN_length] at hq
  unfold ehN
  rw [List.getD_eq_getElem?_getD, List.getElem?_set]
  split
  · split
    · simp; omega
    · simp; omega
  · rw [List.getElem?_replicate, if_pos hq]; simp; omega

/-- The basis and the sources after i rows. -/
def flN (p : Int) (ρ : Nat → List Int) (M : Nat) : Nat → List (List Int) × List (List Int)
  | 0 => ([], [])
  | i + 1 => if 0 ≤ ldF (redN p (flN p ρ M i).1 (ldN (flN p ρ M i).1) (ρ i) (flN p ρ M i).1.length) then
      ((flN p ρ M i).1 ++ [scF p (ivM p ((redN p (flN p ρ M i).1 (ldN (flN p ρ M i).1) (ρ i) (flN p ρ M i).1.length).getD (ldF (redN p (flN p ρ M i).1 (ldN (flN p ρ M i).1) (ρ i) (flN p ρ M i).1.length)).toNat 0)) (redN p (flN p ρ M i).1 (ldN (flN p ρ M i).1) (ρ i) (flN p ρ M i).1.length)],
       (flN p ρ M i).2 ++ [scF p (ivM p ((redN p (flN p ρ M i).1 (ldN (flN p ρ M i).1) (ρ i) (flN p ρ M i).1.length).getD (ldF (redN p (flN p ρ M i).1 (ldN (flN p ρ M i).1) (ρ i) (flN p ρ M i).1.length)).toNat 0)) (srcN p (flN p ρ M i).1 (flN p ρ M i).2 (ldN (flN p ρ M i).1) (ρ i) (ehN M i) (flN p ρ M i).1.length)])
    else flN p ρ M i

/-- A basis with its sources. -/
structure FlOk (p : Int) (N M : Nat) (B S : List (List Int)) : Prop where
  len : S.length = B.length
  bas : Bas p N B (ldN B)
  nn : ∀ k, k < B.length → 0 ≤ ldF (B.getD k [])
  src : rwsP p M S

theorem srcN_ok {p : Int} {N M : Nat} {B S : List (List Int)} (hp : 2 ≤ p) (h : FlOk p N M B S) {r s : List Int} (hr : rwP p N r) (hs : rwP p M s) : ∀ k, k ≤ B.length → rwP p M (srcN p B S (ldN B) r s k)
  | 0, _ => hs
  | k + 1, hk => by
    have ih := srcN_ok hp h hr hs k (by omega)
    have hrk := (red_ok hp h.bas hr k (by omega)).1
    have l1 := hrk.1
    have hP := h.bas.piv k (by omega)
    have c := hrk.2 (ldN B k) (by omega)
    have hl := h.len
    simp only [srcN]
    split
    · exact stF_rw (by omega) (by omega) (h.src k (by omega)) ih
    · exact ih

theorem scF_rw {p m : Int} (hp : 1 ≤ p) (hm : 0 ≤ m) {N : Nat} {r : List Int} (hr : rwP p N r) : rwP p N (scF p m r) :=
  ⟨by rw [scF, tab_length]; exact hr.1, fun q hq => by
    rw [scF, tab_length] at hq
    rw [scF_get hq]
    have a := hr.2 q hq
    have b := Int.mul_nonneg a.1 hm
    have c := Int.tmod_lt_of_pos (r.getD q 0 * m) (show 0 < p by omega)
    have d := Int.tmod_nonneg p b
    omega⟩

theorem flN_ok {p : Int} (hp : primeB p = true) {N M : Nat} {ρ : Nat → List Int} : ∀ i, (∀ j, j < i → rwP p N (ρ j)) → (flN p ρ M i).1.length ≤ i ∧ FlOk p N M (flN p ρ M i).1 (flN p ρ M i).2
  | 0, _ => ⟨Nat.le_refl _, rfl, ⟨fun k hk => by simp [flN] at hk, fun k hk => by simp [flN] at hk, fun k hk => by simp [flN] at hk, fun j k _ hj => by simp [flN] at hj⟩, fun k hk => by simp [flN] at hk, fun k hk => by simp [flN] at hk⟩
  | i + 1, hρ => by
    obtain ⟨p2, p7⟩ := primeB_le hp
    obtain ⟨h0, h⟩ := flN_ok hp (N := N) (M := M) i fun j hj => hρ j (by omega)
    have hr := hρ i (by omega)
    obtain ⟨r1, r2, _⟩ := red_ok p2 h.bas hr (flN p ρ M i).1.length (Nat.le_refl _)
    have s1 := srcN_ok p2 h hr (s := ehN M i) ⟨ehN_length M i, ehN_in p2 M i⟩ _ (Nat.le_refl _)
    simp only [flN]
    generalize hB : (flN p ρ M i).1 = B at *
    generalize hS : (flN p ρ M i).2 = S at *
    generalize hrr : redN p B (ldN B) (ρ i) B.length = r at *
    by_cases hl : 0 ≤ ldF r
    · rw [if_pos hl]
      have n := scF_nrm hp r1 hl
      have y := ld_yes hl
      have l1 := r1.1
      have c := r1.2 _ y.1
      have iv := ivM_ok hp (a := r.getD (ldF r).toNat 0) (by omega) (by omega)
      have le : ldF (scF p (ivM p (r.getD (ldF r).toNat 0)) r) = ((ldF r).toNat : Int) := ld_is (by rw [n.one]; decide) fun q hq => by
        by_cases hqN : q < N
        · exact n.zer q hqN (y.2.2 q hq)
        · omega
      have ga : ∀ k, k < B.length → ldN (B ++ [scF p (ivM p (r.getD (ldF r).toNat 0)) r]) k = ldN B k := fun k hk => by unfold ldN; rw [snoc_get _ _ hk]
      have gb : (B ++ [scF p (ivM p (r.getD (ldF r).toNat 0)) r]).getD B.length [] = scF p (ivM p (r.getD (ldF r).toNat 0)) r := by simp [List.getD]
      have gl := h.len
      refine ⟨by simp; omega, by simp [gl], bas_app h.bas n.row (a := (ldF r).toNat) (by omega) n.one (fun k hk => n.zer _ (h.bas.piv k hk) (r2 k hk)) ga (by unfold ldN; rw [gb, le]; exact Int.toNat_natCast _), fun k hk => ?_, fun k hk => ?_⟩
      · by_cases e : k < B.length
        · rw [snoc_get _ _ e]; exact h.nn k e
        · have : k = B.length := by simp at hk; omega
          subst this
          rw [gb, le]; omega
      · by_cases e : k < S.length
        · rw [snoc_get _ _ e]; exact h.src k e
        · have : k = S.length := by simp at hk; omega
          subst this
          rw [show (S ++ [scF p (ivM p (r.getD (ldF r).toNat 0)) (srcN p B S (ldN B) (ρ i) (ehN M i) B.length)]).getD S.length [] = scF p (ivM p (r.getD (ldF r).toNat 0)) (srcN p B S (ldN B) (ρ i) (ehN M i) B.length) by simp [List.getD]]
          exact scF_rw (by omega) (by omega) s1
    · rw [if_neg hl]
      simp only [hB, hS]
      exact ⟨by omega, h⟩

/-- Two parts of a row, worked on together. -/
theorem getD_app1 (a b : List Int) {q : Nat} (h : q < a.length) : (a ++ b).getD q 0 = a.getD q 0 := by
  rw [List.getD_eq_getElem?_getD, List.getElem?_append_left h, ← List.getD_eq_getElem?_getD]

theorem ext_getD {a b : List Int} (hl : a.length = b.length) (h : ∀ q, q < a.length → a.getD q 0 = b.getD q 0) : a = b := by
  apply List.ext_getElem hl
  intro q h1 h2
  have := h q h1
  simpa [List.getD, h1, h2] using this

theorem tab_app (n m : Nat) (f g : Nat → Int) : tab n f ++ tab m g = tab (n + m) fun q => if q < n then f q else g (q - n) := by
  apply ext_getD
  · simp [tab_length]
  · intro q hq
    have hq : q < n + m := by simpa [tab_length] using hq
    rw [tab_getD _ _ _ hq]
    by_cases h : q < n
    · rw [if_pos h, getD_app1 _ _ (by rw [tab_length]; exact h), tab_getD _ _ _ h]
    · rw [if_neg h, List.getD_eq_getElem?_getD, List.getElem?_append_right (by rw [tab_length]; omega), tab_length, ← List.getD_eq_getElem?_getD, tab_getD _ _ _ (by omega)]

theorem getD_app2 (a b : List Int) {q : Nat} (h : a.length ≤ q) : (a ++ b).getD q 0 = b.getD (q - a.length) 0 := by
  rw [List.getD_eq_getElem?_getD, List.getElem?_append_right h, ← List.getD_eq_getElem?_getD]

theorem stF_app (p m : Int) {a a' b b' : List Int} (h : b.length = a.length) : stF p m (b ++ b') (a ++ a') = stF p m b a ++ stF p m b' a' := by
  unfold stF
  rw [tab_app, List.length_append]
  refine tab_ext fun q hq => ?_
  by_cases e : q < a.length
  · rw [if_pos e, getD_app1 _ _ e, getD_app1 _ _ (by omega)]
  · rw [if_neg e, getD_app2 _ _ (by omega), getD_app2 _ _ (by omega), h]

theorem scF_app (p m : Int) (a b : List Int) : scF p m (a ++ b) = scF p m a ++ scF p m b := by
  unfold scF
  rw [tab_app, List.length_append]
  refine tab_ext fun q hq => ?_
  by_cases e : q < a.length
  · rw [if_pos e, getD_app1 _ _ e]
  · rw [if_neg e, getD_app2 _ _ (by omega)]

theorem neg_sc (p m : Int) (r : List Int) : stF p (p - (p - m)) r (List.replicate r.length 0) = scF p m r := by
  unfold stF scF
  rw [List.length_replicate]
  refine tab_ext fun q hq => ?_
  rw [show (List.replicate r.length (0 : Int)).getD q 0 = 0 by simp [List.getD, hq], show p - (p - m) = m by omega, Int.zero_add, Int.mul_comm]

/-- The rows with their sources behind them. -/
def cbL (B S : List (List Int)) : List (List Int) := List.zipWith (fun b s => b ++ s) B S

theorem cbL_length {B S : List (List Int)} (h : S.length = B.length) : (cbL B S).length = B.length := by simp [cbL, h]

theorem cbL_get {B S : List (List Int)} (h : S.length = B.length) {k : Nat} (hk : k < B.length) : (cbL B S).getD k [] = B.getD k [] ++ S.getD k [] := by
  unfold cbL
  have h2 : k < S.length := by omega
  simp [List.getD, List.getElem?_zipWith, hk, h2]

theorem cbL_snoc {B S : List (List Int)} (h : S.length = B.length) (b s : List Int) : cbL B S ++ [b ++ s] = cbL (B ++ [b]) (S ++ [s]) := by
  unfold cbL
  rw [List.zipWith_append h.symm]; rfl

theorem red_cb {p : Int} {N M : Nat} {B S : List (List Int)} (hp : 2 ≤ p) (h : FlOk p N M B S) {P : Nat → Nat} (hP : ∀ k, k < B.length → P k = ldN B k) {r s : List Int} (hr : rwP p N r) (hs : rwP p M s) :
    ∀ k, k ≤ B.length → redN p (cbL B S) P (r ++ s) k = redN p B (ldN B) r k ++ srcN p B S (ldN B) r s k
  | 0, _ => rfl
  | k + 1, hk => by
    have ih := red_cb hp h hP hr hs k (by omega)
    have hrk := (red_ok hp h.bas hr k (by omega)).1
    have l1 := hrk.1
    have hp1 := h.bas.piv k (by omega)
    have hb := (h.bas.row k (by omega)).1
    simp only [redN, srcN]
    rw [ih, hP k (by omega), getD_app1 _ _ (by omega), cbL_get h.len (by omega)]
    split
    · rw [stF_app _ _ (by omega)]
    · rfl

/-- The opposite numbers modulo p. -/
def ngF (p : Int) (s : List Int) : List Int := tab s.length fun q => (p - s.getD q 0).tmod p

theorem ngF_length (p : Int) (s : List Int) : (ngF p s).length = s.length := tab_length _ _

/-- The boundary of the tuple with a place. -/
def btF (t : List (List Int)) (p : Int) (K : Nat) (i : Nat) : List Int := ptF t p (digN (t.length : Int) K (i : Int)) K

/-- What FillingOf finds: its rest and its source. -/
def flR (t : List (List Int)) (p : Int) (K : Nat) (c : List Int) : List Int × List Int :=
  (redN p (flN p (btF t p K) (t.length ^ K) (t.length ^ K)).1 (ldN (flN p (btF t p K) (t.length ^ K) (t.length ^ K)).1) c (flN p (btF t p K) (t.length ^ K) (t.length ^ K)).1.length,
   srcN p (flN p (btF t p K) (t.length ^ K) (t.length ^ K)).1 (flN p (btF t p K) (t.length ^ K) (t.length ^ K)).2 (ldN (flN p (btF t p K) (t.length ^ K) (t.length ^ K)).1) c (List.replicate (t.length ^ K) 0) (flN p (btF t p K) (t.length ^ K) (t.length ^ K)).1.length)
def flV (t : List (List Int)) (p : Int) (K : Nat) (c : List Int) : List Int × Bool :=
  if 0 ≤ ldF (flR t p K c).1 then ([], false) else (ngF p (flR t p K c).2, true)

theorem btF_ok (t : List (List Int)) {p : Int} (hp : 2 ≤ p) (K i : Nat) : rwP p (t.length ^ (K - 1)) (btF t p K i) :=
  ⟨by unfold btF; rw [ptF_length, digN_length], by unfold btF; exact ptF_in t hp _ _⟩

theorem flN_step (p : Int) (ρ : Nat → List Int) (M i : Nat) : flN p ρ M (i + 1) = if 0 ≤ ldF (redN p (flN p ρ M i).1 (ldN (flN p ρ M i).1) (ρ i) (flN p ρ M i).1.length) then
      ((flN p ρ M i).1 ++ [scF p (ivM p ((redN p (flN p ρ M i).1 (ldN (flN p ρ M i).1) (ρ i) (flN p ρ M i).1.length).getD (ldF (redN p (flN p ρ M i).1 (ldN (flN p ρ M i).1) (ρ i) (flN p ρ M i).1.length)).toNat 0)) (redN p (flN p ρ M i).1 (ldN (flN p ρ M i).1) (ρ i) (flN p ρ M i).1.length)],
       (flN p ρ M i).2 ++ [scF p (ivM p ((redN p (flN p ρ M i).1 (ldN (flN p ρ M i).1) (ρ i) (flN p ρ M i).1.length).getD (ldF (redN p (flN p ρ M i).1 (ldN (flN p ρ M i).1) (ρ i) (flN p ρ M i).1.length)).toNat 0)) (srcN p (flN p ρ M i).1 (flN p ρ M i).2 (ldN (flN p ρ M i).1) (ρ i) (ehN M i) (flN p ρ M i).1.length)])
    else flN p ρ M i := rfl



def fiB (t : List (List Int)) (p : Int) (K i : Nat) : List (List Int) := (flN p (btF t p K) (t.length ^ K) i).1
def fiS (t : List (List Int)) (p : Int) (K i : Nat) : List (List Int) := (flN p (btF t p K) (t.length ^ K) i).2
def fiP (t : List (List Int)) (p : Int) (K i : Nat) : List Int := (fiB t p K i).map ldF

theorem fiP_get {B : List (List Int)} {k : Nat} (h : k < B.length) : (B.map ldF).getD k 0 = ldF (B.getD k []) := by simp [List.getD, h]
theorem fiP_pv {B : List (List Int)} {k : Nat} (h : k < B.length) : pvN (B.map ldF) k = ldN B k := by unfold pvN ldN; rw [fiP_get h]

theorem nm_le {n k : Nat} (h1 : 1 ≤ n) (h : n ^ (k + 1) ≤ 512) : n ^ k + n ^ (k + 1) ≤ 1000 := by
  rw [Nat.pow_succ] at *
  rcases Nat.lt_or_ge n 2 with e | e
  · have : n = 1 := by omega
    subst this
    simp
  · have := Nat.mul_le_mul_left (n ^ k) e
    omega

theorem rwP_app {p : Int} {N M : Nat} {a b : List Int} (ha : rwP p N a) (hb : rwP p M b) : rwP p (N + M) (a ++ b) := by
  have h1 := ha.1
  have h2 := hb.1
  refine ⟨by simp [h1, h2], fun q hq => ?_⟩
  rw [List.length_append] at hq
  by_cases e : q < a.length
  · rw [getD_app1 _ _ e]; exact ha.2 q e
  · rw [getD_app2 _ _ (by omega)]; exact hb.2 _ (by omega)

theorem cb_at {p : Int} {N M : Nat} {B S : List (List Int)} (h : FlOk p N M B S) {j : Nat} (hj : j < B.length) :
    0 ≤ (B.map ldF).getD j 0 ∧ (B.map ldF).getD j 0 < (N : Int) ∧ ((B.map ldF).getD j 0).toNat = pvN (B.map ldF) j ∧ rwP p (N + M) ((cbL B S).getD j []) := by
  have a := h.nn j hj
  have b := h.bas.piv j hj
  unfold ldN at b
  have hl := h.len
  rw [fiP_get hj]
  refine ⟨a, by omega, ?_, ?_⟩
  · unfold pvN; rw [fiP_get hj]
  · rw [cbL_get hl hj]
    exact rwP_app (h.bas.row j hj) (h.src j (by omega))

theorem cb_ok {p : Int} {N M : Nat} {B S : List (List Int)} (hp : 2 ≤ p) (h : FlOk p N M B S) {r s : List Int} (hr : rwP p N r) (hs : rwP p M s) {j : Nat} (hj : j ≤ B.length) :
    redN p (cbL B S) (pvN (B.map ldF)) (r ++ s) j = redN p B (ldN B) r j ++ srcN p B S (ldN B) r s j ∧ rwP p (N + M) (redN p (cbL B S) (pvN (B.map ldF)) (r ++ s) j) := by
  have e := red_cb hp h (P := pvN (B.map ldF)) (fun k hk => fiP_pv hk) hr hs j hj
  refine ⟨e, ?_⟩
  rw [e]
  exact rwP_app (red_ok hp h.bas hr j hj).1 (srcN_ok hp h hr hs j hj)

theorem ld_sc {p : Int} (hp : primeB p = true) {N : Nat} {r : List Int} (hr : rwP p N r) (h : 0 ≤ ldF r) : ldF (scF p (ivM p (r.getD (ldF r).toNat 0)) r) = ldF r := by
  have n := scF_nrm hp hr h
  have y := ld_yes h
  have l := hr.1
  rw [ld_is (l := scF p (ivM p (r.getD (ldF r).toNat 0)) r) (a := (ldF r).toNat) (by rw [n.one]; decide) fun q hq => by
    by_cases hqN : q < N
    · exact n.zer q hqN (y.2.2 q hq)
    · omega]
  omega

theorem take_app {a b : List Int} {n : Nat} (h : a.length = n) : (a ++ b).take n = a := by
  subst h; exact List.take_left

/-- The answer of FillingOf. -/
def flC (t : List (List Int)) (p k : Int) (c : List Int) : List Int × Int :=
  if chC t p k c = 0 then (if degB (t.length : Int) (k + 1) = true then (if (flV t p (k + 1).toNat c).2 = true then ((flV t p (k + 1).toNat c).1, 0) else ([], 4)) else ([], 3)) else ([], chC t p k c)



theorem flC_len (t : List (List Int)) (p k : Int) (c : List Int) : (flC t p k c).1.length ≤ 512 := by
  unfold flC
  split
  · rename_i hz
    split
    · rename_i h6
      obtain ⟨h1, hp, hd, hcb, _⟩ := chC_ok hz
      have hT := rackB_tab h1
      obtain ⟨p2, p7⟩ := primeB_le hp
      obtain ⟨ca, cb, _⟩ := chB_of hcb
      obtain ⟨k0, k1, N1, eN, N2⟩ := rk_facts hT h6
      have dd := degB_of hd
      have eK : (k + 1).toNat - 1 = k.toNat := by omega
      have hb : ∀ j, rwP p (t.length ^ k.toNat) (btF t p (k + 1).toNat j) := fun j => by have := btF_ok t p2 (k + 1).toNat j; rwa [eK] at this
      have G := (flN_ok hp (N := t.length ^ k.toNat) (M := t.length ^ (k + 1).toNat) (ρ := btF t p (k + 1).toNat) (t.length ^ (k + 1).toNat) fun j _ => hb j).2
      have s1 := srcN_ok p2 G (r := c) (s := List.replicate (t.length ^ (k + 1).toNat) 0) ⟨ca, cb⟩ ⟨List.length_replicate .., rep_in (by omega) _⟩ _ (Nat.le_refl _)
      have l1 : (flR t p (k + 1).toNat c).2.length = t.length ^ (k + 1).toNat := s1.1
      have l2 : (flV t p (k + 1).toNat c).1.length ≤ 512 := by
        unfold flV
        split
        · simp
        · show (ngF p _).length ≤ 512
          rw [ngF_length]; omega
      split
      · exact l2
      · simp
    · simp
  · simp


end Go.Sx
