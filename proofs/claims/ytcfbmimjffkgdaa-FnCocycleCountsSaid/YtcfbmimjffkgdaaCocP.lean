/- CntP CocP -/
import Derived.Test.YtcfbmimjffkgdaaKer
import Derived.Test.YtcfbmimjffkgdaaCoc
import Derived.Test.YtcfbmimjffkgdaaRackC
section
open Go Go.Proofs
namespace Go.Sx
set_option linter.unusedSimpArgs false
set_option linter.unusedVariables false

/-- How many numbers below Z have a property. -/
def cN (P : Nat → Bool) : Nat → Nat
  | 0 => 0
  | k + 1 => if P k = true then cN P k + 1 else cN P k

theorem cN_ext {P Q : Nat → Bool} : ∀ {Z : Nat}, (∀ k, k < Z → P k = Q k) → cN P Z = cN Q Z
  | 0, _ => rfl
  | Z + 1, h => by
    simp only [cN]
    rw [cN_ext fun k hk => h k (by omega), h Z (by omega)]

theorem cN_add (P : Nat → Bool) (a : Nat) : ∀ b, cN P (a + b) = cN P a + cN (fun d => P (a + d)) b
  | 0 => rfl
  | b + 1 => by
    show cN P (a + b + 1) = _
    simp only [cN]
    rw [cN_add P a b]
    split <;> omega

theorem cN_mul {P Q : Nat → Bool} {p c : Nat} (h : ∀ k, cN (fun d => P (p * k + d)) p = if Q k = true then c else 0) : ∀ Z, cN P (p * Z) = c * cN Q Z
  | 0 => by simp [cN]
  | Z + 1 => by
    rw [Nat.mul_succ, cN_add, cN_mul h Z, h Z]
    simp only [cN]
    split
    · rw [Nat.mul_succ]
    · omega

theorem cN_all {P : Nat → Bool} : ∀ Z, (∀ d, d < Z → P d = true) → cN P Z = Z
  | 0, _ => rfl
  | Z + 1, h => by simp only [cN]; rw [cN_all Z fun d hd => h d (by omega), if_pos (h Z (by omega))]

theorem cN_none {P : Nat → Bool} : ∀ Z, (∀ d, d < Z → P d = false) → cN P Z = 0
  | 0, _ => rfl
  | Z + 1, h => by simp only [cN]; rw [cN_none Z fun d hd => h d (by omega), if_neg (by simp [h Z (by omega)])]

theorem cN_one {P : Nat → Bool} {d0 : Nat} : ∀ Z, (∀ d, d < Z → (P d = true ↔ d = d0)) → cN P Z = if d0 < Z then 1 else 0
  | 0, _ => rfl
  | Z + 1, h => by
    simp only [cN]
    rw [cN_one Z fun d hd => h d (by omega)]
    have a := h Z (by omega)
    by_cases e : Z = d0
    · rw [if_pos (a.2 e), if_neg (by omega), if_pos (by omega)]
    · rw [if_neg (fun x => e (a.1 x))]
      by_cases g : d0 < Z
      · rw [if_pos g, if_pos (by omega)]
      · rw [if_neg g, if_neg (by omega)]

/-- The digit q of a number. -/
def dg (p k q : Nat) : Int := ((k / p ^ q % p : Nat) : Int)

theorem dg_zero {p k d : Nat} (hd : d < p) : dg p (p * k + d) 0 = (d : Int) := by
  unfold dg
  rw [Nat.pow_zero, Nat.div_one, Nat.mul_add_mod, Nat.mod_eq_of_lt hd]

theorem dg_succ {p k d : Nat} (hd : d < p) (q : Nat) : dg p (p * k + d) (q + 1) = dg p k q := by
  unfold dg
  rw [Nat.pow_succ, Nat.mul_comm (p ^ q) p, ← Nat.div_div_eq_div_mul, Nat.mul_add_div (by omega), Nat.div_eq_of_lt hd, Nat.add_zero]

theorem sm_front (f : Nat → Int) : ∀ n, sm f (n + 1) = f 0 + sm (fun k => f (k + 1)) n
  | 0 => by simp [sm]
  | n + 1 => by rw [sm, sm_front f n, sm, Int.add_assoc]

/-- The rows with a pivot from a on hold for the digits of a number. -/
def okB (p : Nat) (B : List (List Int)) (M a k : Nat) : Bool :=
  (List.range B.length).all fun i => decide (ldN B i < a) || decide ((sm (fun j => at2 B i (a + j) * dg p k j) (M - a)) % (p : Int) = 0)

theorem okB_iff {p : Nat} {B : List (List Int)} {M a k : Nat} : okB p B M a k = true ↔ ∀ i, i < B.length → a ≤ ldN B i → (p : Int) ∣ sm (fun j => at2 B i (a + j) * dg p k j) (M - a) := by
  simp only [okB, List.all_eq_true, List.mem_range, Bool.or_eq_true, decide_eq_true_eq]
  constructor
  · intro h i hi ha
    rcases h i hi with e | e
    · omega
    · exact Int.dvd_of_emod_eq_zero e
  · intro h i hi
    by_cases e : ldN B i < a
    · exact Or.inl e
    · exact Or.inr (Int.emod_eq_zero_of_dvd (h i hi (by omega)))

theorem pvB_iff {p : Int} {M : Nat} {B : List (List Int)} (h : Rref p M B) (a : Nat) : pvB B a = true ↔ ∃ i, i < B.length ∧ ldN B i = a := by
  unfold pvB
  rw [List.contains_iff_mem, List.mem_map]
  constructor
  · rintro ⟨r, hr, e⟩
    obtain ⟨i, hi, e2⟩ := List.mem_iff_getElem.1 hr
    refine ⟨i, hi, ?_⟩
    rw [ldN, show B.getD i [] = r by rw [← e2]; simp [List.getD, hi], e]
    rfl
  · rintro ⟨i, hi, e⟩
    have n := h.nn i hi
    refine ⟨B.getD i [], by rw [show B.getD i [] = B[i] by simp [List.getD, hi]]; exact List.getElem_mem hi, ?_⟩
    rw [ldN] at e
    omega

theorem Rref.inj {p : Int} {M : Nat} {B : List (List Int)} (h : Rref p M B) {i j : Nat} (hi : i < B.length) (hj : j < B.length) (e : ldN B i = ldN B j) : i = j := by
  rcases Nat.lt_trichotomy i j with g | g | g
  · have := h.inc i j g hj; omega
  · exact g
  · have := h.inc j i g hi; omega

/-- The number of places from a on, below a + s, that are no pivots. -/
def nfr (B : List (List Int)) (a : Nat) : Nat → Nat
  | 0 => 0
  | s + 1 => nfr B a s + if pvB B (a + s) = true then 0 else 1

theorem nfr_front (B : List (List Int)) (a : Nat) : ∀ s, nfr B a (s + 1) = (if pvB B a = true then 0 else 1) + nfr B (a + 1) s
  | 0 => by simp [nfr]
  | s + 1 => by rw [nfr, nfr_front B a s, nfr, show a + 1 + s = a + (s + 1) by omega, Nat.add_assoc]

theorem sum_step {p k d : Nat} (hd : d < p) {B : List (List Int)} {M a : Nat} (ha : a < M) (i : Nat) :
    sm (fun j => at2 B i (a + j) * dg p (p * k + d) j) (M - a) = at2 B i a * (d : Int) + sm (fun j => at2 B i (a + 1 + j) * dg p k j) (M - (a + 1)) := by
  rw [show M - a = (M - (a + 1)) + 1 by omega, sm_front, dg_zero hd, Nat.add_zero]
  congr 1
  exact sm_ext fun j _ => by rw [dg_succ hd, show a + (j + 1) = a + 1 + j by omega]

theorem okB_cnt {p : Nat} (hp : 2 ≤ p) {M : Nat} {B : List (List Int)} (h : Rref (p : Int) M B) : ∀ s a, a + s = M → cN (okB p B M a) (p ^ s) = p ^ nfr B a s
  | 0, a, e => by
    have : okB p B M a 0 = true := okB_iff.2 fun i hi ha => by have := h.piv hi; omega
    simp only [Nat.pow_zero, nfr, cN, this, if_true]
  | s + 1, a, e => by
    have ih := okB_cnt hp h s (a + 1) (by omega)
    rw [nfr_front, show p ^ (s + 1) = p * p ^ s by rw [Nat.pow_succ, Nat.mul_comm]]
    by_cases g : pvB B a = true
    · obtain ⟨i0, hi0, e0⟩ := (pvB_iff h a).1 g
      rw [if_pos g, Nat.zero_add, ← ih, ← Nat.one_mul (cN (okB p B M (a + 1)) (p ^ s))]
      refine cN_mul (fun k => ?_) _
      have key : ∀ d, d < p → (okB p B M a (p * k + d) = true ↔ okB p B M (a + 1) k = true ∧ (p : Int) ∣ (d : Int) + sm (fun j => at2 B i0 (a + 1 + j) * dg p k j) (M - (a + 1))) := fun d hd => by
        rw [okB_iff, okB_iff]
        constructor
        · intro H
          refine ⟨fun i hi hle => ?_, ?_⟩
          · have := H i hi (by omega)
            rwa [sum_step hd (by omega), h.bef hi (show a < ldN B i by omega), Int.zero_mul, Int.zero_add] at this
          · have := H i0 hi0 (by omega)
            have one := h.one i0 hi0
            rw [e0] at one
            rwa [sum_step hd (by omega), one, Int.one_mul] at this
        · rintro ⟨H1, H2⟩ i hi hle
          rw [sum_step hd (by omega)]
          by_cases w : ldN B i = a
          · have : i = i0 := h.inj hi hi0 (by omega)
            subst this
            have one := h.one i hi
            rw [e0] at one
            rwa [one, Int.one_mul]
          · rw [h.bef hi (show a < ldN B i by omega), Int.zero_mul, Int.zero_add]
            exact H1 i hi (by omega)
      generalize hS : sm (fun j => at2 B i0 (a + 1 + j) * dg p k j) (M - (a + 1)) = S at key
      by_cases w : okB p B M (a + 1) k = true
      · rw [if_pos w]
        have n := Int.emod_nonneg (-S) (show (p : Int) ≠ 0 by omega)
        have l := Int.emod_lt_of_pos (-S) (show (0 : Int) < p by omega)
        have dv := Int.emod_add_mul_ediv (-S) (p : Int)
        generalize hr : (-S) % (p : Int) = r at *
        generalize -S / (p : Int) = t at *
        have := cN_one (P := fun d => okB p B M a (p * k + d)) (d0 := r.toNat) p fun d hd => by
          rw [key d hd]
          constructor
          · rintro ⟨_, c, hc⟩
            have e1 : (d : Int) - r = (p : Int) * (c + t) := by rw [Int.mul_add]; omega
            have e2 : (d : Int) - r = 0 := by
              rcases Int.lt_trichotomy (c + t) 0 with g | g | g
              · have := Int.mul_le_mul_of_nonneg_left (show c + t ≤ -1 by omega) (show (0 : Int) ≤ p by omega); omega
              · rw [e1, g, Int.mul_zero]
              · have := Int.mul_le_mul_of_nonneg_left (show 1 ≤ c + t by omega) (show (0 : Int) ≤ p by omega); omega
            omega
          · intro e2
            refine ⟨w, -t, ?_⟩
            rw [e2, Int.mul_neg]; omega
        rw [this, if_pos (by omega)]
      · rw [if_neg w]
        refine cN_none _ fun d hd => ?_
        cases hb : okB p B M a (p * k + d) with
        | false => rfl
        | true => exact absurd ((key d hd).1 hb).1 w
    · rw [if_neg g, Nat.pow_add, Nat.pow_one, ← ih]
      refine cN_mul (fun k => ?_) _
      have np : ∀ i, i < B.length → ldN B i ≠ a := fun i hi e1 => g ((pvB_iff h a).2 ⟨i, hi, e1⟩)
      have key : ∀ d, d < p → (okB p B M a (p * k + d) = true ↔ okB p B M (a + 1) k = true) := fun d hd => by
        rw [okB_iff, okB_iff]
        constructor
        · intro H i hi hle
          have := H i hi (by omega)
          rwa [sum_step hd (by omega), h.bef hi (show a < ldN B i by omega), Int.zero_mul, Int.zero_add] at this
        · intro H i hi hle
          have := np i hi
          rw [sum_step hd (by omega), h.bef hi (show a < ldN B i by omega), Int.zero_mul, Int.zero_add]
          exact H i hi (by omega)
      by_cases w : okB p B M (a + 1) k = true
      · rw [if_pos w]
        exact cN_all _ fun d hd => (key d hd).2 w
      · rw [if_neg w]
        refine cN_none _ fun d hd => ?_
        cases hb : okB p B M a (p * k + d) with
        | false => rfl
        | true => exact absurd ((key d hd).1 hb) w

/-- The places that are no pivots and the pivots are all places. -/
theorem nfr_all {p : Int} {M : Nat} {B : List (List Int)} (h : Rref p M B) : nfr B 0 M + B.length = M := by
  have : ∀ a, a ≤ M → ∃ k, k ≤ B.length ∧ (∀ j, j < k → ldN B j < a) ∧ (∀ j, k ≤ j → j < B.length → a ≤ ldN B j) ∧ nfr B 0 a + k = a := fun a => by
    induction a with
    | zero => intro _; exact ⟨0, Nat.zero_le _, fun j hj => by omega, fun j _ _ => Nat.zero_le _, rfl⟩
    | succ a ih =>
      intro ha
      obtain ⟨k, k1, k2, k3, k4⟩ := ih (by omega)
      by_cases g : k < B.length ∧ ldN B k = a
      · have pv : pvB B (0 + a) = true := (pvB_iff h _).2 ⟨k, g.1, by omega⟩
        refine ⟨k + 1, by omega, fun j hj => ?_, fun j hj hl => ?_, ?_⟩
        · by_cases e : j = k
          · subst e; omega
          · have := k2 j (by omega); omega
        · have := h.inc k j (by omega) hl; omega
        · rw [nfr, if_pos pv]; omega
      · have pv : ¬ pvB B (0 + a) = true := fun x => by
          obtain ⟨i, hi, e⟩ := (pvB_iff h _).1 x
          have e : ldN B i = a := by omega
          by_cases w : i < k
          · have := k2 i w; omega
          · by_cases w2 : i = k
            · subst w2; exact g ⟨hi, e⟩
            · have c := h.inc k i (by omega) hi
              have d := k3 k (Nat.le_refl _) (by omega)
              omega
        refine ⟨k, k1, fun j hj => by have := k2 j hj; omega, fun j hj hl => ?_, ?_⟩
        · have a1 := k3 j hj hl
          have a2 : ldN B j ≠ a := fun e => pv ((pvB_iff h _).2 ⟨j, hl, by omega⟩)
          omega
        · rw [nfr, if_neg pv]; omega
  obtain ⟨k, k1, k2, k3, k4⟩ := this M (Nat.le_refl _)
  have : k = B.length := by
    by_cases e : k < B.length
    · have a := k3 k (Nat.le_refl _) e
      have b := h.piv e
      omega
    · omega
  omega

theorem kerN_len (p : Int) (M : Nat) (B : List (List Int)) : ∀ a, (kerN p M B a).length = nfr B 0 a
  | 0 => rfl
  | a + 1 => by
    rw [kerN, nfr, Nat.zero_add]
    split
    · rw [kerN_len p M B a]; omega
    · rw [List.length_append, kerN_len p M B a]; rfl

/-- What a list of the kernel has at a place that is no pivot. -/
theorem knS_get {p : Int} {M : Nat} {B : List (List Int)} (a : Nat) {q : Nat} : ∀ i, i ≤ B.length → (∀ j, j < i → ldN B j ≠ q) → ∀ l : List Int, (knS p B a i l).getD q 0 = l.getD q 0
  | 0, _, _, l => rfl
  | i + 1, hi, hn, l => by
    rw [knS]
    have := hn i (by omega)
    rw [show ((knS p B a i l).set (ldN B i) ((p - at2 B i a).tmod p)).getD q 0 = (knS p B a i l).getD q 0 by
      simp only [List.getD_eq_getElem?_getD, List.getElem?_set_ne this]]
    exact knS_get (M := M) a i (by omega) (fun j hj => hn j (by omega)) l

theorem knS_len (p : Int) (B : List (List Int)) (a : Nat) : ∀ i (l : List Int), (knS p B a i l).length = l.length
  | 0, l => rfl
  | i + 1, l => by rw [knS, List.length_set, knS_len p B a i l]

theorem knS_piv {p : Int} {M : Nat} {B : List (List Int)} (h : Rref p M B) (a : Nat) {j : Nat} : ∀ i, i ≤ B.length → j < i → ∀ l : List Int, l.length = M → (knS p B a i l).getD (ldN B j) 0 = (p - at2 B j a).tmod p
  | 0, _, hj, _, _ => by omega
  | i + 1, hi, hj, l, hl => by
    rw [knS]
    have pv := h.piv (k := j) (by omega)
    rw [getD_set _ _ _ _ (by rw [knS_len, hl]; exact pv)]
    by_cases e : j = i
    · subst e; rw [if_pos rfl]
    · rw [if_neg (fun x => e (h.inj (by omega) (by omega) x))]
      exact knS_piv h a i (by omega) (by omega) l hl

theorem one_get {M a q : Nat} (hq : q < M) : ((List.replicate M (0 : Int)).set a 1).getD q 0 = if q = a then 1 else 0 := by
  rw [getD_set _ _ _ _ (by simpa using hq)]
  by_cases e : q = a
  · rw [if_pos e, if_pos e]
  · rw [if_neg e, if_neg e]; simp [List.getD, hq]

theorem knL_free {p : Int} {M : Nat} {B : List (List Int)} (h : Rref p M B) (a : Nat) {q : Nat} (hq : q < M) (hf : ¬ pvB B q = true) : (knL p M B a).getD q 0 = if q = a then 1 else 0 := by
  rw [knL, knS_get (M := M) a B.length (Nat.le_refl _) (fun j hj e => hf ((pvB_iff h q).2 ⟨j, hj, e⟩)), one_get hq]

theorem knL_piv {p : Int} {M : Nat} {B : List (List Int)} (h : Rref p M B) (a : Nat) {j : Nat} (hj : j < B.length) : (knL p M B a).getD (ldN B j) 0 = (p - at2 B j a).tmod p := by
  rw [knL, knS_piv h a B.length (Nat.le_refl _) hj _ (by simp)]

/-- The kernel's rows belong to different places that are no pivots. -/
theorem kerN_at (p : Int) (M : Nat) (B : List (List Int)) : ∀ a, ∃ P : Nat → Nat, ∀ i, i < (kerN p M B a).length → P i < a ∧ ¬ pvB B (P i) = true ∧ (kerN p M B a).getD i [] = knL p M B (P i) ∧ ∀ j, j < i → P j < P i
  | 0 => ⟨fun _ => 0, fun i hi => by simp [kerN] at hi⟩
  | a + 1 => by
    obtain ⟨P, hP⟩ := kerN_at p M B a
    unfold kerN
    split
    · exact ⟨P, fun i hi => ⟨by have := (hP i hi).1; omega, (hP i hi).2⟩⟩
    · rename_i hf
      refine ⟨fun i => if i < (kerN p M B a).length then P i else a, fun i hi => ?_⟩
      by_cases e : i < (kerN p M B a).length
      · obtain ⟨p1, p2, p3, p4⟩ := hP i e
        simp only [if_pos e]
        refine ⟨by omega, p2, by rw [snoc_get _ _ e]; exact p3, fun j hj => ?_⟩
        rw [if_pos (by omega)]; exact p4 j hj
      · have : i = (kerN p M B a).length := by simp at hi; omega
        simp only [if_neg e]
        refine ⟨by omega, hf, by rw [this]; simp [List.getD], fun j hj => ?_⟩
        rw [if_pos (by omega)]
        exact (hP j (by omega)).1

/-- Independent rows stay as many when they are reduced. -/
theorem imN_indep {p : Int} (hp : primeB p = true) {M : Nat} {K : List (List Int)} (hK : rwsP p M K) (P : Nat → Nat) (hP : ∀ i, i < K.length → P i < M ∧ at2 K i (P i) = 1 ∧ ∀ j, j < i → at2 K j (P i) = 0) : ∀ i, i ≤ K.length → (imN p K i).length = i
  | 0, _ => rfl
  | i + 1, hi => by
    obtain ⟨p2, _⟩ := primeB_le hp
    have ih := imN_indep hp hK P hP i (by omega)
    obtain ⟨F, S⟩ := imN_ok hp hK i (by omega)
    have row := hK i (by omega)
    obtain ⟨a1, a2, a3⟩ := hP i (by omega)
    have z := red_zero p2 F.bas row
    simp only [imN]
    split
    · rename_i hlt
      obtain ⟨c, hc⟩ := (S _).1 (z.1 hlt)
      have := hc (P i) a1
      have e0 : sm (fun k => c k * at2 (K.take i) k (P i)) (K.take i).length = 0 := by
        rw [sm_ext (g := fun k => 0 * 0) fun k hk => by
          rw [List.length_take] at hk
          rw [show at2 (K.take i) k (P i) = at2 K k (P i) by
            unfold at2
            rw [show (K.take i).getD k [] = K.getD k [] by simp only [List.getD_eq_getElem?_getD, List.getElem?_take_of_lt (show k < i by omega)]], a3 k (by omega)]
          simp, sm_mul]
        simp
      rw [e0, Int.sub_zero] at this
      rw [show (fun q => (K.getD i []).getD q 0) (P i) = 1 from a2] at this
      have := Int.le_of_dvd (by omega) this
      omega
    · rw [List.length_append, List.length_map, ih]; rfl

/-- As many rows as there are places that are no pivots. -/
theorem cba_len {p : Int} (hp : primeB p = true) {M : Nat} {R : List (List Int)} (hR : rwsP p M R) : (cbaL p M R).length = nfr (srtL (imN p R R.length)) 0 M := by
  obtain ⟨p2, _⟩ := primeB_le hp
  obtain ⟨H, _⟩ := red_rref hp hR
  unfold cbaL
  dsimp only
  generalize hB : srtL (imN p R R.length) = B at *
  obtain ⟨P, hP⟩ := kerN_at p M B M
  have hK := (kerN_rws p2 (fun i hi => H.row i hi) M (Nat.le_refl _)).1
  rw [srtL_len, imN_indep hp hK P (fun i hi => ?_) _ (Nat.le_refl _), kerN_len]
  obtain ⟨p1, p2, p3, p4⟩ := hP i hi
  refine ⟨p1, ?_, fun j hj => ?_⟩
  · rw [at2, p3, knL_free H _ p1 p2, if_pos rfl]
  · have q := hP j (by omega)
    rw [at2, q.2.2.1, knL_free H _ p1 p2, if_neg (by have := p4 j hj; omega)]

/-- What is orthogonal to the rows is so to their combinations. -/
theorem ort_span {p : Int} {M : Nat} {B : List (List Int)} {f v : Nat → Int} (h : ∀ k, k < B.length → p ∣ sm (fun q => at2 B k q * f q) M) (hv : SpP p M B v) : p ∣ sm (fun q => v q * f q) M := by
  obtain ⟨c, hc⟩ := hv
  have A : ∀ n, n ≤ B.length → p ∣ sm (fun q => sm (fun k => c k * at2 B k q) n * f q) M := fun n => by
    induction n with
    | zero =>
      intro _
      rw [sm_ext (g := fun q => 0 * 0) fun q _ => by simp [sm], sm_mul]; simp
    | succ n ih =>
      intro hn
      rw [sm_ext (g := fun q => sm (fun k => c k * at2 B k q) n * f q + c n * (at2 B n q * f q)) fun q _ => by
        simp only [sm]; rw [Int.add_mul, Int.mul_assoc], sm_add, sm_mul]
      exact Int.dvd_add (ih (by omega)) (Int.dvd_mul_of_dvd_right (h n (by omega)))
  have D := sm_mod (p := p) (fun q => v q * f q) (fun q => sm (fun k => c k * at2 B k q) B.length * f q) M fun q hq => by
    rw [← Int.sub_mul]
    exact Int.dvd_mul_of_dvd_left (hc q hq)
  have := Int.dvd_add D (A B.length (Nat.le_refl _))
  rwa [Int.sub_add_cancel] at this

theorem ort_same {p : Int} {M : Nat} {B R : List (List Int)} {f : Nat → Int} (he : ∀ v, SpP p M B v ↔ SpP p M R v) : (∀ k, k < B.length → p ∣ sm (fun q => at2 B k q * f q) M) ↔ ∀ k, k < R.length → p ∣ sm (fun q => at2 R k q * f q) M :=
  ⟨fun h _ hk => ort_span h ((he _).2 (sp_mem hk)), fun h _ hk => ort_span h ((he _).1 (sp_mem hk))⟩

/-- The numbers below p ^ M whose digits are orthogonal to the rows. -/
theorem ort_cnt {p : Nat} (hp : primeB (p : Int) = true) {M : Nat} {R : List (List Int)} (hR : rwsP (p : Int) M R) (Q : Nat → Bool) (hQ : ∀ k, k < p ^ M → (Q k = true ↔ ∀ i, i < R.length → (p : Int) ∣ sm (fun q => at2 R i q * dg p k q) M)) : cN Q (p ^ M) = p ^ (cbaL (p : Int) M R).length := by
  obtain ⟨p2, _⟩ := primeB_le hp
  obtain ⟨H, E⟩ := red_rref hp hR
  rw [cba_len hp hR, ← okB_cnt (by omega) H M 0 (by omega)]
  refine cN_ext fun k hk => ?_
  have a := hQ k hk
  rw [← ort_same E] at a
  have b : okB p (srtL (imN (p : Int) R R.length)) M 0 k = true ↔ _ := okB_iff
  have c : okB p (srtL (imN (p : Int) R R.length)) M 0 k = true ↔ Q k = true := by
    rw [b, a]
    constructor
    · intro h i hi
      have := h i hi (Nat.zero_le _)
      rwa [sm_ext (g := fun q => at2 (srtL (imN (p : Int) R R.length)) i q * dg p k q) fun j _ => by rw [Nat.zero_add]] at this
    · intro h i hi _
      rw [sm_ext (g := fun q => at2 (srtL (imN (p : Int) R R.length)) i q * dg p k q) fun j _ => by rw [Nat.zero_add]]
      exact h i hi
  cases h1 : Q k <;> cases h2 : okB p (srtL (imN (p : Int) R R.length)) M 0 k
  · rfl
  · exact absurd (c.1 h2) (by simp [h1])
  · exact absurd (c.2 h1) (by simp [h2])
  · rfl

/-- The kernel's lists are orthogonal to the rows. -/
theorem knL_ort {p : Int} (hp : 2 ≤ p) {M : Nat} {B : List (List Int)} (h : Rref p M B) {a : Nat} (ha : a < M) (hf : ¬ pvB B a = true) {i : Nat} (hi : i < B.length) : p ∣ sm (fun q => at2 B i q * (knL p M B a).getD q 0) M := by
  have row := h.row i hi
  have c : 0 ≤ at2 B i a ∧ at2 B i a ≤ p - 1 := row.2 a (by rw [row.1]; exact ha)
  have ne : ldN B i ≠ a := fun e => hf ((pvB_iff h a).2 ⟨i, hi, e⟩)
  rw [sm_ext (g := fun q => (if q = a then at2 B i a else 0) + if q = ldN B i then (p - at2 B i a).tmod p else 0) fun q hq => ?_, sm_add, sm_delta, sm_delta, if_pos ha, if_pos (h.piv hi)]
  · rw [Int.tmod_eq_emod_of_nonneg (by omega)]
    have d := Int.emod_add_mul_ediv (p - at2 B i a) p
    refine ⟨1 - (p - at2 B i a) / p, ?_⟩
    rw [Int.mul_sub, Int.mul_one]; omega
  · by_cases g : pvB B q = true
    · obtain ⟨j, hj, e⟩ := (pvB_iff h q).1 g
      have qa : q ≠ a := fun x => hf (x ▸ g)
      rw [if_neg qa, Int.zero_add, ← e, knL_piv h a hj]
      by_cases w : i = j
      · subst w; rw [h.one i hi, Int.one_mul, if_pos rfl]
      · rw [h.all i j w hi hj, Int.zero_mul, if_neg (fun x => w (h.inj hi hj x.symm))]
    · rw [knL_free h a hq g]
      have w : q ≠ ldN B i := fun x => g ((pvB_iff h q).2 ⟨i, hi, x.symm⟩)
      rw [if_neg w, Int.add_zero]
      by_cases qa : q = a
      · subst qa; rw [if_pos rfl, if_pos rfl, Int.mul_one]
      · rw [if_neg qa, if_neg qa, Int.mul_zero]

/-- The rows of the basis are orthogonal to the rows. -/
theorem cba_ort {p : Int} (hp : primeB p = true) {M : Nat} {R : List (List Int)} (hR : rwsP p M R) {j : Nat} (hj : j < (cbaL p M R).length) : rwP p M ((cbaL p M R).getD j []) ∧ ∀ i, i < R.length → p ∣ sm (fun q => at2 R i q * at2 (cbaL p M R) j q) M := by
  obtain ⟨p2, _⟩ := primeB_le hp
  obtain ⟨H, E⟩ := red_rref hp hR
  unfold cbaL at *
  dsimp only at *
  generalize hB : srtL (imN p R R.length) = B at *
  have hK := (kerN_rws p2 (fun i hi => H.row i hi) M (Nat.le_refl _)).1
  obtain ⟨P, hP⟩ := kerN_at p M B M
  obtain ⟨H2, E2⟩ := red_rref hp hK
  generalize hC : srtL (imN p (kerN p M B M) (kerN p M B M).length) = C at *
  refine ⟨H2.row j hj, (ort_same E).1 fun k hk => ?_⟩
  rw [sm_ext (g := fun q => at2 C j q * at2 B k q) fun q _ => Int.mul_comm _ _]
  refine ort_span (B := kerN p M B M) (fun i hi => ?_) ((E2 _).1 (sp_mem hj))
  obtain ⟨q1, q2, q3, _⟩ := hP i hi
  rw [sm_ext (g := fun q => at2 B k q * (knL p M B (P i)).getD q 0) fun q _ => by rw [at2, q3, Int.mul_comm]]
  exact knL_ort p2 H q1 q2 hk

end Go.Sx
end

section
open Go Go.Proofs
namespace Go.Sx
set_option linter.unusedSimpArgs false
set_option linter.unusedVariables false

theorem firstO_none {α : Type} {n : Nat} {q : Nat → Option α} : ∀ {k : Nat}, k ≤ n → (firstO n q k = none ↔ ∀ i, n - k ≤ i → i < n → q i = none)
  | 0, _ => ⟨fun _ i h1 h2 => by omega, fun _ => rfl⟩
  | k + 1, hk => by
    have ih := firstO_none (q := q) (show k ≤ n by omega)
    rw [firstO]
    constructor
    · intro h i h1 h2
      have a : q (n - (k + 1)) = none := by
        cases e : q (n - (k + 1)) with
        | none => rfl
        | some v => rw [e] at h; cases h
      rw [a] at h
      by_cases e : i = n - (k + 1)
      · rw [e]; exact a
      · exact ih.1 h i (by omega) h2
    · intro h
      rw [h (n - (k + 1)) (Nat.le_refl _) (by omega)]
      exact ih.2 fun i h1 h2 => h i (by omega) h2

theorem firstO_none' {α : Type} {n : Nat} {q : Nat → Option α} : firstO n q n = none ↔ ∀ i, i < n → q i = none := by
  rw [firstO_none (Nat.le_refl n)]
  exact ⟨fun h i hi => h i (by omega) hi, fun h i _ hi => h i hi⟩

theorem rcF_none {t : List (List Int)} {m : Int} {f : List (List Int)} : (rcF t m f).isNone = true ↔ ∀ x, x < t.length → ∀ y, y < t.length → ∀ z, z < t.length → (en f y z + en f x (en t y z).toNat).tmod m = (en f x z + en f (en t x y).toNat (en t x z).toNat).tmod m := by
  rw [Option.isNone_iff_eq_none, rcF, firstO_none']
  refine forall_congr' fun x => forall_congr' fun _ => ?_
  rw [rcX, firstO_none']
  refine forall_congr' fun y => forall_congr' fun _ => ?_
  rw [rcY, firstO_none']
  refine forall_congr' fun z => forall_congr' fun _ => ?_
  unfold rcZ
  constructor
  · intro h
    split at h
    · assumption
    · cases h
  · intro h
    rw [if_pos h]

theorem dot_sm (a b : List Int) : ∀ n, dotN a b n = sm (fun q => a.getD q 0 * b.getD q 0) n
  | 0 => rfl
  | n + 1 => by rw [dotN, sm, dot_sm a b n]

theorem dot_bump {p s : Int} {a b M : Nat} {c : List Int} (hp : 1 ≤ p) (hs : 0 ≤ s ∧ s ≤ p - 1) (hc : inP p c) (hl : c.length = M) (ha : a < M) (hb : b < M) (f : Nat → Int) :
    p ∣ sm (fun q => (bump p s a b c).getD q 0 * f q) M - (sm (fun q => c.getD q 0 * f q) M + s * f a - s * f b) := by
  have e : sm (fun q => c.getD q 0 * f q) M + s * f a - s * f b = sm (fun q => (c.getD q 0 + (if q = a then s else 0) - (if q = b then s else 0)) * f q) M := by
    have E : ∀ q, (c.getD q 0 + (if q = a then s else 0) - (if q = b then s else 0)) * f q = (c.getD q 0 * f q + if q = a then s * f a else 0) + (-1) * (if q = b then s * f b else 0) := fun q => by
      have e1 : (if q = a then s else 0) * f q = if q = a then s * f a else 0 := by
        by_cases h : q = a
        · rw [if_pos h, if_pos h, h]
        · rw [if_neg h, if_neg h, Int.zero_mul]
      have e2 : (if q = b then s else 0) * f q = if q = b then s * f b else 0 := by
        by_cases h : q = b
        · rw [if_pos h, if_pos h, h]
        · rw [if_neg h, if_neg h, Int.zero_mul]
      rw [Int.sub_mul, Int.add_mul, e1, e2]
      omega
    rw [show sm (fun q => (c.getD q 0 + (if q = a then s else 0) - (if q = b then s else 0)) * f q) M = _ from sm_ext fun q _ => E q, sm_add, sm_add, sm_mul, sm_delta, sm_delta, if_pos ha, if_pos hb]
    omega
  rw [e]
  refine sm_mod _ _ _ fun q hq => ?_
  rw [← Int.sub_mul]
  exact Int.dvd_mul_of_dvd_left (bump_mod hp hs hc q (by omega))

theorem plc2 (n a b : Int) : plc n [a, b] = a * n + b := by simp [plc]

theorem sqr_lt {n x y : Nat} (hx : x < n) (hy : y < n) : x * n + y < n * n := by
  have := Nat.mul_le_mul_right n (show x + 1 ≤ n by omega)
  rw [Nat.succ_mul] at this
  omega

theorem plc_nat (n x y : Nat) : (plc (n : Int) [(x : Int), (y : Int)]).toNat = x * n + y := by
  rw [plc2]
  have : (x : Int) * n + y = ((x * n + y : Nat) : Int) := by simp
  rw [this]; rfl

/-- The boundary of a tuple of degree 3, paired with a function of places. -/
theorem pt3_dot {t : List (List Int)} (ht : tabB t = true) {p : Int} (hp : 2 ≤ p) {x y z : Nat} (hx : x < t.length) (hy : y < t.length) (hz : z < t.length) (f : Nat → Int) :
    p ∣ sm (fun q => (ptF t p [(x : Int), (y : Int), (z : Int)] 3).getD q 0 * f q) (t.length * t.length) +
      (f (y * t.length + z) + f (x * t.length + (en t y z).toNat) - f (x * t.length + z) - f ((en t x y).toNat * t.length + (en t x z).toNat)) := by
  obtain ⟨n1, n2, tt⟩ := tabB_of ht
  have v : ∀ a b, a < t.length → b < t.length → 0 ≤ en t a b ∧ (en t a b).toNat < t.length := fun a b ha hb => by
    have := (tt a ha).2 b hb
    unfold en; omega
  have vy := v y z hy hz
  have vx := v x y hx hy
  have vz := v x z hx hz
  have len : ∀ i, (ptF t p [(x : Int), (y : Int), (z : Int)] i).length = t.length * t.length := fun i => by rw [ptF_length]; simp [Nat.pow_succ]
  have A0 : pa t [(x : Int), (y : Int), (z : Int)] 0 = y * t.length + z := plc_nat _ y z
  have A1 : pa t [(x : Int), (y : Int), (z : Int)] 1 = x * t.length + z := plc_nat _ x z
  have A2 : pa t [(x : Int), (y : Int), (z : Int)] 2 = x * t.length + y := plc_nat _ x y
  have c0 : ∀ a b : Nat, a < t.length → b < t.length → en t a b = (((en t a b).toNat : Nat) : Int) := fun a b ha hb => by have := v a b ha hb; omega
  have B0 : pb t [(x : Int), (y : Int), (z : Int)] 0 = (en t x y).toNat * t.length + (en t x z).toNat := by
    have : mvk t (x : Int) 0 2 [(y : Int), (z : Int)] = [(((en t x y).toNat : Nat) : Int), (((en t x z).toNat : Nat) : Int)] := by
      rw [← c0 x y hx hy, ← c0 x z hx hz]; rfl
    show (plc _ (mvk t (x : Int) 0 2 [(y : Int), (z : Int)])).toNat = _
    rw [this, plc_nat]
  have B1 : pb t [(x : Int), (y : Int), (z : Int)] 1 = x * t.length + (en t y z).toNat := by
    have : mvk t (y : Int) 1 2 [(x : Int), (z : Int)] = [(x : Int), (((en t y z).toNat : Nat) : Int)] := by
      rw [← c0 y z hy hz]; rfl
    show (plc _ (mvk t (y : Int) 1 2 [(x : Int), (z : Int)])).toNat = _
    rw [this, plc_nat]
  have B2 : pb t [(x : Int), (y : Int), (z : Int)] 2 = x * t.length + y := by
    show (plc _ (mvk t (z : Int) 2 2 [(x : Int), (y : Int)])).toNat = _
    rw [mvk_none, plc_nat]
  have S0 := dot_bump (by omega) (sgS_in hp 0) (ptF_in t hp [(x : Int), (y : Int), (z : Int)] 0) (len 0) (a := pa t [(x : Int), (y : Int), (z : Int)] 0) (b := pb t [(x : Int), (y : Int), (z : Int)] 0) (by rw [A0]; exact sqr_lt hy hz) (by rw [B0]; exact sqr_lt vx.2 vz.2) f
  have S1 := dot_bump (by omega) (sgS_in hp 1) (ptF_in t hp [(x : Int), (y : Int), (z : Int)] 1) (len 1) (a := pa t [(x : Int), (y : Int), (z : Int)] 1) (b := pb t [(x : Int), (y : Int), (z : Int)] 1) (by rw [A1]; exact sqr_lt hx hz) (by rw [B1]; exact sqr_lt hx vy.2) f
  have S2 := dot_bump (by omega) (sgS_in hp 2) (ptF_in t hp [(x : Int), (y : Int), (z : Int)] 2) (len 2) (a := pa t [(x : Int), (y : Int), (z : Int)] 2) (b := pb t [(x : Int), (y : Int), (z : Int)] 2) (by rw [A2]; exact sqr_lt hx hy) (by rw [B2]; exact sqr_lt hx hy) f
  have Z : sm (fun q => (ptF t p [(x : Int), (y : Int), (z : Int)] 0).getD q 0 * f q) (t.length * t.length) = 0 := by
    rw [sm_ext (g := fun q => 0 * 0) fun q hq => by
      have : (ptF t p [(x : Int), (y : Int), (z : Int)] 0).getD q 0 = 0 := by simp only [ptF]; simp [List.getD_eq_getElem?_getD, List.getElem?_replicate]; split <;> rfl
      rw [this]; simp, sm_mul]; simp
  have P1 : bump p (sgS p 0) (pa t [(x : Int), (y : Int), (z : Int)] 0) (pb t [(x : Int), (y : Int), (z : Int)] 0) (ptF t p [(x : Int), (y : Int), (z : Int)] 0) = ptF t p [(x : Int), (y : Int), (z : Int)] 1 := rfl
  have P2 : bump p (sgS p 1) (pa t [(x : Int), (y : Int), (z : Int)] 1) (pb t [(x : Int), (y : Int), (z : Int)] 1) (ptF t p [(x : Int), (y : Int), (z : Int)] 1) = ptF t p [(x : Int), (y : Int), (z : Int)] 2 := rfl
  have P3 : bump p (sgS p 2) (pa t [(x : Int), (y : Int), (z : Int)] 2) (pb t [(x : Int), (y : Int), (z : Int)] 2) (ptF t p [(x : Int), (y : Int), (z : Int)] 2) = ptF t p [(x : Int), (y : Int), (z : Int)] 3 := rfl
  rw [P1, Z, A0, B0, show sgS p 0 = p - 1 from rfl] at S0
  rw [P2, A1, B1, show sgS p 1 = 1 from rfl] at S1
  rw [P3, A2, B2, show sgS p 2 = p - 1 from rfl] at S2
  have T := Int.dvd_add (Int.dvd_add S0 S1) S2
  have U : p ∣ p * (f (y * t.length + z) - f ((en t x y).toNat * t.length + (en t x z).toNat)) := ⟨_, rfl⟩
  have W := Int.dvd_add T U
  rw [Int.mul_sub] at W
  simp only [Int.sub_mul, Int.one_mul] at W
  refine (show ∀ a b : Int, a = b → p ∣ a → p ∣ b from fun a b e h => e ▸ h) _ _ ?_ W
  omega

theorem dig3 {n x y z : Nat} (hx : x < n) (hy : y < n) (hz : z < n) : digN (n : Int) 3 (((x * n + y) * n + z : Nat) : Int) = [(x : Int), (y : Int), (z : Int)] := by
  have a : ∀ u v : Nat, v < n → (((u * n + v : Nat) : Int)).tdiv (n : Int) = (u : Int) ∧ (((u * n + v : Nat) : Int)).tmod (n : Int) = (v : Int) := fun u v hv => by
    rw [Int.tdiv_eq_ediv_of_nonneg (by omega), Int.tmod_eq_emod_of_nonneg (by omega)]
    constructor
    · have : (u * n + v) / n = u := by rw [Nat.mul_comm, Nat.mul_add_div (by omega), Nat.div_eq_of_lt hv, Nat.add_zero]
      exact_mod_cast this
    · have : (u * n + v) % n = v := by rw [Nat.mul_comm, Nat.mul_add_mod, Nat.mod_eq_of_lt hv]
      exact_mod_cast this
  have b := a 0 x hx
  rw [Nat.zero_mul, Nat.zero_add] at b
  simp only [digN, (a (x * n + y) z hz).1, (a (x * n + y) z hz).2, (a x y hy).1, (a x y hy).2, b.1, b.2, List.nil_append, List.cons_append]

theorem cube_lt {n x y z : Nat} (hx : x < n) (hy : y < n) (hz : z < n) : (x * n + y) * n + z < n * n * n := by
  have a := sqr_lt hx hy
  have := Nat.mul_le_mul_right n (show x * n + y + 1 ≤ n * n by omega)
  rw [Nat.succ_mul] at this
  omega

theorem cube_of {n i : Nat} (h : i < n * n * n) : ∃ x y z, x < n ∧ y < n ∧ z < n ∧ i = (x * n + y) * n + z := by
  have n0 : 0 < n := by
    rcases Nat.eq_zero_or_pos n with e | e
    · subst e; simp at h
    · exact e
  refine ⟨i / n / n, i / n % n, i % n, ?_, Nat.mod_lt _ n0, Nat.mod_lt _ n0, ?_⟩
  · exact Nat.div_lt_of_lt_mul (Nat.div_lt_of_lt_mul (by rw [Nat.mul_assoc] at h; exact h))
  · have a := Nat.div_add_mod (i / n) n
    have b := Nat.div_add_mod i n
    rw [Nat.mul_comm (i / n / n) n, a, Nat.mul_comm, b]

/-- A matrix is a rack cocycle where its places are orthogonal to the boundaries. -/
theorem rc_coc {t : List (List Int)} (ht : tabB t = true) {p : Int} (hp : 2 ≤ p) {f : List (List Int)} {g : Nat → Int} (hg : ∀ x y, x < t.length → y < t.length → en f x y = g (x * t.length + y) ∧ 0 ≤ en f x y) :
    (rcF t p f).isNone = true ↔ ∀ i, i < t.length * t.length * t.length → p ∣ sm (fun q => (crF t p i).getD q 0 * g q) (t.length * t.length) := by
  obtain ⟨n1, n2, tt⟩ := tabB_of ht
  have v : ∀ a b, a < t.length → b < t.length → (en t a b).toNat < t.length := fun a b ha hb => by
    have := (tt a ha).2 b hb
    unfold en; omega
  have key : ∀ x y z, x < t.length → y < t.length → z < t.length → ((en f y z + en f x (en t y z).toNat).tmod p = (en f x z + en f (en t x y).toNat (en t x z).toNat).tmod p ↔
      p ∣ sm (fun q => (crF t p ((x * t.length + y) * t.length + z)).getD q 0 * g q) (t.length * t.length)) := fun x y z hx hy hz => by
    have D := pt3_dot ht hp hx hy hz g
    have c : crF t p ((x * t.length + y) * t.length + z) = ptF t p [(x : Int), (y : Int), (z : Int)] 3 := by rw [crF, dig3 hx hy hz]
    have g1 := hg y z hy hz
    have g2 := hg x (en t y z).toNat hx (v y z hy hz)
    have g3 := hg x z hx hz
    have g4 := hg (en t x y).toNat (en t x z).toNat (v x y hx hy) (v x z hx hz)
    rw [c, Int.tmod_eq_emod_of_nonneg (by omega), Int.tmod_eq_emod_of_nonneg (by omega), Int.emod_eq_emod_iff_emod_sub_eq_zero, ← Int.dvd_iff_emod_eq_zero]
    rw [← g1.1, ← g2.1, ← g3.1, ← g4.1] at D
    generalize sm (fun q => (ptF t p [(x : Int), (y : Int), (z : Int)] 3).getD q 0 * g q) (t.length * t.length) = S at *
    constructor
    · intro h
      have := Int.dvd_sub D h
      refine (show ∀ a b : Int, a = b → p ∣ a → p ∣ b from fun a b e h => e ▸ h) _ _ ?_ this
      omega
    · intro h
      have := Int.dvd_sub D h
      refine (show ∀ a b : Int, a = b → p ∣ a → p ∣ b from fun a b e h => e ▸ h) _ _ ?_ this
      omega
  rw [rcF_none]
  constructor
  · intro h i hi
    obtain ⟨x, y, z, hx, hy, hz, rfl⟩ := cube_of hi
    exact (key x y z hx hy hz).1 (h x hx y hy z hz)
  · intro h x hx y hy z hz
    exact (key x y z hx hy hz).2 (h _ (cube_lt hx hy hz))

theorem crF_rw {t : List (List Int)} {p : Int} (hp : 2 ≤ p) (i : Nat) : rwP p (t.length * t.length) (crF t p i) := ⟨crF_length t p i, ptF_in t hp _ 3⟩

theorem crows_rws {t : List (List Int)} {p : Int} (hp : 2 ≤ p) : rwsP p (t.length * t.length) (crows t p) := fun i hi => by
  rw [crows_length] at hi
  rw [crows_getD t p i hi]
  exact crF_rw hp i

end Go.Sx
end
