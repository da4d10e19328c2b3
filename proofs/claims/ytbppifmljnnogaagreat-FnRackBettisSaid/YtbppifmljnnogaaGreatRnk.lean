/- Rnk -/
import Derived.Test.YtbppifmljnnogaaGreatBndC
open Go Go.Proofs
namespace Go.Sx
set_option linter.unusedVariables false
def sm (f : Nat → Int) : Nat → Int
  | 0 => 0
  | k + 1 => sm f k + f k
theorem sm_add (f g : Nat → Int) : ∀ n, sm (fun k => f k + g k) n = sm f n + sm g n
  | 0 => rfl
  | n + 1 => by simp only [sm, sm_add f g n]; omega
theorem sm_mul (a : Int) (f : Nat → Int) : ∀ n, sm (fun k => a * f k) n = a * sm f n
  | 0 => by simp [sm]
  | n + 1 => by simp only [sm, sm_mul a f n, Int.mul_add]
theorem sm_mod {p : Int} (f g : Nat → Int) : ∀ n, (∀ k, k < n → p ∣ f k - g k) → p ∣ sm f n - sm g n
  | 0, _ => by simp [sm]
  | n + 1, h => by
    have a := sm_mod f g n fun k hk => h k (by omega)
    have b := h n (by omega)
    have : sm f (n + 1) - sm g (n + 1) = (sm f n - sm g n) + (f n - g n) := by simp only [sm]; omega
    rw [this]
    exact Int.dvd_add a b
theorem sm_delta (i : Nat) (x : Int) : ∀ n, sm (fun k => if k = i then x else 0) n = if i < n then x else 0
  | 0 => rfl
  | n + 1 => by
    simp only [sm, sm_delta i x n]
    by_cases h1 : i < n
    · rw [if_pos h1, if_neg (by omega), if_pos (by omega)]; omega
    · by_cases h2 : n = i
      · rw [if_neg h1, if_pos h2, if_pos (by omega)]; omega
      · rw [if_neg h1, if_neg h2, if_neg (by omega)]; omega
theorem sm_ext {f g : Nat → Int} : ∀ {n}, (∀ k, k < n → f k = g k) → sm f n = sm g n
  | 0, _ => rfl
  | n + 1, h => by simp only [sm]; rw [sm_ext fun k hk => h k (by omega), h n (by omega)]
def at2 (B : List (List Int)) (k q : Nat) : Int := (B.getD k []).getD q 0
def SpP (p : Int) (N : Nat) (B : List (List Int)) (v : Nat → Int) : Prop := ∃ c : Nat → Int, ∀ q, q < N → p ∣ v q - sm (fun k => c k * at2 B k q) B.length
section
variable {p : Int} {N : Nat} {B B' : List (List Int)} {v w : Nat → Int}
theorem sp_congr (h : ∀ q, q < N → p ∣ w q - v q) (hv : SpP p N B v) : SpP p N B w := by
  obtain ⟨c, hc⟩ := hv
  refine ⟨c, fun q hq => ?_⟩
  have := Int.dvd_add (h q hq) (hc q hq)
  rwa [show w q - v q + (v q - sm (fun k => c k * at2 B k q) B.length) = w q - sm (fun k => c k * at2 B k q) B.length by omega] at this
theorem sp_zero (h : ∀ q, q < N → p ∣ v q) : SpP p N B v := by
  refine ⟨fun _ => 0, fun q hq => ?_⟩
  have e : sm (fun k => (0 : Int) * at2 B k q) B.length = 0 := by rw [sm_mul]; simp
  rw [e, Int.sub_zero]
  exact h q hq
theorem sp_add (hv : SpP p N B v) (hw : SpP p N B w) : SpP p N B (fun q => v q + w q) := by
  obtain ⟨c, hc⟩ := hv
  obtain ⟨d, hd⟩ := hw
  refine ⟨fun k => c k + d k, fun q hq => ?_⟩
  have e : sm (fun k => (c k + d k) * at2 B k q) B.length = sm (fun k => c k * at2 B k q) B.length + sm (fun k => d k * at2 B k q) B.length := by
    rw [← sm_add]
    exact sm_ext fun k _ => Int.add_mul _ _ _
  have := Int.dvd_add (hc q hq) (hd q hq)
  rw [e]
  rwa [show v q - sm (fun k => c k * at2 B k q) B.length + (w q - sm (fun k => d k * at2 B k q) B.length) = v q + w q - (sm (fun k => c k * at2 B k q) B.length + sm (fun k => d k * at2 B k q) B.length) by omega] at this
theorem sp_mul (a : Int) (hv : SpP p N B v) : SpP p N B (fun q => a * v q) := by
  obtain ⟨c, hc⟩ := hv
  refine ⟨fun k => a * c k, fun q hq => ?_⟩
  have e : sm (fun k => a * c k * at2 B k q) B.length = a * sm (fun k => c k * at2 B k q) B.length := by
    rw [← sm_mul]
    exact sm_ext fun k _ => Int.mul_assoc _ _ _
  rw [e, ← Int.mul_sub]
  exact Int.dvd_mul_of_dvd_right (hc q hq) 
theorem sp_mem {i : Nat} (hi : i < B.length) : SpP p N B (at2 B i) := by
  refine ⟨fun k => if k = i then 1 else 0, fun q hq => ?_⟩
  have e : sm (fun k => (if k = i then 1 else 0) * at2 B k q) B.length = at2 B i q := by
    rw [sm_ext (g := fun k => if k = i then at2 B i q else 0) fun k _ => by
      by_cases h : k = i
      · subst h; simp
      · simp [h], sm_delta, if_pos hi]
  rw [e, Int.sub_self]
  exact Int.dvd_zero _
theorem sp_sub (h : ∀ k, k < B.length → SpP p N B' (at2 B k)) (hv : SpP p N B v) : SpP p N B' v := by
  obtain ⟨c, hc⟩ := hv
  have : ∀ n, n ≤ B.length → SpP p N B' (fun q => sm (fun k => c k * at2 B k q) n) := fun n => by
    induction n with
    | zero => intro _; exact sp_zero fun q _ => Int.dvd_zero _
    | succ n ih => intro hn; exact sp_add (ih (by omega)) (sp_mul (c n) (h n (by omega)))
  exact sp_congr hc (this B.length (Nat.le_refl _))
theorem at2_app (B : List (List Int)) (r : List Int) {k : Nat} (h : k < B.length) (q : Nat) : at2 (B ++ [r]) k q = at2 B k q := by
  unfold at2
  rw [show (B ++ [r]).getD k [] = B.getD k [] by simp [List.getD, List.getElem?_append_left h]]
theorem at2_last (B : List (List Int)) (r : List Int) (q : Nat) : at2 (B ++ [r]) B.length q = r.getD q 0 := by
  unfold at2
  rw [show (B ++ [r]).getD B.length [] = r by simp [List.getD]]
theorem sp_app (r : List Int) (hv : SpP p N B v) : SpP p N (B ++ [r]) v :=
  sp_sub (fun k hk => sp_congr (fun q _ => by rw [at2_app B r hk, Int.sub_self]; exact Int.dvd_zero _) (sp_mem (B := B ++ [r]) (i := k) (by simp; omega))) hv
theorem sp_last (B : List (List Int)) (r : List Int) : SpP p N (B ++ [r]) (fun q => r.getD q 0) :=
  sp_congr (fun q _ => by rw [at2_last, Int.sub_self]; exact Int.dvd_zero _) (sp_mem (B := B ++ [r]) (i := B.length) (by simp))
theorem tri_zero (P : Nat → Nat) (hP : ∀ k, k < B.length → P k < N) (h1 : ∀ k, k < B.length → at2 B k (P k) = 1) (h2 : ∀ j k, k < j → j < B.length → at2 B j (P k) = 0)
    (hs : SpP p N B v) (hv : ∀ k, k < B.length → p ∣ v (P k)) : ∀ q, q < N → p ∣ v q := by
  obtain ⟨c, hc⟩ := hs
  have hk : ∀ n k, k < n → k < B.length → p ∣ c k := fun n => by
    induction n with
    | zero => intro k h; omega
    | succ n ih =>
      intro k hkn hk
      have a := hc (P k) (hP k hk)
      have b : p ∣ sm (fun j => c j * at2 B j (P k)) B.length - sm (fun j => if j = k then c k else 0) B.length := sm_mod _ _ _ fun j hj => by
        by_cases e : j = k
        · subst e; rw [if_pos rfl, h1 j hj, Int.mul_one, Int.sub_self]; exact Int.dvd_zero _
        · rw [if_neg e, Int.sub_zero]
          by_cases e2 : j < k
          · exact Int.dvd_mul_of_dvd_left (ih j (by omega) hj)
          · rw [h2 j k (by omega) hj, Int.mul_zero]; exact Int.dvd_zero _
      rw [sm_delta, if_pos hk] at b
      have := Int.dvd_sub (hv k hk) (Int.dvd_add a b)
      rwa [show v (P k) - (v (P k) - sm (fun j => c j * at2 B j (P k)) B.length + (sm (fun j => c j * at2 B j (P k)) B.length - c k)) = c k by omega] at this
  intro q hq
  have a := hc q hq
  have b : p ∣ sm (fun j => c j * at2 B j q) B.length - sm (fun _ => 0) B.length := sm_mod _ _ _ fun j hj => by
    rw [Int.sub_zero]
    exact Int.dvd_mul_of_dvd_left (hk (j + 1) j (by omega) hj)
  have e : sm (fun _ => (0 : Int)) B.length = 0 := by
    have := sm_mul 0 (fun _ => (0 : Int)) B.length
    simpa using this
  rw [e, Int.sub_zero] at b
  have := Int.dvd_add a b
  rwa [show v q - sm (fun j => c j * at2 B j q) B.length + sm (fun j => c j * at2 B j q) B.length = v q by omega] at this
end
def fs0 : List Int → Int → Int
  | [], _ => -1
  | x :: l, k => if x ≠ 0 then k else fs0 l (k + 1)
def ldF (l : List Int) : Int := fs0 l 0
theorem fs0_facts : ∀ (l : List Int) (k : Int), 0 ≤ k → (fs0 l k = -1 ∧ ∀ i, l.getD i 0 = 0) ∨ (k ≤ fs0 l k ∧ fs0 l k < k + (l.length : Int) ∧ l.getD (fs0 l k - k).toNat 0 ≠ 0 ∧ ∀ i : Nat, (i : Int) < fs0 l k - k → l.getD i 0 = 0)
  | [], k, hk => .inl ⟨rfl, fun i => by simp⟩
  | x :: l, k, hk => by
    simp only [fs0]
    by_cases hx : x ≠ 0
    · rw [if_pos hx]
      refine .inr ⟨by omega, by simp; omega, by simpa using hx, fun i hi => by omega⟩
    · rw [if_neg hx]
      have hx : x = 0 := by omega
      rcases fs0_facts l (k + 1) (by omega) with ⟨h1, h2⟩ | ⟨h1, h2, h3, h4⟩
      · refine .inl ⟨h1, fun i => ?_⟩
        cases i with
        | zero => simpa using hx
        | succ i => simpa using h2 i
      · refine .inr ⟨by omega, by simp; omega, ?_, fun i hi => ?_⟩
        · rw [show (fs0 l (k + 1) - k).toNat = (fs0 l (k + 1) - (k + 1)).toNat + 1 by omega]
          simpa using h3
        · cases i with
          | zero => simpa using hx
          | succ i => simpa using h4 i (by omega)
theorem ld_no {l : List Int} (h : ldF l < 0) : ∀ i, l.getD i 0 = 0 := by
  rcases fs0_facts l 0 (by omega) with ⟨_, h2⟩ | ⟨h1, _⟩
  · exact h2
  · unfold ldF at h; omega
theorem ld_yes {l : List Int} (h : 0 ≤ ldF l) : (ldF l).toNat < l.length ∧ l.getD (ldF l).toNat 0 ≠ 0 ∧ ∀ i, i < (ldF l).toNat → l.getD i 0 = 0 := by
  unfold ldF at *
  rcases fs0_facts l 0 (by omega) with ⟨h1, _⟩ | ⟨h1, h2, h3, h4⟩
  · omega
  · rw [Int.sub_zero] at h3
    exact ⟨by omega, h3, fun i hi => h4 i (by omega)⟩
theorem ld_is {l : List Int} {a : Nat} (h1 : l.getD a 0 ≠ 0) (h2 : ∀ i, i < a → l.getD i 0 = 0) : ldF l = (a : Int) := by
  unfold ldF
  rcases fs0_facts l 0 (by omega) with ⟨_, h3⟩ | ⟨h3, h4, h5, h6⟩
  · exact absurd (h3 a) h1
  · rw [Int.sub_zero] at h5 h6
    by_cases c1 : fs0 l 0 < (a : Int)
    · exact absurd (h2 (fs0 l 0).toNat (by omega)) h5
    · by_cases c2 : (a : Int) < fs0 l 0
      · exact absurd (h6 a c2) h1
      · omega
def rwP (p : Int) (N : Nat) (r : List Int) : Prop := r.length = N ∧ inP p r
theorem stF_rw {p t : Int} {N : Nat} (hp : 1 ≤ p) (ht : 0 ≤ t) {b r : List Int} (hb : rwP p N b) (hr : rwP p N r) : rwP p N (stF p t b r) :=
  ⟨by rw [stF_length]; exact hr.1, stF_in hp ht (by rw [hb.1, hr.1]) hb.2 hr.2⟩
theorem stF_get {p t : Int} {b r : List Int} {q : Nat} (hq : q < r.length) : (stF p t b r).getD q 0 = (r.getD q 0 + t * b.getD q 0).tmod p := by
  rw [stF, tab_getD _ _ _ hq]
theorem stF_mod {p t : Int} {N : Nat} (hp : 1 ≤ p) (ht : 0 ≤ t) {b r : List Int} (hb : rwP p N b) (hr : rwP p N r) {q : Nat} (hq : q < N) : p ∣ (stF p t b r).getD q 0 - (r.getD q 0 + t * b.getD q 0) := by
  have h1 := hr.1
  have h2 := hb.1
  rw [stF_get (by omega)]
  have a := hr.2 q (by omega)
  have c := hb.2 q (by omega)
  have := Int.mul_nonneg ht c.1
  exact tmod_dvd (by omega) hp
def redN (p : Int) (B : List (List Int)) (P : Nat → Nat) (r : List Int) : Nat → List Int
  | 0 => r
  | k + 1 => if (redN p B P r k).getD (P k) 0 ≠ 0 then stF p (p - (redN p B P r k).getD (P k) 0) (B.getD k []) (redN p B P r k) else redN p B P r k
structure Bas (p : Int) (N : Nat) (B : List (List Int)) (P : Nat → Nat) : Prop where
  row : ∀ k, k < B.length → rwP p N (B.getD k [])
  piv : ∀ k, k < B.length → P k < N
  one : ∀ k, k < B.length → at2 B k (P k) = 1
  tri : ∀ j k, k < j → j < B.length → at2 B j (P k) = 0
theorem red_ok {p : Int} {N : Nat} {B : List (List Int)} {P : Nat → Nat} (hp : 2 ≤ p) (hB : Bas p N B P) {r : List Int} (hr : rwP p N r) :
    ∀ k, k ≤ B.length → rwP p N (redN p B P r k) ∧ (∀ j, j < k → (redN p B P r k).getD (P j) 0 = 0) ∧ SpP p N B (fun q => r.getD q 0 - (redN p B P r k).getD q 0)
  | 0, _ => ⟨hr, fun j hj => by omega, sp_zero fun q _ => by simp [redN]⟩
  | k + 1, hk => by
    obtain ⟨h1, h2, h3⟩ := red_ok hp hB hr k (by omega)
    have hP := hB.piv k (by omega)
    have hb := hB.row k (by omega)
    have l1 := h1.1
    have c := h1.2 (P k) (by omega)
    simp only [redN]
    by_cases h0 : (redN p B P r k).getD (P k) 0 ≠ 0
    · rw [if_pos h0]
      generalize hC : (redN p B P r k).getD (P k) 0 = C at *
      refine ⟨stF_rw (by omega) (by omega) hb h1, fun j hj => ?_, ?_⟩
      · have hPj := hB.piv j (by omega)
        rw [stF_get (by omega)]
        by_cases e : j = k
        · subst e
          have o := hB.one j (by omega)
          unfold at2 at o
          rw [hC, o, show C + (p - C) * 1 = p by omega, Int.tmod_self]
        · have o := hB.tri k j (by omega) (by omega)
          unfold at2 at o
          rw [h2 j (by omega), o]; simp
      · have m := sp_mul C (sp_mem (p := p) (N := N) (B := B) (i := k) (by omega))
        refine sp_congr (fun q hq => ?_) (sp_add h3 m)
        have d := stF_mod (p := p) (t := p - C) (by omega) (by omega) hb h1 hq
        obtain ⟨x, hx⟩ := d
        refine ⟨-x - (B.getD k []).getD q 0, ?_⟩
        unfold at2
        have e : (p - C) * (B.getD k []).getD q 0 = p * (B.getD k []).getD q 0 - C * (B.getD k []).getD q 0 := Int.sub_mul _ _ _
        rw [e] at hx
        rw [Int.mul_sub, Int.mul_neg, ← hx]
        omega
    · rw [if_neg h0]
      have h0 : (redN p B P r k).getD (P k) 0 = 0 := by omega
      refine ⟨h1, fun j hj => ?_, h3⟩
      by_cases e : j = k
      · subst e; exact h0
      · exact h2 j (by omega)
theorem red_zero {p : Int} {N : Nat} {B : List (List Int)} {P : Nat → Nat} (hp : 2 ≤ p) (hB : Bas p N B P) {r : List Int} (hr : rwP p N r) :
    ldF (redN p B P r B.length) < 0 ↔ SpP p N B (fun q => r.getD q 0) := by
  obtain ⟨h1, h2, h3⟩ := red_ok hp hB hr B.length (Nat.le_refl _)
  constructor
  · intro h
    refine sp_congr (fun q hq => ?_) h3
    rw [ld_no h q, Int.sub_zero, Int.sub_self]
    exact Int.dvd_zero _
  · intro h
    have hs : SpP p N B (fun q => (redN p B P r B.length).getD q 0) := sp_congr (fun q _ => by
      rw [show (redN p B P r B.length).getD q 0 - (r.getD q 0 + -1 * (r.getD q 0 - (redN p B P r B.length).getD q 0)) = 0 by omega]
      exact Int.dvd_zero _) (sp_add h (sp_mul (-1) h3))
    have hz := tri_zero P hB.piv hB.one hB.tri hs (fun k hk => by rw [h2 k hk]; exact Int.dvd_zero _)
    refine Classical.byContradiction fun hc => ?_
    have y := ld_yes (l := redN p B P r B.length) (by omega)
    have l1 := h1.1
    have d := hz _ (by omega : (ldF (redN p B P r B.length)).toNat < N)
    have i := h1.2 _ y.1
    obtain ⟨x, hx⟩ := d
    have : x = 0 := by
      refine Classical.byContradiction fun hx0 => ?_
      rcases Int.lt_or_gt_of_ne hx0 with h | h
      · have := Int.mul_le_mul_of_nonneg_left (show x ≤ -1 by omega) (show (0 : Int) ≤ p by omega)
        omega
      · have := Int.mul_le_mul_of_nonneg_left (show (1 : Int) ≤ x by omega) (show (0 : Int) ≤ p by omega)
        omega
    rw [this, Int.mul_zero] at hx
    exact y.2.1 hx
theorem inv_ex : ∀ p ∈ [2, 3, 5, 7], ∀ a ∈ [1, 2, 3, 4, 5, 6], a < p → ∃ b ∈ [1, 2, 3, 4, 5, 6], (a * b) % p = 1 := by decide
def srI (p a : Int) (b : Nat) : Nat → Int
  | 0 => 0
  | k + 1 => if (a * (b : Int)).tmod p = 1 then (b : Int) else srI p a (b + 1) k
def ivM (p a : Int) : Int := srI p a 1 6
theorem srI_ok {p a : Int} : ∀ (k b c : Nat), b ≤ c → c < b + k → (a * (c : Int)).tmod p = 1 → (b : Int) ≤ srI p a b k ∧ srI p a b k ≤ (c : Int) ∧ (a * srI p a b k).tmod p = 1
  | 0, b, c, h1, h2, _ => by omega
  | k + 1, b, c, h1, h2, h3 => by
    simp only [srI]
    split
    · rename_i h; exact ⟨by omega, by omega, h⟩
    · rename_i h
      have hbc : b ≠ c := fun e => h (by rw [e]; exact h3)
      have := srI_ok k (b + 1) c (by omega) (by omega) h3
      omega
theorem inv_has {p a : Int} (hp : primeB p = true) (h1 : 1 ≤ a) (h2 : a ≤ p - 1) : ∃ c : Nat, 1 ≤ c ∧ c ≤ 6 ∧ (a * (c : Int)).tmod p = 1 := by
  have hp : p = 2 ∨ p = 3 ∨ p = 5 ∨ p = 7 := of_decide_eq_true hp
  have m1 : p.toNat ∈ [2, 3, 5, 7] := by rcases hp with rfl | rfl | rfl | rfl <;> decide
  have m2 : a.toNat ∈ [1, 2, 3, 4, 5, 6] := by
    have : a.toNat = 1 ∨ a.toNat = 2 ∨ a.toNat = 3 ∨ a.toNat = 4 ∨ a.toNat = 5 ∨ a.toNat = 6 := by omega
    simpa using this
  obtain ⟨b, hb, e⟩ := inv_ex p.toNat m1 a.toNat m2 (by omega)
  have hb : b = 1 ∨ b = 2 ∨ b = 3 ∨ b = 4 ∨ b = 5 ∨ b = 6 := by simpa using hb
  refine ⟨b, by omega, by omega, ?_⟩
  have ea : a = (a.toNat : Int) := by omega
  have ep : p = (p.toNat : Int) := by omega
  rw [ea, ep, ← Int.natCast_mul, ← Int.ofNat_tmod, e]
  rfl
theorem ivM_ok {p a : Int} (hp : primeB p = true) (h1 : 1 ≤ a) (h2 : a ≤ p - 1) : 1 ≤ ivM p a ∧ ivM p a ≤ 6 ∧ (a * ivM p a).tmod p = 1 := by
  obtain ⟨c, c1, c2, c3⟩ := inv_has hp h1 h2
  have := srI_ok (p := p) (a := a) 6 1 c (by omega) (by omega) c3
  unfold ivM
  omega
def scF (p m : Int) (r : List Int) : List Int := tab r.length fun q => (r.getD q 0 * m).tmod p
theorem scF_get {p m : Int} {r : List Int} {q : Nat} (hq : q < r.length) : (scF p m r).getD q 0 = (r.getD q 0 * m).tmod p := by rw [scF, tab_getD _ _ _ hq]
structure Nrm (p : Int) (N : Nat) (r s : List Int) : Prop where
  row : rwP p N s
  one : s.getD (ldF r).toNat 0 = 1
  zer : ∀ q, q < N → r.getD q 0 = 0 → s.getD q 0 = 0
  mod : ∃ m : Int, ∀ q, q < N → p ∣ s.getD q 0 - m * r.getD q 0
  dom : ∃ m : Int, ∀ q, q < N → p ∣ r.getD q 0 - m * s.getD q 0
theorem scF_nrm {p : Int} (hp : primeB p = true) {N : Nat} {r : List Int} (hr : rwP p N r) (h : 0 ≤ ldF r) : Nrm p N r (scF p (ivM p (r.getD (ldF r).toNat 0)) r) := by
  obtain ⟨p2, p7⟩ := primeB_le hp
  obtain ⟨y1, y2, y3⟩ := ld_yes h
  have l1 := hr.1
  have a := hr.2 _ y1
  obtain ⟨i1, i2, i3⟩ := ivM_ok hp (a := r.getD (ldF r).toNat 0) (by omega) (by omega)
  generalize hm : ivM p (r.getD (ldF r).toNat 0) = m at *
  have sl : (scF p m r).length = r.length := tab_length _ _
  have md : ∀ q, q < N → p ∣ (scF p m r).getD q 0 - m * r.getD q 0 := fun q hq => by
    rw [scF_get (by omega), Int.mul_comm m]
    have := hr.2 q (by omega)
    exact tmod_dvd (Int.mul_nonneg this.1 (by omega)) (by omega)
  refine ⟨⟨by omega, fun q hq => ?_⟩, by rw [scF_get y1, i3], fun q hq hz => by rw [scF_get (by omega), hz]; simp, ⟨m, md⟩, ⟨r.getD (ldF r).toNat 0, fun q hq => ?_⟩⟩
  · rw [scF_get (by omega)]
    have := hr.2 q (by omega)
    exact tmod_in (Int.mul_nonneg this.1 (by omega)) (by omega)
  · -- r = (a m) r = a s
    obtain ⟨x, hx⟩ := md q hq
    have t := tmod_dvd (a := r.getD (ldF r).toNat 0 * m) (p := p) (Int.mul_nonneg a.1 (by omega)) (by omega)
    rw [i3] at t
    obtain ⟨y, hy⟩ := t
    refine ⟨y * r.getD q 0 - r.getD (ldF r).toNat 0 * x, ?_⟩
    generalize r.getD (ldF r).toNat 0 = A at *
    generalize r.getD q 0 = R at *
    generalize (scF p m r).getD q 0 = S at *
    have e1 : S = m * R + p * x := by omega
    have e2 : (1 - A * m) * R = p * (y * R) := by rw [hy, Int.mul_assoc]
    have e3 : p * (A * x) = A * (p * x) := by rw [← Int.mul_assoc, Int.mul_comm p A, Int.mul_assoc]
    rw [e1, Int.mul_add, Int.mul_sub, ← e2, e3, Int.sub_mul, Int.one_mul, Int.mul_assoc]
    omega
theorem nrm_neg {p : Int} (hp : primeB p = true) {N : Nat} {r : List Int} (hr : rwP p N r) (h : 0 ≤ ldF r) : stF p (p - (p - ivM p (r.getD (ldF r).toNat 0))) r (List.replicate r.length 0) = scF p (ivM p (r.getD (ldF r).toNat 0)) r := by
  unfold stF scF
  rw [List.length_replicate]
  refine tab_ext fun q hq => ?_
  rw [show (List.replicate r.length (0 : Int)).getD q 0 = 0 by simp [List.getD, hq]]
  rw [show p - (p - ivM p (r.getD (ldF r).toNat 0)) = ivM p (r.getD (ldF r).toNat 0) by omega, Int.zero_add, Int.mul_comm]
theorem bas_app {p : Int} {N : Nat} {B : List (List Int)} {P : Nat → Nat} (hB : Bas p N B P) {s : List Int} (hs : rwP p N s) {a : Nat} (ha : a < N) (h1 : s.getD a 0 = 1) (h2 : ∀ k, k < B.length → s.getD (P k) 0 = 0) {P' : Nat → Nat}
    (hP : ∀ k, k < B.length → P' k = P k) (hP2 : P' B.length = a) : Bas p N (B ++ [s]) P' := by
  have gl : ∀ k, k < B.length → (B ++ [s]).getD k [] = B.getD k [] := fun k hk => by simp [List.getD, List.getElem?_append_left hk]
  have gr : (B ++ [s]).getD B.length [] = s := by simp [List.getD]
  refine ⟨fun k hk => ?_, fun k hk => ?_, fun k hk => ?_, fun j k hkj hj => ?_⟩
  · simp at hk
    by_cases e : k = B.length
    · subst e; rw [gr]; exact hs
    · rw [gl k (by omega)]; exact hB.row k (by omega)
  · simp at hk
    by_cases e : k = B.length
    · subst e; rw [hP2]; exact ha
    · rw [hP k (by omega)]; exact hB.piv k (by omega)
  · simp at hk
    by_cases e : k = B.length
    · subst e; rw [at2_last, hP2]; exact h1
    · rw [at2_app B s (by omega), hP k (by omega)]; exact hB.one k (by omega)
  · simp at hj
    by_cases e : j = B.length
    · subst e; rw [at2_last, hP k hkj]; exact h2 k hkj
    · rw [at2_app B s (by omega), hP k (by omega)]; exact hB.tri j k hkj (by omega)
theorem span_step {p : Int} {N : Nat} {B R : List (List Int)} {P : Nat → Nat} (hp : 2 ≤ p) (hB : Bas p N B P) {r : List Int} (hr : rwP p N r) (he : ∀ v, SpP p N B v ↔ SpP p N R v) {s : List Int} (hs : Nrm p N (redN p B P r B.length) s) :
    ∀ v, SpP p N (B ++ [s]) v ↔ SpP p N (R ++ [r]) v := by
  obtain ⟨_, _, h3⟩ := red_ok hp hB hr B.length (Nat.le_refl _)
  obtain ⟨m, hm⟩ := hs.mod
  obtain ⟨d, hd⟩ := hs.dom
  have last : ∀ {A : List (List Int)} {x : List Int} {k : Nat}, k < (A ++ [x]).length → ¬ k < A.length → k = A.length := fun {A x k} h1 h2 => by simp at h1; omega
  intro v
  constructor
  · refine sp_sub fun k hk => ?_
    by_cases e : k < B.length
    · exact sp_congr (fun q _ => by rw [at2_app B s e, Int.sub_self]; exact Int.dvd_zero _) (sp_app r ((he _).1 (sp_mem e)))
    · have := last hk e
      subst this
      have h4 := sp_app r ((he _).1 h3)
      refine sp_congr (fun q hq => ?_) (sp_mul m (sp_add (sp_last R r) (sp_mul (-1) h4)))
      rw [at2_last, show r.getD q 0 + -1 * (r.getD q 0 - (redN p B P r B.length).getD q 0) = (redN p B P r B.length).getD q 0 by omega]
      exact hm q hq
  · refine sp_sub fun k hk => ?_
    by_cases e : k < R.length
    · exact sp_congr (fun q _ => by rw [at2_app R r e, Int.sub_self]; exact Int.dvd_zero _) (sp_app s ((he _).2 (sp_mem e)))
    · have := last hk e
      subst this
      refine sp_congr (fun q hq => ?_) (sp_add (sp_app s h3) (sp_mul d (sp_last B s)))
      rw [at2_last, show r.getD q 0 - (r.getD q 0 - (redN p B P r B.length).getD q 0 + d * s.getD q 0) = (redN p B P r B.length).getD q 0 - d * s.getD q 0 by omega]
      exact hd q hq
theorem span_skip {p : Int} {N : Nat} {B R : List (List Int)} {r : List Int} (he : ∀ v, SpP p N B v ↔ SpP p N R v) (hr : SpP p N B (fun q => r.getD q 0)) : ∀ v, SpP p N B v ↔ SpP p N (R ++ [r]) v := by
  intro v
  constructor
  · intro h; exact sp_app r ((he v).1 h)
  · refine sp_sub fun k hk => ?_
    by_cases e : k < R.length
    · exact sp_congr (fun q _ => by rw [at2_app R r e, Int.sub_self]; exact Int.dvd_zero _) ((he _).2 (sp_mem e))
    · have : k = R.length := by simp at hk; omega
      subst this
      exact sp_congr (fun q _ => by rw [at2_last, Int.sub_self]; exact Int.dvd_zero _) hr
def pvN (P : List Int) (k : Nat) : Nat := (P.getD k 0).toNat
def spN (p : Int) (R : List (List Int)) : Nat → List (List Int) × List Int
  | 0 => ([], [])
  | i + 1 => let s := spN p R i; let r := redN p s.1 (pvN s.2) (R.getD i []) s.1.length
    if 0 ≤ ldF r then (s.1 ++ [stF p (p - (p - ivM p (r.getD (ldF r).toNat 0))) r (List.replicate r.length 0)], s.2 ++ [ldF r]) else s
def ldN (B : List (List Int)) (k : Nat) : Nat := (ldF (B.getD k [])).toNat
def upR (p : Int) (s : List Int) (a : Nat) (b : List Int) : List Int := if b.getD a 0 ≠ 0 then stF p (p - b.getD a 0) s b else b
def imN (p : Int) (R : List (List Int)) : Nat → List (List Int)
  | 0 => []
  | i + 1 => let B := imN p R i; let r := redN p B (ldN B) (R.getD i []) B.length
    if ldF r < 0 then B else (B.map (upR p (scF p (ivM p (r.getD (ldF r).toNat 0)) r) (ldF r).toNat)) ++ [scF p (ivM p (r.getD (ldF r).toNat 0)) r]
def rwsP (p : Int) (N : Nat) (R : List (List Int)) : Prop := ∀ i, i < R.length → rwP p N (R.getD i [])
theorem take_row (R : List (List Int)) {i : Nat} (h : i < R.length) : R.take (i + 1) = R.take i ++ [R.getD i []] := by
  rw [List.take_succ_eq_append_getElem h]
  simp [List.getD, h]
theorem spN_ok {p : Int} (hp : primeB p = true) {N : Nat} {R : List (List Int)} (hR : rwsP p N R) : ∀ i, i ≤ R.length →
    (spN p R i).2.length = (spN p R i).1.length ∧ (∀ k, k < (spN p R i).2.length → 0 ≤ (spN p R i).2.getD k 0) ∧ Bas p N (spN p R i).1 (pvN (spN p R i).2) ∧ ∀ v, SpP p N (spN p R i).1 v ↔ SpP p N (R.take i) v
  | 0, _ => ⟨rfl, fun k hk => by simp [spN] at hk, ⟨fun k hk => by simp [spN] at hk, fun k hk => by simp [spN] at hk, fun k hk => by simp [spN] at hk, fun j k _ hj => by simp [spN] at hj⟩, fun v => Iff.rfl⟩
  | i + 1, hi => by
    obtain ⟨p2, p7⟩ := primeB_le hp
    obtain ⟨h1, h0, h2, h3⟩ := spN_ok hp hR i (by omega)
    have hr := hR i (by omega)
    obtain ⟨r1, r2, r3⟩ := red_ok p2 h2 hr (spN p R i).1.length (Nat.le_refl _)
    have rz := red_zero p2 h2 hr
    rw [take_row R (by omega)]
    simp only [spN]
    generalize hB : (spN p R i).1 = B at *
    generalize hP : (spN p R i).2 = P at *
    generalize hrr : redN p B (pvN P) (R.getD i []) B.length = r at *
    by_cases h : 0 ≤ ldF r
    · rw [if_pos h]
      have n := scF_nrm hp r1 h
      have y := ld_yes h
      have l1 := r1.1
      rw [nrm_neg hp r1 h]
      refine ⟨by simp [h1], fun k hk => ?_, ?_, ?_⟩
      · by_cases e : k < P.length
        · rw [show (P ++ [ldF r]).getD k 0 = P.getD k 0 by simp [List.getD, List.getElem?_append_left e]]
          exact h0 k e
        · have : k = P.length := by simp at hk; omega
          subst this
          rw [show (P ++ [ldF r]).getD P.length 0 = ldF r by simp [List.getD]]
          exact h
      · refine bas_app h2 n.row (a := (ldF r).toNat) (by omega) n.one (fun k hk => n.zer _ (h2.piv k hk) (r2 k hk)) (fun k hk => ?_) ?_
        · unfold pvN
          rw [show (P ++ [ldF r]).getD k 0 = P.getD k 0 by simp [List.getD, List.getElem?_append_left (show k < P.length by omega)]]
        · unfold pvN
          rw [← h1, show (P ++ [ldF r]).getD P.length 0 = ldF r by simp [List.getD]]
      · exact span_step p2 h2 hr h3 (by rw [hrr]; exact n)
    · rw [if_neg h]
      simp only [hB, hP]
      exact ⟨h1, h0, h2, span_skip h3 (rz.1 (by omega))⟩
structure Full (p : Int) (N : Nat) (B : List (List Int)) : Prop where
  bas : Bas p N B (ldN B)
  all : ∀ j k, j ≠ k → j < B.length → k < B.length → at2 B j (ldN B k) = 0
  nn : ∀ k, k < B.length → 0 ≤ ldF (B.getD k [])
theorem map_get (B : List (List Int)) (f : List Int → List Int) {k : Nat} (h : k < B.length) : (B.map f).getD k [] = f (B.getD k []) := by
  simp [List.getD, h]
theorem snoc_get (A : List (List Int)) (x : List Int) {k : Nat} (h : k < A.length) : (A ++ [x]).getD k [] = A.getD k [] := by
  simp [List.getD, List.getElem?_append_left h]
theorem imN_ok {p : Int} (hp : primeB p = true) {N : Nat} {R : List (List Int)} (hR : rwsP p N R) : ∀ i, i ≤ R.length → Full p N (imN p R i) ∧ ∀ v, SpP p N (imN p R i) v ↔ SpP p N (R.take i) v
  | 0, _ => ⟨⟨⟨fun k hk => by simp [imN] at hk, fun k hk => by simp [imN] at hk, fun k hk => by simp [imN] at hk, fun j k _ hj => by simp [imN] at hj⟩, fun j k _ hj => by simp [imN] at hj, fun k hk => by simp [imN] at hk⟩, fun v => Iff.rfl⟩
  | i + 1, hi => by
    obtain ⟨p2, p7⟩ := primeB_le hp
    obtain ⟨h2, h3⟩ := imN_ok hp hR i (by omega)
    have hr := hR i (by omega)
    obtain ⟨r1, r2, r3⟩ := red_ok p2 h2.bas hr (imN p R i).length (Nat.le_refl _)
    have rz := red_zero p2 h2.bas hr
    rw [take_row R (by omega)]
    simp only [imN]
    generalize hB : imN p R i = B at *
    generalize hrr : redN p B (ldN B) (R.getD i []) B.length = r at *
    by_cases h : ldF r < 0
    · rw [if_pos h]
      exact ⟨h2, span_skip h3 (rz.1 h)⟩
    · rw [if_neg h]
      have h : 0 ≤ ldF r := by omega
      have n := scF_nrm hp r1 h
      have y := ld_yes h
      have l1 := r1.1
      generalize hs : scF p (ivM p (r.getD (ldF r).toNat 0)) r = s at *
      generalize ha : (ldF r).toNat = a at *
      have aN : a < N := by omega
      have n1 : s.getD a 0 = 1 := by have := n.one; rwa [ha] at this
      have s0 : ∀ k, k < B.length → s.getD (ldN B k) 0 = 0 := fun k hk => n.zer _ (h2.bas.piv k hk) (r2 k hk)
      have sz : ∀ q, q < a → s.getD q 0 = 0 := fun q hq => n.zer q (by omega) (y.2.2 q hq)
      have up : ∀ k, k < B.length → rwP p N (upR p s a (B.getD k [])) ∧ (upR p s a (B.getD k [])).getD a 0 = 0 ∧ (∀ q, q < N → s.getD q 0 = 0 → (upR p s a (B.getD k [])).getD q 0 = (B.getD k []).getD q 0) ∧
          ∃ c : Int, ∀ q, q < N → p ∣ (upR p s a (B.getD k [])).getD q 0 - ((B.getD k []).getD q 0 + c * s.getD q 0) := fun k hk => by
        have hb := h2.bas.row k hk
        have bl := hb.1
        have c := hb.2 a (by omega)
        unfold upR
        by_cases h0 : (B.getD k []).getD a 0 ≠ 0
        · rw [if_pos h0]
          refine ⟨stF_rw (by omega) (by omega) n.row hb, ?_, fun q hq hz => ?_, p - (B.getD k []).getD a 0, fun q hq => stF_mod (by omega) (by omega) n.row hb hq⟩
          · rw [stF_get (by omega), n1, show (B.getD k []).getD a 0 + (p - (B.getD k []).getD a 0) * 1 = p by omega, Int.tmod_self]
          · have cq := hb.2 q (by omega)
            rw [stF_get (by omega), hz, Int.mul_zero, Int.add_zero]
            exact Int.tmod_eq_of_lt cq.1 (by omega)
        · rw [if_neg h0]
          exact ⟨hb, by omega, fun q _ _ => rfl, 0, fun q _ => by rw [Int.zero_mul, Int.add_zero, Int.sub_self]; exact Int.dvd_zero _⟩
      have ml : (B.map (upR p s a)).length = B.length := by simp
      have mg : ∀ k, k < B.length → (B.map (upR p s a)).getD k [] = upR p s a (B.getD k []) := fun k hk => map_get B _ hk
      have lead : ∀ k, k < B.length → ldF (upR p s a (B.getD k [])) = ldF (B.getD k []) := fun k hk => by
        have nn := h2.nn k hk
        have yb := ld_yes nn
        have u := up k hk
        have pk := h2.bas.piv k hk
        have z := s0 k hk
        unfold ldN at pk z
        have e : ldF (B.getD k []) = ((ldF (B.getD k [])).toNat : Int) := by omega
        rw [e]
        refine ld_is (by rw [u.2.2.1 _ pk z]; exact yb.2.1) fun q hq => ?_
        by_cases hz : s.getD q 0 = 0
        · rw [u.2.2.1 q (by omega) hz]; exact yb.2.2 q hq
        · -- then q is not before a, the row is 0 at a, and nothing changes
          have : ¬ q < a := fun c => hz (sz q c)
          have ba : (B.getD k []).getD a 0 = 0 := yb.2.2 a (by omega)
          unfold upR
          rw [if_neg (by omega)]
          exact yb.2.2 q hq
      have lds : ldF s = (a : Int) := ld_is (by rw [n1]; omega) sz
      have pl : ∀ k, k < B.length → ldN (B.map (upR p s a) ++ [s]) k = ldN B k := fun k hk => by
        unfold ldN
        rw [snoc_get _ _ (by omega), mg k hk, lead k hk]
      have pl2 : ldN (B.map (upR p s a) ++ [s]) (B.map (upR p s a)).length = a := by
        unfold ldN
        rw [show (B.map (upR p s a) ++ [s]).getD (B.map (upR p s a)).length [] = s by simp [List.getD], lds]; rfl
      have a2 : ∀ k q, k < B.length → at2 (B.map (upR p s a)) k q = (upR p s a (B.getD k [])).getD q 0 := fun k q hk => by unfold at2; rw [mg k hk]
      have zz : ∀ j k, j < B.length → k < B.length → at2 (B.map (upR p s a)) j (ldN B k) = at2 B j (ldN B k) := fun j k hj hk => by
        rw [a2 j _ hj, (up j hj).2.2.1 _ (h2.bas.piv k hk) (s0 k hk)]; rfl
      have hB2 : Bas p N (B.map (upR p s a)) (ldN B) := ⟨fun k hk => by rw [ml] at hk; rw [mg k hk]; exact (up k hk).1, fun k hk => by rw [ml] at hk; exact h2.bas.piv k hk, fun k hk => by rw [ml] at hk; rw [zz k k hk hk]; exact h2.bas.one k hk, fun j k hkj hj => by rw [ml] at hj; rw [zz j k hj (by omega)]; exact h2.bas.tri j k hkj hj⟩
      have bas := bas_app hB2 n.row aN n1 (fun k hk => s0 k (by omega)) (P' := ldN (B.map (upR p s a) ++ [s])) (fun k hk => pl k (by omega)) pl2
      refine ⟨⟨bas, fun j k hjk hj hk => ?_, fun k hk => ?_⟩, fun v => ?_⟩
      · simp only [List.length_append, List.length_map, List.length_cons, List.length_nil] at hj hk
        by_cases e1 : j = B.length
        · have hk2 : k < B.length := by omega
          rw [pl k hk2, e1, ← ml, at2_last]
          exact s0 k hk2
        · have hj2 : j < B.length := by omega
          rw [at2_app _ _ (by omega)]
          by_cases e2 : k = B.length
          · rw [e2, ← ml, pl2, a2 j _ hj2]
            exact (up j hj2).2.1
          · have hk2 : k < B.length := by omega
            rw [pl k hk2, zz j k hj2 hk2]
            exact h2.all j k hjk hj2 hk2
      · simp only [List.length_append, List.length_map, List.length_cons, List.length_nil] at hk
        by_cases e2 : k = B.length
        · rw [e2, ← ml, show (B.map (upR p s a) ++ [s]).getD (B.map (upR p s a)).length [] = s by simp [List.getD], lds]; omega
        · have hk2 : k < B.length := by omega
          rw [snoc_get _ _ (by omega), mg k hk2, lead k hk2]
          exact h2.nn k hk2
      · -- the same span
        have e1 := span_step p2 h2.bas hr h3 (s := s) (by rw [hrr]; exact n)
        rw [← e1 v]
        constructor
        · refine sp_sub fun k hk => ?_
          simp only [List.length_append, List.length_map, List.length_cons, List.length_nil] at hk
          by_cases e2 : k = B.length
          · refine sp_congr (fun q _ => ?_) (sp_last B s)
            rw [e2, ← ml, at2_last, Int.sub_self]; exact Int.dvd_zero _
          · have hk2 : k < B.length := by omega
            obtain ⟨c, hc⟩ := (up k hk2).2.2.2
            refine sp_congr (fun q hq => ?_) (sp_add (sp_app s (sp_mem hk2)) (sp_mul c (sp_last B s)))
            rw [at2_app _ _ (by omega), a2 k q hk2]
            exact hc q hq
        · refine sp_sub fun k hk => ?_
          simp only [List.length_append, List.length_cons, List.length_nil] at hk
          by_cases e2 : k = B.length
          · refine sp_congr (fun q _ => ?_) (sp_last (B.map (upR p s a)) s)
            rw [e2, at2_last, Int.sub_self]; exact Int.dvd_zero _
          · have hk2 : k < B.length := by omega
            obtain ⟨c, hc⟩ := (up k hk2).2.2.2
            refine sp_congr (fun q hq => ?_) (sp_add (sp_app s (sp_mem (B := B.map (upR p s a)) (i := k) (by omega))) (sp_mul (-c) (sp_last (B.map (upR p s a)) s)))
            obtain ⟨x, hx⟩ := hc q hq
            refine ⟨-x, ?_⟩
            rw [at2_app _ _ hk2, a2 k q hk2, Int.mul_neg, ← hx, Int.neg_mul]
            unfold at2
            omega
theorem rank_eq {p : Int} (hp : primeB p = true) {N : Nat} {R : List (List Int)} (hR : rwsP p N R) : ∀ i, i ≤ R.length → (spN p R i).1.length = (imN p R i).length
  | 0, _ => rfl
  | i + 1, hi => by
    obtain ⟨p2, p7⟩ := primeB_le hp
    have ih := rank_eq hp hR i (by omega)
    obtain ⟨_, _, a2, a3⟩ := spN_ok hp hR i (by omega)
    obtain ⟨b2, b3⟩ := imN_ok hp hR i (by omega)
    have hr := hR i (by omega)
    have az := red_zero p2 a2 hr
    have bz := red_zero p2 b2.bas hr
    have e : ldF (redN p (spN p R i).1 (pvN (spN p R i).2) (R.getD i []) (spN p R i).1.length) < 0 ↔ ldF (redN p (imN p R i) (ldN (imN p R i)) (R.getD i []) (imN p R i).length) < 0 := by
      rw [az, bz, a3, b3]
    simp only [spN, imN]
    by_cases h : ldF (redN p (imN p R i) (ldN (imN p R i)) (R.getD i []) (imN p R i).length) < 0
    · rw [if_pos h, if_neg (by have := e.2 h; omega)]
      exact ih
    · rw [if_neg h, if_pos (by have := fun c => h (e.1 c); omega)]
      simp [ih]
end Go.Sx
