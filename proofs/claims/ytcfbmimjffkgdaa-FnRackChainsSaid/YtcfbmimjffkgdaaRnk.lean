/- Rnk -/
import Derived.Test.YtcfbmimjffkgdaaBndC
open Go Go.Proofs
namespace Go.Sx
set_option linter.unusedVariables false

def sm (f : Nat → Int) : Nat → Int
  | 0 => 0
  | k + 1 => sm f k + f k

theorem sm_add (f g : Nat → Int) : ∀ n, sm (fun k => f k + g k) n = sm f n + sm g n
  | 0 => rfl
  | n + 1 => by simp only [sm, sm_add f g n]; omega

theorem sm_mul (a : Int) (f : Nat → Int) : ∀ n, sm (fun k => a * f k) n = a * sm f n
  | 0 => by simp [sm]
  | n + 1 => by simp only [sm, sm_mul a f n, Int.mul_add]

theorem sm_mod {p : Int} (f g : Nat → Int) : ∀ n, (∀ k, k < n → p ∣ f k - g k) → p ∣ sm f n - sm g n
  | 0, _ => by simp [sm]
  | n + 1, h => by
    have a := sm_mod f g n fun k hk => h k (by omega)
    have b := h n (by omega)
    have : sm f (n + 1) - sm g (n + 1) = (sm f n - sm g n) + (f n - g n) := by simp only [sm]; omega
    rw [this]
    exact Int.dvd_add a b

theorem sm_delta (i : Nat) (x : Int) : ∀ n, sm (fun k => if k = i then x else 0) n = if i < n then x else 0
  | 0 => rfl
  | n + 1 => by
    simp only [sm, sm_delta i x n]
    by_cases h1 : i < n
    · rw [if_pos h1, if_neg (by omega), if_pos (by omega)]; omega
    · by_cases h2 : n = i
      · rw [if_neg h1, if_pos h2, if_pos (by omega)]; omega
      · rw [if_neg h1, if_neg h2, if_neg (by omega)]; omega

theorem sm_ext {f g : Nat → Int} : ∀ {n}, (∀ k, k < n → f k = g k) → sm f n = sm g n
  | 0, _ => rfl
  | n + 1, h => by simp only [sm]; rw [sm_ext fun k hk => h k (by omega), h n (by omega)]

/-- Entry q of row k. -/
def at2 (B : List (List Int)) (k q : Nat) : Int := (B.getD k []).getD q 0

/-- v is, modulo p, a combination of the rows. -/
def SpP (p : Int) (N : Nat) (B : List (List Int)) (v : Nat → Int) : Prop := ∃ c : Nat → Int, ∀ q, q < N → p ∣ v q - sm (fun k => c k * at2 B k q) B.length

section
variable {p : Int} {N : Nat} {B B' : List (List Int)} {v w : Nat → Int}

theorem sp_congr (h : ∀ q, q < N → p ∣ w q - v q) (hv : SpP p N B v) : SpP p N B w := by
  obtain ⟨c, hc⟩ := hv
  refine ⟨c, fun q hq => ?_⟩
  have := Int.dvd_add (h q hq) (hc q hq)
  rwa [show w q - v q + (v q - sm (fun k => c k * at2 B k q) B.length) = w q - sm (fun k => c k * at2 B k q) B.length by omega] at this

theorem sp_zero (h : ∀ q, q < N → p ∣ v q) : SpP p N B v := by
  refine ⟨fun _ => 0, fun q hq => ?_⟩
  have e : sm (fun k => (0 : Int) * at2 B k q) B.length = 0 := by rw [sm_mul]; simp
  rw [e, Int.sub_zero]
  exact h q hq

theorem sp_add (hv : SpP p N B v) (hw : SpP p N B w) : SpP p N B (fun q => v q + w q) := by
  obtain ⟨c, hc⟩ := hv
  obtain ⟨d, hd⟩ := hw
  refine ⟨fun k => c k + d k, fun q hq => ?_⟩
  have e : sm (fun k => (c k + d k) * at2 B k q) B.length = sm (fun k => c k * at2 B k q) B.length + sm (fun k => d k * at2 B k q) B.length := by
    rw [← sm_add]
    exact sm_ext fun k _ => Int.add_mul _ _ _
  have := Int.dvd_add (hc q hq) (hd q hq)
  rw [e]
  rwa [show v q - sm (fun k => c k * at2 B k q) B.length + (w q - sm (fun k => d k * at2 B k q) B.length) = v q + w q - (sm (fun k => c k * at2 B k q) B.length + sm (fun k => d k * at2 B k q) B.length) by omega] at this

theorem sp_mul (a : Int) (hv : SpP p N B v) : SpP p N B (fun q => a * v q) := by
  obtain ⟨c, hc⟩ := hv
  refine ⟨fun k => a * c k, fun q hq => ?_⟩
  have e : sm (fun k => a * c k * at2 B k q) B.length = a * sm (fun k => c k * at2 B k q) B.length := by
    rw [← sm_mul]
    exact sm_ext fun k _ => Int.mul_assoc _ _ _
  rw [e, ← Int.mul_sub]
  exact Int.dvd_mul_of_dvd_right (hc q hq) 

theorem sp_mem {i : Nat} (hi : i < B.length) : SpP p N B (at2 B i) := by
  refine ⟨fun k => if k = i then 1 else 0, fun q hq => ?_⟩
  have e : sm (fun k => (if k = i then 1 else 0) * at2 B k q) B.length = at2 B i q := by
    rw [sm_ext (g := fun k => if k = i then at2 B i q else 0) fun k _ => by
      by_cases h : k = i
      · subst h; simp
      · simp [h], sm_delta, if_pos hi]
  rw [e, Int.sub_self]
  exact Int.dvd_zero _

theorem sp_sub (h : ∀ k, k < B.length → SpP p N B' (at2 B k)) (hv : SpP p N B v) : SpP p N B' v := by
  obtain ⟨c, hc⟩ := hv
  have : ∀ n, n ≤ B.length → SpP p N B' (fun q => sm (fun k => c k * at2 B k q) n) := fun n => by
    induction n with
    | zero => intro _; exact sp_zero fun q _ => Int.dvd_zero _
    | succ n ih => intro hn; exact sp_add (ih (by omega)) (sp_mul (c n) (h n (by omega)))
  exact sp_congr hc (this B.length (Nat.le_refl _))

end

/-- The first place with a number other than 0, from k on; -1 if there is none. -/
def fs0 : List Int → Int → Int
  | [], _ => -1
  | x :: l, k => if x ≠ 0 then k else fs0 l (k + 1)
def ldF (l : List Int) : Int := fs0 l 0

theorem fs0_facts : ∀ (l : List Int) (k : Int), 0 ≤ k → (fs0 l k = -1 ∧ ∀ i, l.getD i 0 = 0) ∨ (k ≤ fs0 l k ∧ fs0 l k < k + (l.length : Int) ∧ l.getD (fs0 l k - k).toNat 0 ≠ 0 ∧ ∀ i : Nat, (i : Int) < fs0 l k - k → l.getD i 0 = 0)
  | [], k, hk => .inl ⟨rfl, fun i => by simp⟩
  | x :: l, k, hk => by
    simp only [fs0]
    by_cases hx : x ≠ 0
    · rw [if_pos hx]
      refine .inr ⟨by omega, by simp; omega, by simpa using hx, fun i hi => by omega⟩
    · rw [if_neg hx]
      have hx : x = 0 := by omega
      rcases fs0_facts l (k + 1) (by omega) with ⟨h1, h2⟩ | ⟨h1, h2, h3, h4⟩
      · refine .inl ⟨h1, fun i => ?_⟩
        cases i with
        | zero => simpa using hx
        | succ i => simpa using h2 i
      · refine .inr ⟨by omega, by simp; omega, ?_, fun i hi => ?_⟩
        · rw [show (fs0 l (k + 1) - k).toNat = (fs0 l (k + 1) - (k + 1)).toNat + 1 by omega]
          simpa using h3
        · cases i with
          | zero => simpa using hx
          | succ i => simpa using h4 i (by omega)

theorem ld_yes {l : List Int} (h : 0 ≤ ldF l) : (ldF l).toNat < l.length ∧ l.getD (ldF l).toNat 0 ≠ 0 ∧ ∀ i, i < (ldF l).toNat → l.getD i 0 = 0 := by
  unfold ldF at *
  rcases fs0_facts l 0 (by omega) with ⟨h1, _⟩ | ⟨h1, h2, h3, h4⟩
  · omega
  · rw [Int.sub_zero] at h3
    exact ⟨by omega, h3, fun i hi => h4 i (by omega)⟩
theorem ld_is {l : List Int} {a : Nat} (h1 : l.getD a 0 ≠ 0) (h2 : ∀ i, i < a → l.getD i 0 = 0) : ldF l = (a : Int) := by
  unfold ldF
  rcases fs0_facts l 0 (by omega) with ⟨_, h3⟩ | ⟨h3, h4, h5, h6⟩
  · exact absurd (h3 a) h1
  · rw [Int.sub_zero] at h5 h6
    by_cases c1 : fs0 l 0 < (a : Int)
    · exact absurd (h2 (fs0 l 0).toNat (by omega)) h5
    · by_cases c2 : (a : Int) < fs0 l 0
      · exact absurd (h6 a c2) h1
      · omega

/-- A row with N numbers below p. -/
def rwP (p : Int) (N : Nat) (r : List Int) : Prop := r.length = N ∧ inP p r

theorem stF_rw {p t : Int} {N : Nat} (hp : 1 ≤ p) (ht : 0 ≤ t) {b r : List Int} (hb : rwP p N b) (hr : rwP p N r) : rwP p N (stF p t b r) :=
  ⟨by rw [stF_length]; exact hr.1, stF_in hp ht (by rw [hb.1, hr.1]) hb.2 hr.2⟩

theorem stF_get {p t : Int} {b r : List Int} {q : Nat} (hq : q < r.length) : (stF p t b r).getD q 0 = (r.getD q 0 + t * b.getD q 0).tmod p := by
  rw [stF, tab_getD _ _ _ hq]

theorem stF_mod {p t : Int} {N : Nat} (hp : 1 ≤ p) (ht : 0 ≤ t) {b r : List Int} (hb : rwP p N b) (hr : rwP p N r) {q : Nat} (hq : q < N) : p ∣ (stF p t b r).getD q 0 - (r.getD q 0 + t * b.getD q 0) := by
  have h1 := hr.1
  have h2 := hb.1
  rw [stF_get (by omega)]
  have a := hr.2 q (by omega)
  have c := hb.2 q (by omega)
  have := Int.mul_nonneg ht c.1
  exact tmod_dvd (by omega) hp

structure Bas (p : Int) (N : Nat) (B : List (List Int)) (P : Nat → Nat) : Prop where
  row : ∀ k, k < B.length → rwP p N (B.getD k [])
  piv : ∀ k, k < B.length → P k < N
  one : ∀ k, k < B.length → at2 B k (P k) = 1
  tri : ∀ j k, k < j → j < B.length → at2 B j (P k) = 0

theorem inv_ex : ∀ p ∈ [2, 3, 5, 7], ∀ a ∈ [1, 2, 3, 4, 5, 6], a < p → ∃ b ∈ [1, 2, 3, 4, 5, 6], (a * b) % p = 1 := by decide

/-- The first number from b on that times a leaves 1. -/
def srI (p a : Int) (b : Nat) : Nat → Int
  | 0 => 0
  | k + 1 => if (a * (b : Int)).tmod p = 1 then (b : Int) else srI p a (b + 1) k
/-- The inverse modulo p. -/
def ivM (p a : Int) : Int := srI p a 1 6

theorem srI_ok {p a : Int} : ∀ (k b c : Nat), b ≤ c → c < b + k → (a * (c : Int)).tmod p = 1 → (b : Int) ≤ srI p a b k ∧ srI p a b k ≤ (c : Int) ∧ (a * srI p a b k).tmod p = 1
  | 0, b, c, h1, h2, _ => by omega
  | k + 1, b, c, h1, h2, h3 => by
    simp only [srI]
    split
    · rename_i h; exact ⟨by omega, by omega, h⟩
    · rename_i h
      have hbc : b ≠ c := fun e => h (by rw [e]; exact h3)
      have := srI_ok k (b + 1) c (by omega) (by omega) h3
      omega

theorem inv_has {p a : Int} (hp : primeB p = true) (h1 : 1 ≤ a) (h2 : a ≤ p - 1) : ∃ c : Nat, 1 ≤ c ∧ c ≤ 6 ∧ (a * (c : Int)).tmod p = 1 := by
  have hp : p = 2 ∨ p = 3 ∨ p = 5 ∨ p = 7 := of_decide_eq_true hp
  have m1 : p.toNat ∈ [2, 3, 5, 7] := by rcases hp with rfl | rfl | rfl | rfl <;> decide
  have m2 : a.toNat ∈ [1, 2, 3, 4, 5, 6] := by
    have : a.toNat = 1 ∨ a.toNat = 2 ∨ a.toNat = 3 ∨ a.toNat = 4 ∨ a.toNat = 5 ∨ a.toNat = 6 := by omega
    simpa using this
  obtain ⟨b, hb, e⟩ := inv_ex p.toNat m1 a.toNat m2 (by omega)
  have hb : b = 1 ∨ b = 2 ∨ b = 3 ∨ b = 4 ∨ b = 5 ∨ b = 6 := by simpa using hb
  refine ⟨b, by omega, by omega, ?_⟩
  have ea : a = (a.toNat : Int) := by omega
  have ep : p = (p.toNat : Int) := by omega
  rw [ea, ep, ← Int.natCast_mul, ← Int.ofNat_tmod, e]
  rfl

theorem ivM_ok {p a : Int} (hp : primeB p = true) (h1 : 1 ≤ a) (h2 : a ≤ p - 1) : 1 ≤ ivM p a ∧ ivM p a ≤ 6 ∧ (a * ivM p a).tmod p = 1 := by
  obtain ⟨c, c1, c2, c3⟩ := inv_has hp h1 h2
  have := srI_ok (p := p) (a := a) 6 1 c (by omega) (by omega) c3
  unfold ivM
  omega

/-- A row times a number. -/
def scF (p m : Int) (r : List Int) : List Int := tab r.length fun q => (r.getD q 0 * m).tmod p

theorem scF_get {p m : Int} {r : List Int} {q : Nat} (hq : q < r.length) : (scF p m r).getD q 0 = (r.getD q 0 * m).tmod p := by rw [scF, tab_getD _ _ _ hq]

/-- s is row r times an inverse of its first number. -/
structure Nrm (p : Int) (N : Nat) (r s : List Int) : Prop where
  row : rwP p N s
  one : s.getD (ldF r).toNat 0 = 1
  zer : ∀ q, q < N → r.getD q 0 = 0 → s.getD q 0 = 0
  mod : ∃ m : Int, ∀ q, q < N → p ∣ s.getD q 0 - m * r.getD q 0
  dom : ∃ m : Int, ∀ q, q < N → p ∣ r.getD q 0 - m * s.getD q 0

theorem scF_nrm {p : Int} (hp : primeB p = true) {N : Nat} {r : List Int} (hr : rwP p N r) (h : 0 ≤ ldF r) : Nrm p N r (scF p (ivM p (r.getD (ldF r).toNat 0)) r) := by
  obtain ⟨p2, p7⟩ := primeB_le hp
  obtain ⟨y1, y2, y3⟩ := ld_yes h
  have l1 := hr.1
  have a := hr.2 _ y1
  obtain ⟨i1, i2, i3⟩ := ivM_ok hp (a := r.getD (ldF r).toNat 0) (by omega) (by omega)
  generalize hm : ivM p (r.getD (ldF r).toNat 0) = m at *
  have sl : (scF p m r).length = r.length := tab_length _ _
  have md : ∀ q, q < N → p ∣ (scF p m r).getD q 0 - m * r.getD q 0 := fun q hq => by
    rw [scF_get (by omega), Int.mul_comm m]
    have := hr.2 q (by omega)
    exact tmod_dvd (Int.mul_nonneg this.1 (by omega)) (by omega)
  refine ⟨⟨by omega, fun q hq => ?_⟩, by rw [scF_get y1, i3], fun q hq hz => by rw [scF_get (by omega), hz]; simp, ⟨m, md⟩, ⟨r.getD (ldF r).toNat 0, fun q hq => ?_⟩⟩
  · rw [scF_get (by omega)]
    have := hr.2 q (by omega)
    exact tmod_in (Int.mul_nonneg this.1 (by omega)) (by omega)
  · -- r = (a m) r = a s
    obtain ⟨x, hx⟩ := md q hq
    have t := tmod_dvd (a := r.getD (ldF r).toNat 0 * m) (p := p) (Int.mul_nonneg a.1 (by omega)) (by omega)
    rw [i3] at t
    obtain ⟨y, hy⟩ := t
    refine ⟨y * r.getD q 0 - r.getD (ldF r).toNat 0 * x, ?_⟩
    generalize r.getD (ldF r).toNat 0 = A at *
    generalize r.getD q 0 = R at *
    generalize (scF p m r).getD q 0 = S at *
    have e1 : S = m * R + p * x := by omega
    have e2 : (1 - A * m) * R = p * (y * R) := by rw [hy, Int.mul_assoc]
    have e3 : p * (A * x) = A * (p * x) := by rw [← Int.mul_assoc, Int.mul_comm p A, Int.mul_assoc]
    rw [e1, Int.mul_add, Int.mul_sub, ← e2, e3, Int.sub_mul, Int.one_mul, Int.mul_assoc]
    omega

/-- The program's basis after i rows. -/
def ldN (B : List (List Int)) (k : Nat) : Nat := (ldF (B.getD k [])).toNat
def upR (p : Int) (s : List Int) (a : Nat) (b : List Int) : List Int := if b.getD a 0 ≠ 0 then stF p (p - b.getD a 0) s b else b
/-- Rows of N numbers below p. -/
def rwsP (p : Int) (N : Nat) (R : List (List Int)) : Prop := ∀ i, i < R.length → rwP p N (R.getD i [])

/-- A fully reduced basis. -/
structure Full (p : Int) (N : Nat) (B : List (List Int)) : Prop where
  bas : Bas p N B (ldN B)
  all : ∀ j k, j ≠ k → j < B.length → k < B.length → at2 B j (ldN B k) = 0
  nn : ∀ k, k < B.length → 0 ≤ ldF (B.getD k [])

end Go.Sx
