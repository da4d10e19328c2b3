/- BetP -/
import Derived.Test.YtbppifmljnnogaaGreatRchP
import Derived.Test.YtbppifmljnnogaaGreatRnkL
open Go Go.Proofs
namespace Go.Sx
set_option linter.unusedSimpArgs false
set_option linter.unusedVariables false
def rkN (p : Int) (R : List (List Int)) : Nat := (imN p R R.length).length
theorem rk_same {p : Int} (hp : primeB p = true) {N : Nat} {R R' : List (List Int)} (hR : rwsP p N R) (hR' : rwsP p N R') (he : ∀ v, SpP p N R v ↔ SpP p N R' v) : rkN p R = rkN p R' := by
  obtain ⟨p2, _⟩ := primeB_le hp
  obtain ⟨a, b⟩ := red_rref hp hR
  obtain ⟨c, d⟩ := red_rref hp hR'
  have e := congrArg List.length (a.uniq c p2 fun v => (b v).trans ((he v).trans (d v).symm))
  rwa [srtL_len, srtL_len] at e
theorem imN_pre (p : Int) {R S : List (List Int)} : ∀ i, i ≤ R.length → imN p (R ++ S) i = imN p R i
  | 0, _ => rfl
  | i + 1, hi => by
    have g : (R ++ S).getD i [] = R.getD i [] := getD_append_left' _ _ _ _ (by omega)
    have ih := imN_pre p (S := S) i (show i ≤ R.length by omega)
    unfold imN
    rw [ih, g]
theorem rws_snoc {p : Int} {N : Nat} {R : List (List Int)} {u : List Int} (hR : rwsP p N R) (hu : rwP p N u) : rwsP p N (R ++ [u]) := fun i hi => by
  by_cases e : i < R.length
  · rw [snoc_get _ _ e]; exact hR i e
  · have : i = R.length := by simp at hi; omega
    rw [this, show (R ++ [u]).getD R.length [] = u by simp [List.getD]]; exact hu
theorem rk_snoc {p : Int} (hp : primeB p = true) {N : Nat} {R : List (List Int)} {u : List Int} (hR : rwsP p N R) (hu : rwP p N u) (hn : ¬ SpP p N R fun q => u.getD q 0) : rkN p (R ++ [u]) = rkN p R + 1 := by
  obtain ⟨p2, _⟩ := primeB_le hp
  obtain ⟨F, S⟩ := imN_ok hp hR R.length (Nat.le_refl _)
  rw [List.take_of_length_le (Nat.le_refl _)] at S
  have z := red_zero p2 F.bas hu
  unfold rkN
  rw [List.length_append, List.length_singleton]
  simp only [imN, imN_pre p R.length (Nat.le_refl _), show (R ++ [u]).getD R.length [] = u by simp [List.getD]]
  split
  · rename_i h; exact absurd ((S _).1 (z.1 h)) hn
  · simp
theorem rk_ext {p : Int} (hp : primeB p = true) {N : Nat} {R : List (List Int)} (hR : rwsP p N R) (u : Nat → List Int) (f : Nat → Nat → Int) : ∀ m, (∀ i, i < m → rwP p N (u i)) →
    (∀ i, i < m → ∀ r, r ∈ R → p ∣ sm (fun q => r.getD q 0 * f i q) N) → (∀ i, i < m → ∀ j, j < i → p ∣ sm (fun q => (u j).getD q 0 * f i q) N) → (∀ i, i < m → ¬ p ∣ sm (fun q => (u i).getD q 0 * f i q) N) →
    rwsP p N (R ++ (List.range m).map u) ∧ rkN p (R ++ (List.range m).map u) = rkN p R + m
  | 0, _, _, _, _ => by
    rw [List.range_zero, List.map_nil, List.append_nil]
    exact ⟨hR, rfl⟩
  | m + 1, h0, h1, h2, h3 => by
    obtain ⟨a, b⟩ := rk_ext hp hR u f m (fun i hi => h0 i (by omega)) (fun i hi => h1 i (by omega)) (fun i hi => h2 i (by omega)) (fun i hi => h3 i (by omega))
    rw [List.range_succ, List.map_append, List.map_singleton, ← List.append_assoc]
    refine ⟨rws_snoc a (h0 m (by omega)), ?_⟩
    rw [rk_snoc hp a (h0 m (by omega)) fun hs => h3 m (by omega) (ort_span (fun k hk => ?_) hs), b, Nat.add_assoc]
    rcases List.mem_append.1 (getD_mem (R ++ (List.range m).map u) [] k hk) with e | e
    · exact h1 m (by omega) _ e
    · obtain ⟨j, hj, e⟩ := List.mem_map.1 e
      rw [List.mem_range] at hj
      show p ∣ sm (fun q => ((R ++ (List.range m).map u).getD k []).getD q 0 * f m q) N
      rw [← e]; exact h2 m (by omega) j hj
section
variable {p : Int} {N : Nat} {B B' : List (List Int)}
theorem sp_row {r : List Int} (h : r ∈ B) : SpP p N B fun q => r.getD q 0 := by
  obtain ⟨i, hi, e⟩ := List.mem_iff_getElem.1 h
  have t : SpP p N B fun q => at2 B i q := sp_mem hi
  unfold at2 at t
  rwa [show B.getD i [] = r by rw [← e]; simp [List.getD, hi]] at t
theorem sp_rows (h : ∀ r, r ∈ B → SpP p N B' fun q => r.getD q 0) {v : Nat → Int} (hv : SpP p N B v) : SpP p N B' v :=
  sp_sub (fun k hk => h _ (getD_mem B [] k hk)) hv
theorem rk_rows (hp : primeB p = true) (hB : rwsP p N B) (hB' : rwsP p N B') (h : ∀ r, r ∈ B → SpP p N B' fun q => r.getD q 0) (h' : ∀ r, r ∈ B' → SpP p N B fun q => r.getD q 0) : rkN p B = rkN p B' :=
  rk_same hp hB hB' fun _ => ⟨sp_rows h, sp_rows h'⟩
def dl (a q : Nat) : Int := if q = a then 1 else 0
def eU (N a : Nat) : List Int := (List.replicate N 0).set a 1
theorem eU_get {a q : Nat} (hq : q < N) : (eU N a).getD q 0 = dl a q := one_get hq
theorem eU_rw (hp : 2 ≤ p) (a : Nat) : rwP p N (eU N a) := by
  refine ⟨by simp [eU], fun q hq => ?_⟩
  have hq : q < N := by simpa [eU] using hq
  rw [eU_get hq, dl]
  split <;> omega
theorem sm_dl (a : Nat) (f : Nat → Int) : sm (fun q => dl a q * f q) N = if a < N then f a else 0 := by
  rw [sm_ext (g := fun q => if q = a then f a else 0) fun q _ => by
    unfold dl
    by_cases e : q = a
    · rw [if_pos e, if_pos e, e, Int.one_mul]
    · rw [if_neg e, if_neg e, Int.zero_mul], sm_delta]
theorem sm_eU {a : Nat} (ha : a < N) (f : Nat → Int) : sm (fun q => (eU N a).getD q 0 * f q) N = f a := by
  rw [sm_ext (g := fun q => dl a q * f q) fun q hq => by rw [eU_get hq], sm_dl, if_pos ha]
theorem sm_at (c : List Int) {r : Nat} (hr : r < N) : sm (fun q => c.getD q 0 * dl r q) N = c.getD r 0 := by
  rw [sm_ext (g := fun q => dl r q * c.getD q 0) fun q _ => Int.mul_comm _ _, sm_dl, if_pos hr]
theorem sp_eU {a : Nat} (h : eU N a ∈ B) : SpP p N B (dl a) := sp_congr (fun q hq => by rw [eU_get hq, Int.sub_self]; exact Int.dvd_zero _) (sp_row h)
theorem sp_eU' {a : Nat} (h : SpP p N B (dl a)) : SpP p N B fun q => (eU N a).getD q 0 := sp_congr (fun q hq => by rw [eU_get hq, Int.sub_self]; exact Int.dvd_zero _) h
theorem sp_some (P : Nat → Nat) {m : Nat} (hu : ∀ i, i < m → SpP p N B (dl (P i))) (hi : ∀ i j, i < m → j < m → P i = P j → i = j) {v : Nat → Int} (hv : ∀ q, q < N → (∀ i, i < m → q ≠ P i) → p ∣ v q) : SpP p N B v := by
  have A : ∀ k, k ≤ m → SpP p N B (fun q => sm (fun i => v (P i) * dl (P i) q) k) := fun k => by
    induction k with
    | zero => intro _; exact sp_zero fun q _ => Int.dvd_zero _
    | succ k ih => intro hk; exact sp_add (ih (by omega)) (sp_mul _ (hu k (by omega)))
  refine sp_congr (fun q hq => ?_) (A m (Nat.le_refl _))
  by_cases e : ∃ i, i < m ∧ q = P i
  · obtain ⟨i, hi2, rfl⟩ := e
    rw [sm_ext (g := fun j => if j = i then v (P i) else 0) fun j hj => by
      unfold dl
      by_cases g : j = i
      · rw [g, if_pos rfl, if_pos rfl, Int.mul_one]
      · rw [if_neg (fun x => g (hi _ _ hj hi2 x.symm)), if_neg g, Int.mul_zero], sm_delta, if_pos hi2, Int.sub_self]
    exact Int.dvd_zero _
  · rw [sm_ext (g := fun j => 0 * 0) fun j hj => by
      unfold dl
      rw [if_neg (fun x => e ⟨j, hj, x⟩)]; simp, sm_mul, Int.zero_mul, Int.sub_zero]
    exact hv q hq fun i hi2 h => e ⟨i, hi2, h⟩
end
theorem mem_rkR {t : List (List Int)} {p : Int} {k : Nat} {q : Bool} {r : List Int} : ∀ {i}, r ∈ rkR t p k q i ↔ ∃ j, j < i ∧ ¬ (q = true ∧ flB (digN (t.length : Int) k (j : Int)) = true) ∧ r = rowQ t p k q j
  | 0 => by simp [rkR]
  | i + 1 => by
    simp only [rkR]
    split
    · rename_i h
      rw [mem_rkR]
      constructor
      · rintro ⟨j, a, b⟩; exact ⟨j, by omega, b⟩
      · rintro ⟨j, a, b, c⟩
        by_cases e : j = i
        · subst e; exact absurd h b
        · exact ⟨j, by omega, b, c⟩
    · rename_i h
      rw [List.mem_append, mem_rkR, List.mem_singleton]
      constructor
      · rintro (⟨j, a, b⟩ | e)
        · exact ⟨j, by omega, b⟩
        · exact ⟨i, by omega, h, e⟩
      · rintro ⟨j, a, b, c⟩
        by_cases e : j = i
        · subst e; exact .inr c
        · exact .inl ⟨j, by omega, b, c⟩
def clQ (t : List (List Int)) (k : Nat) (c : List Int) : List Int := clrN (t.length : Int) ((k : Int) - 1) c c.length
theorem mem_rk {t : List (List Int)} (ht : tabB t = true) {p : Int} {k : Nat} {q : Bool} {r : List Int} : r ∈ rkR t p k q (t.length ^ k) ↔
    ∃ x, inT t.length x ∧ x.length = k ∧ ¬ (q = true ∧ flB x = true) ∧ r = if q = true then clQ t k (ptF t p x k) else ptF t p x k := by
  have n1 := (tabB_of ht).1
  rw [mem_rkR]
  constructor
  · rintro ⟨j, _, b, c⟩
    exact ⟨_, digN_in n1 k (j : Int) (by omega), digN_length _ _ _, b, c⟩
  · rintro ⟨x, a, rfl, b, c⟩
    have d := dig_plc a n1
    have e := plc_all n1 a
    rw [← Int.natCast_pow] at e
    have f : (((plc t.length x).toNat : Nat) : Int) = plc t.length x := by omega
    refine ⟨(plc t.length x).toNat, by omega, ?_, ?_⟩
    · rw [f, d]; exact b
    · rw [rowQ, f, d]; exact c
theorem clQ_get {t : List (List Int)} {k : Nat} {c : List Int} {q : Nat} (hq : q < c.length) : (clQ t k c).getD q 0 = if flB (digN (t.length : Int) (k - 1) (q : Int)) = true then 0 else c.getD q 0 := by
  rw [clQ, clrN, tab_getD _ _ _ hq, show ((k : Int) - 1).toNat = k - 1 by omega]
  by_cases h : flB (digN (t.length : Int) (k - 1) (q : Int)) = true
  · rw [if_pos ⟨hq, h⟩, if_pos h]
  · rw [if_neg (fun x => h x.2), if_neg h]
inductive Cn (t : List (List Int)) : Nat → Nat → Prop
  | rfl (x) : Cn t x x
  | st {x y} (hx : x < t.length) (hy : y < t.length) : Cn t y (en t x y).toNat
  | sym {x y} : Cn t x y → Cn t y x
  | tr {x y z} : Cn t x y → Cn t y z → Cn t x z
structure OrbD (t : List (List Int)) (lab : Nat → Nat) (m : Nat) (rep : Nat → Nat) : Prop where
  lt : ∀ x, x < t.length → lab x < m
  st : ∀ x, x < t.length → ∀ y, y < t.length → lab (en t x y).toNat = lab y
  rp : ∀ c, c < m → rep c < t.length ∧ lab (rep c) = c
  cn : ∀ x, x < t.length → Cn t (rep (lab x)) x
section
variable {t : List (List Int)} {p : Int}
theorem en_lt (ht : tabB t = true) {x y : Nat} (hx : x < t.length) (hy : y < t.length) : (en t x y).toNat < t.length ∧ 0 ≤ en t x y := by
  have := ((tabB_of ht).2.2 x hx).2 y hy
  unfold en; omega
theorem plc1 (n v : Int) : plc n [v] = v := by simp [plc]
theorem inT1 {n : Nat} {x : List Int} (h : inT n x) (hl : x.length = 1) : ∃ a : Nat, a < n ∧ x = [(a : Int)] := by
  match x, hl with
  | [a], _ =>
    have := h 0 (by simp)
    simp at this
    exact ⟨a.toNat, by omega, by rw [Int.toNat_of_nonneg this.1]⟩
theorem inT2 {n : Nat} {x : List Int} (h : inT n x) (hl : x.length = 2) : ∃ a b : Nat, a < n ∧ b < n ∧ x = [(a : Int), (b : Int)] := by
  match x, hl with
  | [a, b], _ =>
    have u := h 0 (by simp)
    have v := h 1 (by simp)
    simp at u v
    exact ⟨a.toNat, b.toNat, by omega, by omega, by rw [Int.toNat_of_nonneg u.1, Int.toNat_of_nonneg v.1]⟩
theorem inT3 {n : Nat} {x : List Int} (h : inT n x) (hl : x.length = 3) : ∃ a b c : Nat, a < n ∧ b < n ∧ c < n ∧ x = [(a : Int), (b : Int), (c : Int)] := by
  match x, hl with
  | [a, b, c], _ =>
    have u := h 0 (by simp)
    have v := h 1 (by simp)
    have w := h 2 (by simp)
    simp at u v w
    exact ⟨a.toNat, b.toNat, c.toNat, by omega, by omega, by omega, by rw [Int.toNat_of_nonneg u.1, Int.toNat_of_nonneg v.1, Int.toNat_of_nonneg w.1]⟩
theorem in_2 {n x y : Nat} (hx : x < n) (hy : y < n) : inT n [(x : Int), (y : Int)] := fun q hq => by
  match q with
  | 0 => simp; omega
  | 1 => simp; omega
  | q + 2 => simp at hq; omega
theorem in_3 {n x y z : Nat} (hx : x < n) (hy : y < n) (hz : z < n) : inT n [(x : Int), (y : Int), (z : Int)] := fun q hq => by
  match q with
  | 0 => simp; omega
  | 1 => simp; omega
  | 2 => simp; omega
  | q + 3 => simp at hq; omega
theorem pt1_dot (ht : tabB t = true) (hp : 2 ≤ p) {x : Nat} (hx : x < t.length) (f : Nat → Int) : p ∣ sm (fun q => (ptF t p [(x : Int)] 1).getD q 0 * f q) 1 := by
  have P := pt_dot ht hp (x := [(x : Int)]) (fun q hq => by match q with | 0 => simp; omega | q + 1 => simp at hq) f 1 (by simp)
  have e0 : d0 0 [(x : Int)] = [] := rfl
  have e1 : d1 t 0 [(x : Int)] = [] := rfl
  simp only [sm, e0, e1, Int.sub_self, Int.mul_zero, Int.add_zero, Int.sub_zero, List.length_singleton, Nat.sub_self, Nat.pow_zero] at P ⊢
  exact P
theorem pt2_dot (ht : tabB t = true) (hp : 2 ≤ p) {x y : Nat} (hx : x < t.length) (hy : y < t.length) (f : Nat → Int) : p ∣ sm (fun q => (ptF t p [(x : Int), (y : Int)] 2).getD q 0 * f q) t.length + (f y - f (en t x y).toNat) := by
  have P := pt_dot ht hp (in_2 hx hy) f 2 (by simp)
  have e0 : d0 0 [(x : Int), (y : Int)] = [(y : Int)] := rfl
  have e1 : d1 t 0 [(x : Int), (y : Int)] = [en t x y] := rfl
  have e2 : d0 1 [(x : Int), (y : Int)] = [(x : Int)] := rfl
  have e3 : d1 t 1 [(x : Int), (y : Int)] = [(x : Int)] := rfl
  have s : sm (fun i => eS i * (f (plc t.length (d0 i [(x : Int), (y : Int)])).toNat - f (plc t.length (d1 t i [(x : Int), (y : Int)])).toNat)) 2 = -(f y - f (en t x y).toNat) := by
    simp only [sm, e0, e1, e2, e3, plc1, Int.toNat_natCast, Int.sub_self, Int.mul_zero]
    rw [show eS 0 = -1 from rfl]; omega
  rw [s] at P
  rw [show [(x : Int), (y : Int)].length - 1 = 1 from rfl, Nat.pow_one] at P
  rwa [Int.sub_neg] at P
theorem rk_deg (R : List (List Int)) (k : Nat) (q : Bool) (hk : k ≠ 0) : brV t p (k : Int) q = (rkN p (rkR t p k q (t.length ^ k)) : Nat) := by
  rw [brV, if_neg (by omega)]; rfl
theorem rw_deg (hp : 2 ≤ p) (k : Nat) (q : Bool) : rwsP p (t.length ^ (k - 1)) (rkR t p k q (t.length ^ k)) := (rkR_ok hp _).2
theorem rank1 (ht : tabB t = true) (hp : primeB p = true) : rkN p (rkR t p 1 false (t.length ^ 1)) = 0 := by
  obtain ⟨p2, _⟩ := primeB_le hp
  have R := rw_deg (t := t) p2 1 false
  rw [show t.length ^ (1 - 1) = 1 by simp] at R
  rw [rk_rows hp R (B' := []) (fun i hi => by simp at hi) (fun r hr => ?_) (fun r hr => by simp at hr)]
  · rfl
  · obtain ⟨x, a, b, _, c⟩ := (mem_rk ht).1 hr
    obtain ⟨y, hy, rfl⟩ := inT1 a b
    rw [if_neg (by simp)] at c
    subst c
    refine sp_zero fun q hq => ?_
    have := pt1_dot ht p2 hy (dl q)
    rwa [sm_at _ hq] at this
theorem rank2 {lab rep : Nat → Nat} {m : Nat} (ht : tabB t = true) (hp : primeB p = true) (hO : OrbD t lab m rep) : rkN p (rkR t p 2 false (t.length ^ 2)) + m = t.length := by
  obtain ⟨p2, _⟩ := primeB_le hp
  have R := rw_deg (t := t) p2 2 false
  rw [show t.length ^ (2 - 1) = t.length by simp] at R
  have np : ∀ v : Int, v = 1 → ¬ p ∣ v := fun v hv h => by subst hv; have := Int.le_of_dvd (by omega) h; omega
  have z : ∀ v : Int, v = 0 → p ∣ v := fun v hv => by subst hv; exact Int.dvd_zero _
  obtain ⟨a, b⟩ := rk_ext hp R (fun c => eU t.length (rep c)) (fun c q => if lab q = c then 1 else 0) m (fun _ _ => eU_rw p2 _)
    (fun i _ r hr => by
      obtain ⟨x, a, b, _, c⟩ := (mem_rk ht).1 hr
      obtain ⟨u, v, hu, hv, rfl⟩ := inT2 a b
      rw [if_neg (by simp)] at c
      subst c
      have := pt2_dot ht p2 hu hv (fun q => if lab q = i then 1 else 0)
      rwa [hO.st u hu v hv, Int.sub_self, Int.add_zero] at this)
    (fun i hi j hj => z _ (by rw [sm_eU (hO.rp j (by omega)).1, (hO.rp j (by omega)).2, if_neg (by omega)]))
    (fun i hi => np _ (by rw [sm_eU (hO.rp i hi).1, (hO.rp i hi).2, if_pos rfl]))
  obtain ⟨c, d⟩ := rk_ext hp (R := []) (N := t.length) (fun i hi => by simp at hi) (fun a => eU t.length a) (fun i q => dl i q) t.length (fun _ _ => eU_rw p2 _) (fun i _ r hr => by simp at hr)
    (fun i hi j hj => z _ (by rw [sm_eU (by omega), dl, if_neg (by omega)]))
    (fun i hi => np _ (by rw [sm_eU hi, dl, if_pos rfl]))
  have e : rkN p ([] : List (List Int)) = 0 := rfl
  rw [e, Nat.zero_add] at d
  refine b.symm.trans (Eq.trans ?_ d)
  refine rk_rows hp a c (fun r _ => ?_) (fun r hr => ?_)
  · exact sp_some (fun i => i) (m := t.length) (fun i hi => sp_eU (by rw [List.nil_append]; exact List.mem_map.2 ⟨i, List.mem_range.2 hi, rfl⟩)) (fun _ _ _ _ h => h) fun q hq h => absurd rfl (h q hq)
  · rw [List.nil_append] at hr
    obtain ⟨x, hx, rfl⟩ := List.mem_map.1 hr
    rw [List.mem_range] at hx
    have C : ∀ {y w}, Cn t y w → SpP p t.length (rkR t p 2 false (t.length ^ 2) ++ (List.range m).map fun c => eU t.length (rep c)) (fun q => dl w q + (-1) * dl y q) := fun {y w} h => by
      induction h with
      | rfl x => exact sp_zero fun q _ => by rw [show dl x q + -1 * dl x q = 0 by omega]; exact Int.dvd_zero _
      | st hx hy =>
        rename_i x y
        have mr : ptF t p [(x : Int), (y : Int)] 2 ∈ rkR t p 2 false (t.length ^ 2) := (mem_rk ht).2 ⟨_, in_2 hx hy, rfl, by simp, rfl⟩
        refine sp_congr (fun q hq => ?_) (sp_row (List.mem_append_left _ mr))
        have := pt2_dot ht p2 hx hy (dl q)
        rw [sm_at _ hq] at this
        have e1 : ∀ a b, dl a b = dl b a := fun a b => by unfold dl; by_cases h : a = b <;> simp [h, eq_comm]
        rw [e1 q y, e1 q] at this
        have := Int.dvd_neg.2 this
        refine (show ∀ a b : Int, a = b → p ∣ a → p ∣ b from fun a b e h => e ▸ h) _ _ ?_ this
        omega
      | sym _ ih => exact sp_congr (fun q _ => z _ (by omega)) (sp_mul (-1) ih)
      | tr _ _ ih1 ih2 => exact sp_congr (fun q _ => z _ (by omega)) (sp_add ih1 ih2)
    refine sp_eU' (sp_congr (fun q _ => z _ (by omega)) (sp_add (C (hO.cn x hx)) (sp_eU (a := rep (lab x)) ?_)))
    exact List.mem_append_right _ (List.mem_map.2 ⟨lab x, List.mem_range.2 (hO.lt x hx), rfl⟩)
theorem rank2q (ht : tabB t = true) (hp : primeB p = true) (hid : ∀ a, a < t.length → en t a a = (a : Int)) : rkN p (rkR t p 2 true (t.length ^ 2)) = rkN p (rkR t p 2 false (t.length ^ 2)) := by
  obtain ⟨p2, _⟩ := primeB_le hp
  have n1 := (tabB_of ht).1
  have R := rw_deg (t := t) p2 2 false
  have R' := rw_deg (t := t) p2 2 true
  rw [show t.length ^ (2 - 1) = t.length by simp] at R R'
  have nf : ∀ q : Nat, flB (digN (t.length : Int) (2 - 1) (q : Int)) = false := fun q => by
    cases h : flB (digN (t.length : Int) (2 - 1) (q : Int)) with
    | false => rfl
    | true =>
      obtain ⟨m, hm, _⟩ := flB_iff.1 h
      rw [digN_length] at hm; omega
  have cl : ∀ x : List Int, x.length = 2 → ∀ q, q < t.length → (clQ t 2 (ptF t p x 2)).getD q 0 = (ptF t p x 2).getD q 0 := fun x hx q hq => by
    rw [clQ_get (by rw [ptF_length, hx]; simpa using hq), nf]; rfl
  refine rk_rows hp R' R (fun r hr => ?_) (fun r hr => ?_)
  · obtain ⟨x, a, b, _, c⟩ := (mem_rk ht).1 hr
    rw [if_pos rfl] at c
    subst c
    exact sp_congr (fun q hq => by first | (rw [cl x b q hq, Int.sub_self]; exact Int.dvd_zero _) | (rw [if_neg (by simp), cl x b q hq, Int.sub_self]; exact Int.dvd_zero _) | (rw [if_neg (by simp), Int.sub_self]; exact Int.dvd_zero _) | (simp [cl x b q hq])) (sp_row ((mem_rk ht).2 ⟨x, a, b, by simp, rfl⟩))
  · obtain ⟨x, a, b, _, c⟩ := (mem_rk ht).1 hr
    rw [if_neg (by simp)] at c
    subst c
    by_cases hf : flB x = true
    · obtain ⟨u, v, hu, hv, rfl⟩ := inT2 a b
      obtain ⟨k, hk, e⟩ := flB_iff.1 hf
      have : k = 0 := by simp at hk; omega
      subst this
      have e : v = u := by simp at e; omega
      subst e
      refine sp_zero fun q hq => ?_
      have := pt2_dot ht p2 hu hu (dl q)
      rwa [sm_at _ hq, hid v hu, Int.toNat_natCast, Int.sub_self, Int.add_zero] at this
    · exact sp_congr (fun q hq => by rw [if_pos rfl, cl x b q hq, Int.sub_self]; exact Int.dvd_zero _) (sp_row ((mem_rk ht).2 ⟨x, a, b, fun h => hf h.2, rfl⟩))
theorem dia_inj {n i j : Nat} (hi : i < n) (hj : j < n) (h : i * n + i = j * n + j) : i = j := by
  rcases Nat.lt_trichotomy i j with e | e | e
  · have := Nat.mul_le_mul_right n (show i + 1 ≤ j by omega); rw [Nat.succ_mul] at this; omega
  · exact e
  · have := Nat.mul_le_mul_right n (show j + 1 ≤ i by omega); rw [Nat.succ_mul] at this; omega
theorem rank3q {lab rep : Nat → Nat} {m : Nat} (ht : tabB t = true) (hp : primeB p = true) (hid : ∀ a, a < t.length → en t a a = (a : Int)) (hO : OrbD t lab m rep) :
    rkN p (rkR t p 3 false (t.length ^ 3)) + m = rkN p (rkR t p 3 true (t.length ^ 3)) + t.length := by
  obtain ⟨p2, _⟩ := primeB_le hp
  have n1 := (tabB_of ht).1
  have R := rw_deg (t := t) p2 3 false
  have R' := rw_deg (t := t) p2 3 true
  have e2 : t.length ^ (3 - 1) = t.length * t.length := by simp [Nat.pow_succ]
  rw [e2] at R R'
  have np : ∀ v : Int, v = 1 → ¬ p ∣ v := fun v hv h => by subst hv; have := Int.le_of_dvd (by omega) h; omega
  have z : ∀ v : Int, v = 0 → p ∣ v := fun v hv => by subst hv; exact Int.dvd_zero _
  have dv : ∀ {u v : Nat}, v < t.length → (u * t.length + v) / t.length = u := fun {u v} hv => by
    rw [Nat.mul_comm, Nat.mul_add_div (by omega), Nat.div_eq_of_lt hv, Nat.add_zero]
  have fl : ∀ {u v : Nat}, u < t.length → v < t.length → (flB (digN (t.length : Int) (3 - 1) ((u * t.length + v : Nat) : Int)) = true ↔ u = v) := fun {u v} hu hv => by
    have d := dig_plc (in_2 hu hv) n1
    have pe : plc (t.length : Int) [(u : Int), (v : Int)] = ((u * t.length + v : Nat) : Int) := by rw [plc2]; simp
    rw [pe] at d
    rw [show digN (t.length : Int) (3 - 1) ((u * t.length + v : Nat) : Int) = [(u : Int), (v : Int)] from d, flB_iff]
    constructor
    · rintro ⟨k, hk, e⟩
      have : k = 0 := by simp at hk; omega
      subst this
      simp at e; omega
    · intro e
      exact ⟨0, by simp, by simp; omega⟩
  have pl : ∀ q, q < t.length * t.length → ∃ u v, u < t.length ∧ v < t.length ∧ q = u * t.length + v := fun q hq =>
    ⟨q / t.length, q % t.length, Nat.div_lt_of_lt_mul hq, Nat.mod_lt _ (by omega), by rw [Nat.mul_comm]; exact (Nat.div_add_mod q t.length).symm⟩
  have cl : ∀ x : List Int, x.length = 3 → ∀ u v, u < t.length → v < t.length → (clQ t 3 (ptF t p x 3)).getD (u * t.length + v) 0 = if u = v then 0 else (ptF t p x 3).getD (u * t.length + v) 0 := fun x hx u v hu hv => by
    rw [clQ_get (by rw [ptF_length, hx, e2]; exact sqr_lt hu hv)]
    by_cases h : u = v
    · rw [if_pos h, if_pos ((fl hu hv).2 h)]
    · rw [if_neg h, if_neg (fun w => h ((fl hu hv).1 w))]
  obtain ⟨a, b⟩ := rk_ext hp R (fun c => eU (t.length * t.length) (rep c * t.length + rep c)) (fun c q => if lab (q / t.length) = c then 1 else 0) m (fun _ _ => eU_rw p2 _)
    (fun i _ r hr => by
      obtain ⟨x, a, b, _, c⟩ := (mem_rk ht).1 hr
      obtain ⟨u, v, w, hu, hv, hw, rfl⟩ := inT3 a b
      rw [if_neg (by simp)] at c
      subst c
      have := pt3_dot ht p2 hu hv hw (fun q => if lab (q / t.length) = i then 1 else 0)
      have s1 := (en_lt ht hu hw).1
      have s2 := (en_lt ht hv hw).1
      simp only [dv hw, dv s1, dv s2, hO.st u hu v hv] at this
      refine (show ∀ a b : Int, a = b → p ∣ a → p ∣ b from fun a b e h => e ▸ h) _ _ ?_ this
      omega)
    (fun i hi j hj => z _ (by
      have := (hO.rp j (by omega)).1
      rw [sm_eU (sqr_lt this this), dv this, (hO.rp j (by omega)).2, if_neg (by omega)]))
    (fun i hi => np _ (by
      have := (hO.rp i hi).1
      rw [sm_eU (sqr_lt this this), dv this, (hO.rp i hi).2, if_pos rfl]))
  obtain ⟨c, d⟩ := rk_ext hp R' (fun a => eU (t.length * t.length) (a * t.length + a)) (fun i q => dl (i * t.length + i) q) t.length (fun _ _ => eU_rw p2 _)
    (fun i hi r hr => by
      obtain ⟨x, a, b, _, c⟩ := (mem_rk ht).1 hr
      rw [if_pos rfl] at c
      subst c
      exact z _ (by rw [sm_at _ (sqr_lt hi hi), cl x b i i hi hi, if_pos rfl]))
    (fun i hi j hj => z _ (by rw [sm_eU (sqr_lt (show j < t.length by omega) (by omega)), dl, if_neg (fun h => by have := dia_inj (show j < t.length by omega) hi h; omega)]))
    (fun i hi => np _ (by rw [sm_eU (sqr_lt hi hi), dl, if_pos rfl]))
  rw [← b, ← d]
  have U1 : ∀ i, i < t.length → SpP p (t.length * t.length) (rkR t p 3 true (t.length ^ 3) ++ (List.range t.length).map fun a => eU (t.length * t.length) (a * t.length + a)) (dl (i * t.length + i)) := fun i hi =>
    sp_eU (List.mem_append_right _ (List.mem_map.2 ⟨i, List.mem_range.2 hi, rfl⟩))
  have flat : ∀ {u v w : Nat}, u < t.length → v < t.length → w < t.length → u = v ∨ v = w → ∀ q, q < t.length * t.length → (∀ i, i < t.length → q ≠ i * t.length + i) → p ∣ (ptF t p [(u : Int), (v : Int), (w : Int)] 3).getD q 0 := fun {u v w} hu hv hw he q hq hn => by
    have := pt3_dot ht p2 hu hv hw (dl q)
    rw [sm_at _ hq] at this
    rcases he with rfl | rfl
    · rw [hid u hu, Int.toNat_natCast] at this
      refine (show ∀ a b : Int, a = b → p ∣ a → p ∣ b from fun a b e h => e ▸ h) _ _ ?_ this
      omega
    · have s := (en_lt ht hu hv).1
      rw [hid v hv, Int.toNat_natCast] at this
      have k1 : dl q (v * t.length + v) = 0 := by rw [dl, if_neg (fun h => hn v hv h.symm)]
      have k2 : dl q ((en t u v).toNat * t.length + (en t u v).toNat) = 0 := by rw [dl, if_neg (fun h => hn _ s h.symm)]
      rw [k1, k2] at this
      refine (show ∀ a b : Int, a = b → p ∣ a → p ∣ b from fun a b e h => e ▸ h) _ _ ?_ this
      omega
  refine rk_rows hp a c (fun r hr => ?_) (fun r hr => ?_)
  · rcases List.mem_append.1 hr with hr | hr
    · obtain ⟨x, a, b, _, c⟩ := (mem_rk ht).1 hr
      rw [if_neg (by simp)] at c
      subst c
      by_cases hf : flB x = true
      · refine sp_some (fun i => i * t.length + i) U1 (fun i j hi hj => dia_inj hi hj) fun q hq hn => ?_
        obtain ⟨u, v, w, hu, hv, hw, rfl⟩ := inT3 a b
        obtain ⟨k, hk, e⟩ := flB_iff.1 hf
        refine flat hu hv hw ?_ q hq hn
        have : k = 0 ∨ k = 1 := by simp at hk; omega
        rcases this with rfl | rfl
        · simp at e; omega
        · simp at e; omega
      · have m1 : SpP p (t.length * t.length) (rkR t p 3 true (t.length ^ 3) ++ (List.range t.length).map fun a => eU (t.length * t.length) (a * t.length + a)) (fun q => (clQ t 3 (ptF t p x 3)).getD q 0) :=
          sp_row (List.mem_append_left _ ((mem_rk ht).2 ⟨x, a, b, fun h => hf h.2, rfl⟩))
        have m2 : SpP p (t.length * t.length) (rkR t p 3 true (t.length ^ 3) ++ (List.range t.length).map fun a => eU (t.length * t.length) (a * t.length + a)) (fun q => (ptF t p x 3).getD q 0 - (clQ t 3 (ptF t p x 3)).getD q 0) := by
          refine sp_some (fun i => i * t.length + i) U1 (fun i j hi hj => dia_inj hi hj) fun q hq hn => z _ ?_
          obtain ⟨u, v, hu, hv, rfl⟩ := pl q hq
          rw [cl x b u v hu hv, if_neg (fun h => hn u hu (by rw [h]))]; omega
        exact sp_congr (fun q _ => z _ (by omega)) (sp_add m1 m2)
    · obtain ⟨i, hi, rfl⟩ := List.mem_map.1 hr
      rw [List.mem_range] at hi
      exact sp_eU' (U1 _ (hO.rp i hi).1)
  · have C : ∀ {y w}, Cn t y w → SpP p (t.length * t.length) (rkR t p 3 false (t.length ^ 3) ++ (List.range m).map fun c => eU (t.length * t.length) (rep c * t.length + rep c)) (fun q => dl (w * t.length + w) q + (-1) * dl (y * t.length + y) q) := fun {y w} h => by
      induction h with
      | rfl x => exact sp_zero fun q _ => z _ (by omega)
      | st hx hy =>
        rename_i x y
        have mr : ptF t p [(x : Int), (y : Int), (y : Int)] 3 ∈ rkR t p 3 false (t.length ^ 3) := (mem_rk ht).2 ⟨_, in_3 hx hy hy, rfl, by simp, rfl⟩
        refine sp_congr (fun q hq => ?_) (sp_row (List.mem_append_left _ mr))
        have := pt3_dot ht p2 hx hy hy (dl q)
        rw [sm_at _ hq, hid y hy, Int.toNat_natCast] at this
        have e1 : ∀ a b, dl a b = dl b a := fun a b => by unfold dl; by_cases h : a = b <;> simp [h, eq_comm]
        rw [e1 q (y * t.length + y), e1 q ((en t x y).toNat * t.length + (en t x y).toNat)] at this
        have := Int.dvd_neg.2 this
        refine (show ∀ a b : Int, a = b → p ∣ a → p ∣ b from fun a b e h => e ▸ h) _ _ ?_ this
        omega
      | sym _ ih => exact sp_congr (fun q _ => z _ (by omega)) (sp_mul (-1) ih)
      | tr _ _ ih1 ih2 => exact sp_congr (fun q _ => z _ (by omega)) (sp_add ih1 ih2)
    have U2 : ∀ i, i < t.length → SpP p (t.length * t.length) (rkR t p 3 false (t.length ^ 3) ++ (List.range m).map fun c => eU (t.length * t.length) (rep c * t.length + rep c)) (dl (i * t.length + i)) := fun i hi => by
      refine sp_congr (fun q _ => z _ (by omega)) (sp_add (C (hO.cn i hi)) (sp_eU (a := rep (lab i) * t.length + rep (lab i)) ?_))
      exact List.mem_append_right _ (List.mem_map.2 ⟨lab i, List.mem_range.2 (hO.lt i hi), rfl⟩)
    rcases List.mem_append.1 hr with hr | hr
    · obtain ⟨x, a, b, hf, c⟩ := (mem_rk ht).1 hr
      rw [if_pos rfl] at c
      subst c
      have m1 : SpP p (t.length * t.length) (rkR t p 3 false (t.length ^ 3) ++ (List.range m).map fun c => eU (t.length * t.length) (rep c * t.length + rep c)) (fun q => (ptF t p x 3).getD q 0) :=
        sp_row (List.mem_append_left _ ((mem_rk ht).2 ⟨x, a, b, by simp, rfl⟩))
      have m2 : SpP p (t.length * t.length) (rkR t p 3 false (t.length ^ 3) ++ (List.range m).map fun c => eU (t.length * t.length) (rep c * t.length + rep c)) (fun q => (clQ t 3 (ptF t p x 3)).getD q 0 - (ptF t p x 3).getD q 0) := by
        refine sp_some (fun i => i * t.length + i) U2 (fun i j hi hj => dia_inj hi hj) fun q hq hn => z _ ?_
        obtain ⟨u, v, hu, hv, rfl⟩ := pl q hq
        rw [cl x b u v hu hv, if_neg (fun h => hn u hu (by rw [h]))]; omega
      exact sp_congr (fun q _ => z _ (by omega)) (sp_add m1 m2)
    · obtain ⟨i, hi, rfl⟩ := List.mem_map.1 hr
      rw [List.mem_range] at hi
      exact sp_eU' (U2 i hi)
theorem cn2 (n1 : 1 ≤ t.length) : cnV t 2 = (t.length : Int) * (t.length : Int) - (t.length : Int) := by
  have fl : ∀ {u v : Nat}, u < t.length → v < t.length → (flB (digN (t.length : Int) 2 ((u * t.length + v : Nat) : Int)) = true ↔ u = v) := fun {u v} hu hv => by
    have d := dig_plc (in_2 hu hv) n1
    have pe : plc (t.length : Int) [(u : Int), (v : Int)] = ((u * t.length + v : Nat) : Int) := by rw [plc2]; simp
    rw [pe] at d
    rw [show digN (t.length : Int) 2 ((u * t.length + v : Nat) : Int) = [(u : Int), (v : Int)] from d, flB_iff]
    constructor
    · rintro ⟨k, hk, e⟩
      have : k = 0 := by simp at hk; omega
      subst this
      simp at e; omega
    · intro e
      exact ⟨0, by simp, by simp; omega⟩
  have row : ∀ u, u < t.length → ∀ v, v ≤ t.length → cnN (t.length : Int) 2 (u * t.length + v) + (if u < v then 1 else 0) = cnN (t.length : Int) 2 (u * t.length) + v := fun u hu v => by
    induction v with
    | zero => intro _; rw [if_neg (by omega)]; rfl
    | succ v ih =>
      intro hv
      have ih := ih (by omega)
      rw [← Nat.add_assoc, cnN]
      by_cases h : u = v
      · rw [if_pos ((fl hu (by omega)).2 h), if_pos (by omega)]
        rw [if_neg (by omega)] at ih
        omega
      · rw [if_neg (fun w => h ((fl hu (by omega)).1 w))]
        by_cases g : u < v
        · rw [if_pos (by omega)]
          rw [if_pos g] at ih
          omega
        · rw [if_neg (by omega)]
          rw [if_neg g] at ih
          omega
  have all : ∀ u, u ≤ t.length → cnN (t.length : Int) 2 (u * t.length) + u = u * t.length := fun u => by
    induction u with
    | zero => intro _; simp [cnN]
    | succ u ih =>
      intro hu
      have a := row u (by omega) t.length (Nat.le_refl _)
      rw [if_pos (by omega)] at a
      have := ih (by omega)
      rw [Nat.succ_mul]
      omega
  have := all t.length (Nat.le_refl _)
  have e : cnV t 2 = ((cnN (t.length : Int) 2 (t.length * t.length) : Nat) : Int) := by
    rw [cnV, show t.length ^ (2 : Int).toNat = t.length * t.length from Nat.pow_two _]; rfl
  rw [e]
  have f : ((t.length * t.length : Nat) : Int) = (t.length : Int) * (t.length : Int) := by simp
  omega
end
end Go.Sx
