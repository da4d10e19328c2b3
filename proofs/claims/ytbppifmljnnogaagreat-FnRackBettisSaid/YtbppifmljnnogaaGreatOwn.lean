/- Own -/
import Derived.Test.YtbppifmljnnogaaGreatTuple
import Derived.Test.YtbppifmljnnogaaGreatRack
import Derived.Shelf.SlicesG.Delete
import Derived.Lib.OwnBridge
section
section
open Go Go.Proofs
namespace Go.Sx
set_option linter.unusedSimpArgs false
set_option linter.unusedVariables false
def inT (n : Nat) (x : List Int) : Prop := ∀ q, q < x.length → 0 ≤ x.getD q 0 ∧ x.getD q 0 ≤ (n : Int) - 1
def plc (n : Int) (x : List Int) : Int := x.foldl (fun a y => a * n + y) 0
theorem plc_step (n : Int) (x : List Int) (i : Nat) (h : i < x.length) : plc n (x.take (i + 1)) = plc n (x.take i) * n + x.getD i 0 := by
  rw [← take_snoc x 0 i h, plc, List.foldl_append]; rfl
theorem plc_le {n : Nat} {x : List Int} (hn : 1 ≤ n) (hx : inT n x) : ∀ i, i ≤ x.length → 0 ≤ plc n (x.take i) ∧ plc n (x.take i) ≤ (n : Int) ^ i - 1
  | 0, _ => by simp [plc]
  | i + 1, h => by
    obtain ⟨a, b⟩ := plc_le hn hx i (by omega)
    obtain ⟨c, d⟩ := hx i (by omega)
    rw [plc_step _ _ _ (by omega), Int.pow_succ]
    have e1 := Int.mul_nonneg a (show (0 : Int) ≤ n by omega)
    have e2 := Int.mul_le_mul_of_nonneg_right b (show (0 : Int) ≤ n by omega)
    rw [Int.sub_mul, Int.one_mul] at e2
    omega
theorem plc_all {n : Nat} {x : List Int} (hn : 1 ≤ n) (hx : inT n x) : 0 ≤ plc n x ∧ plc n x ≤ (n : Int) ^ x.length - 1 := by
  have := plc_le hn hx x.length (Nat.le_refl _)
  rwa [List.take_of_length_le (Nat.le_refl _)] at this
def wo (i : Nat) (x : List Int) : List Int := x.take i ++ x.drop (i + 1)
theorem wo_length (i : Nat) (x : List Int) (h : i < x.length) : (wo i x).length = x.length - 1 := by simp [wo]; omega
theorem wo_in {n : Nat} {x : List Int} (hx : inT n x) {i : Nat} (hi : i < x.length) : inT n (wo i x) := fun q hq => by
  rw [wo_length i x hi] at hq
  unfold wo
  by_cases h : q < i
  · rw [getD_append_left' _ _ _ _ (by simp; omega), take_getD _ _ _ _ h]
    exact hx q (by omega)
  · rw [getD_append_right' _ _ _ _ (by simp; omega), drop_getD]
    refine hx _ ?_
    simp; omega
def mvk (t : List (List Int)) (c : Int) (i k : Nat) (l : List Int) : List Int := tab l.length fun q => if i ≤ q ∧ q < k then en t c.toNat (l.getD q 0).toNat else l.getD q 0
theorem mvk_length (t : List (List Int)) (c : Int) (i k : Nat) (l : List Int) : (mvk t c i k l).length = l.length := tab_length _ _
theorem mvk_none (t : List (List Int)) (c : Int) (i : Nat) (l : List Int) : mvk t c i i l = l := by
  conv => rhs; rw [eq_tab l]
  exact tab_ext fun q _ => if_neg (by omega)
theorem mvk_at (t : List (List Int)) (c : Int) (i k : Nat) (l : List Int) (h : k < l.length) : (mvk t c i k l).getD k 0 = l.getD k 0 := by
  rw [mvk, tab_getD _ _ _ h, if_neg (by omega)]
theorem mvk_step (t : List (List Int)) (c : Int) (i k : Nat) (l : List Int) (h : i ≤ k) : (mvk t c i k l).set k (en t c.toNat (l.getD k 0).toNat) = mvk t c i (k + 1) l := by
  rw [mvk, tab_set]
  refine tab_ext fun q _ => ?_
  by_cases hq : q = k
  · subst hq; rw [if_pos rfl, if_pos (by omega)]
  · rw [if_neg hq]
    by_cases h2 : i ≤ q ∧ q < k
    · rw [if_pos h2, if_pos (by omega)]
    · rw [if_neg h2, if_neg (by omega)]
theorem mvk_in {t : List (List Int)} (ht : tabB t = true) {l : List Int} (hl : inT t.length l) {c : Int} (hc : 0 ≤ c ∧ c ≤ (t.length : Int) - 1) (i k : Nat) : inT t.length (mvk t c i k l) := fun q hq => by
  rw [mvk_length] at hq
  rw [mvk, tab_getD _ _ _ hq]
  split
  · have := hl q hq
    have a := ((tabB_of ht).2.2 c.toNat (by omega)).2 (l.getD q 0).toNat (by omega)
    exact ⟨a.1, a.2⟩
  · exact hl q hq
def bump (p s : Int) (a b : Nat) (c : List Int) : List Int :=
  (c.set a ((c.getD a 0 + s).tmod p)).set b (((c.set a ((c.getD a 0 + s).tmod p)).getD b 0 + p - s).tmod p)
theorem bump_length (p s : Int) (a b : Nat) (c : List Int) : (bump p s a b c).length = c.length := by simp [bump]
def pa (t : List (List Int)) (x : List Int) (i : Nat) : Nat := (plc t.length (wo i x)).toNat
def pb (t : List (List Int)) (x : List Int) (i : Nat) : Nat := (plc t.length (mvk t (x.getD i 0) i (x.length - 1) (wo i x))).toNat
def sgS (p : Int) (i : Nat) : Int := if i % 2 = 0 then p - 1 else 1
def sgI (p times : Int) : Nat → Int
  | 0 => times
  | i + 1 => (p - sgI p times i).tmod p
def ptF (t : List (List Int)) (p : Int) (x : List Int) : Nat → List Int
  | 0 => List.replicate (t.length ^ (x.length - 1)) 0
  | i + 1 => bump p (sgS p i) (pa t x i) (pb t x i) (ptF t p x i)
def adF (t : List (List Int)) (p : Int) (x : List Int) (times : Int) (c : List Int) : Nat → List Int
  | 0 => c
  | i + 1 => bump p (sgI p times (i + 1)) (pa t x i) (pb t x i) (adF t p x times c i)
def inP (p : Int) (c : List Int) : Prop := ∀ q, q < c.length → 0 ≤ c.getD q 0 ∧ c.getD q 0 ≤ p - 1
theorem sgI_in {p times : Int} (hp : 1 ≤ p) (ht : 0 ≤ times ∧ times ≤ p - 1) : ∀ i, 0 ≤ sgI p times i ∧ sgI p times i ≤ p - 1
  | 0 => ht
  | i + 1 => by
    have := sgI_in hp ht i
    exact tmod_in (by omega) hp
theorem sgS_in {p : Int} (hp : 2 ≤ p) (i : Nat) : 0 ≤ sgS p i ∧ sgS p i ≤ p - 1 := by
  unfold sgS
  split <;> omega
theorem bump_in {p s : Int} {a b : Nat} {c : List Int} (hp : 1 ≤ p) (hs : 0 ≤ s ∧ s ≤ p - 1) (hc : inP p c) : inP p (bump p s a b c) := by
  have h1 : inP p (c.set a ((c.getD a 0 + s).tmod p)) := fun q hq => by
    rw [List.length_set] at hq
    rw [getD_set _ _ _ _ hq]
    split
    · rename_i h; subst h
      have := hc q hq
      exact tmod_in (by omega) hp
    · exact hc q hq
  intro q hq
  rw [bump_length] at hq
  unfold bump
  rw [getD_set _ _ _ _ (by rw [List.length_set]; exact hq)]
  split
  · rename_i h; subst h
    have := h1 q (by rw [List.length_set]; exact hq)
    exact tmod_in (by omega) hp
  · exact h1 q (by rw [List.length_set]; exact hq)
theorem ptF_length (t : List (List Int)) (p : Int) (x : List Int) : ∀ i, (ptF t p x i).length = t.length ^ (x.length - 1)
  | 0 => by simp [ptF]
  | i + 1 => by rw [ptF, bump_length, ptF_length t p x i]
theorem adF_length (t : List (List Int)) (p : Int) (x : List Int) (times : Int) (c : List Int) : ∀ i, (adF t p x times c i).length = c.length
  | 0 => rfl
  | i + 1 => by rw [adF, bump_length, adF_length t p x times c i]
theorem ptF_in (t : List (List Int)) {p : Int} (hp : 2 ≤ p) (x : List Int) : ∀ i, inP p (ptF t p x i)
  | 0 => fun q hq => by
    simp only [ptF, List.length_replicate] at hq ⊢
    simp [List.getD_eq_getElem?_getD, hq]; omega
  | i + 1 => by rw [ptF]; exact bump_in (by omega) (sgS_in hp i) (ptF_in t hp x i)
theorem adF_in (t : List (List Int)) {p : Int} (hp : 1 ≤ p) (x : List Int) {times : Int} (ht : 0 ≤ times ∧ times ≤ p - 1) {c : List Int} (hc : inP p c) : ∀ i, inP p (adF t p x times c i)
  | 0 => hc
  | i + 1 => by rw [adF]; exact bump_in hp (sgI_in hp ht (i + 1)) (adF_in t hp x ht hc i)
theorem sg_eq {p times : Int} (hp : 2 ≤ p) (ht : 0 ≤ times ∧ times ≤ p - 1) : ∀ i, (p ∣ sgI p times (i + 1) - times * sgS p i) ∧ (p ∣ sgI p times (i + 2) - times * sgS p (i + 1))
  | 0 => by
    have e1 : sgI p times 1 = (p - times).tmod p := rfl
    have e2 : sgI p times 2 = (p - (p - times).tmod p).tmod p := rfl
    have s0 : sgS p 0 = p - 1 := rfl
    have s1 : sgS p 1 = 1 := rfl
    rw [e1, e2, s0, s1]
    have r1 : (p - times).tmod p = (p - times) % p := Int.tmod_eq_emod_of_nonneg (by omega)
    have r1b := Int.emod_nonneg (p - times) (show p ≠ 0 by omega)
    have r1c := Int.emod_lt_of_pos (p - times) (show 0 < p by omega)
    rw [r1]
    have r2 : (p - (p - times) % p).tmod p = (p - (p - times) % p) % p := Int.tmod_eq_emod_of_nonneg (by omega)
    rw [r2]
    refine ⟨?_, ?_⟩
    · refine Int.dvd_of_emod_eq_zero ?_
      rw [Int.emod_sub_emod]
      apply Int.emod_eq_zero_of_dvd
      exact ⟨1 - times, by grind⟩
    · refine Int.dvd_of_emod_eq_zero ?_
      rw [Int.emod_sub_emod, Int.sub_sub, Int.sub_emod, Int.emod_add_emod, ← Int.sub_emod]
      apply Int.emod_eq_zero_of_dvd
      exact ⟨0, by grind⟩
  | i + 1 => by
    obtain ⟨a, b⟩ := sg_eq hp ht i
    refine ⟨b, ?_⟩
    have e : sgI p times (i + 3) = (p - sgI p times (i + 2)).tmod p := rfl
    have e2 : sgI p times (i + 2) = (p - sgI p times (i + 1)).tmod p := rfl
    have s : sgS p (i + 2) = sgS p i := by simp [sgS]
    have i1 := sgI_in (p := p) (by omega) ht (i + 1)
    have i2 := sgI_in (p := p) (by omega) ht (i + 2)
    rw [s]
    have r1 : (p - sgI p times (i + 2)).tmod p = (p - sgI p times (i + 2)) % p := Int.tmod_eq_emod_of_nonneg (by omega)
    have r2 : (p - sgI p times (i + 1)).tmod p = (p - sgI p times (i + 1)) % p := Int.tmod_eq_emod_of_nonneg (by omega)
    refine Int.dvd_of_emod_eq_zero ?_
    rw [show i + 1 + 2 = i + 3 from rfl, e, r1, Int.emod_sub_emod, e2, r2, Int.sub_sub, Int.sub_emod, Int.emod_add_emod, ← Int.sub_emod]
    apply Int.emod_eq_zero_of_dvd
    obtain ⟨z, hz⟩ := a
    exact ⟨z, by rw [← hz]; grind⟩
theorem tmod_dvd {a p : Int} (h : 0 ≤ a) (hp : 1 ≤ p) : p ∣ a.tmod p - a := by
  rw [Int.tmod_eq_emod_of_nonneg h]
  refine Int.dvd_of_emod_eq_zero ?_
  rw [Int.emod_sub_emod, Int.sub_self]; rfl
theorem bump_mod {p s : Int} {a b : Nat} {c : List Int} (hp : 1 ≤ p) (hs : 0 ≤ s ∧ s ≤ p - 1) (hc : inP p c) (q : Nat) (hq : q < c.length) :
    p ∣ (bump p s a b c).getD q 0 - (c.getD q 0 + (if q = a then s else 0) - (if q = b then s else 0)) := by
  have v := hc q hq
  have h1 : p ∣ (c.set a ((c.getD a 0 + s).tmod p)).getD q 0 - (c.getD q 0 + (if q = a then s else 0)) := by
    rw [getD_set _ _ _ _ hq]
    split
    · rename_i h; subst h
      exact tmod_dvd (by omega) hp
    · exact ⟨0, by omega⟩
  have h2 : 0 ≤ (c.set a ((c.getD a 0 + s).tmod p)).getD q 0 := by
    rw [getD_set _ _ _ _ hq]
    split
    · rename_i h; subst h; exact (tmod_in (by omega) hp).1
    · omega
  unfold bump
  rw [getD_set _ _ _ _ (by rw [List.length_set]; exact hq)]
  generalize (c.set a ((c.getD a 0 + s).tmod p)) = d at h1 h2 ⊢
  split
  · rename_i h; subst h
    obtain ⟨z, hz⟩ := h1
    obtain ⟨y, hy⟩ := tmod_dvd (a := d.getD q 0 + p - s) (by omega) hp
    exact ⟨y + z + 1, by grind⟩
  · obtain ⟨z, hz⟩ := h1
    exact ⟨z, by omega⟩
theorem ad_mod {t : List (List Int)} {p : Int} (hp : 2 ≤ p) {x : List Int} {times : Int} (ht : 0 ≤ times ∧ times ≤ p - 1) {c : List Int} (hc : inP p c) (hl : c.length = t.length ^ (x.length - 1)) (q : Nat) (hq : q < c.length) :
    ∀ i, p ∣ (adF t p x times c i).getD q 0 - (c.getD q 0 + times * (ptF t p x i).getD q 0)
  | 0 => by
    have : (ptF t p x 0).getD q 0 = 0 := by simp [ptF, List.getD_eq_getElem?_getD, ← hl, hq]
    rw [this]
    exact ⟨0, by simp [adF]⟩
  | i + 1 => by
    obtain ⟨z, hz⟩ := ad_mod hp ht hc hl q hq i
    obtain ⟨y, hy⟩ := bump_mod (a := pa t x i) (b := pb t x i) (by omega) (sgI_in (by omega) ht (i + 1)) (adF_in t (by omega) x ht hc i) q (by rw [adF_length]; exact hq)
    obtain ⟨u, hu⟩ := bump_mod (a := pa t x i) (b := pb t x i) (by omega) (sgS_in hp i) (ptF_in t hp x i) q (by rw [ptF_length, ← hl]; exact hq)
    obtain ⟨k, hk⟩ := (sg_eq hp ht i).1
    simp only [adF, ptF]
    generalize (bump p (sgI p times (i + 1)) (pa t x i) (pb t x i) (adF t p x times c i)).getD q 0 = A at hy ⊢
    generalize (bump p (sgS p i) (pa t x i) (pb t x i) (ptF t p x i)).getD q 0 = B at hu ⊢
    generalize (adF t p x times c i).getD q 0 = A0 at hy hz
    generalize (ptF t p x i).getD q 0 = B0 at hu hz
    generalize sgI p times (i + 1) = s at hy hk
    generalize sgS p i = r at hu hk
    have eA : A = A0 + (if q = pa t x i then s else 0) - (if q = pb t x i then s else 0) + p * y := by omega
    have eB : B = B0 + (if q = pa t x i then r else 0) - (if q = pb t x i then r else 0) + p * u := by omega
    have es : s = times * r + p * k := by omega
    have e0 : A0 = c.getD q 0 + times * B0 + p * z := by omega
    rw [eA, eB, e0, es]
    split <;> split
    · exact ⟨z + y - times * u, by grind⟩
    · exact ⟨z + y + k - times * u, by grind⟩
    · exact ⟨z + y - k - times * u, by grind⟩
    · exact ⟨z + y - times * u, by grind⟩
def stF (p times : Int) (d c : List Int) : List Int := tab c.length fun q => (c.getD q 0 + times * d.getD q 0).tmod p
theorem stF_length (p times : Int) (d c : List Int) : (stF p times d c).length = c.length := tab_length _ _
theorem stF_in {p times : Int} (hp : 1 ≤ p) (ht : 0 ≤ times) {d c : List Int} (hl : c.length = d.length) (hd : inP p d) (hc : inP p c) : inP p (stF p times d c) := fun q hq => by
  rw [stF_length] at hq
  rw [stF, tab_getD _ _ _ hq]
  have := hc q hq
  have := Int.mul_nonneg ht (hd q (by omega)).1
  exact tmod_in (by omega) hp
theorem eq_of_dvd {p a b : Int} (ha : 0 ≤ a ∧ a ≤ p - 1) (hb : 0 ≤ b ∧ b ≤ p - 1) (h : p ∣ a - b) : a = b := by
  have h1 := Int.emod_emod_of_dvd
  have e : a % p = b % p := (Int.emod_emod_of_dvd a (Int.dvd_refl p)) ▸ (Int.emod_eq_emod_iff_emod_sub_eq_zero.2 (Int.emod_eq_zero_of_dvd h) ▸ by rw [Int.emod_emod])
  rwa [Int.emod_eq_of_lt ha.1 (by omega), Int.emod_eq_of_lt hb.1 (by omega)] at e
theorem ad_eq {t : List (List Int)} {p : Int} (hp : 2 ≤ p) {x : List Int} {times : Int} (ht : 0 ≤ times ∧ times ≤ p - 1) {c : List Int} (hc : inP p c) (hl : c.length = t.length ^ (x.length - 1)) (i : Nat) :
    adF t p x times c i = stF p times (ptF t p x i) c := by
  have hl2 : c.length = (ptF t p x i).length := by rw [ptF_length, hl]
  refine list_ext (by rw [adF_length, stF_length]) fun q hq => ?_
  rw [adF_length] at hq
  have h1 := adF_in t (by omega) x ht hc i q (by rw [adF_length]; exact hq)
  have h2 := stF_in (p := p) (by omega) ht.1 hl2 (ptF_in t hp x i) hc q (by rw [stF_length]; exact hq)
  refine eq_of_dvd h1 h2 ?_
  obtain ⟨z, hz⟩ := ad_mod hp ht hc hl q hq i
  have n := hc q hq
  have m := Int.mul_nonneg ht.1 (ptF_in t hp x i q (by omega)).1
  rw [stF, tab_getD _ _ _ hq]
  obtain ⟨y, hy⟩ := tmod_dvd (a := c.getD q 0 + times * (ptF t p x i).getD q 0) (by omega) (show 1 ≤ p by omega)
  exact ⟨z - y, by grind⟩
end Go.Sx
end
section
open Go Go.Proofs Go.RowKit Go.Shelf
namespace Go.Sx
set_option linter.unusedSimpArgs false
set_option linter.unusedVariables false
theorem delSpec_of {P : Program} {ρ : Shelf.Ren} (L : SlLaysN.n45 P ρ) : DelSpec P (ρ.f 45) := by
  intro w e v l i j h hij hj
  obtain ⟨g, cap, rfl, _, hlt, hn, hm, _, hH⟩ := Lib.holds_of_ownsRow h (fun hv => by
    rcases h.2 with ⟨_, h2⟩ | ⟨g, cap, cur, h2, _⟩
    · omega
    · rw [hv] at h2; cases h2)
  have hmx : cap ≤ 9223372036854775807 := by simp only [maxLen] at hm; omega
  refine (AnyG.slices_Delete_int L g 0 cap i j l w hH hn hmx (by omega) hj).mono ?_
  rintro r w' ⟨rfl, q, rfl⟩
  have hk : (l.take i ++ l.drop j).length = l.length - (j - i) := by simp; omega
  have hy : (l.take i ++ l.drop j ++ List.replicate (j - i) (0 : Int)).length = l.length := by simp; omega
  refine ⟨_, rfl, ?_, rfl, ⟨rfl, Nat.le_add_right _ _⟩, rfl, rfl, by simp, fun b hb => ?_⟩
  · have := Lib.ownsRow_putRow (q := q) (k := l.length - (j - i)) h hy (by omega)
    rw [hk]
    rwa [← hk, List.take_left' rfl, hk] at this
  · have hb : g ≠ b := fun hc => hb (by simp [hdBlock, hc])
    simp [Sort.putRow, Sort.mapBlock, Sort.ahead, Array.getElem?_modify, hb]
def delRen : Shelf.Ren := ⟨fun _ => 123, fun x => match x with | 0 => 0 | 3 => 3 | 4 => 4 | 22 => 31 | 23 => 2 | _ => 0, fun x => x⟩
theorem delLays : SlLaysN.n45 Tryz.prog delRen where
  mixed := by kernel_rfl
  f45 := ⟨Tryz.f123.name, by kernel_rfl, by kernel_rfl⟩
  t0 := by kernel_rfl
  a0 := fun w => by kernel_rfl
  z0 := fun w => by kernel_rfl
  v0 := fun w => by kernel_rfl
  t3 := by kernel_rfl
  a3 := fun w => by kernel_rfl
  z3 := fun w => by kernel_rfl
  v3 := fun w => by kernel_rfl
  t4 := by kernel_rfl
  a4 := fun w => by kernel_rfl
  z4 := fun w => by kernel_rfl
  v4 := fun w => by kernel_rfl
  t22 := by kernel_rfl
  a22 := fun w => by kernel_rfl
  z22 := fun w => by kernel_rfl
  v22 := fun w => by kernel_rfl
  t23 := by kernel_rfl
  a23 := fun w => by kernel_rfl
  z23 := fun w => by kernel_rfl
  v23 := fun w => by kernel_rfl
  i23 := by kernel_rfl
def sDelete_ct : List AD → Option Post := fun _ => none
theorem sDelete_fits : Fits Tryz.prog 123 ⟨[(0, 99), (0, 99)], sDelete_ct⟩ where
  fn := ⟨Tryz.f123, Tryz.func123, by kernel_rfl, by kernel_rfl⟩
  run := fun _ _ _ _ _ _ _ h => by cases h
  mv := fun _ => delSpec_of delLays
  gr := fun h => by cases h
  so := fun h => by cases h
end Go.Sx
end
end
section
open Go Go.Proofs
namespace Go.Sx
set_option linter.unusedSimpArgs false
set_option linter.unusedVariables false
def l01Own_p (l : List Int) : Post := ⟨room l.length, .c (.ints 2 .i64 (l)), []⟩
def l01Own_ct : List AD → Option Post
  | [.c (.ints .i64 (l))] => some (l01Own_p l)
  | _ => none
def l01Own_G : List (Nat × Ctr) := []
def l01Own_V (l : List Int) : Prop :=
 ((room (([] : List Int).length + l.length))∧(([] ++ l = l)∧True))
theorem l01Own_vc (l : List Int) : runF Tryz.prog (gam l01Own_G) noWr noAnn Tryz.f117 (bodyOf Tryz.f117) [] [.c (.ints .i64 (l))] (l01Own_p l) = l01Own_V l := by kernel_rfl
theorem l01Own_ok (l : List Int) (hpre : (l01Own_p l).pre) : l01Own_V l := by
  simp only [l01Own_p, l01Own_V, BrP_iff, u1, u2, u3, u4, u5, u6, u7, u8, u9, v1, v2, v3, v4, v5, v6, v7, v8, v9, w1, w2, w3, w4, markL_length, inB, InR, room, bdsOk] at hpre ⊢
  simp [hpre]
theorem l01Own_fits : Fits Tryz.prog 117 ⟨[], l01Own_ct⟩ := by
  refine ffn (Γ := gam l01Own_G) gok_nil Tryz.func117 fun ds p h hp => ?_
  unfold l01Own_ct at h
  split at h
  · cases h
    exact ⟨noWr, noAnn, by rw [l01Own_vc]; exact l01Own_ok _  hp⟩
  · cases h
end Go.Sx
end
