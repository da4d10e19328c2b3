/- BndI -/
import Derived.Test.YtcfbmimjffkgdaaGreatTuple
import Derived.Test.YtcfbmimjffkgdaaGreatRack
import Derived.Shelf.SlicesG.Delete
import Derived.Lib.OwnBridge
section
section
open Go Go.Proofs
namespace Go.Sx
set_option linter.unusedSimpArgs false
set_option linter.unusedVariables false
def inT (n : Nat) (x : List Int) : Prop := ∀ q, q < x.length → 0 ≤ x.getD q 0 ∧ x.getD q 0 ≤ (n : Int) - 1
def plc (n : Int) (x : List Int) : Int := x.foldl (fun a y => a * n + y) 0
theorem plc_step (n : Int) (x : List Int) (i : Nat) (h : i < x.length) : plc n (x.take (i + 1)) = plc n (x.take i) * n + x.getD i 0 := by
  rw [← take_snoc x 0 i h, plc, List.foldl_append]; rfl
theorem plc_le {n : Nat} {x : List Int} (hn : 1 ≤ n) (hx : inT n x) : ∀ i, i ≤ x.length → 0 ≤ plc n (x.take i) ∧ plc n (x.take i) ≤ (n : Int) ^ i - 1
  | 0, _ => by simp [plc]
  | i + 1, h => by
    obtain ⟨a, b⟩ := plc_le hn hx i (by omega)
    obtain ⟨c, d⟩ := hx i (by omega)
    rw [plc_step _ _ _ (by omega), Int.pow_succ]
    have e1 := Int.mul_nonneg a (show (0 : Int) ≤ n by omega)
    have e2 := Int.mul_le_mul_of_nonneg_right b (show (0 : Int) ≤ n by omega)
    rw [Int.sub_mul, Int.one_mul] at e2
    omega
theorem plc_all {n : Nat} {x : List Int} (hn : 1 ≤ n) (hx : inT n x) : 0 ≤ plc n x ∧ plc n x ≤ (n : Int) ^ x.length - 1 := by
  have := plc_le hn hx x.length (Nat.le_refl _)
  rwa [List.take_of_length_le (Nat.le_refl _)] at this
def wo (i : Nat) (x : List Int) : List Int := x.take i ++ x.drop (i + 1)
theorem wo_length (i : Nat) (x : List Int) (h : i < x.length) : (wo i x).length = x.length - 1 := by simp [wo]; omega
theorem wo_in {n : Nat} {x : List Int} (hx : inT n x) {i : Nat} (hi : i < x.length) : inT n (wo i x) := fun q hq => by
  rw [wo_length i x hi] at hq
  unfold wo
  by_cases h : q < i
  · rw [getD_append_left' _ _ _ _ (by simp; omega), take_getD _ _ _ _ h]
    exact hx q (by omega)
  · rw [getD_append_right' _ _ _ _ (by simp; omega), drop_getD]
    refine hx _ ?_
    simp; omega
def mvk (t : List (List Int)) (c : Int) (i k : Nat) (l : List Int) : List Int := tab l.length fun q => if i ≤ q ∧ q < k then en t c.toNat (l.getD q 0).toNat else l.getD q 0
theorem mvk_length (t : List (List Int)) (c : Int) (i k : Nat) (l : List Int) : (mvk t c i k l).length = l.length := tab_length _ _
theorem mvk_none (t : List (List Int)) (c : Int) (i : Nat) (l : List Int) : mvk t c i i l = l := by
  conv => rhs; rw [eq_tab l]
  exact tab_ext fun q _ => if_neg (by omega)
theorem mvk_at (t : List (List Int)) (c : Int) (i k : Nat) (l : List Int) (h : k < l.length) : (mvk t c i k l).getD k 0 = l.getD k 0 := by
  rw [mvk, tab_getD _ _ _ h, if_neg (by omega)]
theorem mvk_step (t : List (List Int)) (c : Int) (i k : Nat) (l : List Int) (h : i ≤ k) : (mvk t c i k l).set k (en t c.toNat (l.getD k 0).toNat) = mvk t c i (k + 1) l := by
  rw [mvk, tab_set]
  refine tab_ext fun q _ => ?_
  by_cases hq : q = k
  · subst hq; rw [if_pos rfl, if_pos (by omega)]
  · rw [if_neg hq]
    by_cases h2 : i ≤ q ∧ q < k
    · rw [if_pos h2, if_pos (by omega)]
    · rw [if_neg h2, if_neg (by omega)]
theorem mvk_in {t : List (List Int)} (ht : tabB t = true) {l : List Int} (hl : inT t.length l) {c : Int} (hc : 0 ≤ c ∧ c ≤ (t.length : Int) - 1) (i k : Nat) : inT t.length (mvk t c i k l) := fun q hq => by
  rw [mvk_length] at hq
  rw [mvk, tab_getD _ _ _ hq]
  split
  · have := hl q hq
    have a := ((tabB_of ht).2.2 c.toNat (by omega)).2 (l.getD q 0).toNat (by omega)
    exact ⟨a.1, a.2⟩
  · exact hl q hq
def bump (p s : Int) (a b : Nat) (c : List Int) : List Int :=
  (c.set a ((c.getD a 0 + s).tmod p)).set b (((c.set a ((c.getD a 0 + s).tmod p)).getD b 0 + p - s).tmod p)
theorem bump_length (p s : Int) (a b : Nat) (c : List Int) : (bump p s a b c).length = c.length := by simp [bump]
def pa (t : List (List Int)) (x : List Int) (i : Nat) : Nat := (plc t.length (wo i x)).toNat
def pb (t : List (List Int)) (x : List Int) (i : Nat) : Nat := (plc t.length (mvk t (x.getD i 0) i (x.length - 1) (wo i x))).toNat
def sgS (p : Int) (i : Nat) : Int := if i % 2 = 0 then p - 1 else 1
def sgI (p times : Int) : Nat → Int
  | 0 => times
  | i + 1 => (p - sgI p times i).tmod p
def ptF (t : List (List Int)) (p : Int) (x : List Int) : Nat → List Int
  | 0 => List.replicate (t.length ^ (x.length - 1)) 0
  | i + 1 => bump p (sgS p i) (pa t x i) (pb t x i) (ptF t p x i)
def adF (t : List (List Int)) (p : Int) (x : List Int) (times : Int) (c : List Int) : Nat → List Int
  | 0 => c
  | i + 1 => bump p (sgI p times (i + 1)) (pa t x i) (pb t x i) (adF t p x times c i)
def inP (p : Int) (c : List Int) : Prop := ∀ q, q < c.length → 0 ≤ c.getD q 0 ∧ c.getD q 0 ≤ p - 1
theorem sgI_in {p times : Int} (hp : 1 ≤ p) (ht : 0 ≤ times ∧ times ≤ p - 1) : ∀ i, 0 ≤ sgI p times i ∧ sgI p times i ≤ p - 1
  | 0 => ht
  | i + 1 => by
    have := sgI_in hp ht i
    exact tmod_in (by omega) hp
theorem sgS_in {p : Int} (hp : 2 ≤ p) (i : Nat) : 0 ≤ sgS p i ∧ sgS p i ≤ p - 1 := by
  unfold sgS
  split <;> omega
theorem bump_in {p s : Int} {a b : Nat} {c : List Int} (hp : 1 ≤ p) (hs : 0 ≤ s ∧ s ≤ p - 1) (hc : inP p c) : inP p (bump p s a b c) := by
  have h1 : inP p (c.set a ((c.getD a 0 + s).tmod p)) := fun q hq => by
    rw [List.length_set] at hq
    rw [getD_set _ _ _ _ hq]
    split
    · rename_i h; subst h
      have := hc q hq
      exact tmod_in (by omega) hp
    · exact hc q hq
  intro q hq
  rw [bump_length] at hq
  unfold bump
  rw [getD_set _ _ _ _ (by rw [List.length_set]; exact hq)]
  split
  · rename_i h; subst h
    have := h1 q (by rw [List.length_set]; exact hq)
    exact tmod_in (by omega) hp
  · exact h1 q (by rw [List.length_set]; exact hq)
theorem ptF_length (t : List (List Int)) (p : Int) (x : List Int) : ∀ i, (ptF t p x i).length = t.length ^ (x.length - 1)
  | 0 => by simp [ptF]
  | i + 1 => by rw [ptF, bump_length, ptF_length t p x i]
theorem adF_length (t : List (List Int)) (p : Int) (x : List Int) (times : Int) (c : List Int) : ∀ i, (adF t p x times c i).length = c.length
  | 0 => rfl
  | i + 1 => by rw [adF, bump_length, adF_length t p x times c i]
theorem ptF_in (t : List (List Int)) {p : Int} (hp : 2 ≤ p) (x : List Int) : ∀ i, inP p (ptF t p x i)
  | 0 => fun q hq => by
    simp only [ptF, List.length_replicate] at hq ⊢
    simp [List.getD_eq_getElem?_getD, hq]; omega
  | i + 1 => by rw [ptF]; exact bump_in (by omega) (sgS_in hp i) (ptF_in t hp x i)
theorem adF_in (t : List (List Int)) {p : Int} (hp : 1 ≤ p) (x : List Int) {times : Int} (ht : 0 ≤ times ∧ times ≤ p - 1) {c : List Int} (hc : inP p c) : ∀ i, inP p (adF t p x times c i)
  | 0 => hc
  | i + 1 => by rw [adF]; exact bump_in hp (sgI_in hp ht (i + 1)) (adF_in t hp x ht hc i)
theorem sg_eq {p times : Int} (hp : 2 ≤ p) (ht : 0 ≤ times ∧ times ≤ p - 1) : ∀ i, (p ∣ sgI p times (i + 1) - times * sgS p i) ∧ (p ∣ sgI p times (i + 2) - times * sgS p (i + 1))
  | 0 => by
    have e1 : sgI p times 1 = (p - times).tmod p := rfl
    have e2 : sgI p times 2 = (p - (p - times).tmod p).tmod p := rfl
    have s0 : sgS p 0 = p - 1 := rfl
    have s1 : sgS p 1 = 1 := rfl
    rw [e1, e2, s0, s1]
    have r1 : (p - times).tmod p = (p - times) % p := Int.tmod_eq_emod_of_nonneg (by omega)
    have r1b := Int.emod_nonneg (p - times) (show p ≠ 0 by omega)
    have r1c := Int.emod_lt_of_pos (p - times) (show 0 < p by omega)
    rw [r1]
    have r2 : (p - (p - times) % p).tmod p = (p - (p - times) % p) % p := Int.tmod_eq_emod_of_nonneg (by omega)
    rw [r2]
    refine ⟨?_, ?_⟩
    · refine Int.dvd_of_emod_eq_zero ?_
      rw [Int.emod_sub_emod]
      apply Int.emod_eq_zero_of_dvd
      exact ⟨1 - times, by grind⟩
    · refine Int.dvd_of_emod_eq_zero ?_
      rw [Int.emod_sub_emod, Int.sub_sub, Int.sub_emod, Int.emod_add_emod, ← Int.sub_emod]
      apply Int.emod_eq_zero_of_dvd
      exact ⟨0, by grind⟩
  | i + 1 => by
    obtain ⟨a, b⟩ := sg_eq hp ht i
    refine ⟨b, ?_⟩
    have e : sgI p times (i + 3) = (p - sgI p times (i + 2)).tmod p := rfl
    have e2 : sgI p times (i + 2) = (p - sgI p times (i + 1)).tmod p := rfl
    have s : sgS p (i + 2) = sgS p i := by simp [sgS]
    have i1 := sgI_in (p := p) (by omega) ht (i + 1)
    have i2 := sgI_in (p := p) (by omega) ht (i + 2)
    rw [s]
    have r1 : (p - sgI p times (i + 2)).tmod p = (p - sgI p times (i + 2)) % p := Int.tmod_eq_emod_of_nonneg (by omega)
    have r2 : (p - sgI p times (i + 1)).tmod p = (p - sgI p times (i + 1)) % p := Int.tmod_eq_emod_of_nonneg (by omega)
    refine Int.dvd_of_emod_eq_zero ?_
    rw [show i + 1 + 2 = i + 3 from rfl, e, r1, Int.emod_sub_emod, e2, r2, Int.sub_sub, Int.sub_emod, Int.emod_add_emod, ← Int.sub_emod]
    apply Int.emod_eq_zero_of_dvd
    obtain ⟨z, hz⟩ := a
    exact ⟨z, by rw [← hz]; grind⟩
theorem tmod_dvd {a p : Int} (h : 0 ≤ a) (hp : 1 ≤ p) : p ∣ a.tmod p - a := by
  rw [Int.tmod_eq_emod_of_nonneg h]
  refine Int.dvd_of_emod_eq_zero ?_
  rw [Int.emod_sub_emod, Int.sub_self]; rfl
theorem bump_mod {p s : Int} {a b : Nat} {c : List Int} (hp : 1 ≤ p) (hs : 0 ≤ s ∧ s ≤ p - 1) (hc : inP p c) (q : Nat) (hq : q < c.length) :
    p ∣ (bump p s a b c).getD q 0 - (c.getD q 0 + (if q = a then s else 0) - (if q = b then s else 0)) := by
  have v := hc q hq
  have h1 : p ∣ (c.set a ((c.getD a 0 + s).tmod p)).getD q 0 - (c.getD q 0 + (if q = a then s else 0)) := by
    rw [getD_set _ _ _ _ hq]
    split
    · rename_i h; subst h
      exact tmod_dvd (by omega) hp
    · exact ⟨0, by omega⟩
  have h2 : 0 ≤ (c.set a ((c.getD a 0 + s).tmod p)).getD q 0 := by
    rw [getD_set _ _ _ _ hq]
    split
    · rename_i h; subst h; exact (tmod_in (by omega) hp).1
    · omega
  unfold bump
  rw [getD_set _ _ _ _ (by rw [List.length_set]; exact hq)]
  generalize (c.set a ((c.getD a 0 + s).tmod p)) = d at h1 h2 ⊢
  split
  · rename_i h; subst h
    obtain ⟨z, hz⟩ := h1
    obtain ⟨y, hy⟩ := tmod_dvd (a := d.getD q 0 + p - s) (by omega) hp
    exact ⟨y + z + 1, by grind⟩
  · obtain ⟨z, hz⟩ := h1
    exact ⟨z, by omega⟩
theorem ad_mod {t : List (List Int)} {p : Int} (hp : 2 ≤ p) {x : List Int} {times : Int} (ht : 0 ≤ times ∧ times ≤ p - 1) {c : List Int} (hc : inP p c) (hl : c.length = t.length ^ (x.length - 1)) (q : Nat) (hq : q < c.length) :
    ∀ i, p ∣ (adF t p x times c i).getD q 0 - (c.getD q 0 + times * (ptF t p x i).getD q 0)
  | 0 => by
    have : (ptF t p x 0).getD q 0 = 0 := by simp [ptF, List.getD_eq_getElem?_getD, ← hl, hq]
    rw [this]
    exact ⟨0, by simp [adF]⟩
  | i + 1 => by
    obtain ⟨z, hz⟩ := ad_mod hp ht hc hl q hq i
    obtain ⟨y, hy⟩ := bump_mod (a := pa t x i) (b := pb t x i) (by omega) (sgI_in (by omega) ht (i + 1)) (adF_in t (by omega) x ht hc i) q (by rw [adF_length]; exact hq)
    obtain ⟨u, hu⟩ := bump_mod (a := pa t x i) (b := pb t x i) (by omega) (sgS_in hp i) (ptF_in t hp x i) q (by rw [ptF_length, ← hl]; exact hq)
    obtain ⟨k, hk⟩ := (sg_eq hp ht i).1
    simp only [adF, ptF]
    generalize (bump p (sgI p times (i + 1)) (pa t x i) (pb t x i) (adF t p x times c i)).getD q 0 = A at hy ⊢
    generalize (bump p (sgS p i) (pa t x i) (pb t x i) (ptF t p x i)).getD q 0 = B at hu ⊢
    generalize (adF t p x times c i).getD q 0 = A0 at hy hz
    generalize (ptF t p x i).getD q 0 = B0 at hu hz
    generalize sgI p times (i + 1) = s at hy hk
    generalize sgS p i = r at hu hk
    have eA : A = A0 + (if q = pa t x i then s else 0) - (if q = pb t x i then s else 0) + p * y := by omega
    have eB : B = B0 + (if q = pa t x i then r else 0) - (if q = pb t x i then r else 0) + p * u := by omega
    have es : s = times * r + p * k := by omega
    have e0 : A0 = c.getD q 0 + times * B0 + p * z := by omega
    rw [eA, eB, e0, es]
    split <;> split
    · exact ⟨z + y - times * u, by grind⟩
    · exact ⟨z + y + k - times * u, by grind⟩
    · exact ⟨z + y - k - times * u, by grind⟩
    · exact ⟨z + y - times * u, by grind⟩
def stF (p times : Int) (d c : List Int) : List Int := tab c.length fun q => (c.getD q 0 + times * d.getD q 0).tmod p
theorem stF_length (p times : Int) (d c : List Int) : (stF p times d c).length = c.length := tab_length _ _
theorem stF_in {p times : Int} (hp : 1 ≤ p) (ht : 0 ≤ times) {d c : List Int} (hl : c.length = d.length) (hd : inP p d) (hc : inP p c) : inP p (stF p times d c) := fun q hq => by
  rw [stF_length] at hq
  rw [stF, tab_getD _ _ _ hq]
  have := hc q hq
  have := Int.mul_nonneg ht (hd q (by omega)).1
  exact tmod_in (by omega) hp
theorem eq_of_dvd {p a b : Int} (ha : 0 ≤ a ∧ a ≤ p - 1) (hb : 0 ≤ b ∧ b ≤ p - 1) (h : p ∣ a - b) : a = b := by
  have h1 := Int.emod_emod_of_dvd
  have e : a % p = b % p := (Int.emod_emod_of_dvd a (Int.dvd_refl p)) ▸ (Int.emod_eq_emod_iff_emod_sub_eq_zero.2 (Int.emod_eq_zero_of_dvd h) ▸ by rw [Int.emod_emod])
  rwa [Int.emod_eq_of_lt ha.1 (by omega), Int.emod_eq_of_lt hb.1 (by omega)] at e
theorem ad_eq {t : List (List Int)} {p : Int} (hp : 2 ≤ p) {x : List Int} {times : Int} (ht : 0 ≤ times ∧ times ≤ p - 1) {c : List Int} (hc : inP p c) (hl : c.length = t.length ^ (x.length - 1)) (i : Nat) :
    adF t p x times c i = stF p times (ptF t p x i) c := by
  have hl2 : c.length = (ptF t p x i).length := by rw [ptF_length, hl]
  refine list_ext (by rw [adF_length, stF_length]) fun q hq => ?_
  rw [adF_length] at hq
  have h1 := adF_in t (by omega) x ht hc i q (by rw [adF_length]; exact hq)
  have h2 := stF_in (p := p) (by omega) ht.1 hl2 (ptF_in t hp x i) hc q (by rw [stF_length]; exact hq)
  refine eq_of_dvd h1 h2 ?_
  obtain ⟨z, hz⟩ := ad_mod hp ht hc hl q hq i
  have n := hc q hq
  have m := Int.mul_nonneg ht.1 (ptF_in t hp x i q (by omega)).1
  rw [stF, tab_getD _ _ _ hq]
  obtain ⟨y, hy⟩ := tmod_dvd (a := c.getD q 0 + times * (ptF t p x i).getD q 0) (by omega) (show 1 ≤ p by omega)
  exact ⟨z - y, by grind⟩
end Go.Sx
end
section
open Go Go.Proofs Go.RowKit Go.Shelf
namespace Go.Sx
set_option linter.unusedSimpArgs false
set_option linter.unusedVariables false
theorem delSpec_of {P : Program} {ρ : Shelf.Ren} (L : SlLaysN.n45 P ρ) : DelSpec P (ρ.f 45) := by
  intro w e v l i j h hij hj
  obtain ⟨g, cap, rfl, _, hlt, hn, hm, _, hH⟩ := Lib.holds_of_ownsRow h (fun hv => by
    rcases h.2 with ⟨_, h2⟩ | ⟨g, cap, cur, h2, _⟩
    · omega
    · rw [hv] at h2; cases h2)
  have hmx : cap ≤ 9223372036854775807 := by simp only [maxLen] at hm; omega
  refine (AnyG.slices_Delete_int L g 0 cap i j l w hH hn hmx (by omega) hj).mono ?_
  rintro r w' ⟨rfl, q, rfl⟩
  have hk : (l.take i ++ l.drop j).length = l.length - (j - i) := by simp; omega
  have hy : (l.take i ++ l.drop j ++ List.replicate (j - i) (0 : Int)).length = l.length := by simp; omega
  refine ⟨_, rfl, ?_, rfl, ⟨rfl, Nat.le_add_right _ _⟩, rfl, rfl, by simp, fun b hb => ?_⟩
  · have := Lib.ownsRow_putRow (q := q) (k := l.length - (j - i)) h hy (by omega)
    rw [hk]
    rwa [← hk, List.take_left' rfl, hk] at this
  · have hb : g ≠ b := fun hc => hb (by simp [hdBlock, hc])
    simp [Sort.putRow, Sort.mapBlock, Sort.ahead, Array.getElem?_modify, hb]
def delRen : Shelf.Ren := ⟨fun _ => 91, fun x => match x with | 0 => 0 | 3 => 3 | 4 => 4 | 22 => 27 | 23 => 2 | _ => 0, fun x => x⟩
theorem delLays : SlLaysN.n45 Tryz.prog delRen where
  mixed := by kernel_rfl
  f45 := ⟨Tryz.f91.name, by kernel_rfl, by kernel_rfl⟩
  t0 := by kernel_rfl
  a0 := fun w => by kernel_rfl
  z0 := fun w => by kernel_rfl
  v0 := fun w => by kernel_rfl
  t3 := by kernel_rfl
  a3 := fun w => by kernel_rfl
  z3 := fun w => by kernel_rfl
  v3 := fun w => by kernel_rfl
  t4 := by kernel_rfl
  a4 := fun w => by kernel_rfl
  z4 := fun w => by kernel_rfl
  v4 := fun w => by kernel_rfl
  t22 := by kernel_rfl
  a22 := fun w => by kernel_rfl
  z22 := fun w => by kernel_rfl
  v22 := fun w => by kernel_rfl
  t23 := by kernel_rfl
  a23 := fun w => by kernel_rfl
  z23 := fun w => by kernel_rfl
  v23 := fun w => by kernel_rfl
  i23 := by kernel_rfl
def sDelete_ct : List AD → Option Post := fun _ => none
theorem sDelete_fits : Fits Tryz.prog 91 ⟨[(0, 99), (0, 99)], sDelete_ct⟩ where
  fn := ⟨Tryz.f91, Tryz.func91, by kernel_rfl, by kernel_rfl⟩
  run := fun _ _ _ _ _ _ _ h => by cases h
  mv := fun _ => delSpec_of delLays
  gr := fun h => by cases h
  so := fun h => by cases h
end Go.Sx
end
end
section
open Go Go.Proofs
namespace Go.Sx
set_option linter.unusedSimpArgs false
set_option linter.unusedVariables false
def l01Own_p (l : List Int) : Post := ⟨room l.length, .c (.ints 2 .i64 (l)), []⟩
def l01Own_ct : List AD → Option Post
  | [.c (.ints .i64 (l))] => some (l01Own_p l)
  | _ => none
def l01Own_G : List (Nat × Ctr) := []
def l01Own_V (l : List Int) : Prop :=
 ((room (([] : List Int).length + l.length))∧(([] ++ l = l)∧True))
theorem l01Own_vc (l : List Int) : runF Tryz.prog (gam l01Own_G) noWr noAnn Tryz.f65 (bodyOf Tryz.f65) [] [.c (.ints .i64 (l))] (l01Own_p l) = l01Own_V l := by kernel_rfl
theorem l01Own_ok (l : List Int) (hpre : (l01Own_p l).pre) : l01Own_V l := by
  simp only [l01Own_p, l01Own_V, BrP_iff, u1, u2, u3, u4, u5, u6, u7, u8, u9, v1, v2, v3, v4, v5, v6, v7, v8, v9, w1, w2, w3, w4, markL_length, inB, InR, room, bdsOk] at hpre ⊢
  simp [hpre]
theorem l01Own_fits : Fits Tryz.prog 65 ⟨[], l01Own_ct⟩ := by
  refine ffn (Γ := gam l01Own_G) gok_nil Tryz.func65 fun ds p h hp => ?_
  unfold l01Own_ct at h
  split at h
  · cases h
    exact ⟨noWr, noAnn, by rw [l01Own_vc]; exact l01Own_ok _  hp⟩
  · cases h
def Clone_p (l : List Int) : Post := ⟨l.length ≠ 0 ∧ room l.length, .c (.ints 2 .i64 (l)), []⟩
def Clone_ct : List AD → Option Post
  | [.c (.ints .i64 (l))] => some (Clone_p l)
  | _ => none
def Clone_G : List (Nat × Ctr) := []
def Clone_V (l : List Int) : Prop :=
 ((FC.len (FC.ints IntKind.i64 l) ≠ (0:Nat))∧((room (([] : List Int).length + l.length))∧(([] ++ l = l)∧True)))
theorem Clone_vc (l : List Int) : runF Tryz.prog (gam Clone_G) noWr noAnn Tryz.f75 (bodyOf Tryz.f75) [] [.c (.ints .i64 (l))] (Clone_p l) = Clone_V l := by kernel_rfl
theorem Clone_ok (l : List Int) (hpre : (Clone_p l).pre) : Clone_V l := by
  simp only [Clone_p, Clone_V, BrP_iff, u1, u2, u3, u4, u5, u6, u7, u8, u9, v1, v2, v3, v4, v5, v6, v7, v8, v9, w1, w2, w3, w4, markL_length, inB, InR, room, bdsOk] at hpre ⊢
  obtain ⟨a, b⟩ := hpre
  exact ⟨a, by omega, rfl⟩
theorem Clone_fits : Fits Tryz.prog 75 ⟨[], Clone_ct⟩ := by
  refine ffn (Γ := gam Clone_G) gok_nil Tryz.func75 fun ds p h hp => ?_
  unfold Clone_ct at h
  split at h
  · cases h
    exact ⟨noWr, noAnn, by rw [Clone_vc]; exact Clone_ok _  hp⟩
  · cases h
def numberOf_p (n : Int) (x : List Int) : Post := ⟨1 ≤ n ∧ inT n.toNat x ∧ n ^ x.length ≤ 512 ∧ x.length ≤ 1000, .c (.int .i64 (plc n x)), []⟩
def numberOf_ct : List AD → Option Post
  | [.c (.int .i64 (n)), .c (.ints .i64 (x))] => some (numberOf_p n x)
  | _ => none
def numberOf_ann (n : Int) (x : List Int) : Nat → Option Ann
  | 0 => some (Ann.mk ((Nat)) (fun i => ⟨[(0, .c (.int .i64 (n))), (5, .c (.int .i64 (plc n (x.take i)))), (8, .c (.ro (.ints .i64 (x)))), (9, .c (.int .i64 ((x.length : Int)))), (10, .c (.int .i64 ((i : Int))))], []⟩) (fun i => i ≤ x.length) (fun i => x.length - i) (fun _ => noAnn))
  | _ => none
def numberOf_G : List (Nat × Ctr) := []
def numberOf_V (n : Int) (x : List Int) : Prop :=
 ((∃ x0 : Nat, ((x0 ≤ x.length)∧((n = n)∧(((0:Int) = plc n (List.take x0 x))∧((x = x)∧(((↑(x.length):Int) = (↑(x.length):Int))∧((0:Int) = (↑x0:Int))))))))∧(∀ x1 : Nat, ((x1 ≤ x.length) → (BrP (decide ((↑x1:Int) < (↑(x.length):Int))) ((inB (↑x1:Int) (x.length))∧((InR (plc n (List.take x1 x) * n))∧((InR (plc n (List.take x1 x) * n + x.getD ((↑x1:Int).toNat) (0:Int)))∧((InR ((↑x1:Int) + (1:Int)))∧(∃ x2 : Nat, ((x2 ≤ x.length)∧((x.length - x2 < x.length - x1)∧((n = n)∧((plc n (List.take x1 x) * n + x.getD ((↑x1:Int).toNat) (0:Int) = plc n (List.take x2 x))∧((x = x)∧(((↑(x.length):Int) = (↑(x.length):Int))∧((↑x1:Int) + (1:Int) = (↑x2:Int))))))))))))) ((plc n (List.take x1 x) = plc n x)∧True)))))
theorem numberOf_vc (n : Int) (x : List Int) : runF Tryz.prog (gam numberOf_G) noWr (numberOf_ann n x) Tryz.f92 (bodyOf Tryz.f92) [] [.c (.int .i64 (n)), .c (.ints .i64 (x))] (numberOf_p n x) = numberOf_V n x := by kernel_rfl
theorem numberOf_ok (n : Int) (x : List Int) (hpre : (numberOf_p n x).pre) : numberOf_V n x := by
  simp only [numberOf_p, numberOf_V, BrP_iff, u1, u2, u3, u4, u5, u6, u7, u8, u9, v1, v2, v3, v4, v5, v6, v7, v8, v9, w1, w2, w3, w4, markL_length, inB, InR, room, bdsOk] at hpre ⊢
  obtain ⟨hn, hx, hp, hl⟩ := hpre
  obtain ⟨m, rfl⟩ : ∃ m : Nat, n = (m : Int) := ⟨n.toNat, by omega⟩
  rw [Int.toNat_natCast] at hx
  refine ⟨⟨0, by omega, rfl, rfl⟩, fun i hi => ⟨fun h => ?_, fun h => by rw [List.take_of_length_le (by omega)]⟩⟩
  have a := plc_le (by omega) hx i (by omega)
  have b := plc_le (by omega) hx (i + 1) (by omega)
  have c := hx i (by omega)
  have d := pow_le (n := (m : Int)) (by omega) (show i + 1 ≤ x.length by omega)
  have e := plc_step m x i (by omega)
  have f := Int.mul_nonneg a.1 (show (0 : Int) ≤ m by omega)
  exact ⟨by omega, by omega, by omega, by omega, i + 1, by omega, by omega, e.symm, by omega⟩
theorem numberOf_fits : Fits Tryz.prog 92 ⟨[], numberOf_ct⟩ := by
  refine ffn (Γ := gam numberOf_G) gok_nil Tryz.func92 fun ds p h hp => ?_
  unfold numberOf_ct at h
  split at h
  · cases h
    exact ⟨noWr, numberOf_ann _ _ , by rw [numberOf_vc]; exact numberOf_ok _ _  hp⟩
  · cases h
def l15Place_p (n : Int) (x : List Int) : Post := ⟨1 ≤ n ∧ inT n.toNat x ∧ n ^ x.length ≤ 512 ∧ x.length ≤ 1000, .c (.int .i64 (plc n x)), []⟩
def l15Place_ct : List AD → Option Post
  | [.c (.int .i64 (n)), .c (.ints .i64 (x))] => some (l15Place_p n x)
  | _ => none
def l15Place_ann (n : Int) (x : List Int) : Nat → Option Ann
  | 0 => some (Ann.mk ((Nat)) (fun i => ⟨[(0, .c (.int .i64 (n))), (5, .c (.int .i64 (plc n (x.take i)))), (1, .c (.ro (.ints .i64 (x)))), (6, .c (.int .i64 ((i : Int))))], []⟩) (fun i => i ≤ x.length) (fun i => x.length - i) (fun _ => noAnn))
  | _ => none
def l15Place_G : List (Nat × Ctr) := []
def l15Place_V (n : Int) (x : List Int) : Prop :=
 ((∃ x0 : Nat, ((x0 ≤ x.length)∧((n = n)∧(((0:Int) = plc n (List.take x0 x))∧((x = x)∧((0:Int) = (↑x0:Int)))))))∧(∀ x1 : Nat, ((x1 ≤ x.length) → (BrP (decide ((↑x1:Int) < (↑(x.length):Int))) ((InR (plc n (List.take x1 x) * n))∧((inB (↑x1:Int) (x.length))∧((InR (plc n (List.take x1 x) * n + x.getD ((↑x1:Int).toNat) (0:Int)))∧((InR ((↑x1:Int) + (1:Int)))∧(∃ x2 : Nat, ((x2 ≤ x.length)∧((x.length - x2 < x.length - x1)∧((n = n)∧((plc n (List.take x1 x) * n + x.getD ((↑x1:Int).toNat) (0:Int) = plc n (List.take x2 x))∧((x = x)∧((↑x1:Int) + (1:Int) = (↑x2:Int)))))))))))) ((plc n (List.take x1 x) = plc n x)∧True)))))
theorem l15Place_vc (n : Int) (x : List Int) : runF Tryz.prog (gam l15Place_G) noWr (l15Place_ann n x) Tryz.f66 (bodyOf Tryz.f66) [] [.c (.int .i64 (n)), .c (.ints .i64 (x))] (l15Place_p n x) = l15Place_V n x := by kernel_rfl
theorem l15Place_ok (n : Int) (x : List Int) (hpre : (l15Place_p n x).pre) : l15Place_V n x := by
  simp only [l15Place_p, l15Place_V, BrP_iff, u1, u2, u3, u4, u5, u6, u7, u8, u9, v1, v2, v3, v4, v5, v6, v7, v8, v9, w1, w2, w3, w4, markL_length, inB, InR, room, bdsOk] at hpre ⊢
  obtain ⟨hn, hx, hp, hl⟩ := hpre
  obtain ⟨m, rfl⟩ : ∃ m : Nat, n = (m : Int) := ⟨n.toNat, by omega⟩
  rw [Int.toNat_natCast] at hx
  refine ⟨⟨0, by omega, rfl, rfl⟩, fun i hi => ⟨fun h => ?_, fun h => by rw [List.take_of_length_le (by omega)]⟩⟩
  have a := plc_le (by omega) hx i (by omega)
  have b := plc_le (by omega) hx (i + 1) (by omega)
  have c := hx i (by omega)
  have d := pow_le (n := (m : Int)) (by omega) (show i + 1 ≤ x.length by omega)
  have e := plc_step m x i (by omega)
  have f := Int.mul_nonneg a.1 (show (0 : Int) ≤ m by omega)
  exact ⟨by omega, by omega, by omega, by omega, i + 1, by omega, by omega, e.symm, by omega⟩
theorem l15Place_fits : Fits Tryz.prog 66 ⟨[], l15Place_ct⟩ := by
  refine ffn (Γ := gam l15Place_G) gok_nil Tryz.func66 fun ds p h hp => ?_
  unfold l15Place_ct at h
  split at h
  · cases h
    exact ⟨noWr, l15Place_ann _ _ , by rw [l15Place_vc]; exact l15Place_ok _ _  hp⟩
  · cases h
def bdOk (t : List (List Int)) (p : Int) (x : List Int) : Prop := tabB t = true ∧ 2 ≤ p ∧ p ≤ 7 ∧ inT t.length x ∧ (t.length : Int) ^ (x.length - 1) ≤ 512 ∧ x.length ≤ 1000
def addBoundary_p (t : List (List Int)) (p : Int) (x : List Int) (times : Int) (c : List Int) : Post := ⟨bdOk t p x ∧ 0 ≤ times ∧ times ≤ p - 1 ∧ inP p c ∧ c.length = t.length ^ (x.length - 1), .tup [], [.ints 2 .i64 (adF t p x times c x.length)]⟩
def addBoundary_ct : List AD → Option Post
  | [.c (.rows .i64 (t)), .c (.int .i64 (p)), .c (.ints .i64 (x)), .c (.int .i64 (times)), .c (.ints .i64 (c))] => some (addBoundary_p t p x times c)
  | _ => none
def addBoundary_ann (t : List (List Int)) (p : Int) (x : List Int) (times : Int) (c : List Int) : Nat → Option Ann
  | 0 => some (Ann.mk ((Nat)) (fun i => ⟨[(0, .c (.ro (.rows .i64 (t)))), (1, .c (.int .i64 (p))), (2, .c (.ro (.ints .i64 (x)))), (4, .c (.own (764))), (10, .c (.int .i64 ((t.length : Int)))), (11, .c (.int .i64 (sgI p times i))), (21, .c (.ro (.ints .i64 (x)))), (22, .c (.int .i64 ((x.length : Int)))), (23, .c (.int .i64 ((i : Int))))], [(764, some (.ints 2 .i64 (adF t p x times c i)))]⟩) (fun i => i ≤ x.length) (fun i => x.length - i) (fun i => fun b_ => match b_ with | 2 => some (Ann.mk ((Nat)) (fun k => ⟨[(0, .c (.ro (.rows .i64 (t)))), (1, .c (.int .i64 (p))), (2, .c (.ro (.ints .i64 (x)))), (4, .c (.own (764))), (10, .c (.int .i64 ((t.length : Int)))), (11, .c (.int .i64 (sgI p times (i + 1)))), (21, .c (.ro (.ints .i64 (x)))), (22, .c (.int .i64 ((x.length : Int)))), (23, .c (.int .i64 ((i : Int)))), (12, .c (.int .i64 ((i : Int)))), (13, .c (.int .i64 (x.getD i 0))), (14, .c (.own (38))), (15, .c (.int .i64 (plc t.length (wo i x)))), (16, .c (.int .i64 ((k : Int))))], [(764, some (.ints 2 .i64 (adF t p x times c i))), (38, some (.ints 2 .i64 (mvk t (x.getD i 0) i k (wo i x))))]⟩) (fun k => i ≤ k ∧ k ≤ x.length - 1 ∧ i < x.length) (fun k => x.length - k) (fun _ => noAnn)) | _ => none))
  | _ => none
def addBoundary_G : List (Nat × Ctr) := [(75, ⟨[], Clone_ct⟩), (91, ⟨[(0,99),(0,99)], sDelete_ct⟩), (92, ⟨[], numberOf_ct⟩)]
def addBoundary_c1 (t : List (List Int)) (p : Int) (x : List Int) (times : Int) (c : List Int) (x0 : Nat) := (List.set (adF t p x times c x0) ((plc (↑(t.length):Int) (wo x0 x)).toNat) (Int.tmod ((adF t p x times c x0).getD ((plc (↑(t.length):Int) (wo x0 x)).toNat) (0:Int) + sgI p times (x0 + (1:Nat))) p))
def addBoundary_V (t : List (List Int)) (p : Int) (x : List Int) (times : Int) (c : List Int) : Prop :=
 ((∃ x0 : Nat, ((x0 ≤ x.length)∧((t = t)∧((p = p)∧((x = x)∧(((↑(t.length):Int) = (↑(t.length):Int))∧((times = sgI p times x0)∧((x = x)∧(((↑(x.length):Int) = (↑(x.length):Int))∧(((0:Int) = (↑x0:Int))∧(c = adF t p x times c x0)))))))))))∧(∀ x1 : Nat, ((x1 ≤ x.length) → (BrP (decide ((↑x1:Int) < (↑(x.length):Int))) ((inB (↑x1:Int) (x.length))∧((InR (p - sgI p times x1))∧((p ≠ (0:Int))∧((((x.length ≠ (0:Nat))∧(room (x.length)))∧True)∧((InR ((↑x1:Int) + (1:Int)))∧((((0:Int) ≤ (↑x1:Int))∧(((↑x1:Int) < (↑x1:Int) + (1:Int))∧((↑x1:Int) + (1:Int) ≤ (↑(x.length):Int))))∧(((((1:Int) ≤ (↑(t.length):Int))∧((inT ((↑(t.length):Int).toNat) (List.take ((↑x1:Int).toNat) x ++ List.drop (((↑x1:Int) + (1:Int)).toNat) x))∧(((↑(t.length):Int) ^ (List.take ((↑x1:Int).toNat) x ++ List.drop (((↑x1:Int) + (1:Int)).toNat) x).length ≤ (512:Int))∧((List.take ((↑x1:Int).toNat) x ++ List.drop (((↑x1:Int) + (1:Int)).toNat) x).length ≤ (1000:Nat)))))∧True)∧((∃ x2 : Nat, (((x1 ≤ x2)∧((x2 ≤ x.length - (1:Nat))∧(x1 < x.length)))∧((t = t)∧((p = p)∧((x = x)∧(((↑(t.length):Int) = (↑(t.length):Int))∧((Int.tmod (p - sgI p times x1) p = sgI p times (x1 + (1:Nat)))∧((x = x)∧(((↑(x.length):Int) = (↑(x.length):Int))∧(((↑x1:Int) = (↑x1:Int))∧(((↑x1:Int) = (↑x1:Int))∧((x.getD ((↑x1:Int).toNat) (0:Int) = x.getD x1 (0:Int))∧((plc (↑(t.length):Int) (List.take ((↑x1:Int).toNat) x ++ List.drop (((↑x1:Int) + (1:Int)).toNat) x) = plc (↑(t.length):Int) (wo x1 x))∧(((↑x1:Int) = (↑x2:Int)) ∧
 ((adF t p x times c x1 = adF t p x times c x1)∧(List.take ((↑x1:Int).toNat) x ++ List.drop (((↑x1:Int) + (1:Int)).toNat) x = mvk t (x.getD x1 (0:Int)) x1 x2 (wo x1 x)))))))))))))))))∧(∀ x3 : Nat, (((x1 ≤ x3)∧((x3 ≤ x.length - (1:Nat))∧(x1 < x.length))) → (BrP (decide ((↑x3:Int) < (↑((mvk t (x.getD x1 (0:Int)) x1 x3 (wo x1 x)).length):Int))) ((inB (x.getD x1 (0:Int)) (t.length))∧((inB (↑x3:Int) ((mvk t (x.getD x1 (0:Int)) x1 x3 (wo x1 x)).length))∧((inB ((mvk t (List.getD x x1 (0:Int)) x1 x3 (wo x1 x)).getD ((↑x3:Int).toNat) (0:Int)) ((t.getD ((x.getD x1 (0:Int)).toNat) []).length))∧((inB (↑x3:Int) ((mvk t (x.getD x1 (0:Int)) x1 x3 (wo x1 x)).length))∧((InR ((↑x3:Int) + (1:Int)))∧(∃ x4 : Nat, (((x1 ≤ x4)∧((x4 ≤ x.length - (1:Nat))∧(x1 < x.length)))∧((x.length - x4 < x.length - x3)∧((t = t)∧((p = p)∧((x = x)∧(((↑(t.length):Int) = (↑(t.length):Int))∧((sgI p times (x1 + (1:Nat)) = sgI p times (x1 + (1:Nat)))∧((x = x)∧(((↑(x.length):Int) = (↑(x.length):Int))∧(((↑x1:Int) = (↑x1:Int))∧(((↑x1:Int) = (↑x1:Int))∧((x.getD x1 (0:Int) = x.getD x1 (0:Int))∧((plc (↑(t.length):Int) (wo x1 x) = plc (↑(t.length):Int) (wo x1 x))∧(((↑x3:Int) + (1:Int) = (↑x4:Int))∧((adF t p x times c x1 = adF t p x times c x1) ∧
 (List.set (mvk t (x.getD x1 (0:Int)) x1 x3 (wo x1 x)) ((↑x3:Int).toNat) ((List.getD t ((List.getD x x1 (0:Int)).toNat) []).getD (((mvk t (List.getD x x1 (0:Int)) x1 x3 (wo x1 x)).getD ((↑x3:Int).toNat) (0:Int)).toNat) (0:Int)) = mvk t (x.getD x1 (0:Int)) x1 x4 (wo x1 x))))))))))))))))))))))) (((((1:Int) ≤ (↑(t.length):Int))∧((inT ((↑(t.length):Int).toNat) (mvk t (x.getD x1 (0:Int)) x1 x3 (wo x1 x)))∧(((↑(t.length):Int) ^ (mvk t (x.getD x1 (0:Int)) x1 x3 (wo x1 x)).length ≤ (512:Int))∧((mvk t (x.getD x1 (0:Int)) x1 x3 (wo x1 x)).length ≤ (1000:Nat)))))∧True)∧((inB (plc (↑(t.length):Int) (wo x1 x)) ((adF t p x times c x1).length))∧((InR ((adF t p x times c x1).getD ((plc (↑(t.length):Int) (wo x1 x)).toNat) (0:Int) + sgI p times (x1 + (1:Nat))))∧((p ≠ (0:Int))∧((inB (plc (↑(t.length):Int) (wo x1 x)) ((adF t p x times c x1).length))∧((inB (plc (↑(t.length):Int) (mvk t (x.getD x1 (0:Int)) x1 x3 (wo x1 x))) ((addBoundary_c1 t p x times c x1).length))∧((InR ((addBoundary_c1 t p x times c x1).getD ((plc (↑(t.length):Int) (mvk t (x.getD x1 (0:Int)) x1 x3 (wo x1 x))).toNat) (0:Int) + p))∧((InR ((addBoundary_c1 t p x times c x1).getD ((plc (↑(t.length):Int) (mvk t (x.getD x1 (0:Int)) x1 x3 (wo x1 x))).toNat) (0:Int) + p - sgI p times (x1 + (1:Nat))))∧((p ≠ (0:Int))∧((inB (plc (↑(t.length):Int) (mvk t (x.getD x1 (0:Int)) x1 x3 (wo x1 x))) ((addBoundary_c1 t p x times c x1).length))∧((InR ((↑x1:Int) + (1:Int)))∧(∃ x5 : Nat, ((x5 ≤ x.length)∧((x.length - x5 < x.length - x1)∧((t = t) ∧
 ((p = p)∧((x = x)∧(((↑(t.length):Int) = (↑(t.length):Int))∧((sgI p times (x1 + (1:Nat)) = sgI p times x5)∧((x = x)∧(((↑(x.length):Int) = (↑(x.length):Int))∧(((↑x1:Int) + (1:Int) = (↑x5:Int))∧(List.set (addBoundary_c1 t p x times c x1) ((plc (↑(t.length):Int) (mvk t (x.getD x1 (0:Int)) x1 x3 (wo x1 x))).toNat) (Int.tmod ((addBoundary_c1 t p x times c x1).getD ((plc (↑(t.length):Int) (mvk t (x.getD x1 (0:Int)) x1 x3 (wo x1 x))).toNat) (0:Int) + p - sgI p times (x1 + (1:Nat))) p) = adF t p x times c x5)))))))))))))))))))))))))))))))))) (True∧((adF t p x times c x1 = adF t p x times c (x.length))∧True))))))
theorem addBoundary_vc (t : List (List Int)) (p : Int) (x : List Int) (times : Int) (c : List Int) : runF Tryz.prog (gam addBoundary_G) noWr (addBoundary_ann t p x times c) Tryz.f63 (bodyOf Tryz.f63) [(4, 0)] [.c (.rows .i64 (t)), .c (.int .i64 (p)), .c (.ints .i64 (x)), .c (.int .i64 (times)), .c (.ints .i64 (c))] (addBoundary_p t p x times c) = addBoundary_V t p x times c := by kernel_rfl
theorem addBoundary_ok (t : List (List Int)) (p : Int) (x : List Int) (times : Int) (c : List Int) (hpre : (addBoundary_p t p x times c).pre) : addBoundary_V t p x times c := by
  simp only [addBoundary_p, addBoundary_V, addBoundary_c1, BrP_iff, u1, u2, u3, u4, u5, u6, u7, u8, u9, v1, v2, v3, v4, v5, v6, v7, v8, v9, w1, w2, w3, w4, markL_length, inB, InR, room, bdsOk] at hpre ⊢
  obtain ⟨⟨h1, p1, p2, hx, hN, hl⟩, t1, t2, hc, hcl⟩ := hpre
  obtain ⟨n1, n2, ht⟩ := tabB_of h1
  have hcN : (c.length : Int) = (t.length : Int) ^ (x.length - 1) := by rw [hcl, Int.natCast_pow]
  refine ⟨⟨0, by omega, rfl, rfl, rfl⟩, fun i hi => ⟨fun h => ?_, fun h => by rw [show i = x.length by omega]⟩⟩
  have hi' : i < x.length := by omega
  have s1 := sgI_in (p := p) (by omega) ⟨t1, t2⟩ i
  have s2 := sgI_in (p := p) (by omega) ⟨t1, t2⟩ (i + 1)
  have hw := wo_in hx hi'
  have hwl := wo_length i x hi'
  have ew : List.take i x ++ List.drop ((i : Int) + 1).toNat x = wo i x := by rw [show ((i : Int) + 1).toNat = i + 1 by omega]; rfl
  have ev : min i x.length + (x.length - ((i : Int) + 1).toNat) = x.length - 1 := by omega
  have xi := hx i hi'
  have A := plc_all n1 hw
  rw [hwl] at A
  rw [ew, ev]
  refine ⟨by omega, by omega, by omega, ⟨by omega, by omega⟩, by omega, by omega, ⟨by omega, hw, hN, by omega⟩, ⟨i, by omega, rfl, rfl, rfl, (mvk_none _ _ _ _).symm⟩, fun k ⟨hk1, hk2, _⟩ => ⟨fun h3 => ?_, fun h3 => ?_⟩⟩
  · rw [mvk_length, hwl] at h3
    have v := mvk_in h1 hw (c := x.getD i 0) (by omega) i k k (by rw [mvk_length, hwl]; omega)
    have hat := mvk_at t (x.getD i 0) i k (wo i x) (by omega)
    have r := (ht (x.getD i 0).toNat (by omega)).1
    rw [mvk_length, hwl]
    refine ⟨by omega, by omega, by omega, by omega, by omega, k + 1, by omega, by omega, by omega, ?_⟩
    rw [hat]
    exact mvk_step t (x.getD i 0) i k (wo i x) hk1
  · rw [mvk_length, hwl] at h3
    have ek : k = x.length - 1 := by omega
    subst ek
    have hb := mvk_in h1 hw (c := x.getD i 0) (by omega) i (x.length - 1)
    have B := plc_all n1 hb
    rw [mvk_length, hwl] at B
    have hal := adF_length t p x times c i
    have hai := adF_in t (p := p) (by omega) x ⟨t1, t2⟩ hc i
    have va := hai (plc t.length (wo i x)).toNat (by omega)
    have vb := hai (plc t.length (mvk t (x.getD i 0) i (x.length - 1) (wo i x))).toNat (by omega)
    have vc : 0 ≤ ((adF t p x times c i).set (plc t.length (wo i x)).toNat (((adF t p x times c i).getD (plc t.length (wo i x)).toNat 0 + sgI p times (i + 1)).tmod p)).getD (plc t.length (mvk t (x.getD i 0) i (x.length - 1) (wo i x))).toNat 0 ∧ ((adF t p x times c i).set (plc t.length (wo i x)).toNat (((adF t p x times c i).getD (plc t.length (wo i x)).toNat 0 + sgI p times (i + 1)).tmod p)).getD (plc t.length (mvk t (x.getD i 0) i (x.length - 1) (wo i x))).toNat 0 ≤ p - 1 := by
      rw [getD_set _ _ _ _ (by omega)]
      split
      · exact tmod_in (by omega) (by omega)
      · exact vb
    rw [mvk_length, hwl]
    refine ⟨⟨by omega, hb, hN, by omega⟩, by omega, by omega, by omega, by omega, by omega, by omega, by omega, by omega, by omega, by omega, i + 1, by omega, by omega, rfl, by omega, rfl⟩
theorem addBoundary_fits : Fits Tryz.prog 63 ⟨[(4, 0)], addBoundary_ct⟩ := by
  refine ffn (Γ := gam addBoundary_G) (gok_cons Clone_fits (gok_cons sDelete_fits (gok_cons numberOf_fits gok_nil))) Tryz.func63 fun ds p h hp => ?_
  unfold addBoundary_ct at h
  split at h
  · cases h
    exact ⟨noWr, addBoundary_ann _ _ _ _ _ , by rw [addBoundary_vc]; exact addBoundary_ok _ _ _ _ _  hp⟩
  · cases h
def l15Tuples_p (t : List (List Int)) (p : Int) (x : List Int) : Post := ⟨bdOk t p x ∧ 1 ≤ x.length, .c (.ints 2 .i64 (ptF t p x x.length)), []⟩
def l15Tuples_ct : List AD → Option Post
  | [.c (.rows .i64 (t)), .c (.int .i64 (p)), .c (.ints .i64 (x))] => some (l15Tuples_p t p x)
  | _ => none
def l15Tuples_ann (t : List (List Int)) (p : Int) (x : List Int) : Nat → Option Ann
  | 0 => some (Ann.mk ((Nat)) (fun i => ⟨[(0, .c (.ro (.rows .i64 (t)))), (1, .c (.int .i64 (p))), (2, .c (.ro (.ints .i64 (x)))), (7, .c (.int .i64 ((t.length : Int)))), (8, .c (.own (23))), (9, .c (.int .i64 ((i : Int))))], [(23, some (.ints 2 .i64 (ptF t p x i)))]⟩) (fun i => i ≤ x.length) (fun i => x.length - i) (fun i => fun b_ => match b_ with | 2 => some (Ann.mk ((Nat)) (fun k => ⟨[(0, .c (.ro (.rows .i64 (t)))), (1, .c (.int .i64 (p))), (2, .c (.ro (.ints .i64 (x)))), (7, .c (.int .i64 ((t.length : Int)))), (8, .c (.own (23))), (9, .c (.int .i64 ((i : Int)))), (10, .c (.own (38))), (11, .c (.own (40))), (12, .c (.int .i64 ((k : Int))))], [(23, some (.ints 2 .i64 (ptF t p x i))), (38, some (.ints 2 .i64 (wo i x))), (40, some (.ints 2 .i64 (mvk t (x.getD i 0) i k (wo i x))))]⟩) (fun k => i ≤ k ∧ k ≤ x.length - 1 ∧ i < x.length) (fun k => x.length - k) (fun _ => noAnn)) | _ => none))
  | _ => none
def l15Tuples_G : List (Nat × Ctr) := [(56, ⟨[], l15Power_ct⟩), (65, ⟨[], l01Own_ct⟩), (66, ⟨[], l15Place_ct⟩)]
def l15Tuples_c1 (t : List (List Int)) (p : Int) (x : List Int) (x0 : Nat) := (List.set (ptF t p x x0) ((plc (↑(t.length):Int) (wo x0 x)).toNat) (Int.tmod ((ptF t p x x0).getD ((plc (↑(t.length):Int) (wo x0 x)).toNat) (0:Int) + (p - (1:Int))) p))
def l15Tuples_c2 (t : List (List Int)) (p : Int) (x : List Int) (x0 : Nat) := (List.set (ptF t p x x0) ((plc (↑(t.length):Int) (wo x0 x)).toNat) (Int.tmod ((ptF t p x x0).getD ((plc (↑(t.length):Int) (wo x0 x)).toNat) (0:Int) + (1:Int)) p))
def l15Tuples_c3 (t : List (List Int)) (x : List Int) (x0 : Nat) (x1 : Nat) := (plc (↑(t.length):Int) (mvk t (x.getD x0 (0:Int)) x0 x1 (wo x0 x)))
def l15Tuples_c4 (t : List (List Int)) (x : List Int) (x0 : Nat) (x1 : Nat) := (mvk t (x.getD x0 (0:Int)) x0 x1 (wo x0 x))
def l15Tuples_V (t : List (List Int)) (p : Int) (x : List Int) : Prop :=
 ((InR ((↑(x.length):Int) - (1:Int)))∧(((((1:Int) ≤ (↑(t.length):Int))∧(((↑(t.length):Int) ≤ (12:Int))∧(((0:Int) ≤ (↑(x.length):Int) - (1:Int))∧((↑(x.length):Int) - (1:Int) ≤ (1000:Int)))))∧True)∧((((0:Int) ≤ if (↑(t.length):Int) ^ ((↑(x.length):Int) - (1:Int)).toNat ≤ (512:Int) then (↑(t.length):Int) ^ ((↑(x.length):Int) - (1:Int)).toNat else (513:Int))∧(((if (↑(t.length):Int) ^ ((↑(x.length):Int) - (1:Int)).toNat ≤ (512:Int) then (↑(t.length):Int) ^ ((↑(x.length):Int) - (1:Int)).toNat else (513:Int)) ≤ if (↑(t.length):Int) ^ ((↑(x.length):Int) - (1:Int)).toNat ≤ (512:Int) then (↑(t.length):Int) ^ ((↑(x.length):Int) - (1:Int)).toNat else (513:Int))∧(room ((if (↑(t.length):Int) ^ ((↑(x.length):Int) - (1:Int)).toNat ≤ (512:Int) then (↑(t.length):Int) ^ ((↑(x.length):Int) - (1:Int)).toNat else (513:Int)).toNat))))∧((∃ x0 : Nat, ((x0 ≤ x.length)∧((t = t)∧((p = p)∧((x = x)∧(((↑(t.length):Int) = (↑(t.length):Int))∧(((0:Int) = (↑x0:Int))∧(List.replicate ((if (↑(t.length):Int) ^ ((↑(x.length):Int) - (1:Int)).toNat ≤ (512:Int) then (↑(t.length):Int) ^ ((↑(x.length):Int) - (1:Int)).toNat else (513:Int)).toNat) (0:Int) = ptF t p x x0))))))))∧(∀ x1 : Nat, ((x1 ≤ x.length) → (BrP (decide ((↑x1:Int) < (↑(x.length):Int))) ((bdsOk (x.length) Option.none (Option.some (↑x1:Int)))∧(((room ((cutL x Option.none (Option.some (↑x1:Int))).length))∧True)∧((InR ((↑x1:Int) + (1:Int)))∧((bdsOk (x.length) (Option.some ((↑x1:Int) + (1:Int))) Option.none) ∧
 ((room ((cutL x Option.none (Option.some (↑x1:Int))).length + (cutL x (Option.some ((↑x1:Int) + (1:Int))) Option.none).length))∧(((room ((cutL x Option.none (Option.some (↑x1:Int)) ++ cutL x (Option.some ((↑x1:Int) + (1:Int))) Option.none).length))∧True)∧((∃ x2 : Nat, (((x1 ≤ x2)∧((x2 ≤ x.length - (1:Nat))∧(x1 < x.length)))∧((t = t)∧((p = p)∧((x = x)∧(((↑(t.length):Int) = (↑(t.length):Int))∧(((↑x1:Int) = (↑x1:Int))∧(((↑x1:Int) = (↑x2:Int))∧((ptF t p x x1 = ptF t p x x1)∧((cutL x Option.none (Option.some (↑x1:Int)) ++ cutL x (Option.some ((↑x1:Int) + (1:Int))) Option.none = wo x1 x)∧(cutL x Option.none (Option.some (↑x1:Int)) ++ cutL x (Option.some ((↑x1:Int) + (1:Int))) Option.none = mvk t (x.getD x1 (0:Int)) x1 x2 (wo x1 x))))))))))))∧(∀ x3 : Nat, (((x1 ≤ x3)∧((x3 ≤ x.length - (1:Nat))∧(x1 < x.length))) → (BrP (decide ((↑x3:Int) < (↑((mvk t (x.getD x1 (0:Int)) x1 x3 (wo x1 x)).length):Int))) ((inB (↑x1:Int) (x.length))∧((inB (x.getD ((↑x1:Int).toNat) (0:Int)) (t.length))∧((inB (↑x3:Int) ((l15Tuples_c4 t x x1 x3).length))∧((inB ((l15Tuples_c4 t x x1 x3).getD ((↑x3:Int).toNat) (0:Int)) ((t.getD ((x.getD ((↑x1:Int).toNat) (0:Int)).toNat) []).length))∧((inB (↑x3:Int) ((l15Tuples_c4 t x x1 x3).length))∧((InR ((↑x3:Int) + (1:Int)))∧(∃ x4 : Nat, (((x1 ≤ x4)∧((x4 ≤ x.length - (1:Nat))∧(x1 < x.length)))∧((x.length - x4 < x.length - x3)∧((t = t)∧((p = p)∧((x = x)∧(((↑(t.length):Int) = (↑(t.length):Int))∧(((↑x1:Int) = (↑x1:Int))∧(((↑x3:Int) + (1:Int) = (↑x4:Int)) ∧
 ((ptF t p x x1 = ptF t p x x1)∧((wo x1 x = wo x1 x)∧(List.set (l15Tuples_c4 t x x1 x3) ((↑x3:Int).toNat) ((List.getD t ((List.getD x ((↑x1:Int).toNat) (0:Int)).toNat) []).getD (((l15Tuples_c4 t x x1 x3).getD ((↑x3:Int).toNat) (0:Int)).toNat) (0:Int)) = mvk t (x.getD x1 (0:Int)) x1 x4 (wo x1 x))))))))))))))))))) (((2:Int) ≠ (0:Int))∧(BrP (Int.tmod (↑x1:Int) (2:Int) == (0:Int)) ((InR (p - (1:Int)))∧(((((1:Int) ≤ (↑(t.length):Int))∧((inT ((↑(t.length):Int).toNat) (wo x1 x))∧(((↑(t.length):Int) ^ (wo x1 x).length ≤ (512:Int))∧((wo x1 x).length ≤ (1000:Nat)))))∧True)∧(((((1:Int) ≤ (↑(t.length):Int))∧((inT ((↑(t.length):Int).toNat) (l15Tuples_c4 t x x1 x3))∧(((↑(t.length):Int) ^ (l15Tuples_c4 t x x1 x3).length ≤ (512:Int))∧((l15Tuples_c4 t x x1 x3).length ≤ (1000:Nat)))))∧True)∧((inB (plc (↑(t.length):Int) (wo x1 x)) ((ptF t p x x1).length))∧((InR ((ptF t p x x1).getD ((plc (↑(t.length):Int) (wo x1 x)).toNat) (0:Int) + (p - (1:Int))))∧((p ≠ (0:Int))∧((inB (plc (↑(t.length):Int) (wo x1 x)) ((ptF t p x x1).length))∧((inB (l15Tuples_c3 t x x1 x3) ((l15Tuples_c1 t p x x1).length))∧((InR ((l15Tuples_c1 t p x x1).getD ((l15Tuples_c3 t x x1 x3).toNat) (0:Int) + p))∧((InR ((l15Tuples_c1 t p x x1).getD ((l15Tuples_c3 t x x1 x3).toNat) (0:Int) + p - (p - (1:Int))))∧((p ≠ (0:Int))∧((inB (l15Tuples_c3 t x x1 x3) ((l15Tuples_c1 t p x x1).length))∧((InR ((↑x1:Int) + (1:Int)))∧(∃ x5 : Nat, ((x5 ≤ x.length)∧((x.length - x5 < x.length - x1)∧((t = t)∧((p = p)∧((x = x) ∧
 (((↑(t.length):Int) = (↑(t.length):Int))∧(((↑x1:Int) + (1:Int) = (↑x5:Int))∧(List.set (l15Tuples_c1 t p x x1) ((l15Tuples_c3 t x x1 x3).toNat) (Int.tmod ((l15Tuples_c1 t p x x1).getD ((l15Tuples_c3 t x x1 x3).toNat) (0:Int) + p - (p - (1:Int))) p) = ptF t p x x5)))))))))))))))))))))) (((((1:Int) ≤ (↑(t.length):Int))∧((inT ((↑(t.length):Int).toNat) (wo x1 x))∧(((↑(t.length):Int) ^ (wo x1 x).length ≤ (512:Int))∧((wo x1 x).length ≤ (1000:Nat)))))∧True)∧(((((1:Int) ≤ (↑(t.length):Int))∧((inT ((↑(t.length):Int).toNat) (l15Tuples_c4 t x x1 x3))∧(((↑(t.length):Int) ^ (l15Tuples_c4 t x x1 x3).length ≤ (512:Int))∧((l15Tuples_c4 t x x1 x3).length ≤ (1000:Nat)))))∧True)∧((inB (plc (↑(t.length):Int) (wo x1 x)) ((ptF t p x x1).length))∧((InR ((ptF t p x x1).getD ((plc (↑(t.length):Int) (wo x1 x)).toNat) (0:Int) + (1:Int)))∧((p ≠ (0:Int))∧((inB (plc (↑(t.length):Int) (wo x1 x)) ((ptF t p x x1).length))∧((inB (l15Tuples_c3 t x x1 x3) ((l15Tuples_c2 t p x x1).length))∧((InR ((l15Tuples_c2 t p x x1).getD ((l15Tuples_c3 t x x1 x3).toNat) (0:Int) + p))∧((InR ((l15Tuples_c2 t p x x1).getD ((l15Tuples_c3 t x x1 x3).toNat) (0:Int) + p - (1:Int)))∧((p ≠ (0:Int))∧((inB (l15Tuples_c3 t x x1 x3) ((l15Tuples_c2 t p x x1).length))∧((InR ((↑x1:Int) + (1:Int)))∧(∃ x6 : Nat, ((x6 ≤ x.length)∧((x.length - x6 < x.length - x1)∧((t = t)∧((p = p)∧((x = x)∧(((↑(t.length):Int) = (↑(t.length):Int))∧(((↑x1:Int) + (1:Int) = (↑x6:Int)) ∧
 (List.set (l15Tuples_c2 t p x x1) ((l15Tuples_c3 t x x1 x3).toNat) (Int.tmod ((l15Tuples_c2 t p x x1).getD ((l15Tuples_c3 t x x1 x3).toNat) (0:Int) + p - (1:Int)) p) = ptF t p x x6))))))))))))))))))))))))))))))))) ((ptF t p x x1 = ptF t p x (x.length))∧True))))))))
theorem l15Tuples_vc (t : List (List Int)) (p : Int) (x : List Int) : runF Tryz.prog (gam l15Tuples_G) noWr (l15Tuples_ann t p x) Tryz.f32 (bodyOf Tryz.f32) [] [.c (.rows .i64 (t)), .c (.int .i64 (p)), .c (.ints .i64 (x))] (l15Tuples_p t p x) = l15Tuples_V t p x := by kernel_rfl
theorem l15Tuples_ok (t : List (List Int)) (p : Int) (x : List Int) (hpre : (l15Tuples_p t p x).pre) : l15Tuples_V t p x := by
  simp only [l15Tuples_p, l15Tuples_V, l15Tuples_c1, l15Tuples_c2, l15Tuples_c3, l15Tuples_c4, BrP_iff, u1, u2, u3, u4, u5, u6, u7, u8, u9, v1, v2, v3, v4, v5, v6, v7, v8, v9, w1, w2, w3, w4, markL_length, inB, InR, room, bdsOk] at hpre ⊢
  obtain ⟨⟨h1, p1, p2, hx, hN, hl⟩, hx1⟩ := hpre
  obtain ⟨n1, n2, ht⟩ := tabB_of h1
  have et : ((x.length : Int) - 1).toNat = x.length - 1 := by omega
  have eN : (t.length : Int) ^ (x.length - 1) = ((t.length ^ (x.length - 1) : Nat) : Int) := (Int.natCast_pow _ _).symm
  rw [et, if_pos hN]
  refine ⟨by omega, by omega, ⟨by rw [eN]; omega, by omega, by rw [eN] at hN ⊢; omega⟩, ⟨0, by omega, rfl, by rw [eN, Int.toNat_natCast]; rfl⟩, fun i hi => ⟨fun h => ?_, fun h => by rw [show i = x.length by omega]⟩⟩
  have hi' : i < x.length := by omega
  have hw := wo_in hx hi'
  have hwl := wo_length i x hi'
  have c1 : cutL x none (some (i : Int)) = x.take i := by simp [cutL]
  have c2 : cutL x (some ((i : Int) + 1)) none = x.drop (i + 1) := by simp only [cutL]; rw [show ((i : Int) + 1).toNat = i + 1 by omega]
  have ew : x.take i ++ x.drop (i + 1) = wo i x := rfl
  have xi := hx i hi'
  have A := plc_all n1 hw
  rw [hwl] at A
  rw [c1, c2, ew]
  have cl1 : (x.take i).length = i := by simp; omega
  have cl2 : (x.drop (i + 1)).length = x.length - (i + 1) := by simp
  rw [cl1, cl2]
  refine ⟨by omega, by omega, by omega, by omega, by omega, by omega, ⟨i, by omega, rfl, rfl, (mvk_none _ _ _ _).symm⟩, fun k ⟨hk1, hk2, _⟩ => ⟨fun h3 => ?_, fun h3 => ?_⟩⟩
  · rw [mvk_length, hwl] at h3
    have v := mvk_in h1 hw (c := x.getD i 0) (by omega) i k k (by rw [mvk_length, hwl]; omega)
    have hat := mvk_at t (x.getD i 0) i k (wo i x) (by omega)
    have r := (ht (x.getD i 0).toNat (by omega)).1
    rw [mvk_length, hwl]
    refine ⟨by omega, by omega, by omega, by omega, by omega, by omega, k + 1, by omega, by omega, by omega, ?_⟩
    rw [hat]
    exact mvk_step t (x.getD i 0) i k (wo i x) hk1
  · rw [mvk_length, hwl] at h3
    have ek : k = x.length - 1 := by omega
    subst ek
    have hb := mvk_in h1 hw (c := x.getD i 0) (by omega) i (x.length - 1)
    have B := plc_all n1 hb
    rw [mvk_length, hwl] at B
    have hal := ptF_length t p x i
    have hai := ptF_in t p1 x i
    rw [eN] at A B
    have va := hai (plc t.length (wo i x)).toNat (by omega)
    have vb := hai (plc t.length (mvk t (x.getD i 0) i (x.length - 1) (wo i x))).toNat (by omega)
    have vc : ∀ s, 0 ≤ s → s ≤ p - 1 → 0 ≤ ((ptF t p x i).set (plc t.length (wo i x)).toNat (((ptF t p x i).getD (plc t.length (wo i x)).toNat 0 + s).tmod p)).getD (plc t.length (mvk t (x.getD i 0) i (x.length - 1) (wo i x))).toNat 0 ∧ ((ptF t p x i).set (plc t.length (wo i x)).toNat (((ptF t p x i).getD (plc t.length (wo i x)).toNat 0 + s).tmod p)).getD (plc t.length (mvk t (x.getD i 0) i (x.length - 1) (wo i x))).toNat 0 ≤ p - 1 := fun s s1 s2 => by
      rw [getD_set _ _ _ _ (by omega)]
      split
      · exact tmod_in (by omega) (by omega)
      · exact vb
    have em : ((i : Int)).tmod 2 = ((i % 2 : Nat) : Int) := by rw [Int.tmod_eq_emod_of_nonneg (by omega)]; omega
    rw [mvk_length, hwl, em]
    refine ⟨by omega, fun h4 => ?_, fun h4 => ?_⟩
    · have es : sgS p i = p - 1 := if_pos (by omega)
      have v := vc (p - 1) (by omega) (by omega)
      refine ⟨by omega, ⟨by omega, hw, hN, by omega⟩, ⟨by omega, hb, hN, by omega⟩, by omega, by omega, by omega, by omega, by omega, by omega, by omega, by omega, by omega, by omega, i + 1, by omega, by omega, by omega, ?_⟩
      rw [ptF, es]; rfl
    · have es : sgS p i = 1 := if_neg (by omega)
      have v := vc 1 (by omega) (by omega)
      refine ⟨⟨by omega, hw, hN, by omega⟩, ⟨by omega, hb, hN, by omega⟩, by omega, by omega, by omega, by omega, by omega, by omega, by omega, by omega, by omega, by omega, i + 1, by omega, by omega, by omega, ?_⟩
      rw [ptF, es]; rfl
theorem l15Tuples_fits : Fits Tryz.prog 32 ⟨[], l15Tuples_ct⟩ := by
  refine ffn (Γ := gam l15Tuples_G) (gok_cons l15Power_fits (gok_cons l01Own_fits (gok_cons l15Place_fits gok_nil))) Tryz.func32 fun ds p h hp => ?_
  unfold l15Tuples_ct at h
  split at h
  · cases h
    exact ⟨noWr, l15Tuples_ann _ _ _ , by rw [l15Tuples_vc]; exact l15Tuples_ok _ _ _  hp⟩
  · cases h
def bdF (t : List (List Int)) (p : Int) (k : Nat) (c : List Int) : Nat → List Int
  | 0 => List.replicate (t.length ^ (k - 1)) 0
  | i + 1 => if c.getD i 0 = 0 then bdF t p k c i else stF p (c.getD i 0) (ptF t p (digN t.length k i) k) (bdF t p k c i)
end Go.Sx
end
