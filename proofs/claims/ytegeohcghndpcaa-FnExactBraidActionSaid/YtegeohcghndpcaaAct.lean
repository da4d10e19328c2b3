/- Contracts on the way of BraidAction. -/
import Derived.Test.YtegeohcghndpcaaSol
open Go Go.Proofs
namespace Go.Sx
set_option linter.unusedSimpArgs false
set_option linter.unusedVariables false

/-- An injective map of the numbers below N is onto. -/
theorem inj_onto : ∀ (N : Nat) (f : Nat → Nat), (∀ i, i < N → f i < N) → (∀ i j, i < N → j < N → f i = f j → i = j) → ∀ y, y < N → ∃ i, i < N ∧ f i = y
  | 0, _, _, _, y, hy => by omega
  | N + 1, f, h1, h2, y, hy => by
    have hm := h1 N (by omega)
    have ih := inj_onto N (fun i => if f i = N then f N else f i) (fun i hi => by
        show (if f i = N then f N else f i) < N
        have a := h1 i (by omega)
        split
        · rename_i e
          have : f N ≠ N := fun c => by have := h2 i N (by omega) (by omega) (by rw [e, c]); omega
          omega
        · omega)
      (fun i j hi hj h => by
        have h : (if f i = N then f N else f i) = (if f j = N then f N else f j) := h
        split at h
        · split at h
          · exact h2 i j (by omega) (by omega) (by omega)
          · have := h2 N j (by omega) (by omega) h; omega
        · split at h
          · have := h2 i N (by omega) (by omega) h; omega
          · exact h2 i j (by omega) (by omega) h)
    by_cases e : f N = y
    · exact ⟨N, by omega, e⟩
    · by_cases e2 : y = N
      · obtain ⟨i, hi, h3⟩ := ih (f N) (by omega)
        have h3 : (if f i = N then f N else f i) = f N := h3
        split at h3
        · rename_i e3; exact ⟨i, by omega, by omega⟩
        · have := h2 i N (by omega) (by omega) h3; omega
      · obtain ⟨i, hi, h3⟩ := ih y (by omega)
        have h3 : (if f i = N then f N else f i) = y := h3
        split at h3
        · exact absurd h3 e
        · exact ⟨i, by omega, h3⟩

theorem solB_of {F S : List (List Int)} (h : solB F S = true) : pmB F S = true ∧ ∀ p q, p < F.length * F.length → q < F.length * F.length → ¬ coQ F S p q := by
  simp only [solB, Bool.and_eq_true] at h
  refine ⟨h.1.1, fun p q hp hq hc => ?_⟩
  have h1 : coF F S = none := by have := h.1.2; simpa using this
  have firstO_none : ∀ {n : Nat} {r : Nat → Option (List Int)} {k : Nat}, k ≤ n → firstO n r k = none → ∀ i, n - k ≤ i → i < n → r i = none := by
    intro n r k
    induction k with
    | zero => intro _ _ i h1 h2; omega
    | succ k ih =>
      intro hk h i h1 h2
      simp only [firstO, Option.or_eq_none_iff] at h
      by_cases hi : i = n - (k + 1)
      · subst hi; exact h.1
      · exact ih (by omega) h.2 i (by omega) h2
  have h2 := firstO_none (Nat.le_refl _) h1 p (by omega) hp
  have h3 := firstO_none (Nat.le_refl _) h2 q (by omega) hq
  rw [coZ, if_pos hc] at h3
  cases h3

/-- Where pair p is led. -/
def toU (F S : List (List Int)) (p : Nat) : Nat := (en F (p / F.length) (p % F.length)).toNat
def toV (F S : List (List Int)) (p : Nat) : Nat := (en S (p / F.length) (p % F.length)).toNat

theorem toUV_in {F S : List (List Int)} (h : pmB F S = true) {p : Nat} (hp : p < F.length * F.length) :
    toU F S p < F.length ∧ toV F S p < F.length ∧ en F (p / F.length) (p % F.length) = (toU F S p : Int) ∧ en S (p / F.length) (p % F.length) = (toV F S p : Int) := by
  obtain ⟨n1, n2, hl, hF, hS⟩ := pm_in h
  obtain ⟨a, b⟩ := pair_in hp
  have A := (hF _ a).2 _ b
  have B := (hS _ a).2 _ b
  unfold toU toV en
  omega

theorem toUV_inj {F S : List (List Int)} (h : solB F S = true) {p q : Nat} (hp : p < F.length * F.length) (hq : q < F.length * F.length) (e1 : toU F S p = toU F S q) (e2 : toV F S p = toV F S q) : p = q := by
  obtain ⟨h1, h2⟩ := solB_of h
  have A := toUV_in h1 hp
  have B := toUV_in h1 hq
  refine Classical.byContradiction fun hne => h2 p q hp hq ⟨hne, ?_, ?_⟩
  · rw [A.2.2.1, B.2.2.1, e1]
  · rw [A.2.2.2, B.2.2.2, e2]

theorem toUV_onto {F S : List (List Int)} (h : solB F S = true) {u v : Nat} (hu : u < F.length) (hv : v < F.length) : ∃ p, p < F.length * F.length ∧ toU F S p = u ∧ toV F S p = v := by
  obtain ⟨h1, _⟩ := solB_of h
  have hn : 0 < F.length := by omega
  have key : ∀ a b c d : Nat, b < F.length → d < F.length → a * F.length + b = c * F.length + d → a = c ∧ b = d := fun a b c d hb hd e => by
    have e1 := congrArg (· / F.length) e
    have e2 := congrArg (· % F.length) e
    have e1 : (a * F.length + b) / F.length = (c * F.length + d) / F.length := e1
    have e2 : (a * F.length + b) % F.length = (c * F.length + d) % F.length := e2
    rw [Nat.mul_comm a, Nat.mul_comm c, Nat.mul_add_div hn, Nat.mul_add_div hn, Nat.div_eq_of_lt hb, Nat.div_eq_of_lt hd] at e1
    rw [Nat.mul_comm a, Nat.mul_comm c, Nat.mul_add_mod, Nat.mul_add_mod, Nat.mod_eq_of_lt hb, Nat.mod_eq_of_lt hd] at e2
    exact ⟨by omega, e2⟩
  have lt : ∀ a b : Nat, a < F.length → b < F.length → a * F.length + b < F.length * F.length := fun a b ha hb => by
    have : (a + 1) * F.length ≤ F.length * F.length := Nat.mul_le_mul_right _ ha
    rw [Nat.succ_mul] at this
    omega
  obtain ⟨p, hp, e⟩ := inj_onto (F.length * F.length) (fun p => toU F S p * F.length + toV F S p) (fun p hp => lt _ _ (toUV_in h1 hp).1 (toUV_in h1 hp).2.1)
    (fun p q hp hq e => by
      obtain ⟨e1, e2⟩ := key _ _ _ _ (toUV_in h1 hp).2.1 (toUV_in h1 hq).2.1 e
      exact toUV_inj h hp hq e1 e2) (u * F.length + v) (lt _ _ hu hv)
  obtain ⟨e1, e2⟩ := key _ _ _ _ (toUV_in h1 hp).2.1 hv e
  exact ⟨p, hp, e1, e2⟩

theorem put2_en {t : List (List Int)} {u v : Nat} {x : Int} (hu : u < t.length) (hv : v < (t.getD u []).length) (i j : Nat) : en (put2 t u v x) i j = if i = u ∧ j = v then x else en t i j := by
  unfold en put2
  by_cases e : i = u
  · subst e
    rw [show (t.set i ((t.getD i []).set v x)).getD i [] = (t.getD i []).set v x by simp [List.getD, hu], set_getD _ _ _ _ hv]
    by_cases e2 : j = v
    · rw [if_pos e2, if_pos ⟨rfl, e2⟩]
    · rw [if_neg e2, if_neg fun c => e2 c.2]
  · rw [if_neg fun c => e c.1]
    congr 1
    simp [List.getD, List.getElem?_set, Ne.symm e]

/-- The inverse's entries. -/
theorem ivN_en {F S : List (List Int)} (h : solB F S = true) : ∀ k, k ≤ F.length * F.length → ∀ j, j < k → en (ivN F S k).1 (toU F S j) (toV F S j) = ((j / F.length : Nat) : Int) ∧ en (ivN F S k).2 (toU F S j) (toV F S j) = ((j % F.length : Nat) : Int)
  | 0, _, j, hj => by omega
  | k + 1, hk, j, hj => by
    obtain ⟨h1, _⟩ := solB_of h
    have L := ivN_len h1 k
    have K := toUV_in h1 (p := k) (by omega)
    have R := L.2 _ K.1
    simp only [ivN]
    rw [K.2.2.1, K.2.2.2, Int.toNat_natCast, Int.toNat_natCast, put2_en (by rw [L.1.1]; exact K.1) (by rw [R.1]; exact K.2.1), put2_en (by rw [L.1.2]; exact K.1) (by rw [R.2]; exact K.2.1)]
    by_cases e : j = k
    · subst e
      rw [if_pos ⟨rfl, rfl⟩, if_pos ⟨rfl, rfl⟩]
      exact ⟨rfl, rfl⟩
    · have ne : ¬ (toU F S j = toU F S k ∧ toV F S j = toV F S k) := fun c => e (toUV_inj h (by omega) (by omega) c.1 c.2)
      rw [if_neg ne, if_neg ne]
      exact ivN_en h k (by omega) j (by omega)

/-- The pair that is led to a pair. -/
def prZ (F S : List (List Int)) (x y : Int) (a b : Nat) : Option (Int × Int) := if en F a b = x ∧ en S a b = y then some ((a : Int), (b : Int)) else none
def prX (F S : List (List Int)) (x y : Int) (a : Nat) : Option (Int × Int) := firstO F.length (prZ F S x y a) F.length
def prF (F S : List (List Int)) (x y : Int) : Option (Int × Int) := firstO F.length (prX F S x y) F.length
def prV (F S : List (List Int)) (x y : Int) : Int × Int := (prF F S x y).getD (0, 0)

theorem firstO_mem {α : Type} {n : Nat} {q : Nat → Option α} {r : α} : ∀ {k : Nat}, k ≤ n → firstO n q k = some r → ∃ i, i < n ∧ q i = some r
  | 0, _, h => by cases h
  | k + 1, hk, h => by
    simp only [firstO, Option.or_eq_some_iff] at h
    rcases h with h | ⟨_, h⟩
    · exact ⟨_, by omega, h⟩
    · exact firstO_mem (by omega) h

theorem firstO_has {α : Type} {n : Nat} {q : Nat → Option α} : ∀ {k : Nat}, k ≤ n → ∀ i, n - k ≤ i → i < n → (q i).isSome = true → (firstO n q k).isSome = true
  | 0, _, i, h1, h2, _ => by omega
  | k + 1, hk, i, h1, h2, h3 => by
    simp only [firstO]
    by_cases hi : i = n - (k + 1)
    · subst hi
      cases h : q (n - (k + 1)) with
      | none => rw [h] at h3; cases h3
      | some x => rfl
    · have := firstO_has (k := k) (by omega) i (by omega) h2 h3
      cases h : q (n - (k + 1)) with
      | none => simpa using this
      | some x => rfl

/-- The pair that is led to a pair stands in the inverse. -/
theorem prV_iv {F S : List (List Int)} (h : solB F S = true) {u v : Nat} (hu : u < F.length) (hv : v < F.length) : prV F S (u : Int) (v : Int) = (en (ivT F S).1 u v, en (ivT F S).2 u v) := by
  obtain ⟨h1, _⟩ := solB_of h
  obtain ⟨p, hp, rfl, rfl⟩ := toUV_onto h hu hv
  obtain ⟨e1, e2⟩ := ivN_en h (F.length * F.length) (Nat.le_refl _) p hp
  have P := toUV_in h1 hp
  obtain ⟨q1, q2⟩ := pair_in hp
  unfold ivT
  rw [e1, e2]
  have hs : (prF F S (toU F S p : Int) (toV F S p : Int)).isSome = true := by
    refine firstO_has (Nat.le_refl _) (p / F.length) (by rw [Nat.sub_self]; exact Nat.zero_le _) q1 ?_
    refine firstO_has (Nat.le_refl _) (p % F.length) (by rw [Nat.sub_self]; exact Nat.zero_le _) q2 ?_
    rw [prZ, if_pos ⟨P.2.2.1, P.2.2.2⟩]; rfl
  cases hr : prF F S (toU F S p : Int) (toV F S p : Int) with
  | none => rw [hr] at hs; cases hs
  | some r =>
    rw [prV, hr]
    obtain ⟨a, ha, hr⟩ := firstO_mem (Nat.le_refl _) hr
    obtain ⟨b, hb, hr⟩ := firstO_mem (Nat.le_refl _) hr
    unfold prZ at hr
    split at hr
    · rename_i c
      cases hr
      have lt : a * F.length + b < F.length * F.length := by
        have : (a + 1) * F.length ≤ F.length * F.length := Nat.mul_le_mul_right _ ha
        rw [Nat.succ_mul] at this
        omega
      have d1 : (a * F.length + b) / F.length = a := by
        rw [Nat.mul_comm, Nat.mul_add_div (by omega), Nat.div_eq_of_lt hb]; omega
      have d2 : (a * F.length + b) % F.length = b := by
        rw [Nat.mul_comm, Nat.mul_add_mod, Nat.mod_eq_of_lt hb]
      have Q := toUV_in h1 lt
      rw [d1, d2, c.1, c.2] at Q
      have := toUV_inj h lt hp (by omega) (by omega)
      rw [← this, d1, d2]; rfl
    · cases hr

theorem tabB_mk {t : List (List Int)} (h1 : 1 ≤ t.length) (h2 : t.length ≤ 12) (h : ∀ x, x < t.length → (t.getD x []).length = t.length ∧ ∀ y, y < t.length → 0 ≤ en t x y ∧ en t x y ≤ (t.length : Int) - 1) : tabB t = true := by
  rw [tabB, Bool.and_eq_true, decide_eq_true_eq, List.all_eq_true]
  refine ⟨by omega, fun r hr => ?_⟩
  obtain ⟨x, hx, rfl⟩ := mem_getD hr []
  obtain ⟨a, b⟩ := h x hx
  rw [rowB, Bool.and_eq_true, decide_eq_true_eq, allW, List.all_eq_true]
  refine ⟨by rw [a], fun v hv => ?_⟩
  obtain ⟨y, hy, rfl⟩ := mem_getD hv 0
  rw [decide_eq_true_eq]
  exact b y (by omega)

theorem ivN_rng {F S : List (List Int)} (h : pmB F S = true) : ∀ k, k ≤ F.length * F.length → ∀ i j, i < F.length → j < F.length →
    (0 ≤ en (ivN F S k).1 i j ∧ en (ivN F S k).1 i j ≤ (F.length : Int) - 1) ∧ 0 ≤ en (ivN F S k).2 i j ∧ en (ivN F S k).2 i j ≤ (F.length : Int) - 1
  | 0, _, i, j, hi, hj => by
    obtain ⟨n1, n2, hl, hF, hS⟩ := pm_in h
    exact ⟨(hF i hi).2 j hj, (hS i hi).2 j hj⟩
  | k + 1, hk, i, j, hi, hj => by
    have L := ivN_len h k
    have K := toUV_in h (p := k) (by omega)
    have R := L.2 _ K.1
    obtain ⟨q1, q2⟩ := pair_in (n := F.length) (p := k) (by omega)
    have ih := ivN_rng h k (by omega) i j hi hj
    have c1 := Int.natCast_nonneg (k / F.length)
    have c2 := Int.natCast_nonneg (k % F.length)
    simp only [ivN]
    rw [K.2.2.1, K.2.2.2, Int.toNat_natCast, Int.toNat_natCast, put2_en (by rw [L.1.1]; exact K.1) (by rw [R.1]; exact K.2.1), put2_en (by rw [L.1.2]; exact K.1) (by rw [R.2]; exact K.2.1)]
    split
    · omega
    · exact ih

theorem ivT_ok {F S : List (List Int)} (h : solB F S = true) : pmB (ivT F S).1 (ivT F S).2 = true ∧ (ivT F S).1.length = F.length := by
  obtain ⟨h1, _⟩ := solB_of h
  obtain ⟨n1, n2, hl, hF, hS⟩ := pm_in h1
  have L := ivN_len h1 (F.length * F.length)
  have R := ivN_rng h1 (F.length * F.length) (Nat.le_refl _)
  refine ⟨?_, L.1.1⟩
  unfold ivT
  simp only [pmB, Bool.and_eq_true, decide_eq_true_eq]
  refine ⟨⟨tabB_mk (by omega) (by omega) fun x hx => ?_, tabB_mk (by omega) (by omega) fun x hx => ?_⟩, by omega⟩
  · rw [L.1.1] at hx ⊢
    exact ⟨(L.2 x hx).1, fun y hy => (R x y hx hy).1⟩
  · rw [L.1.2] at hx ⊢
    exact ⟨(L.2 x hx).2, fun y hy => (R x y hx hy).2⟩

def l16Pair_p (F : List (List Int)) (S : List (List Int)) (x : Int) (y : Int) : Post := ⟨pmB F S = true, .tup [.inl (.int .i64 ((prV F S x y).1)), .inl (.int .i64 ((prV F S x y).2))], []⟩
def l16Pair_ct : List AD → Option Post
  | [.agg [.rows .i64 (F), .rows .i64 (S)], .c (.int .i64 (x)), .c (.int .i64 (y))] => some (l16Pair_p F S x y)
  | _ => none
def l16Pair_ann (F : List (List Int)) (S : List (List Int)) (x : Int) (y : Int) : Nat → Option Ann
  | 0 => some (Ann.mk ((Nat)) (fun i => ⟨[(3, .c (.ptr 3 0)), (1, .c (.int .i64 (x))), (2, .c (.int .i64 (y))), (8, .c (.int .i64 ((i : Int))))], [(3, some (.box [.ro (.rows .i64 (F)), .ro (.rows .i64 (S))]))]⟩) (fun i => i ≤ F.length ∧ prF F S x y = firstO F.length (prX F S x y) (F.length - i)) (fun i => F.length - i) (fun i => fun b_ => match b_ with | 2 => some (Ann.mk ((Nat)) (fun j => ⟨[(3, .c (.ptr 3 0)), (1, .c (.int .i64 (x))), (2, .c (.int .i64 (y))), (8, .c (.int .i64 ((i : Int)))), (9, .c (.int .i64 ((j : Int))))], [(3, some (.box [.ro (.rows .i64 (F)), .ro (.rows .i64 (S))]))]⟩) (fun j => j ≤ F.length ∧ i < F.length ∧ prF F S x y = (firstO F.length (prZ F S x y i) (F.length - j)).or (firstO F.length (prX F S x y) (F.length - (i + 1)))) (fun j => F.length - j) (fun _ => noAnn)) | _ => none))
  | _ => none
def l16Pair_G : List (Nat × Ctr) := []
def l16Pair_V (F : List (List Int)) (S : List (List Int)) (x : Int) (y : Int) : Prop :=
  ((∃ x0 : Nat, (((x0 ≤ List.length F) ∧
  (Go.Sx.prF F S x y = Go.Sx.firstO (List.length F) (Go.Sx.prX F S x y) (List.length F - x0))) ∧
  ((x = x) ∧
  ((y = y) ∧
  (((0 : Int) = (↑x0 : Int)) ∧
  ((F = F) ∧
  (S = S))))))) ∧
  (∀ x1 : Nat, (((x1 ≤ List.length F) ∧
  (Go.Sx.prF F S x y = Go.Sx.firstO (List.length F) (Go.Sx.prX F S x y) (List.length F - x1))) →
  (BrP (Decidable.decide ((↑x1 : Int) < (↑(List.length F) : Int)))
    ((∃ x2 : Nat, (((x2 ≤ List.length F) ∧
    ((x1 < List.length F) ∧
    (Go.Sx.prF F S x y = Option.or (Go.Sx.firstO (List.length F) (Go.Sx.prZ F S x y x1) (List.length F - x2)) (Go.Sx.firstO (List.length F) (Go.Sx.prX F S x y) (List.length F - (x1 + (1 : Nat))))))) ∧
    ((x = x) ∧
    ((y = y) ∧
    (((↑x1 : Int) = (↑x1 : Int)) ∧
    (((0 : Int) = (↑x2 : Int)) ∧
    ((F = F) ∧
    (S = S)))))))) ∧
    (∀ x3 : Nat, (((x3 ≤ List.length F) ∧
    ((x1 < List.length F) ∧
    (Go.Sx.prF F S x y = Option.or (Go.Sx.firstO (List.length F) (Go.Sx.prZ F S x y x1) (List.length F - x3)) (Go.Sx.firstO (List.length F) (Go.Sx.prX F S x y) (List.length F - (x1 + (1 : Nat))))))) →
    (BrP (Decidable.decide ((↑x3 : Int) < (↑(List.length F) : Int)))
      ((Go.Sx.inB (↑x1 : Int) (List.length F)) ∧
      ((Go.Sx.inB (↑x3 : Int) (List.length (List.getD F (Int.toNat (↑x1 : Int)) []))) ∧
      (BrP (List.getD (List.getD F (Int.toNat (↑x1 : Int)) []) (Int.toNat (↑x3 : Int)) (0 : Int) == x)
        ((Go.Sx.inB (↑x1 : Int) (List.length S)) ∧
        ((Go.Sx.inB (↑x3 : Int) (List.length (List.getD S (Int.toNat (↑x1 : Int)) []))) ∧
        (BrP (List.getD (List.getD S (Int.toNat (↑x1 : Int)) []) (Int.toNat (↑x3 : Int)) (0 : Int) == y)
          ((((↑x1 : Int) = Prod.fst (Go.Sx.prV F S x y)) ∧
          (((↑x3 : Int) = Prod.snd (Go.Sx.prV F S x y)) ∧
          (True))) ∧
          (True))
          ((Go.Sx.InR ((↑x3 : Int) + (1 : Int))) ∧
          (∃ x4 : Nat, (((x4 ≤ List.length F) ∧
          ((x1 < List.length F) ∧
          (Go.Sx.prF F S x y = Option.or (Go.Sx.firstO (List.length F) (Go.Sx.prZ F S x y x1) (List.length F - x4)) (Go.Sx.firstO (List.length F) (Go.Sx.prX F S x y) (List.length F - (x1 + (1 : Nat))))))) ∧
          ((List.length F - x4 < List.length F - x3) ∧
          ((x = x) ∧
          ((y = y) ∧
          (((↑x1 : Int) = (↑x1 : Int)) ∧
          (((↑x3 : Int) + (1 : Int) = (↑x4 : Int)) ∧
          ((F = F) ∧
          (S = S)))))))))))))
        ((Go.Sx.InR ((↑x3 : Int) + (1 : Int))) ∧
        (∃ x5 : Nat, (((x5 ≤ List.length F) ∧
        ((x1 < List.length F) ∧
        (Go.Sx.prF F S x y = Option.or (Go.Sx.firstO (List.length F) (Go.Sx.prZ F S x y x1) (List.length F - x5)) (Go.Sx.firstO (List.length F) (Go.Sx.prX F S x y) (List.length F - (x1 + (1 : Nat))))))) ∧
        ((List.length F - x5 < List.length F - x3) ∧
        ((x = x) ∧
        ((y = y) ∧
        (((↑x1 : Int) = (↑x1 : Int)) ∧
        (((↑x3 : Int) + (1 : Int) = (↑x5 : Int)) ∧
        ((F = F) ∧
        (S = S)))))))))))))
      ((Go.Sx.InR ((↑x1 : Int) + (1 : Int))) ∧
      (∃ x6 : Nat, (((x6 ≤ List.length F) ∧
      (Go.Sx.prF F S x y = Go.Sx.firstO (List.length F) (Go.Sx.prX F S x y) (List.length F - x6))) ∧
      ((List.length F - x6 < List.length F - x1) ∧
      ((x = x) ∧
      ((y = y) ∧
      (((↑x1 : Int) + (1 : Int) = (↑x6 : Int)) ∧
      ((F = F) ∧
      (S = S)))))))))))))
    ((((0 : Int) = Prod.fst (Go.Sx.prV F S x y)) ∧
    (((0 : Int) = Prod.snd (Go.Sx.prV F S x y)) ∧
    (True))) ∧
    (True))))))
theorem l16Pair_vc (F : List (List Int)) (S : List (List Int)) (x : Int) (y : Int) : runF Try.prog (gam l16Pair_G) noWr (l16Pair_ann F S x y) Try.f125 (bodyOf Try.f125) [] [.agg [.rows .i64 (F), .rows .i64 (S)], .c (.int .i64 (x)), .c (.int .i64 (y))] (l16Pair_p F S x y) = l16Pair_V F S x y := by kernel_rfl
theorem l16Pair_ok (F : List (List Int)) (S : List (List Int)) (x : Int) (y : Int) (hpre : (l16Pair_p F S x y).pre) : l16Pair_V F S x y := by
  simp only [l16Pair_p, l16Pair_V, BrP_iff, true_and, and_true, decide_eq_true_eq, decide_eq_false_iff_not, bne_iff_ne, beq_iff_eq, bne_eq_false_iff_eq, beq_eq_false_iff_ne, Bool.not_eq_true, Bool.not_eq_false, Bool.not_true, Bool.not_false, Bool.not_eq_eq_eq_not, Int.toNat_natCast, List.length_append, List.length_take, List.length_replicate, List.length_set, List.length_map, List.length_drop, List.length_nil, List.length_cons, markL_length, inB, InR, room, bdsOk] at hpre ⊢
  obtain ⟨n1, n2, hl, hF, hS⟩ := pm_in hpre
  refine ⟨⟨0, ⟨by omega, rfl⟩, rfl⟩, fun i ⟨hi, hx⟩ => ⟨fun h => ⟨⟨0, ⟨by omega, by omega, ?_⟩, rfl⟩, fun j ⟨hj, _, hy⟩ => ⟨fun h2 => ?_, fun h2 => ?_⟩⟩, fun h => ?_⟩⟩
  · rw [hx, firstO_step _ _ i (by omega)]; rfl
  · have r1 := (hF i (by omega)).1
    have r2 := (hS i (by omega)).1
    have no : ¬ (en F i j = x ∧ en S i j = y) → prF F S x y = (firstO F.length (prZ F S x y i) (F.length - (j + 1))).or (firstO F.length (prX F S x y) (F.length - (i + 1))) := fun h4 => by
      rw [hy, firstO_step _ _ j (by omega), show prZ F S x y i j = none from if_neg h4]; rfl
    refine ⟨by omega, by omega, fun e1 => ⟨by omega, by omega, fun e2 => ?_, fun e2 => ⟨by omega, j + 1, ⟨by omega, by omega, no fun c => e2 c.2⟩, by omega, by omega⟩⟩, fun e1 => ⟨by omega, j + 1, ⟨by omega, by omega, no fun c => e1 c.1⟩, by omega, by omega⟩⟩
    have : prF F S x y = some ((i : Int), (j : Int)) := by
      rw [hy, firstO_step _ _ j (by omega), show prZ F S x y i j = some ((i : Int), (j : Int)) from if_pos ⟨e1, e2⟩]; rfl
    rw [prV, this]
    exact ⟨rfl, rfl⟩
  · refine ⟨by omega, i + 1, ⟨by omega, ?_⟩, by omega, by omega⟩
    rw [hy, show F.length - j = 0 by omega]; rfl
  · have : prF F S x y = none := by rw [hx, show F.length - i = 0 by omega]; rfl
    rw [prV, this]
    exact ⟨rfl, rfl⟩
theorem l16Pair_fits : Fits Try.prog 125 ⟨[], l16Pair_ct⟩ := by
  refine fits_fn (Γ := gam l16Pair_G) gok_nil Try.func125 (by kernel_rfl) (by kernel_rfl) (by kernel_rfl) fun ds p h hp => ?_
  unfold l16Pair_ct at h
  split at h
  · cases h
    exact ⟨noWr, l16Pair_ann _ _ _ _ , by rw [l16Pair_vc]; exact l16Pair_ok _ _ _ _  hp⟩
  · cases h

def newAction_p (F : List (List Int)) (S : List (List Int)) : Post := ⟨roomR F ∧ roomR S ∧ solB F S = true, .agg [.ro (.rows .i64 F), .ro (.rows .i64 S), .rows 24 2 .i64 ((ivT F S).1), .rows 24 2 .i64 ((ivT F S).2)], []⟩
def newAction_ct : List AD → Option Post
  | [.agg [.rows .i64 (F), .rows .i64 (S)]] => some (newAction_p F S)
  | _ => none
def newAction_G : List (Nat × Ctr) := [(128, ⟨[], InverseSolution_ct⟩)]
def newAction_V (F : List (List Int)) (S : List (List Int)) : Prop :=
  ((((Go.Sx.roomR F) ∧
  ((Go.Sx.roomR S) ∧
  (Go.Sx.solB F S = Bool.true))) ∧
  (True)) ∧
  (((F = F) ∧
  ((S = S) ∧
  ((Prod.fst (Go.Sx.ivT F S) = Prod.fst (Go.Sx.ivT F S)) ∧
  ((Prod.snd (Go.Sx.ivT F S) = Prod.snd (Go.Sx.ivT F S)) ∧
  (True))))) ∧
  (True)))
theorem newAction_vc (F : List (List Int)) (S : List (List Int)) : runF Try.prog (gam newAction_G) noWr noAnn Try.f80 (bodyOf Try.f80) [] [.agg [.rows .i64 (F), .rows .i64 (S)]] (newAction_p F S) = newAction_V F S := by kernel_rfl
theorem newAction_ok (F : List (List Int)) (S : List (List Int)) (hpre : (newAction_p F S).pre) : newAction_V F S := by
  simp only [newAction_p, newAction_V, BrP_iff, true_and, and_true, decide_eq_true_eq, decide_eq_false_iff_not, bne_iff_ne, beq_iff_eq, bne_eq_false_iff_eq, beq_eq_false_iff_ne, Bool.not_eq_true, Bool.not_eq_false, Bool.not_true, Bool.not_false, Bool.not_eq_eq_eq_not, Int.toNat_natCast, List.length_append, List.length_take, List.length_replicate, List.length_set, List.length_map, List.length_drop, List.length_nil, List.length_cons, markL_length, inB, InR, room, bdsOk] at hpre ⊢
  exact hpre
theorem newAction_fits : Fits Try.prog 80 ⟨[], newAction_ct⟩ := by
  refine fits_fn (Γ := gam newAction_G) (gok_cons InverseSolution_fits gok_nil) Try.func80 (by kernel_rfl) (by kernel_rfl) (by kernel_rfl) fun ds p h hp => ?_
  unfold newAction_ct at h
  split at h
  · cases h
    exact ⟨noWr, noAnn, by rw [newAction_vc]; exact newAction_ok _ _  hp⟩
  · cases h

def moved_p (F : List (List Int)) (S : List (List Int)) (l : List Int) (k : Int) : Post := ⟨pmB F S = true ∧ inN F.length l ∧ 0 ≤ k ∧ k + 1 < (l.length : Int) ∧ l.length ≤ 1000, .c (.ints 2 .i64 (doL F S l k.toNat)), []⟩
def moved_ct : List AD → Option Post
  | [.agg [.rows .i64 (F), .rows .i64 (S)], .c (.ints .i64 (l)), .c (.int .i64 (k))] => some (moved_p F S l k)
  | _ => none
def moved_G : List (Nat × Ctr) := [(129, ⟨[], Clone_ct⟩)]
def moved_V (F : List (List Int)) (S : List (List Int)) (l : List Int) (k : Int) : Prop :=
  ((((List.length l ≠ (0 : Nat)) ∧
  (Go.Sx.room (List.length l))) ∧
  (True)) ∧
  ((Go.Sx.inB k (List.length l)) ∧
  ((Go.Sx.InR (k + (1 : Int))) ∧
  ((Go.Sx.inB (k + (1 : Int)) (List.length l)) ∧
  ((Go.Sx.InR (k + (1 : Int))) ∧
  ((Go.Sx.inB (List.getD l (Int.toNat k) (0 : Int)) (List.length F)) ∧
  ((Go.Sx.inB (List.getD l (Int.toNat (k + (1 : Int))) (0 : Int)) (List.length (List.getD F (Int.toNat (List.getD l (Int.toNat k) (0 : Int))) []))) ∧
  ((Go.Sx.inB (List.getD l (Int.toNat k) (0 : Int)) (List.length S)) ∧
  ((Go.Sx.inB (List.getD l (Int.toNat (k + (1 : Int))) (0 : Int)) (List.length (List.getD S (Int.toNat (List.getD l (Int.toNat k) (0 : Int))) []))) ∧
  ((Go.Sx.inB k (List.length l)) ∧
  ((Go.Sx.inB (k + (1 : Int)) (List.length (List.set l (Int.toNat k) (List.getD (List.getD F (Int.toNat (List.getD l (Int.toNat k) (0 : Int))) []) (Int.toNat (List.getD l (Int.toNat (k + (1 : Int))) (0 : Int))) (0 : Int))))) ∧
  ((List.set (List.set l (Int.toNat k) (List.getD (List.getD F (Int.toNat (List.getD l (Int.toNat k) (0 : Int))) []) (Int.toNat (List.getD l (Int.toNat (k + (1 : Int))) (0 : Int))) (0 : Int))) (Int.toNat (k + (1 : Int))) (List.getD (List.getD S (Int.toNat (List.getD l (Int.toNat k) (0 : Int))) []) (Int.toNat (List.getD l (Int.toNat (k + (1 : Int))) (0 : Int))) (0 : Int)) = Go.Sx.doL F S l (Int.toNat k)) ∧
  (True)))))))))))))
theorem moved_vc (F : List (List Int)) (S : List (List Int)) (l : List Int) (k : Int) : runF Try.prog (gam moved_G) noWr noAnn Try.f156 (bodyOf Try.f156) [] [.agg [.rows .i64 (F), .rows .i64 (S)], .c (.ints .i64 (l)), .c (.int .i64 (k))] (moved_p F S l k) = moved_V F S l k := by kernel_rfl
theorem moved_ok (F : List (List Int)) (S : List (List Int)) (l : List Int) (k : Int) (hpre : (moved_p F S l k).pre) : moved_V F S l k := by
  simp only [moved_p, moved_V, BrP_iff, true_and, and_true, decide_eq_true_eq, decide_eq_false_iff_not, bne_iff_ne, beq_iff_eq, bne_eq_false_iff_eq, beq_eq_false_iff_ne, Bool.not_eq_true, Bool.not_eq_false, Bool.not_true, Bool.not_false, Bool.not_eq_eq_eq_not, Int.toNat_natCast, List.length_append, List.length_take, List.length_replicate, List.length_set, List.length_map, List.length_drop, List.length_nil, List.length_cons, markL_length, inB, InR, room, bdsOk] at hpre ⊢
  obtain ⟨h, hi, i0, i1, l0⟩ := hpre
  obtain ⟨n1, n2, hl, hF, hS⟩ := pm_in h
  have h1 := hi k.toNat (by omega)
  have h2 := hi (k + 1).toNat (by omega)
  have r1 := (hF (l.getD k.toNat 0).toNat (by omega)).1
  have r2 := (hS (l.getD k.toNat 0).toNat (by omega)).1
  have e : (k + 1).toNat = k.toNat + 1 := by omega
  refine ⟨by omega, by omega, by omega, by omega, by omega, by omega, by omega, by omega, by omega, by omega, by omega, ?_⟩
  rw [e]; rfl
theorem moved_fits : Fits Try.prog 156 ⟨[], moved_ct⟩ := by
  refine fits_fn (Γ := gam moved_G) (gok_cons Clone_fits gok_nil) Try.func156 (by kernel_rfl) (by kernel_rfl) (by kernel_rfl) fun ds p h hp => ?_
  unfold moved_ct at h
  split at h
  · cases h
    exact ⟨noWr, noAnn, by rw [moved_vc]; exact moved_ok _ _ _ _  hp⟩
  · cases h

def l06Move_p (F : List (List Int)) (S : List (List Int)) (l : List Int) (k : Int) : Post := ⟨pmB F S = true ∧ inN F.length l ∧ 0 ≤ k ∧ k + 1 < (l.length : Int) ∧ l.length ≤ 1000, .c (.ints 2 .i64 (doL F S l k.toNat)), []⟩
def l06Move_ct : List AD → Option Post
  | [.agg [.rows .i64 (F), .rows .i64 (S)], .c (.ints .i64 (l)), .c (.int .i64 (k))] => some (l06Move_p F S l k)
  | _ => none
def l06Move_G : List (Nat × Ctr) := [(91, ⟨[], l01Own_ct⟩)]
def l06Move_V (F : List (List Int)) (S : List (List Int)) (l : List Int) (k : Int) : Prop :=
  (((Go.Sx.room (List.length l)) ∧
  (True)) ∧
  ((Go.Sx.inB k (List.length l)) ∧
  ((Go.Sx.inB (List.getD l (Int.toNat k) (0 : Int)) (List.length F)) ∧
  ((Go.Sx.InR (k + (1 : Int))) ∧
  ((Go.Sx.inB (k + (1 : Int)) (List.length l)) ∧
  ((Go.Sx.inB (List.getD l (Int.toNat (k + (1 : Int))) (0 : Int)) (List.length (List.getD F (Int.toNat (List.getD l (Int.toNat k) (0 : Int))) []))) ∧
  ((Go.Sx.inB k (List.length l)) ∧
  ((Go.Sx.InR (k + (1 : Int))) ∧
  ((Go.Sx.inB k (List.length l)) ∧
  ((Go.Sx.inB (List.getD l (Int.toNat k) (0 : Int)) (List.length S)) ∧
  ((Go.Sx.InR (k + (1 : Int))) ∧
  ((Go.Sx.inB (k + (1 : Int)) (List.length l)) ∧
  ((Go.Sx.inB (List.getD l (Int.toNat (k + (1 : Int))) (0 : Int)) (List.length (List.getD S (Int.toNat (List.getD l (Int.toNat k) (0 : Int))) []))) ∧
  ((Go.Sx.inB (k + (1 : Int)) (List.length (List.set l (Int.toNat k) (List.getD (List.getD F (Int.toNat (List.getD l (Int.toNat k) (0 : Int))) []) (Int.toNat (List.getD l (Int.toNat (k + (1 : Int))) (0 : Int))) (0 : Int))))) ∧
  ((List.set (List.set l (Int.toNat k) (List.getD (List.getD F (Int.toNat (List.getD l (Int.toNat k) (0 : Int))) []) (Int.toNat (List.getD l (Int.toNat (k + (1 : Int))) (0 : Int))) (0 : Int))) (Int.toNat (k + (1 : Int))) (List.getD (List.getD S (Int.toNat (List.getD l (Int.toNat k) (0 : Int))) []) (Int.toNat (List.getD l (Int.toNat (k + (1 : Int))) (0 : Int))) (0 : Int)) = Go.Sx.doL F S l (Int.toNat k)) ∧
  (True))))))))))))))))
theorem l06Move_vc (F : List (List Int)) (S : List (List Int)) (l : List Int) (k : Int) : runF Try.prog (gam l06Move_G) noWr noAnn Try.f124 (bodyOf Try.f124) [] [.agg [.rows .i64 (F), .rows .i64 (S)], .c (.ints .i64 (l)), .c (.int .i64 (k))] (l06Move_p F S l k) = l06Move_V F S l k := by kernel_rfl
theorem l06Move_ok (F : List (List Int)) (S : List (List Int)) (l : List Int) (k : Int) (hpre : (l06Move_p F S l k).pre) : l06Move_V F S l k := by
  simp only [l06Move_p, l06Move_V, BrP_iff, true_and, and_true, decide_eq_true_eq, decide_eq_false_iff_not, bne_iff_ne, beq_iff_eq, bne_eq_false_iff_eq, beq_eq_false_iff_ne, Bool.not_eq_true, Bool.not_eq_false, Bool.not_true, Bool.not_false, Bool.not_eq_eq_eq_not, Int.toNat_natCast, List.length_append, List.length_take, List.length_replicate, List.length_set, List.length_map, List.length_drop, List.length_nil, List.length_cons, markL_length, inB, InR, room, bdsOk] at hpre ⊢
  obtain ⟨h, hi, i0, i1, l0⟩ := hpre
  obtain ⟨n1, n2, hl, hF, hS⟩ := pm_in h
  have h1 := hi k.toNat (by omega)
  have h2 := hi (k + 1).toNat (by omega)
  have r1 := (hF (l.getD k.toNat 0).toNat (by omega)).1
  have r2 := (hS (l.getD k.toNat 0).toNat (by omega)).1
  have e : (k + 1).toNat = k.toNat + 1 := by omega
  refine ⟨by omega, by omega, by omega, by omega, by omega, by omega, by omega, by omega, by omega, by omega, by omega, by omega, by omega, by omega, ?_⟩
  rw [e]; rfl
theorem l06Move_fits : Fits Try.prog 124 ⟨[], l06Move_ct⟩ := by
  refine fits_fn (Γ := gam l06Move_G) (gok_cons l01Own_fits gok_nil) Try.func124 (by kernel_rfl) (by kernel_rfl) (by kernel_rfl) fun ds p h hp => ?_
  unfold l06Move_ct at h
  split at h
  · cases h
    exact ⟨noWr, noAnn, by rw [l06Move_vc]; exact l06Move_ok _ _ _ _  hp⟩
  · cases h

def stG (F S G H : List (List Int)) (x : Int) (l : List Int) : List Int := if 0 < x then doL F S l (plc x).toNat else doL G H l (plc x).toNat

def step_p (F : List (List Int)) (S : List (List Int)) (G : List (List Int)) (H : List (List Int)) (x : Int) (l : List Int) : Post := ⟨pmB F S = true ∧ pmB G H = true ∧ G.length = F.length ∧ inN F.length l ∧ l.length ≤ 1000 ∧ 0 ≤ plc x ∧ plc x + 1 < (l.length : Int) ∧ -1000000 ≤ x ∧ x ≤ 1000000, .c (.ints 2 .i64 (stG F S G H x l)), []⟩
def step_ct : List AD → Option Post
  | [.agg [.rows .i64 (F), .rows .i64 (S), .rows .i64 (G), .rows .i64 (H)], .c (.int .i64 (x)), .c (.ints .i64 (l))] => some (step_p F S G H x l)
  | _ => none
def step_G : List (Nat × Ctr) := [(157, ⟨[], placeOf_ct⟩), (156, ⟨[], moved_ct⟩)]
def step_V (F : List (List Int)) (S : List (List Int)) (G : List (List Int)) (H : List (List Int)) (x : Int) (l : List Int) : Prop :=
  (BrP (Decidable.decide ((0 : Int) < x))
    (((((-1000000 : Int) ≤ x) ∧
    (x ≤ (1000000 : Int))) ∧
    (True)) ∧
    ((((Go.Sx.pmB F S = Bool.true) ∧
    ((Go.Sx.inN (List.length F) l) ∧
    (((0 : Int) ≤ Go.Sx.plc x) ∧
    ((Go.Sx.plc x + (1 : Int) < (↑(List.length l) : Int)) ∧
    (List.length l ≤ (1000 : Nat)))))) ∧
    (True)) ∧
    ((Go.Sx.doL F S l (Int.toNat (Go.Sx.plc x)) = Go.Sx.stG F S G H x l) ∧
    (True))))
    (((((-1000000 : Int) ≤ x) ∧
    (x ≤ (1000000 : Int))) ∧
    (True)) ∧
    ((((Go.Sx.pmB G H = Bool.true) ∧
    ((Go.Sx.inN (List.length G) l) ∧
    (((0 : Int) ≤ Go.Sx.plc x) ∧
    ((Go.Sx.plc x + (1 : Int) < (↑(List.length l) : Int)) ∧
    (List.length l ≤ (1000 : Nat)))))) ∧
    (True)) ∧
    ((Go.Sx.doL G H l (Int.toNat (Go.Sx.plc x)) = Go.Sx.stG F S G H x l) ∧
    (True)))))
theorem step_vc (F : List (List Int)) (S : List (List Int)) (G : List (List Int)) (H : List (List Int)) (x : Int) (l : List Int) : runF Try.prog (gam step_G) noWr noAnn Try.f130 (bodyOf Try.f130) [] [.agg [.rows .i64 (F), .rows .i64 (S), .rows .i64 (G), .rows .i64 (H)], .c (.int .i64 (x)), .c (.ints .i64 (l))] (step_p F S G H x l) = step_V F S G H x l := by kernel_rfl
theorem step_ok (F : List (List Int)) (S : List (List Int)) (G : List (List Int)) (H : List (List Int)) (x : Int) (l : List Int) (hpre : (step_p F S G H x l).pre) : step_V F S G H x l := by
  simp only [step_p, step_V, BrP_iff, true_and, and_true, decide_eq_true_eq, decide_eq_false_iff_not, bne_iff_ne, beq_iff_eq, bne_eq_false_iff_eq, beq_eq_false_iff_ne, Bool.not_eq_true, Bool.not_eq_false, Bool.not_true, Bool.not_false, Bool.not_eq_eq_eq_not, Int.toNat_natCast, List.length_append, List.length_take, List.length_replicate, List.length_set, List.length_map, List.length_drop, List.length_nil, List.length_cons, markL_length, inB, InR, room, bdsOk] at hpre ⊢
  obtain ⟨h1, h2, h3, h4, h5, h6, h7, h8, h9⟩ := hpre
  refine ⟨fun h => ⟨⟨h8, h9⟩, ⟨h1, h4, h6, h7, h5⟩, by rw [stG, if_pos h]⟩, fun h => ⟨⟨h8, h9⟩, ⟨h2, by rw [h3]; exact h4, h6, h7, h5⟩, by rw [stG, if_neg h]⟩⟩
theorem step_fits : Fits Try.prog 130 ⟨[], step_ct⟩ := by
  refine fits_fn (Γ := gam step_G) (gok_cons placeOf_fits (gok_cons moved_fits gok_nil)) Try.func130 (by kernel_rfl) (by kernel_rfl) (by kernel_rfl) fun ds p h hp => ?_
  unfold step_ct at h
  split at h
  · cases h
    exact ⟨noWr, noAnn, by rw [step_vc]; exact step_ok _ _ _ _ _ _  hp⟩
  · cases h

def actG (F S G H : List (List Int)) (w : List Int) (l : List Int) : Nat → List Int
  | 0 => l
  | i + 1 => stG F S G H (w.getD i 0) (actG F S G H w l i)

theorem braidB_in {s : Int} {w : List Int} (h : braidB s w = true) : 2 ≤ s ∧ s ≤ 6 ∧ w.length ≤ 30 := by
  simp only [braidB, Bool.and_eq_true, decide_eq_true_eq] at h
  omega

theorem actG_in {F S G H : List (List Int)} (h1 : pmB F S = true) (h2 : pmB G H = true) (h3 : G.length = F.length) {s : Int} {w l : List Int} (h4 : braidB s w = true) (h5 : (l.length : Int) = s) (h6 : inN F.length l) :
    ∀ i, i ≤ w.length → (actG F S G H w l i).length = l.length ∧ inN F.length (actG F S G H w l i)
  | 0, _ => ⟨rfl, h6⟩
  | i + 1, hi => by
    have ih := actG_in h1 h2 h3 h4 h5 h6 i (by omega)
    have c := plc_in h4 i (by omega)
    simp only [actG, stG]
    split
    · exact ⟨by rw [doL_len, ih.1], doL_in h1 ih.2 (by omega)⟩
    · refine ⟨by rw [doL_len, ih.1], ?_⟩
      have := doL_in h2 (l := actG F S G H w l i) (by rw [h3]; exact ih.2) (i := (plc (w.getD i 0)).toNat) (by omega)
      rwa [h3] at this

def lead_p (F : List (List Int)) (S : List (List Int)) (G : List (List Int)) (H : List (List Int)) (s : Int) (w : List Int) (l : List Int) : Post := ⟨pmB F S = true ∧ pmB G H = true ∧ G.length = F.length ∧ braidB s w = true ∧ (l.length : Int) = s ∧ inN F.length l, .c (.ints 2 .i64 (actG F S G H w l w.length)), []⟩
def lead_ct : List AD → Option Post
  | [.agg [.rows .i64 (F), .rows .i64 (S), .rows .i64 (G), .rows .i64 (H)], .agg [.int .i64 (s), .ints .i64 (w)], .c (.ints .i64 (l))] => some (lead_p F S G H s w l)
  | _ => none
def lead_ann (F : List (List Int)) (S : List (List Int)) (G : List (List Int)) (H : List (List Int)) (s : Int) (w : List Int) (l : List Int) : Nat → Option Ann
  | 0 => some (Ann.mk ((Nat)) (fun i => ⟨[(2, .c (.own (10))), (3, .c (.ptr 3 0)), (12, .c (.ro (.ints .i64 (w)))), (13, .c (.int .i64 ((w.length : Int)))), (14, .c (.int .i64 ((i : Int))))], [(3, some (.box [.ro (.rows .i64 (F)), .ro (.rows .i64 (S)), .ro (.rows .i64 (G)), .ro (.rows .i64 (H))])), (10, some (.ints 2 .i64 (actG F S G H w l i)))]⟩) (fun i => i ≤ w.length) (fun i => w.length - i) (fun _ => noAnn))
  | _ => none
def lead_G : List (Nat × Ctr) := [(129, ⟨[], Clone_ct⟩), (130, ⟨[], step_ct⟩)]
def lead_V (F : List (List Int)) (S : List (List Int)) (G : List (List Int)) (H : List (List Int)) (s : Int) (w : List Int) (l : List Int) : Prop :=
  ((((List.length l ≠ (0 : Nat)) ∧
  (Go.Sx.room (List.length l))) ∧
  (True)) ∧
  ((∃ x0 : Nat, ((x0 ≤ List.length w) ∧
  ((w = w) ∧
  (((↑(List.length w) : Int) = (↑(List.length w) : Int)) ∧
  (((0 : Int) = (↑x0 : Int)) ∧
  ((F = F) ∧
  ((S = S) ∧
  ((G = G) ∧
  ((H = H) ∧
  (l = Go.Sx.actG F S G H w l x0)))))))))) ∧
  (∀ x1 : Nat, ((x1 ≤ List.length w) →
  (BrP (Decidable.decide ((↑x1 : Int) < (↑(List.length w) : Int)))
    ((Go.Sx.inB (↑x1 : Int) (List.length w)) ∧
    ((((Go.Sx.pmB F S = Bool.true) ∧
    ((Go.Sx.pmB G H = Bool.true) ∧
    ((List.length G = List.length F) ∧
    ((Go.Sx.inN (List.length F) (Go.Sx.actG F S G H w l x1)) ∧
    ((List.length (Go.Sx.actG F S G H w l x1) ≤ (1000 : Nat)) ∧
    (((0 : Int) ≤ Go.Sx.plc (List.getD w (Int.toNat (↑x1 : Int)) (0 : Int))) ∧
    ((Go.Sx.plc (List.getD w (Int.toNat (↑x1 : Int)) (0 : Int)) + (1 : Int) < (↑(List.length (Go.Sx.actG F S G H w l x1)) : Int)) ∧
    (((-1000000 : Int) ≤ List.getD w (Int.toNat (↑x1 : Int)) (0 : Int)) ∧
    (List.getD w (Int.toNat (↑x1 : Int)) (0 : Int) ≤ (1000000 : Int)))))))))) ∧
    (True)) ∧
    ((Go.Sx.InR ((↑x1 : Int) + (1 : Int))) ∧
    (∃ x2 : Nat, ((x2 ≤ List.length w) ∧
    ((List.length w - x2 < List.length w - x1) ∧
    ((w = w) ∧
    (((↑(List.length w) : Int) = (↑(List.length w) : Int)) ∧
    (((↑x1 : Int) + (1 : Int) = (↑x2 : Int)) ∧
    ((F = F) ∧
    ((S = S) ∧
    ((G = G) ∧
    ((H = H) ∧
    (Go.Sx.stG F S G H (List.getD w (Int.toNat (↑x1 : Int)) (0 : Int)) (Go.Sx.actG F S G H w l x1) = Go.Sx.actG F S G H w l x2))))))))))))))
    ((Go.Sx.actG F S G H w l x1 = Go.Sx.actG F S G H w l (List.length w)) ∧
    (True)))))))
theorem lead_vc (F : List (List Int)) (S : List (List Int)) (G : List (List Int)) (H : List (List Int)) (s : Int) (w : List Int) (l : List Int) : runF Try.prog (gam lead_G) noWr (lead_ann F S G H s w l) Try.f81 (bodyOf Try.f81) [] [.agg [.rows .i64 (F), .rows .i64 (S), .rows .i64 (G), .rows .i64 (H)], .agg [.int .i64 (s), .ints .i64 (w)], .c (.ints .i64 (l))] (lead_p F S G H s w l) = lead_V F S G H s w l := by kernel_rfl
theorem lead_ok (F : List (List Int)) (S : List (List Int)) (G : List (List Int)) (H : List (List Int)) (s : Int) (w : List Int) (l : List Int) (hpre : (lead_p F S G H s w l).pre) : lead_V F S G H s w l := by
  simp only [lead_p, lead_V, BrP_iff, true_and, and_true, decide_eq_true_eq, decide_eq_false_iff_not, bne_iff_ne, beq_iff_eq, bne_eq_false_iff_eq, beq_eq_false_iff_ne, Bool.not_eq_true, Bool.not_eq_false, Bool.not_true, Bool.not_false, Bool.not_eq_eq_eq_not, Int.toNat_natCast, List.length_append, List.length_take, List.length_replicate, List.length_set, List.length_map, List.length_drop, List.length_nil, List.length_cons, markL_length, inB, InR, room, bdsOk] at hpre ⊢
  obtain ⟨h1, h2, h3, h4, h5, h6⟩ := hpre
  have hs := braidB_in h4
  refine ⟨by omega, ⟨0, by omega, rfl, rfl⟩, fun i hi => ⟨fun h => ?_, fun h => by rw [show i = w.length by omega]⟩⟩
  have A := actG_in h1 h2 h3 h4 h5 h6 i hi
  have c := plc_in h4 i (by omega)
  have g := braidB_get h4 i (by omega)
  exact ⟨by omega, ⟨h1, h2, h3, A.2, by omega, by omega, by omega, by omega, by omega⟩, by omega, i + 1, by omega, by omega, by omega, rfl⟩
theorem lead_fits : Fits Try.prog 81 ⟨[], lead_ct⟩ := by
  refine fits_fn (Γ := gam lead_G) (gok_cons Clone_fits (gok_cons step_fits gok_nil)) Try.func81 (by kernel_rfl) (by kernel_rfl) (by kernel_rfl) fun ds p h hp => ?_
  unfold lead_ct at h
  split at h
  · cases h
    exact ⟨noWr, lead_ann _ _ _ _ _ _ _ , by rw [lead_vc]; exact lead_ok _ _ _ _ _ _ _  hp⟩
  · cases h

def areElements_p (n : Int) (l : List Int) : Post := ⟨room l.length ∧ 0 ≤ n ∧ n ≤ 1000, .c (.bool (allW 0 (n - 1) l)), []⟩
def areElements_ct : List AD → Option Post
  | [.c (.int .i64 (n)), .c (.ints .i64 (l))] => some (areElements_p n l)
  | _ => none
def areElements_G : List (Nat × Ctr) := [(99, ⟨[], allWithin_ct⟩)]
def areElements_V (n : Int) (l : List Int) : Prop :=
  ((Go.Sx.InR (n - (1 : Int))) ∧
  (((Go.Sx.room (List.length l)) ∧
  (True)) ∧
  ((Go.Sx.allW (0 : Int) (n - (1 : Int)) l = Go.Sx.allW (0 : Int) (n - (1 : Int)) l) ∧
  (True))))
theorem areElements_vc (n : Int) (l : List Int) : runF Try.prog (gam areElements_G) noWr noAnn Try.f127 (bodyOf Try.f127) [] [.c (.int .i64 (n)), .c (.ints .i64 (l))] (areElements_p n l) = areElements_V n l := by kernel_rfl
theorem areElements_ok (n : Int) (l : List Int) (hpre : (areElements_p n l).pre) : areElements_V n l := by
  simp only [areElements_p, areElements_V, BrP_iff, true_and, and_true, decide_eq_true_eq, decide_eq_false_iff_not, bne_iff_ne, beq_iff_eq, bne_eq_false_iff_eq, beq_eq_false_iff_ne, Bool.not_eq_true, Bool.not_eq_false, Bool.not_true, Bool.not_false, Bool.not_eq_eq_eq_not, Int.toNat_natCast, List.length_append, List.length_take, List.length_replicate, List.length_set, List.length_map, List.length_drop, List.length_nil, List.length_cons, markL_length, inB, InR, room, bdsOk] at hpre ⊢
  exact ⟨by omega, hpre.1⟩
theorem areElements_fits : Fits Try.prog 127 ⟨[], areElements_ct⟩ := by
  refine fits_fn (Γ := gam areElements_G) (gok_cons allWithin_fits gok_nil) Try.func127 (by kernel_rfl) (by kernel_rfl) (by kernel_rfl) fun ds p h hp => ?_
  unfold areElements_ct at h
  split at h
  · cases h
    exact ⟨noWr, noAnn, by rw [areElements_vc]; exact areElements_ok _ _  hp⟩
  · cases h

def l04Elements_p (n : Int) (l : List Int) : Post := ⟨room l.length ∧ 0 ≤ n ∧ n ≤ 1000, .c (.bool (allW 0 (n - 1) l)), []⟩
def l04Elements_ct : List AD → Option Post
  | [.c (.int .i64 (n)), .c (.ints .i64 (l))] => some (l04Elements_p n l)
  | _ => none
def l04Elements_ann (n : Int) (l : List Int) : Nat → Option Ann
  | 0 => some (Ann.mk ((Nat)) (fun i => ⟨[(0, .c (.int .i64 (n))), (1, .c (.ro (.ints .i64 (l)))), (5, .c (.int .i64 ((i : Int))))], []⟩) (fun i => i ≤ l.length ∧ allW 0 (n - 1) l = allW 0 (n - 1) (l.drop i)) (fun i => l.length - i) (fun _ => noAnn))
  | _ => none
def l04Elements_G : List (Nat × Ctr) := [(83, ⟨[], l01In_ct⟩)]
def l04Elements_V (n : Int) (l : List Int) : Prop :=
  ((∃ x0 : Nat, (((x0 ≤ List.length l) ∧
  (Go.Sx.allW (0 : Int) (n - (1 : Int)) l = Go.Sx.allW (0 : Int) (n - (1 : Int)) (List.drop x0 l))) ∧
  ((n = n) ∧
  ((l = l) ∧
  ((0 : Int) = (↑x0 : Int)))))) ∧
  (∀ x1 : Nat, (((x1 ≤ List.length l) ∧
  (Go.Sx.allW (0 : Int) (n - (1 : Int)) l = Go.Sx.allW (0 : Int) (n - (1 : Int)) (List.drop x1 l))) →
  (BrP (Decidable.decide ((↑x1 : Int) < (↑(List.length l) : Int)))
    ((Go.Sx.inB (↑x1 : Int) (List.length l)) ∧
    ((Go.Sx.InR (n - (1 : Int))) ∧
    (((True) ∧
    (True)) ∧
    (BrP (!Decidable.decide ((0 : Int) ≤ List.getD l (Int.toNat (↑x1 : Int)) (0 : Int) ∧ List.getD l (Int.toNat (↑x1 : Int)) (0 : Int) ≤ n - (1 : Int)))
      ((Bool.false = Go.Sx.allW (0 : Int) (n - (1 : Int)) l) ∧
      (True))
      ((Go.Sx.InR ((↑x1 : Int) + (1 : Int))) ∧
      (∃ x2 : Nat, (((x2 ≤ List.length l) ∧
      (Go.Sx.allW (0 : Int) (n - (1 : Int)) l = Go.Sx.allW (0 : Int) (n - (1 : Int)) (List.drop x2 l))) ∧
      ((List.length l - x2 < List.length l - x1) ∧
      ((n = n) ∧
      ((l = l) ∧
      ((↑x1 : Int) + (1 : Int) = (↑x2 : Int))))))))))))
    ((Bool.true = Go.Sx.allW (0 : Int) (n - (1 : Int)) l) ∧
    (True))))))
theorem l04Elements_vc (n : Int) (l : List Int) : runF Try.prog (gam l04Elements_G) noWr (l04Elements_ann n l) Try.f77 (bodyOf Try.f77) [] [.c (.int .i64 (n)), .c (.ints .i64 (l))] (l04Elements_p n l) = l04Elements_V n l := by kernel_rfl
theorem l04Elements_ok (n : Int) (l : List Int) (hpre : (l04Elements_p n l).pre) : l04Elements_V n l := by
  simp only [l04Elements_p, l04Elements_V, BrP_iff, true_and, and_true, decide_eq_true_eq, decide_eq_false_iff_not, bne_iff_ne, beq_iff_eq, bne_eq_false_iff_eq, beq_eq_false_iff_ne, Bool.not_eq_true, Bool.not_eq_false, Bool.not_true, Bool.not_false, Bool.not_eq_eq_eq_not, Int.toNat_natCast, List.length_append, List.length_take, List.length_replicate, List.length_set, List.length_map, List.length_drop, List.length_nil, List.length_cons, markL_length, inB, InR, room, bdsOk] at hpre ⊢
  refine ⟨⟨0, ⟨by omega, rfl⟩, rfl⟩, fun i ⟨hi, he⟩ => ⟨fun h => ⟨by omega, by omega, fun h2 => ?_, fun h2 => ⟨by omega, i + 1, ⟨by omega, ?_⟩, by omega, by omega⟩⟩, fun h => ?_⟩⟩
  · rw [he, allW_drop _ _ _ _ (by omega), decide_eq_false h2, Bool.false_and]
  · rw [he, allW_drop _ _ _ _ (by omega), decide_eq_true h2, Bool.true_and]
  · rw [he, List.drop_eq_nil_of_le (by omega)]; rfl
theorem l04Elements_fits : Fits Try.prog 77 ⟨[], l04Elements_ct⟩ := by
  refine fits_fn (Γ := gam l04Elements_G) (gok_cons l01In_fits gok_nil) Try.func77 (by kernel_rfl) (by kernel_rfl) (by kernel_rfl) fun ds p h hp => ?_
  unfold l04Elements_ct at h
  split at h
  · cases h
    exact ⟨noWr, l04Elements_ann _ _ , by rw [l04Elements_vc]; exact l04Elements_ok _ _  hp⟩
  · cases h

def stA (F S : List (List Int)) (s : Int) (w : List Int) (l : List Int) : Int :=
  if solB F S = true ∧ braidB s w = true then (if (l.length : Int) = s ∧ allW 0 ((F.length : Int) - 1) l = true then 0 else 2) else 1

def checkAction_p (F : List (List Int)) (S : List (List Int)) (s : Int) (w : List Int) (l : List Int) : Post := ⟨roomR F ∧ roomR S ∧ room w.length ∧ room l.length, .c (.int .i64 (stA F S s w l)), []⟩
def checkAction_ct : List AD → Option Post
  | [.agg [.rows .i64 (F), .rows .i64 (S)], .agg [.int .i64 (s), .ints .i64 (w)], .c (.ints .i64 (l))] => some (checkAction_p F S s w l)
  | _ => none
def checkAction_G : List (Nat × Ctr) := [(126, ⟨[], IsSolution_ct⟩), (92, ⟨[], iIsBraid_ct⟩), (127, ⟨[], areElements_ct⟩)]
def checkAction_V (F : List (List Int)) (S : List (List Int)) (s : Int) (w : List Int) (l : List Int) : Prop :=
  ((((Go.Sx.roomR F) ∧
  (Go.Sx.roomR S)) ∧
  (True)) ∧
  (BrP (!Go.Sx.solB F S)
    (((1 : Int) = Go.Sx.stA F S s w l) ∧
    (True))
    (((Go.Sx.room (List.length w)) ∧
    (True)) ∧
    (BrP (!Go.Sx.braidB s w)
      (((1 : Int) = Go.Sx.stA F S s w l) ∧
      (True))
      (BrP ((↑(List.length l) : Int) != s)
        (((2 : Int) = Go.Sx.stA F S s w l) ∧
        (True))
        ((((Go.Sx.room (List.length l)) ∧
        (((0 : Int) ≤ (↑(List.length F) : Int)) ∧
        ((↑(List.length F) : Int) ≤ (1000 : Int)))) ∧
        (True)) ∧
        (BrP (!Go.Sx.allW (0 : Int) ((↑(List.length F) : Int) - (1 : Int)) l)
          (((2 : Int) = Go.Sx.stA F S s w l) ∧
          (True))
          (((0 : Int) = Go.Sx.stA F S s w l) ∧
          (True)))))))))
theorem checkAction_vc (F : List (List Int)) (S : List (List Int)) (s : Int) (w : List Int) (l : List Int) : runF Try.prog (gam checkAction_G) noWr noAnn Try.f79 (bodyOf Try.f79) [] [.agg [.rows .i64 (F), .rows .i64 (S)], .agg [.int .i64 (s), .ints .i64 (w)], .c (.ints .i64 (l))] (checkAction_p F S s w l) = checkAction_V F S s w l := by kernel_rfl
theorem checkAction_ok (F : List (List Int)) (S : List (List Int)) (s : Int) (w : List Int) (l : List Int) (hpre : (checkAction_p F S s w l).pre) : checkAction_V F S s w l := by
  simp only [checkAction_p, checkAction_V, BrP_iff, true_and, and_true, decide_eq_true_eq, decide_eq_false_iff_not, bne_iff_ne, beq_iff_eq, bne_eq_false_iff_eq, beq_eq_false_iff_ne, Bool.not_eq_true, Bool.not_eq_false, Bool.not_true, Bool.not_false, Bool.not_eq_eq_eq_not, Int.toNat_natCast, List.length_append, List.length_take, List.length_replicate, List.length_set, List.length_map, List.length_drop, List.length_nil, List.length_cons, markL_length, inB, InR, room, bdsOk] at hpre ⊢
  obtain ⟨r1, r2, r3, r4⟩ := hpre
  refine ⟨⟨r1, r2⟩, fun h => by simp [stA, h], fun h => ⟨r3, fun h2 => by simp [stA, h2], fun h2 => ⟨fun h3 => by simp [stA, h, h2, h3], fun h3 => ⟨⟨r4, by omega, ?_⟩, fun h4 => by simp [stA, h, h2, h3, h4], fun h4 => by simp [stA, h, h2, h3, h4]⟩⟩⟩⟩
  have := (pm_in (solB_of h).1).2.1
  omega
theorem checkAction_fits : Fits Try.prog 79 ⟨[], checkAction_ct⟩ := by
  refine fits_fn (Γ := gam checkAction_G) (gok_cons IsSolution_fits (gok_cons iIsBraid_fits (gok_cons areElements_fits gok_nil))) Try.func79 (by kernel_rfl) (by kernel_rfl) (by kernel_rfl) fun ds p h hp => ?_
  unfold checkAction_ct at h
  split at h
  · cases h
    exact ⟨noWr, noAnn, by rw [checkAction_vc]; exact checkAction_ok _ _ _ _ _  hp⟩
  · cases h

def l16Code_p (F : List (List Int)) (S : List (List Int)) (s : Int) (w : List Int) : Post := ⟨roomR F ∧ roomR S ∧ room w.length, .c (.int .i64 (if solB F S = true ∧ braidB s w = true then 0 else 1)), []⟩
def l16Code_ct : List AD → Option Post
  | [.agg [.rows .i64 (F), .rows .i64 (S)], .agg [.int .i64 (s), .ints .i64 (w)]] => some (l16Code_p F S s w)
  | _ => none
def l16Code_G : List (Nat × Ctr) := [(121, ⟨[], l02Is_ct⟩), (122, ⟨[], l16Is_ct⟩)]
def l16Code_V (F : List (List Int)) (S : List (List Int)) (s : Int) (w : List Int) : Prop :=
  ((((Go.Sx.roomR F) ∧
  (Go.Sx.roomR S)) ∧
  (True)) ∧
  (BrP (!Go.Sx.solB F S)
    (((1 : Int) = if Go.Sx.solB F S = Bool.true ∧ Go.Sx.braidB s w = Bool.true then (0 : Int) else (1 : Int)) ∧
    (True))
    (((Go.Sx.room (List.length w)) ∧
    (True)) ∧
    (BrP (!Go.Sx.braidB s w)
      (((1 : Int) = if Go.Sx.solB F S = Bool.true ∧ Go.Sx.braidB s w = Bool.true then (0 : Int) else (1 : Int)) ∧
      (True))
      (((0 : Int) = if Go.Sx.solB F S = Bool.true ∧ Go.Sx.braidB s w = Bool.true then (0 : Int) else (1 : Int)) ∧
      (True))))))
theorem l16Code_vc (F : List (List Int)) (S : List (List Int)) (s : Int) (w : List Int) : runF Try.prog (gam l16Code_G) noWr noAnn Try.f76 (bodyOf Try.f76) [] [.agg [.rows .i64 (F), .rows .i64 (S)], .agg [.int .i64 (s), .ints .i64 (w)]] (l16Code_p F S s w) = l16Code_V F S s w := by kernel_rfl
theorem l16Code_ok (F : List (List Int)) (S : List (List Int)) (s : Int) (w : List Int) (hpre : (l16Code_p F S s w).pre) : l16Code_V F S s w := by
  simp only [l16Code_p, l16Code_V, BrP_iff, true_and, and_true, decide_eq_true_eq, decide_eq_false_iff_not, bne_iff_ne, beq_iff_eq, bne_eq_false_iff_eq, beq_eq_false_iff_ne, Bool.not_eq_true, Bool.not_eq_false, Bool.not_true, Bool.not_false, Bool.not_eq_eq_eq_not, Int.toNat_natCast, List.length_append, List.length_take, List.length_replicate, List.length_set, List.length_map, List.length_drop, List.length_nil, List.length_cons, markL_length, inB, InR, room, bdsOk] at hpre ⊢
  obtain ⟨r1, r2, r3⟩ := hpre
  exact ⟨⟨r1, r2⟩, fun h => by simp [h], fun h => ⟨r3, fun h2 => by simp [h2], fun h2 => by simp [h, h2]⟩⟩
theorem l16Code_fits : Fits Try.prog 76 ⟨[], l16Code_ct⟩ := by
  refine fits_fn (Γ := gam l16Code_G) (gok_cons l02Is_fits (gok_cons l16Is_fits gok_nil)) Try.func76 (by kernel_rfl) (by kernel_rfl) (by kernel_rfl) fun ds p h hp => ?_
  unfold l16Code_ct at h
  split at h
  · cases h
    exact ⟨noWr, noAnn, by rw [l16Code_vc]; exact l16Code_ok _ _ _ _  hp⟩
  · cases h

def l16Act_p (F : List (List Int)) (S : List (List Int)) (s : Int) (w : List Int) (l : List Int) : Post := ⟨solB F S = true ∧ braidB s w = true ∧ (l.length : Int) = s ∧ inN F.length l, .c (.ints 2 .i64 (actG F S (ivT F S).1 (ivT F S).2 w l w.length)), []⟩
def l16Act_ct : List AD → Option Post
  | [.agg [.rows .i64 (F), .rows .i64 (S)], .agg [.int .i64 (s), .ints .i64 (w)], .c (.ints .i64 (l))] => some (l16Act_p F S s w l)
  | _ => none
def l16Act_ann (F : List (List Int)) (S : List (List Int)) (s : Int) (w : List Int) (l : List Int) : Nat → Option Ann
  | 0 => some (Ann.mk ((Nat)) (fun i => ⟨[(3, .c (.ptr 3 0)), (4, .c (.ptr 4 0)), (7, .c (.own (13))), (8, .c (.int .i64 ((i : Int))))], [(3, some (.box [.ro (.rows .i64 (F)), .ro (.rows .i64 (S))])), (4, some (.box [.int .i64 (s), .ro (.ints .i64 (w))])), (13, some (.ints 2 .i64 (actG F S (ivT F S).1 (ivT F S).2 w l i)))]⟩) (fun i => i ≤ w.length) (fun i => w.length - i) (fun _ => noAnn))
  | _ => none
def l16Act_G : List (Nat × Ctr) := [(91, ⟨[], l01Own_ct⟩), (123, ⟨[], l16Place_ct⟩), (124, ⟨[], l06Move_ct⟩), (125, ⟨[], l16Pair_ct⟩)]
def l16Act_V (F : List (List Int)) (S : List (List Int)) (s : Int) (w : List Int) (l : List Int) : Prop :=
  (((Go.Sx.room (List.length l)) ∧
  (True)) ∧
  ((∃ x0 : Nat, ((x0 ≤ List.length w) ∧
  (((0 : Int) = (↑x0 : Int)) ∧
  ((F = F) ∧
  ((S = S) ∧
  ((s = s) ∧
  ((w = w) ∧
  (l = Go.Sx.actG F S (Prod.fst (Go.Sx.ivT F S)) (Prod.snd (Go.Sx.ivT F S)) w l x0)))))))) ∧
  (∀ x1 : Nat, ((x1 ≤ List.length w) →
  (BrP (Decidable.decide ((↑x1 : Int) < (↑(List.length w) : Int)))
    ((Go.Sx.inB (↑x1 : Int) (List.length w)) ∧
    (((((-1000000 : Int) ≤ List.getD w (Int.toNat (↑x1 : Int)) (0 : Int)) ∧
    (List.getD w (Int.toNat (↑x1 : Int)) (0 : Int) ≤ (1000000 : Int))) ∧
    (True)) ∧
    ((Go.Sx.inB (↑x1 : Int) (List.length w)) ∧
    (BrP (Decidable.decide ((0 : Int) < List.getD w (Int.toNat (↑x1 : Int)) (0 : Int)))
      ((((Go.Sx.pmB F S = Bool.true) ∧
      ((Go.Sx.inN (List.length F) (Go.Sx.actG F S (Prod.fst (Go.Sx.ivT F S)) (Prod.snd (Go.Sx.ivT F S)) w l x1)) ∧
      (((0 : Int) ≤ Go.Sx.plc (List.getD w (Int.toNat (↑x1 : Int)) (0 : Int))) ∧
      ((Go.Sx.plc (List.getD w (Int.toNat (↑x1 : Int)) (0 : Int)) + (1 : Int) < (↑(List.length (Go.Sx.actG F S (Prod.fst (Go.Sx.ivT F S)) (Prod.snd (Go.Sx.ivT F S)) w l x1)) : Int)) ∧
      (List.length (Go.Sx.actG F S (Prod.fst (Go.Sx.ivT F S)) (Prod.snd (Go.Sx.ivT F S)) w l x1) ≤ (1000 : Nat)))))) ∧
      (True)) ∧
      ((Go.Sx.InR ((↑x1 : Int) + (1 : Int))) ∧
      (∃ x2 : Nat, ((x2 ≤ List.length w) ∧
      ((List.length w - x2 < List.length w - x1) ∧
      (((↑x1 : Int) + (1 : Int) = (↑x2 : Int)) ∧
      ((F = F) ∧
      ((S = S) ∧
      ((s = s) ∧
      ((w = w) ∧
      (Go.Sx.doL F S (Go.Sx.actG F S (Prod.fst (Go.Sx.ivT F S)) (Prod.snd (Go.Sx.ivT F S)) w l x1) (Int.toNat (Go.Sx.plc (List.getD w (Int.toNat (↑x1 : Int)) (0 : Int)))) = Go.Sx.actG F S (Prod.fst (Go.Sx.ivT F S)) (Prod.snd (Go.Sx.ivT F S)) w l x2)))))))))))
      ((Go.Sx.inB (Go.Sx.plc (List.getD w (Int.toNat (↑x1 : Int)) (0 : Int))) (List.length (Go.Sx.actG F S (Prod.fst (Go.Sx.ivT F S)) (Prod.snd (Go.Sx.ivT F S)) w l x1))) ∧
      ((Go.Sx.InR (Go.Sx.plc (List.getD w (Int.toNat (↑x1 : Int)) (0 : Int)) + (1 : Int))) ∧
      ((Go.Sx.inB (Go.Sx.plc (List.getD w (Int.toNat (↑x1 : Int)) (0 : Int)) + (1 : Int)) (List.length (Go.Sx.actG F S (Prod.fst (Go.Sx.ivT F S)) (Prod.snd (Go.Sx.ivT F S)) w l x1))) ∧
      (((Go.Sx.pmB F S = Bool.true) ∧
      (True)) ∧
      ((Go.Sx.inB (Go.Sx.plc (List.getD w (Int.toNat (↑x1 : Int)) (0 : Int))) (List.length (Go.Sx.actG F S (Prod.fst (Go.Sx.ivT F S)) (Prod.snd (Go.Sx.ivT F S)) w l x1))) ∧
      ((Go.Sx.InR (Go.Sx.plc (List.getD w (Int.toNat (↑x1 : Int)) (0 : Int)) + (1 : Int))) ∧
      ((Go.Sx.inB (Go.Sx.plc (List.getD w (Int.toNat (↑x1 : Int)) (0 : Int)) + (1 : Int)) (List.length (List.set (Go.Sx.actG F S (Prod.fst (Go.Sx.ivT F S)) (Prod.snd (Go.Sx.ivT F S)) w l x1) (Int.toNat (Go.Sx.plc (List.getD w (Int.toNat (↑x1 : Int)) (0 : Int)))) (Prod.fst (Go.Sx.prV F S (List.getD (Go.Sx.actG F S (Prod.fst (Go.Sx.ivT F S)) (Prod.snd (Go.Sx.ivT F S)) w l x1) (Int.toNat (Go.Sx.plc (List.getD w (Int.toNat (↑x1 : Int)) (0 : Int)))) (0 : Int)) (List.getD (Go.Sx.actG F S (Prod.fst (Go.Sx.ivT F S)) (Prod.snd (Go.Sx.ivT F S)) w l x1) (Int.toNat (Go.Sx.plc (List.getD w (Int.toNat (↑x1 : Int)) (0 : Int)) + (1 : Int))) (0 : Int))))))) ∧
      ((Go.Sx.InR ((↑x1 : Int) + (1 : Int))) ∧
      (∃ x3 : Nat, ((x3 ≤ List.length w) ∧
      ((List.length w - x3 < List.length w - x1) ∧
      (((↑x1 : Int) + (1 : Int) = (↑x3 : Int)) ∧
      ((F = F) ∧
      ((S = S) ∧
      ((s = s) ∧
      ((w = w) ∧
      (List.set (List.set (Go.Sx.actG F S (Prod.fst (Go.Sx.ivT F S)) (Prod.snd (Go.Sx.ivT F S)) w l x1) (Int.toNat (Go.Sx.plc (List.getD w (Int.toNat (↑x1 : Int)) (0 : Int)))) (Prod.fst (Go.Sx.prV F S (List.getD (Go.Sx.actG F S (Prod.fst (Go.Sx.ivT F S)) (Prod.snd (Go.Sx.ivT F S)) w l x1) (Int.toNat (Go.Sx.plc (List.getD w (Int.toNat (↑x1 : Int)) (0 : Int)))) (0 : Int)) (List.getD (Go.Sx.actG F S (Prod.fst (Go.Sx.ivT F S)) (Prod.snd (Go.Sx.ivT F S)) w l x1) (Int.toNat (Go.Sx.plc (List.getD w (Int.toNat (↑x1 : Int)) (0 : Int)) + (1 : Int))) (0 : Int))))) (Int.toNat (Go.Sx.plc (List.getD w (Int.toNat (↑x1 : Int)) (0 : Int)) + (1 : Int))) (Prod.snd (Go.Sx.prV F S (List.getD (Go.Sx.actG F S (Prod.fst (Go.Sx.ivT F S)) (Prod.snd (Go.Sx.ivT F S)) w l x1) (Int.toNat (Go.Sx.plc (List.getD w (Int.toNat (↑x1 : Int)) (0 : Int)))) (0 : Int)) (List.getD (Go.Sx.actG F S (Prod.fst (Go.Sx.ivT F S)) (Prod.snd (Go.Sx.ivT F S)) w l x1) (Int.toNat (Go.Sx.plc (List.getD w (Int.toNat (↑x1 : Int)) (0 : Int)) + (1 : Int))) (0 : Int)))) = Go.Sx.actG F S (Prod.fst (Go.Sx.ivT F S)) (Prod.snd (Go.Sx.ivT F S)) w l x3)))))))))))))))))))))
    ((Go.Sx.actG F S (Prod.fst (Go.Sx.ivT F S)) (Prod.snd (Go.Sx.ivT F S)) w l x1 = Go.Sx.actG F S (Prod.fst (Go.Sx.ivT F S)) (Prod.snd (Go.Sx.ivT F S)) w l (List.length w)) ∧
    (True)))))))
theorem l16Act_vc (F : List (List Int)) (S : List (List Int)) (s : Int) (w : List Int) (l : List Int) : runF Try.prog (gam l16Act_G) noWr (l16Act_ann F S s w l) Try.f78 (bodyOf Try.f78) [] [.agg [.rows .i64 (F), .rows .i64 (S)], .agg [.int .i64 (s), .ints .i64 (w)], .c (.ints .i64 (l))] (l16Act_p F S s w l) = l16Act_V F S s w l := by kernel_rfl
theorem l16Act_ok (F : List (List Int)) (S : List (List Int)) (s : Int) (w : List Int) (l : List Int) (hpre : (l16Act_p F S s w l).pre) : l16Act_V F S s w l := by
  simp only [l16Act_p, l16Act_V, BrP_iff, true_and, and_true, decide_eq_true_eq, decide_eq_false_iff_not, bne_iff_ne, beq_iff_eq, bne_eq_false_iff_eq, beq_eq_false_iff_ne, Bool.not_eq_true, Bool.not_eq_false, Bool.not_true, Bool.not_false, Bool.not_eq_eq_eq_not, Int.toNat_natCast, List.length_append, List.length_take, List.length_replicate, List.length_set, List.length_map, List.length_drop, List.length_nil, List.length_cons, markL_length, inB, InR, room, bdsOk] at hpre ⊢
  obtain ⟨h1, h2, h3, h4⟩ := hpre
  have hp := (solB_of h1).1
  have hs := braidB_in h2
  obtain ⟨t1, t2⟩ := ivT_ok h1
  refine ⟨by omega, ⟨0, by omega, rfl, rfl⟩, fun i hi => ⟨fun h => ?_, fun h => by rw [show i = w.length by omega]⟩⟩
  have A := actG_in hp t1 t2 h2 h3 h4 i hi
  have c := plc_in h2 i (by omega)
  have g := braidB_get h2 i (by omega)
  refine ⟨by omega, by omega, by omega, fun h5 => ⟨⟨hp, A.2, by omega, by omega, by omega⟩, by omega, i + 1, by omega, by omega, by omega, ?_⟩, fun h5 => ⟨by omega, by omega, by omega, hp, by omega, by omega, by omega, by omega, i + 1, by omega, by omega, by omega, ?_⟩⟩
  · rw [actG, stG, if_pos h5]
  · have e : (plc (w.getD i 0) + 1).toNat = (plc (w.getD i 0)).toNat + 1 := by omega
    have a1 := A.2 (plc (w.getD i 0)).toNat (by omega)
    have a2 := A.2 ((plc (w.getD i 0)).toNat + 1) (by omega)
    have k := prV_iv h1 (u := ((actG F S (ivT F S).1 (ivT F S).2 w l i).getD (plc (w.getD i 0)).toNat 0).toNat) (v := ((actG F S (ivT F S).1 (ivT F S).2 w l i).getD ((plc (w.getD i 0)).toNat + 1) 0).toNat) (by omega) (by omega)
    rw [Int.toNat_of_nonneg a1.1, Int.toNat_of_nonneg a2.1] at k
    rw [actG, stG, if_neg h5, e, k]; rfl
theorem l16Act_fits : Fits Try.prog 78 ⟨[], l16Act_ct⟩ := by
  refine fits_fn (Γ := gam l16Act_G) (gok_cons l01Own_fits (gok_cons l16Place_fits (gok_cons l06Move_fits (gok_cons l16Pair_fits gok_nil)))) Try.func78 (by kernel_rfl) (by kernel_rfl) (by kernel_rfl) fun ds p h hp => ?_
  unfold l16Act_ct at h
  split at h
  · cases h
    exact ⟨noWr, l16Act_ann _ _ _ _ _ , by rw [l16Act_vc]; exact l16Act_ok _ _ _ _ _  hp⟩
  · cases h

def actC (F S : List (List Int)) (s : Int) (w : List Int) (l : List Int) : List Int × Int :=
  if stA F S s w l = 0 then (actG F S (ivT F S).1 (ivT F S).2 w l w.length, 0) else ([], stA F S s w l)

theorem stA_ok {F S : List (List Int)} {s : Int} {w l : List Int} (h : stA F S s w l = 0) : solB F S = true ∧ braidB s w = true ∧ (l.length : Int) = s ∧ inN F.length l := by
  unfold stA at h
  split at h
  · rename_i c
    split at h
    · rename_i d
      refine ⟨c.1, c.2, d.1, fun i hi => ?_⟩
      have := allW_get d.2 i hi
      omega
    · omega
  · omega

def iAct_p (F : List (List Int)) (S : List (List Int)) (s : Int) (w : List Int) (l : List Int) : Post := ⟨roomR F ∧ roomR S ∧ room w.length ∧ room l.length, .tup [.inl (.ints 2 .i64 ((actC F S s w l).1)), .inl (.int .i64 ((actC F S s w l).2))], []⟩
def iAct_ct : List AD → Option Post
  | [.agg [.rows .i64 (F), .rows .i64 (S)], .agg [.int .i64 (s), .ints .i64 (w)], .c (.ints .i64 (l))] => some (iAct_p F S s w l)
  | _ => none
def iAct_G : List (Nat × Ctr) := [(79, ⟨[], checkAction_ct⟩), (80, ⟨[], newAction_ct⟩), (81, ⟨[], lead_ct⟩)]
def iAct_V (F : List (List Int)) (S : List (List Int)) (s : Int) (w : List Int) (l : List Int) : Prop :=
  ((((Go.Sx.roomR F) ∧
  ((Go.Sx.roomR S) ∧
  ((Go.Sx.room (List.length w)) ∧
  (Go.Sx.room (List.length l))))) ∧
  (True)) ∧
  (BrP (Go.Sx.stA F S s w l != (0 : Int))
    ((([] = Prod.fst (Go.Sx.actC F S s w l)) ∧
    ((Go.Sx.stA F S s w l = Prod.snd (Go.Sx.actC F S s w l)) ∧
    (True))) ∧
    (True))
    ((((Go.Sx.roomR F) ∧
    ((Go.Sx.roomR S) ∧
    (Go.Sx.solB F S = Bool.true))) ∧
    (True)) ∧
    ((((Go.Sx.pmB F S = Bool.true) ∧
    ((Go.Sx.pmB (Prod.fst (Go.Sx.ivT F S)) (Prod.snd (Go.Sx.ivT F S)) = Bool.true) ∧
    ((List.length (Prod.fst (Go.Sx.ivT F S)) = List.length F) ∧
    ((Go.Sx.braidB s w = Bool.true) ∧
    (((↑(List.length l) : Int) = s) ∧
    (Go.Sx.inN (List.length F) l)))))) ∧
    (True)) ∧
    (((Go.Sx.actG F S (Prod.fst (Go.Sx.ivT F S)) (Prod.snd (Go.Sx.ivT F S)) w l (List.length w) = Prod.fst (Go.Sx.actC F S s w l)) ∧
    (((0 : Int) = Prod.snd (Go.Sx.actC F S s w l)) ∧
    (True))) ∧
    (True))))))
theorem iAct_vc (F : List (List Int)) (S : List (List Int)) (s : Int) (w : List Int) (l : List Int) : runF Try.prog (gam iAct_G) noWr noAnn Try.f38 (bodyOf Try.f38) [] [.agg [.rows .i64 (F), .rows .i64 (S)], .agg [.int .i64 (s), .ints .i64 (w)], .c (.ints .i64 (l))] (iAct_p F S s w l) = iAct_V F S s w l := by kernel_rfl
theorem iAct_ok (F : List (List Int)) (S : List (List Int)) (s : Int) (w : List Int) (l : List Int) (hpre : (iAct_p F S s w l).pre) : iAct_V F S s w l := by
  simp only [iAct_p, iAct_V, BrP_iff, true_and, and_true, decide_eq_true_eq, decide_eq_false_iff_not, bne_iff_ne, beq_iff_eq, bne_eq_false_iff_eq, beq_eq_false_iff_ne, Bool.not_eq_true, Bool.not_eq_false, Bool.not_true, Bool.not_false, Bool.not_eq_eq_eq_not, Int.toNat_natCast, List.length_append, List.length_take, List.length_replicate, List.length_set, List.length_map, List.length_drop, List.length_nil, List.length_cons, markL_length, inB, InR, room, bdsOk] at hpre ⊢
  refine ⟨hpre, fun h => by rw [actC, if_neg h]; exact ⟨rfl, rfl⟩, fun h => ?_⟩
  obtain ⟨a1, a2, a3, a4⟩ := stA_ok h
  obtain ⟨t1, t2⟩ := ivT_ok a1
  exact ⟨⟨hpre.1, hpre.2.1, a1⟩, ⟨(solB_of a1).1, t1, t2, a2, a3, a4⟩, by rw [actC, if_pos h], by rw [actC, if_pos h]⟩
theorem iAct_fits : Fits Try.prog 38 ⟨[], iAct_ct⟩ := by
  refine fits_fn (Γ := gam iAct_G) (gok_cons checkAction_fits (gok_cons newAction_fits (gok_cons lead_fits gok_nil))) Try.func38 (by kernel_rfl) (by kernel_rfl) (by kernel_rfl) fun ds p h hp => ?_
  unfold iAct_ct at h
  split at h
  · cases h
    exact ⟨noWr, noAnn, by rw [iAct_vc]; exact iAct_ok _ _ _ _ _  hp⟩
  · cases h

def sAct_p (F : List (List Int)) (S : List (List Int)) (s : Int) (w : List Int) (l : List Int) : Post := ⟨roomR F ∧ roomR S ∧ room w.length ∧ room l.length, .tup [.inl (.ints 2 .i64 ((actC F S s w l).1)), .inl (.int .i64 ((actC F S s w l).2))], []⟩
def sAct_ct : List AD → Option Post
  | [.agg [.rows .i64 (F), .rows .i64 (S)], .agg [.int .i64 (s), .ints .i64 (w)], .c (.ints .i64 (l))] => some (sAct_p F S s w l)
  | _ => none
def sAct_G : List (Nat × Ctr) := [(76, ⟨[], l16Code_ct⟩), (77, ⟨[], l04Elements_ct⟩), (78, ⟨[], l16Act_ct⟩)]
def sAct_V (F : List (List Int)) (S : List (List Int)) (s : Int) (w : List Int) (l : List Int) : Prop :=
  ((((Go.Sx.roomR F) ∧
  ((Go.Sx.roomR S) ∧
  (Go.Sx.room (List.length w)))) ∧
  (True)) ∧
  (BrP ((if Go.Sx.solB F S = Bool.true ∧ Go.Sx.braidB s w = Bool.true then (0 : Int) else (1 : Int)) != (0 : Int))
    ((([] = Prod.fst (Go.Sx.actC F S s w l)) ∧
    (((if Go.Sx.solB F S = Bool.true ∧ Go.Sx.braidB s w = Bool.true then (0 : Int) else (1 : Int)) = Prod.snd (Go.Sx.actC F S s w l)) ∧
    (True))) ∧
    (True))
    (BrP ((↑(List.length l) : Int) != s)
      ((([] = Prod.fst (Go.Sx.actC F S s w l)) ∧
      (((2 : Int) = Prod.snd (Go.Sx.actC F S s w l)) ∧
      (True))) ∧
      (True))
      ((((Go.Sx.room (List.length l)) ∧
      (((0 : Int) ≤ (↑(List.length F) : Int)) ∧
      ((↑(List.length F) : Int) ≤ (1000 : Int)))) ∧
      (True)) ∧
      (BrP (!Go.Sx.allW (0 : Int) ((↑(List.length F) : Int) - (1 : Int)) l)
        ((([] = Prod.fst (Go.Sx.actC F S s w l)) ∧
        (((2 : Int) = Prod.snd (Go.Sx.actC F S s w l)) ∧
        (True))) ∧
        (True))
        ((((Go.Sx.solB F S = Bool.true) ∧
        ((Go.Sx.braidB s w = Bool.true) ∧
        (((↑(List.length l) : Int) = s) ∧
        (Go.Sx.inN (List.length F) l)))) ∧
        (True)) ∧
        (((Go.Sx.actG F S (Prod.fst (Go.Sx.ivT F S)) (Prod.snd (Go.Sx.ivT F S)) w l (List.length w) = Prod.fst (Go.Sx.actC F S s w l)) ∧
        (((0 : Int) = Prod.snd (Go.Sx.actC F S s w l)) ∧
        (True))) ∧
        (True))))))))
theorem sAct_vc (F : List (List Int)) (S : List (List Int)) (s : Int) (w : List Int) (l : List Int) : runF Try.prog (gam sAct_G) noWr noAnn Try.f35 (bodyOf Try.f35) [] [.agg [.rows .i64 (F), .rows .i64 (S)], .agg [.int .i64 (s), .ints .i64 (w)], .c (.ints .i64 (l))] (sAct_p F S s w l) = sAct_V F S s w l := by kernel_rfl
theorem sAct_ok (F : List (List Int)) (S : List (List Int)) (s : Int) (w : List Int) (l : List Int) (hpre : (sAct_p F S s w l).pre) : sAct_V F S s w l := by
  simp only [sAct_p, sAct_V, BrP_iff, true_and, and_true, decide_eq_true_eq, decide_eq_false_iff_not, bne_iff_ne, beq_iff_eq, bne_eq_false_iff_eq, beq_eq_false_iff_ne, Bool.not_eq_true, Bool.not_eq_false, Bool.not_true, Bool.not_false, Bool.not_eq_eq_eq_not, Int.toNat_natCast, List.length_append, List.length_take, List.length_replicate, List.length_set, List.length_map, List.length_drop, List.length_nil, List.length_cons, markL_length, inB, InR, room, bdsOk] at hpre ⊢
  refine ⟨⟨hpre.1, hpre.2.1, hpre.2.2.1⟩, fun h => ?_, fun h => ?_⟩
  · have c : ¬ (solB F S = true ∧ braidB s w = true) := fun c => h (if_pos c)
    have e : stA F S s w l = 1 := if_neg c
    rw [if_neg c, actC, e]
    exact ⟨rfl, rfl⟩
  · have c : solB F S = true ∧ braidB s w = true := by
      by_cases c : solB F S = true ∧ braidB s w = true
      · exact c
      · rw [if_neg c] at h; omega
    have n2 := (pm_in (solB_of c.1).1).2.1
    have two : ¬ ((l.length : Int) = s ∧ allW 0 ((F.length : Int) - 1) l = true) → [] = (actC F S s w l).1 ∧ 2 = (actC F S s w l).2 := fun d => by
      have e : stA F S s w l = 2 := by rw [stA, if_pos c, if_neg d]
      rw [actC, e]
      exact ⟨rfl, rfl⟩
    refine ⟨fun h2 => two fun d => h2 d.1, fun h2 => ⟨⟨hpre.2.2.2, by omega, by omega⟩, fun h3 => two fun d => by rw [h3] at d; exact absurd d.2 (by decide), fun h3 => ?_⟩⟩
    have e : stA F S s w l = 0 := by rw [stA, if_pos c, if_pos ⟨h2, h3⟩]
    obtain ⟨a1, a2, a3, a4⟩ := stA_ok e
    exact ⟨⟨a1, a2, a3, a4⟩, by rw [actC, if_pos e], by rw [actC, if_pos e]⟩
theorem sAct_fits : Fits Try.prog 35 ⟨[], sAct_ct⟩ := by
  refine fits_fn (Γ := gam sAct_G) (gok_cons l16Code_fits (gok_cons l04Elements_fits (gok_cons l16Act_fits gok_nil))) Try.func35 (by kernel_rfl) (by kernel_rfl) (by kernel_rfl) fun ds p h hp => ?_
  unfold sAct_ct at h
  split at h
  · cases h
    exact ⟨noWr, noAnn, by rw [sAct_vc]; exact sAct_ok _ _ _ _ _  hp⟩
  · cases h

end Go.Sx

