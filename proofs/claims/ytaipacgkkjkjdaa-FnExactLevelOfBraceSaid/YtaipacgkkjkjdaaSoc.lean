/- Braces as plain functions on numbers; the quotient of a brace by its socle is a brace, with fewer elements. -/
import Derived.Test.YtaipacgkkjkjdaaQuotL
open Go Go.Proofs
namespace Go.Sx
set_option linter.unusedSectionVars false

/-- A brace on the numbers below n. -/
structure BrN (n : Nat) (A C : Nat → Nat → Nat) : Prop where
  pos : 0 < n
  ain : ∀ x y, x < n → y < n → A x y < n
  cin : ∀ x y, x < n → y < n → C x y < n
  aas : ∀ x y z, x < n → y < n → z < n → A (A x y) z = A x (A y z)
  cas : ∀ x y z, x < n → y < n → z < n → C (C x y) z = C x (C y z)
  a0l : ∀ x, x < n → A 0 x = x
  a0r : ∀ x, x < n → A x 0 = x
  c0l : ∀ x, x < n → C 0 x = x
  c0r : ∀ x, x < n → C x 0 = x
  ainv : ∀ x, x < n → ∃ y, y < n ∧ A x y = 0
  cinv : ∀ x, x < n → ∃ y, y < n ∧ C x y = 0
  brc : ∀ x y z i, x < n → y < n → z < n → i < n → A x i = 0 → C x (A y z) = A (A (C x y) i) (C x z)

def SocP (n : Nat) (A C : Nat → Nat → Nat) (t : Nat) : Prop := t < n ∧ ∀ z, z < n → C t z = A t z ∧ A t z = A z t

section
variable {n : Nat} {A C : Nat → Nat → Nat} (B : BrN n A C)
include B

theorem inv_two {x y : Nat} (hx : x < n) (hy : y < n) (h : A x y = 0) : A y x = 0 := by
  obtain ⟨z, hz, h2⟩ := B.ainv y hy
  have : x = z := by rw [← B.a0r x hx, ← h2, ← B.aas x y z hx hy hz, h, B.a0l z hz]
  rw [this, h2]

theorem cinv_two {x y : Nat} (hx : x < n) (hy : y < n) (h : C x y = 0) : C y x = 0 := by
  obtain ⟨z, hz, h2⟩ := B.cinv y hy
  have : x = z := by rw [← B.c0r x hx, ← h2, ← B.cas x y z hx hy hz, h, B.c0l z hz]
  rw [this, h2]

theorem soc_zero : SocP n A C 0 := ⟨B.pos, fun z hz => ⟨by rw [B.c0l z hz, B.a0l z hz], by rw [B.a0l z hz, B.a0r z hz]⟩⟩

theorem soc_add {x y : Nat} (hx : SocP n A C x) (hy : SocP n A C y) : SocP n A C (A x y) := by
  refine ⟨B.ain x y hx.1 hy.1, fun z hz => ⟨?_, ?_⟩⟩
  · rw [← (hx.2 y hy.1).1, B.cas x y z hx.1 hy.1 hz, (hy.2 z hz).1, (hx.2 _ (B.ain y z hy.1 hz)).1, (hx.2 y hy.1).1, B.aas x y z hx.1 hy.1 hz]
  · rw [B.aas x y z hx.1 hy.1 hz, (hy.2 z hz).2, ← B.aas x z y hx.1 hz hy.1, (hx.2 z hz).2, B.aas z x y hz hx.1 hy.1]

theorem soc_neg {x y : Nat} (hx : SocP n A C x) (hy : y < n) (h : A x y = 0) : SocP n A C y := by
  have h2 := inv_two B hx.1 hy h
  refine ⟨hy, fun z hz => ⟨?_, ?_⟩⟩
  · have hw := B.cin y z hy hz
    have e1 : A x (C y z) = z := by rw [← (hx.2 _ hw).1, ← B.cas x y z hx.1 hy hz, (hx.2 y hy).1, h, B.c0l z hz]
    calc C y z = A 0 (C y z) := (B.a0l _ hw).symm
      _ = A y (A x (C y z)) := by rw [← h2, B.aas y x _ hy hx.1 hw]
      _ = A y z := by rw [e1]
  · have hyz := B.ain y z hy hz
    calc A y z = A (A y z) (A x y) := by rw [h, B.a0r _ hyz]
      _ = A (A (A y z) x) y := (B.aas _ x y hyz hx.1 hy).symm
      _ = A (A y (A z x)) y := by rw [B.aas y z x hy hz hx.1]
      _ = A (A y (A x z)) y := by rw [(hx.2 z hz).2]
      _ = A (A (A y x) z) y := by rw [← B.aas y x z hy hx.1 hz]
      _ = A z y := by rw [h2, B.a0l z hz]

/-- x and y lie in one class of the socle. -/
def SimP (n : Nat) (A C : Nat → Nat → Nat) (x y : Nat) : Prop := ∃ t, SocP n A C t ∧ A x t = y

theorem sim_refl {x : Nat} (hx : x < n) : SimP n A C x x := ⟨0, soc_zero B, B.a0r x hx⟩
theorem sim_symm {x y : Nat} (hx : x < n) (h : SimP n A C x y) : SimP n A C y x := by
  obtain ⟨t, ht, rfl⟩ := h
  obtain ⟨i, hi, h2⟩ := B.ainv t ht.1
  exact ⟨i, soc_neg B ht hi h2, by rw [B.aas x t i hx ht.1 hi, h2, B.a0r x hx]⟩
theorem sim_trans {x y z : Nat} (hx : x < n) (h : SimP n A C x y) (k : SimP n A C y z) : SimP n A C x z := by
  obtain ⟨t, ht, rfl⟩ := h
  obtain ⟨u, hu, rfl⟩ := k
  exact ⟨A t u, soc_add B ht hu, (B.aas x t u hx ht.1 hu.1).symm⟩

theorem sim_add {x x' y y' : Nat} (hx : x < n) (hy : y < n) (h : SimP n A C x x') (k : SimP n A C y y') : SimP n A C (A x y) (A x' y') := by
  obtain ⟨t, ht, rfl⟩ := h
  obtain ⟨u, hu, rfl⟩ := k
  refine ⟨A t u, soc_add B ht hu, ?_⟩
  have h1 := ht.1
  have h2 := hu.1
  rw [B.aas x y _ hx hy (B.ain t u h1 h2), ← B.aas y t u hy h1 h2, ← (ht.2 y hy).2, B.aas t y u h1 hy h2, B.aas x t _ hx h1 (B.ain y u hy h2)]

theorem lam_soc {x u i : Nat} (hx : x < n) (hu : SocP n A C u) (hi : i < n) (h : A x i = 0) : SocP n A C (A i (C x u)) ∧ A x (A i (C x u)) = C x u := by
  have h2 := inv_two B hx hi h
  have hcu := B.cin x u hx hu.1
  have hl := B.ain i _ hi hcu
  have e0 : A x (A i (C x u)) = C x u := by rw [← B.aas x i _ hx hi hcu, h, B.a0l _ hcu]
  obtain ⟨j, hj, hxj⟩ := B.cinv x hx
  have hjx := cinv_two B hx hj hxj
  -- q = x∘u - x
  have hq : A (C x u) i < n := B.ain _ i hcu hi
  have cen : ∀ z, z < n → A z (A (C x u) i) = A (A (C x u) i) z := fun z hz => by
    -- y with x∘y = z + x
    have hzx := B.ain z x hz hx
    have hy := B.cin j (A z x) hj hzx
    have ey : C x (C j (A z x)) = A z x := by rw [← B.cas x j _ hx hj hzx, hxj, B.c0l _ hzx]
    have b1 := B.brc x _ u i hx hy hu.1 hi h
    have b2 := B.brc x u _ i hx hu.1 hy hi h
    rw [ey] at b1 b2
    rw [(hu.2 _ hy).2, b1] at b2
    -- z + x - x + x∘u = x∘u - x + z + x
    have b3 : A z (C x u) = A (A (C x u) i) (A z x) := by
      rw [← b2, B.aas z x i hz hx hi, h, B.a0r z hz]
    have b4 := congrArg (fun v => A v i) b3
    rw [B.aas z _ i hz hcu hi, B.aas _ _ i hq hzx hi, B.aas z x i hz hx hi, h, B.a0r z hz] at b4
    exact b4
  have el : A i (C x u) = A (C x u) i := by
    have := cen i hi
    calc A i (C x u) = A i (A (C x u) (A i x)) := by rw [h2, B.a0r _ hcu]
      _ = A i (A (A (C x u) i) x) := by rw [B.aas _ i x hcu hi hx]
      _ = A (A i (A (C x u) i)) x := by rw [B.aas i _ x hi hq hx]
      _ = A (A (A (C x u) i) i) x := by rw [this]
      _ = A (A (C x u) i) (A i x) := B.aas _ i x hq hi hx
      _ = A (C x u) i := by rw [h2, B.a0r _ hq]
  refine ⟨⟨hl, fun z hz => ⟨?_, by rw [el]; exact (cen z hz).symm⟩⟩, e0⟩
  -- λ = x∘(u∘j)
  have huj := B.cin u j hu.1 hj
  have e1 : C x (C u j) = A i (C x u) := by
    rw [(hu.2 j hj).1, B.brc x u j i hx hu.1 hj hi h, hxj, B.a0r _ hq, el]
  have hjz := B.cin j z hj hz
  calc C (A i (C x u)) z = C x (C (C u j) z) := by rw [← e1, B.cas x _ z hx huj hz]
    _ = C x (C u (C j z)) := by rw [B.cas u j z hu.1 hj hz]
    _ = C x (A u (C j z)) := by rw [(hu.2 _ hjz).1]
    _ = A (A (C x u) i) (C x (C j z)) := B.brc x u _ i hx hu.1 hjz hi h
    _ = A (A i (C x u)) z := by rw [← B.cas x j z hx hj hz, hxj, B.c0l z hz, el]

theorem sim_circ {x x' y y' : Nat} (hx : x < n) (hy : y < n) (h : SimP n A C x x') (k : SimP n A C y y') : SimP n A C (C x y) (C x' y') := by
  obtain ⟨t, ht, rfl⟩ := h
  obtain ⟨u, hu, rfl⟩ := k
  obtain ⟨i, hi, h2⟩ := B.ainv x hx
  obtain ⟨hl, el⟩ := lam_soc B hx hu hi h2
  have hyu := B.ain y u hy hu.1
  have hxy := B.cin x y hx hy
  have hxyu := B.cin x _ hx hyu
  have hcu := B.cin x u hx hu.1
  refine ⟨A (A i (C x u)) t, soc_add B hl ht, ?_⟩
  have e1 : C (A x t) (A y u) = A (C x (A y u)) t := by
    rw [← (ht.2 x hx).2, ← (ht.2 x hx).1, B.cas t x _ ht.1 hx hyu, (ht.2 _ hxyu).1, (ht.2 _ hxyu).2]
  have e2 : C x (A y u) = A (C x y) (A i (C x u)) := by
    rw [B.brc x y u i hx hy hu.1 hi h2, B.aas _ i _ hxy hi hcu]
  rw [e1, e2, B.aas _ _ t hxy hl.1 ht.1]

end

/-- A quotient of a brace is one. -/
theorem BrN.quot {n m : Nat} {A C : Nat → Nat → Nat} (B : BrN n A C) {π f : Nat → Nat} (hm : 0 < m) (hπ : ∀ x, x < n → π x < m) (hf : ∀ x, x < m → f x < n ∧ π (f x) = x) (h0 : π 0 = 0)
    (ha : ∀ x x' y y', x < n → y < n → x' < n → y' < n → π x = π x' → π y = π y' → π (A x y) = π (A x' y'))
    (hc : ∀ x x' y y', x < n → y < n → x' < n → y' < n → π x = π x' → π y = π y' → π (C x y) = π (C x' y')) :
    BrN m (fun x y => π (A (f x) (f y))) (fun x y => π (C (f x) (f y))) := by
  have ha' : ∀ x y, x < n → y < n → π (A (f (π x)) (f (π y))) = π (A x y) := fun x y hx hy =>
    ha _ _ _ _ (hf _ (hπ x hx)).1 (hf _ (hπ y hy)).1 hx hy (hf _ (hπ x hx)).2 (hf _ (hπ y hy)).2
  have hc' : ∀ x y, x < n → y < n → π (C (f (π x)) (f (π y))) = π (C x y) := fun x y hx hy =>
    hc _ _ _ _ (hf _ (hπ x hx)).1 (hf _ (hπ y hy)).1 hx hy (hf _ (hπ x hx)).2 (hf _ (hπ y hy)).2
  have sur : ∀ x, x < m → ∃ y, y < n ∧ π y = x := fun x hx => ⟨f x, (hf x hx).1, (hf x hx).2⟩
  refine ⟨hm, fun x y hx hy => hπ _ (B.ain _ _ (hf x hx).1 (hf y hy).1), fun x y hx hy => hπ _ (B.cin _ _ (hf x hx).1 (hf y hy).1), ?_, ?_, ?_, ?_, ?_, ?_, ?_, ?_, ?_⟩
  · intro x y z hx hy hz
    obtain ⟨x, hx', rfl⟩ := sur x hx; replace hx := hx'
    obtain ⟨y, hy', rfl⟩ := sur y hy; replace hy := hy'
    obtain ⟨z, hz', rfl⟩ := sur z hz; replace hz := hz'
    rw [ha' x y hx hy, ha' y z hy hz, ha' _ z (B.ain x y hx hy) hz, ha' x _ hx (B.ain y z hy hz), B.aas x y z hx hy hz]
  · intro x y z hx hy hz
    obtain ⟨x, hx', rfl⟩ := sur x hx; replace hx := hx'
    obtain ⟨y, hy', rfl⟩ := sur y hy; replace hy := hy'
    obtain ⟨z, hz', rfl⟩ := sur z hz; replace hz := hz'
    rw [hc' x y hx hy, hc' y z hy hz, hc' _ z (B.cin x y hx hy) hz, hc' x _ hx (B.cin y z hy hz), B.cas x y z hx hy hz]
  · intro x hx
    obtain ⟨x, hx', rfl⟩ := sur x hx; replace hx := hx'
    have := ha' 0 x B.pos hx
    rw [h0, B.a0l x hx] at this
    exact this
  · intro x hx
    obtain ⟨x, hx', rfl⟩ := sur x hx; replace hx := hx'
    have := ha' x 0 hx B.pos
    rw [h0, B.a0r x hx] at this
    exact this
  · intro x hx
    obtain ⟨x, hx', rfl⟩ := sur x hx; replace hx := hx'
    have := hc' 0 x B.pos hx
    rw [h0, B.c0l x hx] at this
    exact this
  · intro x hx
    obtain ⟨x, hx', rfl⟩ := sur x hx; replace hx := hx'
    have := hc' x 0 hx B.pos
    rw [h0, B.c0r x hx] at this
    exact this
  · intro x hx
    obtain ⟨x, hx', rfl⟩ := sur x hx; replace hx := hx'
    obtain ⟨y, hy, h⟩ := B.ainv x hx
    exact ⟨π y, hπ y hy, by rw [ha' x y hx hy, h, h0]⟩
  · intro x hx
    obtain ⟨x, hx', rfl⟩ := sur x hx; replace hx := hx'
    obtain ⟨y, hy, h⟩ := B.cinv x hx
    exact ⟨π y, hπ y hy, by rw [hc' x y hx hy, h, h0]⟩
  · intro x y z i hx hy hz hi h
    obtain ⟨x, hx', rfl⟩ := sur x hx; replace hx := hx'
    obtain ⟨y, hy', rfl⟩ := sur y hy; replace hy := hy'
    obtain ⟨z, hz', rfl⟩ := sur z hz; replace hz := hz'
    obtain ⟨k, hk, h2⟩ := B.ainv x hx
    -- i is the class of k
    have ei : i = π k := by
      obtain ⟨i, hi', rfl⟩ := sur i hi; replace hi := hi'
      rw [ha' x i hx hi] at h
      have h3 := inv_two B hx hk h2
      have e1 := ha k k (A x i) 0 hk (B.ain x i hx hi) hk B.pos rfl (by rw [h, h0])
      rw [← B.aas k x i hk hx hi, h3, B.a0l i hi, B.a0r k hk] at e1
      exact e1
    subst ei
    have hxy := B.cin x y hx hy
    have hxz := B.cin x z hx hz
    rw [ha' y z hy hz, hc' x _ hx (B.ain y z hy hz), hc' x y hx hy, ha' _ k hxy hk, hc' x z hx hz, ha' _ _ (B.ain _ k hxy hk) hxz, B.brc x y z k hx hy hz hk h2]

theorem BrN.congr {n : Nat} {A C A' C' : Nat → Nat → Nat} (B : BrN n A C) (ea : ∀ x y, x < n → y < n → A' x y = A x y) (ec : ∀ x y, x < n → y < n → C' x y = C x y) : BrN n A' C' := by
  refine ⟨B.pos, fun x y hx hy => by rw [ea x y hx hy]; exact B.ain x y hx hy, fun x y hx hy => by rw [ec x y hx hy]; exact B.cin x y hx hy, fun x y z hx hy hz => ?_, fun x y z hx hy hz => ?_, fun x hx => ?_, fun x hx => ?_, fun x hx => ?_, fun x hx => ?_, fun x hx => ?_, fun x hx => ?_, fun x y z i hx hy hz hi h => ?_⟩
  · rw [ea x y hx hy, ea y z hy hz, ea _ z (B.ain x y hx hy) hz, ea x _ hx (B.ain y z hy hz), B.aas x y z hx hy hz]
  · rw [ec x y hx hy, ec y z hy hz, ec _ z (B.cin x y hx hy) hz, ec x _ hx (B.cin y z hy hz), B.cas x y z hx hy hz]
  · rw [ea 0 x B.pos hx, B.a0l x hx]
  · rw [ea x 0 hx B.pos, B.a0r x hx]
  · rw [ec 0 x B.pos hx, B.c0l x hx]
  · rw [ec x 0 hx B.pos, B.c0r x hx]
  · obtain ⟨y, hy, h⟩ := B.ainv x hx
    exact ⟨y, hy, by rw [ea x y hx hy, h]⟩
  · obtain ⟨y, hy, h⟩ := B.cinv x hx
    exact ⟨y, hy, by rw [ec x y hx hy, h]⟩
  · rw [ea x i hx hi] at h
    rw [ea y z hy hz, ec x _ hx (B.ain y z hy hz), ec x y hx hy, ec x z hx hz, ea _ i (B.cin x y hx hy) hi, ea _ _ (B.ain _ i (B.cin x y hx hy) hi) (B.cin x z hx hz), B.brc x y z i hx hy hz hi h]

theorem mskN_bit (p : Nat → Bool) : ∀ n k, (mskN p n).testBit k = (decide (k < n) && p k)
  | 0, k => by simp [mskN]
  | n + 1, k => by
    simp only [mskN]
    have ih := mskN_bit p n k
    split
    · rename_i hp
      rw [Nat.testBit_or, ih, Nat.testBit_two_pow]
      by_cases h1 : n = k
      · subst h1; simp [hp]
      · by_cases h2 : k < n
        · simp [h1, h2, show k < n + 1 by omega]
        · simp [h1, h2, show ¬ k < n + 1 by omega]
    · rename_i hp
      rw [ih]
      by_cases h1 : n = k
      · subst h1; simp [hp]
      · by_cases h2 : k < n
        · simp [h2, show k < n + 1 by omega]
        · simp [h2, show ¬ k < n + 1 by omega]

def soQ (a c : List (List Int)) (x y : Nat) : Bool := decide (en c x y = en a x y) && decide (en a x y = en a y x)
def soP (a c : List (List Int)) (x : Nat) : Bool := (List.range a.length).all (soQ a c x)
def soM (a c : List (List Int)) (i : Nat) : Nat := mskN (soP a c) i
/-- The socle. -/
def soS (a c : List (List Int)) : Int := (soM a c a.length : Nat)

theorem soS_bit (a c : List (List Int)) (k : Nat) : bitB (soS a c) k = (decide (k < a.length) && soP a c k) := by
  unfold bitB soS soM
  rw [Int.toNat_natCast, mskN_bit]

theorem soS_ok {a : List (List Int)} (h : tabB a = true) (c : List (List Int)) : setOk a (soS a c) := by
  refine ⟨h, Int.natCast_nonneg _, ?_⟩
  unfold soS soM
  rw [Int.toNat_natCast]
  exact mskN_lt _ _

def tA (t : List (List Int)) (x y : Nat) : Nat := (en t x y).toNat

/-- Two tables that are a brace. -/
def brT (a c : List (List Int)) : Prop := tabB a = true ∧ tabB c = true ∧ c.length = a.length ∧ BrN a.length (tA a) (tA c)

theorem tA_lt {t : List (List Int)} (h : tabB t = true) {x y : Nat} (hx : x < t.length) (hy : y < t.length) : tA t x y < t.length ∧ en t x y = (tA t x y : Int) := by
  have := ((tabB_of h).2.2 x hx).2 y hy
  unfold tA
  unfold en
  omega

theorem idxL_get (x : Int) : ∀ (l : List Int) (k : Int), x ∈ l → l.getD (idxL x l k - k).toNat 0 = x
  | [], k, h => by simp at h
  | y :: l, k, h => by
    simp only [idxL]
    split
    · rename_i hy; subst hy; simp
    · rename_i hy
      have hm : x ∈ l := by
        rcases List.mem_cons.1 h with rfl | h
        · exact absurd rfl hy
        · exact h
      have ih := idxL_get x l (k + 1) hm
      have hn : k + 1 ≤ idxL x l (k + 1) := by
        have : ∀ (l : List Int) (k : Int), x ∈ l → k ≤ idxL x l k := fun l => by
          induction l with
          | nil => intro k h; simp at h
          | cons z l ihl =>
            intro k h
            simp only [idxL]
            split
            · omega
            · rename_i hz
              have hm : x ∈ l := by
                rcases List.mem_cons.1 h with rfl | h
                · exact absurd rfl hz
                · exact h
              have := ihl (k + 1) hm
              omega
        exact this l (k + 1) hm
      rw [show (idxL x l (k + 1) - k).toNat = (idxL x l (k + 1) - (k + 1)).toNat + 1 by omega]
      simpa using ih

theorem grp_facts {t : List (List Int)} (h : grpB t = true) :
    (∀ x y z, x < t.length → y < t.length → z < t.length → tA t (tA t x y) z = tA t x (tA t y z)) ∧ (∀ x, x < t.length → tA t 0 x = x) ∧ (∀ x, x < t.length → tA t x 0 = x) ∧
    (∀ x, x < t.length → (bk t x).toNat < t.length ∧ tA t x (bk t x).toNat = 0) := by
  have ht := tabB_of (grp_tab h)
  have hbk := fun x (hx : x < t.length) => bk_in h hx
  rw [grpB, Bool.and_eq_true, Bool.and_eq_true] at h
  obtain ⟨_, hp, hg⟩ := h
  rw [List.all_eq_true] at hg
  have hg2 : ∀ x, x < t.length → zrX t x = true ∧ asX t x = true := fun x hx => by
    have := hg x (by simpa using hx)
    rw [gpX, Bool.and_eq_true] at this
    exact this
  refine ⟨fun x y z hx hy hz => ?_, fun x hx => ?_, fun x hx => ?_, fun x hx => ⟨?_, ?_⟩⟩
  · have h1 := (hg2 x hx).2
    rw [asX, List.all_eq_true] at h1
    have h2 := h1 y (by simpa using hy)
    rw [asY, List.all_eq_true] at h2
    have h3 := of_decide_eq_true (h2 z (by simpa using hz))
    unfold tA
    rw [h3]
  · have h1 := (hg2 x hx).1
    rw [zrX, Bool.and_eq_true] at h1
    have := of_decide_eq_true h1.1
    unfold tA; rw [this]; rfl
  · have h1 := (hg2 x hx).1
    rw [zrX, Bool.and_eq_true] at h1
    have := of_decide_eq_true h1.2
    unfold tA; rw [this]; rfl
  · have := hbk x hx; omega
  · have hr := ht.2.2 x hx
    have hpx : permB (t.getD x []) = true := by
      rw [all_idx, List.all_eq_true] at hp
      exact hp x (by simpa using hx)
    have hm := perm_has hpx (x := 0) (by omega) (by omega)
    have := idxL_get 0 (t.getD x []) 0 hm
    rw [Int.sub_zero] at this
    unfold tA en bk
    rw [this]; rfl

theorem firstO_none {α : Type} {n : Nat} {q : Nat → Option α} : ∀ {k : Nat}, k ≤ n → firstO n q k = none → ∀ i, n - k ≤ i → i < n → q i = none
  | 0, _, _, i, h1, h2 => by omega
  | k + 1, hk, h, i, h1, h2 => by
    simp only [firstO, Option.or_eq_none_iff] at h
    by_cases hi : i = n - (k + 1)
    · subst hi; exact h.1
    · exact firstO_none (by omega) h.2 i (by omega) h2

theorem brT_of {a c : List (List Int)} (h : brcB a c = true) : brT a c := by
  obtain ⟨h1, h2, h3, h4⟩ := brcB_of h
  obtain ⟨a1, a2, a3, a4⟩ := grp_facts h1
  obtain ⟨c1, c2, c3, c4⟩ := grp_facts h2
  rw [← h3] at c1 c2 c3 c4
  have ta := grp_tab h1
  have tc := grp_tab h2
  have hA : ∀ x y, x < a.length → y < a.length → tA a x y < a.length ∧ en a x y = (tA a x y : Int) := fun x y hx hy => tA_lt ta hx hy
  have hC : ∀ x y, x < a.length → y < a.length → tA c x y < a.length ∧ en c x y = (tA c x y : Int) := fun x y hx hy => by
    have := tA_lt tc (x := x) (y := y) (by omega) (by omega)
    rwa [← h3] at this
  refine ⟨ta, tc, h3.symm, (tabB_of ta).1, fun x y hx hy => (hA x y hx hy).1, fun x y hx hy => (hC x y hx hy).1, a1, c1, a2, a3, c2, c3, fun x hx => ⟨_, a4 x hx⟩, fun x hx => ⟨_, c4 x hx⟩, fun x y z i hx hy hz hi hxi => ?_⟩
  -- i is the inverse of x
  have ei : i = (bk a x).toNat := by
    obtain ⟨hk, hxk⟩ := a4 x hx
    obtain ⟨z2, hz2, hkz⟩ : ∃ z2, z2 < a.length ∧ tA a (bk a x).toNat z2 = 0 := ⟨_, a4 _ hk⟩
    have : x = z2 := (a3 x hx).symm.trans (by rw [← hkz, ← a1 x _ _ hx hk hz2, hxk, a2 _ hz2])
    subst this
    rw [← a2 i hi, ← hkz, a1 _ x i hk hx hi, hxi, a3 _ hk]
  subst ei
  have h5 : brF a c = none := by simpa using h4
  have h6 := firstO_none (Nat.le_refl _) h5 x (by omega) hx
  have h7 := firstO_none (Nat.le_refl _) h6 y (by omega) hy
  have h8 := firstO_none (Nat.le_refl _) h7 z (by omega) hz
  rw [brZ] at h8
  split at h8
  · rename_i h9
    unfold tA
    rw [h9]
  · cases h8

/-- Coset labels. -/
theorem lsN_facts (t : List (List Int)) (s : Int) (x : Nat) : ∀ k, lsN t s x k ≤ (x : Int) ∧ (lsN t s x k = (x : Int) ∨ ∃ j, j < k ∧ bitB s j = true ∧ lsN t s x k = en t x j) ∧ ∀ j, j < k → bitB s j = true → lsN t s x k ≤ en t x j
  | 0 => ⟨Int.le_refl _, .inl rfl, fun j hj => by omega⟩
  | k + 1 => by
    obtain ⟨h1, h2, h3⟩ := lsN_facts t s x k
    simp only [lsN]
    split
    · rename_i hb
      unfold mn
      split
      · refine ⟨by omega, .inr ⟨k, by omega, hb, rfl⟩, fun j hj hj2 => ?_⟩
        by_cases e : j = k
        · subst e; omega
        · have := h3 j (by omega) hj2; omega
      · refine ⟨h1, ?_, fun j hj hj2 => ?_⟩
        · rcases h2 with h2 | ⟨j, h4, h5, h6⟩
          · exact .inl h2
          · exact .inr ⟨j, by omega, h5, h6⟩
        · by_cases e : j = k
          · subst e; omega
          · exact h3 j (by omega) hj2
    · rename_i hb
      refine ⟨h1, ?_, fun j hj hj2 => ?_⟩
      · rcases h2 with h2 | ⟨j, h4, h5, h6⟩
        · exact .inl h2
        · exact .inr ⟨j, by omega, h5, h6⟩
      · by_cases e : j = k
        · subst e; exact absurd hj2 hb
        · exact h3 j (by omega) hj2

section
variable {a c : List (List Int)} (B : brT a c)
include B

theorem so_soc (t : Nat) : bitB (soS a c) t = true ↔ SocP a.length (tA a) (tA c) t := by
  obtain ⟨ta, tc, hl, hB⟩ := B
  rw [soS_bit, Bool.and_eq_true, decide_eq_true_eq, soP, List.all_eq_true]
  constructor
  · rintro ⟨h1, h2⟩
    refine ⟨h1, fun z hz => ?_⟩
    have := h2 z (by simpa using hz)
    rw [soQ, Bool.and_eq_true, decide_eq_true_eq, decide_eq_true_eq] at this
    unfold tA
    rw [this.1, ← this.2]
    exact ⟨rfl, rfl⟩
  · rintro ⟨h1, h2⟩
    refine ⟨h1, fun z hz => ?_⟩
    have hz : z < a.length := by simpa using hz
    have := h2 z hz
    have e1 := (tA_lt ta h1 hz).2
    have e2 := (tA_lt ta hz h1).2
    have e3 := (tA_lt tc (x := t) (y := z) (by omega) (by omega)).2
    rw [soQ, Bool.and_eq_true, decide_eq_true_eq, decide_eq_true_eq]
    omega

/-- The label of a class: its least element. -/
def lb (a : List (List Int)) (s : Int) (x : Nat) : Nat := (lsN a s x a.length).toNat

theorem lb_facts {x : Nat} (hx : x < a.length) : lsN a (soS a c) x a.length = (lb a (soS a c) x : Int) ∧ lb a (soS a c) x ≤ x ∧ SimP a.length (tA a) (tA c) x (lb a (soS a c) x) ∧ ∀ y, SimP a.length (tA a) (tA c) x y → lb a (soS a c) x ≤ y := by
  obtain ⟨h1, h2, h3⟩ := lsN_facts a (soS a c) x a.length
  have hn : 0 ≤ lsN a (soS a c) x a.length := by
    rcases h2 with h2 | ⟨j, h4, _, h6⟩
    · omega
    · have := (tA_lt B.1 hx h4).2; omega
  refine ⟨by unfold lb; omega, by unfold lb; omega, ?_, fun y ⟨t, ht, e⟩ => ?_⟩
  · unfold lb
    rcases h2 with h2 | ⟨j, h4, h5, h6⟩
    · rw [h2]; exact sim_refl B.2.2.2 hx
    · rw [h6]; exact ⟨j, (so_soc B j).1 h5, rfl⟩
  · have := h3 t ht.1 ((so_soc B t).2 ht)
    have e2 := (tA_lt B.1 hx ht.1).2
    rw [e] at e2
    unfold lb
    omega

theorem sim_lt {x y : Nat} (hx : x < a.length) (h : SimP a.length (tA a) (tA c) x y) : y < a.length := by
  obtain ⟨t, ht, rfl⟩ := h
  exact B.2.2.2.ain x t hx ht.1

theorem lb_iff {x y : Nat} (hx : x < a.length) (hy : y < a.length) : lb a (soS a c) x = lb a (soS a c) y ↔ SimP a.length (tA a) (tA c) x y := by
  have hB := B.2.2.2
  have fx := lb_facts B hx
  have fy := lb_facts B hy
  constructor
  · intro h
    refine sim_trans hB hx fx.2.2.1 ?_
    rw [h]
    exact sim_symm hB hy fy.2.2.1
  · intro h
    have h1 := fx.2.2.2 _ (sim_trans hB hx h fy.2.2.1)
    have h2 := fy.2.2.2 _ (sim_trans hB hy (sim_symm hB hx h) fx.2.2.1)
    omega

end

/-- Numbered labels. -/
theorem nbS_mono (l : List Int) (i : Nat) : ∀ j, ∃ m, nbS l (i + j) = nbS l i ++ m
  | 0 => ⟨[], by simp⟩
  | j + 1 => by
    obtain ⟨m, h⟩ := nbS_mono l i j
    rw [← Nat.add_assoc]
    simp only [nbS]
    split
    · exact ⟨m, h⟩
    · exact ⟨m ++ [l.getD (i + j) 0], by rw [h, List.append_assoc]⟩

theorem nbL_idx (l : List Int) {i : Nat} (hi : i < l.length) : (nbL l).getD i 0 = idxL (l.getD i 0) (nbS l l.length) 0 ∧ l.getD i 0 ∈ nbS l l.length := by
  have hm := nb_mem l i
  obtain ⟨m, h⟩ := nbS_mono l (i + 1) (l.length - (i + 1))
  rw [show i + 1 + (l.length - (i + 1)) = l.length by omega] at h
  refine ⟨?_, by rw [h]; exact List.mem_append.2 (.inl hm)⟩
  rw [h, idxL_app _ _ _ _ hm]
  exact tab_getD _ _ _ hi

theorem nbL_iff (l : List Int) {i j : Nat} (hi : i < l.length) (hj : j < l.length) : (nbL l).getD i 0 = (nbL l).getD j 0 ↔ l.getD i 0 = l.getD j 0 := by
  obtain ⟨h1, h2⟩ := nbL_idx l hi
  obtain ⟨h3, h4⟩ := nbL_idx l hj
  rw [h1, h3]
  constructor
  · intro h
    have a := idxL_get _ _ 0 h2
    have b := idxL_get _ _ 0 h4
    rw [h] at a
    exact a.symm.trans b
  · intro h; rw [h]

theorem nbL_in (l : List Int) {i : Nat} (hi : i < l.length) : 0 ≤ (nbL l).getD i 0 ∧ (nbL l).getD i 0 < ((foN (nbL l) (nbL l).length).length : Int) := by
  obtain ⟨h1, h2⟩ := nbL_idx l hi
  have hl : (nbL l).length = l.length := tab_length _ _
  rw [h1, hl, nb_fo l l.length (Nat.le_refl _)]
  have := idxL_lt (l.getD i 0) (nbS l l.length) 0 (by omega)
  exact ⟨idxL_nn _ _ h2, by omega⟩

theorem foN_get (cl : List Int) : ∀ i X, X < (foN cl i).length → cl.getD ((foN cl i).getD X 0).toNat 0 = (X : Int)
  | 0, X, h => by simp [foN] at h
  | i + 1, X, h => by
    simp only [foN] at h ⊢
    split
    · rename_i hc
      rw [if_pos hc] at h
      by_cases e : X = (foN cl i).length
      · subst e
        rw [show (foN cl i ++ [(i : Int)]).getD (foN cl i).length 0 = (i : Int) by simp [List.getD], Int.toNat_natCast, hc]
      · have hX : X < (foN cl i).length := by simp at h; omega
        rw [show (foN cl i ++ [(i : Int)]).getD X 0 = (foN cl i).getD X 0 by simp [List.getD, List.getElem?_append_left hX]]
        exact foN_get cl i X hX
    · rename_i hc
      rw [if_neg hc] at h
      exact foN_get cl i X h

/-- A label that came before makes no new class. -/
theorem nbS_less (l : List Int) {x y : Nat} (hy : y < x) (h : l.getD y 0 = l.getD x 0) : ∀ i, x < i → (nbS l i).length + 1 ≤ i
  | 0, h => by omega
  | i + 1, hi => by
    by_cases e : i = x
    · subst e
      have hm : l.getD i 0 ∈ nbS l i := by
        obtain ⟨m, h2⟩ := nbS_mono l (y + 1) (i - (y + 1))
        rw [show y + 1 + (i - (y + 1)) = i by omega] at h2
        rw [h2, ← h]
        exact List.mem_append.2 (.inl (nb_mem l y))
      have := nbS_len l i
      simp only [nbS]
      rw [if_pos hm]
      omega
    · have ih := nbS_less l hy h i (by omega)
      simp only [nbS]
      split
      · omega
      · simp; omega

section
variable {a c : List (List Int)} (B : brT a c)
include B

theorem ls_get {x : Nat} (hx : x < a.length) : (lsL a (soS a c)).getD x 0 = (lb a (soS a c) x : Int) := by
  rw [lsL, tab_getD _ _ _ hx]
  exact (lb_facts B hx).1

/-- The class of an element, and a class's first element. -/
def cn (a c : List (List Int)) (x : Nat) : Nat := ((csL a (soS a c)).getD x 0).toNat
def cf (a c : List (List Int)) (x : Nat) : Nat := ((foN (csL a (soS a c)) (csL a (soS a c)).length).getD x 0).toNat
def cm (a c : List (List Int)) : Nat := (foN (csL a (soS a c)) (csL a (soS a c)).length).length

theorem cn_in {x : Nat} (hx : x < a.length) : (csL a (soS a c)).getD x 0 = (cn a c x : Int) ∧ cn a c x < cm a c := by
  have hl : (lsL a (soS a c)).length = a.length := tab_length _ _
  have := nbL_in (lsL a (soS a c)) (i := x) (by omega)
  unfold cn cm csL
  omega

theorem cn_iff {x y : Nat} (hx : x < a.length) (hy : y < a.length) : cn a c x = cn a c y ↔ SimP a.length (tA a) (tA c) x y := by
  have hl : (lsL a (soS a c)).length = a.length := tab_length _ _
  have h1 := nbL_iff (lsL a (soS a c)) (i := x) (j := y) (by omega) (by omega)
  rw [ls_get B hx, ls_get B hy] at h1
  have e1 := (cn_in B hx).1
  have e2 := (cn_in B hy).1
  unfold csL at e1 e2
  rw [e1, e2] at h1
  rw [← lb_iff B hx hy]
  omega

theorem cf_in {x : Nat} (hx : x < cm a c) : cf a c x < a.length ∧ cn a c (cf a c x) = x ∧ (foN (csL a (soS a c)) (csL a (soS a c)).length).getD x 0 = (cf a c x : Int) := by
  have hl := csL_length a (soS a c)
  have h1 := foN_in (csL a (soS a c)) (csL a (soS a c)).length _ (getD_mem (foN (csL a (soS a c)) (csL a (soS a c)).length) 0 x hx)
  have h2 := foN_get (csL a (soS a c)) (csL a (soS a c)).length x hx
  refine ⟨by unfold cf; omega, by unfold cn cf; rw [h2]; rfl, by unfold cf; omega⟩

theorem cm_pos : 0 < cm a c := by
  have := (cn_in B B.2.2.2.pos).2
  omega

theorem cn_zero : cn a c 0 = 0 := by
  have h0 := B.2.2.2.pos
  have h1 := cf_in B (cm_pos B)
  -- the first class is that of 0
  have hl : (csL a (soS a c)).length = a.length := csL_length _ _
  have hl2 : (lsL a (soS a c)).length = a.length := tab_length _ _
  have e := (cn_in B h0).1
  have : (nbL (lsL a (soS a c))).getD 0 0 = 0 := by
    unfold nbL
    rw [tab_getD _ _ _ (by omega)]
    simp [nbS, idxL]
  unfold csL at e
  omega

theorem en_quo {t : List (List Int)} (ht : tabB t = true) (hl : t.length = a.length) {x y : Nat} (hx : x < cm a c) (hy : y < cm a c) : en (quo t (csL a (soS a c))) x y = (cn a c (tA t (cf a c x) (cf a c y)) : Int) := by
  unfold en quo
  have hx' : x < (foN (csL a (soS a c)) (csL a (soS a c)).length).length := hx
  have hy' : y < (foN (csL a (soS a c)) (csL a (soS a c)).length).length := hy
  rw [tabR_getD _ _ _ hx', tab_getD _ _ _ hy']
  have fx := cf_in B hx
  have fy := cf_in B hy
  rw [fx.2.2, fy.2.2, Int.toNat_natCast, Int.toNat_natCast]
  have h := tA_lt ht (x := cf a c x) (y := cf a c y) (by omega) (by omega)
  exact (cn_in B (x := tA t (cf a c x) (cf a c y)) (by omega)).1

theorem quo_tab {t : List (List Int)} (ht : tabB t = true) (hl : t.length = a.length) : tabB (quo t (csL a (soS a c))) = true ∧ (quo t (csL a (soS a c))).length = cm a c := by
  have n2 := (tabB_of B.1).2.1
  have hlen : (quo t (csL a (soS a c))).length = cm a c := tabR_length _ _
  have hm := cm_pos B
  have hm2 : cm a c ≤ a.length := by
    have := foN_len (csL a (soS a c)) (csL a (soS a c)).length
    rw [csL_length] at this
    unfold cm
    rw [csL_length]; exact this
  refine ⟨?_, hlen⟩
  rw [tabB, Bool.and_eq_true, decide_eq_true_eq, List.all_eq_true]
  refine ⟨by omega, fun r hr => ?_⟩
  obtain ⟨x, hx, rfl⟩ := List.mem_map.1 (show r ∈ (List.range (cm a c)).map _ from hr)
  have hx : x < cm a c := by simpa using hx
  rw [rowB, Bool.and_eq_true, decide_eq_true_eq, allW, List.all_eq_true]
  refine ⟨by rw [tab_length, hlen]; rfl, fun v hv => ?_⟩
  obtain ⟨y, hy, rfl⟩ := List.mem_map.1 (show v ∈ (List.range (cm a c)).map _ from hv)
  have hy : y < cm a c := by simpa using hy
  have e := en_quo B ht hl hx hy
  unfold en quo at e
  have hx' : x < (foN (csL a (soS a c)) (csL a (soS a c)).length).length := hx
  have hy' : y < (foN (csL a (soS a c)) (csL a (soS a c)).length).length := hy
  rw [tabR_getD _ _ _ hx', tab_getD _ _ _ hy'] at e
  have fx := cf_in B hx
  have fy := cf_in B hy
  have h := tA_lt ht (x := cf a c x) (y := cf a c y) (by omega) (by omega)
  have := (cn_in B (x := tA t (cf a c x) (cf a c y)) (by omega)).2
  rw [decide_eq_true_eq]
  simp only [e, hlen]
  omega

/-- THE QUOTIENT BY THE SOCLE is a brace. -/
theorem brT_quo : brT (quo a (csL a (soS a c))) (quo c (csL a (soS a c))) := by
  have hB := B.2.2.2
  obtain ⟨q1, q2⟩ := quo_tab B B.1 rfl
  obtain ⟨q3, q4⟩ := quo_tab B B.2.1 B.2.2.1
  have key := hB.quot (π := cn a c) (f := cf a c) (cm_pos B) (fun x hx => (cn_in B hx).2) (fun x hx => ⟨(cf_in B hx).1, (cf_in B hx).2.1⟩) (cn_zero B)
    (fun x x' y y' hx hy hx' hy' h k => (cn_iff B (hB.ain x y hx hy) (hB.ain x' y' hx' hy')).2 (sim_add hB hx hy ((cn_iff B hx hx').1 h) ((cn_iff B hy hy').1 k)))
    (fun x x' y y' hx hy hx' hy' h k => (cn_iff B (hB.cin x y hx hy) (hB.cin x' y' hx' hy')).2 (sim_circ hB hx hy ((cn_iff B hx hx').1 h) ((cn_iff B hy hy').1 k)))
  have ea : ∀ x y, x < cm a c → y < cm a c → tA (quo a (csL a (soS a c))) x y = cn a c (tA a (cf a c x) (cf a c y)) := fun x y hx hy => by
    have := en_quo B B.1 rfl hx hy
    rw [tA, this, Int.toNat_natCast]
  have ec : ∀ x y, x < cm a c → y < cm a c → tA (quo c (csL a (soS a c))) x y = cn a c (tA c (cf a c x) (cf a c y)) := fun x y hx hy => by
    have := en_quo B B.2.1 B.2.2.1 hx hy
    rw [tA, this, Int.toNat_natCast]
  refine ⟨q1, q3, by omega, ?_⟩
  rw [q2]
  exact key.congr ea ec

theorem cm_lt (h1 : 1 < a.length) (h : soS a c ≠ 1) : cm a c < a.length := by
  have hB := B.2.2.2
  -- another element k of the socle
  have hk : ∃ k, 0 < k ∧ k < a.length ∧ SocP a.length (tA a) (tA c) k := by
    by_cases e : ∃ k, 0 < k ∧ k < a.length ∧ bitB (soS a c) k = true
    · obtain ⟨k, k1, k2, k3⟩ := e
      exact ⟨k, k1, k2, (so_soc B k).1 k3⟩
    · exfalso
      apply h
      have : soM a c a.length = 1 := by
        apply Nat.eq_of_testBit_eq
        intro k
        have hb := soS_bit a c k
        unfold bitB soS at hb
        rw [Int.toNat_natCast] at hb
        by_cases k0 : k = 0
        · subst k0
          have := (so_soc B 0).2 (soc_zero hB)
          unfold bitB soS at this
          rw [Int.toNat_natCast] at this
          rw [this]; rfl
        · have h2 : (1 : Nat).testBit k = false := by
            cases k with
            | zero => exact absurd rfl k0
            | succ k => simp [Nat.testBit_succ]
          rw [h2]
          by_cases hk : k < a.length
          · cases hh : (soM a c a.length).testBit k with
            | false => rfl
            | true =>
              exfalso
              refine e ⟨k, by omega, hk, ?_⟩
              unfold bitB soS
              rw [Int.toNat_natCast]; exact hh
          · rw [hb]; simp [hk]
      unfold soS
      rw [this]; rfl
  obtain ⟨k, k0, k1, hk⟩ := hk
  -- k and 0 lie in one class
  have hs : SimP a.length (tA a) (tA c) 0 k := ⟨k, hk, hB.a0l k k1⟩
  have e := (lb_iff B hB.pos k1).2 hs
  have hl : (lsL a (soS a c)).length = a.length := tab_length _ _
  have := nbS_less (lsL a (soS a c)) k0 (by rw [ls_get B hB.pos, ls_get B k1, e]) (lsL a (soS a c)).length (by omega)
  unfold cm csL
  rw [show (nbL (lsL a (soS a c))).length = (lsL a (soS a c)).length from tab_length _ _, nb_fo _ _ (Nat.le_refl _)]
  omega

end

end Go.Sx
