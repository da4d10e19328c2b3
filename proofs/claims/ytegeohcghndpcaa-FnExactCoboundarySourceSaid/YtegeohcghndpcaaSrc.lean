/- Contracts on the way of CoboundarySource. Not finished: see NOTES.md. -/
import Derived.Test.YtegeohcghndpcaaCmp
import Derived.Test.YtegeohcghndpcaaRack
open Go Go.Proofs
namespace Go.Sx
set_option linter.unusedSimpArgs false
set_option linter.unusedVariables false

/-- One look at the place x, y. -/
def sg (t : List (List Int)) (m : Int) (f : List (List Int)) (g : List Int) (x y : Nat) : List Int :=
  if 0 ≤ g.getD y 0 ∧ g.getD (en t x y).toNat 0 < 0 then g.set (en t x y).toNat ((g.getD y 0 + en f x y).tmod m)
  else if 0 ≤ g.getD (en t x y).toNat 0 ∧ g.getD y 0 < 0 then g.set y ((g.getD (en t x y).toNat 0 - en f x y + m).tmod m)
  else g

def rowG (t : List (List Int)) (m : Int) (f : List (List Int)) (x j : Nat) (g : List Int) : List Int := (List.range j).foldl (fun g y => sg t m f g x y) g
def passG (t : List (List Int)) (m : Int) (f : List (List Int)) (i : Nat) (g : List Int) : List Int := (List.range i).foldl (fun g x => rowG t m f x t.length g) g

theorem rowG_step (t : List (List Int)) (m : Int) (f : List (List Int)) (x j : Nat) (g : List Int) : rowG t m f x (j + 1) g = sg t m f (rowG t m f x j g) x j := by
  simp [rowG, List.range_succ, List.foldl_append]

theorem passG_step (t : List (List Int)) (m : Int) (f : List (List Int)) (i : Nat) (g : List Int) : passG t m f (i + 1) g = rowG t m f i t.length (passG t m f i g) := by
  simp [passG, List.range_succ, List.foldl_append]

/-- Places without a value. -/
def negs (g : List Int) : Nat := g.countP fun x => decide (x < 0)

theorem negs_set {g : List Int} {k : Nat} {v : Int} (hk : k < g.length) (h : g.getD k 0 < 0) (hv : 0 ≤ v) : negs (g.set k v) + 1 = negs g := by
  have e : g = g.take k ++ g.getD k 0 :: g.drop (k + 1) := by
    rw [← drop_cons' g 0 k hk, List.take_append_drop]
  have e2 : g.set k v = g.take k ++ v :: g.drop (k + 1) := by
    conv => lhs; rw [e]
    exact at_set _ _ _ _ _ (by rw [List.length_take]; omega)
  rw [e2]
  conv => rhs; rw [e]
  simp only [negs, List.countP_append, List.countP_cons]
  rw [if_neg (by simpa using hv), if_pos (by simpa using h)]
  omega

theorem sg_length (t : List (List Int)) (m : Int) (f : List (List Int)) (g : List Int) (x y : Nat) : (sg t m f g x y).length = g.length := by
  unfold sg
  split
  · simp
  · split <;> simp

theorem rowG_length (t : List (List Int)) (m : Int) (f : List (List Int)) (x : Nat) (g : List Int) : ∀ j, (rowG t m f x j g).length = g.length
  | 0 => rfl
  | j + 1 => by rw [rowG_step, sg_length, rowG_length t m f x g j]

theorem passG_length (t : List (List Int)) (m : Int) (f : List (List Int)) (g : List Int) : ∀ i, (passG t m f i g).length = g.length
  | 0 => rfl
  | i + 1 => by rw [passG_step, rowG_length, passG_length t m f g i]

/-- Passes until nothing changes. -/
def growG (t : List (List Int)) (m : Int) (f : List (List Int)) : Nat → List Int → List Int
  | 0, g => g
  | k + 1, g => if passG t m f t.length g = g then g else growG t m f k (passG t m f t.length g)

/-- Values below m; -1 where there is none. -/
def valB (m : Int) (g : List Int) : Prop := ∀ k, k < g.length → -1 ≤ g.getD k 0 ∧ g.getD k 0 ≤ m - 1

theorem valB_set {m : Int} {g : List Int} (h : valB m g) {k : Nat} {v : Int} (hv : 0 ≤ v ∧ v ≤ m - 1) : valB m (g.set k v) := fun i hi => by
  rw [List.length_set] at hi
  rw [getD_set _ _ _ _ hi]
  split
  · omega
  · exact h i hi

theorem sg_val {t : List (List Int)} {m : Int} {f : List (List Int)} {g : List Int} (h1 : tabB t = true) (h2 : matB (t.length : Int) m f = true) (h3 : valB m g) (hl : g.length = t.length) (x y : Nat) (hx : x < t.length) (hy : y < t.length) :
    valB m (sg t m f g x y) := by
  obtain ⟨n1, n2, ht⟩ := tabB_of h1
  obtain ⟨m1, m2, m3, hf⟩ := matB_of h2
  have a := (ht x hx).2 y hy
  have b := hf x (by omega)
  have c := b.2 y (by omega)
  have d := h3 y (by omega)
  have e := h3 (en t x y).toNat (by unfold en; omega)
  unfold sg
  split
  · rename_i h
    exact valB_set h3 (tmod_in (by unfold en at *; omega) m1)
  · split
    · rename_i h
      exact valB_set h3 (tmod_in (by unfold en at *; omega) m1)
    · exact h3

/-- A look changes nothing, or gives one more value. -/
theorem sg_negs {t : List (List Int)} {m : Int} {f : List (List Int)} {g : List Int} (h1 : tabB t = true) (h2 : matB (t.length : Int) m f = true) (h3 : valB m g) (hl : g.length = t.length) (x y : Nat) (hx : x < t.length) (hy : y < t.length) :
    sg t m f g x y = g ∨ negs (sg t m f g x y) + 1 = negs g := by
  obtain ⟨n1, n2, ht⟩ := tabB_of h1
  obtain ⟨m1, m2, m3, hf⟩ := matB_of h2
  have a := (ht x hx).2 y hy
  have b := hf x (by omega)
  have c := b.2 y (by omega)
  have d := h3 y (by omega)
  have e := h3 (en t x y).toNat (by unfold en; omega)
  have k : (en t x y).toNat < g.length := by unfold en; omega
  unfold sg
  split
  · rename_i h
    exact .inr (negs_set k h.2 (tmod_in (by unfold en at *; omega) m1).1)
  · split
    · rename_i h
      exact .inr (negs_set (by omega) h.2 (tmod_in (by unfold en at *; omega) m1).1)
    · exact .inl rfl

/-- A value that is there stays. -/
theorem sg_keep (t : List (List Int)) (m : Int) (f : List (List Int)) (g : List Int) (x y k : Nat) (hk : k < g.length) (h : 0 ≤ g.getD k 0) : (sg t m f g x y).getD k 0 = g.getD k 0 := by
  unfold sg
  split
  · rename_i h2
    rw [getD_set _ _ _ _ hk, if_neg]
    rintro rfl
    omega
  · split
    · rename_i h2
      rw [getD_set _ _ _ _ hk, if_neg]
      rintro rfl
      omega
    · rfl

/-- What every stage keeps. -/
structure Good (t : List (List Int)) (m : Int) (f : List (List Int)) (g : List Int) : Prop where
  tab : tabB t = true
  mat : matB (t.length : Int) m f = true
  val : valB m g
  len : g.length = t.length

/-- A stage later: the same, or with fewer places to fill. -/
def Later (g h : List Int) : Prop := h = g ∨ negs h < negs g

theorem Later.trans {a b c : List Int} (h : Later a b) (k : Later b c) : Later a c := by
  rcases h with rfl | h
  · exact k
  · rcases k with rfl | k
    · exact .inr h
    · exact .inr (by omega)

theorem sg_good {t : List (List Int)} {m : Int} {f : List (List Int)} {g : List Int} (h : Good t m f g) (x y : Nat) (hx : x < t.length) (hy : y < t.length) : Good t m f (sg t m f g x y) ∧ Later g (sg t m f g x y) := by
  refine ⟨⟨h.tab, h.mat, sg_val h.tab h.mat h.val h.len x y hx hy, by rw [sg_length, h.len]⟩, ?_⟩
  rcases sg_negs h.tab h.mat h.val h.len x y hx hy with e | e
  · exact .inl e
  · exact .inr (by omega)

theorem rowG_good {t : List (List Int)} {m : Int} {f : List (List Int)} {g : List Int} (h : Good t m f g) (x : Nat) (hx : x < t.length) : ∀ j, j ≤ t.length → Good t m f (rowG t m f x j g) ∧ Later g (rowG t m f x j g)
  | 0, _ => ⟨h, .inl rfl⟩
  | j + 1, hj => by
    obtain ⟨a, b⟩ := rowG_good h x hx j (by omega)
    obtain ⟨c, d⟩ := sg_good a x j hx (by omega)
    rw [rowG_step]
    exact ⟨c, b.trans d⟩

theorem passG_good {t : List (List Int)} {m : Int} {f : List (List Int)} {g : List Int} (h : Good t m f g) : ∀ i, i ≤ t.length → Good t m f (passG t m f i g) ∧ Later g (passG t m f i g)
  | 0, _ => ⟨h, .inl rfl⟩
  | i + 1, hi => by
    obtain ⟨a, b⟩ := passG_good h i (by omega)
    obtain ⟨c, d⟩ := rowG_good a i (by omega) t.length (Nat.le_refl _)
    rw [passG_step]
    exact ⟨c, b.trans d⟩

/-- More fuel changes nothing. -/
theorem growG_fuel {t : List (List Int)} {m : Int} {f : List (List Int)} : ∀ {k l : Nat} {g : List Int}, Good t m f g → negs g < k → negs g < l → growG t m f k g = growG t m f l g
  | 0, _, _, _, h, _ => by omega
  | _ + 1, 0, _, _, _, h => by omega
  | k + 1, l + 1, g, h, hk, hl => by
    simp only [growG]
    obtain ⟨a, b⟩ := passG_good h t.length (Nat.le_refl _)
    split
    · rfl
    · rename_i hn
      have := b.resolve_left hn
      exact growG_fuel a (by omega) (by omega)

def growF (t : List (List Int)) (m : Int) (f : List (List Int)) (g : List Int) : List Int := growG t m f (negs g + 1) g

theorem growF_step {t : List (List Int)} {m : Int} {f : List (List Int)} {g : List Int} (h : Good t m f g) : growF t m f g = if passG t m f t.length g = g then g else growF t m f (passG t m f t.length g) := by
  obtain ⟨a, b⟩ := passG_good h t.length (Nat.le_refl _)
  conv => lhs; unfold growF
  simp only [growG]
  split
  · rfl
  · rename_i hn
    exact growG_fuel a (b.resolve_left hn) (by omega)

end Go.Sx

