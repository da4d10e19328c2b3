/- DrawI -/
import Derived.Test.YtcfbmimjffkgdaaDrawC
open Go Go.Proofs
namespace Go.Sx
set_option linter.unusedSimpArgs false
set_option linter.unusedVariables false

theorem getD_in {lo hi : Int} (h0 : lo ≤ 0 ∧ 0 ≤ hi) : ∀ {l : List Int}, (∀ x ∈ l, lo ≤ x ∧ x ≤ hi) → ∀ i, lo ≤ l.getD i 0 ∧ l.getD i 0 ≤ hi := fun {l} h i => by
  by_cases hi : i < l.length
  · rw [getD_lt l 0 i hi]; exact h _ (List.getElem_mem hi)
  · rw [List.getD_eq_getElem?_getD, List.getElem?_eq_none (by omega)]; exact h0

theorem primeD_in {code : List Int} {a h : Int} (h0 : 0 ≤ a) (h1 : a ≤ (code.length : Int)) : 0 ≤ (primeD code a h).2.1 ∧ (primeD code a h).2.1 ≤ (code.length : Int) := by
  have s := nxA_in (n := 20) h0 h1
  unfold primeD
  dsimp only
  split
  · exact nxA_in (n := 5) s.1 s.2
  · exact nxA_in (n := 6) s.1 s.2

theorem kU_in {n most : Int} : ∀ (f : Nat) (k : Int), k ≤ kU n most f k ∧ kU n most f k ≤ k + (f : Int)
  | 0, k => by simp [kU]
  | f + 1, k => by
    have := kU_in (n := n) (most := most) f (k + 1)
    unfold kU
    split <;> omega

theorem degD_in {code : List Int} (hb : bytesB code) {a h n most : Int} (h0 : 0 ≤ a) (h1 : a ≤ (code.length : Int)) : (-1 ≤ (degD code a h n most).1 ∧ (degD code a h n most).1 ≤ 1001) ∧ 0 ≤ (degD code a h n most).2.1 ∧ (degD code a h n most).2.1 ≤ (code.length : Int) := by
  have s := nxA_in (n := 20) h0 h1
  have k := kU_in (n := n) (most := most) 4 0
  unfold degD
  dsimp only
  split
  · exact ⟨getD_in (by omega) (by decide) _, nxA_in (n := 6) s.1 s.2⟩
  · have v := nxV_in hb (nxA code.length a 20) (nxH h 20) (n := kU n most 4 0 + 1) (by omega)
    exact ⟨⟨by show -1 ≤ nxV _ _ _ _; omega, by show nxV _ _ _ _ ≤ 1001; omega⟩, nxA_in s.1 s.2⟩

theorem chL_in {code : List Int} {size p : Int} : ∀ (j : Nat) (s : List Int × Int × Int), 0 ≤ s.2.1 → s.2.1 ≤ (code.length : Int) → (chL code size p j s).1.length = s.1.length ∧ 0 ≤ (chL code size p j s).2.1 ∧ (chL code size p j s).2.1 ≤ (code.length : Int)
  | 0, s, h0, h1 => ⟨rfl, h0, h1⟩
  | j + 1, s, h0, h1 => by
    have a := nxA_in (n := size) h0 h1
    have b := nxA_in (n := p) a.1 a.2
    have := chL_in (code := code) (size := size) (p := p) j (s.1.set (nxV code s.2.1 s.2.2 size).toNat (nxV code (nxA code.length s.2.1 size) (nxH s.2.2 size) p), nxA code.length (nxA code.length s.2.1 size) p, nxH (nxH s.2.2 size) p) b.1 b.2
    rw [List.length_set] at this
    exact this

theorem chainD_in {code : List Int} {a h n p k : Int} (h0 : 0 ≤ a) (h1 : a ≤ (code.length : Int)) : (chainD code a h n p k).1.length ≤ 513 ∧ 0 ≤ (chainD code a h n p k).2.1 ∧ (chainD code a h n p k).2.1 ≤ (code.length : Int) := by
  unfold chainD
  split
  · exact ⟨by simp, h0, h1⟩
  · rename_i z
    have d : degB n k = true := by
      cases e : degB n k with
      | true => rfl
      | false => exact absurd (Or.inr (Or.inr e)) z
    obtain ⟨d1, d2, d3⟩ := degB_of' d
    have s := nxA_in (n := 6) h0 h1
    have C := chL_in (code := code) (size := n ^ k.toNat) (p := p) (nxV code a h 6).toNat (List.replicate (n ^ k.toNat).toNat 0, nxA code.length a 6, nxH h 6) s.1 s.2
    rw [List.length_replicate] at C
    generalize chL code (n ^ k.toNat) p (nxV code a h 6).toNat (List.replicate (n ^ k.toNat).toNat 0, nxA code.length a 6, nxH h 6) = r at *
    obtain ⟨c1, c2, c3⟩ := C
    have t1 := nxA_in (n := 24) c2 c3
    have t2 := nxA_in (n := n ^ k.toNat) t1.1 t1.2
    have t3 := nxA_in (n := 2) t2.1 t2.2
    unfold chE
    dsimp only
    split
    · exact ⟨by rw [List.length_set]; omega, t3.1, t3.2⟩
    · split
      · exact ⟨by rw [List.length_append]; show r.1.length + 1 ≤ 513; omega, t1.1, t1.2⟩
      · exact ⟨by show r.1.length ≤ 513; omega, t1.1, t1.2⟩

end Go.Sx
