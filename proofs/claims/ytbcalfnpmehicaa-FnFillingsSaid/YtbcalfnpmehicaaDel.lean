/- Del -/
import Derived.Test.YtbcalfnpmehicaaBase
import Derived.Shelf.SlicesG.Delete
import Derived.Lib.OwnBridge
open Go Go.Proofs Go.RowKit Go.Shelf
namespace Go.Sx
set_option linter.unusedSimpArgs false
set_option linter.unusedVariables false

theorem delSpec_of {P : Program} {ρ : Shelf.Ren} (L : SlLaysN.n45 P ρ) : DelSpec P (ρ.f 45) := by
  intro w e v l i j h hij hj
  obtain ⟨g, cap, rfl, _, hlt, hn, hm, _, hH⟩ := Lib.holds_of_ownsRow h (fun hv => by
    rcases h.2 with ⟨_, h2⟩ | ⟨g, cap, cur, h2, _⟩
    · omega
    · rw [hv] at h2; cases h2)
  have hmx : cap ≤ 9223372036854775807 := by simp only [maxLen] at hm; omega
  refine (AnyG.slices_Delete_int L g 0 cap i j l w hH hn hmx (by omega) hj).mono ?_
  rintro r w' ⟨rfl, q, rfl⟩
  have hk : (l.take i ++ l.drop j).length = l.length - (j - i) := by simp; omega
  have hy : (l.take i ++ l.drop j ++ List.replicate (j - i) (0 : Int)).length = l.length := by simp; omega
  refine ⟨_, rfl, ?_, rfl, ⟨rfl, Nat.le_add_right _ _⟩, rfl, rfl, by simp, fun b hb => ?_⟩
  · have := Lib.ownsRow_putRow (q := q) (k := l.length - (j - i)) h hy (by omega)
    rw [hk]
    rwa [← hk, List.take_left' rfl, hk] at this
  · have hb : g ≠ b := fun hc => hb (by simp [hdBlock, hc])
    simp [Sort.putRow, Sort.mapBlock, Sort.ahead, Array.getElem?_modify, hb]

def delRen : Shelf.Ren := ⟨fun _ => 116, fun x => match x with | 0 => 0 | 3 => 3 | 4 => 4 | 22 => 34 | 23 => 2 | _ => 0, fun x => x⟩

theorem delLays : SlLaysN.n45 Try.prog delRen where
  mixed := by kernel_rfl
  f45 := ⟨Try.f116.name, by kernel_rfl, by kernel_rfl⟩
  t0 := by kernel_rfl
  a0 := fun w => by kernel_rfl
  z0 := fun w => by kernel_rfl
  v0 := fun w => by kernel_rfl
  t3 := by kernel_rfl
  a3 := fun w => by kernel_rfl
  z3 := fun w => by kernel_rfl
  v3 := fun w => by kernel_rfl
  t4 := by kernel_rfl
  a4 := fun w => by kernel_rfl
  z4 := fun w => by kernel_rfl
  v4 := fun w => by kernel_rfl
  t22 := by kernel_rfl
  a22 := fun w => by kernel_rfl
  z22 := fun w => by kernel_rfl
  v22 := fun w => by kernel_rfl
  t23 := by kernel_rfl
  a23 := fun w => by kernel_rfl
  z23 := fun w => by kernel_rfl
  v23 := fun w => by kernel_rfl
  i23 := by kernel_rfl

def sDelete_ct : List AD → Option Post := fun _ => none

theorem sDelete_fits : Fits Try.prog 116 ⟨[(0, 99), (0, 99)], sDelete_ct⟩ where
  fn := ⟨Try.f116, Try.func116, by kernel_rfl, by kernel_rfl⟩
  run := fun _ _ _ _ _ _ _ h => by cases h
  mv := fun _ => delSpec_of delLays
  gr := fun h => by cases h
  so := fun h => by cases h


end Go.Sx
