/- The contract of slices.Grow, out of the library's own. -/
import Derived.Test.YtegeohcghndpcaaBase
import Derived.Shelf.Spec.SlicesGrow
open Go Go.Proofs Go.RowKit Go.Shelf
namespace Go.Sx
set_option linter.unusedSimpArgs false
set_option linter.unusedVariables false

theorem growSpec_of {P : Program} {ρ : Shelf.Ren} (L : Lays8.n4 P ρ) {i0 : TypeInfo} {z : Value} (hi0 : P.info? (ρ.t 25) = some i0) (hz0 : i0.zero = some z) (hz1 : z.cells.size = 1) (hs0 : i0.size = 1) (hb : i0.bytes = 8) : GrowSpec P (ρ.f 4) (ρ.t 25) := by
  intro w n hn
  by_cases h0 : n = 0
  · subst h0
    refine (Any8.slices_Grow_room L none 0 0 0 w (by omega) (by omega) (by omega) (by omega)).mono ?_
    rintro r w' ⟨rfl, rfl⟩
    exact ⟨_, rfl, World.ownsRow_nil _ _ _ _, by simp [hdBlock], rfl, rfl, rfl, Nat.le_refl _, fun _ _ => rfl⟩
  · have hg := Any8.slices_Grow_grow L i0 z hi0 hz0 (by omega) none 0 0 n [] w (by omega) (by omega) (by rw [hb]; omega) (by omega) (by simp) (fun _ => rfl) (fun a ha => by cases ha)
    refine hg.mono ?_
    rintro r w' ⟨rfl, rfl⟩
    have h1 := grownCap_ge w (0 + n) 0 (ρ.t 25)
    have h2 := grownCap_le_maxLen w (0 + n) 0 (ρ.t 25) (by unfold maxLen; omega)
    refine ⟨_, rfl, ⟨by simp, .inr ⟨w.heap.size, grownCap w (0 + n) 0 (ρ.t 25), _, rfl, Nat.zero_le _, heap_alloc_new w.drew _, Nat.zero_le _, h2, ?_, by simp⟩⟩, ?_, rfl, rfl, rfl, ?_, ?_⟩
    · simp only [Array.size_append, List.size_toArray, List.length_nil, size_zeroCells, hz1, Nat.zero_add, Nat.sub_zero, Nat.mul_one] at h1 ⊢
      omega
    · intro b hb
      simp [hdBlock] at hb
      omega
    · exact (World.grownBy_alloc w.drew _ none).size
    · intro b hb
      exact Below.heap_alloc w.drew _ b hb

def growRen : Shelf.Ren := ⟨fun _ => 135, fun x => match x with | 0 => 0 | 3 => 3 | 4 => 4 | 9 => 9 | 20 => 20 | 22 => 24 | 25 => 2 | _ => 0, fun x => x⟩

theorem growLays : Lays8.n4 Try.prog growRen where
  mixed := by kernel_rfl
  f4 := ⟨Try.f135.name, by kernel_rfl, by kernel_rfl⟩
  t0 := by kernel_rfl
  a0 := fun w => by kernel_rfl
  z0 := fun w => by kernel_rfl
  v0 := fun w => by kernel_rfl
  t3 := by kernel_rfl
  a3 := fun w => by kernel_rfl
  z3 := fun w => by kernel_rfl
  v3 := fun w => by kernel_rfl
  t4 := by kernel_rfl
  a4 := fun w => by kernel_rfl
  z4 := fun w => by kernel_rfl
  v4 := fun w => by kernel_rfl
  t9 := by kernel_rfl
  a9 := fun w => by kernel_rfl
  z9 := fun w => by kernel_rfl
  v9 := fun w => by kernel_rfl
  t20 := by kernel_rfl
  a20 := fun w => by kernel_rfl
  z20 := fun w => by kernel_rfl
  v20 := fun w => by kernel_rfl
  t22 := by kernel_rfl
  a22 := fun w => by kernel_rfl
  z22 := fun w => by kernel_rfl
  v22 := fun w => by kernel_rfl

theorem growInt : GrowSpec Try.prog 135 2 := by
  have hs : (Try.prog.info? 2).isSome = true := by kernel_rfl
  have h2 : ((Try.prog.info? 2).get hs).zero = some (.int .i64 0) := by kernel_rfl
  have h3 : ((Try.prog.info? 2).get hs).size = 1 := by kernel_rfl
  have h4 : ((Try.prog.info? 2).get hs).bytes = 8 := by kernel_rfl
  exact growSpec_of (ρ := growRen) growLays (z := .int .i64 0) (Option.some_get hs).symm h2 rfl h3 h4

def sGrow_ct : List AD → Option Post := fun ds => match ds with
  | [] => some ⟨True, .c (.ints 2 .i64 []), []⟩
  | _ => none

theorem sGrow_fits : Fits Try.prog 135 ⟨[(0, 98), (0, 98)], sGrow_ct⟩ where
  fn := ⟨Try.f135, Try.func135, by kernel_rfl, by kernel_rfl⟩
  run := fun _ _ _ ds p ms obs h _ _ hm _ hw => by
    exfalso
    cases ds with
    | nil => cases h; simp at hw
    | cons d ds => cases h
  mv := fun h => by cases h
  gr := fun _ q e ws h => by cases h; exact growInt


end Go.Sx

