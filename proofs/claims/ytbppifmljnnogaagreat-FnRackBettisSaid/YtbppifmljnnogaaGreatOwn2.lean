/- Own2 -/
import Derived.Test.YtbppifmljnnogaaGreatRnkR
import Derived.Test.YtbppifmljnnogaaGreatMat
import Derived.Test.YtbppifmljnnogaaGreatOwn
open Go Go.Proofs
namespace Go.Sx
set_option linter.unusedSimpArgs false
set_option linter.unusedVariables false
structure FlOk (p : Int) (N M : Nat) (B S : List (List Int)) : Prop where
  len : S.length = B.length
  bas : Bas p N B (ldN B)
  nn : ∀ k, k < B.length → 0 ≤ ldF (B.getD k [])
  src : rwsP p M S
def l01Own2_p (t : List (List Int)) : Post := ⟨roomR t, .c (.rows 31 2 .i64 (t)), []⟩
def l01Own2_ct : List AD → Option Post
  | [.c (.rows .i64 (t))] => some (l01Own2_p t)
  | _ => none
def l01Own2_ann (t : List (List Int)) : Nat → Option Ann
  | 0 => some (Ann.mk ((Nat)) (fun i => ⟨[(0, .c (.ro (.rows .i64 (t)))), (3, .c (.own (5))), (4, .c (.int .i64 ((i : Int))))], [(5, some (.rows 0 31 2 .i64 (t.take i)))]⟩) (fun i => i ≤ t.length) (fun i => t.length - i) (fun _ => noAnn))
  | _ => none
def l01Own2_G : List (Nat × Ctr) := [(117, ⟨[], l01Own_ct⟩)]
def l01Own2_V (t : List (List Int)) : Prop :=
 ((∃ x0 : Nat, ((x0 ≤ t.length)∧((t = t)∧(((0:Int) = (↑x0:Int))∧([] = List.take x0 t)))))∧(∀ x1 : Nat, ((x1 ≤ t.length) → (BrP (decide ((↑x1:Int) < (↑(t.length):Int))) ((inB (↑x1:Int) (t.length))∧(((room ((t.getD ((↑x1:Int).toNat) []).length))∧True)∧((room ((List.take x1 t).length + [t.getD ((↑x1:Int).toNat) []].length))∧((InR ((↑x1:Int) + (1:Int)))∧(∃ x2 : Nat, ((x2 ≤ t.length)∧((t.length - x2 < t.length - x1)∧((t = t)∧(((↑x1:Int) + (1:Int) = (↑x2:Int))∧(List.take x1 t ++ [t.getD ((↑x1:Int).toNat) []] = List.take x2 t)))))))))) ((List.take x1 t = t)∧True)))))
theorem l01Own2_vc (t : List (List Int)) : runF Tryz.prog (gam l01Own2_G) noWr (l01Own2_ann t) Tryz.f150 (bodyOf Tryz.f150) [] [.c (.rows .i64 (t))] (l01Own2_p t) = l01Own2_V t := by kernel_rfl
theorem l01Own2_ok (t : List (List Int)) (hpre : (l01Own2_p t).pre) : l01Own2_V t := by
  simp only [l01Own2_p, l01Own2_V, BrP_iff, u1, u2, u3, u4, u5, u6, u7, u8, u9, v1, v2, v3, v4, v5, v6, v7, v8, v9, w1, w2, w3, w4, markL_length, inB, InR, room, bdsOk] at hpre ⊢
  have h1 := hpre.1
  refine ⟨⟨0, by omega, rfl, by simp⟩, fun i hi => ⟨fun h => ⟨by omega, roomR_get hpre i (by omega), by omega, by omega, i + 1, by omega, by omega, by omega, take_snoc _ _ _ (by omega)⟩, fun h => List.take_of_length_le (by omega)⟩⟩
theorem l01Own2_fits : Fits Tryz.prog 150 ⟨[], l01Own2_ct⟩ := by
  refine ffn (Γ := gam l01Own2_G) (gok_cons l01Own_fits gok_nil) Tryz.func150 fun ds p h hp => ?_
  unfold l01Own2_ct at h
  split at h
  · cases h
    exact ⟨noWr, l01Own2_ann _ , by rw [l01Own2_vc]; exact l01Own2_ok _  hp⟩
  · cases h
end Go.Sx
