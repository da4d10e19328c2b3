/- Ext Rb Inc Qb -/
import Derived.Test.YtcfbmimjffkgdaaGreatRack
import Derived.Shelf.SlSortCmp.NoneTotal
import Derived.Lib.OwnBridge
import Derived.Test.YtcfbmimjffkgdaaGreatRnk
import Derived.Test.YtcfbmimjffkgdaaGreatTuple
section
open Go Go.Proofs
namespace Go.Sx
set_option linter.unusedSimpArgs false
set_option linter.unusedVariables false
def cmpI (x y : Int) : Int := if x < y then -1 else if y < x then 1 else 0
theorem cmpI_zero {x y : Int} : cmpI x y = 0 ↔ x = y := by
  unfold cmpI
  split
  · omega
  · split <;> omega
def cmpG {α : Type} (c : α → α → Int) : List α → List α → Int
  | [], [] => 0
  | [], _ :: _ => -1
  | _ :: _, [] => 1
  | x :: a, y :: b => if c x y = 0 then cmpG c a b else c x y
theorem cmpG_zero {α : Type} {c : α → α → Int} (hc : ∀ x y, c x y = 0 ↔ x = y) : ∀ {a b : List α}, cmpG c a b = 0 ↔ a = b
  | [], [] => by simp [cmpG]
  | [], _ :: _ => by simp [cmpG]
  | _ :: _, [] => by simp [cmpG]
  | x :: a, y :: b => by
    simp only [cmpG, List.cons.injEq]
    by_cases h : c x y = 0
    · rw [if_pos h, cmpG_zero hc]
      simp [(hc x y).1 h]
    · rw [if_neg h]
      exact ⟨fun e => absurd e h, fun e => absurd ((hc x y).2 e.1) h⟩
theorem cmpG_step {α : Type} (c : α → α → Int) (d : α) (a b : List α) (i : Nat) (ha : i < a.length) (hb : i < b.length) :
    cmpG c (a.drop i) (b.drop i) = if c (a.getD i d) (b.getD i d) = 0 then cmpG c (a.drop (i + 1)) (b.drop (i + 1)) else c (a.getD i d) (b.getD i d) := by
  rw [drop_cons' a d i ha, drop_cons' b d i hb]; rfl
theorem cmpG_short {α : Type} (c : α → α → Int) (d : α) (a b : List α) (i : Nat) (ha : i < a.length) (hb : b.length ≤ i) : cmpG c (a.drop i) (b.drop i) = 1 := by
  rw [drop_cons' a d i ha, List.drop_of_length_le hb]; rfl
theorem cmpG_end {α : Type} (c : α → α → Int) (d : α) (a b : List α) (i : Nat) (ha : a.length ≤ i) : cmpG c (a.drop i) (b.drop i) = if i < b.length then -1 else 0 := by
  rw [List.drop_of_length_le ha]
  split
  · rename_i h; rw [drop_cons' b d i h]; rfl
  · rw [List.drop_of_length_le (by omega)]; rfl
def isNaN_p (x : Int) : Post := ⟨True, .c (.bool (false)), []⟩
def isNaN_ct : List AD → Option Post
  | [.c (.int .i64 (x))] => some (isNaN_p x)
  | _ => none
def isNaN_G : List (Nat × Ctr) := []
def isNaN_V (x : Int) : Prop :=
 (((x != x) = false)∧True)
theorem isNaN_vc (x : Int) : runF Tryz.prog (gam isNaN_G) noWr noAnn Tryz.f118 (bodyOf Tryz.f118) [] [.c (.int .i64 (x))] (isNaN_p x) = isNaN_V x := by kernel_rfl
theorem isNaN_ok (x : Int) (hpre : (isNaN_p x).pre) : isNaN_V x := by
  simp only [isNaN_p, isNaN_V, BrP_iff, u1, u2, u3, u4, u5, u6, u7, u8, u9, v1, v2, v3, v4, v5, v6, v7, v8, v9, w1, w2, w3, w4, markL_length, inB, InR, room, bdsOk] at hpre ⊢
theorem isNaN_fits : Fits Tryz.prog 118 ⟨[], isNaN_ct⟩ := by
  refine ffn (Γ := gam isNaN_G) gok_nil Tryz.func118 fun ds p h hp => ?_
  unfold isNaN_ct at h
  split at h
  · cases h
    exact ⟨noWr, noAnn, by rw [isNaN_vc]; exact isNaN_ok _  hp⟩
  · cases h
def cmpCompare_p (x : Int) (y : Int) : Post := ⟨True, .c (.int .i64 (cmpI x y)), []⟩
def cmpCompare_ct : List AD → Option Post
  | [.c (.int .i64 (x)), .c (.int .i64 (y))] => some (cmpCompare_p x y)
  | _ => none
def cmpCompare_G : List (Nat × Ctr) := [(118, ⟨[], isNaN_ct⟩)]
def cmpCompare_V (x : Int) (y : Int) : Prop :=
 ((True∧True)∧((True∧True)∧(BrP (decide (x < y)) (((-1:Int) = cmpI x y)∧True) (BrP (decide (y < x)) (((1:Int) = cmpI x y)∧True) (((0:Int) = cmpI x y)∧True)))))
theorem cmpCompare_vc (x : Int) (y : Int) : runF Tryz.prog (gam cmpCompare_G) noWr noAnn Tryz.f101 (bodyOf Tryz.f101) [] [.c (.int .i64 (x)), .c (.int .i64 (y))] (cmpCompare_p x y) = cmpCompare_V x y := by kernel_rfl
theorem cmpCompare_ok (x : Int) (y : Int) (hpre : (cmpCompare_p x y).pre) : cmpCompare_V x y := by
  simp only [cmpCompare_p, cmpCompare_V, BrP_iff, u1, u2, u3, u4, u5, u6, u7, u8, u9, v1, v2, v3, v4, v5, v6, v7, v8, v9, w1, w2, w3, w4, markL_length, inB, InR, room, bdsOk] at hpre ⊢
  unfold cmpI
  refine ⟨fun h => ?_, fun h => ⟨fun h2 => ?_, fun h2 => ?_⟩⟩
  · rw [if_pos h]
  · rw [if_neg h, if_pos h2]
  · rw [if_neg h, if_neg h2]
theorem cmpCompare_fits : Fits Tryz.prog 101 ⟨[], cmpCompare_ct⟩ := by
  refine ffn (Γ := gam cmpCompare_G) (gok_cons isNaN_fits gok_nil) Tryz.func101 fun ds p h hp => ?_
  unfold cmpCompare_ct at h
  split at h
  · cases h
    exact ⟨noWr, noAnn, by rw [cmpCompare_vc]; exact cmpCompare_ok _ _  hp⟩
  · cases h
def slicesCompare_p (a : List Int) (b : List Int) : Post := ⟨room a.length ∧ room b.length, .c (.int .i64 (cmpG cmpI a b)), []⟩
def slicesCompare_ct : List AD → Option Post
  | [.c (.ints .i64 (a)), .c (.ints .i64 (b))] => some (slicesCompare_p a b)
  | _ => none
def slicesCompare_ann (a : List Int) (b : List Int) : Nat → Option Ann
  | 0 => some (Ann.mk ((Nat)) (fun i => ⟨[(0, .c (.ro (.ints .i64 (a)))), (1, .c (.ro (.ints .i64 (b)))), (9, .c (.ro (.ints .i64 (a)))), (10, .c (.int .i64 ((a.length : Int)))), (11, .c (.int .i64 ((i : Int))))], []⟩) (fun i => i ≤ a.length ∧ i ≤ b.length ∧ cmpG cmpI a b = cmpG cmpI (a.drop i) (b.drop i)) (fun i => a.length - i) (fun _ => noAnn))
  | _ => none
def slicesCompare_G : List (Nat × Ctr) := [(101, ⟨[], cmpCompare_ct⟩)]
def slicesCompare_V (a : List Int) (b : List Int) : Prop :=
 ((∃ x0 : Nat, (((x0 ≤ a.length)∧((x0 ≤ b.length)∧(cmpG cmpI a b = cmpG cmpI (List.drop x0 a) (List.drop x0 b))))∧((a = a)∧((b = b)∧((a = a)∧(((↑(a.length):Int) = (↑(a.length):Int))∧((0:Int) = (↑x0:Int))))))))∧(∀ x1 : Nat, (((x1 ≤ a.length)∧((x1 ≤ b.length)∧(cmpG cmpI a b = cmpG cmpI (List.drop x1 a) (List.drop x1 b)))) → (BrP (decide ((↑x1:Int) < (↑(a.length):Int))) ((inB (↑x1:Int) (a.length))∧(BrP (decide ((↑(b.length):Int) ≤ (↑x1:Int))) (((1:Int) = cmpG cmpI a b)∧True) ((inB (↑x1:Int) (b.length))∧((True∧True)∧(BrP (cmpI (a.getD ((↑x1:Int).toNat) (0:Int)) (b.getD ((↑x1:Int).toNat) (0:Int)) != (0:Int)) ((cmpI (a.getD ((↑x1:Int).toNat) (0:Int)) (b.getD ((↑x1:Int).toNat) (0:Int)) = cmpG cmpI a b)∧True) ((InR ((↑x1:Int) + (1:Int)))∧(∃ x2 : Nat, (((x2 ≤ a.length)∧((x2 ≤ b.length)∧(cmpG cmpI a b = cmpG cmpI (List.drop x2 a) (List.drop x2 b))))∧((a.length - x2 < a.length - x1)∧((a = a)∧((b = b)∧((a = a)∧(((↑(a.length):Int) = (↑(a.length):Int))∧((↑x1:Int) + (1:Int) = (↑x2:Int))))))))))))))) (BrP (decide ((↑(a.length):Int) < (↑(b.length):Int))) (((-1:Int) = cmpG cmpI a b)∧True) (((0:Int) = cmpG cmpI a b)∧True))))))
theorem slicesCompare_vc (a : List Int) (b : List Int) : runF Tryz.prog (gam slicesCompare_G) noWr (slicesCompare_ann a b) Tryz.f81 (bodyOf Tryz.f81) [] [.c (.ints .i64 (a)), .c (.ints .i64 (b))] (slicesCompare_p a b) = slicesCompare_V a b := by kernel_rfl
theorem slicesCompare_ok (a : List Int) (b : List Int) (hpre : (slicesCompare_p a b).pre) : slicesCompare_V a b := by
  simp only [slicesCompare_p, slicesCompare_V, BrP_iff, u1, u2, u3, u4, u5, u6, u7, u8, u9, v1, v2, v3, v4, v5, v6, v7, v8, v9, w1, w2, w3, w4, markL_length, inB, InR, room, bdsOk] at hpre ⊢
  refine ⟨⟨0, ⟨by omega, by omega, rfl⟩, rfl⟩, fun i ⟨hi, hj, he⟩ => ⟨fun h => ⟨by omega, fun h2 => ?_, fun h2 => ⟨by omega, fun h3 => ?_, fun h3 => ⟨by omega, i + 1, ⟨by omega, by omega, ?_⟩, by omega, by omega⟩⟩⟩, fun h => ⟨fun h2 => ?_, fun h2 => ?_⟩⟩⟩
  · rw [he, cmpG_short cmpI 0 a b i (by omega) (by omega)]
  · rw [he, cmpG_step cmpI 0 a b i (by omega) (by omega), if_neg h3]
  · rw [he, cmpG_step cmpI 0 a b i (by omega) (by omega), if_pos h3]
  · rw [he, cmpG_end cmpI 0 a b i (by omega), if_pos (by omega)]
  · rw [he, cmpG_end cmpI 0 a b i (by omega), if_neg (by omega)]
theorem slicesCompare_fits : Fits Tryz.prog 81 ⟨[], slicesCompare_ct⟩ := by
  refine ffn (Γ := gam slicesCompare_G) (gok_cons cmpCompare_fits gok_nil) Tryz.func81 fun ds p h hp => ?_
  unfold slicesCompare_ct at h
  split at h
  · cases h
    exact ⟨noWr, slicesCompare_ann _ _ , by rw [slicesCompare_vc]; exact slicesCompare_ok _ _  hp⟩
  · cases h
def l01Same_p (a : List Int) (b : List Int) : Post := ⟨room a.length, .c (.bool (decide (a = b))), []⟩
def l01Same_ct : List AD → Option Post
  | [.c (.ints .i64 (a)), .c (.ints .i64 (b))] => some (l01Same_p a b)
  | _ => none
def l01Same_ann (a : List Int) (b : List Int) : Nat → Option Ann
  | 0 => some (Ann.mk ((Nat)) (fun i => ⟨[(0, .c (.ro (.ints .i64 (a)))), (1, .c (.ro (.ints .i64 (b)))), (5, .c (.int .i64 ((i : Int))))], []⟩) (fun i => i ≤ a.length ∧ a.length = b.length ∧ a.take i = b.take i) (fun i => a.length - i) (fun _ => noAnn))
  | _ => none
def l01Same_G : List (Nat × Ctr) := []
def l01Same_V (a : List Int) (b : List Int) : Prop :=
 (BrP ((↑(a.length):Int) != (↑(b.length):Int)) ((false = decide (a = b))∧True) ((∃ x0 : Nat, (((x0 ≤ a.length)∧((a.length = b.length)∧(List.take x0 a = List.take x0 b)))∧((a = a)∧((b = b)∧((0:Int) = (↑x0:Int))))))∧(∀ x1 : Nat, (((x1 ≤ a.length)∧((a.length = b.length)∧(List.take x1 a = List.take x1 b))) → (BrP (decide ((↑x1:Int) < (↑(a.length):Int))) ((inB (↑x1:Int) (a.length))∧((inB (↑x1:Int) (b.length))∧(BrP (a.getD ((↑x1:Int).toNat) (0:Int) != b.getD ((↑x1:Int).toNat) (0:Int)) ((false = decide (a = b))∧True) ((InR ((↑x1:Int) + (1:Int)))∧(∃ x2 : Nat, (((x2 ≤ a.length)∧((a.length = b.length)∧(List.take x2 a = List.take x2 b)))∧((a.length - x2 < a.length - x1)∧((a = a)∧((b = b)∧((↑x1:Int) + (1:Int) = (↑x2:Int))))))))))) ((true = decide (a = b))∧True))))))
theorem l01Same_vc (a : List Int) (b : List Int) : runF Tryz.prog (gam l01Same_G) noWr (l01Same_ann a b) Tryz.f107 (bodyOf Tryz.f107) [] [.c (.ints .i64 (a)), .c (.ints .i64 (b))] (l01Same_p a b) = l01Same_V a b := by kernel_rfl
theorem l01Same_ok (a : List Int) (b : List Int) (hpre : (l01Same_p a b).pre) : l01Same_V a b := by
  simp only [l01Same_p, l01Same_V, BrP_iff, u1, u2, u3, u4, u5, u6, u7, u8, u9, v1, v2, v3, v4, v5, v6, v7, v8, v9, w1, w2, w3, w4, markL_length, inB, InR, room, bdsOk] at hpre ⊢
  refine ⟨fun h => ?_, fun h => ⟨⟨0, ⟨by omega, by omega, rfl⟩, by simp⟩, fun i hi => ⟨fun h1 => ⟨by omega, by omega, fun h2 => ?_, fun h2 => ⟨by omega, i + 1, ⟨by omega, hi.2.1, ?_⟩, by omega, by omega⟩⟩, fun h1 => ?_⟩⟩⟩
  · exact (decide_eq_false fun e => h (by rw [e])).symm
  · exact (decide_eq_false fun e => h2 (by rw [e])).symm
  · exact (take_eq_step a b 0 i (by omega) (by omega) hi.2.2).2 h2
  · refine (decide_eq_true ?_).symm
    have := hi.2.2
    rwa [List.take_of_length_le (by omega), List.take_of_length_le (by omega)] at this
theorem l01Same_fits : Fits Tryz.prog 107 ⟨[], l01Same_ct⟩ := by
  refine ffn (Γ := gam l01Same_G) gok_nil Tryz.func107 fun ds p h hp => ?_
  unfold l01Same_ct at h
  split at h
  · cases h
    exact ⟨noWr, l01Same_ann _ _ , by rw [l01Same_vc]; exact l01Same_ok _ _  hp⟩
  · cases h
end Go.Sx
end
section
open Go Go.Proofs Go.RowKit Go.Shelf
namespace Go.Sx
set_option linter.unusedSimpArgs false
set_option linter.unusedVariables false
def sortRen : Shelf.Ren := ⟨fun x => match x with | 6 => 79 | 14 => 99 | 15 => 100 | 20 => 108 | 21 => 109 | 22 => 110 | 23 => 111 | 24 => 112 | 25 => 113 | 26 => 114 | 27 => 115 | 28 => 116 | 29 => 117 | 46 => 120 | 47 => 121 | 48 => 122 | 49 => 123 | 50 => 124 | 57 => 125 | _ => 0, fun x => match x with | 0 => 0 | 3 => 3 | 4 => 4 | 5 => 5 | 9 => 9 | 22 => 24 | 24 => 27 | 25 => 101 | 39 => 76 | 45 => 121 | 46 => 122 | 50 => 126 | 53 => 129 | 55 => 35 | 66 => 132 | 70 => 136 | 76 => 138 | 77 => 139 | _ => 0, fun x => x⟩
set_option maxRecDepth 100000
theorem sortLays : SlLaysF.n6 Tryz.prog sortRen where
  mixed := by kernel_rfl
  f6 := ⟨Tryz.f79.name, by kernel_rfl, by kernel_rfl⟩
  f14 := ⟨Tryz.f99.name, by kernel_rfl, by kernel_rfl⟩
  f15 := by kernel_rfl
  f20 := ⟨Tryz.f108.name, by kernel_rfl, by kernel_rfl⟩
  f21 := ⟨Tryz.f109.name, by kernel_rfl, by kernel_rfl⟩
  f22 := ⟨Tryz.f110.name, by kernel_rfl, by kernel_rfl⟩
  f23 := ⟨Tryz.f111.name, by kernel_rfl, by kernel_rfl⟩
  f24 := ⟨Tryz.f112.name, by kernel_rfl, by kernel_rfl⟩
  f25 := ⟨Tryz.f113.name, by kernel_rfl, by kernel_rfl⟩
  f26 := ⟨Tryz.f114.name, by kernel_rfl, by kernel_rfl⟩
  f27 := ⟨Tryz.f115.name, by kernel_rfl, by kernel_rfl⟩
  f28 := by kernel_rfl
  f29 := by kernel_rfl
  f46 := ⟨Tryz.f120.name, by kernel_rfl, by kernel_rfl⟩
  f47 := by kernel_rfl
  f48 := by kernel_rfl
  f49 := ⟨Tryz.f123.name, by kernel_rfl, by kernel_rfl⟩
  f50 := ⟨Tryz.f124.name, by kernel_rfl, by kernel_rfl⟩
  f57 := ⟨Tryz.f125.name, by kernel_rfl, by kernel_rfl⟩
  t0 := by kernel_rfl
  a0 := fun w => by kernel_rfl
  z0 := fun w => by kernel_rfl
  v0 := fun w => by kernel_rfl
  t3 := by kernel_rfl
  a3 := fun w => by kernel_rfl
  z3 := fun w => by kernel_rfl
  v3 := fun w => by kernel_rfl
  t4 := by kernel_rfl
  a4 := fun w => by kernel_rfl
  z4 := fun w => by kernel_rfl
  v4 := fun w => by kernel_rfl
  t5 := by kernel_rfl
  a5 := fun w => by kernel_rfl
  z5 := fun w => by kernel_rfl
  v5 := fun w => by kernel_rfl
  t9 := by kernel_rfl
  a9 := fun w => by kernel_rfl
  z9 := fun w => by kernel_rfl
  v9 := fun w => by kernel_rfl
  t22 := by kernel_rfl
  a22 := fun w => by kernel_rfl
  z22 := fun w => by kernel_rfl
  v22 := fun w => by kernel_rfl
  a24 := fun w => by kernel_rfl
  z24 := fun w => by kernel_rfl
  t25 := by kernel_rfl
  a25 := fun w => by kernel_rfl
  z25 := fun w => by kernel_rfl
  v25 := fun w => by kernel_rfl
  t39 := by kernel_rfl
  a39 := fun w => by kernel_rfl
  z39 := fun w => by kernel_rfl
  v39 := fun w => by kernel_rfl
  t45 := by kernel_rfl
  a45 := fun w => by kernel_rfl
  z45 := fun w => by kernel_rfl
  v45 := fun w => by kernel_rfl
  t46 := by kernel_rfl
  a46 := fun w => by kernel_rfl
  z46 := fun w => by kernel_rfl
  v46 := fun w => by kernel_rfl
  t50 := by kernel_rfl
  a50 := fun w => by kernel_rfl
  z50 := fun w => by kernel_rfl
  v50 := fun w => by kernel_rfl
  t53 := by kernel_rfl
  a53 := fun w => by kernel_rfl
  z53 := fun w => by kernel_rfl
  v53 := fun w => by kernel_rfl
  t55 := by kernel_rfl
  a55 := fun w => by kernel_rfl
  z55 := fun w => by kernel_rfl
  v55 := fun w => by kernel_rfl
  t66 := by kernel_rfl
  a66 := fun w => by kernel_rfl
  z66 := fun w => by kernel_rfl
  v66 := fun w => by kernel_rfl
  t70 := by kernel_rfl
  a70 := fun w => by kernel_rfl
  z70 := fun w => by kernel_rfl
  v70 := fun w => by kernel_rfl
  t76 := by kernel_rfl
  a76 := fun w => by kernel_rfl
  z76 := fun w => by kernel_rfl
  v76 := fun w => by kernel_rfl
  t77 := by kernel_rfl
  a77 := fun w => by kernel_rfl
  z77 := fun w => by kernel_rfl
  v77 := fun w => by kernel_rfl
theorem cmpI_anti (x y : Int) : cmpI x y = - cmpI y x := by
  unfold cmpI
  (repeat' split) <;> omega
theorem cmpG_anti : ∀ a b : List Int, cmpG cmpI a b = - cmpG cmpI b a
  | [], [] => rfl
  | [], _ :: _ => rfl
  | _ :: _, [] => rfl
  | x :: a, y :: b => by
    simp only [cmpG]
    have h := cmpI_anti x y
    by_cases h0 : cmpI x y = 0
    · rw [if_pos h0, if_pos (by omega), cmpG_anti a b]
    · rw [if_neg h0, if_neg (by omega), h]
theorem cmpG_le : ∀ a b c : List Int, cmpG cmpI a b ≤ 0 → cmpG cmpI b c ≤ 0 → cmpG cmpI a c ≤ 0
  | [], _, [], _, _ => by simp [cmpG]
  | [], _, _ :: _, _, _ => by simp [cmpG]
  | _ :: _, [], _, h, _ => by simp [cmpG] at h
  | _ :: _, _ :: _, [], _, h => by simp [cmpG] at h
  | x :: a, y :: b, z :: c, h1, h2 => by
    simp only [cmpG] at h1 h2 ⊢
    have v : ∀ u v : Int, (cmpI u v = -1 ∧ u < v) ∨ (cmpI u v = 0 ∧ u = v) ∨ (cmpI u v = 1 ∧ v < u) := fun u v => by
      unfold cmpI
      split
      · omega
      · split <;> omega
    have v1 := v x y
    have v2 := v y z
    have v3 := v x z
    by_cases e1 : cmpI x y = 0
    · rw [if_pos e1] at h1
      by_cases e2 : cmpI y z = 0
      · rw [if_pos e2] at h2
        rw [if_pos (by omega)]
        exact cmpG_le a b c h1 h2
      · rw [if_neg e2] at h2
        rw [if_neg (by omega)]; omega
    · rw [if_neg e1] at h1
      by_cases e2 : cmpI y z = 0
      · rw [if_neg (by omega)]; omega
      · rw [if_neg e2] at h2
        rw [if_neg (by omega)]; omega
theorem cmpG_lt (a b c : List Int) (h1 : cmpG cmpI a b < 0) (h2 : cmpG cmpI b c < 0) : cmpG cmpI a c < 0 := by
  have h := cmpG_le a b c (by omega) (by omega)
  refine Classical.byContradiction fun hc => ?_
  have e : cmpG cmpI a c = 0 := by omega
  have := (cmpG_zero (fun x y => cmpI_zero)).1 e
  subst this
  have := cmpG_anti a b
  omega
def rrLess_p (a : List Int) (b : List Int) : Post := ⟨room a.length ∧ room b.length, .c (.int .i64 (cmpG cmpI b a)), []⟩
def rrLess_ct : List AD → Option Post
  | [.c (.ints .i64 (a)), .c (.ints .i64 (b))] => some (rrLess_p a b)
  | _ => none
def rrLess_G : List (Nat × Ctr) := [(81, ⟨[], slicesCompare_ct⟩)]
def rrLess_V (a : List Int) (b : List Int) : Prop :=
 ((((room (b.length))∧(room (a.length)))∧True)∧((cmpG cmpI b a = cmpG cmpI b a)∧True))
theorem rrLess_vc (a : List Int) (b : List Int) : runF Tryz.prog (gam rrLess_G) noWr noAnn Tryz.f80 (bodyOf Tryz.f80) [] [.c (.ints .i64 (a)), .c (.ints .i64 (b))] (rrLess_p a b) = rrLess_V a b := by kernel_rfl
theorem rrLess_ok (a : List Int) (b : List Int) (hpre : (rrLess_p a b).pre) : rrLess_V a b := by
  simp only [rrLess_p, rrLess_V, BrP_iff, u1, u2, u3, u4, u5, u6, u7, u8, u9, v1, v2, v3, v4, v5, v6, v7, v8, v9, w1, w2, w3, w4, markL_length, inB, InR, room, bdsOk] at hpre ⊢
  exact ⟨hpre.2, hpre.1⟩
theorem rrLess_fits : Fits Tryz.prog 80 ⟨[], rrLess_ct⟩ := by
  refine ffn (Γ := gam rrLess_G) (gok_cons slicesCompare_fits gok_nil) Tryz.func80 fun ds p h hp => ?_
  unfold rrLess_ct at h
  split at h
  · cases h
    exact ⟨noWr, noAnn, by rw [rrLess_vc]; exact rrLess_ok _ _  hp⟩
  · cases h
def rwC (l : List (List Int)) (i j : Fin l.length) : Int := cmpG cmpI (l.getD j.1 []) (l.getD i.1 [])
theorem rwC_swo (l : List (List Int)) : Go.Sort.SWO (fun i j => decide (rwC l i j < 0)) where
  irrefl := fun x => by
    have : cmpG cmpI (l.getD x.1 []) (l.getD x.1 []) = 0 := (cmpG_zero fun x y => cmpI_zero).2 rfl
    show decide (rwC l x x < 0) = false
    rw [rwC, this]; rfl
  trans := fun x y z h1 h2 => by
    rw [decide_eq_true_eq] at h1 h2 ⊢
    exact cmpG_lt _ _ _ h2 h1
  ntrans := fun x y z h1 h2 => by
    rw [decide_eq_false_iff_not] at h1 h2 ⊢
    unfold rwC at *
    have a1 := cmpG_anti (l.getD y.1 []) (l.getD x.1 [])
    have a2 := cmpG_anti (l.getD z.1 []) (l.getD y.1 [])
    have a3 := cmpG_anti (l.getD z.1 []) (l.getD x.1 [])
    have := cmpG_le (l.getD x.1 []) (l.getD y.1 []) (l.getD z.1 []) (by omega) (by omega)
    omega
def srtI (l : List (List Int)) (h : 0 < l.length) : Array (Fin l.length) :=
  letI : Inhabited (Fin l.length) := ⟨⟨0, h⟩⟩
  Go.Sort.pdq (fun i j => decide (rwC l i j < 0)) (List.finRange l.length).toArray 0 (List.finRange l.length).toArray.size (Lib.bitLen (List.finRange l.length).toArray.size) true true
def srtL (l : List (List Int)) : List (List Int) := if h : 0 < l.length then (srtI l h).toList.map (fun i => l.getD i.1 []) else []
theorem srtI_ok (l : List (List Int)) (h : 0 < l.length) : (srtI l h).toList.Perm (List.finRange l.length) := by
  letI : Inhabited (Fin l.length) := ⟨⟨0, h⟩⟩
  have := (Go.Sort.pdq_sorts (fun i j => decide (rwC l i j < 0)) (rwC_swo l) (List.finRange l.length).toArray 0 (List.finRange l.length).toArray.size (Lib.bitLen (List.finRange l.length).toArray.size) true true (Nat.zero_le _) (Nat.le_refl _) (Or.inl rfl)).1
  obtain ⟨h1, _, h3⟩ := this
  have e1 : ∀ (d : Array (Fin l.length)), d.extract 0 d.size = d := fun d => by simp
  rw [e1] at h3
  have h4 : ((srtI l h).extract 0 (List.finRange l.length).toArray.size).toList.Perm (List.finRange l.length).toArray.toList := h3
  rw [← show (srtI l h).size = (List.finRange l.length).toArray.size from h1, e1] at h4
  simpa using h4
theorem srtL_len (l : List (List Int)) : (srtL l).length = l.length := by
  unfold srtL
  split
  · rename_i h
    rw [List.length_map, (srtI_ok l h).length_eq]; simp
  · show 0 = l.length
    omega
theorem sort_at (l : List (List Int)) (hr1 : l.length ≤ 1000) (hr2 : ∀ r ∈ l, r.length ≤ 1000) : SortAt Tryz.prog 79 80 l (srtL l) := by
  intro w e ei v ins h1 h2 h3 hnd
  by_cases h0 : 0 < l.length
  case neg =>
    have hl : l = [] := List.eq_nil_of_length_eq_zero (by omega)
    subst hl
    have hi : ins = [] := List.eq_nil_of_length_eq_zero h2
    subst hi
    have hv : ∃ p cap, v = .slice p 0 cap := by
      rcases h1.2 with ⟨e0, _⟩ | ⟨g, cap, cur, e0, _⟩
      · exact ⟨_, _, e0⟩
      · exact ⟨_, _, e0⟩
    obtain ⟨p, cap, rfl⟩ := hv
    refine (AnyF.slices_SortFunc_none (P := Tryz.prog) (ρ := sortRen) { sortLays with } p cap _ w).mono ?_
    rintro r w' ⟨rfl, rfl⟩
    exact ⟨rfl, [], h1, rfl, fun i u r hi => by simp at hi, .refl _, .refl _, rfl, rfl, Nat.le_refl _, fun _ _ _ => rfl⟩
  case pos =>
  letI : Inhabited (Fin l.length) := ⟨⟨0, h0⟩⟩
  let enc : Fin l.length → Value := fun i => ins.getD i.1 undef
  have hz : (List.finRange l.length).map enc = ins := by
    apply List.ext_getElem
    · simp [h2]
    · intro i a b
      simp [enc, List.getD, List.getElem?_eq_getElem b]
  have hone : ∀ i : Fin l.length, (enc i).oneCell' = true := fun i => by
    have hi : i.1 < ins.length := by rw [h2]; exact i.2
    have := ownsRow_one (h3 i.1 (ins.getD i.1 undef) (l.getD i.1 []) (by simp [List.getD, hi]) (by simp [List.getD, i.2]))
    exact this
  rw [← hz] at h1
  have hne : v ≠ .slice none 0 0 := fun hv => by
    rcases h1.2 with ⟨_, hn⟩ | ⟨g, cap, cur, h5, _⟩
    · omega
    · rw [hv] at h5; cases h5
  obtain ⟨g, cap, rfl, _, hlt, hn, hm, hzl, hH⟩ := Lib.holds_of_ownsRow h1 hne
  have hn0 : ∀ i : Fin l.length, i.1 < ins.length := fun i => by rw [h2]; exact i.2
  have hrow : ∀ i : Fin l.length, w.ownsRow 0 ei 1 (enc i) (l.getD i.1 []).length ((l.getD i.1 []).map (.int .i64)) ∧ ∀ b, hdBlock (enc i) = some b → b < w.heap.size ∧ b ≠ g := fun i => by
    have hu : ins[i.1]? = some (enc i) := by simp [enc, List.getD, List.getElem?_eq_getElem (hn0 i)]
    have h4 := h3 i.1 (enc i) (l.getD i.1 []) hu (by simp [List.getD, i.2])
    refine ⟨h4, fun b hb => ⟨(ownsRow_block h4 b hb).2, fun hc => ?_⟩⟩
    exact (nodup_blocks_ins hnd).2 b (by rw [hc]; rfl) (List.mem_filterMap.2 ⟨enc i, List.mem_of_getElem? hu, hb⟩)
  obtain ⟨fn, k1, k2, k3⟩ := rrLess_fits.fn
  have hsz : (List.finRange l.length).toArray.size = l.length := by simp
  have hcmp : CmpLays1 Tryz.prog 80 #[] enc (rwC l) g 0 (List.finRange l.length).toArray.size w := by
    intro m os dk hdk x y
    have keep : ∀ b, b < w.heap.size → b ≠ g → (sortWorld enc w g 0 m dk os).heap[b]? = w.heap[b]? := fun b hb hne => by
      unfold sortWorld
      rw [Go.Sort.heap_grow_old _ _ (by simpa [Go.Sort.putRow, Go.Sort.mapBlock, Go.Sort.ahead] using hb)]
      simp [Go.Sort.putRow, Go.Sort.mapBlock, Go.Sort.ahead, Array.getElem?_modify, Ne.symm hne]
    have rd : ∀ i : Fin l.length, Reads (sortWorld enc w g 0 m dk os) (enc i) (.ints .i64 (l.getD i.1 [])) := fun i => by
      obtain ⟨h4, h5⟩ := hrow i
      have h6 := ownsRow_keep h4 fun b hb => keep b (h5 b hb).1 (h5 b hb).2
      have := reads_ints h6 (viewV_own h6) (by omega)
      show ReadsI _ _ _ _
      simpa using this
    have := rrLess_fits.run (sortWorld enc w g 0 m dk os) (sortWorld enc w g 0 m dk os) [enc x, enc y] [.c (.ints .i64 (l.getD x.1 [])), .c (.ints .i64 (l.getD y.1 []))] _ [] [] rfl
      ⟨by have := hr2 _ (getD_mem l [] x.1 x.2); unfold room; omega, by have := hr2 _ (getD_mem l [] y.1 y.2); unfold room; omega⟩ rfl rfl rfl rfl (by simp) (by simp) (by simp) (fun q u hq => ⟨hq, by simp⟩) (fun i d hi => by
        match i, hi with
        | 0, hi => cases hi; exact ⟨enc x, rfl, hone x, rd x⟩
        | 1, hi => cases hi; exact ⟨enc y, rfl, hone y, rd y⟩
        | i + 2, hi => simp at hi)
    refine Calls.mono this ?_
    rintro e0 w' ⟨v0, ms', img, wG, rfl, haft, _, _, _, hret⟩
    have hv : v0 = .int .i64 (rwC l x y) := hret.val
    subst hv
    refine ⟨rfl, w'.drawn - (sortWorld enc w g 0 m dk os).drawn, w'.heap.extract (sortWorld enc w g 0 m dk os).heap.size w'.heap.size, ?_⟩
    generalize hW : sortWorld enc w g 0 m dk os = W at *
    have hheap : w'.heap = W.heap ++ w'.heap.extract W.heap.size w'.heap.size := by
      apply Array.ext_getElem?
      intro i
      by_cases hi : i < W.heap.size
      · rw [Array.getElem?_append_left hi, haft.block i hi (by simp)]
      · rw [Array.getElem?_append_right (by omega), Array.getElem?_extract]
        split
        · congr 1; omega
        · rw [Array.getElem?_eq_none (by omega)]
    have hd := haft.os.drawn
    cases w' with
    | mk heap tape drawn os' output =>
      simp only [Go.Sort.grow, World.drewN] at *
      have e1 := haft.os.os
      have e2 := haft.tape
      have e3 := haft.output
      simp only at e1 e2 e3
      rw [← hheap, e1, e2, e3, show W.drawn + (drawn - W.drawn) = drawn by omega]
  have hcall := Any.slices_SortFunc_eq (P := Tryz.prog) (ρ := sortRen) sortLays enc hone (rwC l) (rwC_swo l) 80 #[] g 0 cap (List.finRange l.length).toArray w (fun args w => run_callFunc k1 k2 k3 args) hcmp hH hlt (by rw [hsz]; omega)
  rw [hsz] at hcall
  refine Calls.mono hcall ?_
  rintro r w' ⟨rfl, n, os, rfl⟩
  refine ⟨rfl, ?_⟩
  have hD : Go.Sort.pdq (ltOf (rwC l)) (List.finRange l.length).toArray 0 l.length (Lib.bitLen l.length) true true = srtI l h0 := by
    unfold srtI
    rw [hsz]
    rfl
  rw [hD]
  have hDp := srtI_ok l h0
  have hDl : (srtI l h0).toList.length = l.length := by rw [hDp.length_eq]; simp
  have hS : srtL l = (srtI l h0).toList.map (fun i => l.getD i.1 []) := by unfold srtL; rw [dif_pos h0]
  have hSl := srtL_len l
  generalize srtI l h0 = D at *
  have o := Lib.ownsRow_putRow (q := n) (k := l.length) h1 (ys := D.toList) hDl (Nat.le_refl _)
  rw [List.take_of_length_le (by omega), Array.toArray_toList] at o
  refine ⟨D.toList.map enc, ?_, by rw [List.length_map, hDl, hSl], fun i u r hi hr => ?_, ?_, ⟨rfl, Nat.le_add_right _ _⟩, rfl, rfl, ?_, fun b hb hne => ?_⟩
  · rw [hSl]
    refine ownsRow_keep o fun b hb => ?_
    simp [hdBlock] at hb
    subst hb
    exact Go.Sort.heap_grow_old _ _ (by simpa [Go.Sort.putRow, Go.Sort.mapBlock, Go.Sort.ahead] using hlt)
  · rw [hS, List.getElem?_map] at hr
    rw [List.getElem?_map] at hi
    cases hx : D.toList[i]? with
    | none => rw [hx] at hi; cases hi
    | some x =>
      rw [hx] at hi hr
      cases hi
      cases hr
      exact (hrow x).1
  · rw [← hz]
    exact hDp.map enc
  · simp [sortWorld, Go.Sort.grow, Go.Sort.putRow, Go.Sort.mapBlock, Go.Sort.ahead]
  · have hg : b ≠ g := fun hc => hne (by rw [hc]; rfl)
    unfold sortWorld
    rw [Go.Sort.heap_grow_old _ _ (by simpa [Go.Sort.putRow, Go.Sort.mapBlock, Go.Sort.ahead] using hb)]
    simp [Go.Sort.putRow, Go.Sort.mapBlock, Go.Sort.ahead, Array.getElem?_modify, Ne.symm hg]
def sSort_ct : List AD → Option Post := fun ds => match ds with
  | [.c (.rows .i64 l)] => some ⟨l.length ≤ 1000 ∧ ∀ r ∈ l, r.length ≤ 1000, .c (.rows 80 0 .i64 (srtL l)), []⟩
  | _ => none
theorem sSort_fits : Fits Tryz.prog 79 ⟨[(0, 97), (0, 97)], sSort_ct⟩ where
  fn := ⟨Tryz.f79, Tryz.func79, by kernel_rfl, by kernel_rfl⟩
  run := fun _ _ _ ds p ms obs h _ _ hm _ hw => by
    exfalso
    have h : sSort_ct ds = some p := h
    unfold sSort_ct at h
    split at h
    · cases h; simp at hw
    · cases h
  mv := fun h => by cases h
  gr := fun h => by cases h
  so := fun _ l q g x l' ws h hq => by
    have h : some (⟨l.length ≤ 1000 ∧ ∀ r ∈ l, r.length ≤ 1000, .c (.rows 80 0 .i64 (srtL l)), []⟩ : Post) = some ⟨q, .c (.rows g x .i64 l'), ws⟩ := h
    simp only [Option.some.injEq, Post.mk.injEq, RV.c.injEq, RC.rows.injEq] at h
    obtain ⟨h1, ⟨h2, _, _, h3⟩, _⟩ := h
    subst h1; subst h2; subst h3
    exact sort_at l hq.1 hq.2
end Go.Sx
end
section
section
open Go Go.Proofs
namespace Go.Sx
set_option linter.unusedSimpArgs false
set_option linter.unusedVariables false
structure Rref (p : Int) (N : Nat) (B : List (List Int)) : Prop where
  row : ∀ k, k < B.length → rwP p N (B.getD k [])
  nn : ∀ k, k < B.length → 0 ≤ ldF (B.getD k [])
  one : ∀ k, k < B.length → at2 B k (ldN B k) = 1
  all : ∀ j k, j ≠ k → j < B.length → k < B.length → at2 B j (ldN B k) = 0
  inc : ∀ j k, j < k → k < B.length → ldN B j < ldN B k
section
variable {p : Int} {N : Nat} {B B' : List (List Int)}
theorem Rref.piv (h : Rref p N B) {k : Nat} (hk : k < B.length) : ldN B k < N := by
  have a := ld_yes (h.nn k hk)
  have b := (h.row k hk).1
  unfold ldN
  omega
theorem Rref.bef (h : Rref p N B) {k q : Nat} (hk : k < B.length) (hq : q < ldN B k) : at2 B k q = 0 :=
  (ld_yes (h.nn k hk)).2.2 q hq
theorem Rref.coord (h : Rref p N B) {v : Nat → Int} (hv : SpP p N B v) : ∀ q, q < N → p ∣ v q - sm (fun k => v (ldN B k) * at2 B k q) B.length := by
  obtain ⟨c, hc⟩ := hv
  have hcv : ∀ j, j < B.length → p ∣ v (ldN B j) - c j := fun j hj => by
    have := hc _ (h.piv hj)
    have e : sm (fun k => c k * at2 B k (ldN B j)) B.length = c j := by
      rw [sm_ext (g := fun k => if k = j then c j else 0) fun k hk => by
        by_cases e : k = j
        · subst e; rw [h.one k hk]; simp
        · rw [h.all k j e hk hj]; simp [e], sm_delta, if_pos hj]
    rwa [e] at this
  intro q hq
  have m := sm_mod (p := p) (fun k => v (ldN B k) * at2 B k q) (fun k => c k * at2 B k q) B.length fun k hk => by
    have : p ∣ (v (ldN B k) - c k) * at2 B k q := Int.dvd_mul_of_dvd_left (hcv k hk)
    rwa [Int.sub_mul] at this
  have e := Int.dvd_sub (hc q hq) m
  rwa [show v q - sm (fun k => c k * at2 B k q) B.length - (sm (fun k => v (ldN B k) * at2 B k q) B.length - sm (fun k => c k * at2 B k q) B.length) = v q - sm (fun k => v (ldN B k) * at2 B k q) B.length by omega] at e
theorem Rref.mem (h : Rref p N B) {v : Nat → Int} (hv : SpP p N B v) {a : Nat} (ha : a < N) (h0 : ∀ q, q < a → v q = 0) (h1 : ¬ p ∣ v a) : ∃ k, k < B.length ∧ ldN B k = a := by
  refine Classical.byContradiction fun hn => h1 ?_
  have c := h.coord hv a ha
  have e : sm (fun k => v (ldN B k) * at2 B k a) B.length = 0 := by
    rw [sm_ext (g := fun _ => (0 : Int) * 0) fun k hk => by
      rcases Nat.lt_trichotomy (ldN B k) a with z | z | z
      · rw [h0 _ z]; simp
      · exact absurd ⟨k, hk, z⟩ hn
      · rw [h.bef hk z]; simp, sm_mul]
    simp
  rwa [e, Int.sub_zero] at c
theorem Rref.sub (h : Rref p N B) (h' : Rref p N B') (hp : 2 ≤ p) (he : ∀ v, SpP p N B v ↔ SpP p N B' v) {j : Nat} (hj : j < B'.length) : ∃ k, k < B.length ∧ ldN B k = ldN B' j :=
  h.mem ((he _).2 (sp_mem hj)) (h'.piv hj) (fun q hq => h'.bef hj hq) (by
    rw [h'.one j hj]
    intro hd
    have := Int.le_of_dvd (by decide) hd
    omega)
theorem Rref.same (h : Rref p N B) (h' : Rref p N B') (hp : 2 ≤ p) (he : ∀ v, SpP p N B v ↔ SpP p N B' v) : ∀ n k, k < n → k < B.length → k < B'.length ∧ ldN B' k = ldN B k
  | 0, k, hk, _ => absurd hk (Nat.not_lt_zero k)
  | n + 1, k, hk, hB => by
    have ih := Rref.same h h' hp he n
    by_cases hkn : k < n
    · exact ih k hkn hB
    have hkn : k = n := by omega
    subst hkn
    obtain ⟨i, hi, ei⟩ := h'.sub h hp (fun v => (he v).symm) hB
    have ik : k ≤ i := by
      refine Classical.byContradiction fun hc => ?_
      have a := ih i (by omega) (by omega)
      have b := h.inc i k (by omega) hB
      omega
    have hB' : k < B'.length := by omega
    obtain ⟨m, hm, em⟩ := h.sub h' hp he hB'
    have mk : k ≤ m := by
      refine Classical.byContradiction fun hc => ?_
      have a := ih m (by omega) hm
      have b := h'.inc m k (by omega) hB'
      omega
    have x1 : ldN B' k ≤ ldN B' i := by
      rcases Nat.eq_or_lt_of_le ik with e | e
      · rw [e]; exact Nat.le_refl _
      · exact Nat.le_of_lt (h'.inc k i e hi)
    have x2 : ldN B k ≤ ldN B m := by
      rcases Nat.eq_or_lt_of_le mk with e | e
      · rw [e]; exact Nat.le_refl _
      · exact Nat.le_of_lt (h.inc k m e hm)
    exact ⟨hB', by omega⟩
theorem Rref.uniq (h : Rref p N B) (h' : Rref p N B') (hp : 2 ≤ p) (he : ∀ v, SpP p N B v ↔ SpP p N B' v) : B = B' := by
  have l1 : B.length ≤ B'.length := by
    refine Classical.byContradiction fun hc => ?_
    have := (h.same h' hp he B.length B'.length (by omega) (by omega)).1
    omega
  have l2 : B'.length ≤ B.length := by
    refine Classical.byContradiction fun hc => ?_
    have := (h'.same h hp (fun v => (he v).symm) B'.length B.length (by omega) (by omega)).1
    omega
  refine list2_ext (by omega) fun j hj => ?_
  have hj' : j < B'.length := by omega
  have r := h.row j hj
  have r' := h'.row j hj'
  have a1 := r.1
  have a2 := r'.1
  have c := h.coord ((he _).2 (sp_mem hj'))
  apply List.ext_getElem (by omega)
  intro q q1 q2
  rw [← getD_lt (B.getD j []) 0 q q1, ← getD_lt (B'.getD j []) 0 q q2]
  have d := c q (by omega)
  have e : sm (fun k => at2 B' j (ldN B k) * at2 B k q) B.length = at2 B j q := by
    rw [sm_ext (g := fun k => if k = j then at2 B j q else 0) fun k hk => by
      have s := h.same h' hp he (k + 1) k (by omega) hk
      rw [← s.2]
      by_cases e : k = j
      · subst e; rw [h'.one k hj']; simp
      · rw [h'.all j k (fun x => e x.symm) hj' s.1]; simp [e], sm_delta, if_pos hj]
  rw [e] at d
  have b1 := r.2 q q1
  have b2 := r'.2 q q2
  have d : p ∣ (B'.getD j []).getD q 0 - (B.getD j []).getD q 0 := d
  have := Int.emod_eq_emod_iff_emod_sub_eq_zero.2 (Int.emod_eq_zero_of_dvd d)
  rw [Int.emod_eq_of_lt b2.1 (by omega), Int.emod_eq_of_lt b1.1 (by omega)] at this
  exact this.symm
end
structure EInv (p : Int) (N : Nat) (R out : List (List Int)) (d a : Nat) : Prop where
  dl : d ≤ out.length
  row : ∀ i, i < out.length → rwP p N (out.getD i [])
  nn : ∀ k, k < d → 0 ≤ ldF (out.getD k [])
  lt : ∀ k, k < d → ldN out k < a
  one : ∀ k, k < d → at2 out k (ldN out k) = 1
  inc : ∀ j k, j < k → k < d → ldN out j < ldN out k
  all : ∀ i k, i ≠ k → i < out.length → k < d → at2 out i (ldN out k) = 0
  low : ∀ i, d ≤ i → i < out.length → ∀ q, q < a → at2 out i q = 0
  sp : ∀ v, SpP p N out v ↔ SpP p N R v
theorem EInv.init {p : Int} {N : Nat} {R : List (List Int)} (h : rwsP p N R) : EInv p N R R 0 0 :=
  ⟨Nat.zero_le _, h, fun k hk => absurd hk (Nat.not_lt_zero k), fun k hk => absurd hk (Nat.not_lt_zero k), fun k hk => absurd hk (Nat.not_lt_zero k), fun j k _ hk => absurd hk (Nat.not_lt_zero k),
    fun i k _ _ hk => absurd hk (Nat.not_lt_zero k), fun i _ _ q hq => absurd hq (Nat.not_lt_zero q), fun v => Iff.rfl⟩
theorem EInv.skip {p : Int} {N : Nat} {R out : List (List Int)} {d a : Nat} (h : EInv p N R out d a) (hz : ∀ i, d ≤ i → i < out.length → at2 out i a = 0) : EInv p N R out d (a + 1) :=
  ⟨h.dl, h.row, h.nn, fun k hk => Nat.lt_succ_of_lt (h.lt k hk), h.one, h.inc, h.all, fun i h1 h2 q hq => by
    rcases Nat.lt_or_ge q a with e | e
    · exact h.low i h1 h2 q e
    · rw [show q = a by omega]; exact hz i h1 h2, h.sp⟩
theorem upR_ok {p : Int} (hp : 2 ≤ p) {N : Nat} {s b : List Int} {a : Nat} (ha : a < N) (hs : rwP p N s) (h1 : s.getD a 0 = 1) (hb : rwP p N b) :
    rwP p N (upR p s a b) ∧ (upR p s a b).getD a 0 = 0 ∧ (∀ q, q < N → s.getD q 0 = 0 → (upR p s a b).getD q 0 = b.getD q 0) ∧ ∃ c : Int, ∀ q, q < N → p ∣ (upR p s a b).getD q 0 - (b.getD q 0 + c * s.getD q 0) := by
  have bl := hb.1
  have c := hb.2 a (by omega)
  unfold upR
  by_cases h0 : b.getD a 0 ≠ 0
  · rw [if_pos h0]
    refine ⟨stF_rw (by omega) (by omega) hs hb, ?_, fun q hq hz => ?_, p - b.getD a 0, fun q hq => stF_mod (by omega) (by omega) hs hb hq⟩
    · rw [stF_get (by omega), h1, show b.getD a 0 + (p - b.getD a 0) * 1 = p by omega, Int.tmod_self]
    · have cq := hb.2 q (by omega)
      rw [stF_get (by omega), hz, Int.mul_zero, Int.add_zero]
      exact Int.tmod_eq_of_lt cq.1 (by omega)
  · rw [if_neg h0]
    exact ⟨hb, by omega, fun _ _ _ => rfl, 0, fun q _ => by simp⟩
theorem EInv.step {p : Int} (hp : primeB p = true) {N : Nat} {R out : List (List Int)} {d a : Nat} (h : EInv p N R out d a) (ha : a < N) {r : Nat} (hr : d ≤ r) (hr2 : r < out.length) (hne : at2 out r a ≠ 0)
    {s : List Int} (hs : s = scF p (ivM p ((out.getD r []).getD a 0)) (out.getD r [])) {out' : List (List Int)} (hl : out'.length = out.length)
    (hg : ∀ i, i < out.length → out'.getD i [] = if i = d then s else upR p s a (if i = r then out.getD d [] else out.getD i [])) : EInv p N R out' (d + 1) (a + 1) := by
  obtain ⟨p2, p7⟩ := primeB_le hp
  have rr := h.row r hr2
  have lr : ldF (out.getD r []) = (a : Int) := ld_is hne fun i hi => h.low r hr hr2 i hi
  have n := scF_nrm hp rr (by omega)
  rw [lr, Int.toNat_natCast, ← hs] at n
  have n1 : s.getD a 0 = 1 := by have := n.one; rwa [lr, Int.toNat_natCast] at this
  have sz : ∀ q, q < a → s.getD q 0 = 0 := fun q hq => n.zer q (by omega) (h.low r hr hr2 q hq)
  have sP : ∀ k, k < d → s.getD (ldN out k) 0 = 0 := fun k hk => sz _ (h.lt k hk)
  have dl : d < out.length := by omega
  have src : ∀ i, i < out.length → ∃ j, j < out.length ∧ (if i = r then out.getD d [] else out.getD i []) = out.getD j [] ∧ (i < d → j = i) ∧ (d ≤ i → d ≤ j) := fun i hi => by
    by_cases e : i = r
    · rw [if_pos e]; exact ⟨d, dl, rfl, fun x => by omega, fun _ => Nat.le_refl _⟩
    · rw [if_neg e]; exact ⟨i, hi, rfl, fun _ => rfl, fun x => x⟩
  have gd : out'.getD d [] = s := by rw [hg d dl, if_pos rfl]
  have up : ∀ i, i < out.length → i ≠ d → ∃ j, j < out.length ∧ (i < d → j = i) ∧ (d ≤ i → d ≤ j) ∧ rwP p N (out'.getD i []) ∧ at2 out' i a = 0 ∧ (∀ q, q < N → s.getD q 0 = 0 → at2 out' i q = at2 out j q) ∧
      ∃ c : Int, ∀ q, q < N → p ∣ at2 out' i q - (at2 out j q + c * s.getD q 0) := fun i hi hid => by
    obtain ⟨j, j1, j2, j3, j4⟩ := src i hi
    have e := hg i hi
    rw [if_neg hid, j2] at e
    obtain ⟨u1, u2, u3, u4⟩ := upR_ok p2 ha n.row n1 (h.row j j1)
    refine ⟨j, j1, j3, j4, by rw [e]; exact u1, by rw [at2, e]; exact u2, fun q hq hz => by rw [at2, e]; exact u3 q hq hz, ?_⟩
    obtain ⟨c, hc⟩ := u4
    exact ⟨c, fun q hq => by rw [at2, e]; exact hc q hq⟩
  have ldd : ldF (out'.getD d []) = (a : Int) := by rw [gd]; exact ld_is (by rw [n1]; decide) sz
  have lnd : ldN out' d = a := by unfold ldN; rw [ldd]; exact Int.toNat_natCast _
  have old : ∀ k, k < d → ldF (out'.getD k []) = ldF (out.getD k []) := fun k hk => by
    obtain ⟨j, j1, j3, _, u1, u2, u3, _⟩ := up k (by omega) (by omega)
    have := j3 hk
    subst this
    have y := ld_yes (h.nn j hk)
    have pl := h.lt j hk
    have e0 : (ldF (out.getD j [])).toNat = ldN out j := rfl
    rw [e0] at y
    have nn := h.nn j hk
    rw [show ldF (out.getD j []) = ((ldN out j : Nat) : Int) by unfold ldN; omega]
    refine ld_is ?_ fun i hi => ?_
    · have := u3 (ldN out j) (by omega) (sP j hk)
      show at2 out' j (ldN out j) ≠ 0
      rw [this]; exact y.2.1
    · have := u3 i (by omega) (sz i (by omega))
      show at2 out' j i = 0
      rw [this]; exact y.2.2 i hi
  have oldN : ∀ k, k < d → ldN out' k = ldN out k := fun k hk => by unfold ldN; rw [old k hk]
  refine ⟨by omega, fun i hi => ?_, fun k hk => ?_, fun k hk => ?_, fun k hk => ?_, fun j k hjk hk => ?_, fun i k hik hi hk => ?_, fun i h1 hi q hq => ?_, fun v => ?_⟩
  · by_cases e : i = d
    · rw [e, gd]; exact n.row
    · obtain ⟨_, _, _, _, u1, _⟩ := up i (by omega) e; exact u1
  · by_cases e : k = d
    · rw [e, ldd]; omega
    · rw [old k (by omega)]; exact h.nn k (by omega)
  · by_cases e : k = d
    · rw [e, lnd]; omega
    · rw [oldN k (by omega)]; exact Nat.lt_succ_of_lt (h.lt k (by omega))
  · by_cases e : k = d
    · rw [e, lnd, at2, gd]; exact n1
    · obtain ⟨j, j1, j3, _, _, _, u3, _⟩ := up k (by omega) e
      have := j3 (by omega)
      subst this
      have lt := h.lt j (by omega)
      rw [oldN j (by omega), u3 _ (by omega) (sP j (by omega))]
      exact h.one j (by omega)
  · by_cases e : k = d
    · rw [e, lnd, oldN j (by omega)]; exact h.lt j (by omega)
    · rw [oldN j (by omega), oldN k (by omega)]; exact h.inc j k hjk (by omega)
  · by_cases e : k = d
    · rw [e, lnd]
      obtain ⟨_, _, _, _, _, u2, _⟩ := up i (by omega) (by omega)
      exact u2
    · have lt := h.lt k (by omega)
      rw [oldN k (by omega)]
      by_cases e2 : i = d
      · rw [e2, at2, gd]; exact sP k (by omega)
      · obtain ⟨j, j1, j3, j4, _, _, u3, _⟩ := up i (by omega) e2
        rw [u3 _ (by omega) (sP k (by omega))]
        refine h.all j k ?_ j1 (by omega)
        rcases Nat.lt_or_ge i d with x | x
        · rw [j3 x]; exact hik
        · have := j4 x; omega
  · obtain ⟨j, j1, _, j4, _, u2, u3, _⟩ := up i (by omega) (by omega)
    rcases Nat.lt_or_ge q a with e | e
    · rw [u3 q (by omega) (sz q e)]
      exact h.low j (j4 (by omega)) j1 q e
    · rw [show q = a by omega]; exact u2
  · rw [← h.sp v]
    have sS : SpP p N out (fun q => s.getD q 0) := by
      obtain ⟨m, hm⟩ := n.mod
      exact sp_congr hm (sp_mul m (sp_mem hr2))
    have sS' : SpP p N out' (fun q => s.getD q 0) := sp_congr (fun q _ => by rw [at2, gd, Int.sub_self]; exact Int.dvd_zero _) (sp_mem (B := out') (i := d) (by omega))
    constructor
    · refine sp_sub fun i hi => ?_
      by_cases e : i = d
      · rw [e]
        exact sp_congr (fun q _ => by rw [at2, gd, Int.sub_self]; exact Int.dvd_zero _) sS
      · obtain ⟨j, j1, _, _, _, _, _, c, hc⟩ := up i (by omega) e
        exact sp_congr hc (sp_add (sp_mem j1) (sp_mul c sS))
    · refine sp_sub fun j hj => ?_
      by_cases e : j = r
      · rw [e]
        obtain ⟨m, hm⟩ := n.dom
        exact sp_congr hm (sp_mul m sS')
      · have pl : ∃ i, i < out.length ∧ i ≠ d ∧ (if i = r then out.getD d [] else out.getD i []) = out.getD j [] := by
          by_cases e2 : j = d
          · exact ⟨r, hr2, fun x => e (by omega), by rw [if_pos rfl, e2]⟩
          · exact ⟨j, hj, e2, by rw [if_neg e]⟩
        obtain ⟨i, i1, i2, i3⟩ := pl
        have e3 := hg i i1
        rw [if_neg i2, i3] at e3
        obtain ⟨_, _, _, c, hc⟩ := upR_ok p2 ha n.row n1 (h.row j hj)
        refine sp_congr (fun q hq => ?_) (sp_add (sp_mem (B := out') (i := i) (by omega)) (sp_mul (-c) sS'))
        have x := hc q hq
        rw [← e3] at x
        have y := Int.dvd_neg.2 x
        have z : at2 out j q - (at2 out' i q + -c * s.getD q 0) = -((out'.getD i []).getD q 0 - ((out.getD j []).getD q 0 + c * s.getD q 0)) := by
          unfold at2
          rw [Int.neg_mul]
          omega
        rw [z]; exact y
theorem EInv.fin {p : Int} {N : Nat} {R out : List (List Int)} {d : Nat} (h : EInv p N R out d N) : Rref p N (out.take d) ∧ ∀ v, SpP p N (out.take d) v ↔ SpP p N R v := by
  have dl := h.dl
  have tl : (out.take d).length = d := by rw [List.length_take]; omega
  have tg : ∀ k, k < d → (out.take d).getD k [] = out.getD k [] := fun k hk => by
    rw [List.getD_eq_getElem?_getD, List.getElem?_take, if_pos hk, ← List.getD_eq_getElem?_getD]
  have tn : ∀ k, k < d → ldN (out.take d) k = ldN out k := fun k hk => by unfold ldN; rw [tg k hk]
  have ta : ∀ k q, k < d → at2 (out.take d) k q = at2 out k q := fun k q hk => by unfold at2; rw [tg k hk]
  refine ⟨⟨fun k hk => ?_, fun k hk => ?_, fun k hk => ?_, fun j k hjk hj hk => ?_, fun j k hjk hk => ?_⟩, fun v => ?_⟩
  · rw [tl] at hk; rw [tg k hk]; exact h.row k (by omega)
  · rw [tl] at hk; rw [tg k hk]; exact h.nn k hk
  · rw [tl] at hk; rw [tn k hk, ta k _ hk]; exact h.one k hk
  · rw [tl] at hj hk; rw [tn k hk, ta j _ hj]; exact h.all j k hjk (by omega) hk
  · rw [tl] at hk; rw [tn j (by omega), tn k hk]; exact h.inc j k hjk hk
  · rw [← h.sp v]
    constructor
    · refine sp_sub fun k hk => ?_
      rw [tl] at hk
      exact sp_congr (fun q _ => by rw [ta k q hk, Int.sub_self]; exact Int.dvd_zero _) (sp_mem (B := out) (i := k) (by omega))
    · refine sp_sub fun i hi => ?_
      by_cases e : i < d
      · exact sp_congr (fun q _ => by rw [ta i q e, Int.sub_self]; exact Int.dvd_zero _) (sp_mem (B := out.take d) (i := i) (by omega))
      · exact sp_zero fun q hq => by rw [h.low i (by omega) hi q hq]; exact Int.dvd_zero _
end Go.Sx
end
section
open Go Go.Proofs
namespace Go.Sx
set_option linter.unusedSimpArgs false
set_option linter.unusedVariables false
theorem srt_get (l : List (List Int)) (h : 0 < l.length) : ∃ σ : Nat → Nat, (∀ i, i < l.length → σ i < l.length ∧ (srtL l).getD i [] = l.getD (σ i) []) ∧ (∀ i j, i < l.length → j < l.length → σ i = σ j → i = j) ∧
    (∀ k, k < l.length → ∃ i, i < l.length ∧ σ i = k) ∧ ∀ i j, i < j → j < l.length → ¬ cmpG cmpI (l.getD (σ i) []) (l.getD (σ j) []) < 0 := by
  letI : Inhabited (Fin l.length) := ⟨⟨0, h⟩⟩
  have P := srtI_ok l h
  have S := (Go.Sort.pdq_sorts (fun i j => decide (rwC l i j < 0)) (rwC_swo l) (List.finRange l.length).toArray 0 (List.finRange l.length).toArray.size (Lib.bitLen (List.finRange l.length).toArray.size) true true (Nat.zero_le _) (Nat.le_refl _) (Or.inl rfl)).2
  have S : ∀ i j : Nat, i < j → j < l.length → decide (rwC l (srtI l h)[j]! (srtI l h)[i]! < 0) = false := fun i j h1 h2 => S i j (Nat.zero_le _) h1 (by simpa using h2)
  have hS : srtL l = (srtI l h).toList.map (fun i => l.getD i.1 []) := by unfold srtL; rw [dif_pos h]
  have sl : (srtI l h).toList.length = l.length := by rw [P.length_eq]; simp
  have sz : (srtI l h).size = l.length := by simpa using sl
  have nd : (srtI l h).toList.Nodup := P.nodup_iff.2 (List.nodup_finRange _)
  have g : ∀ i (hi : i < l.length), (srtI l h)[i]! = (srtI l h).toList[i]'(by omega) := fun i hi => by
    rw [getElem!_pos (srtI l h) i (by omega)]; simp
  refine ⟨fun i => ((srtI l h)[i]!).1, fun i hi => ⟨((srtI l h)[i]!).2, ?_⟩, fun i j hi hj e => ?_, fun k hk => ?_, fun i j hij hj => ?_⟩
  · show (srtL l).getD i [] = l.getD ((srtI l h)[i]!).1 []
    rw [g i hi, hS, getD_lt _ [] i (by rw [List.length_map]; omega), List.getElem_map]
  · have e := Fin.ext e
    rw [g i hi, g j hj] at e
    have pw := List.pairwise_iff_getElem.1 nd
    rcases Nat.lt_trichotomy i j with x | x | x
    · exact absurd e (pw i j (by omega) (by omega) x)
    · exact x
    · exact absurd e.symm (pw j i (by omega) (by omega) x)
  · have m : (⟨k, hk⟩ : Fin l.length) ∈ (srtI l h).toList := P.mem_iff.2 (List.mem_finRange _)
    obtain ⟨i, hi, e⟩ := List.mem_iff_getElem.1 m
    exact ⟨i, by omega, by show ((srtI l h)[i]!).1 = k; rw [g i (by omega), e]⟩
  · have := S i j hij hj
    rw [decide_eq_false_iff_not] at this
    exact this
theorem cmpG_at : ∀ (n : Nat) (a b : List Int), n < a.length → n < b.length → (∀ q, q < n → a.getD q 0 = b.getD q 0) → a.getD n 0 < b.getD n 0 → cmpG cmpI a b < 0
  | _, [], _, h, _, _, _ => by simp at h
  | _, _ :: _, [], _, h, _, _ => by simp at h
  | 0, x :: a, y :: b, _, _, _, h => by
    have h : x < y := h
    have c : cmpI x y = -1 := if_pos h
    simp only [cmpG, c]
    rw [if_neg (by decide)]
    decide
  | n + 1, x :: a, y :: b, h1, h2, h3, h => by
    have e : x = y := h3 0 (by omega)
    have := cmpG_at n a b (by simpa using h1) (by simpa using h2) (fun q hq => h3 (q + 1) (by omega)) h
    simp only [cmpG]
    rw [if_pos (cmpI_zero.2 e)]
    exact this
theorem srt_rref {p : Int} {N : Nat} {B : List (List Int)} (h : Full p N B) : Rref p N (srtL B) ∧ ∀ v, SpP p N (srtL B) v ↔ SpP p N B v := by
  have sl := srtL_len B
  by_cases h0 : 0 < B.length
  · obtain ⟨σ, s1, s2, s3, s4⟩ := srt_get B h0
    have n : ∀ i, i < B.length → ldN (srtL B) i = ldN B (σ i) := fun i hi => by unfold ldN; rw [(s1 i hi).2]
    have a : ∀ i q, i < B.length → at2 (srtL B) i q = at2 B (σ i) q := fun i q hi => by unfold at2; rw [(s1 i hi).2]
    refine ⟨⟨fun k hk => ?_, fun k hk => ?_, fun k hk => ?_, fun j k hjk hj hk => ?_, fun j k hjk hk => ?_⟩, fun v => ⟨sp_sub fun k hk => ?_, sp_sub fun k hk => ?_⟩⟩
    · rw [sl] at hk; rw [(s1 k hk).2]; exact h.bas.row _ (s1 k hk).1
    · rw [sl] at hk; rw [(s1 k hk).2]; exact h.nn _ (s1 k hk).1
    · rw [sl] at hk; rw [n k hk, a k _ hk]; exact h.bas.one _ (s1 k hk).1
    · rw [sl] at hj hk; rw [n k hk, a j _ hj]; exact h.all _ _ (fun e => hjk (s2 j k hj hk e)) (s1 j hj).1 (s1 k hk).1
    · rw [sl] at hk
      have hj : j < B.length := by omega
      rw [n j hj, n k hk]
      have j1 := (s1 j hj).1
      have k1 := (s1 k hk).1
      have ne : σ j ≠ σ k := fun e => by have := s2 j k hj hk e; omega
      have pne : ldN B (σ j) ≠ ldN B (σ k) := fun e => by
        have x := h.all (σ j) (σ k) ne j1 k1
        rw [← e, h.bas.one _ j1] at x
        cases x
      refine Classical.byContradiction fun hc => s4 j k hjk hk ?_
      have lt : ldN B (σ k) < ldN B (σ j) := by omega
      have yj := ld_yes (h.nn _ j1)
      have yk := ld_yes (h.nn _ k1)
      have lj := (h.bas.row _ j1).1
      have lk := (h.bas.row _ k1).1
      have pk := h.bas.piv _ k1
      refine cmpG_at (ldN B (σ k)) _ _ (by omega) (by omega) (fun q hq => ?_) ?_
      · rw [yj.2.2 q (by show q < ldN B (σ j); omega), yk.2.2 q hq]
      · have o := h.bas.one _ k1
        have z := yj.2.2 (ldN B (σ k)) lt
        unfold at2 at o
        rw [o, z]; decide
    · rw [sl] at hk
      exact sp_congr (fun q _ => by rw [a k q hk, Int.sub_self]; exact Int.dvd_zero _) (sp_mem (s1 k hk).1)
    · obtain ⟨i, hi, e⟩ := s3 k hk
      exact sp_congr (fun q _ => by rw [a i q hi, e, Int.sub_self]; exact Int.dvd_zero _) (sp_mem (B := srtL B) (i := i) (by omega))
  · have e : B = [] := List.length_eq_zero_iff.1 (by omega)
    have e2 : srtL B = [] := List.length_eq_zero_iff.1 (by omega)
    rw [e2, e]
    exact ⟨⟨fun k hk => by simp at hk, fun k hk => by simp at hk, fun k hk => by simp at hk, fun j k _ hj => by simp at hj, fun j k _ hk => by simp at hk⟩, fun v => Iff.rfl⟩
theorem red_rref {p : Int} (hp : primeB p = true) {N : Nat} {R : List (List Int)} (hR : rwsP p N R) : Rref p N (srtL (imN p R R.length)) ∧ ∀ v, SpP p N (srtL (imN p R R.length)) v ↔ SpP p N R v := by
  obtain ⟨f, s⟩ := imN_ok hp hR R.length (Nat.le_refl _)
  obtain ⟨r, t⟩ := srt_rref f
  refine ⟨r, fun v => ?_⟩
  rw [t v, s v, List.take_of_length_le (Nat.le_refl _)]
theorem red_same {p : Int} (hp : primeB p = true) {N : Nat} {R out : List (List Int)} {d : Nat} (hR : rwsP p N R) (h : EInv p N R out d N) : out.take d = srtL (imN p R R.length) := by
  obtain ⟨p2, _⟩ := primeB_le hp
  obtain ⟨a, b⟩ := h.fin
  obtain ⟨c, e⟩ := red_rref hp hR
  exact a.uniq c p2 fun v => (b v).trans (e v).symm
end Go.Sx
end
section
open Go Go.Proofs
namespace Go.Sx
set_option linter.unusedSimpArgs false
set_option linter.unusedVariables false
def knS (p : Int) (B : List (List Int)) (a : Nat) : Nat → List Int → List Int
  | 0, l => l
  | i + 1, l => (knS p B a i l).set (ldN B i) ((p - at2 B i a).tmod p)
def knL (p : Int) (M : Nat) (B : List (List Int)) (a : Nat) : List Int := knS p B a B.length ((List.replicate M 0).set a 1)
def pvB (B : List (List Int)) (a : Nat) : Bool := (B.map ldF).contains (a : Int)
def kerN (p : Int) (M : Nat) (B : List (List Int)) : Nat → List (List Int)
  | 0 => []
  | a + 1 => if pvB B a = true then kerN p M B a else kerN p M B a ++ [knL p M B a]
theorem rwP_set {p : Int} {M : Nat} {l : List Int} (h : rwP p M l) {i : Nat} {v : Int} (h0 : 0 ≤ v) (h1 : v ≤ p - 1) : rwP p M (l.set i v) := by
  refine ⟨by rw [List.length_set]; exact h.1, fun q hq => ?_⟩
  rw [List.length_set] at hq
  rw [getD_set _ _ _ _ hq]
  split
  · exact ⟨h0, h1⟩
  · exact h.2 q hq
theorem knS_rw {p : Int} (hp : 2 ≤ p) {M : Nat} {B : List (List Int)} {a : Nat} (ha : a < M) (hB : rwsP p M B) : ∀ i, i ≤ B.length → ∀ l, rwP p M l → rwP p M (knS p B a i l)
  | 0, _, l, h => h
  | i + 1, hi, l, h => by
    have b := hB i (by omega)
    have bl := b.1
    have c : 0 ≤ at2 B i a ∧ at2 B i a ≤ p - 1 := b.2 a (by omega)
    have n := Int.tmod_nonneg p (show 0 ≤ p - at2 B i a by omega)
    have m := Int.tmod_lt_of_pos (p - at2 B i a) (show 0 < p by omega)
    exact rwP_set (knS_rw hp ha hB i (by omega) l h) n (by omega)
theorem kerN_rws {p : Int} (hp : 2 ≤ p) {M : Nat} {B : List (List Int)} (hB : rwsP p M B) : ∀ a, a ≤ M → rwsP p M (kerN p M B a) ∧ (kerN p M B a).length ≤ a
  | 0, _ => ⟨fun i hi => by simp [kerN] at hi, Nat.le_refl _⟩
  | a + 1, ha => by
    obtain ⟨h1, h2⟩ := kerN_rws hp hB a (by omega)
    unfold kerN
    split
    · exact ⟨h1, by omega⟩
    · refine ⟨fun i hi => ?_, by rw [List.length_append]; show (kerN p M B a).length + 1 ≤ a + 1; omega⟩
      by_cases e : i < (kerN p M B a).length
      · rw [snoc_get _ _ e]; exact h1 i e
      · have : i = (kerN p M B a).length := by simp at hi; omega
        rw [this, show (kerN p M B a ++ [knL p M B a]).getD (kerN p M B a).length [] = knL p M B a by simp [List.getD]]
        refine knS_rw hp (by omega) hB _ (Nat.le_refl _) _ (rwP_set ⟨List.length_replicate .., fun q hq => by simp at hq; simp [List.getD, hq]; omega⟩ (by omega) (by omega))
def cbaL (p : Int) (M : Nat) (R : List (List Int)) : List (List Int) :=
  let B := srtL (imN p R R.length)
  let K := kerN p M B M
  srtL (imN p K K.length)
end Go.Sx
end
end
section
open Go Go.Proofs
namespace Go.Sx
set_option linter.unusedSimpArgs false
set_option linter.unusedVariables false
def crF (t : List (List Int)) (p : Int) (i : Nat) : List Int := ptF t p (digN t.length 3 i) 3
def crows (t : List (List Int)) (p : Int) : List (List Int) := (List.range (t.length * t.length * t.length)).map (crF t p)
theorem digN_in {n : Nat} (hn : 1 ≤ n) : ∀ (k : Nat) (p : Int), 0 ≤ p → inT n (digN n k p)
  | 0, _, _ => fun q hq => by simp [digN] at hq
  | k + 1, p, hp => fun q hq => by
    rw [digN_length] at hq
    have hd : 0 ≤ p.tdiv n := Int.tdiv_nonneg hp (by omega)
    by_cases h : q < k
    · rw [digN, getD_append_left' _ _ _ _ (by rw [digN_length]; exact h)]
      exact digN_in hn k _ hd q (by rw [digN_length]; exact h)
    · have e : q = k := by omega
      subst e
      rw [digN, getD_append_right' _ _ _ _ (by rw [digN_length]; exact Nat.le_refl _), digN_length, Nat.sub_self]
      have := tmod_in (a := p) (m := n) hp (by omega)
      simpa using this
theorem sq_le {n : Nat} (h : n ≤ 12) : n * n ≤ 144 := Nat.mul_le_mul h h
theorem cu_le {n : Nat} (h : n ≤ 12) : n * n * n ≤ 1728 := Nat.mul_le_mul (sq_le h) h
theorem dig_ok {t : List (List Int)} {p : Int} (h1 : tabB t = true) (p1 : 2 ≤ p) (p2 : p ≤ 7) {k : Nat} (hk : k ≤ 1000) (hN : (t.length : Int) ^ (k - 1) ≤ 512) {i : Int} (hi : 0 ≤ i) : bdOk t p (digN t.length k i) :=
  ⟨h1, p1, p2, digN_in (tabB_of h1).1 k i hi, by rw [digN_length]; exact hN, by rw [digN_length]; exact hk⟩
theorem sq_512 {t : List (List Int)} (h1 : tabB t = true) : (t.length : Int) ^ (3 - 1) ≤ 512 := by
  have h := sq_le (tabB_of h1).2.1
  rw [← Int.natCast_pow, show 3 - 1 = 2 from rfl, Nat.pow_two]
  omega
theorem stF_zero {p : Int} (hp : 1 ≤ p) {d : List Int} (hd : inP p d) : stF p 1 d (List.replicate d.length 0) = d := by
  refine list_ext (by rw [stF_length, List.length_replicate]) fun q hq => ?_
  rw [stF_length, List.length_replicate] at hq
  rw [stF, tab_getD _ _ _ (by rw [List.length_replicate]; exact hq)]
  have := hd q hq
  have e : (List.replicate d.length (0 : Int)).getD q 0 = 0 := by simp [List.getD_eq_getElem?_getD, hq]
  rw [e, Int.zero_add, Int.one_mul, Int.tmod_eq_emod_of_nonneg this.1, Int.emod_eq_of_lt this.1 (by omega)]
theorem rep_in {p : Int} (hp : 1 ≤ p) (n : Nat) : inP p (List.replicate n 0) := fun q hq => by
  rw [List.length_replicate] at hq
  simp [List.getD_eq_getElem?_getD, hq]; omega
theorem inP_allW {p : Int} {c : List Int} (h : inP p c) : allW 0 (p - 1) c = true := by
  rw [allW, List.all_eq_true]
  intro x hx
  obtain ⟨k, hk, rfl⟩ := List.getElem_of_mem hx
  have := h k hk
  rw [List.getD_eq_getElem?_getD, List.getElem?_eq_getElem hk] at this
  simpa using this
theorem ad_zero {t : List (List Int)} {p : Int} (hp : 2 ≤ p) (x : List Int) (i : Nat) : adF t p x 1 (List.replicate (t.length ^ (x.length - 1)) 0) i = ptF t p x i := by
  rw [ad_eq hp (by omega) (rep_in (by omega) _) (by rw [List.length_replicate])]
  have e := stF_zero (show 1 ≤ p by omega) (ptF_in t hp x i)
  rwa [ptF_length] at e
theorem crows_length (t : List (List Int)) (p : Int) : (crows t p).length = t.length * t.length * t.length := by simp [crows]
theorem crows_getD (t : List (List Int)) (p : Int) (i : Nat) (h : i < t.length * t.length * t.length) : (crows t p).getD i [] = crF t p i := by
  simp [crows, List.getD_eq_getElem?_getD, h]
theorem crF_length (t : List (List Int)) (p : Int) (i : Nat) : (crF t p i).length = t.length * t.length := by
  rw [crF, ptF_length, digN_length, show 3 - 1 = 2 from rfl, Nat.pow_two]
def cocycleRows_p (t : List (List Int)) (p : Int) : Post := ⟨tabB t = true ∧ 2 ≤ p ∧ p ≤ 7, .c (.rows 27 2 .i64 (crows t p)), []⟩
def cocycleRows_ct : List AD → Option Post
  | [.c (.rows .i64 (t)), .c (.int .i64 (p))] => some (cocycleRows_p t p)
  | _ => none
def cocycleRows_ann (t : List (List Int)) (p : Int) : Nat → Option Ann
  | 0 => some (Ann.mk ((Nat)) (fun i => ⟨[(0, .c (.ro (.rows .i64 (t)))), (1, .c (.int .i64 (p))), (5, .c (.int .i64 ((t.length : Int)))), (6, .c (.own (6))), (15, .c (.int .i64 (((t.length * t.length * t.length : Nat) : Int)))), (16, .c (.int .i64 ((i : Int))))], [(6, some (.rows 0 27 2 .i64 ((crows t p).take i)))]⟩) (fun i => i ≤ t.length * t.length * t.length) (fun i => t.length * t.length * t.length - i) (fun _ => noAnn))
  | _ => none
def cocycleRows_G : List (Nat × Ctr) := [(64, ⟨[], tupleOf_ct⟩), (63, ⟨[(4, 0)], addBoundary_ct⟩)]
def cocycleRows_c1 (t : List (List Int)) := (List.replicate (((↑(t.length):Int) * (↑(t.length):Int)).toNat) (0:Int))
def cocycleRows_c2 (t : List (List Int)) (x0 : Nat) := (digN (↑(t.length):Int) ((3:Int).toNat) (↑x0:Int))
def cocycleRows_V (t : List (List Int)) (p : Int) : Prop :=
 ((InR ((↑(t.length):Int) * (↑(t.length):Int)))∧((InR ((↑(t.length):Int) * (↑(t.length):Int) * (↑(t.length):Int)))∧((∃ x0 : Nat, ((x0 ≤ t.length * t.length * t.length)∧((t = t)∧((p = p)∧(((↑(t.length):Int) = (↑(t.length):Int))∧(((↑(t.length):Int) * (↑(t.length):Int) * (↑(t.length):Int) = (↑(t.length * t.length * t.length):Int))∧(((0:Int) = (↑x0:Int))∧(List.take x0 (crows t p) = []))))))))∧(∀ x1 : Nat, ((x1 ≤ t.length * t.length * t.length) → (BrP (decide ((↑x1:Int) < (↑(t.length * t.length * t.length):Int))) ((InR ((↑(t.length):Int) * (↑(t.length):Int)))∧((((0:Int) ≤ (↑(t.length):Int) * (↑(t.length):Int))∧(((↑(t.length):Int) * (↑(t.length):Int) ≤ (↑(t.length):Int) * (↑(t.length):Int))∧(room (((↑(t.length):Int) * (↑(t.length):Int)).toNat))))∧(((((1:Int) ≤ (↑(t.length):Int))∧(((0:Int) ≤ (3:Int))∧(((3:Int) ≤ (1000:Int))∧(((0:Int) ≤ (↑x1:Int))∧((↑x1:Int) ≤ (1000000:Int))))))∧True)∧((((bdOk t p (cocycleRows_c2 t x1))∧(((0:Int) ≤ (1:Int))∧(((1:Int) ≤ p - (1:Int))∧((inP p (cocycleRows_c1 t))∧((cocycleRows_c1 t).length = t.length ^ ((cocycleRows_c2 t x1).length - (1:Nat)))))))∧(((adF t p (cocycleRows_c2 t x1) (1:Int) (cocycleRows_c1 t) ((cocycleRows_c2 t x1).length)).length = (cocycleRows_c1 t).length)∧True))∧((room ((List.take x1 (crows t p)).length + [adF t p (cocycleRows_c2 t x1) (1:Int) (cocycleRows_c1 t) ((cocycleRows_c2 t x1).length)].length))∧((InR ((↑x1:Int) + (1:Int)))∧(∃ x2 : Nat, ((x2 ≤ t.length * t.length * t.length) ∧
 ((t.length * t.length * t.length - x2 < t.length * t.length * t.length - x1)∧((t = t)∧((p = p)∧(((↑(t.length):Int) = (↑(t.length):Int))∧(((↑(t.length * t.length * t.length):Int) = (↑(t.length * t.length * t.length):Int))∧(((↑x1:Int) + (1:Int) = (↑x2:Int))∧(List.take x1 (crows t p) ++ [adF t p (cocycleRows_c2 t x1) (1:Int) (cocycleRows_c1 t) ((cocycleRows_c2 t x1).length)] = List.take x2 (crows t p)))))))))))))))) ((List.take x1 (crows t p) = crows t p)∧True)))))))
theorem cocycleRows_vc (t : List (List Int)) (p : Int) : runF Tryz.prog (gam cocycleRows_G) noWr (cocycleRows_ann t p) Tryz.f27 (bodyOf Tryz.f27) [] [.c (.rows .i64 (t)), .c (.int .i64 (p))] (cocycleRows_p t p) = cocycleRows_V t p := by kernel_rfl
theorem cocycleRows_ok (t : List (List Int)) (p : Int) (hpre : (cocycleRows_p t p).pre) : cocycleRows_V t p := by
  simp only [cocycleRows_p, cocycleRows_V, cocycleRows_c1, cocycleRows_c2, BrP_iff, u1, u2, u3, u4, u5, u6, u7, u8, u9, v1, v2, v3, v4, v5, v6, v7, v8, v9, w1, w2, w3, w4, markL_length, inB, InR, room, bdsOk] at hpre ⊢
  obtain ⟨h1, p1, p2⟩ := hpre
  obtain ⟨n1, n2, ht⟩ := tabB_of h1
  have q2 := sq_le n2
  have q3 := cu_le n2
  have hcl := crows_length t p
  have hlen : ∀ i : Nat, (digN t.length (Int.toNat 3) (i : Int)).length = 3 := fun i => digN_length _ _ _
  simp only [← Int.natCast_mul, Int.toNat_natCast]
  refine ⟨by omega, by omega, ⟨0, by omega, trivial, rfl, rfl⟩, fun i hi => ⟨fun h => ?_, fun h => List.take_of_length_le (by omega)⟩⟩
  have hx : bdOk t p (digN t.length 3 (i : Int)) := dig_ok h1 p1 p2 (by omega) (sq_512 h1) (by omega)
  rw [hlen i]
  have e2 : t.length ^ (3 - 1) = t.length * t.length := Nat.pow_two _
  have er : adF t p (digN t.length (Int.toNat 3) (i : Int)) 1 (List.replicate (t.length * t.length) 0) 3 = crF t p i := by
    have := ad_zero p1 (digN t.length 3 (i : Int)) 3 (t := t)
    rw [digN_length, e2] at this
    exact this
  rw [er, crF_length]
  refine ⟨by omega, by omega, by omega, ⟨⟨hx, by omega, by omega, rep_in (by omega) _, e2.symm⟩, rfl⟩, by omega, by omega, i + 1, by omega, by omega, by omega, ?_⟩
  rw [← crows_getD t p i (by omega)]
  exact take_snoc _ [] i (by omega)
theorem cocycleRows_fits : Fits Tryz.prog 27 ⟨[], cocycleRows_ct⟩ := by
  refine ffn (Γ := gam cocycleRows_G) (gok_cons tupleOf_fits (gok_cons addBoundary_fits gok_nil)) Tryz.func27 fun ds p h hp => ?_
  unfold cocycleRows_ct at h
  split at h
  · cases h
    exact ⟨noWr, cocycleRows_ann _ _ , by rw [cocycleRows_vc]; exact cocycleRows_ok _ _  hp⟩
  · cases h
def cocN (t : List (List Int)) (p : Int) (c : List Int) : Bool := (List.range (t.length * t.length * t.length)).all fun i => decide ((dotN (crF t p i) c (t.length * t.length)).tmod p = 0)
def cocC (t : List (List Int)) (p : Int) (c : List Int) : Bool × Int := if chC t p 2 c = 0 then (cocN t p c, 0) else (false, chC t p 2 c)
theorem cocC_no {t : List (List Int)} {p : Int} {c : List Int} {z : Int} (h : chC t p 2 c = z) (hz : z ≠ 0) : false = (cocC t p c).1 ∧ z = (cocC t p c).2 := by
  rw [cocC, if_neg (by omega)]; exact ⟨rfl, h.symm⟩
theorem cocC_yes {t : List (List Int)} {p : Int} {c : List Int} {b : Bool} (h : chC t p 2 c = 0) (hb : cocN t p c = b) : b = (cocC t p c).1 ∧ 0 = (cocC t p c).2 := by
  rw [cocC, if_pos h]; exact ⟨hb.symm, rfl⟩
def iCoc_p (t : List (List Int)) (p : Int) (c : List Int) : Post := ⟨roomR t ∧ c.length ≤ 1099511627776, .tup [.inl (.bool ((cocC t p c).1)), .inl (.int .i64 ((cocC t p c).2))], []⟩
def iCoc_ct : List AD → Option Post
  | [.agg [.rows .i64 (t)], .c (.int .i64 (p)), .c (.ints .i64 (c))] => some (iCoc_p t p c)
  | _ => none
def iCoc_ann (t : List (List Int)) (p : Int) (c : List Int) : Nat → Option Ann
  | 0 => some (Ann.mk ((Nat)) (fun i => ⟨[(1, .c (.int .i64 (p))), (2, .c (.ro (.ints .i64 (c)))), (21, .c (.own (21))), (22, .c (.int .i64 (((t.length * t.length * t.length : Nat) : Int)))), (23, .c (.int .i64 ((i : Int))))], [(21, some (.rows 0 27 2 .i64 (crows t p)))]⟩) (fun i => i ≤ t.length * t.length * t.length ∧ cocN t p c = (List.range' i (t.length * t.length * t.length - i)).all fun i => decide ((dotN (crF t p i) c (t.length * t.length)).tmod p = 0)) (fun i => t.length * t.length * t.length - i) (fun _ => noAnn))
  | _ => none
def iCoc_G : List (Nat × Ctr) := [(26, ⟨[], checkChain_ct⟩), (27, ⟨[], cocycleRows_ct⟩), (28, ⟨[], pairing_ct⟩)]
def iCoc_V (t : List (List Int)) (p : Int) (c : List Int) : Prop :=
 ((((roomR t)∧(c.length ≤ (1099511627776:Nat)))∧True)∧(BrP (chC t p (2:Int) c != (0:Int)) (((false = (cocC t p c).1)∧((chC t p (2:Int) c = (cocC t p c).2)∧True))∧True) ((((tabB t = true)∧(((2:Int) ≤ p)∧(p ≤ (7:Int))))∧True)∧((∃ x0 : Nat, (((x0 ≤ t.length * t.length * t.length)∧(cocN t p c = List.all (List.range' x0 (t.length * t.length * t.length - x0)) fun (i : Nat) => decide (Int.tmod (dotN (crF t p i) c (t.length * t.length)) p = (0:Int))))∧((p = p)∧((c = c)∧(((↑((crows t p).length):Int) = (↑(t.length * t.length * t.length):Int))∧(((0:Int) = (↑x0:Int))∧(crows t p = crows t p)))))))∧(∀ x1 : Nat, (((x1 ≤ t.length * t.length * t.length)∧(cocN t p c = List.all (List.range' x1 (t.length * t.length * t.length - x1)) fun (i : Nat) => decide (Int.tmod (dotN (crF t p i) c (t.length * t.length)) p = (0:Int)))) → (BrP (decide ((↑x1:Int) < (↑(t.length * t.length * t.length):Int))) ((inB (↑x1:Int) ((crows t p).length))∧(((((2:Int) ≤ p)∧((p ≤ (7:Int))∧((((crows t p).getD ((↑x1:Int).toNat) []).length ≤ (512:Nat))∧((((crows t p).getD ((↑x1:Int).toNat) []).length = c.length)∧((allW (0:Int) (p - (1:Int)) ((crows t p).getD ((↑x1:Int).toNat) []) = true)∧(allW (0:Int) (p - (1:Int)) c = true))))))∧True)∧(BrP (Int.tmod (dotN ((crows t p).getD ((↑x1:Int).toNat) []) c (((crows t p).getD ((↑x1:Int).toNat) []).length)) p != (0:Int)) (((false = (cocC t p c).1)∧(((0:Int) = (cocC t p c).2)∧True))∧True) ((InR ((↑x1:Int) + (1:Int)))∧(∃ x2 : Nat, (((x2 ≤ t.length * t.length * t.length) ∧
 (cocN t p c = List.all (List.range' x2 (t.length * t.length * t.length - x2)) fun (i : Nat) => decide (Int.tmod (dotN (crF t p i) c (t.length * t.length)) p = (0:Int))))∧((t.length * t.length * t.length - x2 < t.length * t.length * t.length - x1)∧((p = p)∧((c = c)∧(((↑(t.length * t.length * t.length):Int) = (↑(t.length * t.length * t.length):Int))∧(((↑x1:Int) + (1:Int) = (↑x2:Int))∧(crows t p = crows t p)))))))))))) (((true = (cocC t p c).1)∧(((0:Int) = (cocC t p c).2)∧True))∧True))))))))
theorem iCoc_vc (t : List (List Int)) (p : Int) (c : List Int) : runF Tryz.prog (gam iCoc_G) noWr (iCoc_ann t p c) Tryz.f6 (bodyOf Tryz.f6) [] [.agg [.rows .i64 (t)], .c (.int .i64 (p)), .c (.ints .i64 (c))] (iCoc_p t p c) = iCoc_V t p c := by kernel_rfl
theorem iCoc_ok (t : List (List Int)) (p : Int) (c : List Int) (hpre : (iCoc_p t p c).pre) : iCoc_V t p c := by
  simp only [iCoc_p, iCoc_V, BrP_iff, u1, u2, u3, u4, u5, u6, u7, u8, u9, v1, v2, v3, v4, v5, v6, v7, v8, v9, w1, w2, w3, w4, markL_length, inB, InR, room, bdsOk] at hpre ⊢
  refine ⟨hpre, fun h => cocC_no rfl h, fun h0 => ?_⟩
  obtain ⟨h1, h2, h3, h4, h5⟩ := chC_ok h0
  have hT := rackB_tab h1
  obtain ⟨n1, n2, ht⟩ := tabB_of hT
  have hp := primeB_le h2
  obtain ⟨c1, c2, c3⟩ := chB_of h4
  have c4 : c.length = t.length * t.length := by rw [c1]; exact Nat.pow_two _
  have q2 := sq_le n2
  have q3 := cu_le n2
  refine ⟨⟨hT, hp.1, hp.2⟩, ⟨0, ⟨by omega, by rw [cocN, List.range_eq_range', Nat.sub_zero]⟩, by rw [crows_length], rfl⟩, fun i ⟨hi, he⟩ => ⟨fun h => ?_, fun h => cocC_yes h0 (by rw [he]; exact rg_end _ (by omega))⟩⟩
  rw [crows_length, crows_getD t p i (by omega), crF_length]
  rw [rg_step _ (by omega)] at he
  refine ⟨by omega, ⟨hp.1, hp.2, by omega, by omega, inP_allW (ptF_in t hp.1 _ _), c3⟩, fun h6 => cocC_yes h0 ?_, fun h6 => ⟨by omega, i + 1, ⟨by omega, ?_⟩, by omega, by omega⟩⟩
  · rw [he, decide_eq_false h6, Bool.false_and]
  · rw [he, decide_eq_true h6, Bool.true_and]
theorem iCoc_fits : Fits Tryz.prog 6 ⟨[], iCoc_ct⟩ := by
  refine ffn (Γ := gam iCoc_G) (gok_cons checkChain_fits (gok_cons cocycleRows_fits (gok_cons pairing_fits gok_nil))) Tryz.func6 fun ds p h hp => ?_
  unfold iCoc_ct at h
  split at h
  · cases h
    exact ⟨noWr, iCoc_ann _ _ _ , by rw [iCoc_vc]; exact iCoc_ok _ _ _  hp⟩
  · cases h
def sCoc_p (t : List (List Int)) (p : Int) (c : List Int) : Post := ⟨roomR t ∧ c.length ≤ 1099511627776, .tup [.inl (.bool ((cocC t p c).1)), .inl (.int .i64 ((cocC t p c).2))], []⟩
def sCoc_ct : List AD → Option Post
  | [.agg [.rows .i64 (t)], .c (.int .i64 (p)), .c (.ints .i64 (c))] => some (sCoc_p t p c)
  | _ => none
def sCoc_ann (t : List (List Int)) (p : Int) (c : List Int) : Nat → Option Ann
  | 0 => some (Ann.mk ((Nat)) (fun i => ⟨[(1, .c (.int .i64 (p))), (2, .c (.ro (.ints .i64 (c)))), (3, .c (.ptr 3 0)), (9, .c (.int .i64 ((t.length : Int)))), (10, .c (.int .i64 ((i : Int))))], [(3, some (.box [.ro (.rows .i64 (t))]))]⟩) (fun i => i ≤ t.length * t.length * t.length ∧ cocN t p c = (List.range' i (t.length * t.length * t.length - i)).all fun i => decide ((dotN (crF t p i) c (t.length * t.length)).tmod p = 0)) (fun i => t.length * t.length * t.length - i) (fun _ => noAnn))
  | _ => none
def sCoc_G : List (Nat × Ctr) := [(29, ⟨[], l15Code_ct⟩), (30, ⟨[], l15Chain_ct⟩), (33, ⟨[], l15Tuple_ct⟩), (32, ⟨[], l15Tuples_ct⟩), (31, ⟨[], l15Pair_ct⟩)]
def sCoc_c1 (t : List (List Int)) (x0 : Nat) := (digN (↑(t.length):Int) ((3:Int).toNat) (↑x0:Int))
def sCoc_V1 (t : List (List Int)) (p : Int) (c : List Int) : Prop :=
 BrP (dgC t p (2:Int) != (0:Int)) (((false = (cocC t p c).1)∧((dgC t p (2:Int) = (cocC t p c).2)∧True))∧True) ((∃ x0 : Nat, (((x0 ≤ t.length * t.length * t.length)∧(cocN t p c = List.all (List.range' x0 (t.length * t.length * t.length - x0)) fun (i : Nat) => decide (Int.tmod (dotN (crF t p i) c (t.length * t.length)) p = (0:Int))))∧((p = p)∧((c = c)∧(((↑(t.length):Int) = (↑(t.length):Int))∧(((0:Int) = (↑x0:Int))∧(t = t)))))))∧(∀ x1 : Nat, (((x1 ≤ t.length * t.length * t.length)∧(cocN t p c = List.all (List.range' x1 (t.length * t.length * t.length - x1)) fun (i : Nat) => decide (Int.tmod (dotN (crF t p i) c (t.length * t.length)) p = (0:Int)))) → ((InR ((↑(t.length):Int) * (↑(t.length):Int)))∧((InR ((↑(t.length):Int) * (↑(t.length):Int) * (↑(t.length):Int)))∧(BrP (decide ((↑x1:Int) < (↑(t.length):Int) * (↑(t.length):Int) * (↑(t.length):Int))) (((((1:Int) ≤ (↑(t.length):Int))∧(((0:Int) ≤ (3:Int))∧(((3:Int) ≤ (1000:Int))∧(((0:Int) ≤ (↑x1:Int))∧((↑x1:Int) ≤ (1000000:Int))))))∧True)∧((((bdOk t p (sCoc_c1 t x1))∧((1:Nat) ≤ (sCoc_c1 t x1).length))∧True)∧(((((2:Int) ≤ p)∧((p ≤ (7:Int))∧(((ptF t p (sCoc_c1 t x1) ((sCoc_c1 t x1).length)).length ≤ (512:Nat))∧(((ptF t p (sCoc_c1 t x1) ((sCoc_c1 t x1).length)).length = c.length)∧((allW (0:Int) (p - (1:Int)) (ptF t p (sCoc_c1 t x1) ((sCoc_c1 t x1).length)) = true)∧(allW (0:Int) (p - (1:Int)) c = true))))))∧True) ∧
 (BrP (Int.tmod (dotN (ptF t p (digN (↑(t.length):Int) ((3:Int).toNat) (↑x1:Int)) ((digN (↑(t.length):Int) ((3:Int).toNat) (↑x1:Int)).length)) c ((ptF t p (digN (↑(t.length):Int) ((3:Int).toNat) (↑x1:Int)) ((digN (↑(t.length):Int) ((3:Int).toNat) (↑x1:Int)).length)).length)) p != (0:Int)) (((false = (cocC t p c).1)∧(((0:Int) = (cocC t p c).2)∧True))∧True) ((InR ((↑x1:Int) + (1:Int)))∧(∃ x2 : Nat, (((x2 ≤ t.length * t.length * t.length)∧(cocN t p c = List.all (List.range' x2 (t.length * t.length * t.length - x2)) fun (i : Nat) => decide (Int.tmod (dotN (crF t p i) c (t.length * t.length)) p = (0:Int))))∧((t.length * t.length * t.length - x2 < t.length * t.length * t.length - x1)∧((p = p)∧((c = c)∧(((↑(t.length):Int) = (↑(t.length):Int))∧(((↑x1:Int) + (1:Int) = (↑x2:Int))∧(t = t))))))))))))) (((true = (cocC t p c).1)∧(((0:Int) = (cocC t p c).2)∧True))∧True)))))))
def sCoc_V (t : List (List Int)) (p : Int) (c : List Int) : Prop :=
 (((roomR t)∧True)∧(BrP (dgC t p (2:Int) == (0:Int)) (((((1:Int) ≤ (↑(t.length):Int))∧(((↑(t.length):Int) ≤ (12:Int))∧((degB (↑(t.length):Int) (2:Int) = true)∧(((2:Int) ≤ p)∧((p ≤ (7:Int))∧(c.length ≤ (1099511627776:Nat)))))))∧True)∧(BrP (!(decide ((↑(c.length):Int) = (↑(t.length):Int) ^ (2:Int).toNat) && allW (0:Int) (p - (1:Int)) c)) (((false = (cocC t p c).1)∧(((2:Int) = (cocC t p c).2)∧True))∧True) (sCoc_V1 t p c))) (sCoc_V1 t p c)))
theorem sCoc_vc (t : List (List Int)) (p : Int) (c : List Int) : runF Tryz.prog (gam sCoc_G) noWr (sCoc_ann t p c) Tryz.f7 (bodyOf Tryz.f7) [] [.agg [.rows .i64 (t)], .c (.int .i64 (p)), .c (.ints .i64 (c))] (sCoc_p t p c) = sCoc_V t p c := by kernel_rfl
theorem sCoc_ok (t : List (List Int)) (p : Int) (c : List Int) (hpre : (sCoc_p t p c).pre) : sCoc_V t p c := by
  simp only [sCoc_p, sCoc_V, sCoc_V1, sCoc_c1, BrP_iff, u1, u2, u3, u4, u5, u6, u7, u8, u9, v1, v2, v3, v4, v5, v6, v7, v8, v9, w1, w2, w3, w4, markL_length, inB, InR, room, bdsOk] at hpre ⊢
  obtain ⟨hr, hl⟩ := hpre
  refine ⟨hr, fun h0 => ?_, fun h0 => ⟨fun _ => ?_, fun h => absurd h h0⟩⟩
  · obtain ⟨h1, h2, h3, h4⟩ := dgC_ok h0
    have hT := rackB_tab h1
    obtain ⟨n1, n2, ht⟩ := tabB_of hT
    have hp := primeB_le h2
    have q2 := sq_le n2
    have q3 := cu_le n2
    refine ⟨⟨by omega, by omega, h3, hp.1, hp.2, hl⟩, fun h5 => ?_, fun h5 => ⟨fun h => absurd h0 h, fun _ => ?_⟩⟩
    · have h5 : chB t p 2 c = false := h5
      exact cocC_no (by rw [chC, if_pos h1, if_pos h4, if_neg (by rw [h5]; decide)]) (by omega)
    · have h5 : chB t p 2 c = true := h5
      have hz : chC t p 2 c = 0 := by rw [chC, if_pos h1, if_pos h4, if_pos h5]
      obtain ⟨c1, c2, c3⟩ := chB_of h5
      have c4 : c.length = t.length * t.length := by rw [c1]; exact Nat.pow_two _
      simp only [← Int.natCast_mul]
      refine ⟨⟨0, ⟨by omega, by rw [cocN, List.range_eq_range', Nat.sub_zero]⟩, rfl⟩, fun i ⟨hi, he⟩ => ⟨by omega, by omega, fun h => ?_, fun h => cocC_yes hz (by rw [he]; exact rg_end _ (by omega))⟩⟩
      have hx : bdOk t p (digN t.length 3 (i : Int)) := dig_ok hT hp.1 hp.2 (by omega) (sq_512 hT) (by omega)
      have hlen : (digN t.length (Int.toNat 3) (i : Int)).length = 3 := digN_length _ _ _
      rw [hlen]
      have er : ptF t p (digN t.length (Int.toNat 3) (i : Int)) 3 = crF t p i := rfl
      rw [er, crF_length]
      rw [rg_step _ (by omega)] at he
      refine ⟨by omega, ⟨hx, by omega⟩, ⟨hp.1, hp.2, by omega, by omega, inP_allW (ptF_in t hp.1 _ _), c3⟩, fun h6 => cocC_yes hz ?_, fun h6 => ⟨by omega, i + 1, ⟨by omega, ?_⟩, by omega, by omega⟩⟩
      · rw [he, decide_eq_false h6, Bool.false_and]
      · rw [he, decide_eq_true h6, Bool.true_and]
  · exact cocC_no (dgC_no c h0).symm h0
theorem sCoc_fits : Fits Tryz.prog 7 ⟨[], sCoc_ct⟩ := by
  refine ffn (Γ := gam sCoc_G) (gok_cons l15Code_fits (gok_cons l15Chain_fits (gok_cons l15Tuple_fits (gok_cons l15Tuples_fits (gok_cons l15Pair_fits gok_nil))))) Tryz.func7 fun ds p h hp => ?_
  unfold sCoc_ct at h
  split at h
  · cases h
    exact ⟨noWr, sCoc_ann _ _ _ , by rw [sCoc_vc]; exact sCoc_ok _ _ _  hp⟩
  · cases h
end Go.Sx
end
section
section
open Go Go.Proofs
namespace Go.Sx
set_option linter.unusedSimpArgs false
set_option linter.unusedVariables false
end Go.Sx
end
section
open Go Go.Proofs
namespace Go.Sx
set_option linter.unusedSimpArgs false
set_option linter.unusedVariables false
def cnOk (t : List (List Int)) (p k : Int) (c : List Int) : Prop := tabB t = true ∧ 2 ≤ p ∧ p ≤ 7 ∧ 1 ≤ k ∧ degB t.length k = true ∧ inP p c ∧ c.length = t.length ^ k.toNat
theorem bdF_length (t : List (List Int)) (p : Int) (k : Nat) (c : List Int) : ∀ i, (bdF t p k c i).length = t.length ^ (k - 1)
  | 0 => by simp [bdF]
  | i + 1 => by
    simp only [bdF]
    split
    · exact bdF_length t p k c i
    · rw [stF_length, bdF_length t p k c i]
theorem bdF_in (t : List (List Int)) {p : Int} (hp : 2 ≤ p) (k : Nat) {c : List Int} (hc : inP p c) : ∀ i, i ≤ c.length → inP p (bdF t p k c i)
  | 0, _ => rep_in (by omega) _
  | i + 1, h => by
    have ih := bdF_in t hp k hc i (by omega)
    simp only [bdF]
    split
    · exact ih
    · refine stF_in (by omega) (hc i (by omega)).1 (by rw [bdF_length, ptF_length, digN_length]) (ptF_in t hp _ _) ih
theorem deg_sub {t : List (List Int)} (h1 : tabB t = true) {k : Int} (hk : 1 ≤ k) (hd : degB t.length k = true) : degB t.length (k - 1) = true ∧ (t.length : Int) ^ (k.toNat - 1) ≤ 512 ∧ k ≤ 1000 ∧ (t.length : Int) ^ k.toNat ≤ 512 ∧ (k - 1).toNat = k.toNat - 1 := by
  have d := degB_of hd
  have hn := (tabB_of h1).1
  have := pow_le (n := (t.length : Int)) (by omega) (show k.toNat - 1 ≤ k.toNat by omega)
  have e : (k - 1).toNat = k.toNat - 1 := by omega
  refine ⟨?_, by omega, by omega, by omega, e⟩
  simp only [degB, Bool.and_eq_true, decide_eq_true_eq]
  rw [e]
  omega
def boundaryOf_p (t : List (List Int)) (p : Int) (k : Int) (c : List Int) : Post := ⟨cnOk t p k c, .c (.ints 2 .i64 (bdF t p k.toNat c c.length)), []⟩
def boundaryOf_ct : List AD → Option Post
  | [.c (.rows .i64 (t)), .c (.int .i64 (p)), .c (.int .i64 (k)), .c (.ints .i64 (c))] => some (boundaryOf_p t p k c)
  | _ => none
def boundaryOf_ann (t : List (List Int)) (p : Int) (k : Int) (c : List Int) : Nat → Option Ann
  | 0 => some (Ann.mk ((Nat)) (fun i => ⟨[(0, .c (.ro (.rows .i64 (t)))), (1, .c (.int .i64 (p))), (2, .c (.int .i64 (k))), (9, .c (.int .i64 ((t.length : Int)))), (10, .c (.own (19))), (20, .c (.ro (.ints .i64 (c)))), (21, .c (.int .i64 ((c.length : Int)))), (22, .c (.int .i64 ((i : Int))))], [(19, some (.ints 2 .i64 (bdF t p k.toNat c i)))]⟩) (fun i => i ≤ c.length) (fun i => c.length - i) (fun _ => noAnn))
  | _ => none
def boundaryOf_G : List (Nat × Ctr) := [(62, ⟨[], tuplesOf_ct⟩), (64, ⟨[], tupleOf_ct⟩), (63, ⟨[(4, 0)], addBoundary_ct⟩)]
def boundaryOf_V (t : List (List Int)) (p : Int) (k : Int) (c : List Int) : Prop :=
 ((InR (k - (1:Int)))∧(((((1:Int) ≤ (↑(t.length):Int))∧(((↑(t.length):Int) ≤ (12:Int))∧(degB (↑(t.length):Int) (k - (1:Int)) = true)))∧True)∧((((0:Int) ≤ (↑(t.length):Int) ^ (k - (1:Int)).toNat)∧(((↑(t.length):Int) ^ (k - (1:Int)).toNat ≤ (↑(t.length):Int) ^ (k - (1:Int)).toNat)∧(room (((↑(t.length):Int) ^ (k - (1:Int)).toNat).toNat))))∧((∃ x0 : Nat, ((x0 ≤ c.length)∧((t = t)∧((p = p)∧((k = k)∧(((↑(t.length):Int) = (↑(t.length):Int))∧((c = c)∧(((↑(c.length):Int) = (↑(c.length):Int))∧(((0:Int) = (↑x0:Int))∧(List.replicate (((↑(t.length):Int) ^ (k - (1:Int)).toNat).toNat) (0:Int) = bdF t p (k.toNat) c x0))))))))))∧(∀ x1 : Nat, ((x1 ≤ c.length) → (BrP (decide ((↑x1:Int) < (↑(c.length):Int))) ((inB (↑x1:Int) (c.length))∧(BrP (c.getD ((↑x1:Int).toNat) (0:Int) != (0:Int)) (((((1:Int) ≤ (↑(t.length):Int))∧(((0:Int) ≤ k)∧((k ≤ (1000:Int))∧(((0:Int) ≤ (↑x1:Int))∧((↑x1:Int) ≤ (1000000:Int))))))∧True)∧((((bdOk t p (digN (↑(t.length):Int) (k.toNat) (↑x1:Int)))∧(((0:Int) ≤ c.getD ((↑x1:Int).toNat) (0:Int))∧((c.getD ((↑x1:Int).toNat) (0:Int) ≤ p - (1:Int))∧((inP p (bdF t p (k.toNat) c x1))∧((bdF t p (k.toNat) c x1).length = t.length ^ ((digN (↑(t.length):Int) (k.toNat) (↑x1:Int)).length - (1:Nat)))))))∧(((adF t p (digN (↑(t.length):Int) (k.toNat) (↑x1:Int)) (c.getD ((↑x1:Int).toNat) (0:Int)) (bdF t p (k.toNat) c x1) ((digN (↑(t.length):Int) (k.toNat) (↑x1:Int)).length)).length = (bdF t p (k.toNat) c x1).length)∧True))∧((InR ((↑x1:Int) + (1:Int)))∧(∃ x2 : Nat, ((x2 ≤ c.length) ∧
 ((c.length - x2 < c.length - x1)∧((t = t)∧((p = p)∧((k = k)∧(((↑(t.length):Int) = (↑(t.length):Int))∧((c = c)∧(((↑(c.length):Int) = (↑(c.length):Int))∧(((↑x1:Int) + (1:Int) = (↑x2:Int))∧(adF t p (digN (↑(t.length):Int) (k.toNat) (↑x1:Int)) (c.getD ((↑x1:Int).toNat) (0:Int)) (bdF t p (k.toNat) c x1) ((digN (↑(t.length):Int) (k.toNat) (↑x1:Int)).length) = bdF t p (k.toNat) c x2)))))))))))))) ((InR ((↑x1:Int) + (1:Int)))∧(∃ x3 : Nat, ((x3 ≤ c.length)∧((c.length - x3 < c.length - x1)∧((t = t)∧((p = p)∧((k = k)∧(((↑(t.length):Int) = (↑(t.length):Int))∧((c = c)∧(((↑(c.length):Int) = (↑(c.length):Int))∧(((↑x1:Int) + (1:Int) = (↑x3:Int))∧(bdF t p (k.toNat) c x1 = bdF t p (k.toNat) c x3)))))))))))))) ((bdF t p (k.toNat) c x1 = bdF t p (k.toNat) c (c.length))∧True))))))))
theorem boundaryOf_vc (t : List (List Int)) (p : Int) (k : Int) (c : List Int) : runF Tryz.prog (gam boundaryOf_G) noWr (boundaryOf_ann t p k c) Tryz.f37 (bodyOf Tryz.f37) [] [.c (.rows .i64 (t)), .c (.int .i64 (p)), .c (.int .i64 (k)), .c (.ints .i64 (c))] (boundaryOf_p t p k c) = boundaryOf_V t p k c := by kernel_rfl
theorem boundaryOf_ok (t : List (List Int)) (p : Int) (k : Int) (c : List Int) (hpre : (boundaryOf_p t p k c).pre) : boundaryOf_V t p k c := by
  simp only [boundaryOf_p, boundaryOf_V, BrP_iff, u1, u2, u3, u4, u5, u6, u7, u8, u9, v1, v2, v3, v4, v5, v6, v7, v8, v9, w1, w2, w3, w4, markL_length, inB, InR, room, bdsOk] at hpre ⊢
  obtain ⟨h1, p1, p2, hk, hd, hc, hcl⟩ := hpre
  obtain ⟨n1, n2, ht⟩ := tabB_of h1
  obtain ⟨d1, d2, d3, d4, d5⟩ := deg_sub h1 hk hd
  have eN : (t.length : Int) ^ (k.toNat - 1) = ((t.length ^ (k.toNat - 1) : Nat) : Int) := (Int.natCast_pow _ _).symm
  have eC : (c.length : Int) = (t.length : Int) ^ k.toNat := by rw [hcl, Int.natCast_pow]
  rw [d5, eN, Int.toNat_natCast]
  rw [eN] at d2
  refine ⟨by omega, ⟨by omega, by omega, d1⟩, by omega, ⟨0, by omega, rfl, rfl⟩, fun i hi => ⟨fun h => ⟨by omega, fun h2 => ?_, fun h2 => ⟨by omega, i + 1, by omega, by omega, by omega, by rw [bdF, if_pos h2]⟩⟩, fun h => by rw [show i = c.length by omega]⟩⟩
  have ci := hc i (by omega)
  have hx : bdOk t p (digN t.length k.toNat (i : Int)) := dig_ok h1 p1 p2 (by omega) (by rw [eN]; omega) (by omega)
  have hb := bdF_in t p1 k.toNat hc i hi
  have hl := bdF_length t p k.toNat c i
  rw [digN_length, adF_length]
  refine ⟨by omega, ⟨⟨hx, ci.1, ci.2, hb, hl⟩, rfl⟩, by omega, i + 1, by omega, by omega, by omega, ?_⟩
  rw [bdF, if_neg h2, ad_eq p1 ci hb (by rw [digN_length, hl])]
theorem boundaryOf_fits : Fits Tryz.prog 37 ⟨[], boundaryOf_ct⟩ := by
  refine ffn (Γ := gam boundaryOf_G) (gok_cons tuplesOf_fits (gok_cons tupleOf_fits (gok_cons addBoundary_fits gok_nil))) Tryz.func37 fun ds p h hp => ?_
  unfold boundaryOf_ct at h
  split at h
  · cases h
    exact ⟨noWr, boundaryOf_ann _ _ _ _ , by rw [boundaryOf_vc]; exact boundaryOf_ok _ _ _ _  hp⟩
  · cases h
def rbC (t : List (List Int)) (p k : Int) (c : List Int) : List Int × Int :=
  if chC t p k c = 0 then (if k = 0 then ([], 2) else (bdF t p k.toNat c c.length, 0)) else ([], chC t p k c)
theorem rbC_no {t : List (List Int)} {p k : Int} {c : List Int} {z : Int} (h : chC t p k c = z) (hz : z ≠ 0) : [] = (rbC t p k c).1 ∧ z = (rbC t p k c).2 := by
  rw [rbC, if_neg (by omega)]; exact ⟨rfl, h.symm⟩
theorem rbC_zero {t : List (List Int)} {p k : Int} {c : List Int} (h : chC t p k c = 0) (hk : k = 0) : [] = (rbC t p k c).1 ∧ 2 = (rbC t p k c).2 := by
  rw [rbC, if_pos h, if_pos hk]; exact ⟨rfl, rfl⟩
theorem rbC_yes {t : List (List Int)} {p k : Int} {c : List Int} (h : chC t p k c = 0) (hk : k ≠ 0) : bdF t p k.toNat c c.length = (rbC t p k c).1 ∧ 0 = (rbC t p k c).2 := by
  rw [rbC, if_pos h, if_neg hk]; exact ⟨rfl, rfl⟩
theorem ch_cnOk {t : List (List Int)} {p k : Int} {c : List Int} (h : chC t p k c = 0) (hk : k ≠ 0) : cnOk t p k c := by
  obtain ⟨h1, h2, h3, h4, h5⟩ := chC_ok h
  have hp := primeB_le h2
  have hd := degB_of h3
  obtain ⟨c1, c2, c3⟩ := chB_of h4
  exact ⟨rackB_tab h1, hp.1, hp.2, by omega, h3, c2, c1⟩
def iRB_p (t : List (List Int)) (p : Int) (k : Int) (c : List Int) : Post := ⟨roomR t ∧ c.length ≤ 1099511627776, .tup [.inl (.ints 2 .i64 ((rbC t p k c).1)), .inl (.int .i64 ((rbC t p k c).2))], []⟩
def iRB_ct : List AD → Option Post
  | [.agg [.rows .i64 (t)], .c (.int .i64 (p)), .c (.int .i64 (k)), .c (.ints .i64 (c))] => some (iRB_p t p k c)
  | _ => none
def iRB_G : List (Nat × Ctr) := [(26, ⟨[], checkChain_ct⟩), (37, ⟨[], boundaryOf_ct⟩)]
def iRB_V (t : List (List Int)) (p : Int) (k : Int) (c : List Int) : Prop :=
 ((((roomR t)∧(c.length ≤ (1099511627776:Nat)))∧True)∧(BrP (chC t p k c != (0:Int)) ((([] = (rbC t p k c).1)∧((chC t p k c = (rbC t p k c).2)∧True))∧True) (BrP (k == (0:Int)) ((([] = (rbC t p k c).1)∧(((2:Int) = (rbC t p k c).2)∧True))∧True) (((cnOk t p k c)∧True)∧(((bdF t p (k.toNat) c (c.length) = (rbC t p k c).1)∧(((0:Int) = (rbC t p k c).2)∧True))∧True)))))
theorem iRB_vc (t : List (List Int)) (p : Int) (k : Int) (c : List Int) : runF Tryz.prog (gam iRB_G) noWr noAnn Tryz.f10 (bodyOf Tryz.f10) [] [.agg [.rows .i64 (t)], .c (.int .i64 (p)), .c (.int .i64 (k)), .c (.ints .i64 (c))] (iRB_p t p k c) = iRB_V t p k c := by kernel_rfl
theorem iRB_ok (t : List (List Int)) (p : Int) (k : Int) (c : List Int) (hpre : (iRB_p t p k c).pre) : iRB_V t p k c := by
  simp only [iRB_p, iRB_V, BrP_iff, u1, u2, u3, u4, u5, u6, u7, u8, u9, v1, v2, v3, v4, v5, v6, v7, v8, v9, w1, w2, w3, w4, markL_length, inB, InR, room, bdsOk] at hpre ⊢
  refine ⟨hpre, fun h => rbC_no rfl h, fun h => ⟨fun h2 => rbC_zero h h2, fun h2 => ⟨ch_cnOk h h2, rbC_yes h h2⟩⟩⟩
theorem iRB_fits : Fits Tryz.prog 10 ⟨[], iRB_ct⟩ := by
  refine ffn (Γ := gam iRB_G) (gok_cons checkChain_fits (gok_cons boundaryOf_fits gok_nil)) Tryz.func10 fun ds p h hp => ?_
  unfold iRB_ct at h
  split at h
  · cases h
    exact ⟨noWr, noAnn, by rw [iRB_vc]; exact iRB_ok _ _ _ _  hp⟩
  · cases h
end Go.Sx
end
section
open Go Go.Proofs
namespace Go.Sx
set_option linter.unusedSimpArgs false
set_option linter.unusedVariables false
end Go.Sx
end
section
open Go Go.Proofs
namespace Go.Sx
set_option linter.unusedSimpArgs false
set_option linter.unusedVariables false
def flB (x : List Int) : Bool := !((List.range (x.length - 1)).all fun i => decide (x.getD (i + 1) 0 ≠ x.getD i 0))
def isDegenerate_p (x : List Int) : Post := ⟨x.length ≤ 1000, .c (.bool (flB x)), []⟩
def isDegenerate_ct : List AD → Option Post
  | [.c (.ints .i64 (x))] => some (isDegenerate_p x)
  | _ => none
def isDegenerate_ann (x : List Int) : Nat → Option Ann
  | 0 => some (Ann.mk ((Nat)) (fun i => ⟨[(0, .c (.ro (.ints .i64 (x)))), (3, .c (.int .i64 ((i : Int) + 1)))], []⟩) (fun i => i ≤ x.length ∧ flB x = !((List.range' i (x.length - 1 - i)).all fun i => decide (x.getD (i + 1) 0 ≠ x.getD i 0))) (fun i => x.length - i) (fun _ => noAnn))
  | _ => none
def isDegenerate_G : List (Nat × Ctr) := []
def isDegenerate_V (x : List Int) : Prop :=
 ((∃ x0 : Nat, (((x0 ≤ x.length)∧(flB x = !List.all (List.range' x0 (x.length - (1:Nat) - x0)) fun (i : Nat) => decide (x.getD (i + (1:Nat)) (0:Int) ≠ x.getD i (0:Int))))∧((x = x)∧((1:Int) = (↑x0:Int) + (1:Int)))))∧(∀ x1 : Nat, (((x1 ≤ x.length)∧(flB x = !List.all (List.range' x1 (x.length - (1:Nat) - x1)) fun (i : Nat) => decide (x.getD (i + (1:Nat)) (0:Int) ≠ x.getD i (0:Int)))) → (BrP (decide ((↑x1:Int) + (1:Int) < (↑(x.length):Int))) ((inB ((↑x1:Int) + (1:Int)) (x.length))∧((InR ((↑x1:Int) + (1:Int) - (1:Int)))∧((inB ((↑x1:Int) + (1:Int) - (1:Int)) (x.length))∧(BrP (x.getD (((↑x1:Int) + (1:Int)).toNat) (0:Int) == x.getD (((↑x1:Int) + (1:Int) - (1:Int)).toNat) (0:Int)) ((true = flB x)∧True) ((InR ((↑x1:Int) + (1:Int) + (1:Int)))∧(∃ x2 : Nat, (((x2 ≤ x.length)∧(flB x = !List.all (List.range' x2 (x.length - (1:Nat) - x2)) fun (i : Nat) => decide (x.getD (i + (1:Nat)) (0:Int) ≠ x.getD i (0:Int))))∧((x.length - x2 < x.length - x1)∧((x = x)∧((↑x1:Int) + (1:Int) + (1:Int) = (↑x2:Int) + (1:Int))))))))))) ((false = flB x)∧True)))))
theorem isDegenerate_vc (x : List Int) : runF Tryz.prog (gam isDegenerate_G) noWr (isDegenerate_ann x) Tryz.f86 (bodyOf Tryz.f86) [] [.c (.ints .i64 (x))] (isDegenerate_p x) = isDegenerate_V x := by kernel_rfl
theorem isDegenerate_ok (x : List Int) (hpre : (isDegenerate_p x).pre) : isDegenerate_V x := by
  simp only [isDegenerate_p, isDegenerate_V, BrP_iff, u1, u2, u3, u4, u5, u6, u7, u8, u9, v1, v2, v3, v4, v5, v6, v7, v8, v9, w1, w2, w3, w4, markL_length, inB, InR, room, bdsOk] at hpre ⊢
  refine ⟨⟨0, ⟨by omega, by rw [flB, rg_start, Nat.sub_zero]⟩, by omega⟩, fun i ⟨hi, he⟩ => ⟨fun h => ?_, fun h => ?_⟩⟩
  · rw [rg_step _ (by omega)] at he
    rw [show ((i : Int) + 1).toNat = i + 1 by omega, show ((i : Int) + 1 - 1).toNat = i by omega]
    refine ⟨by omega, by omega, by omega, fun h2 => ?_, fun h2 => ⟨by omega, i + 1, ⟨by omega, ?_⟩, by omega, by omega⟩⟩
    · rw [he, decide_eq_false (by rw [h2]; simp)]; rfl
    · rw [he, decide_eq_true h2, Bool.true_and]
  · rw [he, rg_end _ (by omega)]; rfl
theorem isDegenerate_fits : Fits Tryz.prog 86 ⟨[], isDegenerate_ct⟩ := by
  refine ffn (Γ := gam isDegenerate_G) gok_nil Tryz.func86 fun ds p h hp => ?_
  unfold isDegenerate_ct at h
  split at h
  · cases h
    exact ⟨noWr, isDegenerate_ann _ , by rw [isDegenerate_vc]; exact isDegenerate_ok _  hp⟩
  · cases h
def clrN (n k : Int) (c : List Int) (i : Nat) : List Int := tab c.length fun q => if q < i ∧ flB (digN n k.toNat (q : Int)) = true then 0 else c.getD q 0
theorem clrN_length (n k : Int) (c : List Int) (i : Nat) : (clrN n k c i).length = c.length := tab_length _ _
theorem clrN_zero (n k : Int) (c : List Int) : clrN n k c 0 = c := by
  conv => rhs; rw [eq_tab c]
  exact tab_ext fun q _ => if_neg (by omega)
theorem clrN_yes {n k : Int} {c : List Int} {i : Nat} (h : flB (digN n k.toNat (i : Int)) = true) : (clrN n k c i).set i 0 = clrN n k c (i + 1) := by
  rw [clrN, tab_set]
  refine tab_ext fun q _ => ?_
  by_cases hq : q = i
  · subst hq; rw [if_pos rfl, if_pos ⟨by omega, h⟩]
  · rw [if_neg hq]
    by_cases h2 : q < i ∧ flB (digN n k.toNat (q : Int)) = true
    · rw [if_pos h2, if_pos ⟨by omega, h2.2⟩]
    · rw [if_neg h2, if_neg fun h3 => h2 ⟨by omega, h3.2⟩]
theorem clrN_no {n k : Int} {c : List Int} {i : Nat} (h : flB (digN n k.toNat (i : Int)) = false) : clrN n k c i = clrN n k c (i + 1) := by
  refine tab_ext fun q _ => ?_
  by_cases hq : q = i
  · subst hq; rw [if_neg (by omega), if_neg (by rw [h]; simp)]
  · by_cases h2 : q < i ∧ flB (digN n k.toNat (q : Int)) = true
    · rw [if_pos h2, if_pos ⟨by omega, h2.2⟩]
    · rw [if_neg h2, if_neg fun h3 => h2 ⟨by omega, h3.2⟩]
def withoutDegenerate_p (n : Int) (k : Int) (c : List Int) : Post := ⟨1 ≤ n ∧ 0 ≤ k ∧ k ≤ 1000 ∧ c.length ≤ 1000000, .tup [], [.ints 2 .i64 (clrN n k c c.length)]⟩
def withoutDegenerate_ct : List AD → Option Post
  | [.c (.int .i64 (n)), .c (.int .i64 (k)), .c (.ints .i64 (c))] => some (withoutDegenerate_p n k c)
  | _ => none
def withoutDegenerate_ann (n : Int) (k : Int) (c : List Int) : Nat → Option Ann
  | 0 => some (Ann.mk ((Nat)) (fun i => ⟨[(0, .c (.int .i64 (n))), (1, .c (.int .i64 (k))), (2, .c (.own (732))), (8, .c (.int .i64 ((c.length : Int)))), (9, .c (.int .i64 ((i : Int))))], [(732, some (.ints 2 .i64 (clrN n k c i)))]⟩) (fun i => i ≤ c.length) (fun i => c.length - i) (fun _ => noAnn))
  | _ => none
def withoutDegenerate_G : List (Nat × Ctr) := [(64, ⟨[], tupleOf_ct⟩), (86, ⟨[], isDegenerate_ct⟩)]
def withoutDegenerate_V (n : Int) (k : Int) (c : List Int) : Prop :=
 ((∃ x0 : Nat, ((x0 ≤ c.length)∧((n = n)∧((k = k)∧(((↑(c.length):Int) = (↑(c.length):Int))∧(((0:Int) = (↑x0:Int))∧(c = clrN n k c x0)))))))∧(∀ x1 : Nat, ((x1 ≤ c.length) → (BrP (decide ((↑x1:Int) < (↑(c.length):Int))) (((((1:Int) ≤ n)∧(((0:Int) ≤ k)∧((k ≤ (1000:Int))∧(((0:Int) ≤ (↑x1:Int))∧((↑x1:Int) ≤ (1000000:Int))))))∧True)∧((((digN n (k.toNat) (↑x1:Int)).length ≤ (1000:Nat))∧True)∧(BrP (flB (digN n (k.toNat) (↑x1:Int))) ((inB (↑x1:Int) ((clrN n k c x1).length))∧((InR ((↑x1:Int) + (1:Int)))∧(∃ x2 : Nat, ((x2 ≤ c.length)∧((c.length - x2 < c.length - x1)∧((n = n)∧((k = k)∧(((↑(c.length):Int) = (↑(c.length):Int))∧(((↑x1:Int) + (1:Int) = (↑x2:Int))∧(List.set (clrN n k c x1) ((↑x1:Int).toNat) (0:Int) = clrN n k c x2)))))))))) ((InR ((↑x1:Int) + (1:Int)))∧(∃ x3 : Nat, ((x3 ≤ c.length)∧((c.length - x3 < c.length - x1)∧((n = n)∧((k = k)∧(((↑(c.length):Int) = (↑(c.length):Int))∧(((↑x1:Int) + (1:Int) = (↑x3:Int))∧(clrN n k c x1 = clrN n k c x3)))))))))))) (True∧((clrN n k c x1 = clrN n k c (c.length))∧True))))))
theorem withoutDegenerate_vc (n : Int) (k : Int) (c : List Int) : runF Tryz.prog (gam withoutDegenerate_G) noWr (withoutDegenerate_ann n k c) Tryz.f87 (bodyOf Tryz.f87) [(2, 0)] [.c (.int .i64 (n)), .c (.int .i64 (k)), .c (.ints .i64 (c))] (withoutDegenerate_p n k c) = withoutDegenerate_V n k c := by kernel_rfl
theorem withoutDegenerate_ok (n : Int) (k : Int) (c : List Int) (hpre : (withoutDegenerate_p n k c).pre) : withoutDegenerate_V n k c := by
  simp only [withoutDegenerate_p, withoutDegenerate_V, BrP_iff, u1, u2, u3, u4, u5, u6, u7, u8, u9, v1, v2, v3, v4, v5, v6, v7, v8, v9, w1, w2, w3, w4, markL_length, inB, InR, room, bdsOk] at hpre ⊢
  obtain ⟨h1, h2, h3, h4⟩ := hpre
  refine ⟨⟨0, by omega, rfl, (clrN_zero n k c).symm⟩, fun i hi => ⟨fun h => ?_, fun h => by rw [show i = c.length by omega]⟩⟩
  rw [digN_length, clrN_length]
  exact ⟨by omega, by omega, fun hf => ⟨by omega, by omega, i + 1, by omega, by omega, by omega, clrN_yes hf⟩, fun hf => ⟨by omega, i + 1, by omega, by omega, by omega, clrN_no hf⟩⟩
theorem withoutDegenerate_fits : Fits Tryz.prog 87 ⟨[(2, 0)], withoutDegenerate_ct⟩ := by
  refine ffn (Γ := gam withoutDegenerate_G) (gok_cons tupleOf_fits (gok_cons isDegenerate_fits gok_nil)) Tryz.func87 fun ds p h hp => ?_
  unfold withoutDegenerate_ct at h
  split at h
  · cases h
    exact ⟨noWr, withoutDegenerate_ann _ _ _ , by rw [withoutDegenerate_vc]; exact withoutDegenerate_ok _ _ _  hp⟩
  · cases h
end Go.Sx
end
end
