/- DrawC -/
import Derived.Test.YtcfbmimjffkgdaaDrawY
import Derived.Test.YtcfbmimjffkgdaaFil
import Derived.Test.YtcfbmimjffkgdaaPair
import Derived.Test.YtcfbmimjffkgdaaCmp
open Go Go.Proofs
namespace Go.Sx
set_option linter.unusedSimpArgs false
set_option linter.unusedVariables false

def primeD (code : List Int) (a h : Int) : Int × Int × Int :=
  let b := nxA code.length a 20
  let g := nxH h 20
  if nxV code a h 20 = 0 then (([4, 1, 11, 0, -2] : List Int).getD (nxV code b g 5).toNat 0, nxA code.length b 5, nxH g 5)
  else (([2, 3, 5, 7, 2, 3] : List Int).getD (nxV code b g 6).toNat 0, nxA code.length b 6, nxH g 6)



def pwV (n k : Int) : Int := if n = 0 then 1 else if n ^ k.toNat ≤ 512 then n ^ k.toNat else 513



def kU (n most : Int) : Nat → Int → Int
  | 0, k => k
  | f + 1, k => if pwV n (k + 1) ≤ most then kU n most f (k + 1) else k

def degD (code : List Int) (a h n most : Int) : Int × Int × Int :=
  let b := nxA code.length a 20
  let g := nxH h 20
  if nxV code a h 20 = 0 then (([-1, 4, 5, 9, 10, 1001] : List Int).getD (nxV code b g 6).toNat 0, nxA code.length b 6, nxH g 6)
  else (nxV code b g (kU n most 4 0 + 1), nxA code.length b (kU n most 4 0 + 1), nxH g (kU n most 4 0 + 1))



theorem degB_of' {n k : Int} (h : degB n k = true) : 0 ≤ k ∧ k ≤ 1000 ∧ n ^ k.toNat ≤ 512 := by
  simp only [degB, Bool.and_eq_true, decide_eq_true_eq] at h
  omega

def chL (code : List Int) (size p : Int) : Nat → List Int × Int × Int → List Int × Int × Int
  | 0, s => s
  | j + 1, s => chL code size p j (s.1.set (nxV code s.2.1 s.2.2 size).toNat (nxV code (nxA code.length s.2.1 size) (nxH s.2.2 size) p), nxA code.length (nxA code.length s.2.1 size) p, nxH (nxH s.2.2 size) p)

def chE (code : List Int) (size p : Int) (s : List Int × Int × Int) : List Int × Int × Int :=
  let c := nxV code s.2.1 s.2.2 24
  let a := nxA code.length s.2.1 24
  let h := nxH s.2.2 24
  if c = 0 then (s.1.set (nxV code a h size).toNat (([-1, p] : List Int).getD (nxV code (nxA code.length a size) (nxH h size) 2).toNat 0), nxA code.length (nxA code.length a size) 2, nxH (nxH h size) 2)
  else if c = 1 then (s.1 ++ [0], a, h) else (s.1, a, h)

def chainD (code : List Int) (a h n p k : Int) : List Int × Int × Int :=
  if n < 1 ∨ primeB p = false ∨ degB n k = false then ([0], a, h)
  else chE code (n ^ k.toNat) p (chL code (n ^ k.toNat) p (nxV code a h 6).toNat (List.replicate (n ^ k.toNat).toNat 0, nxA code.length a 6, nxH h 6))



def big_p (code : List Int) : Post := ⟨True, .c (.bool (decide (4096 < (code.length : Int)))), []⟩
def big_ct : List AD → Option Post
  | [.c (.ints .u8 (code))] => some (big_p code)
  | _ => none
def big_G : List (Nat × Ctr) := []
def big_V (code : List Int) : Prop :=
  ((Decidable.decide ((4096 : Int) < (↑(List.length code) : Int)) = Decidable.decide ((4096 : Int) < (↑(List.length code) : Int))) ∧
 (True))
theorem big_vc (code : List Int) : runF Try.prog (gam big_G) noWr noAnn Try.f16 (bodyOf Try.f16) [] [.c (.ints .u8 (code))] (big_p code) = big_V code := by kernel_rfl
theorem big_ok (code : List Int) (hpre : (big_p code).pre) : big_V code := by
  simp only [big_p, big_V, BrP_iff, true_and, and_true, decide_eq_true_eq, decide_eq_false_iff_not, bne_iff_ne, beq_iff_eq, bne_eq_false_iff_eq, beq_eq_false_iff_ne, Bool.not_eq_true, Bool.not_eq_false, Bool.not_true, Bool.not_false, Bool.not_eq_eq_eq_not, Int.toNat_natCast, List.length_append, List.length_take, List.length_replicate, List.length_set, List.length_map, List.length_drop, List.length_nil, List.length_cons, markL_length, inB, InR, room, bdsOk] at hpre ⊢
theorem big_fits : Fits Try.prog 16 ⟨[], big_ct⟩ := by
  refine fits_fn (Γ := gam big_G) gok_nil Try.func16 (by kernel_rfl) (by kernel_rfl) (by kernel_rfl) fun ds p h hp => ?_
  unfold big_ct at h
  split at h
  · cases h
    exact ⟨noWr, noAnn, by rw [big_vc]; exact big_ok _  hp⟩
  · cases h

def likeInts_p (a : List Int) (b : List Int) : Post := ⟨room a.length, .c (.bool (decide (a = b))), []⟩
def likeInts_ct : List AD → Option Post
  | [.c (.ints .i64 (a)), .c (.ints .i64 (b))] => some (likeInts_p a b)
  | _ => none
def likeInts_ann (a : List Int) (b : List Int) : Nat → Option Ann
  | 0 => some (Ann.mk ((Nat)) (fun i => ⟨[(0, .c (.ro (.ints .i64 (a)))), (1, .c (.ro (.ints .i64 (b)))), (5, .c (.int .i64 ((i : Int))))], []⟩) (fun i => i ≤ a.length ∧ a.length = b.length ∧ a.take i = b.take i) (fun i => a.length - i) (fun _ => noAnn))
  | _ => none
def likeInts_G : List (Nat × Ctr) := []
def likeInts_V (a : List Int) (b : List Int) : Prop :=
  (BrP ((↑(List.length a) : Int) != (↑(List.length b) : Int))
 ((Bool.false = Decidable.decide (a = b)) ∧
 (True))
 ((∃ x0 : Nat, (((x0 ≤ List.length a) ∧
 ((List.length a = List.length b) ∧
 (List.take x0 a = List.take x0 b))) ∧
 ((a = a) ∧
 ((b = b) ∧
 ((0 : Int) = (↑x0 : Int)))))) ∧
 (∀ x1 : Nat, (((x1 ≤ List.length a) ∧
 ((List.length a = List.length b) ∧
 (List.take x1 a = List.take x1 b))) →
 (BrP (Decidable.decide ((↑x1 : Int) < (↑(List.length a) : Int)))
 ((inB (↑x1 : Int) (List.length a)) ∧
 ((inB (↑x1 : Int) (List.length b)) ∧
 (BrP (List.getD a (Int.toNat (↑x1 : Int)) (0 : Int) != List.getD b (Int.toNat (↑x1 : Int)) (0 : Int))
 ((Bool.false = Decidable.decide (a = b)) ∧
 (True))
 ((InR ((↑x1 : Int) + (1 : Int))) ∧
 (∃ x2 : Nat, (((x2 ≤ List.length a) ∧
 ((List.length a = List.length b) ∧
 (List.take x2 a = List.take x2 b))) ∧
 ((List.length a - x2 < List.length a - x1) ∧
 ((a = a) ∧
 ((b = b) ∧
 ((↑x1 : Int) + (1 : Int) = (↑x2 : Int)))))))))))
 ((Bool.true = Decidable.decide (a = b)) ∧
 (True)))))))
theorem likeInts_vc (a : List Int) (b : List Int) : runF Try.prog (gam likeInts_G) noWr (likeInts_ann a b) Try.f31 (bodyOf Try.f31) [] [.c (.ints .i64 (a)), .c (.ints .i64 (b))] (likeInts_p a b) = likeInts_V a b := by kernel_rfl
theorem likeInts_ok (a : List Int) (b : List Int) (hpre : (likeInts_p a b).pre) : likeInts_V a b := by
  simp only [likeInts_p, likeInts_V, BrP_iff, true_and, and_true, decide_eq_true_eq, decide_eq_false_iff_not, bne_iff_ne, beq_iff_eq, bne_eq_false_iff_eq, beq_eq_false_iff_ne, Bool.not_eq_true, Bool.not_eq_false, Bool.not_true, Bool.not_false, Bool.not_eq_eq_eq_not, Int.toNat_natCast, List.length_append, List.length_take, List.length_replicate, List.length_set, List.length_map, List.length_drop, List.length_nil, List.length_cons, markL_length, inB, InR, room, bdsOk] at hpre ⊢
  refine ⟨fun h => ?_, fun h => ⟨⟨0, ⟨by omega, by omega, rfl⟩, by simp⟩, fun i hi => ⟨fun h1 => ⟨by omega, by omega, fun h2 => ?_, fun h2 => ⟨by omega, i + 1, ⟨by omega, hi.2.1, ?_⟩, by omega, by omega⟩⟩, fun h1 => ?_⟩⟩⟩
  · exact (decide_eq_false fun e => h (by rw [e])).symm
  · exact (decide_eq_false fun e => h2 (by rw [e])).symm
  · exact (take_eq_step a b 0 i (by omega) (by omega) hi.2.2).2 h2
  · refine (decide_eq_true ?_).symm
    have := hi.2.2
    rwa [List.take_of_length_le (by omega), List.take_of_length_le (by omega)] at this
theorem likeInts_fits : Fits Try.prog 31 ⟨[], likeInts_ct⟩ := by
  refine fits_fn (Γ := gam likeInts_G) gok_nil Try.func31 (by kernel_rfl) (by kernel_rfl) (by kernel_rfl) fun ds p h hp => ?_
  unfold likeInts_ct at h
  split at h
  · cases h
    exact ⟨noWr, likeInts_ann _ _ , by rw [likeInts_vc]; exact likeInts_ok _ _  hp⟩
  · cases h

def lsS (code : List Int) (m : Int) : Nat → List Int × Int × Int → List Int × Int × Int
  | 0, s => s
  | j + 1, s => lsS code m j (s.1 ++ [nxV code s.2.1 s.2.2 m], nxA code.length s.2.1 m, nxH s.2.2 m)



end Go.Sx
