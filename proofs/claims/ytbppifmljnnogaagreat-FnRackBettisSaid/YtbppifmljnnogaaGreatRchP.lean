/- RchP -/
import Derived.Test.YtbppifmljnnogaaGreatOwn2
import Derived.Test.YtbppifmljnnogaaGreatDrawY
import Derived.Test.YtbppifmljnnogaaGreatBndC
import Derived.Test.YtbppifmljnnogaaGreatCmp
import Derived.Test.YtbppifmljnnogaaGreatQb
import Derived.Test.YtbppifmljnnogaaGreatCocP
section
section
open Go Go.Proofs
namespace Go.Sx
set_option linter.unusedSimpArgs false
set_option linter.unusedVariables false
set_option linter.unusedVariables false
section
variable {t : List (List Int)} {p : Int} (hp : primeB p = true) {K : Nat} {c : List Int}
include hp
end
end Go.Sx
end
section
open Go Go.Proofs
namespace Go.Sx
set_option linter.unusedSimpArgs false
set_option linter.unusedVariables false
def primeD (code : List Int) (a h : Int) : Int × Int × Int :=
  let b := nxA code.length a 20
  let g := nxH h 20
  if nxV code a h 20 = 0 then (([4, 1, 11, 0, -2] : List Int).getD (nxV code b g 5).toNat 0, nxA code.length b 5, nxH g 5)
  else (([2, 3, 5, 7, 2, 3] : List Int).getD (nxV code b g 6).toNat 0, nxA code.length b 6, nxH g 6)
def l15DrawPrime_p (code : List Int) (a : Int) (h : Int) : Post := ⟨bytesB code ∧ 0 ≤ a ∧ a ≤ (code.length : Int) ∧ code.length ≤ 4096, .c (.int .i64 ((primeD code a h).1)), [.bx [.ints .u8 (code), .int .i64 ((primeD code a h).2.1), .int .u64 ((primeD code a h).2.2)]]⟩
def l15DrawPrime_ct : List AD → Option Post
  | [.box [.ints .u8 (code), .int .i64 (a), .int .u64 (h)]] => some (l15DrawPrime_p code a h)
  | _ => none
def l15DrawPrime_G : List (Nat × Ctr) := [(47, ⟨[(0, 0)], l01Next_ct⟩), (59, ⟨[(0, 0)], l01Pick_ct⟩)]
def l15DrawPrime_V (code : List Int) (a : Int) (h : Int) : Prop :=
 ((((bytesB code)∧(((0:Int) ≤ a)∧(a ≤ (1099511627776:Int))))∧((code = code)∧True))∧(BrP (nxV code a h (20:Int) == (0:Int)) ((((bytesB code)∧(((0:Int) ≤ nxA (code.length) a (20:Int))∧((nxA (code.length) a (20:Int) ≤ (1099511627776:Int))∧(((1:Nat) ≤ [(4:Int), (1:Int), (11:Int), (0:Int), (-2:Int)].length)∧([(4:Int), (1:Int), (11:Int), (0:Int), (-2:Int)].length ≤ (100:Nat))))))∧((code = code)∧True))∧(([(4:Int), (1:Int), (11:Int), (0:Int), (-2:Int)].getD ((nxV code (nxA (code.length) a (20:Int)) (nxH h (20:Int)) (↑([(4:Int), (1:Int), (11:Int), (0:Int), (-2:Int)].length):Int)).toNat) (0:Int) = (primeD code a h).1)∧(((code = code)∧((nxA (code.length) (nxA (code.length) a (20:Int)) (↑([(4:Int), (1:Int), (11:Int), (0:Int), (-2:Int)].length):Int) = ((primeD code a h).2).1)∧((nxH (nxH h (20:Int)) (↑([(4:Int), (1:Int), (11:Int), (0:Int), (-2:Int)].length):Int) = ((primeD code a h).2).2)∧True)))∧True))) ((((bytesB code)∧(((0:Int) ≤ nxA (code.length) a (20:Int))∧((nxA (code.length) a (20:Int) ≤ (1099511627776:Int))∧(((1:Nat) ≤ [(2:Int), (3:Int), (5:Int), (7:Int), (2:Int), (3:Int)].length)∧([(2:Int), (3:Int), (5:Int), (7:Int), (2:Int), (3:Int)].length ≤ (100:Nat))))))∧((code = code)∧True))∧(([(2:Int), (3:Int), (5:Int), (7:Int), (2:Int), (3:Int)].getD ((nxV code (nxA (code.length) a (20:Int)) (nxH h (20:Int)) (↑([(2:Int), (3:Int), (5:Int), (7:Int), (2:Int), (3:Int)].length):Int)).toNat) (0:Int) = (primeD code a h).1)∧(((code = code) ∧
 ((nxA (code.length) (nxA (code.length) a (20:Int)) (↑([(2:Int), (3:Int), (5:Int), (7:Int), (2:Int), (3:Int)].length):Int) = ((primeD code a h).2).1)∧((nxH (nxH h (20:Int)) (↑([(2:Int), (3:Int), (5:Int), (7:Int), (2:Int), (3:Int)].length):Int) = ((primeD code a h).2).2)∧True)))∧True)))))
theorem l15DrawPrime_vc (code : List Int) (a : Int) (h : Int) : runF Tryz.prog (gam l15DrawPrime_G) noWr noAnn Tryz.f36 (bodyOf Tryz.f36) [(0, 0)] [.box [.ints .u8 (code), .int .i64 (a), .int .u64 (h)]] (l15DrawPrime_p code a h) = l15DrawPrime_V code a h := by kernel_rfl
theorem l15DrawPrime_ok (code : List Int) (a : Int) (h : Int) (hpre : (l15DrawPrime_p code a h).pre) : l15DrawPrime_V code a h := by
  simp only [l15DrawPrime_p, l15DrawPrime_V, BrP_iff, u1, u2, u3, u4, u5, u6, u7, u8, u9, v1, v2, v3, v4, v5, v6, v7, v8, v9, w1, w2, w3, w4, markL_length, inB, InR, room, bdsOk] at hpre ⊢
  obtain ⟨hb, h0, h1, h2⟩ := hpre
  have s := nxA_in (n := 20) h0 h1
  refine ⟨⟨hb, h0, by omega⟩, fun z => ?_, fun z => ?_⟩
  · simp only [primeD, if_pos z]; exact ⟨⟨hb, s.1, by omega, by omega, by omega⟩, rfl, rfl, rfl⟩
  · simp only [primeD, if_neg z]; exact ⟨⟨hb, s.1, by omega, by omega, by omega⟩, rfl, rfl, rfl⟩
theorem l15DrawPrime_fits : Fits Tryz.prog 36 ⟨[(0, 0)], l15DrawPrime_ct⟩ := by
  refine ffn (Γ := gam l15DrawPrime_G) (gok_cons l01Next_fits (gok_cons l01Pick_fits gok_nil)) Tryz.func36 fun ds p h hp => ?_
  unfold l15DrawPrime_ct at h
  split at h
  · cases h
    exact ⟨noWr, noAnn, by rw [l15DrawPrime_vc]; exact l15DrawPrime_ok _ _ _  hp⟩
  · cases h
def pwV (n k : Int) : Int := if n = 0 then 1 else if n ^ k.toNat ≤ 512 then n ^ k.toNat else 513
def l15PowerG_p (n : Int) (k : Int) : Post := ⟨0 ≤ n ∧ n ≤ 12 ∧ 0 ≤ k ∧ k ≤ 1000, .c (.int .i64 (pwV n k)), []⟩
def l15PowerG_ct : List AD → Option Post
  | [.c (.int .i64 (n)), .c (.int .i64 (k))] => some (l15PowerG_p n k)
  | _ => none
def l15PowerG_ann (n : Int) (k : Int) : Nat → Option Ann
  | 0 => some (Ann.mk ((Nat)) (fun i => ⟨[(0, .c (.int .i64 (n))), (1, .c (.int .i64 (k - (i : Int)))), (5, .c (.int .i64 (n ^ i)))], []⟩) (fun i => i ≤ k.toNat ∧ n ^ i ≤ 512 ∧ (n = 0 → i = 0)) (fun i => k.toNat - i) (fun _ => noAnn))
  | _ => none
def l15PowerG_G : List (Nat × Ctr) := []
def l15PowerG_V (n : Int) (k : Int) : Prop :=
 ((∃ x0 : Nat, (((x0 ≤ k.toNat)∧((n ^ x0 ≤ (512:Int))∧(n = (0:Int) → x0 = (0:Nat))))∧((n = n)∧((k = k - (↑x0:Int))∧((1:Int) = n ^ x0)))))∧(∀ x1 : Nat, (((x1 ≤ k.toNat)∧((n ^ x1 ≤ (512:Int))∧(n = (0:Int) → x1 = (0:Nat)))) → (BrP (decide ((0:Int) < k - (↑x1:Int))) (BrP (decide ((1:Int) < n)) ((InR (n ^ x1 * n))∧(BrP (decide ((512:Int) < n ^ x1 * n)) (((513:Int) = pwV n k)∧True) ((InR (k - (↑x1:Int) - (1:Int)))∧(∃ x2 : Nat, (((x2 ≤ k.toNat)∧((n ^ x2 ≤ (512:Int))∧(n = (0:Int) → x2 = (0:Nat))))∧((k.toNat - x2 < k.toNat - x1)∧((n = n)∧((k - (↑x1:Int) - (1:Int) = k - (↑x2:Int))∧(n ^ x1 * n = n ^ x2))))))))) ((n ^ x1 = pwV n k)∧True)) ((n ^ x1 = pwV n k)∧True)))))
theorem l15PowerG_vc (n : Int) (k : Int) : runF Tryz.prog (gam l15PowerG_G) noWr (l15PowerG_ann n k) Tryz.f44 (bodyOf Tryz.f44) [] [.c (.int .i64 (n)), .c (.int .i64 (k))] (l15PowerG_p n k) = l15PowerG_V n k := by kernel_rfl
theorem l15PowerG_ok (n : Int) (k : Int) (hpre : (l15PowerG_p n k).pre) : l15PowerG_V n k := by
  simp only [l15PowerG_p, l15PowerG_V, BrP_iff, u1, u2, u3, u4, u5, u6, u7, u8, u9, v1, v2, v3, v4, v5, v6, v7, v8, v9, w1, w2, w3, w4, markL_length, inB, InR, room, bdsOk] at hpre ⊢
  obtain ⟨h1, h2, h3, h4⟩ := hpre
  refine ⟨⟨0, ⟨by omega, by simp, fun _ => rfl⟩, by simp, by simp⟩, fun i ⟨hi, hp, hz⟩ => ⟨fun h => ⟨fun hn => ?_, fun hn => ?_⟩, fun h => ?_⟩⟩
  · have h1 : 1 ≤ n := by omega
    have e : n ^ i * n = n ^ (i + 1) := (Int.pow_succ n i).symm
    have pos := pow_pos' h1 (i + 1)
    have le := Int.mul_le_mul hp h2 (by omega) (by omega)
    refine ⟨by omega, fun h5 => ?_, fun h5 => ⟨by omega, i + 1, ⟨by omega, by omega, fun z => by omega⟩, by omega, by omega, e⟩⟩
    have := pow_le h1 (show i + 1 ≤ k.toNat by omega)
    rw [pwV, if_neg (by omega), if_neg (by omega)]
  · by_cases z : n = 0
    · rw [hz z, pwV, if_pos z]; simp
    · obtain rfl : n = 1 := by omega
      simp [pwV, pow_one']
  · by_cases z : n = 0
    · rw [hz z, pwV, if_pos z]; simp
    · rw [show i = k.toNat by omega] at hp ⊢
      rw [pwV, if_neg z, if_pos hp]
theorem l15PowerG_fits : Fits Tryz.prog 44 ⟨[], l15PowerG_ct⟩ := by
  refine ffn (Γ := gam l15PowerG_G) gok_nil Tryz.func44 fun ds p h hp => ?_
  unfold l15PowerG_ct at h
  split at h
  · cases h
    exact ⟨noWr, l15PowerG_ann _ _ , by rw [l15PowerG_vc]; exact l15PowerG_ok _ _  hp⟩
  · cases h
def kU (n most : Int) : Nat → Int → Int
  | 0, k => k
  | f + 1, k => if pwV n (k + 1) ≤ most then kU n most f (k + 1) else k
def degD (code : List Int) (a h n most : Int) : Int × Int × Int :=
  let b := nxA code.length a 20
  let g := nxH h 20
  if nxV code a h 20 = 0 then (([-1, 4, 5, 9, 10, 1001] : List Int).getD (nxV code b g 6).toNat 0, nxA code.length b 6, nxH g 6)
  else (nxV code b g (kU n most 4 0 + 1), nxA code.length b (kU n most 4 0 + 1), nxH g (kU n most 4 0 + 1))
def l15Degree_p (code : List Int) (a : Int) (h : Int) (n : Int) (most : Int) : Post := ⟨bytesB code ∧ 0 ≤ a ∧ a ≤ (code.length : Int) ∧ code.length ≤ 4096 ∧ 0 ≤ n ∧ n ≤ 12, .c (.int .i64 ((degD code a h n most).1)), [.bx [.ints .u8 (code), .int .i64 ((degD code a h n most).2.1), .int .u64 ((degD code a h n most).2.2)]]⟩
def l15Degree_ct : List AD → Option Post
  | [.box [.ints .u8 (code), .int .i64 (a), .int .u64 (h)], .c (.int .i64 (n)), .c (.int .i64 (most))] => some (l15Degree_p code a h n most)
  | _ => none
def l15Degree_ann (code : List Int) (a : Int) (h : Int) (n : Int) (most : Int) : Nat → Option Ann
  | 0 => some (Ann.mk ((Nat)) (fun k => ⟨[(0, .c (.ptr 700 0)), (1, .c (.int .i64 (n))), (2, .c (.int .i64 (most))), (7, .c (.int .i64 ((k : Int))))], [(700, some (.box [.orig 700 0 (.ints .u8 (code)), .int .i64 (nxA code.length a 20), .int .u64 (nxH h 20)]))]⟩) (fun k => k ≤ 4 ∧ nxV code a h 20 ≠ 0 ∧ kU n most 4 0 = kU n most (4 - k) (k : Int)) (fun k => 4 - k) (fun _ => noAnn))
  | _ => none
def l15Degree_G : List (Nat × Ctr) := [(47, ⟨[(0, 0)], l01Next_ct⟩), (59, ⟨[(0, 0)], l01Pick_ct⟩), (44, ⟨[], l15PowerG_ct⟩)]
def l15Degree_V (code : List Int) (a : Int) (h : Int) (n : Int) (most : Int) : Prop :=
 ((((bytesB code)∧(((0:Int) ≤ a)∧(a ≤ (1099511627776:Int))))∧((code = code)∧True))∧(BrP (nxV code a h (20:Int) == (0:Int)) ((((bytesB code)∧(((0:Int) ≤ nxA (code.length) a (20:Int))∧((nxA (code.length) a (20:Int) ≤ (1099511627776:Int))∧(((1:Nat) ≤ [(-1:Int), (4:Int), (5:Int), (9:Int), (10:Int), (1001:Int)].length)∧([(-1:Int), (4:Int), (5:Int), (9:Int), (10:Int), (1001:Int)].length ≤ (100:Nat))))))∧((code = code)∧True))∧(([(-1:Int), (4:Int), (5:Int), (9:Int), (10:Int), (1001:Int)].getD ((nxV code (nxA (code.length) a (20:Int)) (nxH h (20:Int)) (↑([(-1:Int), (4:Int), (5:Int), (9:Int), (10:Int), (1001:Int)].length):Int)).toNat) (0:Int) = (degD code a h n most).1)∧(((code = code)∧((nxA (code.length) (nxA (code.length) a (20:Int)) (↑([(-1:Int), (4:Int), (5:Int), (9:Int), (10:Int), (1001:Int)].length):Int) = ((degD code a h n most).2).1)∧((nxH (nxH h (20:Int)) (↑([(-1:Int), (4:Int), (5:Int), (9:Int), (10:Int), (1001:Int)].length):Int) = ((degD code a h n most).2).2)∧True)))∧True))) ((∃ x0 : Nat, (((x0 ≤ (4:Nat))∧((nxV code a h (20:Int) ≠ (0:Int))∧(kU n most (4:Nat) (0:Int) = kU n most ((4:Nat) - x0) (↑x0:Int))))∧((n = n)∧((most = most)∧(((0:Int) = (↑x0:Int))∧((code = code)∧((nxA (code.length) a (20:Int) = nxA (code.length) a (20:Int))∧(nxH h (20:Int) = nxH h (20:Int)))))))))∧(∀ x1 : Nat, (((x1 ≤ (4:Nat))∧((nxV code a h (20:Int) ≠ (0:Int))∧(kU n most (4:Nat) (0:Int) = kU n most ((4:Nat) - x1) (↑x1:Int)))) → (BrP (decide ((↑x1:Int) < (4:Int))) ((InR ((↑x1:Int) + (1:Int))) ∧
 (((((0:Int) ≤ n)∧((n ≤ (12:Int))∧(((0:Int) ≤ (↑x1:Int) + (1:Int))∧((↑x1:Int) + (1:Int) ≤ (1000:Int)))))∧True)∧(BrP (decide (pwV n ((↑x1:Int) + (1:Int)) ≤ most)) ((InR ((↑x1:Int) + (1:Int)))∧(∃ x2 : Nat, (((x2 ≤ (4:Nat))∧((nxV code a h (20:Int) ≠ (0:Int))∧(kU n most (4:Nat) (0:Int) = kU n most ((4:Nat) - x2) (↑x2:Int))))∧(((4:Nat) - x2 < (4:Nat) - x1)∧((n = n)∧((most = most)∧(((↑x1:Int) + (1:Int) = (↑x2:Int))∧((code = code)∧((nxA (code.length) a (20:Int) = nxA (code.length) a (20:Int))∧(nxH h (20:Int) = nxH h (20:Int))))))))))) ((InR ((↑x1:Int) + (1:Int)))∧((((bytesB code)∧(((0:Int) ≤ nxA (code.length) a (20:Int))∧(nxA (code.length) a (20:Int) ≤ (1099511627776:Int))))∧((code = code)∧True))∧((nxV code (nxA (code.length) a (20:Int)) (nxH h (20:Int)) ((↑x1:Int) + (1:Int)) = (degD code a h n most).1)∧(((code = code)∧((nxA (code.length) (nxA (code.length) a (20:Int)) ((↑x1:Int) + (1:Int)) = ((degD code a h n most).2).1)∧((nxH (nxH h (20:Int)) ((↑x1:Int) + (1:Int)) = ((degD code a h n most).2).2)∧True)))∧True))))))) ((InR ((↑x1:Int) + (1:Int)))∧((((bytesB code)∧(((0:Int) ≤ nxA (code.length) a (20:Int))∧(nxA (code.length) a (20:Int) ≤ (1099511627776:Int))))∧((code = code)∧True))∧((nxV code (nxA (code.length) a (20:Int)) (nxH h (20:Int)) ((↑x1:Int) + (1:Int)) = (degD code a h n most).1)∧(((code = code)∧((nxA (code.length) (nxA (code.length) a (20:Int)) ((↑x1:Int) + (1:Int)) = ((degD code a h n most).2).1)∧((nxH (nxH h (20:Int)) ((↑x1:Int) + (1:Int)) = ((degD code a h n most).2).2) ∧
 True)))∧True))))))))))
theorem l15Degree_vc (code : List Int) (a : Int) (h : Int) (n : Int) (most : Int) : runF Tryz.prog (gam l15Degree_G) noWr (l15Degree_ann code a h n most) Tryz.f37 (bodyOf Tryz.f37) [(0, 0)] [.box [.ints .u8 (code), .int .i64 (a), .int .u64 (h)], .c (.int .i64 (n)), .c (.int .i64 (most))] (l15Degree_p code a h n most) = l15Degree_V code a h n most := by kernel_rfl
theorem l15Degree_ok (code : List Int) (a : Int) (h : Int) (n : Int) (most : Int) (hpre : (l15Degree_p code a h n most).pre) : l15Degree_V code a h n most := by
  simp only [l15Degree_p, l15Degree_V, BrP_iff, u1, u2, u3, u4, u5, u6, u7, u8, u9, v1, v2, v3, v4, v5, v6, v7, v8, v9, w1, w2, w3, w4, markL_length, inB, InR, room, bdsOk] at hpre ⊢
  obtain ⟨hb, h0, h1, h2, h3, h4⟩ := hpre
  have s := nxA_in (n := 20) h0 h1
  refine ⟨⟨hb, h0, by omega⟩, fun z => ?_, fun z => ⟨⟨0, ⟨by omega, z, rfl⟩, rfl⟩, fun j ⟨hj, _, hk⟩ => ?_⟩⟩
  · simp only [degD, if_pos z]; exact ⟨⟨hb, s.1, by omega, by omega, by omega⟩, rfl, rfl, rfl⟩
  have fin : kU n most 4 0 = (j : Int) → nxV code (nxA code.length a 20) (nxH h 20) ((j : Int) + 1) = (degD code a h n most).fst ∧ nxA code.length (nxA code.length a 20) ((j : Int) + 1) = (degD code a h n most).snd.fst ∧ nxH (nxH h 20) ((j : Int) + 1) = (degD code a h n most).snd.snd := fun e => by
    simp only [degD, if_neg z, e]; exact ⟨trivial, trivial, trivial⟩
  refine ⟨fun hl => ?_, fun hl => ⟨by omega, ⟨hb, s.1, by omega⟩, fin (by rw [hk, show 4 - j = 0 by omega]; rfl)⟩⟩
  have st : kU n most (4 - j) (j : Int) = if pwV n ((j : Int) + 1) ≤ most then kU n most (4 - (j + 1)) (((j + 1 : Nat) : Int)) else (j : Int) := by
    rw [show 4 - j = (4 - (j + 1)) + 1 by omega, show ((j + 1 : Nat) : Int) = (j : Int) + 1 by omega]; rfl
  exact ⟨by omega, ⟨by omega, by omega, by omega, by omega⟩, fun y => ⟨by omega, j + 1, ⟨by omega, z, by rw [hk, st, if_pos y]⟩, by omega, by omega⟩, fun y => ⟨by omega, ⟨hb, s.1, by omega⟩, fin (by rw [hk, st, if_neg y])⟩⟩
theorem l15Degree_fits : Fits Tryz.prog 37 ⟨[(0, 0)], l15Degree_ct⟩ := by
  refine ffn (Γ := gam l15Degree_G) (gok_cons l01Next_fits (gok_cons l01Pick_fits (gok_cons l15PowerG_fits gok_nil))) Tryz.func37 fun ds p h hp => ?_
  unfold l15Degree_ct at h
  split at h
  · cases h
    exact ⟨noWr, l15Degree_ann _ _ _ _ _ , by rw [l15Degree_vc]; exact l15Degree_ok _ _ _ _ _  hp⟩
  · cases h
def big_p (code : List Int) : Post := ⟨True, .c (.bool (decide (4096 < (code.length : Int)))), []⟩
def big_ct : List AD → Option Post
  | [.c (.ints .u8 (code))] => some (big_p code)
  | _ => none
def big_G : List (Nat × Ctr) := []
def big_V (code : List Int) : Prop :=
 ((decide ((4096:Int) < (↑(code.length):Int)) = decide ((4096:Int) < (↑(code.length):Int)))∧True)
theorem big_vc (code : List Int) : runF Tryz.prog (gam big_G) noWr noAnn Tryz.f5 (bodyOf Tryz.f5) [] [.c (.ints .u8 (code))] (big_p code) = big_V code := by kernel_rfl
theorem big_ok (code : List Int) (hpre : (big_p code).pre) : big_V code := by
  simp only [big_p, big_V, BrP_iff, u1, u2, u3, u4, u5, u6, u7, u8, u9, v1, v2, v3, v4, v5, v6, v7, v8, v9, w1, w2, w3, w4, markL_length, inB, InR, room, bdsOk] at hpre ⊢
theorem big_fits : Fits Tryz.prog 5 ⟨[], big_ct⟩ := by
  refine ffn (Γ := gam big_G) gok_nil Tryz.func5 fun ds p h hp => ?_
  unfold big_ct at h
  split at h
  · cases h
    exact ⟨noWr, noAnn, by rw [big_vc]; exact big_ok _  hp⟩
  · cases h
end Go.Sx
end
end
section
open Go Go.Proofs
namespace Go.Sx
set_option linter.unusedSimpArgs false
set_option linter.unusedVariables false
section
variable {t f : List (List Int)} {m : Int}
end
def d0 (i : Nat) (x : List Int) : List Int := wo i x
def d1 (t : List (List Int)) (i : Nat) (x : List Int) : List Int := mvk t (x.getD i 0) i (x.length - 1) (wo i x)
theorem d0_tab {i : Nat} {x : List Int} (hi : i < x.length) : d0 i x = tab (x.length - 1) fun q => if q < i then x.getD q 0 else x.getD (q + 1) 0 := by
  have hl : (wo i x).length = x.length - 1 := wo_length i x hi
  rw [d0, eq_tab (wo i x), hl]
  refine tab_ext fun q hq => ?_
  unfold wo
  by_cases h : q < i
  · rw [if_pos h, getD_append_left' _ _ _ _ (by simp; omega), take_getD _ _ _ _ h]
  · rw [if_neg h, getD_append_right' _ _ _ _ (by simp; omega), drop_getD]
    congr 1
    rw [List.length_take]; omega
theorem d1_tab {t : List (List Int)} {i : Nat} {x : List Int} (hi : i < x.length) : d1 t i x = tab (x.length - 1) fun q => if q < i then x.getD q 0 else en t (x.getD i 0).toNat (x.getD (q + 1) 0).toNat := by
  have hl : (wo i x).length = x.length - 1 := wo_length i x hi
  rw [d1, mvk, hl]
  refine tab_ext fun q hq => ?_
  have e : (wo i x).getD q 0 = if q < i then x.getD q 0 else x.getD (q + 1) 0 := by
    have e := d0_tab hi
    rw [d0] at e
    rw [e, tab_getD _ _ _ hq]
  by_cases h : q < i
  · rw [if_neg (by omega), if_pos h, e, if_pos h]
  · rw [if_pos (by omega), if_neg h, e, if_neg h]
theorem d0_len {i : Nat} {x : List Int} (hi : i < x.length) : (d0 i x).length = x.length - 1 := by rw [d0_tab hi, tab_length]
theorem d1_len {t : List (List Int)} {i : Nat} {x : List Int} (hi : i < x.length) : (d1 t i x).length = x.length - 1 := by rw [d1_tab hi, tab_length]
theorem d0_in {n i : Nat} {x : List Int} (hx : inT n x) (hi : i < x.length) : inT n (d0 i x) := wo_in hx hi
theorem d1_in {t : List (List Int)} (ht : tabB t = true) {i : Nat} {x : List Int} (hx : inT t.length x) (hi : i < x.length) : inT t.length (d1 t i x) := mvk_in ht (wo_in hx hi) (hx i hi) _ _
section
variable {t : List (List Int)} {x : List Int} {i j : Nat}
end
def eS (i : Nat) : Int := if i % 2 = 0 then -1 else 1
theorem sgS_eS (p : Int) (i : Nat) : p ∣ sgS p i - eS i := by
  unfold sgS eS
  split
  · exact ⟨1, by omega⟩
  · exact ⟨0, by omega⟩
theorem pt_dot {t : List (List Int)} (ht : tabB t = true) {p : Int} (hp : 2 ≤ p) {x : List Int} (hx : inT t.length x) (f : Nat → Int) : ∀ i, i ≤ x.length →
    p ∣ sm (fun q => (ptF t p x i).getD q 0 * f q) (t.length ^ (x.length - 1)) - sm (fun i => eS i * (f (plc t.length (d0 i x)).toNat - f (plc t.length (d1 t i x)).toNat)) i
  | 0, _ => by
    rw [sm_ext (g := fun q => 0 * 0) fun q hq => by
      have : (ptF t p x 0).getD q 0 = 0 := by simp only [ptF]; simp [List.getD_eq_getElem?_getD, List.getElem?_replicate]; split <;> rfl
      rw [this]; simp, sm_mul]
    simp [sm]
  | i + 1, hi => by
    have n1 := (tabB_of ht).1
    have ih := pt_dot ht hp hx f i (by omega)
    have a := plc_all n1 (d0_in hx (i := i) (by omega))
    have b := plc_all n1 (d1_in ht hx (i := i) (by omega))
    rw [d0_len (by omega), ← Int.natCast_pow] at a
    rw [d1_len (by omega), ← Int.natCast_pow] at b
    have D := dot_bump (by omega) (sgS_in hp i) (ptF_in t hp x i) (ptF_length t p x i) (a := pa t x i) (b := pb t x i) (by unfold pa; show (plc t.length (d0 i x)).toNat < _; omega) (by unfold pb; show (plc t.length (d1 t i x)).toNat < _; omega) f
    have E := sgS_eS p i
    rw [ptF, sm]
    have e1 : f (pa t x i) = f (plc t.length (d0 i x)).toNat := rfl
    have e2 : f (pb t x i) = f (plc t.length (d1 t i x)).toNat := rfl
    rw [e1, e2] at D
    generalize f (plc t.length (d0 i x)).toNat = u at *
    generalize f (plc t.length (d1 t i x)).toNat = v at *
    have W := Int.dvd_add (Int.dvd_add D ih) (show p ∣ (sgS p i - eS i) * (u - v) from Int.dvd_mul_of_dvd_left E)
    refine (show ∀ a b : Int, a = b → p ∣ a → p ∣ b from fun a b e h => e ▸ h) _ _ ?_ W
    rw [Int.sub_mul (sgS p i) (eS i) (u - v), Int.mul_sub (sgS p i) u v]
    omega
theorem dig_plc {n : Nat} {x : List Int} (hx : inT n x) (hn : 1 ≤ n) : digN (n : Int) x.length (plc n x) = x := by
  have : ∀ i, i ≤ x.length → digN (n : Int) i (plc n (x.take i)) = x.take i := fun i => by
    induction i with
    | zero => intro _; simp [digN]
    | succ i ih =>
      intro hi
      have c := hx i (by omega)
      have q := (plc_le hn hx i (by omega)).1
      have m := Int.mul_nonneg q (show (0 : Int) ≤ n by omega)
      rw [digN, plc_step _ _ _ (by omega), ← take_snoc x 0 i (by omega)]
      have e1 : (plc n (x.take i) * (n : Int) + x.getD i 0).tdiv n = plc n (x.take i) := by
        rw [Int.tdiv_eq_ediv_of_nonneg (by omega), Int.add_comm, Int.add_mul_ediv_right _ _ (by omega), Int.ediv_eq_zero_of_lt c.1 (by omega), Int.zero_add]
      have e2 : (plc n (x.take i) * (n : Int) + x.getD i 0).tmod n = x.getD i 0 := by
        rw [Int.tmod_eq_emod_of_nonneg (by omega), Int.add_comm, Int.add_mul_emod_self_right, Int.emod_eq_of_lt c.1 (by omega)]
      rw [e1, e2, ih (by omega)]
  have := this x.length (Nat.le_refl _)
  rwa [List.take_of_length_le (Nat.le_refl _)] at this
def hF (t : List (List Int)) (r : Nat) (y : List Int) : Int := if (plc t.length y).toNat = r then 1 else 0
section
variable {t : List (List Int)} {p : Int} {K : Nat} {c : List Int}
theorem flB_iff {x : List Int} : flB x = true ↔ ∃ m, m + 1 < x.length ∧ x.getD (m + 1) 0 = x.getD m 0 := by
  simp only [flB, Bool.not_eq_true', List.all_eq_false, List.mem_range, decide_eq_true_eq, Classical.not_not]
  constructor
  · rintro ⟨m, hm, e⟩; exact ⟨m, by omega, e⟩
  · rintro ⟨m, hm, e⟩; exact ⟨m, by omega, e⟩
end
end Go.Sx
end
