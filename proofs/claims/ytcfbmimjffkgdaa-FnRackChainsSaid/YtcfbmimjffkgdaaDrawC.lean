/- FilP DrawC -/
import Derived.Test.YtcfbmimjffkgdaaFil
import Derived.Test.YtcfbmimjffkgdaaDrawY
import Derived.Test.YtcfbmimjffkgdaaPair
import Derived.Test.YtcfbmimjffkgdaaCmp
section
open Go Go.Proofs
namespace Go.Sx
set_option linter.unusedSimpArgs false
set_option linter.unusedVariables false
set_option linter.unusedVariables false

theorem bd_lin {t : List (List Int)} {p : Int} (hp : 2 ≤ p) {K : Nat} {c : List Int} (hc : inP p c) : ∀ i, i ≤ c.length → rwP p (t.length ^ (K - 1)) (bdF t p K c i) ∧ ∀ q, q < t.length ^ (K - 1) → p ∣ (bdF t p K c i).getD q 0 - sm (fun j => c.getD j 0 * (btF t p K j).getD q 0) i
  | 0, _ => ⟨⟨List.length_replicate .., rep_in (by omega) _⟩, fun q hq => by simp [bdF, sm, List.getD, hq]⟩
  | i + 1, hi => by
    obtain ⟨h1, h2⟩ := bd_lin hp hc (t := t) (K := K) i (by omega)
    have b := btF_ok t hp K i
    have ci := hc i (by omega)
    have eb : ptF t p (digN (t.length : Int) K (i : Int)) K = btF t p K i := rfl
    simp only [bdF, sm]
    split
    · rename_i z
      refine ⟨h1, fun q hq => ?_⟩
      rw [z, Int.zero_mul, Int.add_zero]
      exact h2 q hq
    · refine ⟨by rw [eb]; exact stF_rw (by omega) ci.1 b h1, fun q hq => ?_⟩
      rw [eb]
      have a := stF_mod (by omega) ci.1 b h1 hq
      have e := Int.dvd_add a (h2 q hq)
      rwa [show (stF p (c.getD i 0) (btF t p K i) (bdF t p K c i)).getD q 0 - ((bdF t p K c i).getD q 0 + c.getD i 0 * (btF t p K i).getD q 0) + ((bdF t p K c i).getD q 0 - sm (fun j => c.getD j 0 * (btF t p K j).getD q 0) i) =
        (stF p (c.getD i 0) (btF t p K i) (bdF t p K c i)).getD q 0 - (sm (fun j => c.getD j 0 * (btF t p K j).getD q 0) i + c.getD i 0 * (btF t p K i).getD q 0) by omega] at e

theorem mod_eq {p x y : Int} (hx : 0 ≤ x ∧ x ≤ p - 1) (hy : 0 ≤ y ∧ y ≤ p - 1) (h : p ∣ x - y) : x = y := by
  have a := Int.emod_emod_of_dvd x (Int.dvd_refl p)
  have := Int.emod_eq_emod_iff_emod_sub_eq_zero.2 (Int.emod_eq_zero_of_dvd h)
  rwa [Int.emod_eq_of_lt hx.1 (by omega), Int.emod_eq_of_lt hy.1 (by omega)] at this

section
variable {t : List (List Int)} {p : Int} (hp : primeB p = true) {K : Nat} {c : List Int}
include hp

end

end Go.Sx
end

section
open Go Go.Proofs
namespace Go.Sx
set_option linter.unusedSimpArgs false
set_option linter.unusedVariables false

def primeD (code : List Int) (a h : Int) : Int × Int × Int :=
  let b := nxA code.length a 20
  let g := nxH h 20
  if nxV code a h 20 = 0 then (([4, 1, 11, 0, -2] : List Int).getD (nxV code b g 5).toNat 0, nxA code.length b 5, nxH g 5)
  else (([2, 3, 5, 7, 2, 3] : List Int).getD (nxV code b g 6).toNat 0, nxA code.length b 6, nxH g 6)

def l15DrawPrime_p (code : List Int) (a : Int) (h : Int) : Post := ⟨bytesB code ∧ 0 ≤ a ∧ a ≤ (code.length : Int) ∧ code.length ≤ 4096, .c (.int .i64 ((primeD code a h).1)), [.bx [.ints .u8 (code), .int .i64 ((primeD code a h).2.1), .int .u64 ((primeD code a h).2.2)]]⟩
def l15DrawPrime_ct : List AD → Option Post
  | [.box [.ints .u8 (code), .int .i64 (a), .int .u64 (h)]] => some (l15DrawPrime_p code a h)
  | _ => none
def l15DrawPrime_G : List (Nat × Ctr) := [(85, ⟨[(0, 0)], l01Next_ct⟩), (60, ⟨[(0, 0)], l01Pick_ct⟩)]
def l15DrawPrime_V (code : List Int) (a : Int) (h : Int) : Prop :=
  ((((bytesB code) ∧
 (((0 : Int) ≤ a) ∧
 (a ≤ (1099511627776 : Int)))) ∧
 ((code = code) ∧
 (True))) ∧
 (BrP (nxV code a h (20 : Int) == (0 : Int))
 ((((bytesB code) ∧
 (((0 : Int) ≤ nxA (List.length code) a (20 : Int)) ∧
 ((nxA (List.length code) a (20 : Int) ≤ (1099511627776 : Int)) ∧
 (((1 : Nat) ≤ List.length [(4 : Int), (1 : Int), (11 : Int), (0 : Int), (-2 : Int)]) ∧
 (List.length [(4 : Int), (1 : Int), (11 : Int), (0 : Int), (-2 : Int)] ≤ (100 : Nat)))))) ∧
 ((code = code) ∧
 (True))) ∧
 ((List.getD [(4 : Int), (1 : Int), (11 : Int), (0 : Int), (-2 : Int)] (Int.toNat (nxV code (nxA (List.length code) a (20 : Int)) (nxH h (20 : Int)) (↑(List.length [(4 : Int), (1 : Int), (11 : Int), (0 : Int), (-2 : Int)]) : Int))) (0 : Int) = Prod.fst (primeD code a h)) ∧
 (((code = code) ∧
 ((nxA (List.length code) (nxA (List.length code) a (20 : Int)) (↑(List.length [(4 : Int), (1 : Int), (11 : Int), (0 : Int), (-2 : Int)]) : Int) = Prod.fst (Prod.snd (primeD code a h))) ∧
 ((nxH (nxH h (20 : Int)) (↑(List.length [(4 : Int), (1 : Int), (11 : Int), (0 : Int), (-2 : Int)]) : Int) = Prod.snd (Prod.snd (primeD code a h))) ∧
 (True)))) ∧
 (True))))
 ((((bytesB code) ∧
 (((0 : Int) ≤ nxA (List.length code) a (20 : Int)) ∧
 ((nxA (List.length code) a (20 : Int) ≤ (1099511627776 : Int)) ∧
 (((1 : Nat) ≤ List.length [(2 : Int), (3 : Int), (5 : Int), (7 : Int), (2 : Int), (3 : Int)]) ∧
 (List.length [(2 : Int), (3 : Int), (5 : Int), (7 : Int), (2 : Int), (3 : Int)] ≤ (100 : Nat)))))) ∧
 ((code = code) ∧
 (True))) ∧
 ((List.getD [(2 : Int), (3 : Int), (5 : Int), (7 : Int), (2 : Int), (3 : Int)] (Int.toNat (nxV code (nxA (List.length code) a (20 : Int)) (nxH h (20 : Int)) (↑(List.length [(2 : Int), (3 : Int), (5 : Int), (7 : Int), (2 : Int), (3 : Int)]) : Int))) (0 : Int) = Prod.fst (primeD code a h)) ∧
 (((code = code) ∧
 ((nxA (List.length code) (nxA (List.length code) a (20 : Int)) (↑(List.length [(2 : Int), (3 : Int), (5 : Int), (7 : Int), (2 : Int), (3 : Int)]) : Int) = Prod.fst (Prod.snd (primeD code a h))) ∧
 ((nxH (nxH h (20 : Int)) (↑(List.length [(2 : Int), (3 : Int), (5 : Int), (7 : Int), (2 : Int), (3 : Int)]) : Int) = Prod.snd (Prod.snd (primeD code a h))) ∧
 (True)))) ∧
 (True))))))
theorem l15DrawPrime_vc (code : List Int) (a : Int) (h : Int) : runF Try.prog (gam l15DrawPrime_G) noWr noAnn Try.f77 (bodyOf Try.f77) [(0, 0)] [.box [.ints .u8 (code), .int .i64 (a), .int .u64 (h)]] (l15DrawPrime_p code a h) = l15DrawPrime_V code a h := by kernel_rfl
theorem l15DrawPrime_ok (code : List Int) (a : Int) (h : Int) (hpre : (l15DrawPrime_p code a h).pre) : l15DrawPrime_V code a h := by
  simp only [l15DrawPrime_p, l15DrawPrime_V, BrP_iff, true_and, and_true, decide_eq_true_eq, decide_eq_false_iff_not, bne_iff_ne, beq_iff_eq, bne_eq_false_iff_eq, beq_eq_false_iff_ne, Bool.not_eq_true, Bool.not_eq_false, Bool.not_true, Bool.not_false, Bool.not_eq_eq_eq_not, Int.toNat_natCast, List.length_append, List.length_take, List.length_replicate, List.length_set, List.length_map, List.length_drop, List.length_nil, List.length_cons, markL_length, inB, InR, room, bdsOk] at hpre ⊢
  obtain ⟨hb, h0, h1, h2⟩ := hpre
  have s := nxA_in (n := 20) h0 h1
  refine ⟨⟨hb, h0, by omega⟩, fun z => ?_, fun z => ?_⟩
  · simp only [primeD, if_pos z]; exact ⟨⟨hb, s.1, by omega, by omega, by omega⟩, rfl, rfl, rfl⟩
  · simp only [primeD, if_neg z]; exact ⟨⟨hb, s.1, by omega, by omega, by omega⟩, rfl, rfl, rfl⟩
theorem l15DrawPrime_fits : Fits Try.prog 77 ⟨[(0, 0)], l15DrawPrime_ct⟩ := by
  refine fits_fn (Γ := gam l15DrawPrime_G) (gok_cons l01Next_fits (gok_cons l01Pick_fits gok_nil)) Try.func77 (by kernel_rfl) (by kernel_rfl) (by kernel_rfl) fun ds p h hp => ?_
  unfold l15DrawPrime_ct at h
  split at h
  · cases h
    exact ⟨noWr, noAnn, by rw [l15DrawPrime_vc]; exact l15DrawPrime_ok _ _ _  hp⟩
  · cases h

def pwV (n k : Int) : Int := if n = 0 then 1 else if n ^ k.toNat ≤ 512 then n ^ k.toNat else 513

def l15PowerG_p (n : Int) (k : Int) : Post := ⟨0 ≤ n ∧ n ≤ 12 ∧ 0 ≤ k ∧ k ≤ 1000, .c (.int .i64 (pwV n k)), []⟩
def l15PowerG_ct : List AD → Option Post
  | [.c (.int .i64 (n)), .c (.int .i64 (k))] => some (l15PowerG_p n k)
  | _ => none
def l15PowerG_ann (n : Int) (k : Int) : Nat → Option Ann
  | 0 => some (Ann.mk ((Nat)) (fun i => ⟨[(0, .c (.int .i64 (n))), (1, .c (.int .i64 (k - (i : Int)))), (5, .c (.int .i64 (n ^ i)))], []⟩) (fun i => i ≤ k.toNat ∧ n ^ i ≤ 512 ∧ (n = 0 → i = 0)) (fun i => k.toNat - i) (fun _ => noAnn))
  | _ => none
def l15PowerG_G : List (Nat × Ctr) := []
def l15PowerG_V (n : Int) (k : Int) : Prop :=
  ((∃ x0 : Nat, (((x0 ≤ Int.toNat k) ∧
 ((n ^ x0 ≤ (512 : Int)) ∧
 (n = (0 : Int) → x0 = (0 : Nat)))) ∧
 ((n = n) ∧
 ((k = k - (↑x0 : Int)) ∧
 ((1 : Int) = n ^ x0))))) ∧
 (∀ x1 : Nat, (((x1 ≤ Int.toNat k) ∧
 ((n ^ x1 ≤ (512 : Int)) ∧
 (n = (0 : Int) → x1 = (0 : Nat)))) →
 (BrP (Decidable.decide ((0 : Int) < k - (↑x1 : Int)))
 (BrP (Decidable.decide ((1 : Int) < n))
 ((InR (n ^ x1 * n)) ∧
 (BrP (Decidable.decide ((512 : Int) < n ^ x1 * n))
 (((513 : Int) = pwV n k) ∧
 (True))
 ((InR (k - (↑x1 : Int) - (1 : Int))) ∧
 (∃ x2 : Nat, (((x2 ≤ Int.toNat k) ∧
 ((n ^ x2 ≤ (512 : Int)) ∧
 (n = (0 : Int) → x2 = (0 : Nat)))) ∧
 ((Int.toNat k - x2 < Int.toNat k - x1) ∧
 ((n = n) ∧
 ((k - (↑x1 : Int) - (1 : Int) = k - (↑x2 : Int)) ∧
 (n ^ x1 * n = n ^ x2)))))))))
 ((n ^ x1 = pwV n k) ∧
 (True)))
 ((n ^ x1 = pwV n k) ∧
 (True))))))
theorem l15PowerG_vc (n : Int) (k : Int) : runF Try.prog (gam l15PowerG_G) noWr (l15PowerG_ann n k) Try.f96 (bodyOf Try.f96) [] [.c (.int .i64 (n)), .c (.int .i64 (k))] (l15PowerG_p n k) = l15PowerG_V n k := by kernel_rfl
theorem l15PowerG_ok (n : Int) (k : Int) (hpre : (l15PowerG_p n k).pre) : l15PowerG_V n k := by
  simp only [l15PowerG_p, l15PowerG_V, BrP_iff, true_and, and_true, decide_eq_true_eq, decide_eq_false_iff_not, bne_iff_ne, beq_iff_eq, bne_eq_false_iff_eq, beq_eq_false_iff_ne, Bool.not_eq_true, Bool.not_eq_false, Bool.not_true, Bool.not_false, Bool.not_eq_eq_eq_not, Int.toNat_natCast, List.length_append, List.length_take, List.length_replicate, List.length_set, List.length_map, List.length_drop, List.length_nil, List.length_cons, markL_length, inB, InR, room, bdsOk] at hpre ⊢
  obtain ⟨h1, h2, h3, h4⟩ := hpre
  refine ⟨⟨0, ⟨by omega, by simp, fun _ => rfl⟩, by simp, by simp⟩, fun i ⟨hi, hp, hz⟩ => ⟨fun h => ⟨fun hn => ?_, fun hn => ?_⟩, fun h => ?_⟩⟩
  · have h1 : 1 ≤ n := by omega
    have e : n ^ i * n = n ^ (i + 1) := (Int.pow_succ n i).symm
    have pos := pow_pos' h1 (i + 1)
    have le := Int.mul_le_mul hp h2 (by omega) (by omega)
    refine ⟨by omega, fun h5 => ?_, fun h5 => ⟨by omega, i + 1, ⟨by omega, by omega, fun z => by omega⟩, by omega, by omega, e⟩⟩
    have := pow_le h1 (show i + 1 ≤ k.toNat by omega)
    rw [pwV, if_neg (by omega), if_neg (by omega)]
  · by_cases z : n = 0
    · rw [hz z, pwV, if_pos z]; simp
    · obtain rfl : n = 1 := by omega
      simp [pwV, pow_one']
  · by_cases z : n = 0
    · rw [hz z, pwV, if_pos z]; simp
    · rw [show i = k.toNat by omega] at hp ⊢
      rw [pwV, if_neg z, if_pos hp]
theorem l15PowerG_fits : Fits Try.prog 96 ⟨[], l15PowerG_ct⟩ := by
  refine fits_fn (Γ := gam l15PowerG_G) gok_nil Try.func96 (by kernel_rfl) (by kernel_rfl) (by kernel_rfl) fun ds p h hp => ?_
  unfold l15PowerG_ct at h
  split at h
  · cases h
    exact ⟨noWr, l15PowerG_ann _ _ , by rw [l15PowerG_vc]; exact l15PowerG_ok _ _  hp⟩
  · cases h

def kU (n most : Int) : Nat → Int → Int
  | 0, k => k
  | f + 1, k => if pwV n (k + 1) ≤ most then kU n most f (k + 1) else k

def degD (code : List Int) (a h n most : Int) : Int × Int × Int :=
  let b := nxA code.length a 20
  let g := nxH h 20
  if nxV code a h 20 = 0 then (([-1, 4, 5, 9, 10, 1001] : List Int).getD (nxV code b g 6).toNat 0, nxA code.length b 6, nxH g 6)
  else (nxV code b g (kU n most 4 0 + 1), nxA code.length b (kU n most 4 0 + 1), nxH g (kU n most 4 0 + 1))

def l15Degree_p (code : List Int) (a : Int) (h : Int) (n : Int) (most : Int) : Post := ⟨bytesB code ∧ 0 ≤ a ∧ a ≤ (code.length : Int) ∧ code.length ≤ 4096 ∧ 0 ≤ n ∧ n ≤ 12, .c (.int .i64 ((degD code a h n most).1)), [.bx [.ints .u8 (code), .int .i64 ((degD code a h n most).2.1), .int .u64 ((degD code a h n most).2.2)]]⟩
def l15Degree_ct : List AD → Option Post
  | [.box [.ints .u8 (code), .int .i64 (a), .int .u64 (h)], .c (.int .i64 (n)), .c (.int .i64 (most))] => some (l15Degree_p code a h n most)
  | _ => none
def l15Degree_ann (code : List Int) (a : Int) (h : Int) (n : Int) (most : Int) : Nat → Option Ann
  | 0 => some (Ann.mk ((Nat)) (fun k => ⟨[(0, .c (.ptr 700 0)), (1, .c (.int .i64 (n))), (2, .c (.int .i64 (most))), (7, .c (.int .i64 ((k : Int))))], [(700, some (.box [.orig 700 0 (.ints .u8 (code)), .int .i64 (nxA code.length a 20), .int .u64 (nxH h 20)]))]⟩) (fun k => k ≤ 4 ∧ nxV code a h 20 ≠ 0 ∧ kU n most 4 0 = kU n most (4 - k) (k : Int)) (fun k => 4 - k) (fun _ => noAnn))
  | _ => none
def l15Degree_G : List (Nat × Ctr) := [(85, ⟨[(0, 0)], l01Next_ct⟩), (60, ⟨[(0, 0)], l01Pick_ct⟩), (96, ⟨[], l15PowerG_ct⟩)]
def l15Degree_V (code : List Int) (a : Int) (h : Int) (n : Int) (most : Int) : Prop :=
  ((((bytesB code) ∧
 (((0 : Int) ≤ a) ∧
 (a ≤ (1099511627776 : Int)))) ∧
 ((code = code) ∧
 (True))) ∧
 (BrP (nxV code a h (20 : Int) == (0 : Int))
 ((((bytesB code) ∧
 (((0 : Int) ≤ nxA (List.length code) a (20 : Int)) ∧
 ((nxA (List.length code) a (20 : Int) ≤ (1099511627776 : Int)) ∧
 (((1 : Nat) ≤ List.length [(-1 : Int), (4 : Int), (5 : Int), (9 : Int), (10 : Int), (1001 : Int)]) ∧
 (List.length [(-1 : Int), (4 : Int), (5 : Int), (9 : Int), (10 : Int), (1001 : Int)] ≤ (100 : Nat)))))) ∧
 ((code = code) ∧
 (True))) ∧
 ((List.getD [(-1 : Int), (4 : Int), (5 : Int), (9 : Int), (10 : Int), (1001 : Int)] (Int.toNat (nxV code (nxA (List.length code) a (20 : Int)) (nxH h (20 : Int)) (↑(List.length [(-1 : Int), (4 : Int), (5 : Int), (9 : Int), (10 : Int), (1001 : Int)]) : Int))) (0 : Int) = Prod.fst (degD code a h n most)) ∧
 (((code = code) ∧
 ((nxA (List.length code) (nxA (List.length code) a (20 : Int)) (↑(List.length [(-1 : Int), (4 : Int), (5 : Int), (9 : Int), (10 : Int), (1001 : Int)]) : Int) = Prod.fst (Prod.snd (degD code a h n most))) ∧
 ((nxH (nxH h (20 : Int)) (↑(List.length [(-1 : Int), (4 : Int), (5 : Int), (9 : Int), (10 : Int), (1001 : Int)]) : Int) = Prod.snd (Prod.snd (degD code a h n most))) ∧
 (True)))) ∧
 (True))))
 ((∃ x0 : Nat, (((x0 ≤ (4 : Nat)) ∧
 ((nxV code a h (20 : Int) ≠ (0 : Int)) ∧
 (kU n most (4 : Nat) (0 : Int) = kU n most ((4 : Nat) - x0) (↑x0 : Int)))) ∧
 ((n = n) ∧
 ((most = most) ∧
 (((0 : Int) = (↑x0 : Int)) ∧
 ((code = code) ∧
 ((nxA (List.length code) a (20 : Int) = nxA (List.length code) a (20 : Int)) ∧
 (nxH h (20 : Int) = nxH h (20 : Int))))))))) ∧
 (∀ x1 : Nat, (((x1 ≤ (4 : Nat)) ∧
 ((nxV code a h (20 : Int) ≠ (0 : Int)) ∧
 (kU n most (4 : Nat) (0 : Int) = kU n most ((4 : Nat) - x1) (↑x1 : Int)))) →
 (BrP (Decidable.decide ((↑x1 : Int) < (4 : Int)))
 ((InR ((↑x1 : Int) + (1 : Int))) ∧
 (((((0 : Int) ≤ n) ∧
 ((n ≤ (12 : Int)) ∧
 (((0 : Int) ≤ (↑x1 : Int) + (1 : Int)) ∧
 ((↑x1 : Int) + (1 : Int) ≤ (1000 : Int))))) ∧
 (True)) ∧
 (BrP (Decidable.decide (pwV n ((↑x1 : Int) + (1 : Int)) ≤ most))
 ((InR ((↑x1 : Int) + (1 : Int))) ∧
 (∃ x2 : Nat, (((x2 ≤ (4 : Nat)) ∧
 ((nxV code a h (20 : Int) ≠ (0 : Int)) ∧
 (kU n most (4 : Nat) (0 : Int) = kU n most ((4 : Nat) - x2) (↑x2 : Int)))) ∧
 (((4 : Nat) - x2 < (4 : Nat) - x1) ∧
 ((n = n) ∧
 ((most = most) ∧
 (((↑x1 : Int) + (1 : Int) = (↑x2 : Int)) ∧
 ((code = code) ∧
 ((nxA (List.length code) a (20 : Int) = nxA (List.length code) a (20 : Int)) ∧
 (nxH h (20 : Int) = nxH h (20 : Int)))))))))))
 ((InR ((↑x1 : Int) + (1 : Int))) ∧
 ((((bytesB code) ∧
 (((0 : Int) ≤ nxA (List.length code) a (20 : Int)) ∧
 (nxA (List.length code) a (20 : Int) ≤ (1099511627776 : Int)))) ∧
 ((code = code) ∧
 (True))) ∧
 ((nxV code (nxA (List.length code) a (20 : Int)) (nxH h (20 : Int)) ((↑x1 : Int) + (1 : Int)) = Prod.fst (degD code a h n most)) ∧
 (((code = code) ∧
 ((nxA (List.length code) (nxA (List.length code) a (20 : Int)) ((↑x1 : Int) + (1 : Int)) = Prod.fst (Prod.snd (degD code a h n most))) ∧
 ((nxH (nxH h (20 : Int)) ((↑x1 : Int) + (1 : Int)) = Prod.snd (Prod.snd (degD code a h n most))) ∧
 (True)))) ∧
 (True))))))))
 ((InR ((↑x1 : Int) + (1 : Int))) ∧
 ((((bytesB code) ∧
 (((0 : Int) ≤ nxA (List.length code) a (20 : Int)) ∧
 (nxA (List.length code) a (20 : Int) ≤ (1099511627776 : Int)))) ∧
 ((code = code) ∧
 (True))) ∧
 ((nxV code (nxA (List.length code) a (20 : Int)) (nxH h (20 : Int)) ((↑x1 : Int) + (1 : Int)) = Prod.fst (degD code a h n most)) ∧
 (((code = code) ∧
 ((nxA (List.length code) (nxA (List.length code) a (20 : Int)) ((↑x1 : Int) + (1 : Int)) = Prod.fst (Prod.snd (degD code a h n most))) ∧
 ((nxH (nxH h (20 : Int)) ((↑x1 : Int) + (1 : Int)) = Prod.snd (Prod.snd (degD code a h n most))) ∧
 (True)))) ∧
 (True)))))))))))
theorem l15Degree_vc (code : List Int) (a : Int) (h : Int) (n : Int) (most : Int) : runF Try.prog (gam l15Degree_G) noWr (l15Degree_ann code a h n most) Try.f78 (bodyOf Try.f78) [(0, 0)] [.box [.ints .u8 (code), .int .i64 (a), .int .u64 (h)], .c (.int .i64 (n)), .c (.int .i64 (most))] (l15Degree_p code a h n most) = l15Degree_V code a h n most := by kernel_rfl
theorem l15Degree_ok (code : List Int) (a : Int) (h : Int) (n : Int) (most : Int) (hpre : (l15Degree_p code a h n most).pre) : l15Degree_V code a h n most := by
  simp only [l15Degree_p, l15Degree_V, BrP_iff, true_and, and_true, decide_eq_true_eq, decide_eq_false_iff_not, bne_iff_ne, beq_iff_eq, bne_eq_false_iff_eq, beq_eq_false_iff_ne, Bool.not_eq_true, Bool.not_eq_false, Bool.not_true, Bool.not_false, Bool.not_eq_eq_eq_not, Int.toNat_natCast, List.length_append, List.length_take, List.length_replicate, List.length_set, List.length_map, List.length_drop, List.length_nil, List.length_cons, markL_length, inB, InR, room, bdsOk] at hpre ⊢
  obtain ⟨hb, h0, h1, h2, h3, h4⟩ := hpre
  have s := nxA_in (n := 20) h0 h1
  refine ⟨⟨hb, h0, by omega⟩, fun z => ?_, fun z => ⟨⟨0, ⟨by omega, z, rfl⟩, rfl⟩, fun j ⟨hj, _, hk⟩ => ?_⟩⟩
  · simp only [degD, if_pos z]; exact ⟨⟨hb, s.1, by omega, by omega, by omega⟩, rfl, rfl, rfl⟩
  have fin : kU n most 4 0 = (j : Int) → nxV code (nxA code.length a 20) (nxH h 20) ((j : Int) + 1) = (degD code a h n most).fst ∧ nxA code.length (nxA code.length a 20) ((j : Int) + 1) = (degD code a h n most).snd.fst ∧ nxH (nxH h 20) ((j : Int) + 1) = (degD code a h n most).snd.snd := fun e => by
    simp only [degD, if_neg z, e]; exact ⟨trivial, trivial, trivial⟩
  refine ⟨fun hl => ?_, fun hl => ⟨by omega, ⟨hb, s.1, by omega⟩, fin (by rw [hk, show 4 - j = 0 by omega]; rfl)⟩⟩
  have st : kU n most (4 - j) (j : Int) = if pwV n ((j : Int) + 1) ≤ most then kU n most (4 - (j + 1)) (((j + 1 : Nat) : Int)) else (j : Int) := by
    rw [show 4 - j = (4 - (j + 1)) + 1 by omega, show ((j + 1 : Nat) : Int) = (j : Int) + 1 by omega]; rfl
  exact ⟨by omega, ⟨by omega, by omega, by omega, by omega⟩, fun y => ⟨by omega, j + 1, ⟨by omega, z, by rw [hk, st, if_pos y]⟩, by omega, by omega⟩, fun y => ⟨by omega, ⟨hb, s.1, by omega⟩, fin (by rw [hk, st, if_neg y])⟩⟩
theorem l15Degree_fits : Fits Try.prog 78 ⟨[(0, 0)], l15Degree_ct⟩ := by
  refine fits_fn (Γ := gam l15Degree_G) (gok_cons l01Next_fits (gok_cons l01Pick_fits (gok_cons l15PowerG_fits gok_nil))) Try.func78 (by kernel_rfl) (by kernel_rfl) (by kernel_rfl) fun ds p h hp => ?_
  unfold l15Degree_ct at h
  split at h
  · cases h
    exact ⟨noWr, l15Degree_ann _ _ _ _ _ , by rw [l15Degree_vc]; exact l15Degree_ok _ _ _ _ _  hp⟩
  · cases h

theorem degB_of' {n k : Int} (h : degB n k = true) : 0 ≤ k ∧ k ≤ 1000 ∧ n ^ k.toNat ≤ 512 := by
  simp only [degB, Bool.and_eq_true, decide_eq_true_eq] at h
  omega

def chL (code : List Int) (size p : Int) : Nat → List Int × Int × Int → List Int × Int × Int
  | 0, s => s
  | j + 1, s => chL code size p j (s.1.set (nxV code s.2.1 s.2.2 size).toNat (nxV code (nxA code.length s.2.1 size) (nxH s.2.2 size) p), nxA code.length (nxA code.length s.2.1 size) p, nxH (nxH s.2.2 size) p)

def chE (code : List Int) (size p : Int) (s : List Int × Int × Int) : List Int × Int × Int :=
  let c := nxV code s.2.1 s.2.2 24
  let a := nxA code.length s.2.1 24
  let h := nxH s.2.2 24
  if c = 0 then (s.1.set (nxV code a h size).toNat (([-1, p] : List Int).getD (nxV code (nxA code.length a size) (nxH h size) 2).toNat 0), nxA code.length (nxA code.length a size) 2, nxH (nxH h size) 2)
  else if c = 1 then (s.1 ++ [0], a, h) else (s.1, a, h)

def chainD (code : List Int) (a h n p k : Int) : List Int × Int × Int :=
  if n < 1 ∨ primeB p = false ∨ degB n k = false then ([0], a, h)
  else chE code (n ^ k.toNat) p (chL code (n ^ k.toNat) p (nxV code a h 6).toNat (List.replicate (n ^ k.toNat).toNat 0, nxA code.length a 6, nxH h 6))

def l15DrawChain_p (code : List Int) (a : Int) (h : Int) (n : Int) (p : Int) (k : Int) : Post := ⟨bytesB code ∧ 0 ≤ a ∧ a ≤ (code.length : Int) ∧ code.length ≤ 4096 ∧ 0 ≤ n ∧ n ≤ 12, .c (.ints 2 .i64 ((chainD code a h n p k).1)), [.bx [.ints .u8 (code), .int .i64 ((chainD code a h n p k).2.1), .int .u64 ((chainD code a h n p k).2.2)]]⟩
def l15DrawChain_ct : List AD → Option Post
  | [.box [.ints .u8 (code), .int .i64 (a), .int .u64 (h)], .c (.int .i64 (n)), .c (.int .i64 (p)), .c (.int .i64 (k))] => some (l15DrawChain_p code a h n p k)
  | _ => none
def l15DrawChain_ann (code : List Int) (a : Int) (h : Int) (n : Int) (p : Int) (k : Int) : Nat → Option Ann
  | 0 => some (Ann.mk ((Nat) × (List Int) × (Int) × (Int)) (fun x => match x with | (j, l, b, g) => ⟨[(0, .c (.ptr 700 0)), (1, .c (.int .i64 (n))), (2, .c (.int .i64 (p))), (3, .c (.int .i64 (k))), (9, .c (.int .i64 (n ^ k.toNat))), (10, .c (.own (30))), (11, .c (.int .i64 ((j : Int))))], [(700, some (.box [.orig 700 0 (.ints .u8 (code)), .int .i64 (b), .int .u64 (g)])), (30, some (.ints 2 .i64 (l)))]⟩) (fun x => match x with | (j, l, b, g) => 1 ≤ n ∧ primeB p = true ∧ degB n k = true ∧ j ≤ 6 ∧ (l.length : Int) = n ^ k.toNat ∧ 0 ≤ b ∧ b ≤ (code.length : Int) ∧ chainD code a h n p k = chE code (n ^ k.toNat) p (chL code (n ^ k.toNat) p j (l, b, g))) (fun x => match x with | (j, l, b, g) => j) (fun _ => noAnn))
  | _ => none
def l15DrawChain_G : List (Nat × Ctr) := [(85, ⟨[(0, 0)], l01Next_ct⟩), (60, ⟨[(0, 0)], l01Pick_ct⟩), (42, ⟨[], l15Prime_ct⟩), (43, ⟨[], l15Allowed_ct⟩), (96, ⟨[], l15Power_ct⟩)]
def l15DrawChain_V (code : List Int) (a : Int) (h : Int) (n : Int) (p : Int) (k : Int) : Prop :=
  (BrP (Decidable.decide (n < (1 : Int)))
 (([(0 : Int)] = Prod.fst (chainD code a h n p k)) ∧
 (((code = code) ∧
 ((a = Prod.fst (Prod.snd (chainD code a h n p k))) ∧
 ((h = Prod.snd (Prod.snd (chainD code a h n p k))) ∧
 (True)))) ∧
 (True)))
 (((True) ∧
 (True)) ∧
 (BrP (!primeB p)
 (([(0 : Int)] = Prod.fst (chainD code a h n p k)) ∧
 (((code = code) ∧
 ((a = Prod.fst (Prod.snd (chainD code a h n p k))) ∧
 ((h = Prod.snd (Prod.snd (chainD code a h n p k))) ∧
 (True)))) ∧
 (True)))
 (((((1 : Int) ≤ n) ∧
 (n ≤ (12 : Int))) ∧
 (True)) ∧
 (BrP (!degB n k)
 (([(0 : Int)] = Prod.fst (chainD code a h n p k)) ∧
 (((code = code) ∧
 ((a = Prod.fst (Prod.snd (chainD code a h n p k))) ∧
 ((h = Prod.snd (Prod.snd (chainD code a h n p k))) ∧
 (True)))) ∧
 (True)))
 (((((1 : Int) ≤ n) ∧
 ((n ≤ (12 : Int)) ∧
 (((0 : Int) ≤ k) ∧
 (k ≤ (1000 : Int))))) ∧
 (True)) ∧
 ((((0 : Int) ≤ if n ^ Int.toNat k ≤ (512 : Int) then n ^ Int.toNat k else (513 : Int)) ∧
 (((if n ^ Int.toNat k ≤ (512 : Int) then n ^ Int.toNat k else (513 : Int)) ≤ if n ^ Int.toNat k ≤ (512 : Int) then n ^ Int.toNat k else (513 : Int)) ∧
 (room (Int.toNat (if n ^ Int.toNat k ≤ (512 : Int) then n ^ Int.toNat k else (513 : Int)))))) ∧
 ((((bytesB code) ∧
 (((0 : Int) ≤ a) ∧
 (a ≤ (1099511627776 : Int)))) ∧
 ((code = code) ∧
 (True))) ∧
 ((∃ x0 : Nat × List Int × Int × Int, ((((1 : Int) ≤ n) ∧
 ((primeB p = Bool.true) ∧
 ((degB n k = Bool.true) ∧
 ((Prod.fst x0 ≤ (6 : Nat)) ∧
 (((↑(List.length (Prod.fst x0.2)) : Int) = n ^ Int.toNat k) ∧
 (((0 : Int) ≤ Prod.fst x0.2.2) ∧
 ((Prod.fst x0.2.2 ≤ (↑(List.length code) : Int)) ∧
 (chainD code a h n p k = chE code (n ^ Int.toNat k) p (chL code (n ^ Int.toNat k) p (Prod.fst x0) (Prod.fst x0.2, Prod.fst x0.2.2, Prod.snd x0.2.2)))))))))) ∧
 ((n = n) ∧
 ((p = p) ∧
 ((k = k) ∧
 (((if n ^ Int.toNat k ≤ (512 : Int) then n ^ Int.toNat k else (513 : Int)) = n ^ Int.toNat k) ∧
 ((nxV code a h (6 : Int) = (↑x0.1 : Int)) ∧
 ((code = code) ∧
 ((nxA (List.length code) a (6 : Int) = x0.2.2.1) ∧
 ((nxH h (6 : Int) = x0.2.2.2) ∧
 (List.replicate (Int.toNat (if n ^ Int.toNat k ≤ (512 : Int) then n ^ Int.toNat k else (513 : Int))) (0 : Int) = x0.2.1))))))))))) ∧
 (∀ x1 : Nat × List Int × Int × Int, ((((1 : Int) ≤ n) ∧
 ((primeB p = Bool.true) ∧
 ((degB n k = Bool.true) ∧
 ((Prod.fst x1 ≤ (6 : Nat)) ∧
 (((↑(List.length (Prod.fst x1.2)) : Int) = n ^ Int.toNat k) ∧
 (((0 : Int) ≤ Prod.fst x1.2.2) ∧
 ((Prod.fst x1.2.2 ≤ (↑(List.length code) : Int)) ∧
 (chainD code a h n p k = chE code (n ^ Int.toNat k) p (chL code (n ^ Int.toNat k) p (Prod.fst x1) (Prod.fst x1.2, Prod.fst x1.2.2, Prod.snd x1.2.2)))))))))) →
 (BrP (Decidable.decide ((0 : Int) < (↑x1.1 : Int)))
 ((((bytesB code) ∧
 (((0 : Int) ≤ x1.2.2.1) ∧
 (x1.2.2.1 ≤ (1099511627776 : Int)))) ∧
 ((code = code) ∧
 (True))) ∧
 ((((bytesB code) ∧
 (((0 : Int) ≤ nxA (List.length code) x1.2.2.1 (n ^ Int.toNat k)) ∧
 (nxA (List.length code) x1.2.2.1 (n ^ Int.toNat k) ≤ (1099511627776 : Int)))) ∧
 ((code = code) ∧
 (True))) ∧
 ((inB (nxV code x1.2.2.1 x1.2.2.2 (n ^ Int.toNat k)) (List.length x1.2.1)) ∧
 ((InR ((↑x1.1 : Int) - (1 : Int))) ∧
 (∃ x2 : Nat × List Int × Int × Int, ((((1 : Int) ≤ n) ∧
 ((primeB p = Bool.true) ∧
 ((degB n k = Bool.true) ∧
 ((Prod.fst x2 ≤ (6 : Nat)) ∧
 (((↑(List.length (Prod.fst x2.2)) : Int) = n ^ Int.toNat k) ∧
 (((0 : Int) ≤ Prod.fst x2.2.2) ∧
 ((Prod.fst x2.2.2 ≤ (↑(List.length code) : Int)) ∧
 (chainD code a h n p k = chE code (n ^ Int.toNat k) p (chL code (n ^ Int.toNat k) p (Prod.fst x2) (Prod.fst x2.2, Prod.fst x2.2.2, Prod.snd x2.2.2)))))))))) ∧
 ((Prod.fst x2 < Prod.fst x1) ∧
 ((n = n) ∧
 ((p = p) ∧
 ((k = k) ∧
 ((n ^ Int.toNat k = n ^ Int.toNat k) ∧
 (((↑x1.1 : Int) - (1 : Int) = (↑x2.1 : Int)) ∧
 ((code = code) ∧
 ((nxA (List.length code) (nxA (List.length code) x1.2.2.1 (n ^ Int.toNat k)) p = x2.2.2.1) ∧
 ((nxH (nxH x1.2.2.2 (n ^ Int.toNat k)) p = x2.2.2.2) ∧
 (List.set x1.2.1 (Int.toNat (nxV code x1.2.2.1 x1.2.2.2 (n ^ Int.toNat k))) (nxV code (nxA (List.length code) x1.2.2.1 (n ^ Int.toNat k)) (nxH x1.2.2.2 (n ^ Int.toNat k)) p) = x2.2.1))))))))))))))))
 ((((bytesB code) ∧
 (((0 : Int) ≤ x1.2.2.1) ∧
 (x1.2.2.1 ≤ (1099511627776 : Int)))) ∧
 ((code = code) ∧
 (True))) ∧
 (BrP (nxV code x1.2.2.1 x1.2.2.2 (24 : Int) == (0 : Int))
 ((((bytesB code) ∧
 (((0 : Int) ≤ nxA (List.length code) x1.2.2.1 (24 : Int)) ∧
 (nxA (List.length code) x1.2.2.1 (24 : Int) ≤ (1099511627776 : Int)))) ∧
 ((code = code) ∧
 (True))) ∧
 ((((bytesB code) ∧
 (((0 : Int) ≤ nxA (List.length code) (nxA (List.length code) x1.2.2.1 (24 : Int)) (n ^ Int.toNat k)) ∧
 ((nxA (List.length code) (nxA (List.length code) x1.2.2.1 (24 : Int)) (n ^ Int.toNat k) ≤ (1099511627776 : Int)) ∧
 (((1 : Nat) ≤ List.length [(-1 : Int), p]) ∧
 (List.length [(-1 : Int), p] ≤ (100 : Nat)))))) ∧
 ((code = code) ∧
 (True))) ∧
 ((inB (nxV code (nxA (List.length code) x1.2.2.1 (24 : Int)) (nxH x1.2.2.2 (24 : Int)) (n ^ Int.toNat k)) (List.length x1.2.1)) ∧
 ((List.set x1.2.1 (Int.toNat (nxV code (nxA (List.length code) x1.2.2.1 (24 : Int)) (nxH x1.2.2.2 (24 : Int)) (n ^ Int.toNat k))) (List.getD [(-1 : Int), p] (Int.toNat (nxV code (nxA (List.length code) (nxA (List.length code) x1.2.2.1 (24 : Int)) (n ^ Int.toNat k)) (nxH (nxH x1.2.2.2 (24 : Int)) (n ^ Int.toNat k)) (↑(List.length [(-1 : Int), p]) : Int))) (0 : Int)) = Prod.fst (chainD code a h n p k)) ∧
 (((code = code) ∧
 ((nxA (List.length code) (nxA (List.length code) (nxA (List.length code) x1.2.2.1 (24 : Int)) (n ^ Int.toNat k)) (↑(List.length [(-1 : Int), p]) : Int) = Prod.fst (Prod.snd (chainD code a h n p k))) ∧
 ((nxH (nxH (nxH x1.2.2.2 (24 : Int)) (n ^ Int.toNat k)) (↑(List.length [(-1 : Int), p]) : Int) = Prod.snd (Prod.snd (chainD code a h n p k))) ∧
 (True)))) ∧
 (True))))))
 (BrP (nxV code x1.2.2.1 x1.2.2.2 (24 : Int) == (1 : Int))
 ((room (List.length x1.2.1 + List.length [(0 : Int)])) ∧
 ((x1.2.1 ++ [(0 : Int)] = Prod.fst (chainD code a h n p k)) ∧
 (((code = code) ∧
 ((nxA (List.length code) x1.2.2.1 (24 : Int) = Prod.fst (Prod.snd (chainD code a h n p k))) ∧
 ((nxH x1.2.2.2 (24 : Int) = Prod.snd (Prod.snd (chainD code a h n p k))) ∧
 (True)))) ∧
 (True))))
 ((x1.2.1 = Prod.fst (chainD code a h n p k)) ∧
 (((code = code) ∧
 ((nxA (List.length code) x1.2.2.1 (24 : Int) = Prod.fst (Prod.snd (chainD code a h n p k))) ∧
 ((nxH x1.2.2.2 (24 : Int) = Prod.snd (Prod.snd (chainD code a h n p k))) ∧
 (True)))) ∧
 (True))))))))))))))))))
theorem l15DrawChain_vc (code : List Int) (a : Int) (h : Int) (n : Int) (p : Int) (k : Int) : runF Try.prog (gam l15DrawChain_G) noWr (l15DrawChain_ann code a h n p k) Try.f79 (bodyOf Try.f79) [(0, 0)] [.box [.ints .u8 (code), .int .i64 (a), .int .u64 (h)], .c (.int .i64 (n)), .c (.int .i64 (p)), .c (.int .i64 (k))] (l15DrawChain_p code a h n p k) = l15DrawChain_V code a h n p k := by kernel_rfl
theorem l15DrawChain_ok (code : List Int) (a : Int) (h : Int) (n : Int) (p : Int) (k : Int) (hpre : (l15DrawChain_p code a h n p k).pre) : l15DrawChain_V code a h n p k := by
  simp only [l15DrawChain_p, l15DrawChain_V, BrP_iff, true_and, and_true, decide_eq_true_eq, decide_eq_false_iff_not, bne_iff_ne, beq_iff_eq, bne_eq_false_iff_eq, beq_eq_false_iff_ne, Bool.not_eq_true, Bool.not_eq_false, Bool.not_true, Bool.not_false, Bool.not_eq_eq_eq_not, Int.toNat_natCast, List.length_append, List.length_take, List.length_replicate, List.length_set, List.length_map, List.length_drop, List.length_nil, List.length_cons, markL_length, inB, InR, room, bdsOk] at hpre ⊢
  obtain ⟨hb, h0, h1, h2, h3, h4⟩ := hpre
  refine ⟨fun z => by simp only [chainD, if_pos (Or.inl z : n < 1 ∨ primeB p = false ∨ degB n k = false)]; exact ⟨trivial, trivial, trivial⟩, fun z => ⟨fun y => by simp only [chainD, if_pos (Or.inr (Or.inl y) : n < 1 ∨ primeB p = false ∨ degB n k = false)]; exact ⟨trivial, trivial, trivial⟩, fun y => ⟨⟨by omega, h4⟩, fun x => by simp only [chainD, if_pos (Or.inr (Or.inr x) : n < 1 ∨ primeB p = false ∨ degB n k = false)]; exact ⟨trivial, trivial, trivial⟩, fun x => ?_⟩⟩⟩
  obtain ⟨d1, d2, d3⟩ := degB_of' x
  have e : chainD code a h n p k = chE code (n ^ k.toNat) p (chL code (n ^ k.toNat) p (nxV code a h 6).toNat (List.replicate (n ^ k.toNat).toNat 0, nxA code.length a 6, nxH h 6)) := by
    rw [chainD, if_neg (by simp [y, x]; omega)]
  have pos := pow_pos' (show 1 ≤ n by omega) k.toNat
  have v := nxV_in hb a h (n := 6) (by omega)
  have s := nxA_in (n := 6) h0 h1
  rw [if_pos d3]
  generalize n ^ k.toNat = N at *
  refine ⟨⟨by omega, h4, by omega, by omega⟩, ⟨by omega, by omega, by omega⟩, ⟨hb, h0, by omega⟩, ⟨((nxV code a h 6).toNat, List.replicate N.toNat 0, nxA code.length a 6, nxH h 6), ?_⟩, ?_⟩
  · dsimp only
    exact ⟨⟨by omega, y, x, by omega, by rw [List.length_replicate]; omega, s.1, s.2, e⟩, rfl, by omega, rfl, rfl, rfl⟩
  rintro ⟨j, l, b, g⟩ ⟨_, _, _, q1, q2, q3, q4, q5⟩
  dsimp only at q1 q2 q3 q4 q5 ⊢
  have w1 := nxV_in hb b g (n := N) (by omega)
  have s1 := nxA_in (n := N) q3 q4
  have s2 := nxA_in (n := p) s1.1 s1.2
  have t1 := nxA_in (n := 24) q3 q4
  have t2 := nxA_in (n := N) t1.1 t1.2
  have w2 := nxV_in hb (nxA code.length b 24) (nxH g 24) (n := N) (by omega)
  refine ⟨fun hl => ⟨⟨hb, q3, by omega⟩, ⟨hb, s1.1, by omega⟩, by omega, by omega, (j - 1, l.set (nxV code b g N).toNat (nxV code (nxA code.length b N) (nxH g N) p), nxA code.length (nxA code.length b N) p, nxH (nxH g N) p), ?_⟩, fun hl => ⟨⟨hb, q3, by omega⟩, fun z1 => ?_, fun z1 => ⟨fun z2 => ?_, fun z2 => ?_⟩⟩⟩
  · dsimp only
    refine ⟨⟨by omega, y, x, by omega, by rw [List.length_set]; exact q2, s2.1, s2.2, ?_⟩, by omega, by omega, rfl, rfl, rfl⟩
    rw [q5, show j = (j - 1) + 1 by omega]; rfl
  · rw [q5, show j = 0 by omega, chL]
    simp only [chE, if_pos z1]
    exact ⟨⟨hb, t1.1, by omega⟩, ⟨hb, t2.1, by omega, by omega, by omega⟩, by omega, rfl, rfl, rfl⟩
  · rw [q5, show j = 0 by omega, chL]
    simp only [chE, if_neg z1, if_pos z2]
    exact ⟨by omega, trivial, trivial, trivial⟩
  · rw [q5, show j = 0 by omega, chL]
    simp only [chE, if_neg z1, if_neg z2]
    exact ⟨trivial, trivial, trivial⟩
theorem l15DrawChain_fits : Fits Try.prog 79 ⟨[(0, 0)], l15DrawChain_ct⟩ := by
  refine fits_fn (Γ := gam l15DrawChain_G) (gok_cons l01Next_fits (gok_cons l01Pick_fits (gok_cons l15Prime_fits (gok_cons l15Allowed_fits (gok_cons l15Power_fits gok_nil))))) Try.func79 (by kernel_rfl) (by kernel_rfl) (by kernel_rfl) fun ds p h hp => ?_
  unfold l15DrawChain_ct at h
  split at h
  · cases h
    exact ⟨noWr, l15DrawChain_ann _ _ _ _ _ _ , by rw [l15DrawChain_vc]; exact l15DrawChain_ok _ _ _ _ _ _  hp⟩
  · cases h

def big_p (code : List Int) : Post := ⟨True, .c (.bool (decide (4096 < (code.length : Int)))), []⟩
def big_ct : List AD → Option Post
  | [.c (.ints .u8 (code))] => some (big_p code)
  | _ => none
def big_G : List (Nat × Ctr) := []
def big_V (code : List Int) : Prop :=
  ((Decidable.decide ((4096 : Int) < (↑(List.length code) : Int)) = Decidable.decide ((4096 : Int) < (↑(List.length code) : Int))) ∧
 (True))
theorem big_vc (code : List Int) : runF Try.prog (gam big_G) noWr noAnn Try.f16 (bodyOf Try.f16) [] [.c (.ints .u8 (code))] (big_p code) = big_V code := by kernel_rfl
theorem big_ok (code : List Int) (hpre : (big_p code).pre) : big_V code := by
  simp only [big_p, big_V, BrP_iff, true_and, and_true, decide_eq_true_eq, decide_eq_false_iff_not, bne_iff_ne, beq_iff_eq, bne_eq_false_iff_eq, beq_eq_false_iff_ne, Bool.not_eq_true, Bool.not_eq_false, Bool.not_true, Bool.not_false, Bool.not_eq_eq_eq_not, Int.toNat_natCast, List.length_append, List.length_take, List.length_replicate, List.length_set, List.length_map, List.length_drop, List.length_nil, List.length_cons, markL_length, inB, InR, room, bdsOk] at hpre ⊢
theorem big_fits : Fits Try.prog 16 ⟨[], big_ct⟩ := by
  refine fits_fn (Γ := gam big_G) gok_nil Try.func16 (by kernel_rfl) (by kernel_rfl) (by kernel_rfl) fun ds p h hp => ?_
  unfold big_ct at h
  split at h
  · cases h
    exact ⟨noWr, noAnn, by rw [big_vc]; exact big_ok _  hp⟩
  · cases h

def likeInts_p (a : List Int) (b : List Int) : Post := ⟨room a.length, .c (.bool (decide (a = b))), []⟩
def likeInts_ct : List AD → Option Post
  | [.c (.ints .i64 (a)), .c (.ints .i64 (b))] => some (likeInts_p a b)
  | _ => none
def likeInts_ann (a : List Int) (b : List Int) : Nat → Option Ann
  | 0 => some (Ann.mk ((Nat)) (fun i => ⟨[(0, .c (.ro (.ints .i64 (a)))), (1, .c (.ro (.ints .i64 (b)))), (5, .c (.int .i64 ((i : Int))))], []⟩) (fun i => i ≤ a.length ∧ a.length = b.length ∧ a.take i = b.take i) (fun i => a.length - i) (fun _ => noAnn))
  | _ => none
def likeInts_G : List (Nat × Ctr) := []
def likeInts_V (a : List Int) (b : List Int) : Prop :=
  (BrP ((↑(List.length a) : Int) != (↑(List.length b) : Int))
 ((Bool.false = Decidable.decide (a = b)) ∧
 (True))
 ((∃ x0 : Nat, (((x0 ≤ List.length a) ∧
 ((List.length a = List.length b) ∧
 (List.take x0 a = List.take x0 b))) ∧
 ((a = a) ∧
 ((b = b) ∧
 ((0 : Int) = (↑x0 : Int)))))) ∧
 (∀ x1 : Nat, (((x1 ≤ List.length a) ∧
 ((List.length a = List.length b) ∧
 (List.take x1 a = List.take x1 b))) →
 (BrP (Decidable.decide ((↑x1 : Int) < (↑(List.length a) : Int)))
 ((inB (↑x1 : Int) (List.length a)) ∧
 ((inB (↑x1 : Int) (List.length b)) ∧
 (BrP (List.getD a (Int.toNat (↑x1 : Int)) (0 : Int) != List.getD b (Int.toNat (↑x1 : Int)) (0 : Int))
 ((Bool.false = Decidable.decide (a = b)) ∧
 (True))
 ((InR ((↑x1 : Int) + (1 : Int))) ∧
 (∃ x2 : Nat, (((x2 ≤ List.length a) ∧
 ((List.length a = List.length b) ∧
 (List.take x2 a = List.take x2 b))) ∧
 ((List.length a - x2 < List.length a - x1) ∧
 ((a = a) ∧
 ((b = b) ∧
 ((↑x1 : Int) + (1 : Int) = (↑x2 : Int)))))))))))
 ((Bool.true = Decidable.decide (a = b)) ∧
 (True)))))))
theorem likeInts_vc (a : List Int) (b : List Int) : runF Try.prog (gam likeInts_G) noWr (likeInts_ann a b) Try.f31 (bodyOf Try.f31) [] [.c (.ints .i64 (a)), .c (.ints .i64 (b))] (likeInts_p a b) = likeInts_V a b := by kernel_rfl
theorem likeInts_ok (a : List Int) (b : List Int) (hpre : (likeInts_p a b).pre) : likeInts_V a b := by
  simp only [likeInts_p, likeInts_V, BrP_iff, true_and, and_true, decide_eq_true_eq, decide_eq_false_iff_not, bne_iff_ne, beq_iff_eq, bne_eq_false_iff_eq, beq_eq_false_iff_ne, Bool.not_eq_true, Bool.not_eq_false, Bool.not_true, Bool.not_false, Bool.not_eq_eq_eq_not, Int.toNat_natCast, List.length_append, List.length_take, List.length_replicate, List.length_set, List.length_map, List.length_drop, List.length_nil, List.length_cons, markL_length, inB, InR, room, bdsOk] at hpre ⊢
  refine ⟨fun h => ?_, fun h => ⟨⟨0, ⟨by omega, by omega, rfl⟩, by simp⟩, fun i hi => ⟨fun h1 => ⟨by omega, by omega, fun h2 => ?_, fun h2 => ⟨by omega, i + 1, ⟨by omega, hi.2.1, ?_⟩, by omega, by omega⟩⟩, fun h1 => ?_⟩⟩⟩
  · exact (decide_eq_false fun e => h (by rw [e])).symm
  · exact (decide_eq_false fun e => h2 (by rw [e])).symm
  · exact (take_eq_step a b 0 i (by omega) (by omega) hi.2.2).2 h2
  · refine (decide_eq_true ?_).symm
    have := hi.2.2
    rwa [List.take_of_length_le (by omega), List.take_of_length_le (by omega)] at this
theorem likeInts_fits : Fits Try.prog 31 ⟨[], likeInts_ct⟩ := by
  refine fits_fn (Γ := gam likeInts_G) gok_nil Try.func31 (by kernel_rfl) (by kernel_rfl) (by kernel_rfl) fun ds p h hp => ?_
  unfold likeInts_ct at h
  split at h
  · cases h
    exact ⟨noWr, likeInts_ann _ _ , by rw [likeInts_vc]; exact likeInts_ok _ _  hp⟩
  · cases h

def lsS (code : List Int) (m : Int) : Nat → List Int × Int × Int → List Int × Int × Int
  | 0, s => s
  | j + 1, s => lsS code m j (s.1 ++ [nxV code s.2.1 s.2.2 m], nxA code.length s.2.1 m, nxH s.2.2 m)

def list5_p (code : List Int) (a : Int) (h : Int) (n : Int) (m : Int) : Post := ⟨bytesB code ∧ 0 ≤ a ∧ a ≤ (code.length : Int) ∧ code.length ≤ 4096 ∧ n ≤ 1000000 ∧ 1 ≤ m, .c (.ints 2 .i64 ((lsS code m n.toNat ([], a, h)).1)), [.bx [.ints .u8 (code), .int .i64 ((lsS code m n.toNat ([], a, h)).2.1), .int .u64 ((lsS code m n.toNat ([], a, h)).2.2)]]⟩
def list5_ct : List AD → Option Post
  | [.box [.ints .u8 (code), .int .i64 (a), .int .u64 (h)], .c (.int .i64 (n)), .c (.int .i64 (m))] => some (list5_p code a h n m)
  | _ => none
def list5_ann (code : List Int) (a : Int) (h : Int) (n : Int) (m : Int) : Nat → Option Ann
  | 0 => some (Ann.mk ((Nat) × (List Int) × (Int) × (Int)) (fun x => match x with | (j, l, b, g) => ⟨[(0, .c (.ptr 700 0)), (1, .c (.int .i64 (n - (n.toNat - j : Nat)))), (2, .c (.int .i64 (m))), (7, .c (.own (8)))], [(700, some (.box [.orig 700 0 (.ints .u8 (code)), .int .i64 (b), .int .u64 (g)])), (8, some (.ints 2 .i64 (l)))]⟩) (fun x => match x with | (j, l, b, g) => j ≤ n.toNat ∧ l.length = n.toNat - j ∧ 0 ≤ b ∧ b ≤ (code.length : Int) ∧ lsS code m n.toNat ([], a, h) = lsS code m j (l, b, g)) (fun x => match x with | (j, l, b, g) => j) (fun _ => noAnn))
  | _ => none
def list5_G : List (Nat × Ctr) := [(34, ⟨[(0, 0)], below_ct⟩)]
def list5_V (code : List Int) (a : Int) (h : Int) (n : Int) (m : Int) : Prop :=
  ((∃ x0 : Nat × List Int × Int × Int, (((Prod.fst x0 ≤ Int.toNat n) ∧
 ((List.length (Prod.fst x0.2) = Int.toNat n - Prod.fst x0) ∧
 (((0 : Int) ≤ Prod.fst x0.2.2) ∧
 ((Prod.fst x0.2.2 ≤ (↑(List.length code) : Int)) ∧
 (lsS code m (Int.toNat n) ([], a, h) = lsS code m (Prod.fst x0) (Prod.fst x0.2, Prod.fst x0.2.2, Prod.snd x0.2.2)))))) ∧
 ((n = n - (↑(Int.toNat n - x0.1) : Int)) ∧
 ((m = m) ∧
 ((code = code) ∧
 ((a = x0.2.2.1) ∧
 ((h = x0.2.2.2) ∧
 ([] = x0.2.1)))))))) ∧
 (∀ x1 : Nat × List Int × Int × Int, (((Prod.fst x1 ≤ Int.toNat n) ∧
 ((List.length (Prod.fst x1.2) = Int.toNat n - Prod.fst x1) ∧
 (((0 : Int) ≤ Prod.fst x1.2.2) ∧
 ((Prod.fst x1.2.2 ≤ (↑(List.length code) : Int)) ∧
 (lsS code m (Int.toNat n) ([], a, h) = lsS code m (Prod.fst x1) (Prod.fst x1.2, Prod.fst x1.2.2, Prod.snd x1.2.2)))))) →
 (BrP (Decidable.decide ((0 : Int) < n - (↑(Int.toNat n - x1.1) : Int)))
 ((((bytesB code) ∧
 (((0 : Int) ≤ x1.2.2.1) ∧
 (x1.2.2.1 ≤ (1099511627776 : Int)))) ∧
 ((code = code) ∧
 (True))) ∧
 ((room (List.length x1.2.1 + List.length [nxV code x1.2.2.1 x1.2.2.2 m])) ∧
 ((InR (n - (↑(Int.toNat n - x1.1) : Int) - (1 : Int))) ∧
 (∃ x2 : Nat × List Int × Int × Int, (((Prod.fst x2 ≤ Int.toNat n) ∧
 ((List.length (Prod.fst x2.2) = Int.toNat n - Prod.fst x2) ∧
 (((0 : Int) ≤ Prod.fst x2.2.2) ∧
 ((Prod.fst x2.2.2 ≤ (↑(List.length code) : Int)) ∧
 (lsS code m (Int.toNat n) ([], a, h) = lsS code m (Prod.fst x2) (Prod.fst x2.2, Prod.fst x2.2.2, Prod.snd x2.2.2)))))) ∧
 ((Prod.fst x2 < Prod.fst x1) ∧
 ((n - (↑(Int.toNat n - x1.1) : Int) - (1 : Int) = n - (↑(Int.toNat n - x2.1) : Int)) ∧
 ((m = m) ∧
 ((code = code) ∧
 ((nxA (List.length code) x1.2.2.1 m = x2.2.2.1) ∧
 ((nxH x1.2.2.2 m = x2.2.2.2) ∧
 (x1.2.1 ++ [nxV code x1.2.2.1 x1.2.2.2 m] = x2.2.1))))))))))))
 ((x1.2.1 = Prod.fst (lsS code m (Int.toNat n) ([], a, h))) ∧
 (((code = code) ∧
 ((x1.2.2.1 = Prod.fst (Prod.snd (lsS code m (Int.toNat n) ([], a, h)))) ∧
 ((x1.2.2.2 = Prod.snd (Prod.snd (lsS code m (Int.toNat n) ([], a, h)))) ∧
 (True)))) ∧
 (True)))))))
theorem list5_vc (code : List Int) (a : Int) (h : Int) (n : Int) (m : Int) : runF Try.prog (gam list5_G) noWr (list5_ann code a h n m) Try.f33 (bodyOf Try.f33) [(0, 0)] [.box [.ints .u8 (code), .int .i64 (a), .int .u64 (h)], .c (.int .i64 (n)), .c (.int .i64 (m))] (list5_p code a h n m) = list5_V code a h n m := by kernel_rfl
theorem list5_ok (code : List Int) (a : Int) (h : Int) (n : Int) (m : Int) (hpre : (list5_p code a h n m).pre) : list5_V code a h n m := by
  simp only [list5_p, list5_V, BrP_iff, true_and, and_true, decide_eq_true_eq, decide_eq_false_iff_not, bne_iff_ne, beq_iff_eq, bne_eq_false_iff_eq, beq_eq_false_iff_ne, Bool.not_eq_true, Bool.not_eq_false, Bool.not_true, Bool.not_false, Bool.not_eq_eq_eq_not, Int.toNat_natCast, List.length_append, List.length_take, List.length_replicate, List.length_set, List.length_map, List.length_drop, List.length_nil, List.length_cons, markL_length, inB, InR, room, bdsOk] at hpre ⊢
  obtain ⟨hb, h0, h1, h2, h3, h4⟩ := hpre
  refine ⟨⟨(n.toNat, [], a, h), ?_⟩, ?_⟩
  · dsimp only
    exact ⟨⟨Nat.le_refl _, by simp, h0, h1, rfl⟩, by omega, rfl, rfl, rfl⟩
  rintro ⟨j, l, b, g⟩ ⟨q1, q2, q3, q4, q5⟩
  dsimp only at q1 q2 q3 q4 q5 ⊢
  have s1 := nxA_in (n := m) q3 q4
  refine ⟨fun hl => ⟨⟨hb, q3, by omega⟩, by omega, by omega, (j - 1, l ++ [nxV code b g m], nxA code.length b m, nxH g m), ?_⟩, fun hl => ?_⟩
  · dsimp only
    refine ⟨⟨by omega, by rw [List.length_append]; show l.length + 1 = _; omega, s1.1, s1.2, ?_⟩, by omega, by omega, rfl, rfl, rfl⟩
    rw [q5, show j = (j - 1) + 1 by omega]; rfl
  · rw [q5, show j = 0 by omega]; exact ⟨rfl, rfl, rfl⟩
theorem list5_fits : Fits Try.prog 33 ⟨[(0, 0)], list5_ct⟩ := by
  refine fits_fn (Γ := gam list5_G) (gok_cons below_fits gok_nil) Try.func33 (by kernel_rfl) (by kernel_rfl) (by kernel_rfl) fun ds p h hp => ?_
  unfold list5_ct at h
  split at h
  · cases h
    exact ⟨noWr, list5_ann _ _ _ _ _ , by rw [list5_vc]; exact list5_ok _ _ _ _ _  hp⟩
  · cases h

end Go.Sx
end
