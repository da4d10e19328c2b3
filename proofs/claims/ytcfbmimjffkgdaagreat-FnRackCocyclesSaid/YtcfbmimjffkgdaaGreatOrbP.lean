/- OrbP -/
import Derived.Test.YtcfbmimjffkgdaaGreatFil
import Derived.Test.YtcfbmimjffkgdaaGreatDrawY
import Derived.Test.YtcfbmimjffkgdaaGreatRnk
import Derived.Test.YtcfbmimjffkgdaaGreatQb
import Derived.Test.YtcfbmimjffkgdaaGreatRows
import Derived.JoinedOf
import Derived.KernelRfl
import Derived.Test.YtcfbmimjffkgdaaGreatOwn2
import Derived.Test.YtcfbmimjffkgdaaGreatRack
section
section
open Go Go.Proofs
namespace Go.Sx
set_option linter.unusedSimpArgs false
set_option linter.unusedVariables false
set_option linter.unusedVariables false
theorem bd_lin {t : List (List Int)} {p : Int} (hp : 2 ≤ p) {K : Nat} {c : List Int} (hc : inP p c) : ∀ i, i ≤ c.length → rwP p (t.length ^ (K - 1)) (bdF t p K c i) ∧ ∀ q, q < t.length ^ (K - 1) → p ∣ (bdF t p K c i).getD q 0 - sm (fun j => c.getD j 0 * (btF t p K j).getD q 0) i
  | 0, _ => ⟨⟨List.length_replicate .., rep_in (by omega) _⟩, fun q hq => by simp [bdF, sm, List.getD, hq]⟩
  | i + 1, hi => by
    obtain ⟨h1, h2⟩ := bd_lin hp hc (t := t) (K := K) i (by omega)
    have b := btF_ok t hp K i
    have ci := hc i (by omega)
    have eb : ptF t p (digN (t.length : Int) K (i : Int)) K = btF t p K i := rfl
    simp only [bdF, sm]
    split
    · rename_i z
      refine ⟨h1, fun q hq => ?_⟩
      rw [z, Int.zero_mul, Int.add_zero]
      exact h2 q hq
    · refine ⟨by rw [eb]; exact stF_rw (by omega) ci.1 b h1, fun q hq => ?_⟩
      rw [eb]
      have a := stF_mod (by omega) ci.1 b h1 hq
      have e := Int.dvd_add a (h2 q hq)
      rwa [show (stF p (c.getD i 0) (btF t p K i) (bdF t p K c i)).getD q 0 - ((bdF t p K c i).getD q 0 + c.getD i 0 * (btF t p K i).getD q 0) + ((bdF t p K c i).getD q 0 - sm (fun j => c.getD j 0 * (btF t p K j).getD q 0) i) =
        (stF p (c.getD i 0) (btF t p K i) (bdF t p K c i)).getD q 0 - (sm (fun j => c.getD j 0 * (btF t p K j).getD q 0) i + c.getD i 0 * (btF t p K i).getD q 0) by omega] at e
section
variable {t : List (List Int)} {p : Int} (hp : primeB p = true) {K : Nat} {c : List Int}
include hp
end
end Go.Sx
end
section
open Go Go.Proofs
namespace Go.Sx
set_option linter.unusedSimpArgs false
set_option linter.unusedVariables false
def primeD (code : List Int) (a h : Int) : Int × Int × Int :=
  let b := nxA code.length a 20
  let g := nxH h 20
  if nxV code a h 20 = 0 then (([4, 1, 11, 0, -2] : List Int).getD (nxV code b g 5).toNat 0, nxA code.length b 5, nxH g 5)
  else (([2, 3, 5, 7, 2, 3] : List Int).getD (nxV code b g 6).toNat 0, nxA code.length b 6, nxH g 6)
def l15DrawPrime_p (code : List Int) (a : Int) (h : Int) : Post := ⟨bytesB code ∧ 0 ≤ a ∧ a ≤ (code.length : Int) ∧ code.length ≤ 4096, .c (.int .i64 ((primeD code a h).1)), [.bx [.ints .u8 (code), .int .i64 ((primeD code a h).2.1), .int .u64 ((primeD code a h).2.2)]]⟩
def l15DrawPrime_ct : List AD → Option Post
  | [.box [.ints .u8 (code), .int .i64 (a), .int .u64 (h)]] => some (l15DrawPrime_p code a h)
  | _ => none
def l15DrawPrime_G : List (Nat × Ctr) := [(23, ⟨[(0, 0)], l01Next_ct⟩), (52, ⟨[(0, 0)], l01Pick_ct⟩)]
def l15DrawPrime_V (code : List Int) (a : Int) (h : Int) : Prop :=
 ((((bytesB code)∧(((0:Int) ≤ a)∧(a ≤ (1099511627776:Int))))∧((code = code)∧True))∧(BrP (nxV code a h (20:Int) == (0:Int)) ((((bytesB code)∧(((0:Int) ≤ nxA (code.length) a (20:Int))∧((nxA (code.length) a (20:Int) ≤ (1099511627776:Int))∧(((1:Nat) ≤ [(4:Int), (1:Int), (11:Int), (0:Int), (-2:Int)].length)∧([(4:Int), (1:Int), (11:Int), (0:Int), (-2:Int)].length ≤ (100:Nat))))))∧((code = code)∧True))∧(([(4:Int), (1:Int), (11:Int), (0:Int), (-2:Int)].getD ((nxV code (nxA (code.length) a (20:Int)) (nxH h (20:Int)) (↑([(4:Int), (1:Int), (11:Int), (0:Int), (-2:Int)].length):Int)).toNat) (0:Int) = (primeD code a h).1)∧(((code = code)∧((nxA (code.length) (nxA (code.length) a (20:Int)) (↑([(4:Int), (1:Int), (11:Int), (0:Int), (-2:Int)].length):Int) = ((primeD code a h).2).1)∧((nxH (nxH h (20:Int)) (↑([(4:Int), (1:Int), (11:Int), (0:Int), (-2:Int)].length):Int) = ((primeD code a h).2).2)∧True)))∧True))) ((((bytesB code)∧(((0:Int) ≤ nxA (code.length) a (20:Int))∧((nxA (code.length) a (20:Int) ≤ (1099511627776:Int))∧(((1:Nat) ≤ [(2:Int), (3:Int), (5:Int), (7:Int), (2:Int), (3:Int)].length)∧([(2:Int), (3:Int), (5:Int), (7:Int), (2:Int), (3:Int)].length ≤ (100:Nat))))))∧((code = code)∧True))∧(([(2:Int), (3:Int), (5:Int), (7:Int), (2:Int), (3:Int)].getD ((nxV code (nxA (code.length) a (20:Int)) (nxH h (20:Int)) (↑([(2:Int), (3:Int), (5:Int), (7:Int), (2:Int), (3:Int)].length):Int)).toNat) (0:Int) = (primeD code a h).1)∧(((code = code) ∧
 ((nxA (code.length) (nxA (code.length) a (20:Int)) (↑([(2:Int), (3:Int), (5:Int), (7:Int), (2:Int), (3:Int)].length):Int) = ((primeD code a h).2).1)∧((nxH (nxH h (20:Int)) (↑([(2:Int), (3:Int), (5:Int), (7:Int), (2:Int), (3:Int)].length):Int) = ((primeD code a h).2).2)∧True)))∧True)))))
theorem l15DrawPrime_vc (code : List Int) (a : Int) (h : Int) : runF Tryz.prog (gam l15DrawPrime_G) noWr noAnn Tryz.f20 (bodyOf Tryz.f20) [(0, 0)] [.box [.ints .u8 (code), .int .i64 (a), .int .u64 (h)]] (l15DrawPrime_p code a h) = l15DrawPrime_V code a h := by kernel_rfl
theorem l15DrawPrime_ok (code : List Int) (a : Int) (h : Int) (hpre : (l15DrawPrime_p code a h).pre) : l15DrawPrime_V code a h := by
  simp only [l15DrawPrime_p, l15DrawPrime_V, BrP_iff, u1, u2, u3, u4, u5, u6, u7, u8, u9, v1, v2, v3, v4, v5, v6, v7, v8, v9, w1, w2, w3, w4, markL_length, inB, InR, room, bdsOk] at hpre ⊢
  obtain ⟨hb, h0, h1, h2⟩ := hpre
  have s := nxA_in (n := 20) h0 h1
  refine ⟨⟨hb, h0, by omega⟩, fun z => ?_, fun z => ?_⟩
  · simp only [primeD, if_pos z]; exact ⟨⟨hb, s.1, by omega, by omega, by omega⟩, rfl, rfl, rfl⟩
  · simp only [primeD, if_neg z]; exact ⟨⟨hb, s.1, by omega, by omega, by omega⟩, rfl, rfl, rfl⟩
theorem l15DrawPrime_fits : Fits Tryz.prog 20 ⟨[(0, 0)], l15DrawPrime_ct⟩ := by
  refine ffn (Γ := gam l15DrawPrime_G) (gok_cons l01Next_fits (gok_cons l01Pick_fits gok_nil)) Tryz.func20 fun ds p h hp => ?_
  unfold l15DrawPrime_ct at h
  split at h
  · cases h
    exact ⟨noWr, noAnn, by rw [l15DrawPrime_vc]; exact l15DrawPrime_ok _ _ _  hp⟩
  · cases h
theorem degB_of' {n k : Int} (h : degB n k = true) : 0 ≤ k ∧ k ≤ 1000 ∧ n ^ k.toNat ≤ 512 := by
  simp only [degB, Bool.and_eq_true, decide_eq_true_eq] at h
  omega
def chL (code : List Int) (size p : Int) : Nat → List Int × Int × Int → List Int × Int × Int
  | 0, s => s
  | j + 1, s => chL code size p j (s.1.set (nxV code s.2.1 s.2.2 size).toNat (nxV code (nxA code.length s.2.1 size) (nxH s.2.2 size) p), nxA code.length (nxA code.length s.2.1 size) p, nxH (nxH s.2.2 size) p)
def chE (code : List Int) (size p : Int) (s : List Int × Int × Int) : List Int × Int × Int :=
  let c := nxV code s.2.1 s.2.2 24
  let a := nxA code.length s.2.1 24
  let h := nxH s.2.2 24
  if c = 0 then (s.1.set (nxV code a h size).toNat (([-1, p] : List Int).getD (nxV code (nxA code.length a size) (nxH h size) 2).toNat 0), nxA code.length (nxA code.length a size) 2, nxH (nxH h size) 2)
  else if c = 1 then (s.1 ++ [0], a, h) else (s.1, a, h)
def chainD (code : List Int) (a h n p k : Int) : List Int × Int × Int :=
  if n < 1 ∨ primeB p = false ∨ degB n k = false then ([0], a, h)
  else chE code (n ^ k.toNat) p (chL code (n ^ k.toNat) p (nxV code a h 6).toNat (List.replicate (n ^ k.toNat).toNat 0, nxA code.length a 6, nxH h 6))
def l15DrawChain_p (code : List Int) (a : Int) (h : Int) (n : Int) (p : Int) (k : Int) : Post := ⟨bytesB code ∧ 0 ≤ a ∧ a ≤ (code.length : Int) ∧ code.length ≤ 4096 ∧ 0 ≤ n ∧ n ≤ 12, .c (.ints 2 .i64 ((chainD code a h n p k).1)), [.bx [.ints .u8 (code), .int .i64 ((chainD code a h n p k).2.1), .int .u64 ((chainD code a h n p k).2.2)]]⟩
def l15DrawChain_ct : List AD → Option Post
  | [.box [.ints .u8 (code), .int .i64 (a), .int .u64 (h)], .c (.int .i64 (n)), .c (.int .i64 (p)), .c (.int .i64 (k))] => some (l15DrawChain_p code a h n p k)
  | _ => none
def l15DrawChain_ann (code : List Int) (a : Int) (h : Int) (n : Int) (p : Int) (k : Int) : Nat → Option Ann
  | 0 => some (Ann.mk ((Nat) × (List Int) × (Int) × (Int)) (fun x => match x with | (j, l, b, g) => ⟨[(0, .c (.ptr 700 0)), (1, .c (.int .i64 (n))), (2, .c (.int .i64 (p))), (3, .c (.int .i64 (k))), (9, .c (.int .i64 (n ^ k.toNat))), (10, .c (.own (30))), (11, .c (.int .i64 ((j : Int))))], [(700, some (.box [.orig 700 0 (.ints .u8 (code)), .int .i64 (b), .int .u64 (g)])), (30, some (.ints 2 .i64 (l)))]⟩) (fun x => match x with | (j, l, b, g) => 1 ≤ n ∧ primeB p = true ∧ degB n k = true ∧ j ≤ 6 ∧ (l.length : Int) = n ^ k.toNat ∧ 0 ≤ b ∧ b ≤ (code.length : Int) ∧ chainD code a h n p k = chE code (n ^ k.toNat) p (chL code (n ^ k.toNat) p j (l, b, g))) (fun x => match x with | (j, l, b, g) => j) (fun _ => noAnn))
  | _ => none
def l15DrawChain_G : List (Nat × Ctr) := [(23, ⟨[(0, 0)], l01Next_ct⟩), (52, ⟨[(0, 0)], l01Pick_ct⟩), (22, ⟨[], l15Prime_ct⟩), (44, ⟨[], l15Allowed_ct⟩), (56, ⟨[], l15Power_ct⟩)]
def l15DrawChain_V (code : List Int) (a : Int) (h : Int) (n : Int) (p : Int) (k : Int) : Prop :=
 (BrP (decide (n < (1:Int))) (([(0:Int)] = (chainD code a h n p k).1)∧(((code = code)∧((a = ((chainD code a h n p k).2).1)∧((h = ((chainD code a h n p k).2).2)∧True)))∧True)) ((True∧True)∧(BrP (!primeB p) (([(0:Int)] = (chainD code a h n p k).1)∧(((code = code)∧((a = ((chainD code a h n p k).2).1)∧((h = ((chainD code a h n p k).2).2)∧True)))∧True)) (((((1:Int) ≤ n)∧(n ≤ (12:Int)))∧True)∧(BrP (!degB n k) (([(0:Int)] = (chainD code a h n p k).1)∧(((code = code)∧((a = ((chainD code a h n p k).2).1)∧((h = ((chainD code a h n p k).2).2)∧True)))∧True)) (((((1:Int) ≤ n)∧((n ≤ (12:Int))∧(((0:Int) ≤ k)∧(k ≤ (1000:Int)))))∧True)∧((((0:Int) ≤ if n ^ k.toNat ≤ (512:Int) then n ^ k.toNat else (513:Int))∧(((if n ^ k.toNat ≤ (512:Int) then n ^ k.toNat else (513:Int)) ≤ if n ^ k.toNat ≤ (512:Int) then n ^ k.toNat else (513:Int))∧(room ((if n ^ k.toNat ≤ (512:Int) then n ^ k.toNat else (513:Int)).toNat))))∧((((bytesB code)∧(((0:Int) ≤ a)∧(a ≤ (1099511627776:Int))))∧((code = code)∧True))∧((∃ x0 : Nat × List Int × Int × Int, ((((1:Int) ≤ n)∧((primeB p = true)∧((degB n k = true)∧((x0.1 ≤ (6:Nat))∧(((↑((x0.2.1).length):Int) = n ^ k.toNat)∧(((0:Int) ≤ x0.2.2.1)∧((x0.2.2.1 ≤ (↑(code.length):Int))∧(chainD code a h n p k = chE code (n ^ k.toNat) p (chL code (n ^ k.toNat) p (x0.1) (x0.2.1, x0.2.2.1, x0.2.2.2))))))))))∧((n = n)∧((p = p)∧((k = k)∧(((if n ^ k.toNat ≤ (512:Int) then n ^ k.toNat else (513:Int)) = n ^ k.toNat)∧((nxV code a h (6:Int) = (↑x0.1:Int))∧((code = code) ∧
 ((nxA (code.length) a (6:Int) = x0.2.2.1)∧((nxH h (6:Int) = x0.2.2.2)∧(List.replicate ((if n ^ k.toNat ≤ (512:Int) then n ^ k.toNat else (513:Int)).toNat) (0:Int) = x0.2.1)))))))))))∧(∀ x1 : Nat × List Int × Int × Int, ((((1:Int) ≤ n)∧((primeB p = true)∧((degB n k = true)∧((x1.1 ≤ (6:Nat))∧(((↑((x1.2.1).length):Int) = n ^ k.toNat)∧(((0:Int) ≤ x1.2.2.1)∧((x1.2.2.1 ≤ (↑(code.length):Int))∧(chainD code a h n p k = chE code (n ^ k.toNat) p (chL code (n ^ k.toNat) p (x1.1) (x1.2.1, x1.2.2.1, x1.2.2.2)))))))))) → (BrP (decide ((0:Int) < (↑x1.1:Int))) ((((bytesB code)∧(((0:Int) ≤ x1.2.2.1)∧(x1.2.2.1 ≤ (1099511627776:Int))))∧((code = code)∧True))∧((((bytesB code)∧(((0:Int) ≤ nxA (code.length) x1.2.2.1 (n ^ k.toNat))∧(nxA (code.length) x1.2.2.1 (n ^ k.toNat) ≤ (1099511627776:Int))))∧((code = code)∧True))∧((inB (nxV code x1.2.2.1 x1.2.2.2 (n ^ k.toNat)) (x1.2.1.length))∧((InR ((↑x1.1:Int) - (1:Int)))∧(∃ x2 : Nat × List Int × Int × Int, ((((1:Int) ≤ n)∧((primeB p = true)∧((degB n k = true)∧((x2.1 ≤ (6:Nat))∧(((↑((x2.2.1).length):Int) = n ^ k.toNat)∧(((0:Int) ≤ x2.2.2.1)∧((x2.2.2.1 ≤ (↑(code.length):Int))∧(chainD code a h n p k = chE code (n ^ k.toNat) p (chL code (n ^ k.toNat) p (x2.1) (x2.2.1, x2.2.2.1, x2.2.2.2))))))))))∧((x2.1 < x1.1)∧((n = n)∧((p = p)∧((k = k)∧((n ^ k.toNat = n ^ k.toNat)∧(((↑x1.1:Int) - (1:Int) = (↑x2.1:Int))∧((code = code)∧((nxA (code.length) (nxA (code.length) x1.2.2.1 (n ^ k.toNat)) p = x2.2.2.1)∧((nxH (nxH x1.2.2.2 (n ^ k.toNat)) p = x2.2.2.2) ∧
 (List.set x1.2.1 ((nxV code x1.2.2.1 x1.2.2.2 (n ^ k.toNat)).toNat) (nxV code (nxA (code.length) x1.2.2.1 (n ^ k.toNat)) (nxH x1.2.2.2 (n ^ k.toNat)) p) = x2.2.1)))))))))))))))) ((((bytesB code)∧(((0:Int) ≤ x1.2.2.1)∧(x1.2.2.1 ≤ (1099511627776:Int))))∧((code = code)∧True))∧(BrP (nxV code x1.2.2.1 x1.2.2.2 (24:Int) == (0:Int)) ((((bytesB code)∧(((0:Int) ≤ nxA (code.length) x1.2.2.1 (24:Int))∧(nxA (code.length) x1.2.2.1 (24:Int) ≤ (1099511627776:Int))))∧((code = code)∧True))∧((((bytesB code)∧(((0:Int) ≤ nxA (code.length) (nxA (code.length) x1.2.2.1 (24:Int)) (n ^ k.toNat))∧((nxA (code.length) (nxA (code.length) x1.2.2.1 (24:Int)) (n ^ k.toNat) ≤ (1099511627776:Int))∧(((1:Nat) ≤ [(-1:Int), p].length)∧([(-1:Int), p].length ≤ (100:Nat))))))∧((code = code)∧True))∧((inB (nxV code (nxA (code.length) x1.2.2.1 (24:Int)) (nxH x1.2.2.2 (24:Int)) (n ^ k.toNat)) (x1.2.1.length))∧((List.set x1.2.1 ((nxV code (nxA (code.length) x1.2.2.1 (24:Int)) (nxH x1.2.2.2 (24:Int)) (n ^ k.toNat)).toNat) ([(-1:Int), p].getD ((nxV code (nxA (code.length) (nxA (code.length) x1.2.2.1 (24:Int)) (n ^ k.toNat)) (nxH (nxH x1.2.2.2 (24:Int)) (n ^ k.toNat)) (↑([(-1:Int), p].length):Int)).toNat) (0:Int)) = (chainD code a h n p k).1)∧(((code = code)∧((nxA (code.length) (nxA (code.length) (nxA (code.length) x1.2.2.1 (24:Int)) (n ^ k.toNat)) (↑([(-1:Int), p].length):Int) = ((chainD code a h n p k).2).1)∧((nxH (nxH (nxH x1.2.2.2 (24:Int)) (n ^ k.toNat)) (↑([(-1:Int), p].length):Int) = ((chainD code a h n p k).2).2) ∧
 True)))∧True))))) (BrP (nxV code x1.2.2.1 x1.2.2.2 (24:Int) == (1:Int)) ((room (x1.2.1.length + [(0:Int)].length))∧((x1.2.1 ++ [(0:Int)] = (chainD code a h n p k).1)∧(((code = code)∧((nxA (code.length) x1.2.2.1 (24:Int) = ((chainD code a h n p k).2).1)∧((nxH x1.2.2.2 (24:Int) = ((chainD code a h n p k).2).2)∧True)))∧True))) ((x1.2.1 = (chainD code a h n p k).1)∧(((code = code)∧((nxA (code.length) x1.2.2.1 (24:Int) = ((chainD code a h n p k).2).1)∧((nxH x1.2.2.2 (24:Int) = ((chainD code a h n p k).2).2)∧True)))∧True)))))))))))))))))
theorem l15DrawChain_vc (code : List Int) (a : Int) (h : Int) (n : Int) (p : Int) (k : Int) : runF Tryz.prog (gam l15DrawChain_G) noWr (l15DrawChain_ann code a h n p k) Tryz.f24 (bodyOf Tryz.f24) [(0, 0)] [.box [.ints .u8 (code), .int .i64 (a), .int .u64 (h)], .c (.int .i64 (n)), .c (.int .i64 (p)), .c (.int .i64 (k))] (l15DrawChain_p code a h n p k) = l15DrawChain_V code a h n p k := by kernel_rfl
theorem l15DrawChain_ok (code : List Int) (a : Int) (h : Int) (n : Int) (p : Int) (k : Int) (hpre : (l15DrawChain_p code a h n p k).pre) : l15DrawChain_V code a h n p k := by
  simp only [l15DrawChain_p, l15DrawChain_V, BrP_iff, u1, u2, u3, u4, u5, u6, u7, u8, u9, v1, v2, v3, v4, v5, v6, v7, v8, v9, w1, w2, w3, w4, markL_length, inB, InR, room, bdsOk] at hpre ⊢
  obtain ⟨hb, h0, h1, h2, h3, h4⟩ := hpre
  refine ⟨fun z => by simp only [chainD, if_pos (Or.inl z : n < 1 ∨ primeB p = false ∨ degB n k = false)]; exact ⟨trivial, trivial, trivial⟩, fun z => ⟨fun y => by simp only [chainD, if_pos (Or.inr (Or.inl y) : n < 1 ∨ primeB p = false ∨ degB n k = false)]; exact ⟨trivial, trivial, trivial⟩, fun y => ⟨⟨by omega, h4⟩, fun x => by simp only [chainD, if_pos (Or.inr (Or.inr x) : n < 1 ∨ primeB p = false ∨ degB n k = false)]; exact ⟨trivial, trivial, trivial⟩, fun x => ?_⟩⟩⟩
  obtain ⟨d1, d2, d3⟩ := degB_of' x
  have e : chainD code a h n p k = chE code (n ^ k.toNat) p (chL code (n ^ k.toNat) p (nxV code a h 6).toNat (List.replicate (n ^ k.toNat).toNat 0, nxA code.length a 6, nxH h 6)) := by
    rw [chainD, if_neg (by simp [y, x]; omega)]
  have pos := pow_pos' (show 1 ≤ n by omega) k.toNat
  have v := nxV_in hb a h (n := 6) (by omega)
  have s := nxA_in (n := 6) h0 h1
  rw [if_pos d3]
  generalize n ^ k.toNat = N at *
  refine ⟨⟨by omega, h4, by omega, by omega⟩, ⟨by omega, by omega, by omega⟩, ⟨hb, h0, by omega⟩, ⟨((nxV code a h 6).toNat, List.replicate N.toNat 0, nxA code.length a 6, nxH h 6), ?_⟩, ?_⟩
  · dsimp only
    exact ⟨⟨by omega, y, x, by omega, by rw [List.length_replicate]; omega, s.1, s.2, e⟩, rfl, by omega, rfl, rfl, rfl⟩
  rintro ⟨j, l, b, g⟩ ⟨_, _, _, q1, q2, q3, q4, q5⟩
  dsimp only at q1 q2 q3 q4 q5 ⊢
  have w1 := nxV_in hb b g (n := N) (by omega)
  have s1 := nxA_in (n := N) q3 q4
  have s2 := nxA_in (n := p) s1.1 s1.2
  have t1 := nxA_in (n := 24) q3 q4
  have t2 := nxA_in (n := N) t1.1 t1.2
  have w2 := nxV_in hb (nxA code.length b 24) (nxH g 24) (n := N) (by omega)
  refine ⟨fun hl => ⟨⟨hb, q3, by omega⟩, ⟨hb, s1.1, by omega⟩, by omega, by omega, (j - 1, l.set (nxV code b g N).toNat (nxV code (nxA code.length b N) (nxH g N) p), nxA code.length (nxA code.length b N) p, nxH (nxH g N) p), ?_⟩, fun hl => ⟨⟨hb, q3, by omega⟩, fun z1 => ?_, fun z1 => ⟨fun z2 => ?_, fun z2 => ?_⟩⟩⟩
  · dsimp only
    refine ⟨⟨by omega, y, x, by omega, by rw [List.length_set]; exact q2, s2.1, s2.2, ?_⟩, by omega, by omega, rfl, rfl, rfl⟩
    rw [q5, show j = (j - 1) + 1 by omega]; rfl
  · rw [q5, show j = 0 by omega, chL]
    simp only [chE, if_pos z1]
    exact ⟨⟨hb, t1.1, by omega⟩, ⟨hb, t2.1, by omega, by omega, by omega⟩, by omega, rfl, rfl, rfl⟩
  · rw [q5, show j = 0 by omega, chL]
    simp only [chE, if_neg z1, if_pos z2]
    exact ⟨by omega, trivial, trivial, trivial⟩
  · rw [q5, show j = 0 by omega, chL]
    simp only [chE, if_neg z1, if_neg z2]
    exact ⟨trivial, trivial, trivial⟩
theorem l15DrawChain_fits : Fits Tryz.prog 24 ⟨[(0, 0)], l15DrawChain_ct⟩ := by
  refine ffn (Γ := gam l15DrawChain_G) (gok_cons l01Next_fits (gok_cons l01Pick_fits (gok_cons l15Prime_fits (gok_cons l15Allowed_fits (gok_cons l15Power_fits gok_nil))))) Tryz.func24 fun ds p h hp => ?_
  unfold l15DrawChain_ct at h
  split at h
  · cases h
    exact ⟨noWr, l15DrawChain_ann _ _ _ _ _ _ , by rw [l15DrawChain_vc]; exact l15DrawChain_ok _ _ _ _ _ _  hp⟩
  · cases h
def big_p (code : List Int) : Post := ⟨True, .c (.bool (decide (4096 < (code.length : Int)))), []⟩
def big_ct : List AD → Option Post
  | [.c (.ints .u8 (code))] => some (big_p code)
  | _ => none
def big_G : List (Nat × Ctr) := []
def big_V (code : List Int) : Prop :=
 ((decide ((4096:Int) < (↑(code.length):Int)) = decide ((4096:Int) < (↑(code.length):Int)))∧True)
theorem big_vc (code : List Int) : runF Tryz.prog (gam big_G) noWr noAnn Tryz.f4 (bodyOf Tryz.f4) [] [.c (.ints .u8 (code))] (big_p code) = big_V code := by kernel_rfl
theorem big_ok (code : List Int) (hpre : (big_p code).pre) : big_V code := by
  simp only [big_p, big_V, BrP_iff, u1, u2, u3, u4, u5, u6, u7, u8, u9, v1, v2, v3, v4, v5, v6, v7, v8, v9, w1, w2, w3, w4, markL_length, inB, InR, room, bdsOk] at hpre ⊢
theorem big_fits : Fits Tryz.prog 4 ⟨[], big_ct⟩ := by
  refine ffn (Γ := gam big_G) gok_nil Tryz.func4 fun ds p h hp => ?_
  unfold big_ct at h
  split at h
  · cases h
    exact ⟨noWr, noAnn, by rw [big_vc]; exact big_ok _  hp⟩
  · cases h
def likeInts_p (a : List Int) (b : List Int) : Post := ⟨room a.length, .c (.bool (decide (a = b))), []⟩
def likeInts_ct : List AD → Option Post
  | [.c (.ints .i64 (a)), .c (.ints .i64 (b))] => some (likeInts_p a b)
  | _ => none
def likeInts_ann (a : List Int) (b : List Int) : Nat → Option Ann
  | 0 => some (Ann.mk ((Nat)) (fun i => ⟨[(0, .c (.ro (.ints .i64 (a)))), (1, .c (.ro (.ints .i64 (b)))), (5, .c (.int .i64 ((i : Int))))], []⟩) (fun i => i ≤ a.length ∧ a.length = b.length ∧ a.take i = b.take i) (fun i => a.length - i) (fun _ => noAnn))
  | _ => none
def likeInts_G : List (Nat × Ctr) := []
def likeInts_V (a : List Int) (b : List Int) : Prop :=
 (BrP ((↑(a.length):Int) != (↑(b.length):Int)) ((false = decide (a = b))∧True) ((∃ x0 : Nat, (((x0 ≤ a.length)∧((a.length = b.length)∧(List.take x0 a = List.take x0 b)))∧((a = a)∧((b = b)∧((0:Int) = (↑x0:Int))))))∧(∀ x1 : Nat, (((x1 ≤ a.length)∧((a.length = b.length)∧(List.take x1 a = List.take x1 b))) → (BrP (decide ((↑x1:Int) < (↑(a.length):Int))) ((inB (↑x1:Int) (a.length))∧((inB (↑x1:Int) (b.length))∧(BrP (a.getD ((↑x1:Int).toNat) (0:Int) != b.getD ((↑x1:Int).toNat) (0:Int)) ((false = decide (a = b))∧True) ((InR ((↑x1:Int) + (1:Int)))∧(∃ x2 : Nat, (((x2 ≤ a.length)∧((a.length = b.length)∧(List.take x2 a = List.take x2 b)))∧((a.length - x2 < a.length - x1)∧((a = a)∧((b = b)∧((↑x1:Int) + (1:Int) = (↑x2:Int))))))))))) ((true = decide (a = b))∧True))))))
theorem likeInts_vc (a : List Int) (b : List Int) : runF Tryz.prog (gam likeInts_G) noWr (likeInts_ann a b) Tryz.f49 (bodyOf Tryz.f49) [] [.c (.ints .i64 (a)), .c (.ints .i64 (b))] (likeInts_p a b) = likeInts_V a b := by kernel_rfl
theorem likeInts_ok (a : List Int) (b : List Int) (hpre : (likeInts_p a b).pre) : likeInts_V a b := by
  simp only [likeInts_p, likeInts_V, BrP_iff, u1, u2, u3, u4, u5, u6, u7, u8, u9, v1, v2, v3, v4, v5, v6, v7, v8, v9, w1, w2, w3, w4, markL_length, inB, InR, room, bdsOk] at hpre ⊢
  refine ⟨fun h => ?_, fun h => ⟨⟨0, ⟨by omega, by omega, rfl⟩, by simp⟩, fun i hi => ⟨fun h1 => ⟨by omega, by omega, fun h2 => ?_, fun h2 => ⟨by omega, i + 1, ⟨by omega, hi.2.1, ?_⟩, by omega, by omega⟩⟩, fun h1 => ?_⟩⟩⟩
  · exact (decide_eq_false fun e => h (by rw [e])).symm
  · exact (decide_eq_false fun e => h2 (by rw [e])).symm
  · exact (take_eq_step a b 0 i (by omega) (by omega) hi.2.2).2 h2
  · refine (decide_eq_true ?_).symm
    have := hi.2.2
    rwa [List.take_of_length_le (by omega), List.take_of_length_le (by omega)] at this
theorem likeInts_fits : Fits Tryz.prog 49 ⟨[], likeInts_ct⟩ := by
  refine ffn (Γ := gam likeInts_G) gok_nil Tryz.func49 fun ds p h hp => ?_
  unfold likeInts_ct at h
  split at h
  · cases h
    exact ⟨noWr, likeInts_ann _ _ , by rw [likeInts_vc]; exact likeInts_ok _ _  hp⟩
  · cases h
def lsS (code : List Int) (m : Int) : Nat → List Int × Int × Int → List Int × Int × Int
  | 0, s => s
  | j + 1, s => lsS code m j (s.1 ++ [nxV code s.2.1 s.2.2 m], nxA code.length s.2.1 m, nxH s.2.2 m)
def list5_p (code : List Int) (a : Int) (h : Int) (n : Int) (m : Int) : Post := ⟨bytesB code ∧ 0 ≤ a ∧ a ≤ (code.length : Int) ∧ code.length ≤ 4096 ∧ n ≤ 1000000 ∧ 1 ≤ m, .c (.ints 2 .i64 ((lsS code m n.toNat ([], a, h)).1)), [.bx [.ints .u8 (code), .int .i64 ((lsS code m n.toNat ([], a, h)).2.1), .int .u64 ((lsS code m n.toNat ([], a, h)).2.2)]]⟩
def list5_ct : List AD → Option Post
  | [.box [.ints .u8 (code), .int .i64 (a), .int .u64 (h)], .c (.int .i64 (n)), .c (.int .i64 (m))] => some (list5_p code a h n m)
  | _ => none
def list5_ann (code : List Int) (a : Int) (h : Int) (n : Int) (m : Int) : Nat → Option Ann
  | 0 => some (Ann.mk ((Nat) × (List Int) × (Int) × (Int)) (fun x => match x with | (j, l, b, g) => ⟨[(0, .c (.ptr 700 0)), (1, .c (.int .i64 (n - (n.toNat - j : Nat)))), (2, .c (.int .i64 (m))), (7, .c (.own (8)))], [(700, some (.box [.orig 700 0 (.ints .u8 (code)), .int .i64 (b), .int .u64 (g)])), (8, some (.ints 2 .i64 (l)))]⟩) (fun x => match x with | (j, l, b, g) => j ≤ n.toNat ∧ l.length = n.toNat - j ∧ 0 ≤ b ∧ b ≤ (code.length : Int) ∧ lsS code m n.toNat ([], a, h) = lsS code m j (l, b, g)) (fun x => match x with | (j, l, b, g) => j) (fun _ => noAnn))
  | _ => none
def list5_G : List (Nat × Ctr) := [(17, ⟨[(0, 0)], below_ct⟩)]
def list5_V (code : List Int) (a : Int) (h : Int) (n : Int) (m : Int) : Prop :=
 ((∃ x0 : Nat × List Int × Int × Int, (((x0.1 ≤ n.toNat)∧(((x0.2.1).length = n.toNat - x0.1)∧(((0:Int) ≤ x0.2.2.1)∧((x0.2.2.1 ≤ (↑(code.length):Int))∧(lsS code m (n.toNat) ([], a, h) = lsS code m (x0.1) (x0.2.1, x0.2.2.1, x0.2.2.2))))))∧((n = n - (↑(n.toNat - x0.1):Int))∧((m = m)∧((code = code)∧((a = x0.2.2.1)∧((h = x0.2.2.2)∧([] = x0.2.1))))))))∧(∀ x1 : Nat × List Int × Int × Int, (((x1.1 ≤ n.toNat)∧(((x1.2.1).length = n.toNat - x1.1)∧(((0:Int) ≤ x1.2.2.1)∧((x1.2.2.1 ≤ (↑(code.length):Int))∧(lsS code m (n.toNat) ([], a, h) = lsS code m (x1.1) (x1.2.1, x1.2.2.1, x1.2.2.2)))))) → (BrP (decide ((0:Int) < n - (↑(n.toNat - x1.1):Int))) ((((bytesB code)∧(((0:Int) ≤ x1.2.2.1)∧(x1.2.2.1 ≤ (1099511627776:Int))))∧((code = code)∧True))∧((room (x1.2.1.length + [nxV code x1.2.2.1 x1.2.2.2 m].length))∧((InR (n - (↑(n.toNat - x1.1):Int) - (1:Int)))∧(∃ x2 : Nat × List Int × Int × Int, (((x2.1 ≤ n.toNat)∧(((x2.2.1).length = n.toNat - x2.1)∧(((0:Int) ≤ x2.2.2.1)∧((x2.2.2.1 ≤ (↑(code.length):Int))∧(lsS code m (n.toNat) ([], a, h) = lsS code m (x2.1) (x2.2.1, x2.2.2.1, x2.2.2.2))))))∧((x2.1 < x1.1)∧((n - (↑(n.toNat - x1.1):Int) - (1:Int) = n - (↑(n.toNat - x2.1):Int))∧((m = m)∧((code = code)∧((nxA (code.length) x1.2.2.1 m = x2.2.2.1)∧((nxH x1.2.2.2 m = x2.2.2.2)∧(x1.2.1 ++ [nxV code x1.2.2.1 x1.2.2.2 m] = x2.2.1)))))))))))) ((x1.2.1 = (lsS code m (n.toNat) ([], a, h)).1)∧(((code = code)∧((x1.2.2.1 = ((lsS code m (n.toNat) ([], a, h)).2).1)∧((x1.2.2.2 = ((lsS code m (n.toNat) ([], a, h)).2).2) ∧
 True)))∧True))))))
theorem list5_vc (code : List Int) (a : Int) (h : Int) (n : Int) (m : Int) : runF Tryz.prog (gam list5_G) noWr (list5_ann code a h n m) Tryz.f11 (bodyOf Tryz.f11) [(0, 0)] [.box [.ints .u8 (code), .int .i64 (a), .int .u64 (h)], .c (.int .i64 (n)), .c (.int .i64 (m))] (list5_p code a h n m) = list5_V code a h n m := by kernel_rfl
theorem list5_ok (code : List Int) (a : Int) (h : Int) (n : Int) (m : Int) (hpre : (list5_p code a h n m).pre) : list5_V code a h n m := by
  simp only [list5_p, list5_V, BrP_iff, u1, u2, u3, u4, u5, u6, u7, u8, u9, v1, v2, v3, v4, v5, v6, v7, v8, v9, w1, w2, w3, w4, markL_length, inB, InR, room, bdsOk] at hpre ⊢
  obtain ⟨hb, h0, h1, h2, h3, h4⟩ := hpre
  refine ⟨⟨(n.toNat, [], a, h), ?_⟩, ?_⟩
  · dsimp only
    exact ⟨⟨Nat.le_refl _, by simp, h0, h1, rfl⟩, by omega, rfl, rfl, rfl⟩
  rintro ⟨j, l, b, g⟩ ⟨q1, q2, q3, q4, q5⟩
  dsimp only at q1 q2 q3 q4 q5 ⊢
  have s1 := nxA_in (n := m) q3 q4
  refine ⟨fun hl => ⟨⟨hb, q3, by omega⟩, by omega, by omega, (j - 1, l ++ [nxV code b g m], nxA code.length b m, nxH g m), ?_⟩, fun hl => ?_⟩
  · dsimp only
    refine ⟨⟨by omega, by rw [List.length_append]; show l.length + 1 = _; omega, s1.1, s1.2, ?_⟩, by omega, by omega, rfl, rfl, rfl⟩
    rw [q5, show j = (j - 1) + 1 by omega]; rfl
  · rw [q5, show j = 0 by omega]; exact ⟨rfl, rfl, rfl⟩
theorem list5_fits : Fits Tryz.prog 11 ⟨[(0, 0)], list5_ct⟩ := by
  refine ffn (Γ := gam list5_G) (gok_cons below_fits gok_nil) Tryz.func11 fun ds p h hp => ?_
  unfold list5_ct at h
  split at h
  · cases h
    exact ⟨noWr, list5_ann _ _ _ _ _ , by rw [list5_vc]; exact list5_ok _ _ _ _ _  hp⟩
  · cases h
end Go.Sx
end
end
section
open Go Go.Proofs
namespace Go.Sx
set_option linter.unusedSimpArgs false
set_option linter.unusedVariables false
theorem primeD_in {code : List Int} {a h : Int} (h0 : 0 ≤ a) (h1 : a ≤ (code.length : Int)) : 0 ≤ (primeD code a h).2.1 ∧ (primeD code a h).2.1 ≤ (code.length : Int) := by
  have s := nxA_in (n := 20) h0 h1
  unfold primeD
  dsimp only
  split
  · exact nxA_in (n := 5) s.1 s.2
  · exact nxA_in (n := 6) s.1 s.2
theorem chL_in {code : List Int} {size p : Int} : ∀ (j : Nat) (s : List Int × Int × Int), 0 ≤ s.2.1 → s.2.1 ≤ (code.length : Int) → (chL code size p j s).1.length = s.1.length ∧ 0 ≤ (chL code size p j s).2.1 ∧ (chL code size p j s).2.1 ≤ (code.length : Int)
  | 0, s, h0, h1 => ⟨rfl, h0, h1⟩
  | j + 1, s, h0, h1 => by
    have a := nxA_in (n := size) h0 h1
    have b := nxA_in (n := p) a.1 a.2
    have := chL_in (code := code) (size := size) (p := p) j (s.1.set (nxV code s.2.1 s.2.2 size).toNat (nxV code (nxA code.length s.2.1 size) (nxH s.2.2 size) p), nxA code.length (nxA code.length s.2.1 size) p, nxH (nxH s.2.2 size) p) b.1 b.2
    rw [List.length_set] at this
    exact this
theorem chainD_in {code : List Int} {a h n p k : Int} (h0 : 0 ≤ a) (h1 : a ≤ (code.length : Int)) : (chainD code a h n p k).1.length ≤ 513 ∧ 0 ≤ (chainD code a h n p k).2.1 ∧ (chainD code a h n p k).2.1 ≤ (code.length : Int) := by
  unfold chainD
  split
  · exact ⟨by simp, h0, h1⟩
  · rename_i z
    have d : degB n k = true := by
      cases e : degB n k with
      | true => rfl
      | false => exact absurd (Or.inr (Or.inr e)) z
    obtain ⟨d1, d2, d3⟩ := degB_of' d
    have s := nxA_in (n := 6) h0 h1
    have C := chL_in (code := code) (size := n ^ k.toNat) (p := p) (nxV code a h 6).toNat (List.replicate (n ^ k.toNat).toNat 0, nxA code.length a 6, nxH h 6) s.1 s.2
    rw [List.length_replicate] at C
    generalize chL code (n ^ k.toNat) p (nxV code a h 6).toNat (List.replicate (n ^ k.toNat).toNat 0, nxA code.length a 6, nxH h 6) = r at *
    obtain ⟨c1, c2, c3⟩ := C
    have t1 := nxA_in (n := 24) c2 c3
    have t2 := nxA_in (n := n ^ k.toNat) t1.1 t1.2
    have t3 := nxA_in (n := 2) t2.1 t2.2
    unfold chE
    dsimp only
    split
    · exact ⟨by rw [List.length_set]; omega, t3.1, t3.2⟩
    · split
      · exact ⟨by rw [List.length_append]; show r.1.length + 1 ≤ 513; omega, t1.1, t1.2⟩
      · exact ⟨by show r.1.length ≤ 513; omega, t1.1, t1.2⟩
end Go.Sx
end
section
namespace Go.Proofs.YtcfbmimjffkgdaaGreat
theorem band {x y : Bool} (h : x = true) (k : y = true) : (x && y) = true := by rw [h, k]; rfl
set_option maxRecDepth 10000000 in
def joinSigns : { l : List Char // Tryz.prog.initOrder = String.ofList l } := ⟨_, rfl⟩
theorem joinList : Tryz.prog.initOrder.toList = joinSigns.1 := (congrArg String.toList joinSigns.2).trans String.toList_ofList
theorem joinCut : ∃ rest, behindMainWord (wordsSigns Tryz.prog.initOrder.toList) = ['c','u','t'] :: rest := by
  rw [joinList]
  have h : (behindMainWord (wordsSigns joinSigns.1)).head? = some ['c','u','t'] := by kernel_rfl
  cases hb : behindMainWord (wordsSigns joinSigns.1) with
  | nil => rw [hb] at h; cases h
  | cons x y => rw [hb] at h; cases h; exact ⟨y, rfl⟩
theorem joinStrip (rest : List (List Char)) : stripLifts liftWords (['c','u','t'] :: rest) = ([], ['c','u','t'] :: rest) := by rfl
theorem joinHead : Tryz.prog.headLifts = [] := by
  obtain ⟨rest, h⟩ := joinCut
  unfold Program.headLifts
  rw [h, joinStrip]
  rfl
theorem joinLater : Tryz.prog.laysLater = false := by kernel_rfl
theorem joinReflect : Tryz.prog.bearsReflect = false := by kernel_rfl
theorem joinRows : Tryz.prog.doorRows = [] := by kernel_rfl
theorem joinDoor : Tryz.prog.doorFits [] = true := by
  unfold Program.doorFits
  rw [joinRows]
  rfl
theorem mayOf (P : Program) (rest : List (List Char)) (h : behindMainWord (wordsSigns P.initOrder.toList) = ['c','u','t'] :: rest) (h1 : P.laysLater = false) (h2 : P.bearsReflect = false) (h3 : P.doorFits [] = true) : P.mayEnter = true := by
  unfold Program.mayEnter
  rw [h]
  simp only [joinStrip, h1, h2, h3]
  simp
theorem finalOf (P : Program) (rest : List (List Char)) (h : behindMainWord (wordsSigns P.initOrder.toList) = ['c','u','t'] :: rest) (h1 : P.headLifts = []) : (false == P.liftsFinal) = true := by
  unfold Program.liftsFinal
  rw [h, h1]
  rfl
theorem makeOf (P : Program) (rest : List (List Char)) (h : behindMainWord (wordsSigns P.initOrder.toList) = ['c','u','t'] :: rest) : (P.make == some Make.cut) = true := by
  have e1 : (['c','u','t'] == "gc".toList) = false := rfl
  have e2 : (['c','u','t'] == "spec".toList) = false := rfl
  have e3 : (['c','u','t'] == "cut".toList) = true := rfl
  unfold Program.make
  rw [h]
  simp only [e1, e2, e3, Bool.or_false, Bool.true_or, Bool.false_eq_true, if_true, if_false]
  rfl
theorem joinMay : Tryz.prog.mayEnter = true := by
  obtain ⟨rest, h⟩ := joinCut
  exact mayOf _ rest h joinLater joinReflect joinDoor
theorem joinFinal : (false == Tryz.prog.liftsFinal) = true := by
  obtain ⟨rest, h⟩ := joinCut
  exact finalOf _ rest h joinHead
theorem joinMake : (Tryz.prog.make == some Make.cut) = true := by
  obtain ⟨rest, h⟩ := joinCut
  exact makeOf _ rest h
end Go.Proofs.YtcfbmimjffkgdaaGreat
end
section
open Go Go.Proofs
namespace Go.Sx
set_option linter.unusedSimpArgs false
set_option linter.unusedVariables false
def rowQ (t : List (List Int)) (p : Int) (k : Nat) (q : Bool) (i : Nat) : List Int :=
  if q = true then clrN (t.length : Int) ((k : Int) - 1) (ptF t p (digN (t.length : Int) k (i : Int)) k) (ptF t p (digN (t.length : Int) k (i : Int)) k).length else ptF t p (digN (t.length : Int) k (i : Int)) k
def rkR (t : List (List Int)) (p : Int) (k : Nat) (q : Bool) : Nat → List (List Int)
  | 0 => []
  | i + 1 => if q = true ∧ flB (digN (t.length : Int) k (i : Int)) = true then rkR t p k q i else rkR t p k q i ++ [rowQ t p k q i]
def rkA (t : List (List Int)) (p : Int) (k : Int) (q : Bool) : List (List Int) := rkR t p k.toNat q (t.length ^ k.toNat)
def brV (t : List (List Int)) (p : Int) (k : Int) (q : Bool) : Int := if k = 0 then 0 else ((imN p (rkA t p k q) (rkA t p k q).length).length : Int)
theorem clrN_in {p : Int} (hp : 1 ≤ p) {n k : Int} {c : List Int} (hc : inP p c) (i : Nat) : inP p (clrN n k c i) := fun q hq => by
  rw [clrN_length] at hq
  have := hc q hq
  rw [clrN, tab_getD _ _ _ hq]
  split
  · omega
  · exact this
theorem rowQ_ok {t : List (List Int)} {p : Int} (hp : 2 ≤ p) (k : Nat) (q : Bool) (i : Nat) : rwP p (t.length ^ (k - 1)) (rowQ t p k q i) := by
  unfold rowQ
  split
  · exact ⟨by rw [clrN_length, ptF_length, digN_length], clrN_in (by omega) (ptF_in t hp _ _) _⟩
  · exact ⟨by rw [ptF_length, digN_length], ptF_in t hp _ _⟩
theorem rkR_ok {t : List (List Int)} {p : Int} {k : Nat} {q : Bool} (hp : 2 ≤ p) : ∀ i, (rkR t p k q i).length ≤ i ∧ rwsP p (t.length ^ (k - 1)) (rkR t p k q i)
  | 0 => ⟨Nat.le_refl _, fun j hj => by simp [rkR] at hj⟩
  | i + 1 => by
    obtain ⟨a, b⟩ := rkR_ok (t := t) (k := k) (q := q) hp i
    simp only [rkR]
    split
    · exact ⟨by omega, b⟩
    · refine ⟨by simp; omega, fun j hj => ?_⟩
      by_cases e : j < (rkR t p k q i).length
      · rw [snoc_get _ _ e]; exact b j e
      · have : j = (rkR t p k q i).length := by simp at hj; omega
        subst this
        rw [show (rkR t p k q i ++ [rowQ t p k q i]).getD (rkR t p k q i).length [] = rowQ t p k q i by simp [List.getD]]
        exact rowQ_ok hp k q i
def boundaryRank_p (t : List (List Int)) (p : Int) (k : Int) (q : Bool) : Post := ⟨tabB t = true ∧ primeB p = true ∧ degB (t.length : Int) k = true, .c (.int .i64 (brV t p k q)), []⟩
def boundaryRank_ct : List AD → Option Post
  | [.c (.rows .i64 (t)), .c (.int .i64 (p)), .c (.int .i64 (k)), .c (.bool (q))] => some (boundaryRank_p t p k q)
  | _ => none
def boundaryRank_ann (t : List (List Int)) (p : Int) (k : Int) (q : Bool) : Nat → Option Ann
  | 0 => some (Ann.mk ((Nat)) (fun i => ⟨[(0, .c (.ro (.rows .i64 (t)))), (1, .c (.int .i64 (p))), (2, .c (.int .i64 (k))), (3, .c (.bool (q))), (9, .c (.int .i64 ((t.length : Int)))), (10, .c (.own (100))), (20, .c (.int .i64 (((t.length ^ k.toNat : Nat) : Int)))), (21, .c (.int .i64 ((i : Int))))], [(100, some (.rows 0 27 2 .i64 (rkR t p k.toNat q i)))]⟩) (fun i => i ≤ t.length ^ k.toNat ∧ k ≠ 0) (fun i => t.length ^ k.toNat - i) (fun _ => noAnn))
  | _ => none
def boundaryRank_G : List (Nat × Ctr) := [(62, ⟨[], tuplesOf_ct⟩), (64, ⟨[], tupleOf_ct⟩), (86, ⟨[], isDegenerate_ct⟩), (63, ⟨[(4, 0)], addBoundary_ct⟩), (87, ⟨[(2, 0)], withoutDegenerate_ct⟩), (43, ⟨[], reducedRows_ct⟩)]
def boundaryRank_c1 (t : List (List Int)) (p : Int) (k : Int) (x0 : Nat) := (adF t p (digN (↑(t.length):Int) (k.toNat) (↑x0:Int)) (1:Int) (List.replicate (((↑(t.length):Int) ^ (k - (1:Int)).toNat).toNat) (0:Int)) ((digN (↑(t.length):Int) (k.toNat) (↑x0:Int)).length))
def boundaryRank_c2 (t : List (List Int)) (k : Int) := (List.replicate (((↑(t.length):Int) ^ (k - (1:Int)).toNat).toNat) (0:Int))
def boundaryRank_c3 (t : List (List Int)) (k : Int) (x0 : Nat) := (digN (↑(t.length):Int) (k.toNat) (↑x0:Int))
def boundaryRank_V (t : List (List Int)) (p : Int) (k : Int) (q : Bool) : Prop :=
 (BrP (k == (0:Int)) (((0:Int) = brV t p k q)∧True) (((((1:Int) ≤ (↑(t.length):Int))∧(((↑(t.length):Int) ≤ (12:Int))∧(degB (↑(t.length):Int) k = true)))∧True)∧((∃ x0 : Nat, (((x0 ≤ t.length ^ k.toNat)∧(k ≠ (0:Int)))∧((t = t)∧((p = p)∧((k = k)∧((q = q)∧(((↑(t.length):Int) = (↑(t.length):Int))∧(((↑(t.length):Int) ^ k.toNat = (↑(t.length ^ k.toNat):Int))∧(((0:Int) = (↑x0:Int))∧(rkR t p (k.toNat) q x0 = []))))))))))∧(∀ x1 : Nat, (((x1 ≤ t.length ^ k.toNat)∧(k ≠ (0:Int))) → (BrP (decide ((↑x1:Int) < (↑(t.length ^ k.toNat):Int))) (((((1:Int) ≤ (↑(t.length):Int))∧(((0:Int) ≤ k)∧((k ≤ (1000:Int))∧(((0:Int) ≤ (↑x1:Int))∧((↑x1:Int) ≤ (1000000:Int))))))∧True)∧(BrP (q) ((((boundaryRank_c3 t k x1).length ≤ (1000:Nat))∧True)∧(BrP (flB (digN (↑(t.length):Int) (k.toNat) (↑x1:Int))) ((InR ((↑x1:Int) + (1:Int)))∧(∃ x2 : Nat, (((x2 ≤ t.length ^ k.toNat)∧(k ≠ (0:Int)))∧((t.length ^ k.toNat - x2 < t.length ^ k.toNat - x1)∧((t = t)∧((p = p)∧((k = k)∧((q = q)∧(((↑(t.length):Int) = (↑(t.length):Int))∧(((↑(t.length ^ k.toNat):Int) = (↑(t.length ^ k.toNat):Int))∧(((↑x1:Int) + (1:Int) = (↑x2:Int))∧(rkR t p (k.toNat) q x1 = rkR t p (k.toNat) q x2)))))))))))) ((InR (k - (1:Int)))∧(((((1:Int) ≤ (↑(t.length):Int))∧(((↑(t.length):Int) ≤ (12:Int))∧(degB (↑(t.length):Int) (k - (1:Int)) = true)))∧True)∧((((0:Int) ≤ (↑(t.length):Int) ^ (k - (1:Int)).toNat)∧(((↑(t.length):Int) ^ (k - (1:Int)).toNat ≤ (↑(t.length):Int) ^ (k - (1:Int)).toNat)∧(room (((↑(t.length):Int) ^ (k - (1:Int)).toNat).toNat)))) ∧
 ((((bdOk t p (boundaryRank_c3 t k x1))∧(((0:Int) ≤ (1:Int))∧(((1:Int) ≤ p - (1:Int))∧((inP p (boundaryRank_c2 t k))∧((boundaryRank_c2 t k).length = t.length ^ ((boundaryRank_c3 t k x1).length - (1:Nat)))))))∧(((boundaryRank_c1 t p k x1).length = (boundaryRank_c2 t k).length)∧True))∧(BrP (q) ((InR (k - (1:Int)))∧(((((1:Int) ≤ (↑(t.length):Int))∧(((0:Int) ≤ k - (1:Int))∧((k - (1:Int) ≤ (1000:Int))∧((boundaryRank_c1 t p k x1).length ≤ (1000000:Nat)))))∧(((clrN (↑(t.length):Int) (k - (1:Int)) (boundaryRank_c1 t p k x1) ((boundaryRank_c1 t p k x1).length)).length = (boundaryRank_c1 t p k x1).length)∧True))∧((room ((rkR t p (k.toNat) q x1).length + [clrN (↑(t.length):Int) (k - (1:Int)) (boundaryRank_c1 t p k x1) ((boundaryRank_c1 t p k x1).length)].length))∧((InR ((↑x1:Int) + (1:Int)))∧(∃ x3 : Nat, (((x3 ≤ t.length ^ k.toNat)∧(k ≠ (0:Int)))∧((t.length ^ k.toNat - x3 < t.length ^ k.toNat - x1)∧((t = t)∧((p = p)∧((k = k)∧((q = q)∧(((↑(t.length):Int) = (↑(t.length):Int))∧(((↑(t.length ^ k.toNat):Int) = (↑(t.length ^ k.toNat):Int))∧(((↑x1:Int) + (1:Int) = (↑x3:Int))∧(rkR t p (k.toNat) q x1 ++ [clrN (↑(t.length):Int) (k - (1:Int)) (boundaryRank_c1 t p k x1) ((boundaryRank_c1 t p k x1).length)] = rkR t p (k.toNat) q x3))))))))))))))) ((room ((rkR t p (k.toNat) q x1).length + [adF t p (boundaryRank_c3 t k x1) (1:Int) (boundaryRank_c2 t k) ((boundaryRank_c3 t k x1).length)].length))∧((InR ((↑x1:Int) + (1:Int)))∧(∃ x4 : Nat, (((x4 ≤ t.length ^ k.toNat)∧(k ≠ (0:Int))) ∧
 ((t.length ^ k.toNat - x4 < t.length ^ k.toNat - x1)∧((t = t)∧((p = p)∧((k = k)∧((q = q)∧(((↑(t.length):Int) = (↑(t.length):Int))∧(((↑(t.length ^ k.toNat):Int) = (↑(t.length ^ k.toNat):Int))∧(((↑x1:Int) + (1:Int) = (↑x4:Int))∧(rkR t p (k.toNat) q x1 ++ [adF t p (boundaryRank_c3 t k x1) (1:Int) (boundaryRank_c2 t k) ((boundaryRank_c3 t k x1).length)] = rkR t p (k.toNat) q x4)))))))))))))))))))) ((InR (k - (1:Int)))∧(((((1:Int) ≤ (↑(t.length):Int))∧(((↑(t.length):Int) ≤ (12:Int))∧(degB (↑(t.length):Int) (k - (1:Int)) = true)))∧True)∧((((0:Int) ≤ (↑(t.length):Int) ^ (k - (1:Int)).toNat)∧(((↑(t.length):Int) ^ (k - (1:Int)).toNat ≤ (↑(t.length):Int) ^ (k - (1:Int)).toNat)∧(room (((↑(t.length):Int) ^ (k - (1:Int)).toNat).toNat))))∧((((bdOk t p (boundaryRank_c3 t k x1))∧(((0:Int) ≤ (1:Int))∧(((1:Int) ≤ p - (1:Int))∧((inP p (boundaryRank_c2 t k))∧((boundaryRank_c2 t k).length = t.length ^ ((boundaryRank_c3 t k x1).length - (1:Nat)))))))∧(((boundaryRank_c1 t p k x1).length = (boundaryRank_c2 t k).length)∧True))∧(BrP (q) ((InR (k - (1:Int)))∧(((((1:Int) ≤ (↑(t.length):Int))∧(((0:Int) ≤ k - (1:Int))∧((k - (1:Int) ≤ (1000:Int))∧((boundaryRank_c1 t p k x1).length ≤ (1000000:Nat)))))∧(((clrN (↑(t.length):Int) (k - (1:Int)) (boundaryRank_c1 t p k x1) ((boundaryRank_c1 t p k x1).length)).length = (boundaryRank_c1 t p k x1).length)∧True))∧((room ((rkR t p (k.toNat) q x1).length + [clrN (↑(t.length):Int) (k - (1:Int)) (boundaryRank_c1 t p k x1) ((boundaryRank_c1 t p k x1).length)].length)) ∧
 ((InR ((↑x1:Int) + (1:Int)))∧(∃ x5 : Nat, (((x5 ≤ t.length ^ k.toNat)∧(k ≠ (0:Int)))∧((t.length ^ k.toNat - x5 < t.length ^ k.toNat - x1)∧((t = t)∧((p = p)∧((k = k)∧((q = q)∧(((↑(t.length):Int) = (↑(t.length):Int))∧(((↑(t.length ^ k.toNat):Int) = (↑(t.length ^ k.toNat):Int))∧(((↑x1:Int) + (1:Int) = (↑x5:Int))∧(rkR t p (k.toNat) q x1 ++ [clrN (↑(t.length):Int) (k - (1:Int)) (boundaryRank_c1 t p k x1) ((boundaryRank_c1 t p k x1).length)] = rkR t p (k.toNat) q x5))))))))))))))) ((room ((rkR t p (k.toNat) q x1).length + [adF t p (boundaryRank_c3 t k x1) (1:Int) (boundaryRank_c2 t k) ((boundaryRank_c3 t k x1).length)].length))∧((InR ((↑x1:Int) + (1:Int)))∧(∃ x6 : Nat, (((x6 ≤ t.length ^ k.toNat)∧(k ≠ (0:Int)))∧((t.length ^ k.toNat - x6 < t.length ^ k.toNat - x1)∧((t = t)∧((p = p)∧((k = k)∧((q = q)∧(((↑(t.length):Int) = (↑(t.length):Int))∧(((↑(t.length ^ k.toNat):Int) = (↑(t.length ^ k.toNat):Int))∧(((↑x1:Int) + (1:Int) = (↑x6:Int))∧(rkR t p (k.toNat) q x1 ++ [adF t p (boundaryRank_c3 t k x1) (1:Int) (boundaryRank_c2 t k) ((boundaryRank_c3 t k x1).length)] = rkR t p (k.toNat) q x6)))))))))))))))))))) ((((primeB p = true)∧((∃ (N : Nat), rwsP p N (rkR t p (k.toNat) q x1) ∧ (1:Nat) ≤ N ∧ N ≤ (512:Nat))∧((rkR t p (k.toNat) q x1).length ≤ (512:Nat))))∧True)∧(((↑((srtL (imN p (rkR t p (k.toNat) q x1) ((rkR t p (k.toNat) q x1).length))).length):Int) = brV t p k q)∧True))))))))
theorem boundaryRank_vc (t : List (List Int)) (p : Int) (k : Int) (q : Bool) : runF Tryz.prog (gam boundaryRank_G) noWr (boundaryRank_ann t p k q) Tryz.f48 (bodyOf Tryz.f48) [] [.c (.rows .i64 (t)), .c (.int .i64 (p)), .c (.int .i64 (k)), .c (.bool (q))] (boundaryRank_p t p k q) = boundaryRank_V t p k q := by kernel_rfl
theorem boundaryRank_ok (t : List (List Int)) (p : Int) (k : Int) (q : Bool) (hpre : (boundaryRank_p t p k q).pre) : boundaryRank_V t p k q := by
  simp only [boundaryRank_p, boundaryRank_V, boundaryRank_c1, boundaryRank_c2, boundaryRank_c3, BrP_iff, u1, u2, u3, u4, u5, u6, u7, u8, u9, v1, v2, v3, v4, v5, v6, v7, v8, v9, w1, w2, w3, w4, markL_length, inB, InR, room, bdsOk] at hpre ⊢
  obtain ⟨h1, hp, hd⟩ := hpre
  obtain ⟨p2, p7⟩ := primeB_le hp
  obtain ⟨n1, n2, ht⟩ := tabB_of h1
  obtain ⟨k0, k1, N1, eN, N2⟩ := rk_facts h1 hd
  refine ⟨fun hk => by rw [brV, if_pos hk], fun hk => ?_⟩
  obtain ⟨d1, d2, _, _, d5⟩ := deg_sub h1 (show 1 ≤ k by omega) hd
  have eM : (t.length : Int) ^ (k.toNat - 1) = ((t.length ^ (k.toNat - 1) : Nat) : Int) := (Int.natCast_pow _ _).symm
  have d3 := d2
  rw [eM] at d3
  have kc : ((k.toNat : Nat) : Int) = k := by omega
  refine ⟨⟨by omega, by omega, hd⟩, ⟨0, ⟨Nat.zero_le _, hk⟩, eN, rfl, rfl⟩, fun i ⟨hi, _⟩ => ⟨fun h => ?_, fun h => ?_⟩⟩
  · have hx : bdOk t p (digN t.length k.toNat (i : Int)) := dig_ok h1 p2 p7 (by omega) d2 (by omega)
    have ad := ad_zero (t := t) p2 (digN t.length k.toNat (i : Int)) k.toNat
    rw [digN_length] at ad
    have rp : inP p (List.replicate (t.length ^ (k.toNat - 1)) 0) := rep_in (by omega) _
    have pl : (ptF t p (digN t.length k.toNat (i : Int)) k.toNat).length = t.length ^ (k.toNat - 1) := by rw [ptF_length, digN_length]
    have RL := (rkR_ok (t := t) (k := k.toNat) (q := q) p2 i).1
    have r1 : rowQ t p k.toNat q i = if q = true then clrN (t.length : Int) (k - 1) (ptF t p (digN t.length k.toNat (i : Int)) k.toNat) (t.length ^ (k.toNat - 1)) else ptF t p (digN t.length k.toNat (i : Int)) k.toNat := by
      rw [rowQ, kc, pl]
    simp only [d5, eM, Int.toNat_natCast, digN_length, ad, pl, clrN_length]
    cases q with
    | false =>
      have r2 : rkR t p k.toNat false (i + 1) = rkR t p k.toNat false i ++ [ptF t p (digN t.length k.toNat (i : Int)) k.toNat] := by
        rw [rkR, if_neg (by simp), r1, if_neg (by simp)]
      exact ⟨⟨by omega, by omega, by omega, by omega, by omega⟩, fun c => absurd c (by decide), fun _ => ⟨by omega, ⟨by omega, by omega, d1⟩, ⟨by omega, by omega, by omega⟩, ⟨⟨hx, by omega, by omega, rp, trivial⟩, trivial⟩, fun c => absurd c (by decide), fun _ => ⟨by omega, by omega, i + 1, ⟨by omega, hk⟩, by omega, by omega, r2.symm⟩⟩⟩
    | true =>
      refine ⟨⟨by omega, by omega, by omega, by omega, by omega⟩, fun _ => ⟨by omega, fun hf => ⟨by omega, i + 1, ⟨by omega, hk⟩, by omega, by omega, ?_⟩, fun hf => ⟨by omega, ⟨by omega, by omega, d1⟩, ⟨by omega, by omega, by omega⟩, ⟨⟨hx, by omega, by omega, rp, trivial⟩, trivial⟩, fun _ => ⟨by omega, ⟨⟨by omega, by omega, by omega, by omega⟩, trivial⟩, by omega, by omega, i + 1, ⟨by omega, hk⟩, by omega, by omega, ?_⟩, fun c => absurd c (by decide)⟩⟩, fun c => absurd c (by decide)⟩
      · rw [rkR, if_pos ⟨rfl, hf⟩]
      · rw [rkR, if_neg (by rw [hf]; simp), r1, if_pos rfl]
  · have RK := rkR_ok (t := t) (k := k.toNat) (q := q) p2 i
    have e : i = t.length ^ k.toNat := by omega
    have MM : 1 ≤ t.length ^ (k.toNat - 1) := Nat.pow_pos (by omega)
    refine ⟨⟨hp, ⟨_, RK.2, MM, by omega⟩, by omega⟩, ?_⟩
    rw [srtL_len, brV, if_neg hk, rkA, e]
theorem boundaryRank_fits : Fits Tryz.prog 48 ⟨[], boundaryRank_ct⟩ := by
  refine ffn (Γ := gam boundaryRank_G) (gok_cons tuplesOf_fits (gok_cons tupleOf_fits (gok_cons isDegenerate_fits (gok_cons addBoundary_fits (gok_cons withoutDegenerate_fits (gok_cons reducedRows_fits gok_nil)))))) Tryz.func48 fun ds p h hp => ?_
  unfold boundaryRank_ct at h
  split at h
  · cases h
    exact ⟨noWr, boundaryRank_ann _ _ _ _ , by rw [boundaryRank_vc]; exact boundaryRank_ok _ _ _ _  hp⟩
  · cases h
def brC (t : List (List Int)) (p k : Int) : Int × Int := if dgC t p k = 0 then (brV t p k false, 0) else (0, dgC t p k)
def iBR_p (t : List (List Int)) (p : Int) (k : Int) : Post := ⟨roomR t, .tup [.inl (.int .i64 ((brC t p k).1)), .inl (.int .i64 ((brC t p k).2))], []⟩
def iBR_ct : List AD → Option Post
  | [.agg [.rows .i64 (t)], .c (.int .i64 (p)), .c (.int .i64 (k))] => some (iBR_p t p k)
  | _ => none
def iBR_G : List (Nat × Ctr) := [(40, ⟨[], checkDegree_ct⟩), (48, ⟨[], boundaryRank_ct⟩)]
def iBR_V (t : List (List Int)) (p : Int) (k : Int) : Prop :=
 (((roomR t)∧True)∧(BrP (dgC t p k != (0:Int)) ((((0:Int) = (brC t p k).1)∧((dgC t p k = (brC t p k).2)∧True))∧True) ((((tabB t = true)∧((primeB p = true)∧(degB (↑(t.length):Int) k = true)))∧True)∧(((brV t p k false = (brC t p k).1)∧(((0:Int) = (brC t p k).2)∧True))∧True))))
theorem iBR_vc (t : List (List Int)) (p : Int) (k : Int) : runF Tryz.prog (gam iBR_G) noWr noAnn Tryz.f15 (bodyOf Tryz.f15) [] [.agg [.rows .i64 (t)], .c (.int .i64 (p)), .c (.int .i64 (k))] (iBR_p t p k) = iBR_V t p k := by kernel_rfl
theorem iBR_ok (t : List (List Int)) (p : Int) (k : Int) (hpre : (iBR_p t p k).pre) : iBR_V t p k := by
  simp only [iBR_p, iBR_V, BrP_iff, u1, u2, u3, u4, u5, u6, u7, u8, u9, v1, v2, v3, v4, v5, v6, v7, v8, v9, w1, w2, w3, w4, markL_length, inB, InR, room, bdsOk] at hpre ⊢
  refine ⟨hpre, fun h => by rw [brC, if_neg h]; exact ⟨rfl, rfl⟩, fun h => ?_⟩
  obtain ⟨h1, h2, h3, _⟩ := dgC_ok h
  rw [brC, if_pos h]
  exact ⟨⟨rackB_tab h1, h2, h3⟩, rfl, rfl⟩
theorem iBR_fits : Fits Tryz.prog 15 ⟨[], iBR_ct⟩ := by
  refine ffn (Γ := gam iBR_G) (gok_cons checkDegree_fits (gok_cons boundaryRank_fits gok_nil)) Tryz.func15 fun ds p h hp => ?_
  unfold iBR_ct at h
  split at h
  · cases h
    exact ⟨noWr, noAnn, by rw [iBR_vc]; exact iBR_ok _ _ _  hp⟩
  · cases h
theorem rk3 (t : List (List Int)) (p : Int) : rkA t p 3 false = crows t p := by
  have : ∀ i, rkR t p 3 false i = (List.range i).map (crF t p) := fun i => by
    induction i with
    | zero => rfl
    | succ i ih =>
      rw [rkR, if_neg (by simp), ih, List.range_succ, List.map_append]
      rfl
  show rkR t p 3 false (t.length ^ 3) = _
  rw [this, crows, show t.length ^ 3 = t.length * t.length * t.length by simp [Nat.pow_succ]]
theorem basis_rank {t : List (List Int)} {p : Int} (hp : primeB p = true) : ((kbL t p).length : Int) = (t.length : Int) * (t.length : Int) - brV t p 3 false := by
  obtain ⟨p2, _⟩ := primeB_le hp
  have R := crows_rws (t := t) p2
  have a := cba_len hp R
  have b := nfr_all (red_rref hp R).1
  have c := srtL_len (imN p (crows t p) (crows t p).length)
  have e : brV t p 3 false = ((imN p (crows t p) (crows t p).length).length : Int) := by rw [brV, if_neg (by omega), rk3]
  have d : (kbL t p).length = nfr (srtL (imN p (crows t p) (crows t p).length)) 0 (t.length * t.length) := a
  rw [e, sqI]
  omega
def fW (n : Nat) (c : List Int) : List (List Int) := (List.range n).map fun x => (c.drop (x * n)).take n
theorem fW_len (n : Nat) (c : List Int) : (fW n c).length = n := by simp [fW]
theorem fW_get {n : Nat} {c : List Int} {x : Nat} (hx : x < n) : (fW n c).getD x [] = (c.drop (x * n)).take n := by simp [fW, List.getD, hx]
theorem fW_en {n : Nat} {c : List Int} {x y : Nat} (hx : x < n) (hy : y < n) : en (fW n c) x y = c.getD (x * n + y) 0 := by
  rw [en, fW_get hx, take_getD _ _ _ _ hy, drop_getD]
theorem fW_row {n : Nat} {c : List Int} (hl : c.length = n * n) {x : Nat} (hx : x < n) : ((fW n c).getD x []).length = n := by
  have := Nat.mul_le_mul_right n (show x + 1 ≤ n by omega)
  rw [Nat.succ_mul] at this
  rw [fW_get hx, List.length_take, List.length_drop]; omega
theorem fW_mat {n : Nat} {p : Int} {c : List Int} (hp : 2 ≤ p) (hp7 : p ≤ 7) (hc : rwP p (n * n) c) : matB (n : Int) p (fW n c) = true := by
  simp only [matB, matsB, Bool.and_eq_true, decide_eq_true_eq, List.all_eq_true]
  refine ⟨by omega, by rw [fW_len], fun r hr => ?_⟩
  obtain ⟨x, hx, rfl⟩ := List.mem_iff_getElem.1 hr
  rw [fW_len] at hx
  have e : (fW n c).getD x [] = (fW n c)[x]'(by rw [fW_len]; exact hx) := by simp [List.getD, fW_len, hx]
  rw [← e]
  have l := fW_row (n := n) (c := c) hc.1 hx
  simp only [numsB, allW, Bool.and_eq_true, decide_eq_true_eq, List.all_eq_true]
  refine ⟨fun v hv => ?_, by omega⟩
  obtain ⟨y, hy, rfl⟩ := List.mem_iff_getElem.1 hv
  have hy : y < n := by omega
  have g : ((fW n c).getD x []).getD y 0 = ((fW n c).getD x [])[y]'(by omega) := getD_lt _ 0 y (by omega)
  rw [← g]
  have q := fW_en (c := c) hx hy
  rw [en] at q
  rw [q]
  exact hc.2 _ (by rw [hc.1]; exact sqr_lt hx hy)
theorem cocN_iff {t : List (List Int)} {p : Int} {c : List Int} : cocN t p c = true ↔ ∀ i, i < t.length * t.length * t.length → p ∣ sm (fun q => (crF t p i).getD q 0 * c.getD q 0) (t.length * t.length) := by
  simp only [cocN, List.all_eq_true, List.mem_range, decide_eq_true_eq]
  refine forall_congr' fun i => forall_congr' fun _ => ?_
  rw [dot_sm]
  exact ⟨fun h => Int.dvd_of_tmod_eq_zero h, fun h => Int.tmod_eq_zero_of_dvd h⟩
theorem coc_rc {t : List (List Int)} {p : Int} {c : List Int} (ht : tabB t = true) (hp : 2 ≤ p) (hc : rwP p (t.length * t.length) c) : (rcF t p (fW t.length c)).isNone = cocN t p c := by
  rw [Bool.eq_iff_iff, cocN_iff, rc_coc ht hp (g := fun q => c.getD q 0) fun x y hx hy => ⟨fW_en hx hy, by rw [fW_en hx hy]; exact (hc.2 _ (by rw [hc.1]; exact sqr_lt hx hy)).1⟩]
theorem bt_cr (t : List (List Int)) (p : Int) (i : Nat) : btF t p 3 i = crF t p i := rfl
theorem pair_zero {t : List (List Int)} {p : Int} {c d : List Int} (hp : 2 ≤ p) (hc : rwP p (t.length * t.length) c) (hd : rwP p (t.length * t.length * t.length) d) (h : cocN t p c = true) :
    rwP p (t.length * t.length) (bdF t p 3 d d.length) ∧ p ∣ dotN c (bdF t p 3 d d.length) c.length := by
  have e2 : t.length ^ (3 - 1) = t.length * t.length := by simp [Nat.pow_succ]
  obtain ⟨b1, b2⟩ := bd_lin (t := t) hp (K := 3) hd.2 d.length (Nat.le_refl _)
  rw [e2] at b1 b2
  refine ⟨b1, ?_⟩
  rw [hc.1, dot_sm, sm_ext (g := fun q => (bdF t p 3 d d.length).getD q 0 * c.getD q 0) fun q _ => Int.mul_comm _ _]
  refine ort_span (B := crows t p) (fun k hk => ?_) (v := fun q => (bdF t p 3 d d.length).getD q 0) ⟨fun k => d.getD k 0, fun q hq => ?_⟩
  · rw [crows_length] at hk
    rw [sm_ext (g := fun q => (crF t p k).getD q 0 * c.getD q 0) fun q _ => by rw [at2, crows_getD t p k hk]]
    exact cocN_iff.1 h k hk
  · have := b2 q hq
    rw [crows_length, ← hd.1]
    rwa [sm_ext (f := fun k => d.getD k 0 * at2 (crows t p) k q) (g := fun j => d.getD j 0 * (btF t p 3 j).getD q 0) fun k hk => by rw [at2, crows_getD t p k (by rw [← hd.1]; exact hk), bt_cr]]
theorem rcy_ch {t : List (List Int)} {p : Int} {c : List Int} (hr : rackB t = true) (hp : primeB p = true) (hc : rwP p (t.length * t.length) c) : chC t p 2 c = 0 := by
  have n2 := (tabB_of (rackB_tab hr)).2.1
  have sq := sq_le n2
  have e : (t.length : Int) ^ (2 : Int).toNat = ((t.length * t.length : Nat) : Int) := by rw [← Int.natCast_pow]; simp [Nat.pow_succ]
  have d : degB (t.length : Int) 2 = true := by
    simp only [degB, Bool.and_eq_true, decide_eq_true_eq]
    exact ⟨by omega, by rw [e]; omega⟩
  have b : chB t p 2 c = true := by
    simp only [chB, Bool.and_eq_true, decide_eq_true_eq]
    exact ⟨by rw [e, hc.1], inP_allW hc.2⟩
  simp [chC, hr, dgB, hp, d, b]
theorem basis_coc {t : List (List Int)} {p : Int} (hr : rackB t = true) (hp : primeB p = true) {j : Nat} (hj : j < (kbL t p).length) : cocC t p ((kbL t p).getD j []) = (true, 0) := by
  obtain ⟨p2, _⟩ := primeB_le hp
  have R := crows_rws (t := t) p2
  obtain ⟨a, b⟩ := cba_ort hp R hj
  have c := rcy_ch hr hp (c := (kbL t p).getD j []) a
  have d : cocN t p ((kbL t p).getD j []) = true := cocN_iff.2 fun i hi => by
    have := b i (by rw [crows_length]; exact hi)
    rwa [sm_ext (g := fun q => (crF t p i).getD q 0 * ((kbL t p).getD j []).getD q 0) fun q _ => by rw [at2, at2, crows_getD t p i hi]; rfl] at this
  rw [cocC, if_pos c, d]
theorem rcy_of {t : List (List Int)} {p : Int} {c : List Int} (h : (cocC t p c).2 = 0) : rackB t = true ∧ primeB p = true ∧ rwP p (t.length * t.length) c ∧ (cocC t p c).1 = cocN t p c := by
  have hc : chC t p 2 c = 0 := by
    unfold cocC at h
    split at h
    · assumption
    · exact h
  obtain ⟨h1, h2, h3, h4, h5⟩ := chC_ok hc
  obtain ⟨g1, g2, _⟩ := chB_of h4
  refine ⟨h1, h2, ⟨?_, g2⟩, by rw [cocC, if_pos hc]⟩
  rw [g1]; simp [Nat.pow_succ]
def orV (L : List (List Int)) (o : List Int) (i k : Nat) : Int := (L.getD k []).getD (o.getD i 0).toNat 0
def orK (L : List (List Int)) (o : List Int) (i : Nat) : Nat → List Int
  | 0 => o
  | k + 1 => if orV L o i k ∈ orK L o i k then orK L o i k else orK L o i k ++ [orV L o i k]
def orI (L : List (List Int)) (x : Int) : Nat → List Int
  | 0 => [x]
  | i + 1 => if i < (orI L x i).length then orK L (orI L x i) i L.length else orI L x i
def orF (L : List (List Int)) (x : Int) : List Int := orI L x L.length
structure OrOk (n : Nat) (x : Int) (o : List Int) : Prop where
  el : ∀ v ∈ o, 0 ≤ v ∧ v < (n : Int)
  nd : o.Nodup
  hd : ∃ r, o = x :: r
theorem OrOk.le {n : Nat} {x : Int} {o : List Int} (h : OrOk n x o) : o.length ≤ n := by
  have := nodupLe (b := ints n) h.nd fun v hv => by
    have := h.el v hv
    exact ints_mem.2 ⟨this.1, this.2⟩
  rwa [show (ints n).length = n by simp [ints]] at this
theorem orK_ok {L : List (List Int)} (ht : tabB L = true) {x : Int} {o : List Int} (h : OrOk L.length x o) {i : Nat} (hi : i < o.length) : ∀ k, k ≤ L.length → OrOk L.length x (orK L o i k) ∧ ∃ s, orK L o i k = o ++ s
  | 0, _ => ⟨h, [], by simp [orK]⟩
  | k + 1, hk => by
    obtain ⟨a, s, hs⟩ := orK_ok ht h hi k (by omega)
    obtain ⟨n1, n2, tt⟩ := tabB_of ht
    rw [orK]
    split
    · exact ⟨a, s, hs⟩
    · rename_i hn
      have e := h.el _ (getD_mem o 0 i hi)
      have v := (tt k (by omega)).2 (o.getD i 0).toNat (by omega)
      refine ⟨⟨fun w hw => ?_, ?_, ?_⟩, s ++ [orV L o i k], by rw [hs, List.append_assoc]⟩
      · rcases List.mem_append.1 hw with hw | hw
        · exact a.el w hw
        · rw [List.mem_singleton] at hw
          rw [hw]; unfold orV; omega
      · rw [List.nodup_append]
        refine ⟨a.nd, by simp, fun u hu w hw => ?_⟩
        rw [List.mem_singleton] at hw
        rw [hw]
        exact fun e => hn (e ▸ hu)
      · obtain ⟨r, hr⟩ := a.hd
        exact ⟨r ++ [orV L o i k], by rw [hr]; rfl⟩
theorem orI_ok {L : List (List Int)} (ht : tabB L = true) {x : Int} (hx : 0 ≤ x ∧ x < (L.length : Int)) : ∀ i, OrOk L.length x (orI L x i)
  | 0 => ⟨fun v hv => by rw [show v = x by simpa [orI] using hv]; exact hx, by simp [orI], [], rfl⟩
  | i + 1 => by
    have a := orI_ok ht hx i
    rw [orI]
    split
    · rename_i h; exact (orK_ok ht a h L.length (Nat.le_refl _)).1
    · exact a
theorem orI_stop {L : List (List Int)} {x : Int} {i : Nat} (h : (orI L x i).length ≤ i) : ∀ j, orI L x (i + j) = orI L x i
  | 0 => rfl
  | j + 1 => by
    have := orI_stop h j
    show orI L x (i + j + 1) = _
    rw [orI, this, if_neg (by omega)]
def l01Orbit_p (L : List (List Int)) (x : Int) : Post := ⟨tabB L = true ∧ 0 ≤ x ∧ x < (L.length : Int), .c (.ints 2 .i64 (orF L x)), []⟩
def l01Orbit_ct : List AD → Option Post
  | [.c (.rows .i64 (L)), .c (.int .i64 (x))] => some (l01Orbit_p L x)
  | _ => none
def l01Orbit_ann (L : List (List Int)) (x : Int) : Nat → Option Ann
  | 0 => some (Ann.mk ((Nat)) (fun i => ⟨[(0, .c (.ro (.rows .i64 (L)))), (5, .c (.own (9))), (6, .c (.int .i64 ((i : Int))))], [(9, some (.ints 2 .i64 (orI L x i)))]⟩) (fun i => i ≤ (orI L x i).length) (fun i => L.length - i) (fun i => fun b_ => match b_ with | 2 => some (Ann.mk ((Nat)) (fun k => ⟨[(0, .c (.ro (.rows .i64 (L)))), (5, .c (.own (9))), (6, .c (.int .i64 ((i : Int)))), (7, .c (.int .i64 ((k : Int))))], [(9, some (.ints 2 .i64 (orK L (orI L x i) i k)))]⟩) (fun k => k ≤ L.length ∧ i < (orI L x i).length) (fun k => L.length - k) (fun _ => noAnn)) | _ => none))
  | _ => none
def l01Orbit_G : List (Nat × Ctr) := [(47, ⟨[], l01Has_ct⟩)]
def l01Orbit_V (L : List (List Int)) (x : Int) : Prop :=
 ((∃ x0 : Nat, ((x0 ≤ (orI L x x0).length)∧((L = L)∧(((0:Int) = (↑x0:Int))∧([x] = orI L x x0)))))∧(∀ x1 : Nat, ((x1 ≤ (orI L x x1).length) → (BrP (decide ((↑x1:Int) < (↑((orI L x x1).length):Int))) ((∃ x2 : Nat, (((x2 ≤ L.length)∧(x1 < (orI L x x1).length))∧((L = L)∧(((↑x1:Int) = (↑x1:Int))∧(((0:Int) = (↑x2:Int))∧(orI L x x1 = orK L (orI L x x1) x1 x2))))))∧(∀ x3 : Nat, (((x3 ≤ L.length)∧(x1 < (orI L x x1).length)) → (BrP (decide ((↑x3:Int) < (↑(L.length):Int))) ((inB (↑x3:Int) (L.length))∧((inB (↑x1:Int) ((orK L (orI L x x1) x1 x3).length))∧((inB ((orK L (orI L x x1) x1 x3).getD ((↑x1:Int).toNat) (0:Int)) ((L.getD ((↑x3:Int).toNat) []).length))∧((((orK L (orI L x x1) x1 x3).length ≤ (1099511627776:Nat))∧True)∧(BrP (!decide ((List.getD L ((↑x3:Int).toNat) []).getD (((orK L (orI L x x1) x1 x3).getD ((↑x1:Int).toNat) (0:Int)).toNat) (0:Int) ∈ orK L (orI L x x1) x1 x3)) ((inB (↑x3:Int) (L.length))∧((inB (↑x1:Int) ((orK L (orI L x x1) x1 x3).length))∧((inB ((orK L (orI L x x1) x1 x3).getD ((↑x1:Int).toNat) (0:Int)) ((L.getD ((↑x3:Int).toNat) []).length))∧((room ((orK L (orI L x x1) x1 x3).length + [(List.getD L ((↑x3:Int).toNat) []).getD (((orK L (orI L x x1) x1 x3).getD ((↑x1:Int).toNat) (0:Int)).toNat) (0:Int)].length))∧((InR ((↑x3:Int) + (1:Int)))∧(∃ x4 : Nat, (((x4 ≤ L.length)∧(x1 < (orI L x x1).length))∧((L.length - x4 < L.length - x3)∧((L = L)∧(((↑x1:Int) = (↑x1:Int))∧(((↑x3:Int) + (1:Int) = (↑x4:Int)) ∧
 (orK L (orI L x x1) x1 x3 ++ [(List.getD L ((↑x3:Int).toNat) []).getD (((orK L (orI L x x1) x1 x3).getD ((↑x1:Int).toNat) (0:Int)).toNat) (0:Int)] = orK L (orI L x x1) x1 x4)))))))))))) ((InR ((↑x3:Int) + (1:Int)))∧(∃ x5 : Nat, (((x5 ≤ L.length)∧(x1 < (orI L x x1).length))∧((L.length - x5 < L.length - x3)∧((L = L)∧(((↑x1:Int) = (↑x1:Int))∧(((↑x3:Int) + (1:Int) = (↑x5:Int))∧(orK L (orI L x x1) x1 x3 = orK L (orI L x x1) x1 x5))))))))))))) ((InR ((↑x1:Int) + (1:Int)))∧(∃ x6 : Nat, ((x6 ≤ (orI L x x6).length)∧((L.length - x6 < L.length - x1)∧((L = L)∧(((↑x1:Int) + (1:Int) = (↑x6:Int))∧(orK L (orI L x x1) x1 x3 = orI L x x6))))))))))) ((orI L x x1 = orF L x)∧True)))))
theorem l01Orbit_vc (L : List (List Int)) (x : Int) : runF Tryz.prog (gam l01Orbit_G) noWr (l01Orbit_ann L x) Tryz.f90 (bodyOf Tryz.f90) [] [.c (.rows .i64 (L)), .c (.int .i64 (x))] (l01Orbit_p L x) = l01Orbit_V L x := by kernel_rfl
theorem l01Orbit_ok (L : List (List Int)) (x : Int) (hpre : (l01Orbit_p L x).pre) : l01Orbit_V L x := by
  simp only [l01Orbit_p, l01Orbit_V, BrP_iff, u1, u2, u3, u4, u5, u6, u7, u8, u9, v1, v2, v3, v4, v5, v6, v7, v8, v9, w1, w2, w3, w4, markL_length, inB, InR, room, bdsOk] at hpre ⊢
  obtain ⟨ht, hx0, hx1⟩ := hpre
  obtain ⟨n1, n2, tt⟩ := tabB_of ht
  refine ⟨⟨0, Nat.zero_le _, rfl, rfl⟩, fun i hi => ⟨fun h => ⟨⟨0, ⟨Nat.zero_le _, by omega⟩, rfl, rfl⟩, fun k ⟨hk, hi2⟩ => ?_⟩, fun h => ?_⟩⟩
  · have O := orI_ok ht ⟨hx0, hx1⟩ i
    have K := orK_ok ht O hi2 k hk
    have ol := O.le
    have kl := K.1.le
    obtain ⟨s, hs⟩ := K.2
    have sl : (orK L (orI L x i) i k).length = (orI L x i).length + s.length := by rw [hs, List.length_append]
    have g : (orK L (orI L x i) i k).getD i 0 = (orI L x i).getD i 0 := by rw [hs, getD_append_left' _ _ _ _ hi2]
    have e := O.el _ (getD_mem (orI L x i) 0 i hi2)
    refine ⟨fun h2 => ?_, fun h2 => ?_⟩
    · have r := tt k (by omega)
      rw [g]
      have ve : (L.getD k []).getD ((orI L x i).getD i 0).toNat 0 = orV L (orI L x i) i k := rfl
      rw [ve]
      refine ⟨by omega, by omega, by omega, by omega, fun y => ⟨by omega, by omega, by omega, by omega, by omega, k + 1, ⟨by omega, hi2⟩, by omega, by omega, ?_⟩, fun y => ⟨by omega, k + 1, ⟨by omega, hi2⟩, by omega, by omega, ?_⟩⟩
      · rw [orK, if_neg y]
      · rw [orK, if_pos y]
    · have ek : k = L.length := by omega
      subst ek
      have e2 : orI L x (i + 1) = orK L (orI L x i) i L.length := by rw [orI, if_pos hi2]
      exact ⟨by omega, i + 1, by rw [e2]; omega, by omega, by omega, e2.symm⟩
  · have O := (orI_ok ht ⟨hx0, hx1⟩ i).le
    have := orI_stop (L := L) (x := x) (i := i) (by omega) (L.length - i)
    rw [show i + (L.length - i) = L.length by omega] at this
    exact this.symm
theorem l01Orbit_fits : Fits Tryz.prog 90 ⟨[], l01Orbit_ct⟩ := by
  refine ffn (Γ := gam l01Orbit_G) (gok_cons l01Has_fits gok_nil) Tryz.func90 fun ds p h hp => ?_
  unfold l01Orbit_ct at h
  split at h
  · cases h
    exact ⟨noWr, l01Orbit_ann _ _ , by rw [l01Orbit_vc]; exact l01Orbit_ok _ _  hp⟩
  · cases h
def sgN (l o : List Int) (v : Int) : Nat → List Int
  | 0 => l
  | i + 1 => (sgN l o v i).set (o.getD i 0).toNat v
def obN (L : List (List Int)) : Nat → List Int × Int
  | 0 => (List.replicate L.length (-1), 0)
  | x + 1 => if 0 ≤ (obN L x).1.getD x 0 then obN L x else (sgN (obN L x).1 (orF L (x : Int)) (obN L x).2 (orF L (x : Int)).length, (obN L x).2 + 1)
theorem sgN_length (l o : List Int) (v : Int) : ∀ i, (sgN l o v i).length = l.length
  | 0 => rfl
  | i + 1 => by rw [sgN, List.length_set, sgN_length l o v i]
theorem sgN_get {l o : List Int} {v : Int} {q : Nat} (hq : q < l.length) : ∀ i, (sgN l o v i).getD q 0 = l.getD q 0 ∨ (sgN l o v i).getD q 0 = v
  | 0 => .inl rfl
  | i + 1 => by
    rw [sgN, getD_set _ _ _ _ (by rw [sgN_length]; exact hq)]
    split
    · exact .inr rfl
    · exact sgN_get hq i
theorem sgN_hd {l o : List Int} {v : Int} {x : Nat} (hx : x < l.length) (h : (o.getD 0 0).toNat = x) : ∀ i, 1 ≤ i → (sgN l o v i).getD x 0 = v
  | 0, h1 => by omega
  | i + 1, _ => by
    rw [sgN, getD_set _ _ _ _ (by rw [sgN_length]; exact hx)]
    split
    · rfl
    · rename_i hn
      by_cases e : i = 0
      · subst e; exact absurd h.symm hn
      · exact sgN_hd hx h i (by omega)
theorem obN_ok {L : List (List Int)} (ht : tabB L = true) : ∀ x, x ≤ L.length → (obN L x).1.length = L.length ∧ 0 ≤ (obN L x).2 ∧ (obN L x).2 ≤ (x : Int) ∧ (∀ q, q < L.length → -1 ≤ (obN L x).1.getD q 0 ∧ (obN L x).1.getD q 0 ≤ (L.length : Int) - 1) ∧ ∀ q, q < x → 0 ≤ (obN L x).1.getD q 0
  | 0, _ => by
    have n1 := (tabB_of ht).1
    refine ⟨by simp [obN], by simp [obN], by simp [obN], fun q hq => ?_, fun q hq => by omega⟩
    simp [obN, List.getD, hq]
    omega
  | x + 1, hx => by
    obtain ⟨a1, a2, a3, a4, a5⟩ := obN_ok ht x (by omega)
    rw [obN]
    split
    · rename_i h
      refine ⟨a1, a2, by omega, a4, fun q hq => ?_⟩
      by_cases e : q = x
      · rw [e]; exact h
      · exact a5 q (by omega)
    · rename_i h
      have O := orI_ok ht (x := (x : Int)) ⟨by omega, by omega⟩ L.length
      obtain ⟨r, hr⟩ := O.hd
      have hr : orF L (x : Int) = (x : Int) :: r := hr
      refine ⟨by rw [sgN_length]; exact a1, by show 0 ≤ (obN L x).2 + 1; omega, by show (obN L x).2 + 1 ≤ _; omega, fun q hq => ?_, fun q hq => ?_⟩
      · have := a4 q hq
        rcases sgN_get (l := (obN L x).1) (o := orF L (x : Int)) (v := (obN L x).2) (q := q) (by omega) (orF L (x : Int)).length with e | e <;> rw [e] <;> omega
      · by_cases e : q = x
        · subst e
          rw [sgN_hd (by omega) (by rw [hr]; simp) _ (by rw [hr]; simp)]
          exact a2
        · have := a5 q (by omega)
          rcases sgN_get (l := (obN L x).1) (o := orF L (x : Int)) (v := (obN L x).2) (q := q) (by omega) (orF L (x : Int)).length with e | e <;> rw [e] <;> omega
def l01Orbits_p (n : Int) (L : List (List Int)) : Post := ⟨tabB L = true ∧ n = (L.length : Int), .c (.ints 2 .i64 ((obN L L.length).1)), []⟩
def l01Orbits_ct : List AD → Option Post
  | [.c (.int .i64 (n)), .c (.rows .i64 (L))] => some (l01Orbits_p n L)
  | _ => none
def l01Orbits_ann (n : Int) (L : List (List Int)) : Nat → Option Ann
  | 0 => some (Ann.mk ((Nat)) (fun i => ⟨[(0, .c (.int .i64 (n))), (1, .c (.ro (.rows .i64 (L)))), (5, .c (.own (11))), (6, .c (.int .i64 ((i : Int))))], [(11, some (.ints 2 .i64 (List.replicate i (-1))))]⟩) (fun i => i ≤ L.length) (fun i => L.length - i) (fun _ => noAnn))
  | 2 => some (Ann.mk ((Nat)) (fun x => ⟨[(0, .c (.int .i64 (n))), (1, .c (.ro (.rows .i64 (L)))), (5, .c (.own (11))), (7, .c (.int .i64 ((obN L x).2))), (8, .c (.int .i64 ((x : Int))))], [(11, some (.ints 2 .i64 ((obN L x).1)))]⟩) (fun x => x ≤ L.length) (fun x => L.length - x) (fun x => fun b_ => match b_ with | 4 => some (Ann.mk ((Nat)) (fun i => ⟨[(0, .c (.int .i64 (n))), (1, .c (.ro (.rows .i64 (L)))), (5, .c (.own (11))), (7, .c (.int .i64 ((obN L x).2))), (8, .c (.int .i64 ((x : Int)))), (9, .c (.own (32))), (10, .c (.int .i64 ((i : Int))))], [(11, some (.ints 2 .i64 (sgN (obN L x).1 (orF L (x : Int)) (obN L x).2 i))), (32, some (.ints 2 .i64 (orF L (x : Int))))]⟩) (fun i => i ≤ (orF L (x : Int)).length ∧ x < L.length ∧ ¬ 0 ≤ (obN L x).1.getD x 0) (fun i => (orF L (x : Int)).length - i) (fun _ => noAnn)) | _ => none))
  | _ => none
def l01Orbits_G : List (Nat × Ctr) := [(90, ⟨[], l01Orbit_ct⟩)]
def l01Orbits_V (n : Int) (L : List (List Int)) : Prop :=
 ((∃ x0 : Nat, ((x0 ≤ L.length)∧((n = n)∧((L = L)∧(((0:Int) = (↑x0:Int))∧([] = List.replicate x0 (-1:Int)))))))∧(∀ x1 : Nat, ((x1 ≤ L.length) → (BrP (decide ((↑x1:Int) < n)) ((room ((List.replicate x1 (-1:Int)).length + [(-1:Int)].length))∧((InR ((↑x1:Int) + (1:Int)))∧(∃ x2 : Nat, ((x2 ≤ L.length)∧((L.length - x2 < L.length - x1)∧((n = n)∧((L = L)∧(((↑x1:Int) + (1:Int) = (↑x2:Int))∧(List.replicate x1 (-1:Int) ++ [(-1:Int)] = List.replicate x2 (-1:Int)))))))))) ((∃ x3 : Nat, ((x3 ≤ L.length)∧((n = n)∧((L = L)∧(((0:Int) = (obN L x3).2)∧(((0:Int) = (↑x3:Int))∧(List.replicate x1 (-1:Int) = (obN L x3).1)))))))∧(∀ x4 : Nat, ((x4 ≤ L.length) → (BrP (decide ((↑x4:Int) < n)) ((inB (↑x4:Int) (((obN L x4).1).length))∧(BrP (decide ((0:Int) ≤ ((obN L x4).1).getD ((↑x4:Int).toNat) (0:Int))) ((InR ((↑x4:Int) + (1:Int)))∧(∃ x5 : Nat, ((x5 ≤ L.length)∧((L.length - x5 < L.length - x4)∧((n = n)∧((L = L)∧(((obN L x4).2 = (obN L x5).2)∧(((↑x4:Int) + (1:Int) = (↑x5:Int))∧((obN L x4).1 = (obN L x5).1))))))))) ((((tabB L = true)∧(((0:Int) ≤ (↑x4:Int))∧((↑x4:Int) < (↑(L.length):Int))))∧True)∧((∃ x6 : Nat, (((x6 ≤ (orF L (↑x4:Int)).length)∧((x4 < L.length)∧(¬(0:Int) ≤ ((obN L x4).1).getD x4 (0:Int))))∧((n = n)∧((L = L)∧(((obN L x4).2 = (obN L x4).2)∧(((↑x4:Int) = (↑x4:Int))∧(((0:Int) = (↑x6:Int))∧(((obN L x4).1 = sgN ((obN L x4).1) (orF L (↑x4:Int)) ((obN L x4).2) x6)∧(orF L (↑x4:Int) = orF L (↑x4:Int))))))))))∧(∀ x7 : Nat, (((x7 ≤ (orF L (↑x4:Int)).length)∧((x4 < L.length) ∧
 (¬(0:Int) ≤ ((obN L x4).1).getD x4 (0:Int)))) → (BrP (decide ((↑x7:Int) < (↑((orF L (↑x4:Int)).length):Int))) ((inB (↑x7:Int) ((orF L (↑x4:Int)).length))∧((inB ((orF L (↑x4:Int)).getD ((↑x7:Int).toNat) (0:Int)) ((sgN ((obN L x4).1) (orF L (↑x4:Int)) ((obN L x4).2) x7).length))∧((InR ((↑x7:Int) + (1:Int)))∧(∃ x8 : Nat, (((x8 ≤ (orF L (↑x4:Int)).length)∧((x4 < L.length)∧(¬(0:Int) ≤ ((obN L x4).1).getD x4 (0:Int))))∧(((orF L (↑x4:Int)).length - x8 < (orF L (↑x4:Int)).length - x7)∧((n = n)∧((L = L)∧(((obN L x4).2 = (obN L x4).2)∧(((↑x4:Int) = (↑x4:Int))∧(((↑x7:Int) + (1:Int) = (↑x8:Int))∧((List.set (sgN ((obN L x4).1) (orF L (↑x4:Int)) ((obN L x4).2) x7) (((orF L (↑x4:Int)).getD ((↑x7:Int).toNat) (0:Int)).toNat) ((obN L x4).2) = sgN ((obN L x4).1) (orF L (↑x4:Int)) ((obN L x4).2) x8)∧(orF L (↑x4:Int) = orF L (↑x4:Int)))))))))))))) ((InR ((obN L x4).2 + (1:Int)))∧((InR ((↑x4:Int) + (1:Int)))∧(∃ x9 : Nat, ((x9 ≤ L.length)∧((L.length - x9 < L.length - x4)∧((n = n)∧((L = L)∧(((obN L x4).2 + (1:Int) = (obN L x9).2)∧(((↑x4:Int) + (1:Int) = (↑x9:Int))∧(sgN ((obN L x4).1) (orF L (↑x4:Int)) ((obN L x4).2) x7 = (obN L x9).1))))))))))))))))) (((obN L x4).1 = (obN L (L.length)).1)∧True)))))))))
theorem l01Orbits_vc (n : Int) (L : List (List Int)) : runF Tryz.prog (gam l01Orbits_G) noWr (l01Orbits_ann n L) Tryz.f61 (bodyOf Tryz.f61) [] [.c (.int .i64 (n)), .c (.rows .i64 (L))] (l01Orbits_p n L) = l01Orbits_V n L := by kernel_rfl
theorem l01Orbits_ok (n : Int) (L : List (List Int)) (hpre : (l01Orbits_p n L).pre) : l01Orbits_V n L := by
  simp only [l01Orbits_p, l01Orbits_V, BrP_iff, u1, u2, u3, u4, u5, u6, u7, u8, u9, v1, v2, v3, v4, v5, v6, v7, v8, v9, w1, w2, w3, w4, markL_length, inB, InR, room, bdsOk] at hpre ⊢
  obtain ⟨ht, hn⟩ := hpre
  obtain ⟨n1, n2, tt⟩ := tabB_of ht
  refine ⟨⟨0, by omega, rfl, rfl⟩, fun i hi => ⟨fun h => ⟨by omega, by omega, i + 1, by omega, by omega, by omega, by rw [List.replicate_succ']⟩, fun h => ?_⟩⟩
  refine ⟨⟨0, by omega, rfl, rfl, by rw [show i = L.length by omega]; rfl⟩, fun x hx => ⟨fun h => ?_, fun h => ?_⟩⟩
  · obtain ⟨a1, a2, a3, a4, a5⟩ := obN_ok ht x hx
    refine ⟨by omega, fun y => ?_, fun y => ?_⟩
    · exact ⟨by omega, x + 1, by omega, by omega, by rw [obN, if_pos y], by omega, by rw [obN, if_pos y]⟩
    · have O := orI_ok ht (x := (x : Int)) ⟨by omega, by omega⟩ L.length
      have ol : (orF L (x : Int)).length ≤ L.length := O.le
      refine ⟨⟨ht, by omega, by omega⟩, ⟨0, ⟨by omega, by omega, by omega⟩, rfl, rfl⟩, fun i ⟨hi, _, _⟩ => ⟨fun h2 => ?_, fun h2 => ?_⟩⟩
      · have e := O.el _ (getD_mem (orF L (x : Int)) 0 i (by omega))
        have sl := sgN_length (obN L x).1 (orF L (x : Int)) (obN L x).2 i
        exact ⟨by omega, by omega, by omega, i + 1, ⟨by omega, by omega, by omega⟩, by omega, by omega, rfl⟩
      · have y' : ¬ 0 ≤ (obN L x).1.getD x 0 := by omega
        exact ⟨by omega, by omega, x + 1, by omega, by omega, by rw [obN, if_neg y'], by omega, by rw [obN, if_neg y', show i = (orF L (x : Int)).length by omega]⟩
  · rw [show x = L.length by omega]
theorem l01Orbits_fits : Fits Tryz.prog 61 ⟨[], l01Orbits_ct⟩ := by
  refine ffn (Γ := gam l01Orbits_G) (gok_cons l01Orbit_fits gok_nil) Tryz.func61 fun ds p h hp => ?_
  unfold l01Orbits_ct at h
  split at h
  · cases h
    exact ⟨noWr, l01Orbits_ann _ _ , by rw [l01Orbits_vc]; exact l01Orbits_ok _ _  hp⟩
  · cases h
end Go.Sx
end
