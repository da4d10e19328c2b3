/- RnkL -/
import Derived.Test.YtbppifmljnnogaaGreatRnkR
import Derived.Test.YtbppifmljnnogaaGreatMat
open Go Go.Proofs
namespace Go.Sx
set_option linter.unusedSimpArgs false
set_option linter.unusedVariables false
theorem spN_len (p : Int) (R : List (List Int)) : ∀ i, (spN p R i).1.length ≤ i
  | 0 => Nat.le_refl _
  | i + 1 => by
    have := spN_len p R i
    simp only [spN]
    split
    · simp; omega
    · omega
def l15Rank_p (R : List (List Int)) (p : Int) : Post := ⟨primeB p = true ∧ (∃ N, rwsP p N R ∧ 1 ≤ N ∧ N ≤ 512) ∧ R.length ≤ 512, .c (.int .i64 (((spN p R R.length).1.length : Nat))), []⟩
def l15Rank_ct : List AD → Option Post
  | [.c (.rows .i64 (R)), .c (.int .i64 (p))] => some (l15Rank_p R p)
  | _ => none
def l15Rank_ann (R : List (List Int)) (p : Int) : Nat → Option Ann
  | 0 => some (Ann.mk ((Nat)) (fun i => ⟨[(0, .c (.ro (.rows .i64 (R)))), (1, .c (.int .i64 (p))), (5, .c (.own (100))), (6, .c (.own (102))), (7, .c (.int .i64 ((i : Int))))], [(100, some (.rows 0 31 2 .i64 ((spN p R i).1))), (102, some (.ints 2 .i64 ((spN p R i).2)))]⟩) (fun i => i ≤ R.length) (fun i => R.length - i) (fun i => fun b_ => match b_ with | 2 => some (Ann.mk ((Nat)) (fun k => ⟨[(0, .c (.ro (.rows .i64 (R)))), (1, .c (.int .i64 (p))), (5, .c (.own (100))), (6, .c (.own (102))), (7, .c (.int .i64 ((i : Int)))), (8, .c (.own (101))), (9, .c (.int .i64 ((k : Int))))], [(100, some (.rows 0 31 2 .i64 ((spN p R i).1))), (102, some (.ints 2 .i64 ((spN p R i).2))), (101, some (.ints 2 .i64 (redN p (spN p R i).1 (pvN (spN p R i).2) (R.getD i []) k)))]⟩) (fun k => k ≤ (spN p R i).1.length ∧ i < R.length) (fun k => (spN p R i).1.length - k) (fun _ => noAnn)) | _ => none))
  | _ => none
def l15Rank_G : List (Nat × Ctr) := [(117, ⟨[], l01Own_ct⟩), (134, ⟨[], l15Less_ct⟩), (135, ⟨[], l15First_ct⟩), (136, ⟨[], l15Inverse_ct⟩)]
def l15Rank_c1 (R : List (List Int)) (p : Int) (x0 : Nat) (x1 : Nat) := (redN p ((spN p R x0).1) (pvN ((spN p R x0).2)) (R.getD x0 []) x1)
def l15Rank_c2 (R : List (List Int)) (p : Int) (x0 : Nat) (x1 : Nat) := ((l15Rank_c1 R p x0 x1).getD ((ldF (l15Rank_c1 R p x0 x1)).toNat) (0:Int))
def l15Rank_V (R : List (List Int)) (p : Int) : Prop :=
 ((∃ x0 : Nat, ((x0 ≤ R.length)∧((R = R)∧((p = p)∧(((0:Int) = (↑x0:Int))∧(([] = (spN p R x0).1)∧([] = (spN p R x0).2)))))))∧(∀ x1 : Nat, ((x1 ≤ R.length) → (BrP (decide ((↑x1:Int) < (↑(R.length):Int))) ((inB (↑x1:Int) (R.length))∧(((room ((R.getD ((↑x1:Int).toNat) []).length))∧True)∧((∃ x2 : Nat, (((x2 ≤ ((spN p R x1).1).length)∧(x1 < R.length))∧((R = R)∧((p = p)∧(((↑x1:Int) = (↑x1:Int))∧(((0:Int) = (↑x2:Int))∧(((spN p R x1).1 = (spN p R x1).1)∧(((spN p R x1).2 = (spN p R x1).2)∧(R.getD ((↑x1:Int).toNat) [] = redN p ((spN p R x1).1) (pvN ((spN p R x1).2)) (R.getD x1 []) x2)))))))))∧(∀ x3 : Nat, (((x3 ≤ ((spN p R x1).1).length)∧(x1 < R.length)) → (BrP (decide ((↑x3:Int) < (↑(((spN p R x1).1).length):Int))) ((inB (↑x3:Int) (((spN p R x1).2).length))∧((inB (((spN p R x1).2).getD ((↑x3:Int).toNat) (0:Int)) ((l15Rank_c1 R p x1 x3).length))∧(BrP ((redN p ((spN p R x1).1) (pvN ((spN p R x1).2)) (List.getD R x1 []) x3).getD ((((spN p R x1).2).getD ((↑x3:Int).toNat) (0:Int)).toNat) (0:Int) != (0:Int)) ((inB (↑x3:Int) (((spN p R x1).1).length))∧((inB (↑x3:Int) (((spN p R x1).2).length))∧((inB (((spN p R x1).2).getD ((↑x3:Int).toNat) (0:Int)) ((l15Rank_c1 R p x1 x3).length))∧((((twR p (l15Rank_c1 R p x1 x3) (((spN p R x1).1).getD ((↑x3:Int).toNat) []))∧(((0:Int) ≤ p - (l15Rank_c1 R p x1 x3).getD ((((spN p R x1).2).getD ((↑x3:Int).toNat) (0:Int)).toNat) (0:Int))∧((p - (l15Rank_c1 R p x1 x3).getD ((((spN p R x1).2).getD ((↑x3:Int).toNat) (0:Int)).toNat) (0:Int) ≤ (7:Int)) ∧
 (((-100:Int) ≤ (l15Rank_c1 R p x1 x3).getD ((((spN p R x1).2).getD ((↑x3:Int).toNat) (0:Int)).toNat) (0:Int))∧((l15Rank_c1 R p x1 x3).getD ((((spN p R x1).2).getD ((↑x3:Int).toNat) (0:Int)).toNat) (0:Int) ≤ (100:Int))))))∧True)∧((InR ((↑x3:Int) + (1:Int)))∧(∃ x4 : Nat, (((x4 ≤ ((spN p R x1).1).length)∧(x1 < R.length))∧((((spN p R x1).1).length - x4 < ((spN p R x1).1).length - x3)∧((R = R)∧((p = p)∧(((↑x1:Int) = (↑x1:Int))∧(((↑x3:Int) + (1:Int) = (↑x4:Int))∧(((spN p R x1).1 = (spN p R x1).1)∧(((spN p R x1).2 = (spN p R x1).2)∧(stF p (p - (l15Rank_c1 R p x1 x3).getD ((((spN p R x1).2).getD ((↑x3:Int).toNat) (0:Int)).toNat) (0:Int)) (((spN p R x1).1).getD ((↑x3:Int).toNat) []) (l15Rank_c1 R p x1 x3) = redN p ((spN p R x1).1) (pvN ((spN p R x1).2)) (R.getD x1 []) x4))))))))))))))) ((InR ((↑x3:Int) + (1:Int)))∧(∃ x5 : Nat, (((x5 ≤ ((spN p R x1).1).length)∧(x1 < R.length))∧((((spN p R x1).1).length - x5 < ((spN p R x1).1).length - x3)∧((R = R)∧((p = p)∧(((↑x1:Int) = (↑x1:Int))∧(((↑x3:Int) + (1:Int) = (↑x5:Int))∧(((spN p R x1).1 = (spN p R x1).1)∧(((spN p R x1).2 = (spN p R x1).2)∧(redN p ((spN p R x1).1) (pvN ((spN p R x1).2)) (R.getD x1 []) x3 = redN p ((spN p R x1).1) (pvN ((spN p R x1).2)) (R.getD x1 []) x5)))))))))))))) ((((l15Rank_c1 R p x1 x3).length ≤ (1000:Nat))∧True)∧(BrP (decide ((0:Int) ≤ ldF (redN p ((spN p R x1).1) (pvN ((spN p R x1).2)) (R.getD x1 []) x3))) ((((0:Int) ≤ (↑((l15Rank_c1 R p x1 x3).length):Int)) ∧
 (((↑((l15Rank_c1 R p x1 x3).length):Int) ≤ (↑((l15Rank_c1 R p x1 x3).length):Int))∧(room ((↑((l15Rank_c1 R p x1 x3).length):Int).toNat))))∧((inB (ldF (l15Rank_c1 R p x1 x3)) ((l15Rank_c1 R p x1 x3).length))∧((((primeB p = true)∧(((1:Int) ≤ (l15Rank_c1 R p x1 x3).getD ((ldF (l15Rank_c1 R p x1 x3)).toNat) (0:Int))∧((l15Rank_c1 R p x1 x3).getD ((ldF (l15Rank_c1 R p x1 x3)).toNat) (0:Int) ≤ p - (1:Int))))∧True)∧((InR (p - ivM p (l15Rank_c2 R p x1 x3)))∧((((twR p (List.replicate ((↑((l15Rank_c1 R p x1 x3).length):Int).toNat) (0:Int)) (l15Rank_c1 R p x1 x3))∧(((0:Int) ≤ p - (p - ivM p (l15Rank_c2 R p x1 x3)))∧((p - (p - ivM p (l15Rank_c2 R p x1 x3)) ≤ (7:Int))∧(((-100:Int) ≤ p - ivM p (l15Rank_c2 R p x1 x3))∧(p - ivM p (l15Rank_c2 R p x1 x3) ≤ (100:Int))))))∧True)∧((room (((spN p R x1).1).length + [stF p (p - (p - ivM p (l15Rank_c2 R p x1 x3))) (l15Rank_c1 R p x1 x3) (List.replicate ((↑((l15Rank_c1 R p x1 x3).length):Int).toNat) (0:Int))].length))∧((room (((spN p R x1).2).length + [ldF (l15Rank_c1 R p x1 x3)].length))∧((InR ((↑x1:Int) + (1:Int)))∧(∃ x6 : Nat, ((x6 ≤ R.length)∧((R.length - x6 < R.length - x1)∧((R = R)∧((p = p)∧(((↑x1:Int) + (1:Int) = (↑x6:Int))∧(((spN p R x1).1 ++ [stF p (p - (p - ivM p (l15Rank_c2 R p x1 x3))) (l15Rank_c1 R p x1 x3) (List.replicate ((↑((l15Rank_c1 R p x1 x3).length):Int).toNat) (0:Int))] = (spN p R x6).1)∧((spN p R x1).2 ++ [ldF (l15Rank_c1 R p x1 x3)] = (spN p R x6).2)))))))))))))))) ((InR ((↑x1:Int) + (1:Int)))∧(∃ x7 : Nat, ((x7 ≤ R.length) ∧
 ((R.length - x7 < R.length - x1)∧((R = R)∧((p = p)∧(((↑x1:Int) + (1:Int) = (↑x7:Int))∧(((spN p R x1).1 = (spN p R x7).1)∧((spN p R x1).2 = (spN p R x7).2))))))))))))))))) (((↑(((spN p R x1).1).length):Int) = (↑(((spN p R (R.length)).1).length):Int))∧True)))))
theorem l15Rank_vc (R : List (List Int)) (p : Int) : runF Tryz.prog (gam l15Rank_G) noWr (l15Rank_ann R p) Tryz.f96 (bodyOf Tryz.f96) [] [.c (.rows .i64 (R)), .c (.int .i64 (p))] (l15Rank_p R p) = l15Rank_V R p := by kernel_rfl
theorem l15Rank_ok (R : List (List Int)) (p : Int) (hpre : (l15Rank_p R p).pre) : l15Rank_V R p := by
  simp only [l15Rank_p, l15Rank_V, l15Rank_c1, l15Rank_c2, BrP_iff, u1, u2, u3, u4, u5, u6, u7, u8, u9, v1, v2, v3, v4, v5, v6, v7, v8, v9, w1, w2, w3, w4, markL_length, inB, InR, room, bdsOk] at hpre ⊢
  obtain ⟨hp, ⟨N, hR, N1, N2⟩, hl⟩ := hpre
  obtain ⟨p2, p7⟩ := primeB_le hp
  refine ⟨⟨0, by omega, rfl, rfl, rfl⟩, fun i hi => ⟨fun h => ?_, fun h => by rw [show i = R.length by omega]⟩⟩
  obtain ⟨l1, nn, B, _⟩ := spN_ok hp hR i hi
  have L := spN_len p R i
  have row := hR i (by omega)
  have row1 := row.1
  refine ⟨by omega, by omega, ⟨0, ⟨Nat.zero_le _, by omega⟩, rfl, rfl⟩, fun j ⟨hj, _⟩ => ⟨fun h3 => ?_, fun h3 => ?_⟩⟩
  · have rj := (red_ok p2 B row j hj).1
    have rj1 := rj.1
    have bj := B.row j (by omega)
    have bj1 := bj.1
    have pj := B.piv j (by omega)
    have nj := nn j (by omega)
    have pe : ((spN p R i).2.getD j 0).toNat = pvN (spN p R i).2 j := rfl
    have pi : (spN p R i).2.getD j 0 < ((redN p (spN p R i).1 (pvN (spN p R i).2) (R.getD i []) j).length : Int) := by rw [rj1]; omega
    rw [pe]
    have c := rj.2 (pvN (spN p R i).2 j) (by omega)
    have tw : twR p (redN p (spN p R i).1 (pvN (spN p R i).2) (R.getD i []) j) ((spN p R i).1.getD j []) := ⟨p2, p7, rj.2, bj.2, by omega, by omega⟩
    refine ⟨by omega, ⟨nj, pi⟩, fun h4 => ⟨by omega, by omega, ⟨nj, pi⟩, ⟨tw, by omega, by omega, by omega, by omega⟩, by omega, j + 1, ⟨by omega, by omega⟩, by omega, by omega, ?_⟩, fun h4 => ⟨by omega, j + 1, ⟨by omega, by omega⟩, by omega, by omega, ?_⟩⟩
    · rw [redN, if_pos h4]
    · rw [redN, if_neg (by omega)]
  · have e : j = (spN p R i).1.length := by omega
    subst e
    have st : spN p R (i + 1) = if 0 ≤ ldF (redN p (spN p R i).1 (pvN (spN p R i).2) (R.getD i []) (spN p R i).1.length) then ((spN p R i).1 ++ [stF p (p - (p - ivM p ((redN p (spN p R i).1 (pvN (spN p R i).2) (R.getD i []) (spN p R i).1.length).getD (ldF (redN p (spN p R i).1 (pvN (spN p R i).2) (R.getD i []) (spN p R i).1.length)).toNat 0))) (redN p (spN p R i).1 (pvN (spN p R i).2) (R.getD i []) (spN p R i).1.length) (List.replicate (redN p (spN p R i).1 (pvN (spN p R i).2) (R.getD i []) (spN p R i).1.length).length 0)], (spN p R i).2 ++ [ldF (redN p (spN p R i).1 (pvN (spN p R i).2) (R.getD i []) (spN p R i).1.length)]) else spN p R i := rfl
    have r1 := (red_ok p2 B row (spN p R i).1.length (Nat.le_refl _)).1
    generalize hr : redN p (spN p R i).1 (pvN (spN p R i).2) (R.getD i []) (spN p R i).1.length = r at *
    have r11 := r1.1
    refine ⟨by omega, fun h4 => ?_, fun h4 => ⟨by omega, i + 1, by omega, by omega, by omega, by rw [st, if_neg h4], by rw [st, if_neg h4]⟩⟩
    have y := ld_yes h4
    have c := r1.2 _ y.1
    have iv := ivM_ok hp (a := r.getD (ldF r).toNat 0) (by omega) (by omega)
    have rp : inP p (List.replicate r.length 0) := rep_in (by omega) _
    exact ⟨by omega, by omega, ⟨hp, by omega, by omega⟩, by omega, ⟨⟨p2, p7, rp, r1.2, by rw [List.length_replicate], by rw [List.length_replicate]; omega⟩, by omega, by omega, by omega, by omega⟩, by omega, by omega, by omega, i + 1, by omega, by omega, by omega, by rw [st, if_pos h4], by rw [st, if_pos h4]⟩
theorem l15Rank_fits : Fits Tryz.prog 96 ⟨[], l15Rank_ct⟩ := by
  refine ffn (Γ := gam l15Rank_G) (gok_cons l01Own_fits (gok_cons l15Less_fits (gok_cons l15First_fits (gok_cons l15Inverse_fits gok_nil)))) Tryz.func96 fun ds p h hp => ?_
  unfold l15Rank_ct at h
  split at h
  · cases h
    exact ⟨noWr, l15Rank_ann _ _ , by rw [l15Rank_vc]; exact l15Rank_ok _ _  hp⟩
  · cases h
def rowQ (t : List (List Int)) (p : Int) (k : Nat) (q : Bool) (i : Nat) : List Int :=
  if q = true then clrN (t.length : Int) ((k : Int) - 1) (ptF t p (digN (t.length : Int) k (i : Int)) k) (ptF t p (digN (t.length : Int) k (i : Int)) k).length else ptF t p (digN (t.length : Int) k (i : Int)) k
def rkR (t : List (List Int)) (p : Int) (k : Nat) (q : Bool) : Nat → List (List Int)
  | 0 => []
  | i + 1 => if q = true ∧ flB (digN (t.length : Int) k (i : Int)) = true then rkR t p k q i else rkR t p k q i ++ [rowQ t p k q i]
def rkA (t : List (List Int)) (p : Int) (k : Int) (q : Bool) : List (List Int) := rkR t p k.toNat q (t.length ^ k.toNat)
def brV (t : List (List Int)) (p : Int) (k : Int) (q : Bool) : Int := if k = 0 then 0 else ((imN p (rkA t p k q) (rkA t p k q).length).length : Int)
theorem clrN_in {p : Int} (hp : 1 ≤ p) {n k : Int} {c : List Int} (hc : inP p c) (i : Nat) : inP p (clrN n k c i) := fun q hq => by
  rw [clrN_length] at hq
  have := hc q hq
  rw [clrN, tab_getD _ _ _ hq]
  split
  · omega
  · exact this
theorem rowQ_ok {t : List (List Int)} {p : Int} (hp : 2 ≤ p) (k : Nat) (q : Bool) (i : Nat) : rwP p (t.length ^ (k - 1)) (rowQ t p k q i) := by
  unfold rowQ
  split
  · exact ⟨by rw [clrN_length, ptF_length, digN_length], clrN_in (by omega) (ptF_in t hp _ _) _⟩
  · exact ⟨by rw [ptF_length, digN_length], ptF_in t hp _ _⟩
theorem rkR_ok {t : List (List Int)} {p : Int} {k : Nat} {q : Bool} (hp : 2 ≤ p) : ∀ i, (rkR t p k q i).length ≤ i ∧ rwsP p (t.length ^ (k - 1)) (rkR t p k q i)
  | 0 => ⟨Nat.le_refl _, fun j hj => by simp [rkR] at hj⟩
  | i + 1 => by
    obtain ⟨a, b⟩ := rkR_ok (t := t) (k := k) (q := q) hp i
    simp only [rkR]
    split
    · exact ⟨by omega, b⟩
    · refine ⟨by simp; omega, fun j hj => ?_⟩
      by_cases e : j < (rkR t p k q i).length
      · rw [snoc_get _ _ e]; exact b j e
      · have : j = (rkR t p k q i).length := by simp at hj; omega
        subst this
        rw [show (rkR t p k q i ++ [rowQ t p k q i]).getD (rkR t p k q i).length [] = rowQ t p k q i by simp [List.getD]]
        exact rowQ_ok hp k q i
theorem brV_le {t : List (List Int)} {p k : Int} {q : Bool} (h1 : tabB t = true) (hp : primeB p = true) (hd : degB (t.length : Int) k = true) : 0 ≤ brV t p k q ∧ brV t p k q ≤ 512 := by
  obtain ⟨p2, p7⟩ := primeB_le hp
  obtain ⟨k0, k1, N1, eN, N2⟩ := rk_facts h1 hd
  unfold brV
  split
  · omega
  · have := imN_len p (rkA t p k q) (rkA t p k q).length
    have := (rkR_ok (t := t) (p := p) (k := k.toNat) (q := q) p2 (t.length ^ k.toNat)).1
    unfold rkA at *
    omega
def boundaryRank_p (t : List (List Int)) (p : Int) (k : Int) (q : Bool) : Post := ⟨tabB t = true ∧ primeB p = true ∧ degB (t.length : Int) k = true, .c (.int .i64 (brV t p k q)), []⟩
def boundaryRank_ct : List AD → Option Post
  | [.c (.rows .i64 (t)), .c (.int .i64 (p)), .c (.int .i64 (k)), .c (.bool (q))] => some (boundaryRank_p t p k q)
  | _ => none
def boundaryRank_ann (t : List (List Int)) (p : Int) (k : Int) (q : Bool) : Nat → Option Ann
  | 0 => some (Ann.mk ((Nat)) (fun i => ⟨[(0, .c (.ro (.rows .i64 (t)))), (1, .c (.int .i64 (p))), (2, .c (.int .i64 (k))), (3, .c (.bool (q))), (9, .c (.int .i64 ((t.length : Int)))), (10, .c (.own (100))), (20, .c (.int .i64 (((t.length ^ k.toNat : Nat) : Int)))), (21, .c (.int .i64 ((i : Int))))], [(100, some (.rows 0 31 2 .i64 (rkR t p k.toNat q i)))]⟩) (fun i => i ≤ t.length ^ k.toNat ∧ k ≠ 0) (fun i => t.length ^ k.toNat - i) (fun _ => noAnn))
  | _ => none
def boundaryRank_G : List (Nat × Ctr) := [(40, ⟨[], tuplesOf_ct⟩), (52, ⟨[], tupleOf_ct⟩), (51, ⟨[], isDegenerate_ct⟩), (90, ⟨[(4, 0)], addBoundary_ct⟩), (91, ⟨[(2, 0)], withoutDegenerate_ct⟩), (92, ⟨[], reducedRows_ct⟩)]
def boundaryRank_c1 (t : List (List Int)) (p : Int) (k : Int) (x0 : Nat) := (adF t p (digN (↑(t.length):Int) (k.toNat) (↑x0:Int)) (1:Int) (List.replicate (((↑(t.length):Int) ^ (k - (1:Int)).toNat).toNat) (0:Int)) ((digN (↑(t.length):Int) (k.toNat) (↑x0:Int)).length))
def boundaryRank_c2 (t : List (List Int)) (k : Int) := (List.replicate (((↑(t.length):Int) ^ (k - (1:Int)).toNat).toNat) (0:Int))
def boundaryRank_c3 (t : List (List Int)) (k : Int) (x0 : Nat) := (digN (↑(t.length):Int) (k.toNat) (↑x0:Int))
def boundaryRank_V (t : List (List Int)) (p : Int) (k : Int) (q : Bool) : Prop :=
 (BrP (k == (0:Int)) (((0:Int) = brV t p k q)∧True) (((((1:Int) ≤ (↑(t.length):Int))∧(((↑(t.length):Int) ≤ (12:Int))∧(degB (↑(t.length):Int) k = true)))∧True)∧((∃ x0 : Nat, (((x0 ≤ t.length ^ k.toNat)∧(k ≠ (0:Int)))∧((t = t)∧((p = p)∧((k = k)∧((q = q)∧(((↑(t.length):Int) = (↑(t.length):Int))∧(((↑(t.length):Int) ^ k.toNat = (↑(t.length ^ k.toNat):Int))∧(((0:Int) = (↑x0:Int))∧(rkR t p (k.toNat) q x0 = []))))))))))∧(∀ x1 : Nat, (((x1 ≤ t.length ^ k.toNat)∧(k ≠ (0:Int))) → (BrP (decide ((↑x1:Int) < (↑(t.length ^ k.toNat):Int))) (((((1:Int) ≤ (↑(t.length):Int))∧(((0:Int) ≤ k)∧((k ≤ (1000:Int))∧(((0:Int) ≤ (↑x1:Int))∧((↑x1:Int) ≤ (1000000:Int))))))∧True)∧(BrP (q) ((((boundaryRank_c3 t k x1).length ≤ (1000:Nat))∧True)∧(BrP (flB (digN (↑(t.length):Int) (k.toNat) (↑x1:Int))) ((InR ((↑x1:Int) + (1:Int)))∧(∃ x2 : Nat, (((x2 ≤ t.length ^ k.toNat)∧(k ≠ (0:Int)))∧((t.length ^ k.toNat - x2 < t.length ^ k.toNat - x1)∧((t = t)∧((p = p)∧((k = k)∧((q = q)∧(((↑(t.length):Int) = (↑(t.length):Int))∧(((↑(t.length ^ k.toNat):Int) = (↑(t.length ^ k.toNat):Int))∧(((↑x1:Int) + (1:Int) = (↑x2:Int))∧(rkR t p (k.toNat) q x1 = rkR t p (k.toNat) q x2)))))))))))) ((InR (k - (1:Int)))∧(((((1:Int) ≤ (↑(t.length):Int))∧(((↑(t.length):Int) ≤ (12:Int))∧(degB (↑(t.length):Int) (k - (1:Int)) = true)))∧True)∧((((0:Int) ≤ (↑(t.length):Int) ^ (k - (1:Int)).toNat)∧(((↑(t.length):Int) ^ (k - (1:Int)).toNat ≤ (↑(t.length):Int) ^ (k - (1:Int)).toNat)∧(room (((↑(t.length):Int) ^ (k - (1:Int)).toNat).toNat)))) ∧
 ((((bdOk t p (boundaryRank_c3 t k x1))∧(((0:Int) ≤ (1:Int))∧(((1:Int) ≤ p - (1:Int))∧((inP p (boundaryRank_c2 t k))∧((boundaryRank_c2 t k).length = t.length ^ ((boundaryRank_c3 t k x1).length - (1:Nat)))))))∧(((boundaryRank_c1 t p k x1).length = (boundaryRank_c2 t k).length)∧True))∧(BrP (q) ((InR (k - (1:Int)))∧(((((1:Int) ≤ (↑(t.length):Int))∧(((0:Int) ≤ k - (1:Int))∧((k - (1:Int) ≤ (1000:Int))∧((boundaryRank_c1 t p k x1).length ≤ (1000000:Nat)))))∧(((clrN (↑(t.length):Int) (k - (1:Int)) (boundaryRank_c1 t p k x1) ((boundaryRank_c1 t p k x1).length)).length = (boundaryRank_c1 t p k x1).length)∧True))∧((room ((rkR t p (k.toNat) q x1).length + [clrN (↑(t.length):Int) (k - (1:Int)) (boundaryRank_c1 t p k x1) ((boundaryRank_c1 t p k x1).length)].length))∧((InR ((↑x1:Int) + (1:Int)))∧(∃ x3 : Nat, (((x3 ≤ t.length ^ k.toNat)∧(k ≠ (0:Int)))∧((t.length ^ k.toNat - x3 < t.length ^ k.toNat - x1)∧((t = t)∧((p = p)∧((k = k)∧((q = q)∧(((↑(t.length):Int) = (↑(t.length):Int))∧(((↑(t.length ^ k.toNat):Int) = (↑(t.length ^ k.toNat):Int))∧(((↑x1:Int) + (1:Int) = (↑x3:Int))∧(rkR t p (k.toNat) q x1 ++ [clrN (↑(t.length):Int) (k - (1:Int)) (boundaryRank_c1 t p k x1) ((boundaryRank_c1 t p k x1).length)] = rkR t p (k.toNat) q x3))))))))))))))) ((room ((rkR t p (k.toNat) q x1).length + [adF t p (boundaryRank_c3 t k x1) (1:Int) (boundaryRank_c2 t k) ((boundaryRank_c3 t k x1).length)].length))∧((InR ((↑x1:Int) + (1:Int)))∧(∃ x4 : Nat, (((x4 ≤ t.length ^ k.toNat)∧(k ≠ (0:Int))) ∧
 ((t.length ^ k.toNat - x4 < t.length ^ k.toNat - x1)∧((t = t)∧((p = p)∧((k = k)∧((q = q)∧(((↑(t.length):Int) = (↑(t.length):Int))∧(((↑(t.length ^ k.toNat):Int) = (↑(t.length ^ k.toNat):Int))∧(((↑x1:Int) + (1:Int) = (↑x4:Int))∧(rkR t p (k.toNat) q x1 ++ [adF t p (boundaryRank_c3 t k x1) (1:Int) (boundaryRank_c2 t k) ((boundaryRank_c3 t k x1).length)] = rkR t p (k.toNat) q x4)))))))))))))))))))) ((InR (k - (1:Int)))∧(((((1:Int) ≤ (↑(t.length):Int))∧(((↑(t.length):Int) ≤ (12:Int))∧(degB (↑(t.length):Int) (k - (1:Int)) = true)))∧True)∧((((0:Int) ≤ (↑(t.length):Int) ^ (k - (1:Int)).toNat)∧(((↑(t.length):Int) ^ (k - (1:Int)).toNat ≤ (↑(t.length):Int) ^ (k - (1:Int)).toNat)∧(room (((↑(t.length):Int) ^ (k - (1:Int)).toNat).toNat))))∧((((bdOk t p (boundaryRank_c3 t k x1))∧(((0:Int) ≤ (1:Int))∧(((1:Int) ≤ p - (1:Int))∧((inP p (boundaryRank_c2 t k))∧((boundaryRank_c2 t k).length = t.length ^ ((boundaryRank_c3 t k x1).length - (1:Nat)))))))∧(((boundaryRank_c1 t p k x1).length = (boundaryRank_c2 t k).length)∧True))∧(BrP (q) ((InR (k - (1:Int)))∧(((((1:Int) ≤ (↑(t.length):Int))∧(((0:Int) ≤ k - (1:Int))∧((k - (1:Int) ≤ (1000:Int))∧((boundaryRank_c1 t p k x1).length ≤ (1000000:Nat)))))∧(((clrN (↑(t.length):Int) (k - (1:Int)) (boundaryRank_c1 t p k x1) ((boundaryRank_c1 t p k x1).length)).length = (boundaryRank_c1 t p k x1).length)∧True))∧((room ((rkR t p (k.toNat) q x1).length + [clrN (↑(t.length):Int) (k - (1:Int)) (boundaryRank_c1 t p k x1) ((boundaryRank_c1 t p k x1).length)].length)) ∧
 ((InR ((↑x1:Int) + (1:Int)))∧(∃ x5 : Nat, (((x5 ≤ t.length ^ k.toNat)∧(k ≠ (0:Int)))∧((t.length ^ k.toNat - x5 < t.length ^ k.toNat - x1)∧((t = t)∧((p = p)∧((k = k)∧((q = q)∧(((↑(t.length):Int) = (↑(t.length):Int))∧(((↑(t.length ^ k.toNat):Int) = (↑(t.length ^ k.toNat):Int))∧(((↑x1:Int) + (1:Int) = (↑x5:Int))∧(rkR t p (k.toNat) q x1 ++ [clrN (↑(t.length):Int) (k - (1:Int)) (boundaryRank_c1 t p k x1) ((boundaryRank_c1 t p k x1).length)] = rkR t p (k.toNat) q x5))))))))))))))) ((room ((rkR t p (k.toNat) q x1).length + [adF t p (boundaryRank_c3 t k x1) (1:Int) (boundaryRank_c2 t k) ((boundaryRank_c3 t k x1).length)].length))∧((InR ((↑x1:Int) + (1:Int)))∧(∃ x6 : Nat, (((x6 ≤ t.length ^ k.toNat)∧(k ≠ (0:Int)))∧((t.length ^ k.toNat - x6 < t.length ^ k.toNat - x1)∧((t = t)∧((p = p)∧((k = k)∧((q = q)∧(((↑(t.length):Int) = (↑(t.length):Int))∧(((↑(t.length ^ k.toNat):Int) = (↑(t.length ^ k.toNat):Int))∧(((↑x1:Int) + (1:Int) = (↑x6:Int))∧(rkR t p (k.toNat) q x1 ++ [adF t p (boundaryRank_c3 t k x1) (1:Int) (boundaryRank_c2 t k) ((boundaryRank_c3 t k x1).length)] = rkR t p (k.toNat) q x6)))))))))))))))))))) ((((primeB p = true)∧((∃ (N : Nat), rwsP p N (rkR t p (k.toNat) q x1) ∧ (1:Nat) ≤ N ∧ N ≤ (512:Nat))∧((rkR t p (k.toNat) q x1).length ≤ (512:Nat))))∧True)∧(((↑((srtL (imN p (rkR t p (k.toNat) q x1) ((rkR t p (k.toNat) q x1).length))).length):Int) = brV t p k q)∧True))))))))
theorem boundaryRank_vc (t : List (List Int)) (p : Int) (k : Int) (q : Bool) : runF Tryz.prog (gam boundaryRank_G) noWr (boundaryRank_ann t p k q) Tryz.f41 (bodyOf Tryz.f41) [] [.c (.rows .i64 (t)), .c (.int .i64 (p)), .c (.int .i64 (k)), .c (.bool (q))] (boundaryRank_p t p k q) = boundaryRank_V t p k q := by kernel_rfl
theorem boundaryRank_ok (t : List (List Int)) (p : Int) (k : Int) (q : Bool) (hpre : (boundaryRank_p t p k q).pre) : boundaryRank_V t p k q := by
  simp only [boundaryRank_p, boundaryRank_V, boundaryRank_c1, boundaryRank_c2, boundaryRank_c3, BrP_iff, u1, u2, u3, u4, u5, u6, u7, u8, u9, v1, v2, v3, v4, v5, v6, v7, v8, v9, w1, w2, w3, w4, markL_length, inB, InR, room, bdsOk] at hpre ⊢
  obtain ⟨h1, hp, hd⟩ := hpre
  obtain ⟨p2, p7⟩ := primeB_le hp
  obtain ⟨n1, n2, ht⟩ := tabB_of h1
  obtain ⟨k0, k1, N1, eN, N2⟩ := rk_facts h1 hd
  refine ⟨fun hk => by rw [brV, if_pos hk], fun hk => ?_⟩
  obtain ⟨d1, d2, _, _, d5⟩ := deg_sub h1 (show 1 ≤ k by omega) hd
  have eM : (t.length : Int) ^ (k.toNat - 1) = ((t.length ^ (k.toNat - 1) : Nat) : Int) := (Int.natCast_pow _ _).symm
  have d3 := d2
  rw [eM] at d3
  have kc : ((k.toNat : Nat) : Int) = k := by omega
  refine ⟨⟨by omega, by omega, hd⟩, ⟨0, ⟨Nat.zero_le _, hk⟩, eN, rfl, rfl⟩, fun i ⟨hi, _⟩ => ⟨fun h => ?_, fun h => ?_⟩⟩
  · have hx : bdOk t p (digN t.length k.toNat (i : Int)) := dig_ok h1 p2 p7 (by omega) d2 (by omega)
    have ad := ad_zero (t := t) p2 (digN t.length k.toNat (i : Int)) k.toNat
    rw [digN_length] at ad
    have rp : inP p (List.replicate (t.length ^ (k.toNat - 1)) 0) := rep_in (by omega) _
    have pl : (ptF t p (digN t.length k.toNat (i : Int)) k.toNat).length = t.length ^ (k.toNat - 1) := by rw [ptF_length, digN_length]
    have RL := (rkR_ok (t := t) (k := k.toNat) (q := q) p2 i).1
    have r1 : rowQ t p k.toNat q i = if q = true then clrN (t.length : Int) (k - 1) (ptF t p (digN t.length k.toNat (i : Int)) k.toNat) (t.length ^ (k.toNat - 1)) else ptF t p (digN t.length k.toNat (i : Int)) k.toNat := by
      rw [rowQ, kc, pl]
    simp only [d5, eM, Int.toNat_natCast, digN_length, ad, pl, clrN_length]
    cases q with
    | false =>
      have r2 : rkR t p k.toNat false (i + 1) = rkR t p k.toNat false i ++ [ptF t p (digN t.length k.toNat (i : Int)) k.toNat] := by
        rw [rkR, if_neg (by simp), r1, if_neg (by simp)]
      exact ⟨⟨by omega, by omega, by omega, by omega, by omega⟩, fun c => absurd c (by decide), fun _ => ⟨by omega, ⟨by omega, by omega, d1⟩, ⟨by omega, by omega, by omega⟩, ⟨⟨hx, by omega, by omega, rp, trivial⟩, trivial⟩, fun c => absurd c (by decide), fun _ => ⟨by omega, by omega, i + 1, ⟨by omega, hk⟩, by omega, by omega, r2.symm⟩⟩⟩
    | true =>
      refine ⟨⟨by omega, by omega, by omega, by omega, by omega⟩, fun _ => ⟨by omega, fun hf => ⟨by omega, i + 1, ⟨by omega, hk⟩, by omega, by omega, ?_⟩, fun hf => ⟨by omega, ⟨by omega, by omega, d1⟩, ⟨by omega, by omega, by omega⟩, ⟨⟨hx, by omega, by omega, rp, trivial⟩, trivial⟩, fun _ => ⟨by omega, ⟨⟨by omega, by omega, by omega, by omega⟩, trivial⟩, by omega, by omega, i + 1, ⟨by omega, hk⟩, by omega, by omega, ?_⟩, fun c => absurd c (by decide)⟩⟩, fun c => absurd c (by decide)⟩
      · rw [rkR, if_pos ⟨rfl, hf⟩]
      · rw [rkR, if_neg (by rw [hf]; simp), r1, if_pos rfl]
  · have RK := rkR_ok (t := t) (k := k.toNat) (q := q) p2 i
    have e : i = t.length ^ k.toNat := by omega
    have MM : 1 ≤ t.length ^ (k.toNat - 1) := Nat.pow_pos (by omega)
    refine ⟨⟨hp, ⟨_, RK.2, MM, by omega⟩, by omega⟩, ?_⟩
    rw [srtL_len, brV, if_neg hk, rkA, e]
theorem boundaryRank_fits : Fits Tryz.prog 41 ⟨[], boundaryRank_ct⟩ := by
  refine ffn (Γ := gam boundaryRank_G) (gok_cons tuplesOf_fits (gok_cons tupleOf_fits (gok_cons isDegenerate_fits (gok_cons addBoundary_fits (gok_cons withoutDegenerate_fits (gok_cons reducedRows_fits gok_nil)))))) Tryz.func41 fun ds p h hp => ?_
  unfold boundaryRank_ct at h
  split at h
  · cases h
    exact ⟨noWr, boundaryRank_ann _ _ _ _ , by rw [boundaryRank_vc]; exact boundaryRank_ok _ _ _ _  hp⟩
  · cases h
def l15Ranks_p (t : List (List Int)) (p : Int) (k : Int) : Post := ⟨tabB t = true ∧ primeB p = true ∧ degB (t.length : Int) k = true, .c (.int .i64 (brV t p k false)), []⟩
def l15Ranks_ct : List AD → Option Post
  | [.c (.rows .i64 (t)), .c (.int .i64 (p)), .c (.int .i64 (k))] => some (l15Ranks_p t p k)
  | _ => none
def l15Ranks_ann (t : List (List Int)) (p : Int) (k : Int) : Nat → Option Ann
  | 0 => some (Ann.mk ((Nat)) (fun i => ⟨[(0, .c (.ro (.rows .i64 (t)))), (1, .c (.int .i64 (p))), (2, .c (.int .i64 (k))), (7, .c (.own (100))), (8, .c (.int .i64 ((i : Int))))], [(100, some (.rows 0 31 2 .i64 (rkR t p k.toNat false i)))]⟩) (fun i => (i ≤ t.length ^ k.toNat ∧ (k = 0 → i = 0))) (fun i => t.length ^ k.toNat - i) (fun _ => noAnn))
  | _ => none
def l15Ranks_G : List (Nat × Ctr) := [(44, ⟨[], l15Power_ct⟩), (95, ⟨[], l15Tuple_ct⟩), (94, ⟨[], l15Tuples_ct⟩), (96, ⟨[], l15Rank_ct⟩)]
def l15Ranks_V (t : List (List Int)) (p : Int) (k : Int) : Prop :=
 ((∃ x0 : Nat, (((x0 ≤ t.length ^ k.toNat)∧(k = (0:Int) → x0 = (0:Nat)))∧((t = t)∧((p = p)∧((k = k)∧(((0:Int) = (↑x0:Int))∧([] = rkR t p (k.toNat) false x0)))))))∧(∀ x1 : Nat, (((x1 ≤ t.length ^ k.toNat)∧(k = (0:Int) → x1 = (0:Nat))) → (BrP (decide ((0:Int) < k)) (((((1:Int) ≤ (↑(t.length):Int))∧(((↑(t.length):Int) ≤ (12:Int))∧(((0:Int) ≤ k)∧(k ≤ (1000:Int)))))∧True)∧(BrP (decide ((↑x1:Int) < if (↑(t.length):Int) ^ k.toNat ≤ (512:Int) then (↑(t.length):Int) ^ k.toNat else (513:Int))) (((((1:Int) ≤ (↑(t.length):Int))∧(((0:Int) ≤ k)∧((k ≤ (1000:Int))∧(((0:Int) ≤ (↑x1:Int))∧((↑x1:Int) ≤ (1000000:Int))))))∧True)∧((((bdOk t p (digN (↑(t.length):Int) (k.toNat) (↑x1:Int)))∧((1:Nat) ≤ (digN (↑(t.length):Int) (k.toNat) (↑x1:Int)).length))∧True)∧((room ((rkR t p (k.toNat) false x1).length + [ptF t p (digN (↑(t.length):Int) (k.toNat) (↑x1:Int)) ((digN (↑(t.length):Int) (k.toNat) (↑x1:Int)).length)].length))∧((InR ((↑x1:Int) + (1:Int)))∧(∃ x2 : Nat, (((x2 ≤ t.length ^ k.toNat)∧(k = (0:Int) → x2 = (0:Nat)))∧((t.length ^ k.toNat - x2 < t.length ^ k.toNat - x1)∧((t = t)∧((p = p)∧((k = k)∧(((↑x1:Int) + (1:Int) = (↑x2:Int))∧(rkR t p (k.toNat) false x1 ++ [ptF t p (digN (↑(t.length):Int) (k.toNat) (↑x1:Int)) ((digN (↑(t.length):Int) (k.toNat) (↑x1:Int)).length)] = rkR t p (k.toNat) false x2)))))))))))) ((((primeB p = true)∧((∃ (N : Nat), rwsP p N (rkR t p (k.toNat) false x1) ∧ (1:Nat) ≤ N ∧ N ≤ (512:Nat))∧((rkR t p (k.toNat) false x1).length ≤ (512:Nat))))∧True) ∧
 (((↑(((spN p (rkR t p (k.toNat) false x1) ((rkR t p (k.toNat) false x1).length)).1).length):Int) = brV t p k false)∧True)))) ((((primeB p = true)∧((∃ (N : Nat), rwsP p N (rkR t p (k.toNat) false x1) ∧ (1:Nat) ≤ N ∧ N ≤ (512:Nat))∧((rkR t p (k.toNat) false x1).length ≤ (512:Nat))))∧True)∧(((↑(((spN p (rkR t p (k.toNat) false x1) ((rkR t p (k.toNat) false x1).length)).1).length):Int) = brV t p k false)∧True))))))
theorem l15Ranks_vc (t : List (List Int)) (p : Int) (k : Int) : runF Tryz.prog (gam l15Ranks_G) noWr (l15Ranks_ann t p k) Tryz.f45 (bodyOf Tryz.f45) [] [.c (.rows .i64 (t)), .c (.int .i64 (p)), .c (.int .i64 (k))] (l15Ranks_p t p k) = l15Ranks_V t p k := by kernel_rfl
theorem l15Ranks_ok (t : List (List Int)) (p : Int) (k : Int) (hpre : (l15Ranks_p t p k).pre) : l15Ranks_V t p k := by
  simp only [l15Ranks_p, l15Ranks_V, BrP_iff, u1, u2, u3, u4, u5, u6, u7, u8, u9, v1, v2, v3, v4, v5, v6, v7, v8, v9, w1, w2, w3, w4, markL_length, inB, InR, room, bdsOk] at hpre ⊢
  obtain ⟨h1, hp, hd⟩ := hpre
  obtain ⟨p2, p7⟩ := primeB_le hp
  obtain ⟨n1, n2, ht⟩ := tabB_of h1
  obtain ⟨k0, k1, N1, eN, N2⟩ := rk_facts h1 hd
  refine ⟨⟨0, ⟨Nat.zero_le _, fun _ => rfl⟩, rfl, rfl⟩, fun i ⟨hi, h0⟩ => ⟨fun hk => ?_, fun hk => ?_⟩⟩
  · obtain ⟨d1, d2, _, _, d5⟩ := deg_sub h1 (show 1 ≤ k by omega) hd
    have eM : (t.length : Int) ^ (k.toNat - 1) = ((t.length ^ (k.toNat - 1) : Nat) : Int) := (Int.natCast_pow _ _).symm
    have d3 := d2
    rw [eM] at d3
    have RK := rkR_ok (t := t) (k := k.toNat) (q := false) p2 i
    rw [eN, if_pos (by omega), digN_length]
    refine ⟨by omega, fun h => ?_, fun h => ?_⟩
    · have hx : bdOk t p (digN t.length k.toNat (i : Int)) := dig_ok h1 p2 p7 (by omega) d2 (by omega)
      refine ⟨by omega, ⟨hx, by omega⟩, by omega, by omega, i + 1, ⟨by omega, by omega⟩, by omega, by omega, ?_⟩
      rw [rkR, if_neg (by simp), rowQ, if_neg (by simp)]
    · have e : i = t.length ^ k.toNat := by omega
      have MM : 1 ≤ t.length ^ (k.toNat - 1) := Nat.pow_pos (by omega)
      refine ⟨⟨hp, ⟨_, RK.2, MM, by omega⟩, by omega⟩, ?_⟩
      rw [rank_eq hp RK.2 _ (Nat.le_refl _), brV, if_neg (by omega), rkA, e]
  · have hk : k = 0 := by omega
    have e : i = 0 := h0 hk
    subst e
    refine ⟨⟨hp, ⟨1, fun j hj => by simp [rkR] at hj, by omega, by omega⟩, by simp [rkR]⟩, ?_⟩
    rw [brV, if_pos hk]; rfl
theorem l15Ranks_fits : Fits Tryz.prog 45 ⟨[], l15Ranks_ct⟩ := by
  refine ffn (Γ := gam l15Ranks_G) (gok_cons l15Power_fits (gok_cons l15Tuple_fits (gok_cons l15Tuples_fits (gok_cons l15Rank_fits gok_nil)))) Tryz.func45 fun ds p h hp => ?_
  unfold l15Ranks_ct at h
  split at h
  · cases h
    exact ⟨noWr, l15Ranks_ann _ _ _ , by rw [l15Ranks_vc]; exact l15Ranks_ok _ _ _  hp⟩
  · cases h
def cnN (n : Int) (k : Nat) : Nat → Nat
  | 0 => 0
  | i + 1 => if flB (digN n k (i : Int)) = true then cnN n k i else cnN n k i + 1
theorem cnN_le (n : Int) (k : Nat) : ∀ i, cnN n k i ≤ i
  | 0 => Nat.le_refl _
  | i + 1 => by
    have := cnN_le n k i
    simp only [cnN]
    split <;> omega
def cnV (t : List (List Int)) (k : Int) : Int := (cnN (t.length : Int) k.toNat (t.length ^ k.toNat) : Nat)
def l15Quandle_p (t : List (List Int)) (p : Int) (k : Int) : Post := ⟨tabB t = true ∧ primeB p = true ∧ degB (t.length : Int) k = true, .tup [.inl (.int .i64 (cnV t k)), .inl (.int .i64 (brV t p k true))], []⟩
def l15Quandle_ct : List AD → Option Post
  | [.c (.rows .i64 (t)), .c (.int .i64 (p)), .c (.int .i64 (k))] => some (l15Quandle_p t p k)
  | _ => none
def l15Quandle_ann (t : List (List Int)) (p : Int) (k : Int) : Nat → Option Ann
  | 0 => some (Ann.mk ((Nat)) (fun i => ⟨[(0, .c (.ro (.rows .i64 (t)))), (1, .c (.int .i64 (p))), (2, .c (.int .i64 (k))), (8, .c (.int .i64 ((t.length : Int)))), (9, .c (.int .i64 (((cnN (t.length : Int) k.toNat i : Nat) : Int)))), (10, .c (.own (100))), (11, .c (.int .i64 ((i : Int))))], [(100, some (.rows 0 31 2 .i64 (if k = 0 then [] else rkR t p k.toNat true i)))]⟩) (fun i => i ≤ t.length ^ k.toNat) (fun i => t.length ^ k.toNat - i) (fun _ => noAnn))
  | _ => none
def l15Quandle_G : List (Nat × Ctr) := [(44, ⟨[], l15Power_ct⟩), (95, ⟨[], l15Tuple_ct⟩), (103, ⟨[], l15Flat_ct⟩), (94, ⟨[], l15Tuples_ct⟩), (104, ⟨[], l15Clear_ct⟩), (96, ⟨[], l15Rank_ct⟩)]
def l15Quandle_c1 (t : List (List Int)) (p : Int) (k : Int) (x0 : Nat) := (ptF t p (digN (↑(t.length):Int) (k.toNat) (↑x0:Int)) ((digN (↑(t.length):Int) (k.toNat) (↑x0:Int)).length))
def l15Quandle_V (t : List (List Int)) (p : Int) (k : Int) : Prop :=
 ((∃ x0 : Nat, ((x0 ≤ t.length ^ k.toNat)∧((t = t)∧((p = p)∧((k = k)∧(((↑(t.length):Int) = (↑(t.length):Int))∧(((0:Int) = (↑(cnN (↑(t.length):Int) (k.toNat) x0):Int))∧(((0:Int) = (↑x0:Int))∧([] = if k = (0:Int) then [] else rkR t p (k.toNat) true x0)))))))))∧(∀ x1 : Nat, ((x1 ≤ t.length ^ k.toNat) → (((((1:Int) ≤ (↑(t.length):Int))∧(((↑(t.length):Int) ≤ (12:Int))∧(((0:Int) ≤ k)∧(k ≤ (1000:Int)))))∧True)∧(BrP (decide ((↑x1:Int) < if (↑(t.length):Int) ^ k.toNat ≤ (512:Int) then (↑(t.length):Int) ^ k.toNat else (513:Int))) (((((1:Int) ≤ (↑(t.length):Int))∧(((0:Int) ≤ k)∧((k ≤ (1000:Int))∧(((0:Int) ≤ (↑x1:Int))∧((↑x1:Int) ≤ (1000000:Int))))))∧True)∧((((digN (↑(t.length):Int) (k.toNat) (↑x1:Int)).length ≤ (1000:Nat))∧True)∧(BrP (flB (digN (↑(t.length):Int) (k.toNat) (↑x1:Int))) ((InR ((↑x1:Int) + (1:Int)))∧(∃ x2 : Nat, ((x2 ≤ t.length ^ k.toNat)∧((t.length ^ k.toNat - x2 < t.length ^ k.toNat - x1)∧((t = t)∧((p = p)∧((k = k)∧(((↑(t.length):Int) = (↑(t.length):Int))∧(((↑(cnN (↑(t.length):Int) (k.toNat) x1):Int) = (↑(cnN (↑(t.length):Int) (k.toNat) x2):Int))∧(((↑x1:Int) + (1:Int) = (↑x2:Int))∧((if k = (0:Int) then [] else rkR t p (k.toNat) true x1) = if k = (0:Int) then [] else rkR t p (k.toNat) true x2))))))))))) ((InR ((↑(cnN (↑(t.length):Int) (k.toNat) x1):Int) + (1:Int)))∧(BrP (decide ((0:Int) < k)) ((InR (k - (1:Int)))∧((((bdOk t p (digN (↑(t.length):Int) (k.toNat) (↑x1:Int)))∧((1:Nat) ≤ (digN (↑(t.length):Int) (k.toNat) (↑x1:Int)).length))∧True) ∧
 (((((1:Int) ≤ (↑(t.length):Int))∧(((0:Int) ≤ k - (1:Int))∧((k - (1:Int) ≤ (1000:Int))∧((l15Quandle_c1 t p k x1).length ≤ (1000000:Nat)))))∧True)∧((room ((if k = (0:Int) then [] else rkR t p (k.toNat) true x1).length + [clrN (↑(t.length):Int) (k - (1:Int)) (l15Quandle_c1 t p k x1) ((l15Quandle_c1 t p k x1).length)].length))∧((InR ((↑x1:Int) + (1:Int)))∧(∃ x3 : Nat, ((x3 ≤ t.length ^ k.toNat)∧((t.length ^ k.toNat - x3 < t.length ^ k.toNat - x1)∧((t = t)∧((p = p)∧((k = k)∧(((↑(t.length):Int) = (↑(t.length):Int))∧(((↑(cnN (↑(t.length):Int) (k.toNat) x1):Int) + (1:Int) = (↑(cnN (↑(t.length):Int) (k.toNat) x3):Int))∧(((↑x1:Int) + (1:Int) = (↑x3:Int))∧((if k = (0:Int) then [] else rkR t p (k.toNat) true x1) ++ [clrN (↑(t.length):Int) (k - (1:Int)) (l15Quandle_c1 t p k x1) ((l15Quandle_c1 t p k x1).length)] = if k = (0:Int) then [] else rkR t p (k.toNat) true x3))))))))))))))) ((InR ((↑x1:Int) + (1:Int)))∧(∃ x4 : Nat, ((x4 ≤ t.length ^ k.toNat)∧((t.length ^ k.toNat - x4 < t.length ^ k.toNat - x1)∧((t = t)∧((p = p)∧((k = k)∧(((↑(t.length):Int) = (↑(t.length):Int))∧(((↑(cnN (↑(t.length):Int) (k.toNat) x1):Int) + (1:Int) = (↑(cnN (↑(t.length):Int) (k.toNat) x4):Int))∧(((↑x1:Int) + (1:Int) = (↑x4:Int))∧((if k = (0:Int) then [] else rkR t p (k.toNat) true x1) = if k = (0:Int) then [] else rkR t p (k.toNat) true x4)))))))))))))))) ((((primeB p = true)∧((∃ (N : Nat), rwsP p N (if k = (0:Int) then [] else rkR t p (k.toNat) true x1) ∧ (1:Nat) ≤ N ∧ N ≤ (512:Nat)) ∧
 ((if k = (0:Int) then [] else rkR t p (k.toNat) true x1).length ≤ (512:Nat))))∧True)∧((((↑(cnN (↑(t.length):Int) (k.toNat) x1):Int) = cnV t k)∧(((↑(((spN p (if k = (0:Int) then [] else rkR t p (k.toNat) true x1) ((if k = (0:Int) then [] else rkR t p (k.toNat) true x1).length)).1).length):Int) = brV t p k true)∧True))∧True)))))))
theorem l15Quandle_vc (t : List (List Int)) (p : Int) (k : Int) : runF Tryz.prog (gam l15Quandle_G) noWr (l15Quandle_ann t p k) Tryz.f54 (bodyOf Tryz.f54) [] [.c (.rows .i64 (t)), .c (.int .i64 (p)), .c (.int .i64 (k))] (l15Quandle_p t p k) = l15Quandle_V t p k := by kernel_rfl
theorem l15Quandle_ok (t : List (List Int)) (p : Int) (k : Int) (hpre : (l15Quandle_p t p k).pre) : l15Quandle_V t p k := by
  simp only [l15Quandle_p, l15Quandle_V, l15Quandle_c1, BrP_iff, u1, u2, u3, u4, u5, u6, u7, u8, u9, v1, v2, v3, v4, v5, v6, v7, v8, v9, w1, w2, w3, w4, markL_length, inB, InR, room, bdsOk] at hpre ⊢
  obtain ⟨h1, hp, hd⟩ := hpre
  obtain ⟨p2, p7⟩ := primeB_le hp
  obtain ⟨n1, n2, ht⟩ := tabB_of h1
  obtain ⟨k0, k1, N1, eN, N2⟩ := rk_facts h1 hd
  refine ⟨⟨0, Nat.zero_le _, rfl, rfl, by simp [rkR]⟩, fun i hi => ?_⟩
  have CL := cnN_le (t.length : Int) k.toNat i
  rw [eN, if_pos (by omega), digN_length]
  refine ⟨by omega, fun h => ⟨by omega, by omega, fun hf => ⟨by omega, i + 1, by omega, by omega, by rw [cnN, if_pos hf], by omega, by rw [show rkR t p k.toNat true (i + 1) = rkR t p k.toNat true i by rw [rkR, if_pos ⟨rfl, hf⟩]]⟩, fun hf => ⟨by omega, fun hk => ?_, fun hk => ⟨by omega, i + 1, by omega, by omega, by rw [cnN, if_neg (by rw [hf]; decide)]; omega, by omega, by rw [if_pos (by omega), if_pos (by omega)]⟩⟩⟩, fun h => ?_⟩
  · obtain ⟨d1, d2, _, _, d5⟩ := deg_sub h1 (show 1 ≤ k by omega) hd
    have eM : (t.length : Int) ^ (k.toNat - 1) = ((t.length ^ (k.toNat - 1) : Nat) : Int) := (Int.natCast_pow _ _).symm
    have d3 := d2
    rw [eM] at d3
    have hx : bdOk t p (digN t.length k.toNat (i : Int)) := dig_ok h1 p2 p7 (by omega) d2 (by omega)
    have RK := rkR_ok (t := t) (k := k.toNat) (q := true) p2 i
    have kc : ((k.toNat : Nat) : Int) = k := by omega
    rw [ptF_length, digN_length, if_neg (by omega)]
    refine ⟨by omega, ⟨hx, by omega⟩, ⟨by omega, by omega, by omega, by omega⟩, by omega, by omega, i + 1, by omega, by omega, by rw [cnN, if_neg (by rw [hf]; decide)]; omega, by omega, ?_⟩
    rw [if_neg (by omega), rkR, if_neg (by rw [hf]; simp), rowQ, if_pos rfl, kc, ptF_length, digN_length]
  · have e : i = t.length ^ k.toNat := by omega
    by_cases hk : k = 0
    · rw [if_pos hk]
      refine ⟨⟨hp, ⟨1, fun j hj => by simp at hj, by omega, by omega⟩, by simp⟩, by rw [cnV, e], ?_⟩
      rw [brV, if_pos hk]; rfl
    · rw [if_neg hk]
      obtain ⟨d1, d2, _, _, d5⟩ := deg_sub h1 (show 1 ≤ k by omega) hd
      have eM : (t.length : Int) ^ (k.toNat - 1) = ((t.length ^ (k.toNat - 1) : Nat) : Int) := (Int.natCast_pow _ _).symm
      rw [eM] at d2
      have RK := rkR_ok (t := t) (k := k.toNat) (q := true) p2 i
      have MM : 1 ≤ t.length ^ (k.toNat - 1) := Nat.pow_pos (by omega)
      refine ⟨⟨hp, ⟨_, RK.2, MM, by omega⟩, by omega⟩, by rw [cnV, e], ?_⟩
      rw [rank_eq hp RK.2 _ (Nat.le_refl _), brV, if_neg hk, rkA, e]
theorem l15Quandle_fits : Fits Tryz.prog 54 ⟨[], l15Quandle_ct⟩ := by
  refine ffn (Γ := gam l15Quandle_G) (gok_cons l15Power_fits (gok_cons l15Tuple_fits (gok_cons l15Flat_fits (gok_cons l15Tuples_fits (gok_cons l15Clear_fits (gok_cons l15Rank_fits gok_nil)))))) Tryz.func54 fun ds p h hp => ?_
  unfold l15Quandle_ct at h
  split at h
  · cases h
    exact ⟨noWr, l15Quandle_ann _ _ _ , by rw [l15Quandle_vc]; exact l15Quandle_ok _ _ _  hp⟩
  · cases h
def brC (t : List (List Int)) (p k : Int) : Int × Int := if dgC t p k = 0 then (brV t p k false, 0) else (0, dgC t p k)
def iBR_p (t : List (List Int)) (p : Int) (k : Int) : Post := ⟨roomR t, .tup [.inl (.int .i64 ((brC t p k).1)), .inl (.int .i64 ((brC t p k).2))], []⟩
def iBR_ct : List AD → Option Post
  | [.agg [.rows .i64 (t)], .c (.int .i64 (p)), .c (.int .i64 (k))] => some (iBR_p t p k)
  | _ => none
def iBR_G : List (Nat × Ctr) := [(38, ⟨[], checkDegree_ct⟩), (41, ⟨[], boundaryRank_ct⟩)]
def iBR_V (t : List (List Int)) (p : Int) (k : Int) : Prop :=
 (((roomR t)∧True)∧(BrP (dgC t p k != (0:Int)) ((((0:Int) = (brC t p k).1)∧((dgC t p k = (brC t p k).2)∧True))∧True) ((((tabB t = true)∧((primeB p = true)∧(degB (↑(t.length):Int) k = true)))∧True)∧(((brV t p k false = (brC t p k).1)∧(((0:Int) = (brC t p k).2)∧True))∧True))))
theorem iBR_vc (t : List (List Int)) (p : Int) (k : Int) : runF Tryz.prog (gam iBR_G) noWr noAnn Tryz.f9 (bodyOf Tryz.f9) [] [.agg [.rows .i64 (t)], .c (.int .i64 (p)), .c (.int .i64 (k))] (iBR_p t p k) = iBR_V t p k := by kernel_rfl
theorem iBR_ok (t : List (List Int)) (p : Int) (k : Int) (hpre : (iBR_p t p k).pre) : iBR_V t p k := by
  simp only [iBR_p, iBR_V, BrP_iff, u1, u2, u3, u4, u5, u6, u7, u8, u9, v1, v2, v3, v4, v5, v6, v7, v8, v9, w1, w2, w3, w4, markL_length, inB, InR, room, bdsOk] at hpre ⊢
  refine ⟨hpre, fun h => by rw [brC, if_neg h]; exact ⟨rfl, rfl⟩, fun h => ?_⟩
  obtain ⟨h1, h2, h3, _⟩ := dgC_ok h
  rw [brC, if_pos h]
  exact ⟨⟨rackB_tab h1, h2, h3⟩, rfl, rfl⟩
theorem iBR_fits : Fits Tryz.prog 9 ⟨[], iBR_ct⟩ := by
  refine ffn (Γ := gam iBR_G) (gok_cons checkDegree_fits (gok_cons boundaryRank_fits gok_nil)) Tryz.func9 fun ds p h hp => ?_
  unfold iBR_ct at h
  split at h
  · cases h
    exact ⟨noWr, noAnn, by rw [iBR_vc]; exact iBR_ok _ _ _  hp⟩
  · cases h
def sBR_p (t : List (List Int)) (p : Int) (k : Int) : Post := ⟨roomR t, .tup [.inl (.int .i64 ((brC t p k).1)), .inl (.int .i64 ((brC t p k).2))], []⟩
def sBR_ct : List AD → Option Post
  | [.agg [.rows .i64 (t)], .c (.int .i64 (p)), .c (.int .i64 (k))] => some (sBR_p t p k)
  | _ => none
def sBR_G : List (Nat × Ctr) := [(42, ⟨[], l15Code_ct⟩), (45, ⟨[], l15Ranks_ct⟩)]
def sBR_V (t : List (List Int)) (p : Int) (k : Int) : Prop :=
 (((roomR t)∧True)∧(BrP (dgC t p k != (0:Int)) ((((0:Int) = (brC t p k).1)∧((dgC t p k = (brC t p k).2)∧True))∧True) ((((tabB t = true)∧((primeB p = true)∧(degB (↑(t.length):Int) k = true)))∧True)∧(((brV t p k false = (brC t p k).1)∧(((0:Int) = (brC t p k).2)∧True))∧True))))
theorem sBR_vc (t : List (List Int)) (p : Int) (k : Int) : runF Tryz.prog (gam sBR_G) noWr noAnn Tryz.f10 (bodyOf Tryz.f10) [] [.agg [.rows .i64 (t)], .c (.int .i64 (p)), .c (.int .i64 (k))] (sBR_p t p k) = sBR_V t p k := by kernel_rfl
theorem sBR_ok (t : List (List Int)) (p : Int) (k : Int) (hpre : (sBR_p t p k).pre) : sBR_V t p k := by
  simp only [sBR_p, sBR_V, BrP_iff, u1, u2, u3, u4, u5, u6, u7, u8, u9, v1, v2, v3, v4, v5, v6, v7, v8, v9, w1, w2, w3, w4, markL_length, inB, InR, room, bdsOk] at hpre ⊢
  refine ⟨hpre, fun h => by rw [brC, if_neg h]; exact ⟨rfl, rfl⟩, fun h => ?_⟩
  obtain ⟨h1, h2, h3, _⟩ := dgC_ok h
  rw [brC, if_pos h]
  exact ⟨⟨rackB_tab h1, h2, h3⟩, rfl, rfl⟩
theorem sBR_fits : Fits Tryz.prog 10 ⟨[], sBR_ct⟩ := by
  refine ffn (Γ := gam sBR_G) (gok_cons l15Code_fits (gok_cons l15Ranks_fits gok_nil)) Tryz.func10 fun ds p h hp => ?_
  unfold sBR_ct at h
  split at h
  · cases h
    exact ⟨noWr, noAnn, by rw [sBR_vc]; exact sBR_ok _ _ _  hp⟩
  · cases h
def rbtC (t : List (List Int)) (p k : Int) : Int × Int :=
  if dgC t p k = 0 then (if degB (t.length : Int) (k + 1) = true then (((t.length ^ k.toNat : Nat) : Int) - brV t p k false - brV t p (k + 1) false, 0) else (0, 3)) else (0, dgC t p k)
def iRkB_p (t : List (List Int)) (p : Int) (k : Int) : Post := ⟨roomR t, .tup [.inl (.int .i64 ((rbtC t p k).1)), .inl (.int .i64 ((rbtC t p k).2))], []⟩
def iRkB_ct : List AD → Option Post
  | [.agg [.rows .i64 (t)], .c (.int .i64 (p)), .c (.int .i64 (k))] => some (iRkB_p t p k)
  | _ => none
def iRkB_G : List (Nat × Ctr) := [(38, ⟨[], checkDegree_ct⟩), (39, ⟨[], isDegree_ct⟩), (40, ⟨[], tuplesOf_ct⟩), (41, ⟨[], boundaryRank_ct⟩)]
def iRkB_V (t : List (List Int)) (p : Int) (k : Int) : Prop :=
 (((roomR t)∧True)∧(BrP (dgC t p k != (0:Int)) ((((0:Int) = (rbtC t p k).1)∧((dgC t p k = (rbtC t p k).2)∧True))∧True) ((InR (k + (1:Int)))∧(((((1:Int) ≤ (↑(t.length):Int))∧((↑(t.length):Int) ≤ (12:Int)))∧True)∧(BrP (!degB (↑(t.length):Int) (k + (1:Int))) ((((0:Int) = (rbtC t p k).1)∧(((3:Int) = (rbtC t p k).2)∧True))∧True) (((((1:Int) ≤ (↑(t.length):Int))∧(((↑(t.length):Int) ≤ (12:Int))∧(degB (↑(t.length):Int) k = true)))∧True)∧((((tabB t = true)∧((primeB p = true)∧(degB (↑(t.length):Int) k = true)))∧True)∧((InR ((↑(t.length):Int) ^ k.toNat - brV t p k false))∧((InR (k + (1:Int)))∧((((tabB t = true)∧((primeB p = true)∧(degB (↑(t.length):Int) (k + (1:Int)) = true)))∧True)∧((InR ((↑(t.length):Int) ^ k.toNat - brV t p k false - brV t p (k + (1:Int)) false))∧((((↑(t.length):Int) ^ k.toNat - brV t p k false - brV t p (k + (1:Int)) false = (rbtC t p k).1)∧(((0:Int) = (rbtC t p k).2)∧True))∧True))))))))))))
theorem iRkB_vc (t : List (List Int)) (p : Int) (k : Int) : runF Tryz.prog (gam iRkB_G) noWr noAnn Tryz.f7 (bodyOf Tryz.f7) [] [.agg [.rows .i64 (t)], .c (.int .i64 (p)), .c (.int .i64 (k))] (iRkB_p t p k) = iRkB_V t p k := by kernel_rfl
theorem iRkB_ok (t : List (List Int)) (p : Int) (k : Int) (hpre : (iRkB_p t p k).pre) : iRkB_V t p k := by
  simp only [iRkB_p, iRkB_V, BrP_iff, u1, u2, u3, u4, u5, u6, u7, u8, u9, v1, v2, v3, v4, v5, v6, v7, v8, v9, w1, w2, w3, w4, markL_length, inB, InR, room, bdsOk] at hpre ⊢
  refine ⟨hpre, fun h => by rw [rbtC, if_neg h]; exact ⟨rfl, rfl⟩, fun h => ?_⟩
  obtain ⟨h1, hp, hd, _⟩ := dgC_ok h
  have hT := rackB_tab h1
  obtain ⟨n1, n2, ht⟩ := tabB_of hT
  obtain ⟨k0, k1, N1, eN, N2⟩ := rk_facts hT hd
  rw [rbtC, if_pos h, eN]
  refine ⟨by omega, by omega, fun h5 => by rw [if_neg (by rw [h5]; decide)]; exact ⟨rfl, rfl⟩, fun h5 => ?_⟩
  have b1 := brV_le (p := p) (q := false) hT hp hd
  have b2 := brV_le (p := p) (q := false) hT hp h5
  rw [if_pos h5]
  exact ⟨⟨by omega, by omega, hd⟩, ⟨hT, hp, hd⟩, by omega, by omega, ⟨hT, hp, h5⟩, by omega, rfl, rfl⟩
theorem iRkB_fits : Fits Tryz.prog 7 ⟨[], iRkB_ct⟩ := by
  refine ffn (Γ := gam iRkB_G) (gok_cons checkDegree_fits (gok_cons isDegree_fits (gok_cons tuplesOf_fits (gok_cons boundaryRank_fits gok_nil)))) Tryz.func7 fun ds p h hp => ?_
  unfold iRkB_ct at h
  split at h
  · cases h
    exact ⟨noWr, noAnn, by rw [iRkB_vc]; exact iRkB_ok _ _ _  hp⟩
  · cases h
def sRkB_p (t : List (List Int)) (p : Int) (k : Int) : Post := ⟨roomR t, .tup [.inl (.int .i64 ((rbtC t p k).1)), .inl (.int .i64 ((rbtC t p k).2))], []⟩
def sRkB_ct : List AD → Option Post
  | [.agg [.rows .i64 (t)], .c (.int .i64 (p)), .c (.int .i64 (k))] => some (sRkB_p t p k)
  | _ => none
def sRkB_G : List (Nat × Ctr) := [(42, ⟨[], l15Code_ct⟩), (43, ⟨[], l15Allowed_ct⟩), (44, ⟨[], l15Power_ct⟩), (45, ⟨[], l15Ranks_ct⟩)]
def sRkB_V1 (t : List (List Int)) (p : Int) (k : Int) : Prop :=
 BrP (dgC t p k != (0:Int)) ((((0:Int) = (rbtC t p k).1)∧((dgC t p k = (rbtC t p k).2)∧True))∧True) (((((1:Int) ≤ (↑(t.length):Int))∧(((↑(t.length):Int) ≤ (12:Int))∧(((0:Int) ≤ k)∧(k ≤ (1000:Int)))))∧True)∧((((tabB t = true)∧((primeB p = true)∧(degB (↑(t.length):Int) k = true)))∧True)∧((InR ((if (↑(t.length):Int) ^ k.toNat ≤ (512:Int) then (↑(t.length):Int) ^ k.toNat else (513:Int)) - brV t p k false))∧((InR (k + (1:Int)))∧((((tabB t = true)∧((primeB p = true)∧(degB (↑(t.length):Int) (k + (1:Int)) = true)))∧True)∧((InR ((if (↑(t.length):Int) ^ k.toNat ≤ (512:Int) then (↑(t.length):Int) ^ k.toNat else (513:Int)) - brV t p k false - brV t p (k + (1:Int)) false))∧((((if (↑(t.length):Int) ^ k.toNat ≤ (512:Int) then (↑(t.length):Int) ^ k.toNat else (513:Int)) - brV t p k false - brV t p (k + (1:Int)) false = (rbtC t p k).1)∧(((0:Int) = (rbtC t p k).2)∧True))∧True)))))))
def sRkB_V (t : List (List Int)) (p : Int) (k : Int) : Prop :=
 (((roomR t)∧True)∧(BrP (dgC t p k == (0:Int)) ((InR (k + (1:Int)))∧(((((1:Int) ≤ (↑(t.length):Int))∧((↑(t.length):Int) ≤ (12:Int)))∧True)∧(BrP (!degB (↑(t.length):Int) (k + (1:Int))) ((((0:Int) = (rbtC t p k).1)∧(((3:Int) = (rbtC t p k).2)∧True))∧True) (sRkB_V1 t p k)))) (sRkB_V1 t p k)))
theorem sRkB_vc (t : List (List Int)) (p : Int) (k : Int) : runF Tryz.prog (gam sRkB_G) noWr noAnn Tryz.f8 (bodyOf Tryz.f8) [] [.agg [.rows .i64 (t)], .c (.int .i64 (p)), .c (.int .i64 (k))] (sRkB_p t p k) = sRkB_V t p k := by kernel_rfl
theorem sRkB_ok (t : List (List Int)) (p : Int) (k : Int) (hpre : (sRkB_p t p k).pre) : sRkB_V t p k := by
  simp only [sRkB_p, sRkB_V, sRkB_V1, BrP_iff, u1, u2, u3, u4, u5, u6, u7, u8, u9, v1, v2, v3, v4, v5, v6, v7, v8, v9, w1, w2, w3, w4, markL_length, inB, InR, room, bdsOk] at hpre ⊢
  refine ⟨hpre, fun h => ?_, fun h => ⟨fun _ => by rw [rbtC, if_neg h]; exact ⟨rfl, rfl⟩, fun c => absurd c h⟩⟩
  obtain ⟨h1, hp, hd, _⟩ := dgC_ok h
  have hT := rackB_tab h1
  obtain ⟨n1, n2, ht⟩ := tabB_of hT
  obtain ⟨k0, k1, N1, eN, N2⟩ := rk_facts hT hd
  rw [rbtC, if_pos h, eN, if_pos (show ((t.length ^ k.toNat : Nat) : Int) ≤ 512 by omega)]
  refine ⟨by omega, by omega, fun h5 => by rw [if_neg (by rw [h5]; decide)]; exact ⟨rfl, rfl⟩, fun h5 => ⟨fun c => absurd h c, fun _ => ?_⟩⟩
  have b1 := brV_le (p := p) (q := false) hT hp hd
  have b2 := brV_le (p := p) (q := false) hT hp h5
  rw [if_pos h5]
  exact ⟨by omega, ⟨hT, hp, hd⟩, by omega, by omega, ⟨hT, hp, h5⟩, by omega, rfl, rfl⟩
theorem sRkB_fits : Fits Tryz.prog 8 ⟨[], sRkB_ct⟩ := by
  refine ffn (Γ := gam sRkB_G) (gok_cons l15Code_fits (gok_cons l15Allowed_fits (gok_cons l15Power_fits (gok_cons l15Ranks_fits gok_nil)))) Tryz.func8 fun ds p h hp => ?_
  unfold sRkB_ct at h
  split at h
  · cases h
    exact ⟨noWr, noAnn, by rw [sRkB_vc]; exact sRkB_ok _ _ _  hp⟩
  · cases h
def qbtC (t : List (List Int)) (p k : Int) : Int × Int :=
  if dgC t p k = 0 then (if degB (t.length : Int) (k + 1) = true then (if qdB t = true then (cnV t k - brV t p k true - brV t p (k + 1) true, 0) else (0, 5)) else (0, 3)) else (0, dgC t p k)
theorem qbtC_no {t : List (List Int)} {p k : Int} (h : dgC t p k ≠ 0) : 0 = (qbtC t p k).1 ∧ dgC t p k = (qbtC t p k).2 := by
  rw [qbtC, if_neg h]; exact ⟨rfl, rfl⟩
theorem qbtC_3 {t : List (List Int)} {p k : Int} (h : dgC t p k = 0) (h2 : degB (t.length : Int) (k + 1) = false) : 0 = (qbtC t p k).1 ∧ 3 = (qbtC t p k).2 := by
  rw [qbtC, if_pos h, if_neg (by rw [h2]; decide)]; exact ⟨rfl, rfl⟩
theorem qbtC_5 {t : List (List Int)} {p k : Int} (h : dgC t p k = 0) (h2 : degB (t.length : Int) (k + 1) = true) (h3 : qdB t = false) : 0 = (qbtC t p k).1 ∧ 5 = (qbtC t p k).2 := by
  rw [qbtC, if_pos h, if_pos h2, if_neg (by rw [h3]; decide)]; exact ⟨rfl, rfl⟩
theorem qbtC_yes {t : List (List Int)} {p k : Int} (h : dgC t p k = 0) (h2 : degB (t.length : Int) (k + 1) = true) (h3 : qdB t = true) : cnV t k - brV t p k true - brV t p (k + 1) true = (qbtC t p k).1 ∧ 0 = (qbtC t p k).2 := by
  rw [qbtC, if_pos h, if_pos h2, if_pos h3]; exact ⟨rfl, rfl⟩
def iQ_p (t : List (List Int)) (p : Int) (k : Int) : Post := ⟨roomR t, .tup [.inl (.int .i64 ((qbtC t p k).1)), .inl (.int .i64 ((qbtC t p k).2))], []⟩
def iQ_ct : List AD → Option Post
  | [.agg [.rows .i64 (t)], .c (.int .i64 (p)), .c (.int .i64 (k))] => some (iQ_p t p k)
  | _ => none
def iQ_ann (t : List (List Int)) (p : Int) (k : Int) : Nat → Option Ann
  | 0 => some (Ann.mk ((Nat)) (fun i => ⟨[(3, .c (.ptr 3 0)), (1, .c (.int .i64 (p))), (2, .c (.int .i64 (k))), (9, .c (.int .i64 ((t.length : Int)))), (10, .c (.int .i64 (((cnN (t.length : Int) k.toNat i : Nat) : Int)))), (33, .c (.int .i64 (((t.length ^ k.toNat : Nat) : Int)))), (34, .c (.int .i64 ((i : Int))))], [(3, some (.box [.ro (.rows .i64 (t))]))]⟩) (fun i => i ≤ t.length ^ k.toNat ∧ dgC t p k = 0 ∧ degB (t.length : Int) (k + 1) = true ∧ qdB t = true) (fun i => t.length ^ k.toNat - i) (fun _ => noAnn))
  | _ => none
def iQ_G : List (Nat × Ctr) := [(38, ⟨[], checkDegree_ct⟩), (39, ⟨[], isDegree_ct⟩), (50, ⟨[], kinkOf_ct⟩), (49, ⟨[], isIdentity_ct⟩), (40, ⟨[], tuplesOf_ct⟩), (52, ⟨[], tupleOf_ct⟩), (51, ⟨[], isDegenerate_ct⟩), (41, ⟨[], boundaryRank_ct⟩)]
def iQ_c1 (t : List (List Int)) (k : Int) (x0 : Nat) := (↑(cnN (↑(t.length):Int) (k.toNat) x0):Int)
def iQ_V (t : List (List Int)) (p : Int) (k : Int) : Prop :=
 (((roomR t)∧True)∧(BrP (dgC t p k != (0:Int)) ((((0:Int) = (qbtC t p k).1)∧((dgC t p k = (qbtC t p k).2)∧True))∧True) ((InR (k + (1:Int)))∧(((((1:Int) ≤ (↑(t.length):Int))∧((↑(t.length):Int) ≤ (12:Int)))∧True)∧(BrP (!degB (↑(t.length):Int) (k + (1:Int))) ((((0:Int) = (qbtC t p k).1)∧(((3:Int) = (qbtC t p k).2)∧True))∧True) (((tabB t = true)∧True)∧(((room ((kkL t).length))∧True)∧(BrP (!incB (kkL t)) ((((0:Int) = (qbtC t p k).1)∧(((5:Int) = (qbtC t p k).2)∧True))∧True) (((((1:Int) ≤ (↑(t.length):Int))∧(((↑(t.length):Int) ≤ (12:Int))∧(degB (↑(t.length):Int) k = true)))∧True)∧((∃ x0 : Nat, (((x0 ≤ t.length ^ k.toNat)∧((dgC t p k = (0:Int))∧((degB (↑(t.length):Int) (k + (1:Int)) = true)∧(qdB t = true))))∧((p = p)∧((k = k)∧(((↑(t.length):Int) = (↑(t.length):Int))∧(((0:Int) = (iQ_c1 t k x0))∧(((↑(t.length):Int) ^ k.toNat = (↑(t.length ^ k.toNat):Int))∧(((0:Int) = (↑x0:Int))∧(t = t)))))))))∧(∀ x1 : Nat, (((x1 ≤ t.length ^ k.toNat)∧((dgC t p k = (0:Int))∧((degB (↑(t.length):Int) (k + (1:Int)) = true)∧(qdB t = true)))) → (BrP (decide ((↑x1:Int) < (↑(t.length ^ k.toNat):Int))) (((((1:Int) ≤ (↑(t.length):Int))∧(((0:Int) ≤ k)∧((k ≤ (1000:Int))∧(((0:Int) ≤ (↑x1:Int))∧((↑x1:Int) ≤ (1000000:Int))))))∧True)∧((((digN (↑(t.length):Int) (k.toNat) (↑x1:Int)).length ≤ (1000:Nat))∧True)∧(BrP (!flB (digN (↑(t.length):Int) (k.toNat) (↑x1:Int))) ((InR ((iQ_c1 t k x1) + (1:Int)))∧((InR ((↑x1:Int) + (1:Int)))∧(∃ x2 : Nat, (((x2 ≤ t.length ^ k.toNat)∧((dgC t p k = (0:Int)) ∧
 ((degB (↑(t.length):Int) (k + (1:Int)) = true)∧(qdB t = true))))∧((t.length ^ k.toNat - x2 < t.length ^ k.toNat - x1)∧((p = p)∧((k = k)∧(((↑(t.length):Int) = (↑(t.length):Int))∧(((iQ_c1 t k x1) + (1:Int) = (iQ_c1 t k x2))∧(((↑(t.length ^ k.toNat):Int) = (↑(t.length ^ k.toNat):Int))∧(((↑x1:Int) + (1:Int) = (↑x2:Int))∧(t = t)))))))))))) ((InR ((↑x1:Int) + (1:Int)))∧(∃ x3 : Nat, (((x3 ≤ t.length ^ k.toNat)∧((dgC t p k = (0:Int))∧((degB (↑(t.length):Int) (k + (1:Int)) = true)∧(qdB t = true))))∧((t.length ^ k.toNat - x3 < t.length ^ k.toNat - x1)∧((p = p)∧((k = k)∧(((↑(t.length):Int) = (↑(t.length):Int))∧(((iQ_c1 t k x1) = (iQ_c1 t k x3))∧(((↑(t.length ^ k.toNat):Int) = (↑(t.length ^ k.toNat):Int))∧(((↑x1:Int) + (1:Int) = (↑x3:Int))∧(t = t)))))))))))))) ((((tabB t = true)∧((primeB p = true)∧(degB (↑(t.length):Int) k = true)))∧True)∧((InR ((iQ_c1 t k x1) - brV t p k true))∧((InR (k + (1:Int)))∧((((tabB t = true)∧((primeB p = true)∧(degB (↑(t.length):Int) (k + (1:Int)) = true)))∧True)∧((InR ((iQ_c1 t k x1) - brV t p k true - brV t p (k + (1:Int)) true))∧((((iQ_c1 t k x1) - brV t p k true - brV t p (k + (1:Int)) true = (qbtC t p k).1)∧(((0:Int) = (qbtC t p k).2)∧True))∧True)))))))))))))))))))
theorem iQ_vc (t : List (List Int)) (p : Int) (k : Int) : runF Tryz.prog (gam iQ_G) noWr (iQ_ann t p k) Tryz.f12 (bodyOf Tryz.f12) [] [.agg [.rows .i64 (t)], .c (.int .i64 (p)), .c (.int .i64 (k))] (iQ_p t p k) = iQ_V t p k := by kernel_rfl
theorem iQ_ok (t : List (List Int)) (p : Int) (k : Int) (hpre : (iQ_p t p k).pre) : iQ_V t p k := by
  simp only [iQ_p, iQ_V, iQ_c1, BrP_iff, u1, u2, u3, u4, u5, u6, u7, u8, u9, v1, v2, v3, v4, v5, v6, v7, v8, v9, w1, w2, w3, w4, markL_length, inB, InR, room, bdsOk] at hpre ⊢
  refine ⟨hpre, fun h => qbtC_no h, fun h => ?_⟩
  obtain ⟨h1, hp, hd, _⟩ := dgC_ok h
  have hT := rackB_tab h1
  obtain ⟨n1, n2, ht⟩ := tabB_of hT
  obtain ⟨k0, k1, N1, eN, N2⟩ := rk_facts hT hd
  have kl : (kkL t).length = t.length := tab_length _ _
  rw [kk_inc hT, eN]
  refine ⟨by omega, by omega, fun h5 => qbtC_3 h h5, fun h5 => ⟨hT, by omega, fun h6 => qbtC_5 h h5 h6, fun h6 => ⟨⟨by omega, by omega, hd⟩, ⟨0, ⟨Nat.zero_le _, h, h5, h6⟩, rfl, rfl, rfl⟩, fun i ⟨hi, _⟩ => ⟨fun h7 => ?_, fun h7 => ?_⟩⟩⟩⟩
  · have CL := cnN_le (t.length : Int) k.toNat i
    rw [digN_length]
    refine ⟨by omega, by omega, fun hf => ⟨by omega, by omega, i + 1, ⟨by omega, h, h5, h6⟩, by omega, by rw [cnN, if_neg (by rw [hf]; decide)]; omega, by omega⟩, fun hf => ⟨by omega, i + 1, ⟨by omega, h, h5, h6⟩, by omega, by rw [cnN, if_pos hf], by omega⟩⟩
  · have b1 := brV_le (p := p) (q := true) hT hp hd
    have b2 := brV_le (p := p) (q := true) hT hp h5
    have CL := cnN_le (t.length : Int) k.toNat i
    have e : ((cnN (t.length : Int) k.toNat i : Nat) : Int) = cnV t k := by rw [cnV, show i = t.length ^ k.toNat by omega]
    have y := qbtC_yes h h5 h6
    rw [← e] at y
    exact ⟨⟨hT, hp, hd⟩, by omega, by omega, ⟨hT, hp, h5⟩, by omega, y⟩
theorem iQ_fits : Fits Tryz.prog 12 ⟨[], iQ_ct⟩ := by
  refine ffn (Γ := gam iQ_G) (gok_cons checkDegree_fits (gok_cons isDegree_fits (gok_cons kinkOf_fits (gok_cons isIdentity_fits (gok_cons tuplesOf_fits (gok_cons tupleOf_fits (gok_cons isDegenerate_fits (gok_cons boundaryRank_fits gok_nil)))))))) Tryz.func12 fun ds p h hp => ?_
  unfold iQ_ct at h
  split at h
  · cases h
    exact ⟨noWr, iQ_ann _ _ _ , by rw [iQ_vc]; exact iQ_ok _ _ _  hp⟩
  · cases h
def sQ_p (t : List (List Int)) (p : Int) (k : Int) : Post := ⟨roomR t, .tup [.inl (.int .i64 ((qbtC t p k).1)), .inl (.int .i64 ((qbtC t p k).2))], []⟩
def sQ_ct : List AD → Option Post
  | [.agg [.rows .i64 (t)], .c (.int .i64 (p)), .c (.int .i64 (k))] => some (sQ_p t p k)
  | _ => none
def sQ_G : List (Nat × Ctr) := [(42, ⟨[], l15Code_ct⟩), (43, ⟨[], l15Allowed_ct⟩), (53, ⟨[], l03Quandle_ct⟩), (54, ⟨[], l15Quandle_ct⟩)]
def sQ_V1 (t : List (List Int)) (p : Int) (k : Int) : Prop :=
 BrP (dgC t p k == (0:Int)) (((tabB t = true)∧True)∧(BrP (!qdB t) ((((0:Int) = (qbtC t p k).1)∧(((5:Int) = (qbtC t p k).2)∧True))∧True) (BrP (dgC t p k != (0:Int)) ((((0:Int) = (qbtC t p k).1)∧((dgC t p k = (qbtC t p k).2)∧True))∧True) ((((tabB t = true)∧((primeB p = true)∧(degB (↑(t.length):Int) k = true)))∧True)∧((InR (k + (1:Int)))∧((((tabB t = true)∧((primeB p = true)∧(degB (↑(t.length):Int) (k + (1:Int)) = true)))∧True)∧((InR (cnV t k - brV t p k true))∧((InR (cnV t k - brV t p k true - brV t p (k + (1:Int)) true))∧(((cnV t k - brV t p k true - brV t p (k + (1:Int)) true = (qbtC t p k).1)∧(((0:Int) = (qbtC t p k).2)∧True))∧True))))))))) (BrP (dgC t p k != (0:Int)) ((((0:Int) = (qbtC t p k).1)∧((dgC t p k = (qbtC t p k).2)∧True))∧True) ((((tabB t = true)∧((primeB p = true)∧(degB (↑(t.length):Int) k = true)))∧True)∧((InR (k + (1:Int)))∧((((tabB t = true)∧((primeB p = true)∧(degB (↑(t.length):Int) (k + (1:Int)) = true)))∧True)∧((InR (cnV t k - brV t p k true))∧((InR (cnV t k - brV t p k true - brV t p (k + (1:Int)) true))∧(((cnV t k - brV t p k true - brV t p (k + (1:Int)) true = (qbtC t p k).1)∧(((0:Int) = (qbtC t p k).2)∧True))∧True)))))))
def sQ_V (t : List (List Int)) (p : Int) (k : Int) : Prop :=
 (((roomR t)∧True)∧(BrP (dgC t p k == (0:Int)) ((InR (k + (1:Int)))∧(((((1:Int) ≤ (↑(t.length):Int))∧((↑(t.length):Int) ≤ (12:Int)))∧True)∧(BrP (!degB (↑(t.length):Int) (k + (1:Int))) ((((0:Int) = (qbtC t p k).1)∧(((3:Int) = (qbtC t p k).2)∧True))∧True) (sQ_V1 t p k)))) (sQ_V1 t p k)))
theorem sQ_vc (t : List (List Int)) (p : Int) (k : Int) : runF Tryz.prog (gam sQ_G) noWr noAnn Tryz.f13 (bodyOf Tryz.f13) [] [.agg [.rows .i64 (t)], .c (.int .i64 (p)), .c (.int .i64 (k))] (sQ_p t p k) = sQ_V t p k := by kernel_rfl
theorem sQ_ok (t : List (List Int)) (p : Int) (k : Int) (hpre : (sQ_p t p k).pre) : sQ_V t p k := by
  simp only [sQ_p, sQ_V, sQ_V1, BrP_iff, u1, u2, u3, u4, u5, u6, u7, u8, u9, v1, v2, v3, v4, v5, v6, v7, v8, v9, w1, w2, w3, w4, markL_length, inB, InR, room, bdsOk] at hpre ⊢
  refine ⟨hpre, fun h => ?_, fun h => ⟨fun c => absurd c h, fun _ => ⟨fun _ => qbtC_no h, fun c => absurd c h⟩⟩⟩
  obtain ⟨h1, hp, hd, _⟩ := dgC_ok h
  have hT := rackB_tab h1
  obtain ⟨n1, n2, ht⟩ := tabB_of hT
  obtain ⟨k0, k1, N1, eN, N2⟩ := rk_facts hT hd
  refine ⟨by omega, by omega, fun h5 => qbtC_3 h h5, fun h5 => ⟨fun _ => ⟨hT, fun h6 => qbtC_5 h h5 h6, fun h6 => ⟨fun c => absurd h c, fun _ => ?_⟩⟩, fun c => absurd h c⟩⟩
  have b1 := brV_le (p := p) (q := true) hT hp hd
  have b2 := brV_le (p := p) (q := true) hT hp h5
  have CL := cnN_le (t.length : Int) k.toNat (t.length ^ k.toNat)
  have e : cnV t k = ((cnN (t.length : Int) k.toNat (t.length ^ k.toNat) : Nat) : Int) := rfl
  exact ⟨⟨hT, hp, hd⟩, by omega, ⟨hT, hp, h5⟩, by omega, by omega, qbtC_yes h h5 h6⟩
theorem sQ_fits : Fits Tryz.prog 13 ⟨[], sQ_ct⟩ := by
  refine ffn (Γ := gam sQ_G) (gok_cons l15Code_fits (gok_cons l15Allowed_fits (gok_cons l03Quandle_fits (gok_cons l15Quandle_fits gok_nil)))) Tryz.func13 fun ds p h hp => ?_
  unfold sQ_ct at h
  split at h
  · cases h
    exact ⟨noWr, noAnn, by rw [sQ_vc]; exact sQ_ok _ _ _  hp⟩
  · cases h
end Go.Sx
