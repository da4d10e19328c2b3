/- CbC -/
import Derived.Test.YtcfbmimjffkgdaaKerC
import Derived.Test.YtcfbmimjffkgdaaEchC
import Derived.Test.YtcfbmimjffkgdaaCoc
import Derived.Test.YtcfbmimjffkgdaaCocP
open Go Go.Proofs
namespace Go.Sx
set_option linter.unusedSimpArgs false
set_option linter.unusedVariables false

/-- The reduced boundaries of degree 3, and the basis. -/
def kbB (t : List (List Int)) (p : Int) : List (List Int) := srtL (imN p (crows t p) (crows t p).length)
def kbL (t : List (List Int)) (p : Int) : List (List Int) := cbaL p (t.length * t.length) (crows t p)
def kbC (t : List (List Int)) (p : Int) : List (List Int) × Int :=
  if rackB t = true then (if primeB p = true then (if degB t.length 3 = true then (kbL t p, 0) else ([], 3)) else ([], 2)) else ([], 1)

def kbK (t : List (List Int)) (p : Int) (a : Nat) : List (List Int) := kerN p (t.length * t.length) (kbB t p) a

theorem kbC_a {t : List (List Int)} {p : Int} (h : dgC t p 2 ≠ 0) : [] = (kbC t p).1 ∧ dgC t p 2 = (kbC t p).2 := by
  unfold dgC at h ⊢
  unfold kbC
  by_cases hr : rackB t = true
  · rw [if_pos hr] at h ⊢
    rw [if_pos hr]
    by_cases hd : dgB t p 2 = true
    · rw [if_pos hd] at h; exact absurd rfl h
    · rw [if_neg hd]
      have : ¬ primeB p = true := fun hp => hd (by
        have n2 := (tabB_of (rackB_tab hr)).2.1
        have : (t.length : Int) ^ (2 : Int).toNat ≤ 512 := by
          have := sq_le n2
          rw [← Int.natCast_pow]
          have e : t.length ^ (2 : Int).toNat = t.length * t.length := by simp [Nat.pow_succ]
          rw [e]; omega
        simp only [dgB, hp, degB, Bool.true_and, Bool.and_eq_true, decide_eq_true_eq]
        exact ⟨by omega, this⟩)
      rw [if_neg this]; exact ⟨rfl, rfl⟩
  · rw [if_neg hr, if_neg hr]; exact ⟨rfl, rfl⟩

theorem kbC_b {t : List (List Int)} {p : Int} (hr : rackB t = true) (hp : primeB p = true) (hd : degB t.length 3 = false) : kbC t p = ([], 3) := by simp [kbC, hr, hp, hd]
theorem kbC_c {t : List (List Int)} {p : Int} (hr : rackB t = true) (hp : primeB p = true) (hd : degB t.length 3 = true) : kbC t p = (kbL t p, 0) := by simp [kbC, hr, hp, hd]
theorem kbC_d {t : List (List Int)} {p : Int} (hr : rackB t = false) : kbC t p = ([], 1) := by simp [kbC, hr]
theorem kbC_e {t : List (List Int)} {p : Int} (hr : rackB t = true) (hp : primeB p = false) : kbC t p = ([], 2) := by simp [kbC, hr, hp]

structure KbOk (t : List (List Int)) (p : Int) : Prop where
  tab : tabB t = true
  n1 : 1 ≤ t.length
  n8 : t.length ≤ 8
  sq : t.length * t.length ≤ 64
  sq1 : 1 ≤ t.length * t.length
  cu : t.length * t.length * t.length ≤ 512
  p2 : 2 ≤ p
  p7 : p ≤ 7
  rws : rwsP p (t.length * t.length) (crows t p)
  ref : Rref p (t.length * t.length) (kbB t p)
  len : (kbB t p).length ≤ 64
  ker : ∀ a, a ≤ t.length * t.length → rwsP p (t.length * t.length) (kbK t p a) ∧ (kbK t p a).length ≤ a

theorem kb_ok {t : List (List Int)} {p : Int} (hr : rackB t = true) (hp : primeB p = true) (hd : degB t.length 3 = true) : KbOk t p := by
  have ht := rackB_tab hr
  obtain ⟨n1, n2, _⟩ := tabB_of ht
  obtain ⟨_, _, d⟩ := degB_of hd
  have n8 : t.length ≤ 8 := by
    have e : ((t.length : Int)) ^ (3 : Int).toNat = ((t.length * t.length * t.length : Nat) : Int) := by rw [← Int.natCast_pow]; simp [Nat.pow_succ]
    rw [e] at d
    have a : t.length < 9 := by
      refine Nat.lt_of_not_le fun h => ?_
      have b := Nat.mul_le_mul (Nat.mul_le_mul h h) h
      omega
    omega
  obtain ⟨p2, p7⟩ := primeB_le hp
  have rws := crows_rws (t := t) p2
  have ref := (red_rref hp rws).1
  have sq : t.length * t.length ≤ 64 := Nat.mul_le_mul n8 n8
  have all := nfr_all ref
  exact ⟨ht, n1, n8, sq, Nat.mul_le_mul n1 n1, Nat.mul_le_mul sq n8, p2, p7, rws, ref, by unfold kbB; omega, fun a ha => kerN_rws p2 (fun i hi => ref.row i hi) a ha⟩

theorem kb_sum {p : Int} {N : Nat} {B : List (List Int)} (h : rwsP p N B) : sumL B = B.length * N := by
  have : ∀ i, i ≤ B.length → sumL (B.take i) = i * N := fun i => by
    induction i with
    | zero => intro _; simp [sumL]
    | succ i ih =>
      intro hi
      rw [sumL_take B i (by omega), ih (by omega), (h i (by omega)).1, Nat.succ_mul]
  have := this B.length (Nat.le_refl _)
  rwa [List.take_length] at this

theorem kb_room {p : Int} {N : Nat} {B : List (List Int)} (h : rwsP p N B) (hN : N ≤ 64) (hl : B.length ≤ 64) : roomR B :=
  ⟨by omega, fun r hr => by
    obtain ⟨k, hk, e⟩ := List.mem_iff_getElem.1 hr
    have := (h k hk).1
    rw [show B.getD k [] = r by rw [← e]; simp [List.getD, hk]] at this
    omega⟩

theorem kbL_rws {t : List (List Int)} {p : Int} (K : KbOk t p) (hp : primeB p = true) : rwsP p (t.length * t.length) (kbL t p) ∧ (kbL t p).length ≤ t.length * t.length := by
  have k := K.ker _ (Nat.le_refl _)
  have r := (red_rref hp k.1).1
  have e := nfr_all r
  refine ⟨fun i hi => r.row i hi, ?_⟩
  show (srtL (imN p (kbK t p (t.length * t.length)) (kbK t p (t.length * t.length)).length)).length ≤ _
  omega

theorem kbC_ok (t : List (List Int)) (p : Int) : roomR (kbC t p).1 ∧ (kbC t p).1.length ≤ 64 ∧ sumL (kbC t p).1 ≤ 4096 := by
  unfold kbC
  split
  · rename_i hr
    split
    · rename_i hp
      split
      · rename_i hd
        have K := kb_ok hr hp hd
        obtain ⟨a, b⟩ := kbL_rws K hp
        have s := K.sq
        have m := Nat.mul_le_mul (show (kbL t p).length ≤ 64 by omega) s
        have c := kb_sum a
        refine ⟨kb_room a s (show (kbL t p).length ≤ 64 by omega), by show (kbL t p).length ≤ 64; omega, by show sumL (kbL t p) ≤ 4096; omega⟩
      · exact ⟨⟨by simp, fun r hr => (List.not_mem_nil hr).elim⟩, by simp, by simp [sumL]⟩
    · exact ⟨⟨by simp, fun r hr => (List.not_mem_nil hr).elim⟩, by simp, by simp [sumL]⟩
  · exact ⟨⟨by simp, fun r hr => (List.not_mem_nil hr).elim⟩, by simp, by simp [sumL]⟩

theorem sqI (n : Nat) : (n : Int) * (n : Int) = ((n * n : Nat) : Int) := by simp
theorem cuI (n : Nat) : ((n * n : Nat) : Int) * (n : Int) = ((n * n * n : Nat) : Int) := by simp

def iKb_p (t : List (List Int)) (p : Int) : Post := ⟨roomR t, .tup [.inl (.rows 46 2 .i64 ((kbC t p).1)), .inl (.int .i64 ((kbC t p).2))], []⟩
def iKb_ct : List AD → Option Post
  | [.agg [.rows .i64 (t)], .c (.int .i64 (p))] => some (iKb_p t p)
  | _ => none
def iKb_G : List (Nat × Ctr) := [(50, ⟨[], checkDegree_ct⟩), (51, ⟨[], isDegree_ct⟩), (54, ⟨[], cocycleRows_ct⟩), (53, ⟨[], reducedRows_ct⟩), (52, ⟨[], kernelOf_ct⟩)]
def iKb_V (t : List (List Int)) (p : Int) : Prop :=
  (((roomR t) ∧
 (True)) ∧
 (BrP (dgC t p (2 : Int) != (0 : Int))
 ((([] = Prod.fst (kbC t p)) ∧
 ((dgC t p (2 : Int) = Prod.snd (kbC t p)) ∧
 (True))) ∧
 (True))
 (((((1 : Int) ≤ (↑(List.length t) : Int)) ∧
 ((↑(List.length t) : Int) ≤ (12 : Int))) ∧
 (True)) ∧
 (BrP (!degB (↑(List.length t) : Int) (3 : Int))
 ((([] = Prod.fst (kbC t p)) ∧
 (((3 : Int) = Prod.snd (kbC t p)) ∧
 (True))) ∧
 (True))
 ((InR ((↑(List.length t) : Int) * (↑(List.length t) : Int))) ∧
 ((((tabB t = Bool.true) ∧
 (((2 : Int) ≤ p) ∧
 (p ≤ (7 : Int)))) ∧
 (True)) ∧
 ((((primeB p = Bool.true) ∧
 ((∃ (N : Nat), rwsP p N (crows t p) ∧ (1 : Nat) ≤ N ∧ N ≤ (512 : Nat)) ∧
 (List.length (crows t p) ≤ (512 : Nat)))) ∧
 (True)) ∧
 (((((2 : Int) ≤ p) ∧
 ((p ≤ (7 : Int)) ∧
 (((0 : Int) ≤ (↑(List.length t) : Int) * (↑(List.length t) : Int)) ∧
 (((↑(List.length t) : Int) * (↑(List.length t) : Int) ≤ (512 : Int)) ∧
 ((rwsP p (Int.toNat ((↑(List.length t) : Int) * (↑(List.length t) : Int))) (srtL (imN p (crows t p) (List.length (crows t p))))) ∧
 ((∀ (i : Nat), i < List.length (srtL (imN p (crows t p) (List.length (crows t p)))) → (0 : Int) ≤ ldF (List.getD (srtL (imN p (crows t p) (List.length (crows t p)))) i [])) ∧
 (List.length (srtL (imN p (crows t p) (List.length (crows t p)))) ≤ (512 : Nat)))))))) ∧
 (True)) ∧
 ((((primeB p = Bool.true) ∧
 ((∃ (N : Nat), rwsP p N (kerN p (Int.toNat ((↑(List.length t) : Int) * (↑(List.length t) : Int))) (srtL (imN p (crows t p) (List.length (crows t p)))) (Int.toNat ((↑(List.length t) : Int) * (↑(List.length t) : Int)))) ∧ (1 : Nat) ≤ N ∧ N ≤ (512 : Nat)) ∧
 (List.length (kerN p (Int.toNat ((↑(List.length t) : Int) * (↑(List.length t) : Int))) (srtL (imN p (crows t p) (List.length (crows t p)))) (Int.toNat ((↑(List.length t) : Int) * (↑(List.length t) : Int)))) ≤ (512 : Nat)))) ∧
 (True)) ∧
 (((srtL (imN p (kerN p (Int.toNat ((↑(List.length t) : Int) * (↑(List.length t) : Int))) (srtL (imN p (crows t p) (List.length (crows t p)))) (Int.toNat ((↑(List.length t) : Int) * (↑(List.length t) : Int)))) (List.length (kerN p (Int.toNat ((↑(List.length t) : Int) * (↑(List.length t) : Int))) (srtL (imN p (crows t p) (List.length (crows t p)))) (Int.toNat ((↑(List.length t) : Int) * (↑(List.length t) : Int)))))) = Prod.fst (kbC t p)) ∧
 (((0 : Int) = Prod.snd (kbC t p)) ∧
 (True))) ∧
 (True)))))))))))
theorem iKb_vc (t : List (List Int)) (p : Int) : runF Try.prog (gam iKb_G) noWr noAnn Try.f10 (bodyOf Try.f10) [] [.agg [.rows .i64 (t)], .c (.int .i64 (p))] (iKb_p t p) = iKb_V t p := by kernel_rfl
theorem iKb_ok (t : List (List Int)) (p : Int) (hpre : (iKb_p t p).pre) : iKb_V t p := by
  simp only [iKb_p, iKb_V, BrP_iff, true_and, and_true, decide_eq_true_eq, decide_eq_false_iff_not, bne_iff_ne, beq_iff_eq, bne_eq_false_iff_eq, beq_eq_false_iff_ne, Bool.not_eq_true, Bool.not_eq_false, Bool.not_true, Bool.not_false, Bool.not_eq_eq_eq_not, Int.toNat_natCast, List.length_append, List.length_take, List.length_replicate, List.length_set, List.length_map, List.length_drop, List.length_nil, List.length_cons, markL_length, inB, InR, room, bdsOk] at hpre ⊢
  refine ⟨hpre, fun h => kbC_a h, fun h => ?_⟩
  obtain ⟨hr, hp, _, _⟩ := dgC_ok h
  obtain ⟨n1, n2, _⟩ := tabB_of (rackB_tab hr)
  refine ⟨by omega, fun hd => ?_, fun hd => ?_⟩
  · rw [kbC_b hr hp hd]; exact ⟨rfl, rfl⟩
  · have K := kb_ok hr hp hd
    rw [kbC_c hr hp hd, sqI]
    simp only [Int.toNat_natCast]
    have sq := K.sq
    have sq1 := K.sq1
    have cu := K.cu
    have kr := K.ker _ (Nat.le_refl _)
    refine ⟨by omega, ⟨K.tab, K.p2, K.p7⟩, ⟨hp, ⟨_, K.rws, sq1, by omega⟩, by rw [crows_length]; omega⟩, ⟨K.p2, K.p7, by omega, by omega, fun i hi => K.ref.row i hi, K.ref.nn, by have := K.len; exact Nat.le_trans this (by omega)⟩, ⟨hp, ⟨_, kr.1, sq1, by omega⟩, ?_⟩, rfl, trivial⟩
    have := kr.2
    exact Nat.le_trans this (by omega)
theorem iKb_fits : Fits Try.prog 10 ⟨[], iKb_ct⟩ := by
  refine fits_fn (Γ := gam iKb_G) (gok_cons checkDegree_fits (gok_cons isDegree_fits (gok_cons cocycleRows_fits (gok_cons reducedRows_fits (gok_cons kernelOf_fits gok_nil))))) Try.func10 (by kernel_rfl) (by kernel_rfl) (by kernel_rfl) fun ds p h hp => ?_
  unfold iKb_ct at h
  split at h
  · cases h
    exact ⟨noWr, noAnn, by rw [iKb_vc]; exact iKb_ok _ _  hp⟩
  · cases h





end Go.Sx
