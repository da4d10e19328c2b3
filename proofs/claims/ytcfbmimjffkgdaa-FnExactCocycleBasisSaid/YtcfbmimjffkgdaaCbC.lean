/- CbC -/
import Derived.Test.YtcfbmimjffkgdaaKerC
import Derived.Test.YtcfbmimjffkgdaaEchC
import Derived.Test.YtcfbmimjffkgdaaCoc
import Derived.Test.YtcfbmimjffkgdaaCocP
open Go Go.Proofs
namespace Go.Sx
set_option linter.unusedSimpArgs false
set_option linter.unusedVariables false

/-- The reduced boundaries of degree 3, and the basis. -/
def kbB (t : List (List Int)) (p : Int) : List (List Int) := srtL (imN p (crows t p) (crows t p).length)
def kbL (t : List (List Int)) (p : Int) : List (List Int) := cbaL p (t.length * t.length) (crows t p)
def kbC (t : List (List Int)) (p : Int) : List (List Int) × Int :=
  if rackB t = true then (if primeB p = true then (if degB t.length 3 = true then (kbL t p, 0) else ([], 3)) else ([], 2)) else ([], 1)

def kbK (t : List (List Int)) (p : Int) (a : Nat) : List (List Int) := kerN p (t.length * t.length) (kbB t p) a

theorem kbC_a {t : List (List Int)} {p : Int} (h : dgC t p 2 ≠ 0) : [] = (kbC t p).1 ∧ dgC t p 2 = (kbC t p).2 := by
  unfold dgC at h ⊢
  unfold kbC
  by_cases hr : rackB t = true
  · rw [if_pos hr] at h ⊢
    rw [if_pos hr]
    by_cases hd : dgB t p 2 = true
    · rw [if_pos hd] at h; exact absurd rfl h
    · rw [if_neg hd]
      have : ¬ primeB p = true := fun hp => hd (by
        have n2 := (tabB_of (rackB_tab hr)).2.1
        have : (t.length : Int) ^ (2 : Int).toNat ≤ 512 := by
          have := sq_le n2
          rw [← Int.natCast_pow]
          have e : t.length ^ (2 : Int).toNat = t.length * t.length := by simp [Nat.pow_succ]
          rw [e]; omega
        simp only [dgB, hp, degB, Bool.true_and, Bool.and_eq_true, decide_eq_true_eq]
        exact ⟨by omega, this⟩)
      rw [if_neg this]; exact ⟨rfl, rfl⟩
  · rw [if_neg hr, if_neg hr]; exact ⟨rfl, rfl⟩

theorem kbC_b {t : List (List Int)} {p : Int} (hr : rackB t = true) (hp : primeB p = true) (hd : degB t.length 3 = false) : kbC t p = ([], 3) := by simp [kbC, hr, hp, hd]
theorem kbC_c {t : List (List Int)} {p : Int} (hr : rackB t = true) (hp : primeB p = true) (hd : degB t.length 3 = true) : kbC t p = (kbL t p, 0) := by simp [kbC, hr, hp, hd]
theorem kbC_d {t : List (List Int)} {p : Int} (hr : rackB t = false) : kbC t p = ([], 1) := by simp [kbC, hr]
theorem kbC_e {t : List (List Int)} {p : Int} (hr : rackB t = true) (hp : primeB p = false) : kbC t p = ([], 2) := by simp [kbC, hr, hp]

structure KbOk (t : List (List Int)) (p : Int) : Prop where
  tab : tabB t = true
  n1 : 1 ≤ t.length
  n8 : t.length ≤ 8
  sq : t.length * t.length ≤ 64
  sq1 : 1 ≤ t.length * t.length
  cu : t.length * t.length * t.length ≤ 512
  p2 : 2 ≤ p
  p7 : p ≤ 7
  rws : rwsP p (t.length * t.length) (crows t p)
  ref : Rref p (t.length * t.length) (kbB t p)
  len : (kbB t p).length ≤ 64
  ker : ∀ a, a ≤ t.length * t.length → rwsP p (t.length * t.length) (kbK t p a) ∧ (kbK t p a).length ≤ a

theorem kb_ok {t : List (List Int)} {p : Int} (hr : rackB t = true) (hp : primeB p = true) (hd : degB t.length 3 = true) : KbOk t p := by
  have ht := rackB_tab hr
  obtain ⟨n1, n2, _⟩ := tabB_of ht
  obtain ⟨_, _, d⟩ := degB_of hd
  have n8 : t.length ≤ 8 := by
    have e : ((t.length : Int)) ^ (3 : Int).toNat = ((t.length * t.length * t.length : Nat) : Int) := by rw [← Int.natCast_pow]; simp [Nat.pow_succ]
    rw [e] at d
    have a : t.length < 9 := by
      refine Nat.lt_of_not_le fun h => ?_
      have b := Nat.mul_le_mul (Nat.mul_le_mul h h) h
      omega
    omega
  obtain ⟨p2, p7⟩ := primeB_le hp
  have rws := crows_rws (t := t) p2
  have ref := (red_rref hp rws).1
  have sq : t.length * t.length ≤ 64 := Nat.mul_le_mul n8 n8
  have all := nfr_all ref
  exact ⟨ht, n1, n8, sq, Nat.mul_le_mul n1 n1, Nat.mul_le_mul sq n8, p2, p7, rws, ref, by unfold kbB; omega, fun a ha => kerN_rws p2 (fun i hi => ref.row i hi) a ha⟩

theorem kb_sum {p : Int} {N : Nat} {B : List (List Int)} (h : rwsP p N B) : sumL B = B.length * N := by
  have : ∀ i, i ≤ B.length → sumL (B.take i) = i * N := fun i => by
    induction i with
    | zero => intro _; simp [sumL]
    | succ i ih =>
      intro hi
      rw [sumL_take B i (by omega), ih (by omega), (h i (by omega)).1, Nat.succ_mul]
  have := this B.length (Nat.le_refl _)
  rwa [List.take_length] at this

theorem kb_room {p : Int} {N : Nat} {B : List (List Int)} (h : rwsP p N B) (hN : N ≤ 64) (hl : B.length ≤ 64) : roomR B :=
  ⟨by omega, fun r hr => by
    obtain ⟨k, hk, e⟩ := List.mem_iff_getElem.1 hr
    have := (h k hk).1
    rw [show B.getD k [] = r by rw [← e]; simp [List.getD, hk]] at this
    omega⟩

theorem kbL_rws {t : List (List Int)} {p : Int} (K : KbOk t p) (hp : primeB p = true) : rwsP p (t.length * t.length) (kbL t p) ∧ (kbL t p).length ≤ t.length * t.length := by
  have k := K.ker _ (Nat.le_refl _)
  have r := (red_rref hp k.1).1
  have e := nfr_all r
  refine ⟨fun i hi => r.row i hi, ?_⟩
  show (srtL (imN p (kbK t p (t.length * t.length)) (kbK t p (t.length * t.length)).length)).length ≤ _
  omega

theorem kbC_ok (t : List (List Int)) (p : Int) : roomR (kbC t p).1 ∧ (kbC t p).1.length ≤ 64 ∧ sumL (kbC t p).1 ≤ 4096 := by
  unfold kbC
  split
  · rename_i hr
    split
    · rename_i hp
      split
      · rename_i hd
        have K := kb_ok hr hp hd
        obtain ⟨a, b⟩ := kbL_rws K hp
        have s := K.sq
        have m := Nat.mul_le_mul (show (kbL t p).length ≤ 64 by omega) s
        have c := kb_sum a
        refine ⟨kb_room a s (show (kbL t p).length ≤ 64 by omega), by show (kbL t p).length ≤ 64; omega, by show sumL (kbL t p) ≤ 4096; omega⟩
      · exact ⟨⟨by simp, fun r hr => (List.not_mem_nil hr).elim⟩, by simp, by simp [sumL]⟩
    · exact ⟨⟨by simp, fun r hr => (List.not_mem_nil hr).elim⟩, by simp, by simp [sumL]⟩
  · exact ⟨⟨by simp, fun r hr => (List.not_mem_nil hr).elim⟩, by simp, by simp [sumL]⟩

theorem sqI (n : Nat) : (n : Int) * (n : Int) = ((n * n : Nat) : Int) := by simp
theorem cuI (n : Nat) : ((n * n : Nat) : Int) * (n : Int) = ((n * n * n : Nat) : Int) := by simp

def iKb_p (t : List (List Int)) (p : Int) : Post := ⟨roomR t, .tup [.inl (.rows 46 2 .i64 ((kbC t p).1)), .inl (.int .i64 ((kbC t p).2))], []⟩
def iKb_ct : List AD → Option Post
  | [.agg [.rows .i64 (t)], .c (.int .i64 (p))] => some (iKb_p t p)
  | _ => none
def iKb_G : List (Nat × Ctr) := [(50, ⟨[], checkDegree_ct⟩), (51, ⟨[], isDegree_ct⟩), (54, ⟨[], cocycleRows_ct⟩), (53, ⟨[], reducedRows_ct⟩), (52, ⟨[], kernelOf_ct⟩)]
def iKb_V (t : List (List Int)) (p : Int) : Prop :=
  (((roomR t) ∧
 (True)) ∧
 (BrP (dgC t p (2 : Int) != (0 : Int))
 ((([] = Prod.fst (kbC t p)) ∧
 ((dgC t p (2 : Int) = Prod.snd (kbC t p)) ∧
 (True))) ∧
 (True))
 (((((1 : Int) ≤ (↑(List.length t) : Int)) ∧
 ((↑(List.length t) : Int) ≤ (12 : Int))) ∧
 (True)) ∧
 (BrP (!degB (↑(List.length t) : Int) (3 : Int))
 ((([] = Prod.fst (kbC t p)) ∧
 (((3 : Int) = Prod.snd (kbC t p)) ∧
 (True))) ∧
 (True))
 ((InR ((↑(List.length t) : Int) * (↑(List.length t) : Int))) ∧
 ((((tabB t = Bool.true) ∧
 (((2 : Int) ≤ p) ∧
 (p ≤ (7 : Int)))) ∧
 (True)) ∧
 ((((primeB p = Bool.true) ∧
 ((∃ (N : Nat), rwsP p N (crows t p) ∧ (1 : Nat) ≤ N ∧ N ≤ (512 : Nat)) ∧
 (List.length (crows t p) ≤ (512 : Nat)))) ∧
 (True)) ∧
 (((((2 : Int) ≤ p) ∧
 ((p ≤ (7 : Int)) ∧
 (((0 : Int) ≤ (↑(List.length t) : Int) * (↑(List.length t) : Int)) ∧
 (((↑(List.length t) : Int) * (↑(List.length t) : Int) ≤ (512 : Int)) ∧
 ((rwsP p (Int.toNat ((↑(List.length t) : Int) * (↑(List.length t) : Int))) (srtL (imN p (crows t p) (List.length (crows t p))))) ∧
 ((∀ (i : Nat), i < List.length (srtL (imN p (crows t p) (List.length (crows t p)))) → (0 : Int) ≤ ldF (List.getD (srtL (imN p (crows t p) (List.length (crows t p)))) i [])) ∧
 (List.length (srtL (imN p (crows t p) (List.length (crows t p)))) ≤ (512 : Nat)))))))) ∧
 (True)) ∧
 ((((primeB p = Bool.true) ∧
 ((∃ (N : Nat), rwsP p N (kerN p (Int.toNat ((↑(List.length t) : Int) * (↑(List.length t) : Int))) (srtL (imN p (crows t p) (List.length (crows t p)))) (Int.toNat ((↑(List.length t) : Int) * (↑(List.length t) : Int)))) ∧ (1 : Nat) ≤ N ∧ N ≤ (512 : Nat)) ∧
 (List.length (kerN p (Int.toNat ((↑(List.length t) : Int) * (↑(List.length t) : Int))) (srtL (imN p (crows t p) (List.length (crows t p)))) (Int.toNat ((↑(List.length t) : Int) * (↑(List.length t) : Int)))) ≤ (512 : Nat)))) ∧
 (True)) ∧
 (((srtL (imN p (kerN p (Int.toNat ((↑(List.length t) : Int) * (↑(List.length t) : Int))) (srtL (imN p (crows t p) (List.length (crows t p)))) (Int.toNat ((↑(List.length t) : Int) * (↑(List.length t) : Int)))) (List.length (kerN p (Int.toNat ((↑(List.length t) : Int) * (↑(List.length t) : Int))) (srtL (imN p (crows t p) (List.length (crows t p)))) (Int.toNat ((↑(List.length t) : Int) * (↑(List.length t) : Int)))))) = Prod.fst (kbC t p)) ∧
 (((0 : Int) = Prod.snd (kbC t p)) ∧
 (True))) ∧
 (True)))))))))))
theorem iKb_vc (t : List (List Int)) (p : Int) : runF Try.prog (gam iKb_G) noWr noAnn Try.f10 (bodyOf Try.f10) [] [.agg [.rows .i64 (t)], .c (.int .i64 (p))] (iKb_p t p) = iKb_V t p := by kernel_rfl
theorem iKb_ok (t : List (List Int)) (p : Int) (hpre : (iKb_p t p).pre) : iKb_V t p := by
  simp only [iKb_p, iKb_V, BrP_iff, true_and, and_true, decide_eq_true_eq, decide_eq_false_iff_not, bne_iff_ne, beq_iff_eq, bne_eq_false_iff_eq, beq_eq_false_iff_ne, Bool.not_eq_true, Bool.not_eq_false, Bool.not_true, Bool.not_false, Bool.not_eq_eq_eq_not, Int.toNat_natCast, List.length_append, List.length_take, List.length_replicate, List.length_set, List.length_map, List.length_drop, List.length_nil, List.length_cons, markL_length, inB, InR, room, bdsOk] at hpre ⊢
  refine ⟨hpre, fun h => kbC_a h, fun h => ?_⟩
  obtain ⟨hr, hp, _, _⟩ := dgC_ok h
  obtain ⟨n1, n2, _⟩ := tabB_of (rackB_tab hr)
  refine ⟨by omega, fun hd => ?_, fun hd => ?_⟩
  · rw [kbC_b hr hp hd]; exact ⟨rfl, rfl⟩
  · have K := kb_ok hr hp hd
    rw [kbC_c hr hp hd, sqI]
    simp only [Int.toNat_natCast]
    have sq := K.sq
    have sq1 := K.sq1
    have cu := K.cu
    have kr := K.ker _ (Nat.le_refl _)
    refine ⟨by omega, ⟨K.tab, K.p2, K.p7⟩, ⟨hp, ⟨_, K.rws, sq1, by omega⟩, by rw [crows_length]; omega⟩, ⟨K.p2, K.p7, by omega, by omega, fun i hi => K.ref.row i hi, K.ref.nn, by have := K.len; exact Nat.le_trans this (by omega)⟩, ⟨hp, ⟨_, kr.1, sq1, by omega⟩, ?_⟩, rfl, trivial⟩
    have := kr.2
    exact Nat.le_trans this (by omega)
theorem iKb_fits : Fits Try.prog 10 ⟨[], iKb_ct⟩ := by
  refine fits_fn (Γ := gam iKb_G) (gok_cons checkDegree_fits (gok_cons isDegree_fits (gok_cons cocycleRows_fits (gok_cons reducedRows_fits (gok_cons kernelOf_fits gok_nil))))) Try.func10 (by kernel_rfl) (by kernel_rfl) (by kernel_rfl) fun ds p h hp => ?_
  unfold iKb_ct at h
  split at h
  · cases h
    exact ⟨noWr, noAnn, by rw [iKb_vc]; exact iKb_ok _ _  hp⟩
  · cases h

def sKb_p (t : List (List Int)) (p : Int) : Post := ⟨roomR t, .tup [.inl (.ro (.rows .i64 ((kbC t p).1))), .inl (.int .i64 ((kbC t p).2))], []⟩
def sKb_ct : List AD → Option Post
  | [.agg [.rows .i64 (t)], .c (.int .i64 (p))] => some (sKb_p t p)
  | _ => none
def sKb_ann (t : List (List Int)) (p : Int) : Nat → Option Ann
  | 0 => some (Ann.mk ((Nat)) (fun i => ⟨[(1, .c (.int .i64 (p))), (2, .c (.ptr 2 0)), (6, .c (.int .i64 ((t.length : Int)))), (7, .c (.own (27))), (8, .c (.int .i64 ((i : Int))))], [(2, some (.box [.ro (.rows .i64 (t))])), (27, some (.rows 0 46 2 .i64 ((crows t p).take i)))]⟩) (fun i => i ≤ t.length * t.length * t.length ∧ rackB t = true ∧ primeB p = true ∧ degB t.length 3 = true) (fun i => t.length * t.length * t.length - i) (fun _ => noAnn))
  | 2 => some (Ann.mk ((Nat)) (fun i => ⟨[(1, .c (.int .i64 (p))), (2, .c (.ptr 2 0)), (6, .c (.int .i64 ((t.length : Int)))), (7, .c (.ro (.rows .i64 (kbB t p)))), (9, .c (.own (50))), (10, .c (.int .i64 ((i : Int))))], [(2, some (.box [.ro (.rows .i64 (t))])), (50, some (.ints 2 .i64 (((kbB t p).take i).map ldF)))]⟩) (fun i => i ≤ (kbB t p).length ∧ rackB t = true ∧ primeB p = true ∧ degB t.length 3 = true) (fun i => (kbB t p).length - i) (fun _ => noAnn))
  | 4 => some (Ann.mk ((Nat)) (fun a => ⟨[(1, .c (.int .i64 (p))), (2, .c (.ptr 2 0)), (6, .c (.int .i64 ((t.length : Int)))), (7, .c (.ro (.rows .i64 (kbB t p)))), (9, .c (.own (50))), (11, .c (.own (65))), (12, .c (.int .i64 ((a : Int))))], [(2, some (.box [.ro (.rows .i64 (t))])), (50, some (.ints 2 .i64 ((kbB t p).map ldF))), (65, some (.rows 0 46 2 .i64 (kbK t p a)))]⟩) (fun a => a ≤ t.length * t.length ∧ rackB t = true ∧ primeB p = true ∧ degB t.length 3 = true) (fun a => t.length * t.length - a) (fun a => fun b_ => match b_ with | 6 => some (Ann.mk ((Nat)) (fun i => ⟨[(1, .c (.int .i64 (p))), (2, .c (.ptr 2 0)), (6, .c (.int .i64 ((t.length : Int)))), (7, .c (.ro (.rows .i64 (kbB t p)))), (9, .c (.own (50))), (11, .c (.own (65))), (12, .c (.int .i64 ((a : Int)))), (13, .c (.own (79))), (14, .c (.int .i64 ((i : Int))))], [(2, some (.box [.ro (.rows .i64 (t))])), (50, some (.ints 2 .i64 ((kbB t p).map ldF))), (65, some (.rows 0 46 2 .i64 (kbK t p a))), (79, some (.ints 2 .i64 (knS p (kbB t p) a i ((List.replicate (t.length * t.length) 0).set a 1))))]⟩) (fun i => i ≤ (kbB t p).length ∧ a < t.length * t.length ∧ ¬ pvB (kbB t p) a = true) (fun i => (kbB t p).length - i) (fun _ => noAnn)) | _ => none))
  | _ => none
def sKb_G : List (Nat × Ctr) := [(41, ⟨[], l03Is_ct⟩), (42, ⟨[], l15Prime_ct⟩), (43, ⟨[], l15Allowed_ct⟩), (45, ⟨[], l15Tuple_ct⟩), (44, ⟨[], l15Tuples_ct⟩), (46, ⟨[], l15Echelon_ct⟩), (47, ⟨[], l15First_ct⟩), (48, ⟨[], l01Has_ct⟩)]
def sKb_V (t : List (List Int)) (p : Int) : Prop :=
  (((roomR t) ∧
 (True)) ∧
 (BrP (!rackB t)
 (((FC.len (FC.rows IntKind.i64 (Prod.fst (kbC t p))) = (0 : Nat)) ∧
 (((1 : Int) = Prod.snd (kbC t p)) ∧
 (True))) ∧
 (True))
 (((True) ∧
 (True)) ∧
 (BrP (!primeB p)
 (((FC.len (FC.rows IntKind.i64 (Prod.fst (kbC t p))) = (0 : Nat)) ∧
 (((2 : Int) = Prod.snd (kbC t p)) ∧
 (True))) ∧
 (True))
 (((((1 : Int) ≤ (↑(List.length t) : Int)) ∧
 ((↑(List.length t) : Int) ≤ (12 : Int))) ∧
 (True)) ∧
 (BrP (!degB (↑(List.length t) : Int) (3 : Int))
 (((FC.len (FC.rows IntKind.i64 (Prod.fst (kbC t p))) = (0 : Nat)) ∧
 (((3 : Int) = Prod.snd (kbC t p)) ∧
 (True))) ∧
 (True))
 ((∃ x0 : Nat, (((x0 ≤ List.length t * List.length t * List.length t) ∧
 ((rackB t = Bool.true) ∧
 ((primeB p = Bool.true) ∧
 (degB (↑(List.length t) : Int) (3 : Int) = Bool.true)))) ∧
 ((p = p) ∧
 (((↑(List.length t) : Int) = (↑(List.length t) : Int)) ∧
 (((0 : Int) = (↑x0 : Int)) ∧
 ((t = t) ∧
 ([] = List.take x0 (crows t p)))))))) ∧
 (∀ x1 : Nat, (((x1 ≤ List.length t * List.length t * List.length t) ∧
 ((rackB t = Bool.true) ∧
 ((primeB p = Bool.true) ∧
 (degB (↑(List.length t) : Int) (3 : Int) = Bool.true)))) →
 ((InR ((↑(List.length t) : Int) * (↑(List.length t) : Int))) ∧
 ((InR ((↑(List.length t) : Int) * (↑(List.length t) : Int) * (↑(List.length t) : Int))) ∧
 (BrP (Decidable.decide ((↑x1 : Int) < (↑(List.length t) : Int) * (↑(List.length t) : Int) * (↑(List.length t) : Int)))
 (((((1 : Int) ≤ (↑(List.length t) : Int)) ∧
 (((0 : Int) ≤ (3 : Int)) ∧
 (((3 : Int) ≤ (1000 : Int)) ∧
 (((0 : Int) ≤ (↑x1 : Int)) ∧
 ((↑x1 : Int) ≤ (1000000 : Int)))))) ∧
 (True)) ∧
 ((((bdOk t p (digN (↑(List.length t) : Int) (Int.toNat (3 : Int)) (↑x1 : Int))) ∧
 ((1 : Nat) ≤ List.length (digN (↑(List.length t) : Int) (Int.toNat (3 : Int)) (↑x1 : Int)))) ∧
 (True)) ∧
 ((room (List.length (List.take x1 (crows t p)) + List.length [ptF t p (digN (↑(List.length t) : Int) (Int.toNat (3 : Int)) (↑x1 : Int)) (List.length (digN (↑(List.length t) : Int) (Int.toNat (3 : Int)) (↑x1 : Int)))])) ∧
 ((InR ((↑x1 : Int) + (1 : Int))) ∧
 (∃ x2 : Nat, (((x2 ≤ List.length t * List.length t * List.length t) ∧
 ((rackB t = Bool.true) ∧
 ((primeB p = Bool.true) ∧
 (degB (↑(List.length t) : Int) (3 : Int) = Bool.true)))) ∧
 ((List.length t * List.length t * List.length t - x2 < List.length t * List.length t * List.length t - x1) ∧
 ((p = p) ∧
 (((↑(List.length t) : Int) = (↑(List.length t) : Int)) ∧
 (((↑x1 : Int) + (1 : Int) = (↑x2 : Int)) ∧
 ((t = t) ∧
 (List.take x1 (crows t p) ++ [ptF t p (digN (↑(List.length t) : Int) (Int.toNat (3 : Int)) (↑x1 : Int)) (List.length (digN (↑(List.length t) : Int) (Int.toNat (3 : Int)) (↑x1 : Int)))] = List.take x2 (crows t p)))))))))))))
 ((((primeB p = Bool.true) ∧
 ((∃ (N : Nat), rwsP p N (List.take x1 (crows t p)) ∧ (1 : Nat) ≤ N ∧ N ≤ (512 : Nat)) ∧
 (List.length (List.take x1 (crows t p)) ≤ (512 : Nat)))) ∧
 (True)) ∧
 ((∃ x3 : Nat, (((x3 ≤ List.length (kbB t p)) ∧
 ((rackB t = Bool.true) ∧
 ((primeB p = Bool.true) ∧
 (degB (↑(List.length t) : Int) (3 : Int) = Bool.true)))) ∧
 ((p = p) ∧
 (((↑(List.length t) : Int) = (↑(List.length t) : Int)) ∧
 ((srtL (imN p (List.take x1 (crows t p)) (List.length (List.take x1 (crows t p)))) = kbB t p) ∧
 (((0 : Int) = (↑x3 : Int)) ∧
 ((t = t) ∧
 ([] = List.map ldF (List.take x3 (kbB t p)))))))))) ∧
 (∀ x4 : Nat, (((x4 ≤ List.length (kbB t p)) ∧
 ((rackB t = Bool.true) ∧
 ((primeB p = Bool.true) ∧
 (degB (↑(List.length t) : Int) (3 : Int) = Bool.true)))) →
 (BrP (Decidable.decide ((↑x4 : Int) < (↑(List.length (kbB t p)) : Int)))
 ((inB (↑x4 : Int) (List.length (kbB t p))) ∧
 (((List.length (List.getD (kbB t p) (Int.toNat (↑x4 : Int)) []) ≤ (1000 : Nat)) ∧
 (True)) ∧
 ((room (List.length (List.map ldF (List.take x4 (kbB t p))) + List.length [ldF (List.getD (kbB t p) (Int.toNat (↑x4 : Int)) [])])) ∧
 ((InR ((↑x4 : Int) + (1 : Int))) ∧
 (∃ x5 : Nat, (((x5 ≤ List.length (kbB t p)) ∧
 ((rackB t = Bool.true) ∧
 ((primeB p = Bool.true) ∧
 (degB (↑(List.length t) : Int) (3 : Int) = Bool.true)))) ∧
 ((List.length (kbB t p) - x5 < List.length (kbB t p) - x4) ∧
 ((p = p) ∧
 (((↑(List.length t) : Int) = (↑(List.length t) : Int)) ∧
 ((kbB t p = kbB t p) ∧
 (((↑x4 : Int) + (1 : Int) = (↑x5 : Int)) ∧
 ((t = t) ∧
 (List.map ldF (List.take x4 (kbB t p)) ++ [ldF (List.getD (kbB t p) (Int.toNat (↑x4 : Int)) [])] = List.map ldF (List.take x5 (kbB t p)))))))))))))))
 ((∃ x6 : Nat, (((x6 ≤ List.length t * List.length t) ∧
 ((rackB t = Bool.true) ∧
 ((primeB p = Bool.true) ∧
 (degB (↑(List.length t) : Int) (3 : Int) = Bool.true)))) ∧
 ((p = p) ∧
 (((↑(List.length t) : Int) = (↑(List.length t) : Int)) ∧
 ((kbB t p = kbB t p) ∧
 (((0 : Int) = (↑x6 : Int)) ∧
 ((t = t) ∧
 ((List.map ldF (List.take x4 (kbB t p)) = List.map ldF (kbB t p)) ∧
 ([] = kbK t p x6))))))))) ∧
 (∀ x7 : Nat, (((x7 ≤ List.length t * List.length t) ∧
 ((rackB t = Bool.true) ∧
 ((primeB p = Bool.true) ∧
 (degB (↑(List.length t) : Int) (3 : Int) = Bool.true)))) →
 ((InR ((↑(List.length t) : Int) * (↑(List.length t) : Int))) ∧
 (BrP (Decidable.decide ((↑x7 : Int) < (↑(List.length t) : Int) * (↑(List.length t) : Int)))
 (((List.length (List.map ldF (kbB t p)) ≤ (1099511627776 : Nat)) ∧
 (True)) ∧
 (BrP (Decidable.decide ((↑x7 : Int) ∈ List.map ldF (kbB t p)))
 ((InR ((↑x7 : Int) + (1 : Int))) ∧
 (∃ x8 : Nat, (((x8 ≤ List.length t * List.length t) ∧
 ((rackB t = Bool.true) ∧
 ((primeB p = Bool.true) ∧
 (degB (↑(List.length t) : Int) (3 : Int) = Bool.true)))) ∧
 ((List.length t * List.length t - x8 < List.length t * List.length t - x7) ∧
 ((p = p) ∧
 (((↑(List.length t) : Int) = (↑(List.length t) : Int)) ∧
 ((kbB t p = kbB t p) ∧
 (((↑x7 : Int) + (1 : Int) = (↑x8 : Int)) ∧
 ((t = t) ∧
 ((List.map ldF (kbB t p) = List.map ldF (kbB t p)) ∧
 (kbK t p x7 = kbK t p x8)))))))))))
 ((InR ((↑(List.length t) : Int) * (↑(List.length t) : Int))) ∧
 ((((0 : Int) ≤ (↑(List.length t) : Int) * (↑(List.length t) : Int)) ∧
 (((↑(List.length t) : Int) * (↑(List.length t) : Int) ≤ (↑(List.length t) : Int) * (↑(List.length t) : Int)) ∧
 (room (Int.toNat ((↑(List.length t) : Int) * (↑(List.length t) : Int)))))) ∧
 ((inB (↑x7 : Int) (List.length (List.replicate (Int.toNat ((↑(List.length t) : Int) * (↑(List.length t) : Int))) (0 : Int)))) ∧
 ((∃ x9 : Nat, (((x9 ≤ List.length (kbB t p)) ∧
 ((x7 < List.length t * List.length t) ∧
 (¬pvB (kbB t p) x7 = Bool.true))) ∧
 ((p = p) ∧
 (((↑(List.length t) : Int) = (↑(List.length t) : Int)) ∧
 ((kbB t p = kbB t p) ∧
 (((↑x7 : Int) = (↑x7 : Int)) ∧
 (((0 : Int) = (↑x9 : Int)) ∧
 ((t = t) ∧
 ((List.map ldF (kbB t p) = List.map ldF (kbB t p)) ∧
 ((kbK t p x7 = kbK t p x7) ∧
 (List.set (List.replicate (Int.toNat ((↑(List.length t) : Int) * (↑(List.length t) : Int))) (0 : Int)) (Int.toNat (↑x7 : Int)) (1 : Int) = knS p (kbB t p) x7 x9 (List.set (List.replicate (List.length t * List.length t) (0 : Int)) x7 (1 : Int))))))))))))) ∧
 (∀ x10 : Nat, (((x10 ≤ List.length (kbB t p)) ∧
 ((x7 < List.length t * List.length t) ∧
 (¬pvB (kbB t p) x7 = Bool.true))) →
 (BrP (Decidable.decide ((↑x10 : Int) < (↑(List.length (kbB t p)) : Int)))
 ((inB (↑x10 : Int) (List.length (List.map ldF (kbB t p)))) ∧
 ((inB (↑x10 : Int) (List.length (kbB t p))) ∧
 ((inB (↑x7 : Int) (List.length (List.getD (kbB t p) (Int.toNat (↑x10 : Int)) []))) ∧
 ((InR (p - List.getD (List.getD (kbB t p) (Int.toNat (↑x10 : Int)) []) (Int.toNat (↑x7 : Int)) (0 : Int))) ∧
 ((p ≠ (0 : Int)) ∧
 ((inB (List.getD (List.map ldF (kbB t p)) (Int.toNat (↑x10 : Int)) (0 : Int)) (List.length (knS p (kbB t p) x7 x10 (List.set (List.replicate (List.length t * List.length t) (0 : Int)) x7 (1 : Int))))) ∧
 ((InR ((↑x10 : Int) + (1 : Int))) ∧
 (∃ x11 : Nat, (((x11 ≤ List.length (kbB t p)) ∧
 ((x7 < List.length t * List.length t) ∧
 (¬pvB (kbB t p) x7 = Bool.true))) ∧
 ((List.length (kbB t p) - x11 < List.length (kbB t p) - x10) ∧
 ((p = p) ∧
 (((↑(List.length t) : Int) = (↑(List.length t) : Int)) ∧
 ((kbB t p = kbB t p) ∧
 (((↑x7 : Int) = (↑x7 : Int)) ∧
 (((↑x10 : Int) + (1 : Int) = (↑x11 : Int)) ∧
 ((t = t) ∧
 ((List.map ldF (kbB t p) = List.map ldF (kbB t p)) ∧
 ((kbK t p x7 = kbK t p x7) ∧
 (List.set (knS p (kbB t p) x7 x10 (List.set (List.replicate (List.length t * List.length t) (0 : Int)) x7 (1 : Int))) (Int.toNat (List.getD (List.map ldF (kbB t p)) (Int.toNat (↑x10 : Int)) (0 : Int))) (Int.tmod (p - List.getD (List.getD (kbB t p) (Int.toNat (↑x10 : Int)) []) (Int.toNat (↑x7 : Int)) (0 : Int)) p) = knS p (kbB t p) x7 x11 (List.set (List.replicate (List.length t * List.length t) (0 : Int)) x7 (1 : Int)))))))))))))))))))))
 ((room (List.length (kbK t p x7) + List.length [knS p (kbB t p) x7 x10 (List.set (List.replicate (List.length t * List.length t) (0 : Int)) x7 (1 : Int))])) ∧
 ((InR ((↑x7 : Int) + (1 : Int))) ∧
 (∃ x12 : Nat, (((x12 ≤ List.length t * List.length t) ∧
 ((rackB t = Bool.true) ∧
 ((primeB p = Bool.true) ∧
 (degB (↑(List.length t) : Int) (3 : Int) = Bool.true)))) ∧
 ((List.length t * List.length t - x12 < List.length t * List.length t - x7) ∧
 ((p = p) ∧
 (((↑(List.length t) : Int) = (↑(List.length t) : Int)) ∧
 ((kbB t p = kbB t p) ∧
 (((↑x7 : Int) + (1 : Int) = (↑x12 : Int)) ∧
 ((t = t) ∧
 ((List.map ldF (kbB t p) = List.map ldF (kbB t p)) ∧
 (kbK t p x7 ++ [knS p (kbB t p) x7 x10 (List.set (List.replicate (List.length t * List.length t) (0 : Int)) x7 (1 : Int))] = kbK t p x12)))))))))))))))))))))
 ((((primeB p = Bool.true) ∧
 ((∃ (N : Nat), rwsP p N (kbK t p x7) ∧ (1 : Nat) ≤ N ∧ N ≤ (512 : Nat)) ∧
 (List.length (kbK t p x7) ≤ (512 : Nat)))) ∧
 (True)) ∧
 (((srtL (imN p (kbK t p x7) (List.length (kbK t p x7))) = Prod.fst (kbC t p)) ∧
 (((0 : Int) = Prod.snd (kbC t p)) ∧
 (True))) ∧
 (True)))))))))))))))))))))))))
theorem sKb_vc (t : List (List Int)) (p : Int) : runF Try.prog (gam sKb_G) noWr (sKb_ann t p) Try.f8 (bodyOf Try.f8) [] [.agg [.rows .i64 (t)], .c (.int .i64 (p))] (sKb_p t p) = sKb_V t p := by kernel_rfl
theorem sKb_ok (t : List (List Int)) (p : Int) (hpre : (sKb_p t p).pre) : sKb_V t p := by
  simp only [sKb_p, sKb_V, BrP_iff, true_and, and_true, decide_eq_true_eq, decide_eq_false_iff_not, bne_iff_ne, beq_iff_eq, bne_eq_false_iff_eq, beq_eq_false_iff_ne, Bool.not_eq_true, Bool.not_eq_false, Bool.not_true, Bool.not_false, Bool.not_eq_eq_eq_not, Int.toNat_natCast, List.length_append, List.length_take, List.length_replicate, List.length_set, List.length_map, List.length_drop, List.length_nil, List.length_cons, markL_length, inB, InR, room, bdsOk] at hpre ⊢
  refine ⟨hpre, fun h => ?_, fun hr => ⟨fun h => ?_, fun hp => ?_⟩⟩
  · rw [kbC_d h]; exact ⟨rfl, rfl⟩
  · rw [kbC_e hr h]; exact ⟨rfl, rfl⟩
  obtain ⟨n1, n2, _⟩ := tabB_of (rackB_tab hr)
  refine ⟨by omega, fun hd => ?_, fun hd => ?_⟩
  · rw [kbC_b hr hp hd]; exact ⟨rfl, rfl⟩
  have K := kb_ok hr hp hd
  have kc := kbC_c hr hp hd
  have sq := K.sq
  have sq1 := K.sq1
  have cu := K.cu
  have p2 := K.p2
  have p7 := K.p7
  have bl := K.len
  have cl := crows_length t p
  simp only [sqI, cuI, Int.toNat_natCast]
  refine ⟨⟨0, ⟨by omega, hr, hp, hd⟩, rfl, by simp⟩, fun i ⟨hi, _⟩ => ⟨by omega, by omega, fun h => ?_, fun h => ?_⟩⟩
  · refine ⟨⟨by omega, by omega⟩, ⟨dig_ok K.tab p2 p7 (by omega) (sq_512 K.tab) (by omega), by rw [digN_length]; decide⟩, by omega, by omega, i + 1, ⟨by omega, hr, hp, hd⟩, by omega, by omega, ?_⟩
    rw [← take_snoc (crows t p) [] i (by omega), crows_getD t p i (by omega), digN_length]; rfl
  · rw [List.take_of_length_le (by omega), show min i (crows t p).length = (crows t p).length by omega]
    refine ⟨⟨hp, ⟨_, K.rws, sq1, by omega⟩, by omega⟩, ⟨0, ⟨Nat.zero_le _, hr, hp, hd⟩, rfl, rfl, by simp⟩, fun i ⟨hi, _⟩ => ⟨fun h => ?_, fun h => ?_⟩⟩
    · have r := (K.ref.row i (by omega)).1
      refine ⟨by omega, by omega, by omega, by omega, i + 1, ⟨by omega, hr, hp, hd⟩, by omega, by omega, ?_⟩
      rw [← take_snoc (kbB t p) [] i (by omega), List.map_append]; rfl
    · refine ⟨⟨0, ⟨Nat.zero_le _, hr, hp, hd⟩, rfl, by rw [List.take_of_length_le (by omega)], rfl⟩, fun a ⟨ha, _⟩ => ⟨by omega, fun h => ?_, fun h => ?_⟩⟩
      · have kr := K.ker a (by omega)
        refine ⟨by omega, fun g => ?_, fun g => ?_⟩
        · have g : pvB (kbB t p) a = true := by rw [pvB, List.contains_iff_mem]; exact g
          refine ⟨by omega, a + 1, ⟨by omega, hr, hp, hd⟩, by omega, by omega, ?_⟩
          simp only [kbK, kerN, if_pos g]
        · have G : ¬ pvB (kbB t p) a = true := by rw [pvB, List.contains_iff_mem]; exact g
          refine ⟨by omega, ⟨by omega, by omega⟩, by omega, ⟨0, ⟨Nat.zero_le _, by omega, by simpa using G⟩, rfl, rfl⟩, fun i ⟨hi, _, _⟩ => ⟨fun h3 => ?_, fun h3 => ?_⟩⟩
          · have b := K.ref.row i (by omega)
            have b1 := b.1
            have c := b.2 a (by omega)
            have nj := K.ref.nn i (by omega)
            have y := ld_yes nj
            have w := (kn_one (a := a) (by omega) (fun k hk => K.ref.row k hk) p2 i (by omega)).1
            have m : ((kbB t p).map ldF).getD i 0 = ldF ((kbB t p).getD i []) := by
              have hi2 : i < (kbB t p).length := by omega
              simp [List.getD, hi2]
            rw [m]
            exact ⟨by omega, by omega, by omega, by omega, by omega, by omega, by omega, i + 1, ⟨by omega, by omega, by simpa using G⟩, by omega, by omega, rfl⟩
          · refine ⟨by omega, by omega, a + 1, ⟨by omega, hr, hp, hd⟩, by omega, by omega, ?_⟩
            simp only [kbK, kerN, if_neg G, knL]
            rw [show i = (kbB t p).length by omega]
      · have kr := K.ker _ (Nat.le_refl _)
        have kl := kr.2
        rw [kc, show a = t.length * t.length by omega]
        exact ⟨⟨hp, ⟨_, kr.1, sq1, by omega⟩, by omega⟩, rfl, rfl⟩
theorem sKb_fits : Fits Try.prog 8 ⟨[], sKb_ct⟩ := by
  refine fits_fn (Γ := gam sKb_G) (gok_cons l03Is_fits (gok_cons l15Prime_fits (gok_cons l15Allowed_fits (gok_cons l15Tuple_fits (gok_cons l15Tuples_fits (gok_cons l15Echelon_fits (gok_cons l15First_fits (gok_cons l01Has_fits gok_nil)))))))) Try.func8 (by kernel_rfl) (by kernel_rfl) (by kernel_rfl) fun ds p h hp => ?_
  unfold sKb_ct at h
  split at h
  · cases h
    exact ⟨noWr, sKb_ann _ _ , by rw [sKb_vc]; exact sKb_ok _ _  hp⟩
  · cases h

def lKb_p (t : List (List Int)) (p : Int) : Post := ⟨(t.length : Int) ≤ 9223372036854775807 ∧ (∀ r ∈ t, (r.length : Int) ≤ 9223372036854775807), .c (.bool (true)), []⟩
def lKb_ct : List AD → Option Post
  | [.agg [.rows .i64 (t)], .c (.int .i64 (p))] => some (lKb_p t p)
  | _ => none
def lKb_G : List (Nat × Ctr) := [(7, ⟨[], szRack_ct⟩), (9, ⟨[], toRack_ct⟩), (11, ⟨[], eqInt64SS_ct⟩), (12, ⟨[], eqRack_ct⟩), (13, ⟨[(0, 0)], markRack_ct⟩), (14, ⟨[(0, 0)], markInt64SS_ct⟩), (15, ⟨[], heldInt64SS_ct⟩), (8, ⟨[], sKb_ct⟩), (10, ⟨[], iKb_ct⟩)]
def lKb_V (t : List (List Int)) (p : Int) : Prop :=
  (((((↑(List.length t) : Int) ≤ (9223372036854775807 : Int)) ∧
 ((∀ (r : List Int), r ∈ t → (↑(List.length r) : Int) ≤ (9223372036854775807 : Int)) ∧
 (((0 : Int) ≤ (1048576 : Int)) ∧
 ((1048576 : Int) ≤ (1099511627776 : Int))))) ∧
 (True)) ∧
 (BrP (Decidable.decide ((if (1048576 : Int) < (↑(List.length t) : Int) + (↑(sumL t) : Int) then (-1 : Int) else (1048576 : Int) - (↑(List.length t) : Int) - (↑(sumL t) : Int)) < (0 : Int)))
 ((Bool.true = Bool.true) ∧
 (True))
 (((roomR t) ∧
 (True)) ∧
 (((roomR t) ∧
 (True)) ∧
 (((roomR t) ∧
 (True)) ∧
 (((roomR t) ∧
 (True)) ∧
 (((roomR (Prod.fst (kbC t p))) ∧
 (True)) ∧
 (BrP (!Decidable.decide (Prod.fst (kbC t p) = Prod.fst (kbC t p)))
 ((Bool.false = Bool.true) ∧
 (True))
 (BrP (Prod.snd (kbC t p) != Prod.snd (kbC t p))
 ((Bool.false = Bool.true) ∧
 (True))
 (((roomR t) ∧
 (True)) ∧
 (((roomR t) ∧
 (True)) ∧
 (BrP (!Decidable.decide (t = t))
 ((Bool.false = Bool.true) ∧
 (True))
 ((((List.length t ≤ (1048576 : Nat)) ∧
 ((sumL t ≤ (1048576 : Nat)) ∧
 (((0 : Int) ≤ (1 : Int)) ∧
 ((1 : Int) ≤ (1073741824 : Int))))) ∧
 ((List.map List.length (markR t (1 : Int)) = List.map List.length t) ∧
 (True))) ∧
 (BrP (Decidable.decide ((1 : Int) + (↑(sumL t) : Int) < (0 : Int)))
 ((Bool.false = Bool.true) ∧
 (True))
 (((roomR (Prod.fst (kbC t p))) ∧
 (True)) ∧
 (BrP (!Decidable.decide (Prod.fst (kbC t p) = Prod.fst (kbC t p)))
 ((Bool.false = Bool.true) ∧
 (True))
 (BrP (Prod.snd (kbC t p) != Prod.snd (kbC t p))
 ((Bool.false = Bool.true) ∧
 (True))
 ((((List.length (Prod.fst (kbC t p)) ≤ (1048576 : Nat)) ∧
 ((sumL (Prod.fst (kbC t p)) ≤ (1048576 : Nat)) ∧
 (((0 : Int) ≤ (1 : Int)) ∧
 ((1 : Int) ≤ (1073741824 : Int))))) ∧
 ((List.map List.length (markR (Prod.fst (kbC t p)) (1 : Int)) = List.map List.length (Prod.fst (kbC t p))) ∧
 (True))) ∧
 ((((List.length (markR (Prod.fst (kbC t p)) (1 : Int)) ≤ (1048576 : Nat)) ∧
 ((sumL (markR (Prod.fst (kbC t p)) (1 : Int)) ≤ (1048576 : Nat)) ∧
 (((0 : Int) ≤ (1 : Int)) ∧
 ((1 : Int) ≤ (1073741824 : Int))))) ∧
 (True)) ∧
 (BrP (Decidable.decide ((if markR (Prod.fst (kbC t p)) (1 : Int) = markR (markR (Prod.fst (kbC t p)) (1 : Int)) (1 : Int) then (1 : Int) + (↑(sumL (markR (Prod.fst (kbC t p)) (1 : Int))) : Int) else (-1 : Int)) < (0 : Int)))
 ((Bool.false = Bool.true) ∧
 (True))
 (BrP ((if markR (Prod.fst (kbC t p)) (1 : Int) = markR (markR (Prod.fst (kbC t p)) (1 : Int)) (1 : Int) then (1 : Int) + (↑(sumL (markR (Prod.fst (kbC t p)) (1 : Int))) : Int) else (-1 : Int)) != (1 : Int) + (↑(sumL (Prod.fst (kbC t p))) : Int))
 ((Bool.false = Bool.true) ∧
 (True))
 (((roomR t) ∧
 (True)) ∧
 (((roomR t) ∧
 (True)) ∧
 (((roomR (Prod.fst (kbC t p))) ∧
 (True)) ∧
 (BrP (!Decidable.decide (Prod.fst (kbC t p) = Prod.fst (kbC t p)))
 ((Bool.false = Bool.true) ∧
 (True))
 (BrP (Prod.snd (kbC t p) != Prod.snd (kbC t p))
 ((Bool.false = Bool.true) ∧
 (True))
 ((((List.length (markR (Prod.fst (kbC t p)) (1 : Int)) ≤ (1048576 : Nat)) ∧
 ((sumL (markR (Prod.fst (kbC t p)) (1 : Int)) ≤ (1048576 : Nat)) ∧
 (((0 : Int) ≤ (1 : Int)) ∧
 ((1 : Int) ≤ (1073741824 : Int))))) ∧
 (True)) ∧
 (BrP (Decidable.decide ((if markR (Prod.fst (kbC t p)) (1 : Int) = markR (markR (Prod.fst (kbC t p)) (1 : Int)) (1 : Int) then (1 : Int) + (↑(sumL (markR (Prod.fst (kbC t p)) (1 : Int))) : Int) else (-1 : Int)) < (0 : Int)))
 ((Bool.false = Bool.true) ∧
 (True))
 (BrP ((if markR (Prod.fst (kbC t p)) (1 : Int) = markR (markR (Prod.fst (kbC t p)) (1 : Int)) (1 : Int) then (1 : Int) + (↑(sumL (markR (Prod.fst (kbC t p)) (1 : Int))) : Int) else (-1 : Int)) != (1 : Int) + (↑(sumL (Prod.fst (kbC t p))) : Int))
 ((Bool.false = Bool.true) ∧
 (True))
 ((Bool.true = Bool.true) ∧
 (True)))))))))))))))))))))))))))))))
theorem lKb_vc (t : List (List Int)) (p : Int) : runF Try.prog (gam lKb_G) noWr noAnn Try.f3 (bodyOf Try.f3) [] [.agg [.rows .i64 (t)], .c (.int .i64 (p))] (lKb_p t p) = lKb_V t p := by kernel_rfl
theorem lKb_ok (t : List (List Int)) (p : Int) (hpre : (lKb_p t p).pre) : lKb_V t p := by
  simp only [lKb_p, lKb_V, BrP_iff, true_and, and_true, decide_eq_true_eq, decide_eq_false_iff_not, bne_iff_ne, beq_iff_eq, bne_eq_false_iff_eq, beq_eq_false_iff_ne, Bool.not_eq_true, Bool.not_eq_false, Bool.not_true, Bool.not_false, Bool.not_eq_eq_eq_not, Int.toNat_natCast, List.length_append, List.length_take, List.length_replicate, List.length_set, List.length_map, List.length_drop, List.length_nil, List.length_cons, markL_length, inB, InR, room, bdsOk] at hpre ⊢
  obtain ⟨a1, a2⟩ := hpre
  refine ⟨⟨a1, a2, by omega, by omega⟩, fun _ => trivial, fun h => ?_⟩
  obtain ⟨e1, e2, e3⟩ := size_of h
  obtain ⟨c1, c2, c3⟩ := kbC_ok t p
  have c5 : ¬ (1 + (sumL t : Int) < 0) := by omega
  have c6 : ¬ (1 + (sumL (kbC t p).1 : Int) < 0) := by omega
  have c7 : (kbC t p).1.length ≤ 1048576 := by omega
  have c8 : sumL (kbC t p).1 ≤ 1048576 := by omega
  simp [e1, e2, e3, c1, c5, c6, c7, c8, markR_length, markR_lens, markR_sum, markR_mark]
theorem lKb_fits : Fits Try.prog 3 ⟨[], lKb_ct⟩ := by
  refine fits_fn (Γ := gam lKb_G) (gok_cons szRack_fits (gok_cons toRack_fits (gok_cons eqInt64SS_fits (gok_cons eqRack_fits (gok_cons markRack_fits (gok_cons markInt64SS_fits (gok_cons heldInt64SS_fits (gok_cons sKb_fits (gok_cons iKb_fits gok_nil))))))))) Try.func3 (by kernel_rfl) (by kernel_rfl) (by kernel_rfl) fun ds p h hp => ?_
  unfold lKb_ct at h
  split at h
  · cases h
    exact ⟨noWr, noAnn, by rw [lKb_vc]; exact lKb_ok _ _  hp⟩
  · cases h

end Go.Sx
