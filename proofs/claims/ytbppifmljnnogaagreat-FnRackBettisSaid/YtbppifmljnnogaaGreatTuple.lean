/- Tuple -/
import Derived.Test.YtbppifmljnnogaaGreatProg
import Derived.Test.YtbppifmljnnogaaGreatSxZ
import Derived.KernelRfl
open Go Go.Proofs
namespace Go.Sx
set_option linter.unusedSimpArgs false
set_option linter.unusedVariables false
def within_p (n : Int) (a : Int) (b : Int) : Post := ⟨True, .c (.bool (decide (a ≤ n ∧ n ≤ b))), []⟩
def within_ct : List AD → Option Post
  | [.c (.int .i64 (n)), .c (.int .i64 (a)), .c (.int .i64 (b))] => some (within_p n a b)
  | _ => none
def within_G : List (Nat × Ctr) := []
def within_V (n : Int) (a : Int) (b : Int) : Prop :=
 (BrP (decide (a ≤ n)) ((decide (n ≤ b) = decide (a ≤ n ∧ n ≤ b))∧True) ((false = decide (a ≤ n ∧ n ≤ b))∧True))
theorem within_vc (n : Int) (a : Int) (b : Int) : runF Tryz.prog (gam within_G) noWr noAnn Tryz.f84 (bodyOf Tryz.f84) [] [.c (.int .i64 (n)), .c (.int .i64 (a)), .c (.int .i64 (b))] (within_p n a b) = within_V n a b := by kernel_rfl
theorem within_ok (n : Int) (a : Int) (b : Int) (hpre : (within_p n a b).pre) : within_V n a b := by
  simp only [within_p, within_V, BrP_iff, u1, u2, u3, u4, u5, u6, u7, u8, u9, v1, v2, v3, v4, v5, v6, v7, v8, v9, w1, w2, w3, w4, markL_length, inB, InR, room, bdsOk] at hpre ⊢
  refine ⟨fun h => ?_, fun h => ?_⟩
  · simp [h]
  · simp [h]
theorem within_fits : Fits Tryz.prog 84 ⟨[], within_ct⟩ := by
  refine ffn (Γ := gam within_G) gok_nil Tryz.func84 fun ds p h hp => ?_
  unfold within_ct at h
  split at h
  · cases h
    exact ⟨noWr, noAnn, by rw [within_vc]; exact within_ok _ _ _  hp⟩
  · cases h
def l01In_p (n : Int) (a : Int) (b : Int) : Post := ⟨True, .c (.bool (decide (a ≤ n ∧ n ≤ b))), []⟩
def l01In_ct : List AD → Option Post
  | [.c (.int .i64 (n)), .c (.int .i64 (a)), .c (.int .i64 (b))] => some (l01In_p n a b)
  | _ => none
def l01In_G : List (Nat × Ctr) := []
def l01In_V (n : Int) (a : Int) (b : Int) : Prop :=
 (BrP (decide (a ≤ n)) ((decide (n ≤ b) = decide (a ≤ n ∧ n ≤ b))∧True) ((false = decide (a ≤ n ∧ n ≤ b))∧True))
theorem l01In_vc (n : Int) (a : Int) (b : Int) : runF Tryz.prog (gam l01In_G) noWr noAnn Tryz.f64 (bodyOf Tryz.f64) [] [.c (.int .i64 (n)), .c (.int .i64 (a)), .c (.int .i64 (b))] (l01In_p n a b) = l01In_V n a b := by kernel_rfl
theorem l01In_ok (n : Int) (a : Int) (b : Int) (hpre : (l01In_p n a b).pre) : l01In_V n a b := by
  simp only [l01In_p, l01In_V, BrP_iff, u1, u2, u3, u4, u5, u6, u7, u8, u9, v1, v2, v3, v4, v5, v6, v7, v8, v9, w1, w2, w3, w4, markL_length, inB, InR, room, bdsOk] at hpre ⊢
  refine ⟨fun h => ?_, fun h => ?_⟩
  · simp [h]
  · simp [h]
theorem l01In_fits : Fits Tryz.prog 64 ⟨[], l01In_ct⟩ := by
  refine ffn (Γ := gam l01In_G) gok_nil Tryz.func64 fun ds p h hp => ?_
  unfold l01In_ct at h
  split at h
  · cases h
    exact ⟨noWr, noAnn, by rw [l01In_vc]; exact l01In_ok _ _ _  hp⟩
  · cases h
def allW (lo hi : Int) (l : List Int) : Bool := l.all fun x => decide (lo ≤ x ∧ x ≤ hi)
theorem allW_drop (lo hi : Int) (l : List Int) (i : Nat) (h : i < l.length) : allW lo hi (l.drop i) = (decide (lo ≤ l.getD i 0 ∧ l.getD i 0 ≤ hi) && allW lo hi (l.drop (i + 1))) := by
  rw [drop_cons' l 0 i h]
  rfl
theorem allW_get {lo hi : Int} {l : List Int} (h : allW lo hi l = true) (i : Nat) (hi' : i < l.length) : lo ≤ l.getD i 0 ∧ l.getD i 0 ≤ hi := by
  rw [getD_lt l 0 i hi']
  have := List.all_eq_true.1 h _ (List.getElem_mem hi')
  simpa using this
def allWithin_p (l : List Int) (a : Int) (b : Int) : Post := ⟨room l.length, .c (.bool (allW a b l)), []⟩
def allWithin_ct : List AD → Option Post
  | [.c (.ints .i64 (l)), .c (.int .i64 (a)), .c (.int .i64 (b))] => some (allWithin_p l a b)
  | _ => none
def allWithin_ann (l : List Int) (a : Int) (b : Int) : Nat → Option Ann
  | 0 => some (Ann.mk ((Nat)) (fun i => ⟨[(1, .c (.int .i64 (a))), (2, .c (.int .i64 (b))), (9, .c (.ro (.ints .i64 (l)))), (10, .c (.int .i64 ((l.length : Int)))), (11, .c (.int .i64 ((i : Int))))], []⟩) (fun i => i ≤ l.length ∧ allW a b l = allW a b (l.drop i)) (fun i => l.length - i) (fun _ => noAnn))
  | _ => none
def allWithin_G : List (Nat × Ctr) := [(84, ⟨[], within_ct⟩)]
def allWithin_V (l : List Int) (a : Int) (b : Int) : Prop :=
 ((∃ x0 : Nat, (((x0 ≤ l.length)∧(allW a b l = allW a b (List.drop x0 l)))∧((a = a)∧((b = b)∧((l = l)∧(((↑(l.length):Int) = (↑(l.length):Int))∧((0:Int) = (↑x0:Int))))))))∧(∀ x1 : Nat, (((x1 ≤ l.length)∧(allW a b l = allW a b (List.drop x1 l))) → (BrP (decide ((↑x1:Int) < (↑(l.length):Int))) ((inB (↑x1:Int) (l.length))∧((True∧True)∧(BrP (!decide (a ≤ l.getD ((↑x1:Int).toNat) (0:Int) ∧ l.getD ((↑x1:Int).toNat) (0:Int) ≤ b)) ((false = allW a b l)∧True) ((InR ((↑x1:Int) + (1:Int)))∧(∃ x2 : Nat, (((x2 ≤ l.length)∧(allW a b l = allW a b (List.drop x2 l)))∧((l.length - x2 < l.length - x1)∧((a = a)∧((b = b)∧((l = l)∧(((↑(l.length):Int) = (↑(l.length):Int))∧((↑x1:Int) + (1:Int) = (↑x2:Int))))))))))))) ((true = allW a b l)∧True)))))
theorem allWithin_vc (l : List Int) (a : Int) (b : Int) : runF Tryz.prog (gam allWithin_G) noWr (allWithin_ann l a b) Tryz.f109 (bodyOf Tryz.f109) [] [.c (.ints .i64 (l)), .c (.int .i64 (a)), .c (.int .i64 (b))] (allWithin_p l a b) = allWithin_V l a b := by kernel_rfl
theorem allWithin_ok (l : List Int) (a : Int) (b : Int) (hpre : (allWithin_p l a b).pre) : allWithin_V l a b := by
  simp only [allWithin_p, allWithin_V, BrP_iff, u1, u2, u3, u4, u5, u6, u7, u8, u9, v1, v2, v3, v4, v5, v6, v7, v8, v9, w1, w2, w3, w4, markL_length, inB, InR, room, bdsOk] at hpre ⊢
  refine ⟨⟨0, ⟨by omega, rfl⟩, rfl⟩, fun i ⟨hi, he⟩ => ⟨fun h => ?_, fun h => ?_⟩⟩
  · have hd := allW_drop a b l i (by omega)
    refine ⟨by omega, fun h1 => ?_, fun h1 => ⟨by omega, i + 1, ⟨by omega, ?_⟩, by omega, by omega⟩⟩
    · rw [he, hd, decide_eq_false h1]; rfl
    · rw [he, hd, decide_eq_true h1]; rfl
  · rw [he, List.drop_of_length_le (by omega)]; rfl
theorem allWithin_fits : Fits Tryz.prog 109 ⟨[], allWithin_ct⟩ := by
  refine ffn (Γ := gam allWithin_G) (gok_cons within_fits gok_nil) Tryz.func109 fun ds p h hp => ?_
  unfold allWithin_ct at h
  split at h
  · cases h
    exact ⟨noWr, allWithin_ann _ _ _ , by rw [allWithin_vc]; exact allWithin_ok _ _ _  hp⟩
  · cases h
def degB (n k : Int) : Bool := decide (0 ≤ k ∧ k ≤ 1000) && decide (n ^ k.toNat ≤ 512)
def digN (n : Int) : Nat → Int → List Int
  | 0, _ => []
  | k + 1, p => digN n k (p.tdiv n) ++ [p.tmod n]
theorem digN_length (n : Int) : ∀ (k : Nat) (p : Int), (digN n k p).length = k
  | 0, _ => rfl
  | k + 1, p => by simp [digN, digN_length n k]
theorem pow_pos' {n : Int} (h : 1 ≤ n) : ∀ i : Nat, 1 ≤ n ^ i
  | 0 => by simp
  | i + 1 => by
    have h1 := pow_pos' h i
    rw [Int.pow_succ]
    have := Int.mul_le_mul h1 h (by omega) (by omega)
    omega
theorem pow_mono {n : Int} (h : 1 ≤ n) (i : Nat) : ∀ j : Nat, n ^ i ≤ n ^ (i + j)
  | 0 => by simp
  | j + 1 => by
    have h1 := pow_mono h i j
    have h2 := pow_pos' h (i + j)
    rw [← Nat.add_assoc, Int.pow_succ]
    have := Int.mul_le_mul (Int.le_refl (n ^ (i + j))) h (by omega) (by omega)
    omega
theorem pow_le {n : Int} (h : 1 ≤ n) {i k : Nat} (hk : i ≤ k) : n ^ i ≤ n ^ k := by
  have := pow_mono h i (k - i)
  rwa [show i + (k - i) = k by omega] at this
theorem pow_one' : ∀ i : Nat, (1 : Int) ^ i = 1
  | 0 => rfl
  | i + 1 => by rw [Int.pow_succ, pow_one' i]; rfl
theorem rep_set (j : Nat) (v : Int) (suf : List Int) : (List.replicate (j + 1) 0 ++ suf).set j v = List.replicate j 0 ++ v :: suf := by
  induction j with
  | zero => rfl
  | succ j ih => rw [List.replicate_succ, List.cons_append, List.set_cons_succ, ih, List.replicate_succ, List.cons_append]
def l15Power_p (n : Int) (k : Int) : Post := ⟨1 ≤ n ∧ n ≤ 12 ∧ 0 ≤ k ∧ k ≤ 1000, .c (.int .i64 (if n ^ k.toNat ≤ 512 then n ^ k.toNat else 513)), []⟩
def l15Power_ct : List AD → Option Post
  | [.c (.int .i64 (n)), .c (.int .i64 (k))] => some (l15Power_p n k)
  | _ => none
def l15Power_ann (n : Int) (k : Int) : Nat → Option Ann
  | 0 => some (Ann.mk ((Nat)) (fun i => ⟨[(0, .c (.int .i64 (n))), (1, .c (.int .i64 (k - (i : Int)))), (5, .c (.int .i64 (n ^ i)))], []⟩) (fun i => i ≤ k.toNat ∧ n ^ i ≤ 512) (fun i => k.toNat - i) (fun _ => noAnn))
  | _ => none
def l15Power_G : List (Nat × Ctr) := []
def l15Power_V (n : Int) (k : Int) : Prop :=
 ((∃ x0 : Nat, (((x0 ≤ k.toNat)∧(n ^ x0 ≤ (512:Int)))∧((n = n)∧((k = k - (↑x0:Int))∧((1:Int) = n ^ x0)))))∧(∀ x1 : Nat, (((x1 ≤ k.toNat)∧(n ^ x1 ≤ (512:Int))) → (BrP (decide ((0:Int) < k - (↑x1:Int))) (BrP (decide ((1:Int) < n)) ((InR (n ^ x1 * n))∧(BrP (decide ((512:Int) < n ^ x1 * n)) (((513:Int) = if n ^ k.toNat ≤ (512:Int) then n ^ k.toNat else (513:Int))∧True) ((InR (k - (↑x1:Int) - (1:Int)))∧(∃ x2 : Nat, (((x2 ≤ k.toNat)∧(n ^ x2 ≤ (512:Int)))∧((k.toNat - x2 < k.toNat - x1)∧((n = n)∧((k - (↑x1:Int) - (1:Int) = k - (↑x2:Int))∧(n ^ x1 * n = n ^ x2))))))))) ((n ^ x1 = if n ^ k.toNat ≤ (512:Int) then n ^ k.toNat else (513:Int))∧True)) ((n ^ x1 = if n ^ k.toNat ≤ (512:Int) then n ^ k.toNat else (513:Int))∧True)))))
theorem l15Power_vc (n : Int) (k : Int) : runF Tryz.prog (gam l15Power_G) noWr (l15Power_ann n k) Tryz.f44 (bodyOf Tryz.f44) [] [.c (.int .i64 (n)), .c (.int .i64 (k))] (l15Power_p n k) = l15Power_V n k := by kernel_rfl
theorem l15Power_ok (n : Int) (k : Int) (hpre : (l15Power_p n k).pre) : l15Power_V n k := by
  simp only [l15Power_p, l15Power_V, BrP_iff, u1, u2, u3, u4, u5, u6, u7, u8, u9, v1, v2, v3, v4, v5, v6, v7, v8, v9, w1, w2, w3, w4, markL_length, inB, InR, room, bdsOk] at hpre ⊢
  obtain ⟨h1, h2, h3, h4⟩ := hpre
  refine ⟨⟨0, ⟨by omega, by simp⟩, by simp, by simp⟩, fun i ⟨hi, hp⟩ => ⟨fun h => ⟨fun hn => ?_, fun hn => ?_⟩, fun h => ?_⟩⟩
  · have e : n ^ i * n = n ^ (i + 1) := (Int.pow_succ n i).symm
    have pos := pow_pos' h1 (i + 1)
    have le := Int.mul_le_mul hp h2 (by omega) (by omega)
    refine ⟨by omega, fun h5 => ?_, fun h5 => ⟨by omega, i + 1, ⟨by omega, by omega⟩, by omega, by omega, e⟩⟩
    have := pow_le h1 (show i + 1 ≤ k.toNat by omega)
    rw [if_neg (by omega)]
  · obtain rfl : n = 1 := by omega
    simp [pow_one']
  · rw [show i = k.toNat by omega] at hp ⊢
    rw [if_pos hp]
theorem l15Power_fits : Fits Tryz.prog 44 ⟨[], l15Power_ct⟩ := by
  refine ffn (Γ := gam l15Power_G) gok_nil Tryz.func44 fun ds p h hp => ?_
  unfold l15Power_ct at h
  split at h
  · cases h
    exact ⟨noWr, l15Power_ann _ _ , by rw [l15Power_vc]; exact l15Power_ok _ _  hp⟩
  · cases h
def l15Allowed_p (n : Int) (k : Int) : Post := ⟨1 ≤ n ∧ n ≤ 12, .c (.bool (degB n k)), []⟩
def l15Allowed_ct : List AD → Option Post
  | [.c (.int .i64 (n)), .c (.int .i64 (k))] => some (l15Allowed_p n k)
  | _ => none
def l15Allowed_G : List (Nat × Ctr) := [(64, ⟨[], l01In_ct⟩), (44, ⟨[], l15Power_ct⟩)]
def l15Allowed_V (n : Int) (k : Int) : Prop :=
 ((True∧True)∧(BrP (decide ((0:Int) ≤ k ∧ k ≤ (1000:Int))) (((((1:Int) ≤ n)∧((n ≤ (12:Int))∧(((0:Int) ≤ k)∧(k ≤ (1000:Int)))))∧True)∧((decide ((if n ^ k.toNat ≤ (512:Int) then n ^ k.toNat else (513:Int)) ≤ (512:Int)) = degB n k)∧True)) ((false = degB n k)∧True)))
theorem l15Allowed_vc (n : Int) (k : Int) : runF Tryz.prog (gam l15Allowed_G) noWr noAnn Tryz.f43 (bodyOf Tryz.f43) [] [.c (.int .i64 (n)), .c (.int .i64 (k))] (l15Allowed_p n k) = l15Allowed_V n k := by kernel_rfl
theorem l15Allowed_ok (n : Int) (k : Int) (hpre : (l15Allowed_p n k).pre) : l15Allowed_V n k := by
  simp only [l15Allowed_p, l15Allowed_V, BrP_iff, u1, u2, u3, u4, u5, u6, u7, u8, u9, v1, v2, v3, v4, v5, v6, v7, v8, v9, w1, w2, w3, w4, markL_length, inB, InR, room, bdsOk] at hpre ⊢
  refine ⟨fun h => ⟨⟨hpre.1, hpre.2, h⟩, ?_⟩, fun h => by simp only [degB, decide_eq_false h, Bool.false_and]⟩
  simp only [degB, decide_eq_true h, Bool.true_and]
  apply decide_eq_decide.2
  split <;> omega
theorem l15Allowed_fits : Fits Tryz.prog 43 ⟨[], l15Allowed_ct⟩ := by
  refine ffn (Γ := gam l15Allowed_G) (gok_cons l01In_fits (gok_cons l15Power_fits gok_nil)) Tryz.func43 fun ds p h hp => ?_
  unfold l15Allowed_ct at h
  split at h
  · cases h
    exact ⟨noWr, noAnn, by rw [l15Allowed_vc]; exact l15Allowed_ok _ _  hp⟩
  · cases h
def l15Tuple_p (n : Int) (k : Int) (p : Int) : Post := ⟨1 ≤ n ∧ 0 ≤ k ∧ k ≤ 1000 ∧ 0 ≤ p ∧ p ≤ 1000000, .c (.ints 2 .i64 (digN n k.toNat p)), []⟩
def l15Tuple_ct : List AD → Option Post
  | [.c (.int .i64 (n)), .c (.int .i64 (k)), .c (.int .i64 (p))] => some (l15Tuple_p n k p)
  | _ => none
def l15Tuple_ann (n : Int) (k : Int) (p : Int) : Nat → Option Ann
  | 0 => some (Ann.mk ((Nat) × (Int) × (List Int)) (fun x => match x with | (j, q, s) => ⟨[(0, .c (.int .i64 (n))), (2, .c (.int .i64 (q))), (7, .c (.own (10))), (8, .c (.int .i64 ((j : Int) - 1)))], [(10, some (.ints 2 .i64 (List.replicate j 0 ++ s)))]⟩) (fun x => match x with | (j, q, s) => j ≤ k.toNat ∧ 0 ≤ q ∧ q ≤ 1000000 ∧ j + s.length = k.toNat ∧ digN n k.toNat p = digN n j q ++ s) (fun x => match x with | (j, q, s) => j) (fun _ => noAnn))
  | _ => none
def l15Tuple_G : List (Nat × Ctr) := []
def l15Tuple_V (n : Int) (k : Int) (p : Int) : Prop :=
 ((((0:Int) ≤ k)∧((k ≤ k)∧(room (k.toNat))))∧((InR (k - (1:Int)))∧((∃ x0 : Nat × Int × List Int, (((x0.1 ≤ k.toNat)∧(((0:Int) ≤ x0.2.1)∧((x0.2.1 ≤ (1000000:Int))∧((x0.1 + (x0.2.2).length = k.toNat)∧(digN n (k.toNat) p = digN n (x0.1) (x0.2.1) ++ x0.2.2)))))∧((n = n)∧((p = x0.2.1)∧((k - (1:Int) = (↑x0.1:Int) - (1:Int))∧(List.replicate (k.toNat) (0:Int) = List.replicate x0.1 (0:Int) ++ x0.2.2))))))∧(∀ x1 : Nat × Int × List Int, (((x1.1 ≤ k.toNat)∧(((0:Int) ≤ x1.2.1)∧((x1.2.1 ≤ (1000000:Int))∧((x1.1 + (x1.2.2).length = k.toNat)∧(digN n (k.toNat) p = digN n (x1.1) (x1.2.1) ++ x1.2.2))))) → (BrP (decide ((0:Int) ≤ (↑x1.1:Int) - (1:Int))) ((n ≠ (0:Int))∧((inB ((↑x1.1:Int) - (1:Int)) ((List.replicate x1.1 (0:Int) ++ x1.2.2).length))∧(((n ≠ (0:Int))∧(InR (Int.tdiv x1.2.1 n)))∧((InR ((↑x1.1:Int) - (1:Int) - (1:Int)))∧(∃ x2 : Nat × Int × List Int, (((x2.1 ≤ k.toNat)∧(((0:Int) ≤ x2.2.1)∧((x2.2.1 ≤ (1000000:Int))∧((x2.1 + (x2.2.2).length = k.toNat)∧(digN n (k.toNat) p = digN n (x2.1) (x2.2.1) ++ x2.2.2)))))∧((x2.1 < x1.1)∧((n = n)∧((Int.tdiv x1.2.1 n = x2.2.1)∧(((↑x1.1:Int) - (1:Int) - (1:Int) = (↑x2.1:Int) - (1:Int))∧(List.set (List.replicate x1.1 (0:Int) ++ x1.2.2) (((↑x1.1:Int) - (1:Int)).toNat) (Int.tmod x1.2.1 n) = List.replicate x2.1 (0:Int) ++ x2.2.2))))))))))) ((List.replicate x1.1 (0:Int) ++ x1.2.2 = digN n (k.toNat) p)∧True)))))))
theorem l15Tuple_vc (n : Int) (k : Int) (p : Int) : runF Tryz.prog (gam l15Tuple_G) noWr (l15Tuple_ann n k p) Tryz.f95 (bodyOf Tryz.f95) [] [.c (.int .i64 (n)), .c (.int .i64 (k)), .c (.int .i64 (p))] (l15Tuple_p n k p) = l15Tuple_V n k p := by kernel_rfl
theorem l15Tuple_ok (n : Int) (k : Int) (p : Int) (hpre : (l15Tuple_p n k p).pre) : l15Tuple_V n k p := by
  simp only [l15Tuple_p, l15Tuple_V, BrP_iff, u1, u2, u3, u4, u5, u6, u7, u8, u9, v1, v2, v3, v4, v5, v6, v7, v8, v9, w1, w2, w3, w4, markL_length, inB, InR, room, bdsOk] at hpre ⊢
  obtain ⟨h1, h2, h3, h4, h5⟩ := hpre
  refine ⟨by omega, by omega, ⟨(k.toNat, p, []), ⟨Nat.le_refl _, h4, h5, by simp, by simp⟩, rfl, by simp only []; omega, by simp⟩, ?_⟩
  rintro ⟨j, q, s⟩ ⟨g1, g2, g3, g4, g5⟩
  simp only [] at g1 g2 g3 g4 g5 ⊢
  refine ⟨fun h => ?_, fun h => ?_⟩
  · obtain ⟨j, rfl⟩ : ∃ i, j = i + 1 := ⟨j - 1, by omega⟩
    have e : q.tdiv n = q / n := Int.tdiv_eq_ediv_of_nonneg g2
    have d1 : 0 ≤ q / n := Int.ediv_nonneg g2 (by omega)
    have d2 : q / n ≤ q := Int.ediv_le_self n g2
    refine ⟨by omega, by omega, ⟨by omega, by omega⟩, by omega, (j, q.tdiv n, q.tmod n :: s), ⟨by simp only []; omega, by simp only []; omega, by simp only []; omega, by simp only [List.length_cons]; omega, ?_⟩, by simp only []; omega, rfl, by simp only []; omega, ?_⟩
    · rw [g5]; simp [digN]
    · rw [show ((j + 1 : Nat) : Int) - 1 = (j : Int) by omega, Int.toNat_natCast]
      exact rep_set j _ s
  · obtain rfl : j = 0 := by omega
    rw [g5]; simp [digN]
theorem l15Tuple_fits : Fits Tryz.prog 95 ⟨[], l15Tuple_ct⟩ := by
  refine ffn (Γ := gam l15Tuple_G) gok_nil Tryz.func95 fun ds p h hp => ?_
  unfold l15Tuple_ct at h
  split at h
  · cases h
    exact ⟨noWr, l15Tuple_ann _ _ _ , by rw [l15Tuple_vc]; exact l15Tuple_ok _ _ _  hp⟩
  · cases h
def isDegree_p (n : Int) (k : Int) : Post := ⟨1 ≤ n ∧ n ≤ 12, .c (.bool (degB n k)), []⟩
def isDegree_ct : List AD → Option Post
  | [.c (.int .i64 (n)), .c (.int .i64 (k))] => some (isDegree_p n k)
  | _ => none
def isDegree_ann (n : Int) (k : Int) : Nat → Option Ann
  | 0 => some (Ann.mk ((Nat)) (fun i => ⟨[(0, .c (.int .i64 (n))), (5, .c (.int .i64 (n ^ i))), (12, .c (.int .i64 (k))), (13, .c (.int .i64 ((i : Int))))], []⟩) (fun i => i ≤ k.toNat ∧ 0 ≤ k ∧ k ≤ 1000 ∧ n ^ i ≤ 512) (fun i => k.toNat - i) (fun _ => noAnn))
  | _ => none
def isDegree_G : List (Nat × Ctr) := []
def isDegree_V (n : Int) (k : Int) : Prop :=
 (BrP (decide (k < (0:Int))) ((false = degB n k)∧True) (BrP (decide ((1000:Int) < k)) ((false = degB n k)∧True) ((∃ x0 : Nat, (((x0 ≤ k.toNat)∧(((0:Int) ≤ k)∧((k ≤ (1000:Int))∧(n ^ x0 ≤ (512:Int)))))∧((n = n)∧(((1:Int) = n ^ x0)∧((k = k)∧((0:Int) = (↑x0:Int)))))))∧(∀ x1 : Nat, (((x1 ≤ k.toNat)∧(((0:Int) ≤ k)∧((k ≤ (1000:Int))∧(n ^ x1 ≤ (512:Int))))) → (BrP (decide ((↑x1:Int) < k)) ((InR (n ^ x1 * n))∧(BrP (decide ((512:Int) < n ^ x1 * n)) ((false = degB n k)∧True) ((InR ((↑x1:Int) + (1:Int)))∧(∃ x2 : Nat, (((x2 ≤ k.toNat)∧(((0:Int) ≤ k)∧((k ≤ (1000:Int))∧(n ^ x2 ≤ (512:Int)))))∧((k.toNat - x2 < k.toNat - x1)∧((n = n)∧((n ^ x1 * n = n ^ x2)∧((k = k)∧((↑x1:Int) + (1:Int) = (↑x2:Int))))))))))) ((true = degB n k)∧True)))))))
theorem isDegree_vc (n : Int) (k : Int) : runF Tryz.prog (gam isDegree_G) noWr (isDegree_ann n k) Tryz.f39 (bodyOf Tryz.f39) [] [.c (.int .i64 (n)), .c (.int .i64 (k))] (isDegree_p n k) = isDegree_V n k := by kernel_rfl
theorem isDegree_ok (n : Int) (k : Int) (hpre : (isDegree_p n k).pre) : isDegree_V n k := by
  simp only [isDegree_p, isDegree_V, BrP_iff, u1, u2, u3, u4, u5, u6, u7, u8, u9, v1, v2, v3, v4, v5, v6, v7, v8, v9, w1, w2, w3, w4, markL_length, inB, InR, room, bdsOk] at hpre ⊢
  obtain ⟨h1, h2⟩ := hpre
  refine ⟨fun h => by simp only [degB]; rw [decide_eq_false (by omega)]; rfl, fun h => ⟨fun h3 => by simp only [degB]; rw [decide_eq_false (by omega)]; rfl, fun h3 => ?_⟩⟩
  refine ⟨⟨0, ⟨by omega, by omega, by omega, by simp⟩, by simp, rfl⟩, fun i ⟨hi, _, _, hp⟩ => ⟨fun h4 => ?_, fun h4 => ?_⟩⟩
  · have e : n ^ i * n = n ^ (i + 1) := (Int.pow_succ n i).symm
    have pos := pow_pos' h1 (i + 1)
    have le := Int.mul_le_mul hp h2 (by omega) (by omega)
    refine ⟨by omega, fun h5 => ?_, fun h5 => ⟨by omega, i + 1, ⟨by omega, by omega, by omega, by omega⟩, by omega, e, by omega⟩⟩
    have := pow_le h1 (show i + 1 ≤ k.toNat by omega)
    simp only [degB]
    rw [decide_eq_false (show ¬ n ^ k.toNat ≤ 512 by omega), Bool.and_false]
  · rw [show i = k.toNat by omega] at hp
    simp only [degB]
    rw [decide_eq_true hp, decide_eq_true (by omega)]; rfl
theorem isDegree_fits : Fits Tryz.prog 39 ⟨[], isDegree_ct⟩ := by
  refine ffn (Γ := gam isDegree_G) gok_nil Tryz.func39 fun ds p h hp => ?_
  unfold isDegree_ct at h
  split at h
  · cases h
    exact ⟨noWr, isDegree_ann _ _ , by rw [isDegree_vc]; exact isDegree_ok _ _  hp⟩
  · cases h
def tuplesOf_p (n : Int) (k : Int) : Post := ⟨1 ≤ n ∧ n ≤ 12 ∧ degB n k = true, .c (.int .i64 (n ^ k.toNat)), []⟩
def tuplesOf_ct : List AD → Option Post
  | [.c (.int .i64 (n)), .c (.int .i64 (k))] => some (tuplesOf_p n k)
  | _ => none
def tuplesOf_ann (n : Int) (k : Int) : Nat → Option Ann
  | 0 => some (Ann.mk ((Nat)) (fun i => ⟨[(0, .c (.int .i64 (n))), (5, .c (.int .i64 (n ^ i))), (6, .c (.int .i64 (k))), (7, .c (.int .i64 ((i : Int))))], []⟩) (fun i => i ≤ k.toNat) (fun i => k.toNat - i) (fun _ => noAnn))
  | _ => none
def tuplesOf_G : List (Nat × Ctr) := []
def tuplesOf_V (n : Int) (k : Int) : Prop :=
 ((∃ x0 : Nat, ((x0 ≤ k.toNat)∧((n = n)∧(((1:Int) = n ^ x0)∧((k = k)∧((0:Int) = (↑x0:Int)))))))∧(∀ x1 : Nat, ((x1 ≤ k.toNat) → (BrP (decide ((↑x1:Int) < k)) ((InR (n ^ x1 * n))∧((InR ((↑x1:Int) + (1:Int)))∧(∃ x2 : Nat, ((x2 ≤ k.toNat)∧((k.toNat - x2 < k.toNat - x1)∧((n = n)∧((n ^ x1 * n = n ^ x2)∧((k = k)∧((↑x1:Int) + (1:Int) = (↑x2:Int)))))))))) ((n ^ x1 = n ^ k.toNat)∧True)))))
theorem tuplesOf_vc (n : Int) (k : Int) : runF Tryz.prog (gam tuplesOf_G) noWr (tuplesOf_ann n k) Tryz.f40 (bodyOf Tryz.f40) [] [.c (.int .i64 (n)), .c (.int .i64 (k))] (tuplesOf_p n k) = tuplesOf_V n k := by kernel_rfl
theorem tuplesOf_ok (n : Int) (k : Int) (hpre : (tuplesOf_p n k).pre) : tuplesOf_V n k := by
  simp only [tuplesOf_p, tuplesOf_V, BrP_iff, u1, u2, u3, u4, u5, u6, u7, u8, u9, v1, v2, v3, v4, v5, v6, v7, v8, v9, w1, w2, w3, w4, markL_length, inB, InR, room, bdsOk] at hpre ⊢
  obtain ⟨h1, h2, h3⟩ := hpre
  simp only [degB, Bool.and_eq_true, decide_eq_true_eq] at h3
  refine ⟨⟨0, by omega, by simp, rfl⟩, fun i hi => ⟨fun h4 => ?_, fun h4 => by rw [show i = k.toNat by omega]⟩⟩
  have e : n ^ i * n = n ^ (i + 1) := (Int.pow_succ n i).symm
  have pos := pow_pos' h1 (i + 1)
  have le := pow_le h1 (show i + 1 ≤ k.toNat by omega)
  exact ⟨by omega, by omega, i + 1, by omega, by omega, e, by omega⟩
theorem tuplesOf_fits : Fits Tryz.prog 40 ⟨[], tuplesOf_ct⟩ := by
  refine ffn (Γ := gam tuplesOf_G) gok_nil Tryz.func40 fun ds p h hp => ?_
  unfold tuplesOf_ct at h
  split at h
  · cases h
    exact ⟨noWr, tuplesOf_ann _ _ , by rw [tuplesOf_vc]; exact tuplesOf_ok _ _  hp⟩
  · cases h
def tupleOf_p (n : Int) (k : Int) (p : Int) : Post := ⟨1 ≤ n ∧ 0 ≤ k ∧ k ≤ 1000 ∧ 0 ≤ p ∧ p ≤ 1000000, .c (.ints 2 .i64 (digN n k.toNat p)), []⟩
def tupleOf_ct : List AD → Option Post
  | [.c (.int .i64 (n)), .c (.int .i64 (k)), .c (.int .i64 (p))] => some (tupleOf_p n k p)
  | _ => none
def tupleOf_ann (n : Int) (k : Int) (p : Int) : Nat → Option Ann
  | 0 => some (Ann.mk ((Nat) × (Int) × (List Int)) (fun x => match x with | (j, q, s) => ⟨[(0, .c (.int .i64 (n))), (2, .c (.int .i64 (q))), (7, .c (.own (10))), (8, .c (.int .i64 ((j : Int) - 1)))], [(10, some (.ints 2 .i64 (List.replicate j 0 ++ s)))]⟩) (fun x => match x with | (j, q, s) => j ≤ k.toNat ∧ 0 ≤ q ∧ q ≤ 1000000 ∧ j + s.length = k.toNat ∧ digN n k.toNat p = digN n j q ++ s) (fun x => match x with | (j, q, s) => j) (fun _ => noAnn))
  | _ => none
def tupleOf_G : List (Nat × Ctr) := []
def tupleOf_V (n : Int) (k : Int) (p : Int) : Prop :=
 ((((0:Int) ≤ k)∧((k ≤ k)∧(room (k.toNat))))∧((InR (k - (1:Int)))∧((∃ x0 : Nat × Int × List Int, (((x0.1 ≤ k.toNat)∧(((0:Int) ≤ x0.2.1)∧((x0.2.1 ≤ (1000000:Int))∧((x0.1 + (x0.2.2).length = k.toNat)∧(digN n (k.toNat) p = digN n (x0.1) (x0.2.1) ++ x0.2.2)))))∧((n = n)∧((p = x0.2.1)∧((k - (1:Int) = (↑x0.1:Int) - (1:Int))∧(List.replicate (k.toNat) (0:Int) = List.replicate x0.1 (0:Int) ++ x0.2.2))))))∧(∀ x1 : Nat × Int × List Int, (((x1.1 ≤ k.toNat)∧(((0:Int) ≤ x1.2.1)∧((x1.2.1 ≤ (1000000:Int))∧((x1.1 + (x1.2.2).length = k.toNat)∧(digN n (k.toNat) p = digN n (x1.1) (x1.2.1) ++ x1.2.2))))) → (BrP (decide ((0:Int) ≤ (↑x1.1:Int) - (1:Int))) ((n ≠ (0:Int))∧((inB ((↑x1.1:Int) - (1:Int)) ((List.replicate x1.1 (0:Int) ++ x1.2.2).length))∧(((n ≠ (0:Int))∧(InR (Int.tdiv x1.2.1 n)))∧((InR ((↑x1.1:Int) - (1:Int) - (1:Int)))∧(∃ x2 : Nat × Int × List Int, (((x2.1 ≤ k.toNat)∧(((0:Int) ≤ x2.2.1)∧((x2.2.1 ≤ (1000000:Int))∧((x2.1 + (x2.2.2).length = k.toNat)∧(digN n (k.toNat) p = digN n (x2.1) (x2.2.1) ++ x2.2.2)))))∧((x2.1 < x1.1)∧((n = n)∧((Int.tdiv x1.2.1 n = x2.2.1)∧(((↑x1.1:Int) - (1:Int) - (1:Int) = (↑x2.1:Int) - (1:Int))∧(List.set (List.replicate x1.1 (0:Int) ++ x1.2.2) (((↑x1.1:Int) - (1:Int)).toNat) (Int.tmod x1.2.1 n) = List.replicate x2.1 (0:Int) ++ x2.2.2))))))))))) ((List.replicate x1.1 (0:Int) ++ x1.2.2 = digN n (k.toNat) p)∧True)))))))
theorem tupleOf_vc (n : Int) (k : Int) (p : Int) : runF Tryz.prog (gam tupleOf_G) noWr (tupleOf_ann n k p) Tryz.f52 (bodyOf Tryz.f52) [] [.c (.int .i64 (n)), .c (.int .i64 (k)), .c (.int .i64 (p))] (tupleOf_p n k p) = tupleOf_V n k p := by kernel_rfl
theorem tupleOf_ok (n : Int) (k : Int) (p : Int) (hpre : (tupleOf_p n k p).pre) : tupleOf_V n k p := by
  simp only [tupleOf_p, tupleOf_V, BrP_iff, u1, u2, u3, u4, u5, u6, u7, u8, u9, v1, v2, v3, v4, v5, v6, v7, v8, v9, w1, w2, w3, w4, markL_length, inB, InR, room, bdsOk] at hpre ⊢
  obtain ⟨h1, h2, h3, h4, h5⟩ := hpre
  refine ⟨by omega, by omega, ⟨(k.toNat, p, []), ⟨Nat.le_refl _, h4, h5, by simp, by simp⟩, rfl, by simp only []; omega, by simp⟩, ?_⟩
  rintro ⟨j, q, s⟩ ⟨g1, g2, g3, g4, g5⟩
  simp only [] at g1 g2 g3 g4 g5 ⊢
  refine ⟨fun h => ?_, fun h => ?_⟩
  · obtain ⟨j, rfl⟩ : ∃ i, j = i + 1 := ⟨j - 1, by omega⟩
    have e : q.tdiv n = q / n := Int.tdiv_eq_ediv_of_nonneg g2
    have d1 : 0 ≤ q / n := Int.ediv_nonneg g2 (by omega)
    have d2 : q / n ≤ q := Int.ediv_le_self n g2
    refine ⟨by omega, by omega, ⟨by omega, by omega⟩, by omega, (j, q.tdiv n, q.tmod n :: s), ⟨by simp only []; omega, by simp only []; omega, by simp only []; omega, by simp only [List.length_cons]; omega, ?_⟩, by simp only []; omega, rfl, by simp only []; omega, ?_⟩
    · rw [g5]; simp [digN]
    · rw [show ((j + 1 : Nat) : Int) - 1 = (j : Int) by omega, Int.toNat_natCast]
      exact rep_set j _ s
  · obtain rfl : j = 0 := by omega
    rw [g5]; simp [digN]
theorem tupleOf_fits : Fits Tryz.prog 52 ⟨[], tupleOf_ct⟩ := by
  refine ffn (Γ := gam tupleOf_G) gok_nil Tryz.func52 fun ds p h hp => ?_
  unfold tupleOf_ct at h
  split at h
  · cases h
    exact ⟨noWr, tupleOf_ann _ _ _ , by rw [tupleOf_vc]; exact tupleOf_ok _ _ _  hp⟩
  · cases h
end Go.Sx
