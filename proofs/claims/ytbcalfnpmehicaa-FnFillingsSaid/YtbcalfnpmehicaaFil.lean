/- Fil -/
import Derived.Test.YtbcalfnpmehicaaRnkC
import Derived.Test.YtbcalfnpmehicaaLists
open Go Go.Proofs
namespace Go.Sx
set_option linter.unusedSimpArgs false
set_option linter.unusedVariables false

/-- The source of a row that is made 0 at the pivots. -/
def srcN (p : Int) (B S : List (List Int)) (P : Nat → Nat) (r s : List Int) : Nat → List Int
  | 0 => s
  | k + 1 => if (redN p B P r k).getD (P k) 0 ≠ 0 then stF p (p - (redN p B P r k).getD (P k) 0) (S.getD k []) (srcN p B S P r s k) else srcN p B S P r s k

/-- 1 at one place. -/
def ehN (M i : Nat) : List Int := (List.replicate M 0).set i 1

theorem ehN_length (M i : Nat) : (ehN M i).length = M := by simp [ehN]

theorem ehN_in {p : Int} (hp : 2 ≤ p) (M i : Nat) : inP p (ehN M i) := fun q hq => by
  rw [ehN_length] at hq
  unfold ehN
  rw [List.getD_eq_getElem?_getD, List.getElem?_set]
  split
  · split
    · simp; omega
    · simp; omega
  · rw [List.getElem?_replicate, if_pos hq]; simp; omega

/-- The basis and the sources after i rows. -/
def flN (p : Int) (ρ : Nat → List Int) (M : Nat) : Nat → List (List Int) × List (List Int)
  | 0 => ([], [])
  | i + 1 => if 0 ≤ ldF (redN p (flN p ρ M i).1 (ldN (flN p ρ M i).1) (ρ i) (flN p ρ M i).1.length) then
      ((flN p ρ M i).1 ++ [scF p (ivM p ((redN p (flN p ρ M i).1 (ldN (flN p ρ M i).1) (ρ i) (flN p ρ M i).1.length).getD (ldF (redN p (flN p ρ M i).1 (ldN (flN p ρ M i).1) (ρ i) (flN p ρ M i).1.length)).toNat 0)) (redN p (flN p ρ M i).1 (ldN (flN p ρ M i).1) (ρ i) (flN p ρ M i).1.length)],
       (flN p ρ M i).2 ++ [scF p (ivM p ((redN p (flN p ρ M i).1 (ldN (flN p ρ M i).1) (ρ i) (flN p ρ M i).1.length).getD (ldF (redN p (flN p ρ M i).1 (ldN (flN p ρ M i).1) (ρ i) (flN p ρ M i).1.length)).toNat 0)) (srcN p (flN p ρ M i).1 (flN p ρ M i).2 (ldN (flN p ρ M i).1) (ρ i) (ehN M i) (flN p ρ M i).1.length)])
    else flN p ρ M i

/-- A basis with its sources. -/
structure FlOk (p : Int) (N M : Nat) (B S : List (List Int)) : Prop where
  len : S.length = B.length
  bas : Bas p N B (ldN B)
  nn : ∀ k, k < B.length → 0 ≤ ldF (B.getD k [])
  src : rwsP p M S

theorem srcN_ok {p : Int} {N M : Nat} {B S : List (List Int)} (hp : 2 ≤ p) (h : FlOk p N M B S) {r s : List Int} (hr : rwP p N r) (hs : rwP p M s) : ∀ k, k ≤ B.length → rwP p M (srcN p B S (ldN B) r s k)
  | 0, _ => hs
  | k + 1, hk => by
    have ih := srcN_ok hp h hr hs k (by omega)
    have hrk := (red_ok hp h.bas hr k (by omega)).1
    have l1 := hrk.1
    have hP := h.bas.piv k (by omega)
    have c := hrk.2 (ldN B k) (by omega)
    have hl := h.len
    simp only [srcN]
    split
    · exact stF_rw (by omega) (by omega) (h.src k (by omega)) ih
    · exact ih

theorem scF_rw {p m : Int} (hp : 1 ≤ p) (hm : 0 ≤ m) {N : Nat} {r : List Int} (hr : rwP p N r) : rwP p N (scF p m r) :=
  ⟨by rw [scF, tab_length]; exact hr.1, fun q hq => by
    rw [scF, tab_length] at hq
    rw [scF_get hq]
    have a := hr.2 q hq
    have b := Int.mul_nonneg a.1 hm
    have c := Int.tmod_lt_of_pos (r.getD q 0 * m) (show 0 < p by omega)
    have d := Int.tmod_nonneg p b
    omega⟩

theorem flN_ok {p : Int} (hp : primeB p = true) {N M : Nat} {ρ : Nat → List Int} : ∀ i, (∀ j, j < i → rwP p N (ρ j)) → (flN p ρ M i).1.length ≤ i ∧ FlOk p N M (flN p ρ M i).1 (flN p ρ M i).2
  | 0, _ => ⟨Nat.le_refl _, rfl, ⟨fun k hk => by simp [flN] at hk, fun k hk => by simp [flN] at hk, fun k hk => by simp [flN] at hk, fun j k _ hj => by simp [flN] at hj⟩, fun k hk => by simp [flN] at hk, fun k hk => by simp [flN] at hk⟩
  | i + 1, hρ => by
    obtain ⟨p2, p7⟩ := primeB_le hp
    obtain ⟨h0, h⟩ := flN_ok hp (N := N) (M := M) i fun j hj => hρ j (by omega)
    have hr := hρ i (by omega)
    obtain ⟨r1, r2, _⟩ := red_ok p2 h.bas hr (flN p ρ M i).1.length (Nat.le_refl _)
    have s1 := srcN_ok p2 h hr (s := ehN M i) ⟨ehN_length M i, ehN_in p2 M i⟩ _ (Nat.le_refl _)
    simp only [flN]
    generalize hB : (flN p ρ M i).1 = B at *
    generalize hS : (flN p ρ M i).2 = S at *
    generalize hrr : redN p B (ldN B) (ρ i) B.length = r at *
    by_cases hl : 0 ≤ ldF r
    · rw [if_pos hl]
      have n := scF_nrm hp r1 hl
      have y := ld_yes hl
      have l1 := r1.1
      have c := r1.2 _ y.1
      have iv := ivM_ok hp (a := r.getD (ldF r).toNat 0) (by omega) (by omega)
      have le : ldF (scF p (ivM p (r.getD (ldF r).toNat 0)) r) = ((ldF r).toNat : Int) := ld_is (by rw [n.one]; decide) fun q hq => by
        by_cases hqN : q < N
        · exact n.zer q hqN (y.2.2 q hq)
        · omega
      have ga : ∀ k, k < B.length → ldN (B ++ [scF p (ivM p (r.getD (ldF r).toNat 0)) r]) k = ldN B k := fun k hk => by unfold ldN; rw [snoc_get _ _ hk]
      have gb : (B ++ [scF p (ivM p (r.getD (ldF r).toNat 0)) r]).getD B.length [] = scF p (ivM p (r.getD (ldF r).toNat 0)) r := by simp [List.getD]
      have gl := h.len
      refine ⟨by simp; omega, by simp [gl], bas_app h.bas n.row (a := (ldF r).toNat) (by omega) n.one (fun k hk => n.zer _ (h.bas.piv k hk) (r2 k hk)) ga (by unfold ldN; rw [gb, le]; exact Int.toNat_natCast _), fun k hk => ?_, fun k hk => ?_⟩
      · by_cases e : k < B.length
        · rw [snoc_get _ _ e]; exact h.nn k e
        · have : k = B.length := by simp at hk; omega
          subst this
          rw [gb, le]; omega
      · by_cases e : k < S.length
        · rw [snoc_get _ _ e]; exact h.src k e
        · have : k = S.length := by simp at hk; omega
          subst this
          rw [show (S ++ [scF p (ivM p (r.getD (ldF r).toNat 0)) (srcN p B S (ldN B) (ρ i) (ehN M i) B.length)]).getD S.length [] = scF p (ivM p (r.getD (ldF r).toNat 0)) (srcN p B S (ldN B) (ρ i) (ehN M i) B.length) by simp [List.getD]]
          exact scF_rw (by omega) (by omega) s1
    · rw [if_neg hl]
      simp only [hB, hS]
      exact ⟨by omega, h⟩

/-- Two parts of a row, worked on together. -/
theorem getD_app1 (a b : List Int) {q : Nat} (h : q < a.length) : (a ++ b).getD q 0 = a.getD q 0 := by
  rw [List.getD_eq_getElem?_getD, List.getElem?_append_left h, ← List.getD_eq_getElem?_getD]

theorem ext_getD {a b : List Int} (hl : a.length = b.length) (h : ∀ q, q < a.length → a.getD q 0 = b.getD q 0) : a = b := by
  apply List.ext_getElem hl
  intro q h1 h2
  have := h q h1
  simpa [List.getD, h1, h2] using this

theorem tab_app (n m : Nat) (f g : Nat → Int) : tab n f ++ tab m g = tab (n + m) fun q => if q < n then f q else g (q - n) := by
  apply ext_getD
  · simp [tab_length]
  · intro q hq
    have hq : q < n + m := by simpa [tab_length] using hq
    rw [tab_getD _ _ _ hq]
    by_cases h : q < n
    · rw [if_pos h, getD_app1 _ _ (by rw [tab_length]; exact h), tab_getD _ _ _ h]
    · rw [if_neg h, List.getD_eq_getElem?_getD, List.getElem?_append_right (by rw [tab_length]; omega), tab_length, ← List.getD_eq_getElem?_getD, tab_getD _ _ _ (by omega)]

theorem getD_app2 (a b : List Int) {q : Nat} (h : a.length ≤ q) : (a ++ b).getD q 0 = b.getD (q - a.length) 0 := by
  rw [List.getD_eq_getElem?_getD, List.getElem?_append_right h, ← List.getD_eq_getElem?_getD]

theorem stF_app (p m : Int) {a a' b b' : List Int} (h : b.length = a.length) : stF p m (b ++ b') (a ++ a') = stF p m b a ++ stF p m b' a' := by
  unfold stF
  rw [tab_app, List.length_append]
  refine tab_ext fun q hq => ?_
  by_cases e : q < a.length
  · rw [if_pos e, getD_app1 _ _ e, getD_app1 _ _ (by omega)]
  · rw [if_neg e, getD_app2 _ _ (by omega), getD_app2 _ _ (by omega), h]

theorem scF_app (p m : Int) (a b : List Int) : scF p m (a ++ b) = scF p m a ++ scF p m b := by
  unfold scF
  rw [tab_app, List.length_append]
  refine tab_ext fun q hq => ?_
  by_cases e : q < a.length
  · rw [if_pos e, getD_app1 _ _ e]
  · rw [if_neg e, getD_app2 _ _ (by omega)]

theorem neg_sc (p m : Int) (r : List Int) : stF p (p - (p - m)) r (List.replicate r.length 0) = scF p m r := by
  unfold stF scF
  rw [List.length_replicate]
  refine tab_ext fun q hq => ?_
  rw [show (List.replicate r.length (0 : Int)).getD q 0 = 0 by simp [List.getD, hq], show p - (p - m) = m by omega, Int.zero_add, Int.mul_comm]

/-- The rows with their sources behind them. -/
def cbL (B S : List (List Int)) : List (List Int) := List.zipWith (fun b s => b ++ s) B S

theorem cbL_length {B S : List (List Int)} (h : S.length = B.length) : (cbL B S).length = B.length := by simp [cbL, h]

theorem cbL_get {B S : List (List Int)} (h : S.length = B.length) {k : Nat} (hk : k < B.length) : (cbL B S).getD k [] = B.getD k [] ++ S.getD k [] := by
  unfold cbL
  have h2 : k < S.length := by omega
  simp [List.getD, List.getElem?_zipWith, hk, h2]

theorem cbL_snoc {B S : List (List Int)} (h : S.length = B.length) (b s : List Int) : cbL B S ++ [b ++ s] = cbL (B ++ [b]) (S ++ [s]) := by
  unfold cbL
  rw [List.zipWith_append h.symm]; rfl

theorem red_cb {p : Int} {N M : Nat} {B S : List (List Int)} (hp : 2 ≤ p) (h : FlOk p N M B S) {P : Nat → Nat} (hP : ∀ k, k < B.length → P k = ldN B k) {r s : List Int} (hr : rwP p N r) (hs : rwP p M s) :
    ∀ k, k ≤ B.length → redN p (cbL B S) P (r ++ s) k = redN p B (ldN B) r k ++ srcN p B S (ldN B) r s k
  | 0, _ => rfl
  | k + 1, hk => by
    have ih := red_cb hp h hP hr hs k (by omega)
    have hrk := (red_ok hp h.bas hr k (by omega)).1
    have l1 := hrk.1
    have hp1 := h.bas.piv k (by omega)
    have hb := (h.bas.row k (by omega)).1
    simp only [redN, srcN]
    rw [ih, hP k (by omega), getD_app1 _ _ (by omega), cbL_get h.len (by omega)]
    split
    · rw [stF_app _ _ (by omega)]
    · rfl

/-- The opposite numbers modulo p. -/
def ngF (p : Int) (s : List Int) : List Int := tab s.length fun q => (p - s.getD q 0).tmod p

theorem ngF_length (p : Int) (s : List Int) : (ngF p s).length = s.length := tab_length _ _

/-- The boundary of the tuple with a place. -/
def btF (t : List (List Int)) (p : Int) (K : Nat) (i : Nat) : List Int := ptF t p (digN (t.length : Int) K (i : Int)) K

/-- What FillingOf finds: its rest and its source. -/
def flR (t : List (List Int)) (p : Int) (K : Nat) (c : List Int) : List Int × List Int :=
  (redN p (flN p (btF t p K) (t.length ^ K) (t.length ^ K)).1 (ldN (flN p (btF t p K) (t.length ^ K) (t.length ^ K)).1) c (flN p (btF t p K) (t.length ^ K) (t.length ^ K)).1.length,
   srcN p (flN p (btF t p K) (t.length ^ K) (t.length ^ K)).1 (flN p (btF t p K) (t.length ^ K) (t.length ^ K)).2 (ldN (flN p (btF t p K) (t.length ^ K) (t.length ^ K)).1) c (List.replicate (t.length ^ K) 0) (flN p (btF t p K) (t.length ^ K) (t.length ^ K)).1.length)
def flV (t : List (List Int)) (p : Int) (K : Nat) (c : List Int) : List Int × Bool :=
  if 0 ≤ ldF (flR t p K c).1 then ([], false) else (ngF p (flR t p K c).2, true)

theorem btF_ok (t : List (List Int)) {p : Int} (hp : 2 ≤ p) (K i : Nat) : rwP p (t.length ^ (K - 1)) (btF t p K i) :=
  ⟨by unfold btF; rw [ptF_length, digN_length], by unfold btF; exact ptF_in t hp _ _⟩

theorem flN_step (p : Int) (ρ : Nat → List Int) (M i : Nat) : flN p ρ M (i + 1) = if 0 ≤ ldF (redN p (flN p ρ M i).1 (ldN (flN p ρ M i).1) (ρ i) (flN p ρ M i).1.length) then
      ((flN p ρ M i).1 ++ [scF p (ivM p ((redN p (flN p ρ M i).1 (ldN (flN p ρ M i).1) (ρ i) (flN p ρ M i).1.length).getD (ldF (redN p (flN p ρ M i).1 (ldN (flN p ρ M i).1) (ρ i) (flN p ρ M i).1.length)).toNat 0)) (redN p (flN p ρ M i).1 (ldN (flN p ρ M i).1) (ρ i) (flN p ρ M i).1.length)],
       (flN p ρ M i).2 ++ [scF p (ivM p ((redN p (flN p ρ M i).1 (ldN (flN p ρ M i).1) (ρ i) (flN p ρ M i).1.length).getD (ldF (redN p (flN p ρ M i).1 (ldN (flN p ρ M i).1) (ρ i) (flN p ρ M i).1.length)).toNat 0)) (srcN p (flN p ρ M i).1 (flN p ρ M i).2 (ldN (flN p ρ M i).1) (ρ i) (ehN M i) (flN p ρ M i).1.length)])
    else flN p ρ M i := rfl

def fillingOf1_p (r : List Int) (s : List Int) (B : List (List Int)) (p : Int) (S : List (List Int)) : Post := ⟨primeB p = true ∧ (∃ N M, FlOk p N M B S ∧ rwP p N r ∧ rwP p M s ∧ N ≤ 512 ∧ M ≤ 512) ∧ B.length ≤ 512, .tup [], [.ints 2 .i64 (redN p B (ldN B) r B.length), .ints 2 .i64 (srcN p B S (ldN B) r s B.length)]⟩
def fillingOf1_ct : List AD → Option Post
  | [.c (.ints .i64 (r)), .c (.ints .i64 (s)), .box [.rows .i64 (B)], .box [.int .i64 (p)], .box [.rows .i64 (S)]] => some (fillingOf1_p r s B p S)
  | _ => none
def fillingOf1_ann (r : List Int) (s : List Int) (B : List (List Int)) (p : Int) (S : List (List Int)) : Nat → Option Ann
  | 0 => some (Ann.mk ((Nat)) (fun k => ⟨[(0, .c (.own (700))), (1, .c (.own (716))), (2, .c (.rob [.rows .i64 B] 0)), (3, .c (.rob [.int .i64 p] 0)), (4, .c (.rob [.rows .i64 S] 0)), (10, .c (.ro (.rows .i64 (B)))), (11, .c (.int .i64 ((B.length : Int)))), (12, .c (.int .i64 ((k : Int))))], [(700, some (.ints 2 .i64 (redN p B (ldN B) r k))), (716, some (.ints 2 .i64 (srcN p B S (ldN B) r s k)))]⟩) (fun k => k ≤ B.length) (fun k => B.length - k) (fun _ => noAnn))
  | _ => none
def fillingOf1_G : List (Nat × Ctr) := [(100, ⟨[], leading_ct⟩), (101, ⟨[(1, 0)], addRow_ct⟩)]
def fillingOf1_V (r : List Int) (s : List Int) (B : List (List Int)) (p : Int) (S : List (List Int)) : Prop :=
  ((∃ x0 : Nat, ((x0 ≤ List.length B) ∧
 (([FC.rows IntKind.i64 B] = [FC.rows IntKind.i64 B]) ∧
 (((0 : Nat) = (0 : Nat)) ∧
 (([FC.int IntKind.i64 p] = [FC.int IntKind.i64 p]) ∧
 (((0 : Nat) = (0 : Nat)) ∧
 (([FC.rows IntKind.i64 S] = [FC.rows IntKind.i64 S]) ∧
 (((0 : Nat) = (0 : Nat)) ∧
 ((B = B) ∧
 (((↑(List.length B) : Int) = (↑(List.length B) : Int)) ∧
 (((0 : Int) = (↑x0 : Int)) ∧
 ((r = redN p B (ldN B) r x0) ∧
 (s = srcN p B S (ldN B) r s x0))))))))))))) ∧
 (∀ x1 : Nat, ((x1 ≤ List.length B) →
 (BrP (Decidable.decide ((↑x1 : Int) < (↑(List.length B) : Int)))
 ((inB (↑x1 : Int) (List.length B)) ∧
 (((List.length (List.getD B (Int.toNat (↑x1 : Int)) []) ≤ (1000 : Nat)) ∧
 (True)) ∧
 ((inB (ldF (List.getD B (Int.toNat (↑x1 : Int)) [])) (List.length (redN p B (ldN B) r x1))) ∧
 (BrP (List.getD (redN p B (ldN B) r x1) (Int.toNat (ldF (List.getD B (Int.toNat (↑x1 : Int)) []))) (0 : Int) != (0 : Int))
 ((InR (p - List.getD (redN p B (ldN B) r x1) (Int.toNat (ldF (List.getD B (Int.toNat (↑x1 : Int)) []))) (0 : Int))) ∧
 ((((twR p (redN p B (ldN B) r x1) (List.getD B (Int.toNat (↑x1 : Int)) [])) ∧
 (((0 : Int) ≤ p - List.getD (redN p B (ldN B) r x1) (Int.toNat (ldF (List.getD B (Int.toNat (↑x1 : Int)) []))) (0 : Int)) ∧
 (p - List.getD (redN p B (ldN B) r x1) (Int.toNat (ldF (List.getD B (Int.toNat (↑x1 : Int)) []))) (0 : Int) ≤ (7 : Int)))) ∧
 ((List.length (stF p (p - List.getD (redN p B (ldN B) r x1) (Int.toNat (ldF (List.getD B (Int.toNat (↑x1 : Int)) []))) (0 : Int)) (List.getD B (Int.toNat (↑x1 : Int)) []) (redN p B (ldN B) r x1)) = List.length (redN p B (ldN B) r x1)) ∧
 (True))) ∧
 ((inB (↑x1 : Int) (List.length S)) ∧
 ((InR (p - List.getD (redN p B (ldN B) r x1) (Int.toNat (ldF (List.getD B (Int.toNat (↑x1 : Int)) []))) (0 : Int))) ∧
 ((((twR p (srcN p B S (ldN B) r s x1) (List.getD S (Int.toNat (↑x1 : Int)) [])) ∧
 (((0 : Int) ≤ p - List.getD (redN p B (ldN B) r x1) (Int.toNat (ldF (List.getD B (Int.toNat (↑x1 : Int)) []))) (0 : Int)) ∧
 (p - List.getD (redN p B (ldN B) r x1) (Int.toNat (ldF (List.getD B (Int.toNat (↑x1 : Int)) []))) (0 : Int) ≤ (7 : Int)))) ∧
 ((List.length (stF p (p - List.getD (redN p B (ldN B) r x1) (Int.toNat (ldF (List.getD B (Int.toNat (↑x1 : Int)) []))) (0 : Int)) (List.getD S (Int.toNat (↑x1 : Int)) []) (srcN p B S (ldN B) r s x1)) = List.length (srcN p B S (ldN B) r s x1)) ∧
 (True))) ∧
 ((InR ((↑x1 : Int) + (1 : Int))) ∧
 (∃ x2 : Nat, ((x2 ≤ List.length B) ∧
 ((List.length B - x2 < List.length B - x1) ∧
 (([FC.rows IntKind.i64 B] = [FC.rows IntKind.i64 B]) ∧
 (((0 : Nat) = (0 : Nat)) ∧
 (([FC.int IntKind.i64 p] = [FC.int IntKind.i64 p]) ∧
 (((0 : Nat) = (0 : Nat)) ∧
 (([FC.rows IntKind.i64 S] = [FC.rows IntKind.i64 S]) ∧
 (((0 : Nat) = (0 : Nat)) ∧
 ((B = B) ∧
 (((↑(List.length B) : Int) = (↑(List.length B) : Int)) ∧
 (((↑x1 : Int) + (1 : Int) = (↑x2 : Int)) ∧
 ((stF p (p - List.getD (redN p B (ldN B) r x1) (Int.toNat (ldF (List.getD B (Int.toNat (↑x1 : Int)) []))) (0 : Int)) (List.getD B (Int.toNat (↑x1 : Int)) []) (redN p B (ldN B) r x1) = redN p B (ldN B) r x2) ∧
 (stF p (p - List.getD (redN p B (ldN B) r x1) (Int.toNat (ldF (List.getD B (Int.toNat (↑x1 : Int)) []))) (0 : Int)) (List.getD S (Int.toNat (↑x1 : Int)) []) (srcN p B S (ldN B) r s x1) = srcN p B S (ldN B) r s x2))))))))))))))))))))
 ((InR ((↑x1 : Int) + (1 : Int))) ∧
 (∃ x3 : Nat, ((x3 ≤ List.length B) ∧
 ((List.length B - x3 < List.length B - x1) ∧
 (([FC.rows IntKind.i64 B] = [FC.rows IntKind.i64 B]) ∧
 (((0 : Nat) = (0 : Nat)) ∧
 (([FC.int IntKind.i64 p] = [FC.int IntKind.i64 p]) ∧
 (((0 : Nat) = (0 : Nat)) ∧
 (([FC.rows IntKind.i64 S] = [FC.rows IntKind.i64 S]) ∧
 (((0 : Nat) = (0 : Nat)) ∧
 ((B = B) ∧
 (((↑(List.length B) : Int) = (↑(List.length B) : Int)) ∧
 (((↑x1 : Int) + (1 : Int) = (↑x3 : Int)) ∧
 ((redN p B (ldN B) r x1 = redN p B (ldN B) r x3) ∧
 (srcN p B S (ldN B) r s x1 = srcN p B S (ldN B) r s x3)))))))))))))))))))
 ((True) ∧
 ((redN p B (ldN B) r x1 = redN p B (ldN B) r (List.length B)) ∧
 ((srcN p B S (ldN B) r s x1 = srcN p B S (ldN B) r s (List.length B)) ∧
 (True))))))))
theorem fillingOf1_vc (r : List Int) (s : List Int) (B : List (List Int)) (p : Int) (S : List (List Int)) : runF Try.prog (gam fillingOf1_G) noWr (fillingOf1_ann r s B p S) Try.f99 (bodyOf Try.f99) [(0, 0), (1, 0)] [.c (.ints .i64 (r)), .c (.ints .i64 (s)), .box [.rows .i64 (B)], .box [.int .i64 (p)], .box [.rows .i64 (S)]] (fillingOf1_p r s B p S) = fillingOf1_V r s B p S := by kernel_rfl
theorem fillingOf1_ok (r : List Int) (s : List Int) (B : List (List Int)) (p : Int) (S : List (List Int)) (hpre : (fillingOf1_p r s B p S).pre) : fillingOf1_V r s B p S := by
  simp only [fillingOf1_p, fillingOf1_V, BrP_iff, true_and, and_true, decide_eq_true_eq, decide_eq_false_iff_not, bne_iff_ne, beq_iff_eq, bne_eq_false_iff_eq, beq_eq_false_iff_ne, Bool.not_eq_true, Bool.not_eq_false, Bool.not_true, Bool.not_false, Bool.not_eq_eq_eq_not, Int.toNat_natCast, List.length_append, List.length_take, List.length_replicate, List.length_set, List.length_map, List.length_drop, List.length_nil, List.length_cons, markL_length, inB, InR, room, bdsOk] at hpre ⊢
  obtain ⟨hp, ⟨N, M, h, hr, hs, N5, M5⟩, hB⟩ := hpre
  obtain ⟨p2, p7⟩ := primeB_le hp
  refine ⟨⟨0, by omega, rfl, rfl, rfl⟩, fun k hk => ⟨fun hlt => ?_, fun hge => ?_⟩⟩
  · have rk := (red_ok p2 h.bas hr k hk).1
    have rk1 := rk.1
    have sk := srcN_ok p2 h hr hs k hk
    have sk1 := sk.1
    have bk := h.bas.row k (by omega)
    have bk1 := bk.1
    have pk := h.bas.piv k (by omega)
    have nk := h.nn k (by omega)
    have hl := h.len
    have ek := h.src k (by omega)
    have ek1 := ek.1
    have c := rk.2 (ldN B k) (by omega)
    have pe : (ldF (B.getD k [])).toNat = ldN B k := rfl
    rw [pe]
    have tw : twR p (redN p B (ldN B) r k) (B.getD k []) := ⟨p2, p7, rk.2, bk.2, by omega, by omega⟩
    have tw2 : twR p (srcN p B S (ldN B) r s k) (S.getD k []) := ⟨p2, p7, sk.2, ek.2, by omega, by omega⟩
    refine ⟨by omega, by omega, by omega, fun h4 => ⟨by omega, ⟨⟨tw, by omega, by omega⟩, stF_length _ _ _ _⟩, by omega, by omega, ⟨⟨tw2, by omega, by omega⟩, stF_length _ _ _ _⟩, by omega, k + 1, by omega, by omega, by omega, ?_, ?_⟩, fun h4 => ⟨by omega, k + 1, by omega, by omega, by omega, ?_, ?_⟩⟩
    · rw [redN, if_pos h4]
    · rw [srcN, if_pos h4]
    · rw [redN, if_neg (by omega)]
    · rw [srcN, if_neg (by omega)]
  · rw [show k = B.length by omega]
    exact ⟨rfl, rfl⟩
theorem fillingOf1_fits : Fits Try.prog 99 ⟨[(0, 0), (1, 0)], fillingOf1_ct⟩ := by
  refine fits_fn (Γ := gam fillingOf1_G) (gok_cons leading_fits (gok_cons addRow_fits gok_nil)) Try.func99 (by kernel_rfl) (by kernel_rfl) (by kernel_rfl) fun ds p h hp => ?_
  unfold fillingOf1_ct at h
  split at h
  · cases h
    exact ⟨noWr, fillingOf1_ann _ _ _ _ _ , by rw [fillingOf1_vc]; exact fillingOf1_ok _ _ _ _ _  hp⟩
  · cases h

def fillingOf_p (t : List (List Int)) (p : Int) (k : Int) (c : List Int) : Post := ⟨tabB t = true ∧ primeB p = true ∧ degB (t.length : Int) k = true ∧ 1 ≤ k ∧ rwP p (t.length ^ (k.toNat - 1)) c, .tup [.inl (.ints 2 .i64 ((flV t p k.toNat c).1)), .inl (.bool ((flV t p k.toNat c).2))], []⟩
def fillingOf_ct : List AD → Option Post
  | [.c (.rows .i64 (t)), .c (.int .i64 (p)), .c (.int .i64 (k)), .c (.ints .i64 (c))] => some (fillingOf_p t p k c)
  | _ => none
def fillingOf_ann (t : List (List Int)) (p : Int) (k : Int) (c : List Int) : Nat → Option Ann
  | 0 => some (Ann.mk ((Nat)) (fun i => ⟨[(0, .c (.ro (.rows .i64 (t)))), (2, .c (.int .i64 (k))), (3, .c (.ro (.ints .i64 (c)))), (5, .c (.ptr 5 0)), (10, .c (.int .i64 ((t.length : Int)))), (11, .c (.int .i64 (((t.length ^ k.toNat : Nat) : Int)))), (12, .c (.ptr 12 0)), (13, .c (.ptr 13 0)), (14, .fn 99 [.ptr 12 0, .ptr 5 0, .ptr 13 0]), (30, .c (.int .i64 (((t.length ^ k.toNat : Nat) : Int)))), (31, .c (.int .i64 ((i : Int))))], [(5, some (.box [.int .i64 (p)])), (12, some (.box [.own (100)])), (13, some (.box [.own (101)])), (100, some (.rows 0 34 2 .i64 ((flN p (btF t p k.toNat) (t.length ^ k.toNat) i).1))), (101, some (.rows 0 34 2 .i64 ((flN p (btF t p k.toNat) (t.length ^ k.toNat) i).2)))]⟩) (fun i => i ≤ t.length ^ k.toNat) (fun i => t.length ^ k.toNat - i) (fun _ => noAnn))
  | 2 => some (Ann.mk ((Nat)) (fun j => ⟨[(5, .c (.ptr 5 0)), (21, .c (.own (100))), (92, .c (.own (100))), (93, .c (.int .i64 (((t.length ^ k.toNat : Nat) : Int)))), (94, .c (.int .i64 ((j : Int))))], [(5, some (.box [.int .i64 (p)])), (100, some (.ints 2 .i64 ((ngF p (flR t p k.toNat c).2).take j ++ (flR t p k.toNat c).2.drop j)))]⟩) (fun j => j ≤ t.length ^ k.toNat ∧ ldF (flR t p k.toNat c).1 < 0) (fun j => t.length ^ k.toNat - j) (fun _ => noAnn))
  | _ => none
def fillingOf_G : List (Nat × Ctr) := [(60, ⟨[], tuplesOf_ct⟩), (61, ⟨[], tupleOf_ct⟩), (93, ⟨[(4, 0)], addBoundary_ct⟩), (99, ⟨[(0, 0), (1, 0)], fillingOf1_ct⟩), (100, ⟨[], leading_ct⟩), (102, ⟨[], inverseModulo_ct⟩), (103, ⟨[(1, 0)], scaleRow_ct⟩), (104, ⟨[], Clone_ct⟩)]
def fillingOf_V (t : List (List Int)) (p : Int) (k : Int) (c : List Int) : Prop :=
  (((((1 : Int) ≤ (↑(List.length t) : Int)) ∧
 (((↑(List.length t) : Int) ≤ (12 : Int)) ∧
 (degB (↑(List.length t) : Int) k = Bool.true))) ∧
 (True)) ∧
 ((∃ x0 : Nat, ((x0 ≤ List.length t ^ Int.toNat k) ∧
 ((t = t) ∧
 ((k = k) ∧
 ((c = c) ∧
 (((↑(List.length t) : Int) = (↑(List.length t) : Int)) ∧
 (((↑(List.length t) : Int) ^ Int.toNat k = (↑(List.length t ^ Int.toNat k) : Int)) ∧
 (((↑(List.length t) : Int) ^ Int.toNat k = (↑(List.length t ^ Int.toNat k) : Int)) ∧
 (((0 : Int) = (↑x0 : Int)) ∧
 ((p = p) ∧
 ((Prod.fst (flN p (btF t p (Int.toNat k)) (List.length t ^ Int.toNat k) x0) = []) ∧
 (Prod.snd (flN p (btF t p (Int.toNat k)) (List.length t ^ Int.toNat k) x0) = [])))))))))))) ∧
 (∀ x1 : Nat, ((x1 ≤ List.length t ^ Int.toNat k) →
 (BrP (Decidable.decide ((↑x1 : Int) < (↑(List.length t ^ Int.toNat k) : Int)))
 ((((0 : Int) ≤ (↑(List.length c) : Int)) ∧
 (((↑(List.length c) : Int) ≤ (↑(List.length c) : Int)) ∧
 (room (Int.toNat (↑(List.length c) : Int))))) ∧
 ((((0 : Int) ≤ (↑(List.length t ^ Int.toNat k) : Int)) ∧
 (((↑(List.length t ^ Int.toNat k) : Int) ≤ (↑(List.length t ^ Int.toNat k) : Int)) ∧
 (room (Int.toNat (↑(List.length t ^ Int.toNat k) : Int))))) ∧
 (((((1 : Int) ≤ (↑(List.length t) : Int)) ∧
 (((0 : Int) ≤ k) ∧
 ((k ≤ (1000 : Int)) ∧
 (((0 : Int) ≤ (↑x1 : Int)) ∧
 ((↑x1 : Int) ≤ (1000000 : Int)))))) ∧
 (True)) ∧
 ((((bdOk t p (digN (↑(List.length t) : Int) (Int.toNat k) (↑x1 : Int))) ∧
 (((0 : Int) ≤ (1 : Int)) ∧
 (((1 : Int) ≤ p - (1 : Int)) ∧
 ((inP p (List.replicate (Int.toNat (↑(List.length c) : Int)) (0 : Int))) ∧
 (List.length (List.replicate (Int.toNat (↑(List.length c) : Int)) (0 : Int)) = List.length t ^ (List.length (digN (↑(List.length t) : Int) (Int.toNat k) (↑x1 : Int)) - (1 : Nat))))))) ∧
 ((List.length (adF t p (digN (↑(List.length t) : Int) (Int.toNat k) (↑x1 : Int)) (1 : Int) (List.replicate (Int.toNat (↑(List.length c) : Int)) (0 : Int)) (List.length (digN (↑(List.length t) : Int) (Int.toNat k) (↑x1 : Int)))) = List.length (List.replicate (Int.toNat (↑(List.length c) : Int)) (0 : Int))) ∧
 (True))) ∧
 ((inB (↑x1 : Int) (List.length (List.replicate (Int.toNat (↑(List.length t ^ Int.toNat k) : Int)) (0 : Int)))) ∧
 ((((primeB p = Bool.true) ∧
 ((∃ (N : Nat), ∃ (M : Nat), FlOk p N M (Prod.fst (flN p (btF t p (Int.toNat k)) (List.length t ^ Int.toNat k) x1)) (Prod.snd (flN p (btF t p (Int.toNat k)) (List.length t ^ Int.toNat k) x1)) ∧ rwP p N (adF t p (digN (↑(List.length t) : Int) (Int.toNat k) (↑x1 : Int)) (1 : Int) (List.replicate (Int.toNat (↑(List.length c) : Int)) (0 : Int)) (List.length (digN (↑(List.length t) : Int) (Int.toNat k) (↑x1 : Int)))) ∧ rwP p M (List.set (List.replicate (Int.toNat (↑(List.length t ^ Int.toNat k) : Int)) (0 : Int)) (Int.toNat (↑x1 : Int)) (1 : Int)) ∧ N ≤ (512 : Nat) ∧ M ≤ (512 : Nat)) ∧
 (List.length (Prod.fst (flN p (btF t p (Int.toNat k)) (List.length t ^ Int.toNat k) x1)) ≤ (512 : Nat)))) ∧
 ((List.length (redN p (Prod.fst (flN p (btF t p (Int.toNat k)) (List.length t ^ Int.toNat k) x1)) (ldN (Prod.fst (flN p (btF t p (Int.toNat k)) (List.length t ^ Int.toNat k) x1))) (adF t p (digN (↑(List.length t) : Int) (Int.toNat k) (↑x1 : Int)) (1 : Int) (List.replicate (Int.toNat (↑(List.length c) : Int)) (0 : Int)) (List.length (digN (↑(List.length t) : Int) (Int.toNat k) (↑x1 : Int)))) (List.length (Prod.fst (flN p (btF t p (Int.toNat k)) (List.length t ^ Int.toNat k) x1)))) = List.length (adF t p (digN (↑(List.length t) : Int) (Int.toNat k) (↑x1 : Int)) (1 : Int) (List.replicate (Int.toNat (↑(List.length c) : Int)) (0 : Int)) (List.length (digN (↑(List.length t) : Int) (Int.toNat k) (↑x1 : Int))))) ∧
 ((List.length (srcN p (Prod.fst (flN p (btF t p (Int.toNat k)) (List.length t ^ Int.toNat k) x1)) (Prod.snd (flN p (btF t p (Int.toNat k)) (List.length t ^ Int.toNat k) x1)) (ldN (Prod.fst (flN p (btF t p (Int.toNat k)) (List.length t ^ Int.toNat k) x1))) (adF t p (digN (↑(List.length t) : Int) (Int.toNat k) (↑x1 : Int)) (1 : Int) (List.replicate (Int.toNat (↑(List.length c) : Int)) (0 : Int)) (List.length (digN (↑(List.length t) : Int) (Int.toNat k) (↑x1 : Int)))) (List.set (List.replicate (Int.toNat (↑(List.length t ^ Int.toNat k) : Int)) (0 : Int)) (Int.toNat (↑x1 : Int)) (1 : Int)) (List.length (Prod.fst (flN p (btF t p (Int.toNat k)) (List.length t ^ Int.toNat k) x1)))) = List.length (List.set (List.replicate (Int.toNat (↑(List.length t ^ Int.toNat k) : Int)) (0 : Int)) (Int.toNat (↑x1 : Int)) (1 : Int))) ∧
 (True)))) ∧
 (((List.length (redN p (Prod.fst (flN p (btF t p (Int.toNat k)) (List.length t ^ Int.toNat k) x1)) (ldN (Prod.fst (flN p (btF t p (Int.toNat k)) (List.length t ^ Int.toNat k) x1))) (adF t p (digN (↑(List.length t) : Int) (Int.toNat k) (↑x1 : Int)) (1 : Int) (List.replicate (Int.toNat (↑(List.length c) : Int)) (0 : Int)) (List.length (digN (↑(List.length t) : Int) (Int.toNat k) (↑x1 : Int)))) (List.length (Prod.fst (flN p (btF t p (Int.toNat k)) (List.length t ^ Int.toNat k) x1)))) ≤ (1000 : Nat)) ∧
 (True)) ∧
 (BrP (Decidable.decide ((0 : Int) ≤ ldF (redN p (Prod.fst (flN p (btF t p (Int.toNat k)) (List.length t ^ Int.toNat k) x1)) (ldN (Prod.fst (flN p (btF t p (Int.toNat k)) (List.length t ^ Int.toNat k) x1))) (adF t p (digN (↑(List.length t) : Int) (Int.toNat k) (↑x1 : Int)) (1 : Int) (List.replicate (Int.toNat (↑(List.length c) : Int)) (0 : Int)) (List.length (digN (↑(List.length t) : Int) (Int.toNat k) (↑x1 : Int)))) (List.length (Prod.fst (flN p (btF t p (Int.toNat k)) (List.length t ^ Int.toNat k) x1))))))
 ((inB (ldF (redN p (Prod.fst (flN p (btF t p (Int.toNat k)) (List.length t ^ Int.toNat k) x1)) (ldN (Prod.fst (flN p (btF t p (Int.toNat k)) (List.length t ^ Int.toNat k) x1))) (adF t p (digN (↑(List.length t) : Int) (Int.toNat k) (↑x1 : Int)) (1 : Int) (List.replicate (Int.toNat (↑(List.length c) : Int)) (0 : Int)) (List.length (digN (↑(List.length t) : Int) (Int.toNat k) (↑x1 : Int)))) (List.length (Prod.fst (flN p (btF t p (Int.toNat k)) (List.length t ^ Int.toNat k) x1))))) (List.length (redN p (Prod.fst (flN p (btF t p (Int.toNat k)) (List.length t ^ Int.toNat k) x1)) (ldN (Prod.fst (flN p (btF t p (Int.toNat k)) (List.length t ^ Int.toNat k) x1))) (adF t p (digN (↑(List.length t) : Int) (Int.toNat k) (↑x1 : Int)) (1 : Int) (List.replicate (Int.toNat (↑(List.length c) : Int)) (0 : Int)) (List.length (digN (↑(List.length t) : Int) (Int.toNat k) (↑x1 : Int)))) (List.length (Prod.fst (flN p (btF t p (Int.toNat k)) (List.length t ^ Int.toNat k) x1)))))) ∧
 ((((primeB p = Bool.true) ∧
 (((1 : Int) ≤ List.getD (redN p (Prod.fst (flN p (btF t p (Int.toNat k)) (List.length t ^ Int.toNat k) x1)) (ldN (Prod.fst (flN p (btF t p (Int.toNat k)) (List.length t ^ Int.toNat k) x1))) (adF t p (digN (↑(List.length t) : Int) (Int.toNat k) (↑x1 : Int)) (1 : Int) (List.replicate (Int.toNat (↑(List.length c) : Int)) (0 : Int)) (List.length (digN (↑(List.length t) : Int) (Int.toNat k) (↑x1 : Int)))) (List.length (Prod.fst (flN p (btF t p (Int.toNat k)) (List.length t ^ Int.toNat k) x1)))) (Int.toNat (ldF (redN p (Prod.fst (flN p (btF t p (Int.toNat k)) (List.length t ^ Int.toNat k) x1)) (ldN (Prod.fst (flN p (btF t p (Int.toNat k)) (List.length t ^ Int.toNat k) x1))) (adF t p (digN (↑(List.length t) : Int) (Int.toNat k) (↑x1 : Int)) (1 : Int) (List.replicate (Int.toNat (↑(List.length c) : Int)) (0 : Int)) (List.length (digN (↑(List.length t) : Int) (Int.toNat k) (↑x1 : Int)))) (List.length (Prod.fst (flN p (btF t p (Int.toNat k)) (List.length t ^ Int.toNat k) x1)))))) (0 : Int)) ∧
 (List.getD (redN p (Prod.fst (flN p (btF t p (Int.toNat k)) (List.length t ^ Int.toNat k) x1)) (ldN (Prod.fst (flN p (btF t p (Int.toNat k)) (List.length t ^ Int.toNat k) x1))) (adF t p (digN (↑(List.length t) : Int) (Int.toNat k) (↑x1 : Int)) (1 : Int) (List.replicate (Int.toNat (↑(List.length c) : Int)) (0 : Int)) (List.length (digN (↑(List.length t) : Int) (Int.toNat k) (↑x1 : Int)))) (List.length (Prod.fst (flN p (btF t p (Int.toNat k)) (List.length t ^ Int.toNat k) x1)))) (Int.toNat (ldF (redN p (Prod.fst (flN p (btF t p (Int.toNat k)) (List.length t ^ Int.toNat k) x1)) (ldN (Prod.fst (flN p (btF t p (Int.toNat k)) (List.length t ^ Int.toNat k) x1))) (adF t p (digN (↑(List.length t) : Int) (Int.toNat k) (↑x1 : Int)) (1 : Int) (List.replicate (Int.toNat (↑(List.length c) : Int)) (0 : Int)) (List.length (digN (↑(List.length t) : Int) (Int.toNat k) (↑x1 : Int)))) (List.length (Prod.fst (flN p (btF t p (Int.toNat k)) (List.length t ^ Int.toNat k) x1)))))) (0 : Int) ≤ p - (1 : Int)))) ∧
 (True)) ∧
 (((((2 : Int) ≤ p) ∧
 ((p ≤ (7 : Int)) ∧
 ((inP p (redN p (Prod.fst (flN p (btF t p (Int.toNat k)) (List.length t ^ Int.toNat k) x1)) (ldN (Prod.fst (flN p (btF t p (Int.toNat k)) (List.length t ^ Int.toNat k) x1))) (adF t p (digN (↑(List.length t) : Int) (Int.toNat k) (↑x1 : Int)) (1 : Int) (List.replicate (Int.toNat (↑(List.length c) : Int)) (0 : Int)) (List.length (digN (↑(List.length t) : Int) (Int.toNat k) (↑x1 : Int)))) (List.length (Prod.fst (flN p (btF t p (Int.toNat k)) (List.length t ^ Int.toNat k) x1))))) ∧
 ((List.length (redN p (Prod.fst (flN p (btF t p (Int.toNat k)) (List.length t ^ Int.toNat k) x1)) (ldN (Prod.fst (flN p (btF t p (Int.toNat k)) (List.length t ^ Int.toNat k) x1))) (adF t p (digN (↑(List.length t) : Int) (Int.toNat k) (↑x1 : Int)) (1 : Int) (List.replicate (Int.toNat (↑(List.length c) : Int)) (0 : Int)) (List.length (digN (↑(List.length t) : Int) (Int.toNat k) (↑x1 : Int)))) (List.length (Prod.fst (flN p (btF t p (Int.toNat k)) (List.length t ^ Int.toNat k) x1)))) ≤ (1000 : Nat)) ∧
 (((0 : Int) ≤ ivM p (List.getD (redN p (Prod.fst (flN p (btF t p (Int.toNat k)) (List.length t ^ Int.toNat k) x1)) (ldN (Prod.fst (flN p (btF t p (Int.toNat k)) (List.length t ^ Int.toNat k) x1))) (adF t p (digN (↑(List.length t) : Int) (Int.toNat k) (↑x1 : Int)) (1 : Int) (List.replicate (Int.toNat (↑(List.length c) : Int)) (0 : Int)) (List.length (digN (↑(List.length t) : Int) (Int.toNat k) (↑x1 : Int)))) (List.length (Prod.fst (flN p (btF t p (Int.toNat k)) (List.length t ^ Int.toNat k) x1)))) (Int.toNat (ldF (redN p (Prod.fst (flN p (btF t p (Int.toNat k)) (List.length t ^ Int.toNat k) x1)) (ldN (Prod.fst (flN p (btF t p (Int.toNat k)) (List.length t ^ Int.toNat k) x1))) (adF t p (digN (↑(List.length t) : Int) (Int.toNat k) (↑x1 : Int)) (1 : Int) (List.replicate (Int.toNat (↑(List.length c) : Int)) (0 : Int)) (List.length (digN (↑(List.length t) : Int) (Int.toNat k) (↑x1 : Int)))) (List.length (Prod.fst (flN p (btF t p (Int.toNat k)) (List.length t ^ Int.toNat k) x1)))))) (0 : Int))) ∧
 (ivM p (List.getD (redN p (Prod.fst (flN p (btF t p (Int.toNat k)) (List.length t ^ Int.toNat k) x1)) (ldN (Prod.fst (flN p (btF t p (Int.toNat k)) (List.length t ^ Int.toNat k) x1))) (adF t p (digN (↑(List.length t) : Int) (Int.toNat k) (↑x1 : Int)) (1 : Int) (List.replicate (Int.toNat (↑(List.length c) : Int)) (0 : Int)) (List.length (digN (↑(List.length t) : Int) (Int.toNat k) (↑x1 : Int)))) (List.length (Prod.fst (flN p (btF t p (Int.toNat k)) (List.length t ^ Int.toNat k) x1)))) (Int.toNat (ldF (redN p (Prod.fst (flN p (btF t p (Int.toNat k)) (List.length t ^ Int.toNat k) x1)) (ldN (Prod.fst (flN p (btF t p (Int.toNat k)) (List.length t ^ Int.toNat k) x1))) (adF t p (digN (↑(List.length t) : Int) (Int.toNat k) (↑x1 : Int)) (1 : Int) (List.replicate (Int.toNat (↑(List.length c) : Int)) (0 : Int)) (List.length (digN (↑(List.length t) : Int) (Int.toNat k) (↑x1 : Int)))) (List.length (Prod.fst (flN p (btF t p (Int.toNat k)) (List.length t ^ Int.toNat k) x1)))))) (0 : Int)) ≤ (7 : Int))))))) ∧
 ((List.length (scF p (ivM p (List.getD (redN p (Prod.fst (flN p (btF t p (Int.toNat k)) (List.length t ^ Int.toNat k) x1)) (ldN (Prod.fst (flN p (btF t p (Int.toNat k)) (List.length t ^ Int.toNat k) x1))) (adF t p (digN (↑(List.length t) : Int) (Int.toNat k) (↑x1 : Int)) (1 : Int) (List.replicate (Int.toNat (↑(List.length c) : Int)) (0 : Int)) (List.length (digN (↑(List.length t) : Int) (Int.toNat k) (↑x1 : Int)))) (List.length (Prod.fst (flN p (btF t p (Int.toNat k)) (List.length t ^ Int.toNat k) x1)))) (Int.toNat (ldF (redN p (Prod.fst (flN p (btF t p (Int.toNat k)) (List.length t ^ Int.toNat k) x1)) (ldN (Prod.fst (flN p (btF t p (Int.toNat k)) (List.length t ^ Int.toNat k) x1))) (adF t p (digN (↑(List.length t) : Int) (Int.toNat k) (↑x1 : Int)) (1 : Int) (List.replicate (Int.toNat (↑(List.length c) : Int)) (0 : Int)) (List.length (digN (↑(List.length t) : Int) (Int.toNat k) (↑x1 : Int)))) (List.length (Prod.fst (flN p (btF t p (Int.toNat k)) (List.length t ^ Int.toNat k) x1)))))) (0 : Int))) (redN p (Prod.fst (flN p (btF t p (Int.toNat k)) (List.length t ^ Int.toNat k) x1)) (ldN (Prod.fst (flN p (btF t p (Int.toNat k)) (List.length t ^ Int.toNat k) x1))) (adF t p (digN (↑(List.length t) : Int) (Int.toNat k) (↑x1 : Int)) (1 : Int) (List.replicate (Int.toNat (↑(List.length c) : Int)) (0 : Int)) (List.length (digN (↑(List.length t) : Int) (Int.toNat k) (↑x1 : Int)))) (List.length (Prod.fst (flN p (btF t p (Int.toNat k)) (List.length t ^ Int.toNat k) x1))))) = List.length (redN p (Prod.fst (flN p (btF t p (Int.toNat k)) (List.length t ^ Int.toNat k) x1)) (ldN (Prod.fst (flN p (btF t p (Int.toNat k)) (List.length t ^ Int.toNat k) x1))) (adF t p (digN (↑(List.length t) : Int) (Int.toNat k) (↑x1 : Int)) (1 : Int) (List.replicate (Int.toNat (↑(List.length c) : Int)) (0 : Int)) (List.length (digN (↑(List.length t) : Int) (Int.toNat k) (↑x1 : Int)))) (List.length (Prod.fst (flN p (btF t p (Int.toNat k)) (List.length t ^ Int.toNat k) x1))))) ∧
 (True))) ∧
 (((((2 : Int) ≤ p) ∧
 ((p ≤ (7 : Int)) ∧
 ((inP p (srcN p (Prod.fst (flN p (btF t p (Int.toNat k)) (List.length t ^ Int.toNat k) x1)) (Prod.snd (flN p (btF t p (Int.toNat k)) (List.length t ^ Int.toNat k) x1)) (ldN (Prod.fst (flN p (btF t p (Int.toNat k)) (List.length t ^ Int.toNat k) x1))) (adF t p (digN (↑(List.length t) : Int) (Int.toNat k) (↑x1 : Int)) (1 : Int) (List.replicate (Int.toNat (↑(List.length c) : Int)) (0 : Int)) (List.length (digN (↑(List.length t) : Int) (Int.toNat k) (↑x1 : Int)))) (List.set (List.replicate (Int.toNat (↑(List.length t ^ Int.toNat k) : Int)) (0 : Int)) (Int.toNat (↑x1 : Int)) (1 : Int)) (List.length (Prod.fst (flN p (btF t p (Int.toNat k)) (List.length t ^ Int.toNat k) x1))))) ∧
 ((List.length (srcN p (Prod.fst (flN p (btF t p (Int.toNat k)) (List.length t ^ Int.toNat k) x1)) (Prod.snd (flN p (btF t p (Int.toNat k)) (List.length t ^ Int.toNat k) x1)) (ldN (Prod.fst (flN p (btF t p (Int.toNat k)) (List.length t ^ Int.toNat k) x1))) (adF t p (digN (↑(List.length t) : Int) (Int.toNat k) (↑x1 : Int)) (1 : Int) (List.replicate (Int.toNat (↑(List.length c) : Int)) (0 : Int)) (List.length (digN (↑(List.length t) : Int) (Int.toNat k) (↑x1 : Int)))) (List.set (List.replicate (Int.toNat (↑(List.length t ^ Int.toNat k) : Int)) (0 : Int)) (Int.toNat (↑x1 : Int)) (1 : Int)) (List.length (Prod.fst (flN p (btF t p (Int.toNat k)) (List.length t ^ Int.toNat k) x1)))) ≤ (1000 : Nat)) ∧
 (((0 : Int) ≤ ivM p (List.getD (redN p (Prod.fst (flN p (btF t p (Int.toNat k)) (List.length t ^ Int.toNat k) x1)) (ldN (Prod.fst (flN p (btF t p (Int.toNat k)) (List.length t ^ Int.toNat k) x1))) (adF t p (digN (↑(List.length t) : Int) (Int.toNat k) (↑x1 : Int)) (1 : Int) (List.replicate (Int.toNat (↑(List.length c) : Int)) (0 : Int)) (List.length (digN (↑(List.length t) : Int) (Int.toNat k) (↑x1 : Int)))) (List.length (Prod.fst (flN p (btF t p (Int.toNat k)) (List.length t ^ Int.toNat k) x1)))) (Int.toNat (ldF (redN p (Prod.fst (flN p (btF t p (Int.toNat k)) (List.length t ^ Int.toNat k) x1)) (ldN (Prod.fst (flN p (btF t p (Int.toNat k)) (List.length t ^ Int.toNat k) x1))) (adF t p (digN (↑(List.length t) : Int) (Int.toNat k) (↑x1 : Int)) (1 : Int) (List.replicate (Int.toNat (↑(List.length c) : Int)) (0 : Int)) (List.length (digN (↑(List.length t) : Int) (Int.toNat k) (↑x1 : Int)))) (List.length (Prod.fst (flN p (btF t p (Int.toNat k)) (List.length t ^ Int.toNat k) x1)))))) (0 : Int))) ∧
 (ivM p (List.getD (redN p (Prod.fst (flN p (btF t p (Int.toNat k)) (List.length t ^ Int.toNat k) x1)) (ldN (Prod.fst (flN p (btF t p (Int.toNat k)) (List.length t ^ Int.toNat k) x1))) (adF t p (digN (↑(List.length t) : Int) (Int.toNat k) (↑x1 : Int)) (1 : Int) (List.replicate (Int.toNat (↑(List.length c) : Int)) (0 : Int)) (List.length (digN (↑(List.length t) : Int) (Int.toNat k) (↑x1 : Int)))) (List.length (Prod.fst (flN p (btF t p (Int.toNat k)) (List.length t ^ Int.toNat k) x1)))) (Int.toNat (ldF (redN p (Prod.fst (flN p (btF t p (Int.toNat k)) (List.length t ^ Int.toNat k) x1)) (ldN (Prod.fst (flN p (btF t p (Int.toNat k)) (List.length t ^ Int.toNat k) x1))) (adF t p (digN (↑(List.length t) : Int) (Int.toNat k) (↑x1 : Int)) (1 : Int) (List.replicate (Int.toNat (↑(List.length c) : Int)) (0 : Int)) (List.length (digN (↑(List.length t) : Int) (Int.toNat k) (↑x1 : Int)))) (List.length (Prod.fst (flN p (btF t p (Int.toNat k)) (List.length t ^ Int.toNat k) x1)))))) (0 : Int)) ≤ (7 : Int))))))) ∧
 ((List.length (scF p (ivM p (List.getD (redN p (Prod.fst (flN p (btF t p (Int.toNat k)) (List.length t ^ Int.toNat k) x1)) (ldN (Prod.fst (flN p (btF t p (Int.toNat k)) (List.length t ^ Int.toNat k) x1))) (adF t p (digN (↑(List.length t) : Int) (Int.toNat k) (↑x1 : Int)) (1 : Int) (List.replicate (Int.toNat (↑(List.length c) : Int)) (0 : Int)) (List.length (digN (↑(List.length t) : Int) (Int.toNat k) (↑x1 : Int)))) (List.length (Prod.fst (flN p (btF t p (Int.toNat k)) (List.length t ^ Int.toNat k) x1)))) (Int.toNat (ldF (redN p (Prod.fst (flN p (btF t p (Int.toNat k)) (List.length t ^ Int.toNat k) x1)) (ldN (Prod.fst (flN p (btF t p (Int.toNat k)) (List.length t ^ Int.toNat k) x1))) (adF t p (digN (↑(List.length t) : Int) (Int.toNat k) (↑x1 : Int)) (1 : Int) (List.replicate (Int.toNat (↑(List.length c) : Int)) (0 : Int)) (List.length (digN (↑(List.length t) : Int) (Int.toNat k) (↑x1 : Int)))) (List.length (Prod.fst (flN p (btF t p (Int.toNat k)) (List.length t ^ Int.toNat k) x1)))))) (0 : Int))) (srcN p (Prod.fst (flN p (btF t p (Int.toNat k)) (List.length t ^ Int.toNat k) x1)) (Prod.snd (flN p (btF t p (Int.toNat k)) (List.length t ^ Int.toNat k) x1)) (ldN (Prod.fst (flN p (btF t p (Int.toNat k)) (List.length t ^ Int.toNat k) x1))) (adF t p (digN (↑(List.length t) : Int) (Int.toNat k) (↑x1 : Int)) (1 : Int) (List.replicate (Int.toNat (↑(List.length c) : Int)) (0 : Int)) (List.length (digN (↑(List.length t) : Int) (Int.toNat k) (↑x1 : Int)))) (List.set (List.replicate (Int.toNat (↑(List.length t ^ Int.toNat k) : Int)) (0 : Int)) (Int.toNat (↑x1 : Int)) (1 : Int)) (List.length (Prod.fst (flN p (btF t p (Int.toNat k)) (List.length t ^ Int.toNat k) x1))))) = List.length (srcN p (Prod.fst (flN p (btF t p (Int.toNat k)) (List.length t ^ Int.toNat k) x1)) (Prod.snd (flN p (btF t p (Int.toNat k)) (List.length t ^ Int.toNat k) x1)) (ldN (Prod.fst (flN p (btF t p (Int.toNat k)) (List.length t ^ Int.toNat k) x1))) (adF t p (digN (↑(List.length t) : Int) (Int.toNat k) (↑x1 : Int)) (1 : Int) (List.replicate (Int.toNat (↑(List.length c) : Int)) (0 : Int)) (List.length (digN (↑(List.length t) : Int) (Int.toNat k) (↑x1 : Int)))) (List.set (List.replicate (Int.toNat (↑(List.length t ^ Int.toNat k) : Int)) (0 : Int)) (Int.toNat (↑x1 : Int)) (1 : Int)) (List.length (Prod.fst (flN p (btF t p (Int.toNat k)) (List.length t ^ Int.toNat k) x1))))) ∧
 (True))) ∧
 ((room (List.length (Prod.fst (flN p (btF t p (Int.toNat k)) (List.length t ^ Int.toNat k) x1)) + List.length [scF p (ivM p (List.getD (redN p (Prod.fst (flN p (btF t p (Int.toNat k)) (List.length t ^ Int.toNat k) x1)) (ldN (Prod.fst (flN p (btF t p (Int.toNat k)) (List.length t ^ Int.toNat k) x1))) (adF t p (digN (↑(List.length t) : Int) (Int.toNat k) (↑x1 : Int)) (1 : Int) (List.replicate (Int.toNat (↑(List.length c) : Int)) (0 : Int)) (List.length (digN (↑(List.length t) : Int) (Int.toNat k) (↑x1 : Int)))) (List.length (Prod.fst (flN p (btF t p (Int.toNat k)) (List.length t ^ Int.toNat k) x1)))) (Int.toNat (ldF (redN p (Prod.fst (flN p (btF t p (Int.toNat k)) (List.length t ^ Int.toNat k) x1)) (ldN (Prod.fst (flN p (btF t p (Int.toNat k)) (List.length t ^ Int.toNat k) x1))) (adF t p (digN (↑(List.length t) : Int) (Int.toNat k) (↑x1 : Int)) (1 : Int) (List.replicate (Int.toNat (↑(List.length c) : Int)) (0 : Int)) (List.length (digN (↑(List.length t) : Int) (Int.toNat k) (↑x1 : Int)))) (List.length (Prod.fst (flN p (btF t p (Int.toNat k)) (List.length t ^ Int.toNat k) x1)))))) (0 : Int))) (redN p (Prod.fst (flN p (btF t p (Int.toNat k)) (List.length t ^ Int.toNat k) x1)) (ldN (Prod.fst (flN p (btF t p (Int.toNat k)) (List.length t ^ Int.toNat k) x1))) (adF t p (digN (↑(List.length t) : Int) (Int.toNat k) (↑x1 : Int)) (1 : Int) (List.replicate (Int.toNat (↑(List.length c) : Int)) (0 : Int)) (List.length (digN (↑(List.length t) : Int) (Int.toNat k) (↑x1 : Int)))) (List.length (Prod.fst (flN p (btF t p (Int.toNat k)) (List.length t ^ Int.toNat k) x1))))])) ∧
 ((room (List.length (Prod.snd (flN p (btF t p (Int.toNat k)) (List.length t ^ Int.toNat k) x1)) + List.length [scF p (ivM p (List.getD (redN p (Prod.fst (flN p (btF t p (Int.toNat k)) (List.length t ^ Int.toNat k) x1)) (ldN (Prod.fst (flN p (btF t p (Int.toNat k)) (List.length t ^ Int.toNat k) x1))) (adF t p (digN (↑(List.length t) : Int) (Int.toNat k) (↑x1 : Int)) (1 : Int) (List.replicate (Int.toNat (↑(List.length c) : Int)) (0 : Int)) (List.length (digN (↑(List.length t) : Int) (Int.toNat k) (↑x1 : Int)))) (List.length (Prod.fst (flN p (btF t p (Int.toNat k)) (List.length t ^ Int.toNat k) x1)))) (Int.toNat (ldF (redN p (Prod.fst (flN p (btF t p (Int.toNat k)) (List.length t ^ Int.toNat k) x1)) (ldN (Prod.fst (flN p (btF t p (Int.toNat k)) (List.length t ^ Int.toNat k) x1))) (adF t p (digN (↑(List.length t) : Int) (Int.toNat k) (↑x1 : Int)) (1 : Int) (List.replicate (Int.toNat (↑(List.length c) : Int)) (0 : Int)) (List.length (digN (↑(List.length t) : Int) (Int.toNat k) (↑x1 : Int)))) (List.length (Prod.fst (flN p (btF t p (Int.toNat k)) (List.length t ^ Int.toNat k) x1)))))) (0 : Int))) (srcN p (Prod.fst (flN p (btF t p (Int.toNat k)) (List.length t ^ Int.toNat k) x1)) (Prod.snd (flN p (btF t p (Int.toNat k)) (List.length t ^ Int.toNat k) x1)) (ldN (Prod.fst (flN p (btF t p (Int.toNat k)) (List.length t ^ Int.toNat k) x1))) (adF t p (digN (↑(List.length t) : Int) (Int.toNat k) (↑x1 : Int)) (1 : Int) (List.replicate (Int.toNat (↑(List.length c) : Int)) (0 : Int)) (List.length (digN (↑(List.length t) : Int) (Int.toNat k) (↑x1 : Int)))) (List.set (List.replicate (Int.toNat (↑(List.length t ^ Int.toNat k) : Int)) (0 : Int)) (Int.toNat (↑x1 : Int)) (1 : Int)) (List.length (Prod.fst (flN p (btF t p (Int.toNat k)) (List.length t ^ Int.toNat k) x1))))])) ∧
 ((InR ((↑x1 : Int) + (1 : Int))) ∧
 (∃ x2 : Nat, ((x2 ≤ List.length t ^ Int.toNat k) ∧
 ((List.length t ^ Int.toNat k - x2 < List.length t ^ Int.toNat k - x1) ∧
 ((t = t) ∧
 ((k = k) ∧
 ((c = c) ∧
 (((↑(List.length t) : Int) = (↑(List.length t) : Int)) ∧
 (((↑(List.length t ^ Int.toNat k) : Int) = (↑(List.length t ^ Int.toNat k) : Int)) ∧
 (((↑(List.length t ^ Int.toNat k) : Int) = (↑(List.length t ^ Int.toNat k) : Int)) ∧
 (((↑x1 : Int) + (1 : Int) = (↑x2 : Int)) ∧
 ((p = p) ∧
 ((Prod.fst (flN p (btF t p (Int.toNat k)) (List.length t ^ Int.toNat k) x1) ++ [scF p (ivM p (List.getD (redN p (Prod.fst (flN p (btF t p (Int.toNat k)) (List.length t ^ Int.toNat k) x1)) (ldN (Prod.fst (flN p (btF t p (Int.toNat k)) (List.length t ^ Int.toNat k) x1))) (adF t p (digN (↑(List.length t) : Int) (Int.toNat k) (↑x1 : Int)) (1 : Int) (List.replicate (Int.toNat (↑(List.length c) : Int)) (0 : Int)) (List.length (digN (↑(List.length t) : Int) (Int.toNat k) (↑x1 : Int)))) (List.length (Prod.fst (flN p (btF t p (Int.toNat k)) (List.length t ^ Int.toNat k) x1)))) (Int.toNat (ldF (redN p (Prod.fst (flN p (btF t p (Int.toNat k)) (List.length t ^ Int.toNat k) x1)) (ldN (Prod.fst (flN p (btF t p (Int.toNat k)) (List.length t ^ Int.toNat k) x1))) (adF t p (digN (↑(List.length t) : Int) (Int.toNat k) (↑x1 : Int)) (1 : Int) (List.replicate (Int.toNat (↑(List.length c) : Int)) (0 : Int)) (List.length (digN (↑(List.length t) : Int) (Int.toNat k) (↑x1 : Int)))) (List.length (Prod.fst (flN p (btF t p (Int.toNat k)) (List.length t ^ Int.toNat k) x1)))))) (0 : Int))) (redN p (Prod.fst (flN p (btF t p (Int.toNat k)) (List.length t ^ Int.toNat k) x1)) (ldN (Prod.fst (flN p (btF t p (Int.toNat k)) (List.length t ^ Int.toNat k) x1))) (adF t p (digN (↑(List.length t) : Int) (Int.toNat k) (↑x1 : Int)) (1 : Int) (List.replicate (Int.toNat (↑(List.length c) : Int)) (0 : Int)) (List.length (digN (↑(List.length t) : Int) (Int.toNat k) (↑x1 : Int)))) (List.length (Prod.fst (flN p (btF t p (Int.toNat k)) (List.length t ^ Int.toNat k) x1))))] = Prod.fst (flN p (btF t p (Int.toNat k)) (List.length t ^ Int.toNat k) x2)) ∧
 (Prod.snd (flN p (btF t p (Int.toNat k)) (List.length t ^ Int.toNat k) x1) ++ [scF p (ivM p (List.getD (redN p (Prod.fst (flN p (btF t p (Int.toNat k)) (List.length t ^ Int.toNat k) x1)) (ldN (Prod.fst (flN p (btF t p (Int.toNat k)) (List.length t ^ Int.toNat k) x1))) (adF t p (digN (↑(List.length t) : Int) (Int.toNat k) (↑x1 : Int)) (1 : Int) (List.replicate (Int.toNat (↑(List.length c) : Int)) (0 : Int)) (List.length (digN (↑(List.length t) : Int) (Int.toNat k) (↑x1 : Int)))) (List.length (Prod.fst (flN p (btF t p (Int.toNat k)) (List.length t ^ Int.toNat k) x1)))) (Int.toNat (ldF (redN p (Prod.fst (flN p (btF t p (Int.toNat k)) (List.length t ^ Int.toNat k) x1)) (ldN (Prod.fst (flN p (btF t p (Int.toNat k)) (List.length t ^ Int.toNat k) x1))) (adF t p (digN (↑(List.length t) : Int) (Int.toNat k) (↑x1 : Int)) (1 : Int) (List.replicate (Int.toNat (↑(List.length c) : Int)) (0 : Int)) (List.length (digN (↑(List.length t) : Int) (Int.toNat k) (↑x1 : Int)))) (List.length (Prod.fst (flN p (btF t p (Int.toNat k)) (List.length t ^ Int.toNat k) x1)))))) (0 : Int))) (srcN p (Prod.fst (flN p (btF t p (Int.toNat k)) (List.length t ^ Int.toNat k) x1)) (Prod.snd (flN p (btF t p (Int.toNat k)) (List.length t ^ Int.toNat k) x1)) (ldN (Prod.fst (flN p (btF t p (Int.toNat k)) (List.length t ^ Int.toNat k) x1))) (adF t p (digN (↑(List.length t) : Int) (Int.toNat k) (↑x1 : Int)) (1 : Int) (List.replicate (Int.toNat (↑(List.length c) : Int)) (0 : Int)) (List.length (digN (↑(List.length t) : Int) (Int.toNat k) (↑x1 : Int)))) (List.set (List.replicate (Int.toNat (↑(List.length t ^ Int.toNat k) : Int)) (0 : Int)) (Int.toNat (↑x1 : Int)) (1 : Int)) (List.length (Prod.fst (flN p (btF t p (Int.toNat k)) (List.length t ^ Int.toNat k) x1))))] = Prod.snd (flN p (btF t p (Int.toNat k)) (List.length t ^ Int.toNat k) x2)))))))))))))))))))))
 ((InR ((↑x1 : Int) + (1 : Int))) ∧
 (∃ x3 : Nat, ((x3 ≤ List.length t ^ Int.toNat k) ∧
 ((List.length t ^ Int.toNat k - x3 < List.length t ^ Int.toNat k - x1) ∧
 ((t = t) ∧
 ((k = k) ∧
 ((c = c) ∧
 (((↑(List.length t) : Int) = (↑(List.length t) : Int)) ∧
 (((↑(List.length t ^ Int.toNat k) : Int) = (↑(List.length t ^ Int.toNat k) : Int)) ∧
 (((↑(List.length t ^ Int.toNat k) : Int) = (↑(List.length t ^ Int.toNat k) : Int)) ∧
 (((↑x1 : Int) + (1 : Int) = (↑x3 : Int)) ∧
 ((p = p) ∧
 ((Prod.fst (flN p (btF t p (Int.toNat k)) (List.length t ^ Int.toNat k) x1) = Prod.fst (flN p (btF t p (Int.toNat k)) (List.length t ^ Int.toNat k) x3)) ∧
 (Prod.snd (flN p (btF t p (Int.toNat k)) (List.length t ^ Int.toNat k) x1) = Prod.snd (flN p (btF t p (Int.toNat k)) (List.length t ^ Int.toNat k) x3)))))))))))))))))))))))
 ((((List.length c ≠ (0 : Nat)) ∧
 (room (List.length c))) ∧
 (True)) ∧
 ((((0 : Int) ≤ (↑(List.length t ^ Int.toNat k) : Int)) ∧
 (((↑(List.length t ^ Int.toNat k) : Int) ≤ (↑(List.length t ^ Int.toNat k) : Int)) ∧
 (room (Int.toNat (↑(List.length t ^ Int.toNat k) : Int))))) ∧
 ((((primeB p = Bool.true) ∧
 ((∃ (N : Nat), ∃ (M : Nat), FlOk p N M (Prod.fst (flN p (btF t p (Int.toNat k)) (List.length t ^ Int.toNat k) x1)) (Prod.snd (flN p (btF t p (Int.toNat k)) (List.length t ^ Int.toNat k) x1)) ∧ rwP p N c ∧ rwP p M (List.replicate (Int.toNat (↑(List.length t ^ Int.toNat k) : Int)) (0 : Int)) ∧ N ≤ (512 : Nat) ∧ M ≤ (512 : Nat)) ∧
 (List.length (Prod.fst (flN p (btF t p (Int.toNat k)) (List.length t ^ Int.toNat k) x1)) ≤ (512 : Nat)))) ∧
 ((List.length (redN p (Prod.fst (flN p (btF t p (Int.toNat k)) (List.length t ^ Int.toNat k) x1)) (ldN (Prod.fst (flN p (btF t p (Int.toNat k)) (List.length t ^ Int.toNat k) x1))) c (List.length (Prod.fst (flN p (btF t p (Int.toNat k)) (List.length t ^ Int.toNat k) x1)))) = List.length c) ∧
 ((List.length (srcN p (Prod.fst (flN p (btF t p (Int.toNat k)) (List.length t ^ Int.toNat k) x1)) (Prod.snd (flN p (btF t p (Int.toNat k)) (List.length t ^ Int.toNat k) x1)) (ldN (Prod.fst (flN p (btF t p (Int.toNat k)) (List.length t ^ Int.toNat k) x1))) c (List.replicate (Int.toNat (↑(List.length t ^ Int.toNat k) : Int)) (0 : Int)) (List.length (Prod.fst (flN p (btF t p (Int.toNat k)) (List.length t ^ Int.toNat k) x1)))) = List.length (List.replicate (Int.toNat (↑(List.length t ^ Int.toNat k) : Int)) (0 : Int))) ∧
 (True)))) ∧
 (((List.length (redN p (Prod.fst (flN p (btF t p (Int.toNat k)) (List.length t ^ Int.toNat k) x1)) (ldN (Prod.fst (flN p (btF t p (Int.toNat k)) (List.length t ^ Int.toNat k) x1))) c (List.length (Prod.fst (flN p (btF t p (Int.toNat k)) (List.length t ^ Int.toNat k) x1)))) ≤ (1000 : Nat)) ∧
 (True)) ∧
 (BrP (Decidable.decide ((0 : Int) ≤ ldF (redN p (Prod.fst (flN p (btF t p (Int.toNat k)) (List.length t ^ Int.toNat k) x1)) (ldN (Prod.fst (flN p (btF t p (Int.toNat k)) (List.length t ^ Int.toNat k) x1))) c (List.length (Prod.fst (flN p (btF t p (Int.toNat k)) (List.length t ^ Int.toNat k) x1))))))
 ((([] = Prod.fst (flV t p (Int.toNat k) c)) ∧
 ((Bool.false = Prod.snd (flV t p (Int.toNat k) c)) ∧
 (True))) ∧
 (True))
 ((∃ x4 : Nat, (((x4 ≤ List.length t ^ Int.toNat k) ∧
 (ldF (Prod.fst (flR t p (Int.toNat k) c)) < (0 : Int))) ∧
 (((↑(List.length (srcN p (Prod.fst (flN p (btF t p (Int.toNat k)) (List.length t ^ Int.toNat k) x1)) (Prod.snd (flN p (btF t p (Int.toNat k)) (List.length t ^ Int.toNat k) x1)) (ldN (Prod.fst (flN p (btF t p (Int.toNat k)) (List.length t ^ Int.toNat k) x1))) c (List.replicate (Int.toNat (↑(List.length t ^ Int.toNat k) : Int)) (0 : Int)) (List.length (Prod.fst (flN p (btF t p (Int.toNat k)) (List.length t ^ Int.toNat k) x1))))) : Int) = (↑(List.length t ^ Int.toNat k) : Int)) ∧
 (((0 : Int) = (↑x4 : Int)) ∧
 ((p = p) ∧
 (srcN p (Prod.fst (flN p (btF t p (Int.toNat k)) (List.length t ^ Int.toNat k) x1)) (Prod.snd (flN p (btF t p (Int.toNat k)) (List.length t ^ Int.toNat k) x1)) (ldN (Prod.fst (flN p (btF t p (Int.toNat k)) (List.length t ^ Int.toNat k) x1))) c (List.replicate (Int.toNat (↑(List.length t ^ Int.toNat k) : Int)) (0 : Int)) (List.length (Prod.fst (flN p (btF t p (Int.toNat k)) (List.length t ^ Int.toNat k) x1))) = List.take x4 (ngF p (Prod.snd (flR t p (Int.toNat k) c))) ++ List.drop x4 (Prod.snd (flR t p (Int.toNat k) c)))))))) ∧
 (∀ x5 : Nat, (((x5 ≤ List.length t ^ Int.toNat k) ∧
 (ldF (Prod.fst (flR t p (Int.toNat k) c)) < (0 : Int))) →
 (BrP (Decidable.decide ((↑x5 : Int) < (↑(List.length t ^ Int.toNat k) : Int)))
 ((inB (↑x5 : Int) (List.length (List.take x5 (ngF p (Prod.snd (flR t p (Int.toNat k) c))) ++ List.drop x5 (Prod.snd (flR t p (Int.toNat k) c))))) ∧
 ((InR (p - List.getD (List.take x5 (ngF p (Prod.snd (flR t p (Int.toNat k) c))) ++ List.drop x5 (Prod.snd (flR t p (Int.toNat k) c))) (Int.toNat (↑x5 : Int)) (0 : Int))) ∧
 ((p ≠ (0 : Int)) ∧
 ((inB (↑x5 : Int) (List.length (List.take x5 (ngF p (Prod.snd (flR t p (Int.toNat k) c))) ++ List.drop x5 (Prod.snd (flR t p (Int.toNat k) c))))) ∧
 ((InR ((↑x5 : Int) + (1 : Int))) ∧
 (∃ x6 : Nat, (((x6 ≤ List.length t ^ Int.toNat k) ∧
 (ldF (Prod.fst (flR t p (Int.toNat k) c)) < (0 : Int))) ∧
 ((List.length t ^ Int.toNat k - x6 < List.length t ^ Int.toNat k - x5) ∧
 (((↑(List.length t ^ Int.toNat k) : Int) = (↑(List.length t ^ Int.toNat k) : Int)) ∧
 (((↑x5 : Int) + (1 : Int) = (↑x6 : Int)) ∧
 ((p = p) ∧
 (List.set (List.take x5 (ngF p (Prod.snd (flR t p (Int.toNat k) c))) ++ List.drop x5 (Prod.snd (flR t p (Int.toNat k) c))) (Int.toNat (↑x5 : Int)) (Int.tmod (p - List.getD (List.take x5 (ngF p (Prod.snd (flR t p (Int.toNat k) c))) ++ List.drop x5 (Prod.snd (flR t p (Int.toNat k) c))) (Int.toNat (↑x5 : Int)) (0 : Int)) p) = List.take x6 (ngF p (Prod.snd (flR t p (Int.toNat k) c))) ++ List.drop x6 (Prod.snd (flR t p (Int.toNat k) c))))))))))))))
 (((List.take x5 (ngF p (Prod.snd (flR t p (Int.toNat k) c))) ++ List.drop x5 (Prod.snd (flR t p (Int.toNat k) c)) = Prod.fst (flV t p (Int.toNat k) c)) ∧
 ((Bool.true = Prod.snd (flV t p (Int.toNat k) c)) ∧
 (True))) ∧
 (True))))))))))))))))
theorem fillingOf_vc (t : List (List Int)) (p : Int) (k : Int) (c : List Int) : runF Try.prog (gam fillingOf_G) noWr (fillingOf_ann t p k c) Try.f63 (bodyOf Try.f63) [] [.c (.rows .i64 (t)), .c (.int .i64 (p)), .c (.int .i64 (k)), .c (.ints .i64 (c))] (fillingOf_p t p k c) = fillingOf_V t p k c := by kernel_rfl
theorem fillingOf_ok (t : List (List Int)) (p : Int) (k : Int) (c : List Int) (hpre : (fillingOf_p t p k c).pre) : fillingOf_V t p k c := by
  simp only [fillingOf_p, fillingOf_V, BrP_iff, true_and, and_true, decide_eq_true_eq, decide_eq_false_iff_not, bne_iff_ne, beq_iff_eq, bne_eq_false_iff_eq, beq_eq_false_iff_ne, Bool.not_eq_true, Bool.not_eq_false, Bool.not_true, Bool.not_false, Bool.not_eq_eq_eq_not, Int.toNat_natCast, List.length_append, List.length_take, List.length_replicate, List.length_set, List.length_map, List.length_drop, List.length_nil, List.length_cons, markL_length, inB, InR, room, bdsOk] at hpre ⊢
  obtain ⟨h1, hp, hd, hk, hc⟩ := hpre
  obtain ⟨p2, p7⟩ := primeB_le hp
  obtain ⟨n1, n2, ht⟩ := tabB_of h1
  obtain ⟨k0, k1, N1, eN, N2⟩ := rk_facts h1 hd
  obtain ⟨d1, d2, _, _, d5⟩ := deg_sub h1 hk hd
  have eM : (t.length : Int) ^ (k.toNat - 1) = ((t.length ^ (k.toNat - 1) : Nat) : Int) := (Int.natCast_pow _ _).symm
  have d3 := d2
  rw [eM] at d3
  have hcl := hc.1
  have MM : 1 ≤ t.length ^ (k.toNat - 1) := Nat.pow_pos (by omega)
  have F := fun i => flN_ok hp (N := t.length ^ (k.toNat - 1)) (M := t.length ^ k.toNat) i fun j _ => btF_ok t p2 k.toNat j
  refine ⟨⟨by omega, by omega, hd⟩, ⟨0, Nat.zero_le _, eN, eN, rfl, rfl, rfl⟩, fun i hi => ⟨fun h => ?_, fun h => ?_⟩⟩
  · obtain ⟨L, G⟩ := F i
    have rp : inP p (List.replicate (t.length ^ (k.toNat - 1)) 0) := rep_in (by omega) _
    have ad := ad_zero (t := t) p2 (digN t.length k.toNat (i : Int)) k.toNat
    rw [digN_length] at ad
    have hx : bdOk t p (digN t.length k.toNat (i : Int)) := dig_ok h1 p2 p7 (by omega) d2 (by omega)
    have hr := btF_ok t p2 k.toNat i
    have hs : rwP p (t.length ^ k.toNat) (ehN (t.length ^ k.toNat) i) := ⟨ehN_length _ _, ehN_in p2 _ _⟩
    have e1 : ptF t p (digN (t.length : Int) k.toNat (i : Int)) k.toNat = btF t p k.toNat i := rfl
    have e2 : (List.replicate (t.length ^ k.toNat) (0 : Int)).set i 1 = ehN (t.length ^ k.toNat) i := rfl
    have st := flN_step p (btF t p k.toNat) (t.length ^ k.toNat) i
    simp only [hcl, digN_length, ad, e1, e2, Int.toNat_natCast]
    have r1 := (red_ok p2 G.bas hr _ (Nat.le_refl _)).1
    have s1 := srcN_ok p2 G hr hs _ (Nat.le_refl _)
    have gl := G.len
    have hr1 := hr.1
    have pre : ∃ N M, FlOk p N M (flN p (btF t p k.toNat) (t.length ^ k.toNat) i).1 (flN p (btF t p k.toNat) (t.length ^ k.toNat) i).2 ∧ rwP p N (btF t p k.toNat i) ∧ rwP p M (ehN (t.length ^ k.toNat) i) ∧ N ≤ 512 ∧ M ≤ 512 := ⟨_, _, G, hr, hs, by omega, by omega⟩
    clear F ad e1 e2
    generalize hB : (flN p (btF t p k.toNat) (t.length ^ k.toNat) i).1 = B at *
    generalize hS : (flN p (btF t p k.toNat) (t.length ^ k.toNat) i).2 = S at *
    generalize hrr : redN p B (ldN B) (btF t p k.toNat i) B.length = r at *
    generalize hss : srcN p B S (ldN B) (btF t p k.toNat i) (ehN (t.length ^ k.toNat) i) B.length = u at *
    have r11 := r1.1
    have s11 := s1.1
    refine ⟨by omega, by omega, by omega, ⟨⟨hx, by omega, by omega, rp, trivial⟩, hr1⟩, by omega, ⟨⟨hp, pre, by omega⟩, by omega, by omega⟩, by omega, fun h4 => ?_, fun h4 => ⟨by omega, i + 1, by omega, by omega, by omega, ?_, ?_⟩⟩
    · have y := ld_yes h4
      have c0 := r1.2 _ y.1
      have iv := ivM_ok hp (a := r.getD (ldF r).toNat 0) (by omega) (by omega)
      refine ⟨by omega, ⟨hp, by omega, by omega⟩, ⟨⟨p2, p7, r1.2, by omega, by omega, by omega⟩, by rw [scF, tab_length]⟩, ⟨⟨p2, p7, s1.2, by omega, by omega, by omega⟩, by rw [scF, tab_length]⟩, by omega, by omega, by omega, i + 1, by omega, by omega, by omega, ?_, ?_⟩
      · rw [st, if_pos h4]
      · rw [st, if_pos h4]
    · rw [st, if_neg h4]; exact hB.symm
    · rw [st, if_neg h4]; exact hS.symm
  · have e : i = t.length ^ k.toNat := by omega
    subst e
    obtain ⟨L, G⟩ := F (t.length ^ k.toNat)
    have hs : rwP p (t.length ^ k.toNat) (List.replicate (t.length ^ k.toNat) 0) := ⟨List.length_replicate .., rep_in (by omega) _⟩
    have r1 := (red_ok p2 G.bas hc _ (Nat.le_refl _)).1
    have s1 := srcN_ok p2 G hc hs _ (Nat.le_refl _)
    have gl := G.len
    have fr : flR t p k.toNat c = (redN p (flN p (btF t p k.toNat) (t.length ^ k.toNat) (t.length ^ k.toNat)).1 (ldN (flN p (btF t p k.toNat) (t.length ^ k.toNat) (t.length ^ k.toNat)).1) c (flN p (btF t p k.toNat) (t.length ^ k.toNat) (t.length ^ k.toNat)).1.length, srcN p (flN p (btF t p k.toNat) (t.length ^ k.toNat) (t.length ^ k.toNat)).1 (flN p (btF t p k.toNat) (t.length ^ k.toNat) (t.length ^ k.toNat)).2 (ldN (flN p (btF t p k.toNat) (t.length ^ k.toNat) (t.length ^ k.toNat)).1) c (List.replicate (t.length ^ k.toNat) 0) (flN p (btF t p k.toNat) (t.length ^ k.toNat) (t.length ^ k.toNat)).1.length) := rfl
    have pre : ∃ N M, FlOk p N M (flN p (btF t p k.toNat) (t.length ^ k.toNat) (t.length ^ k.toNat)).1 (flN p (btF t p k.toNat) (t.length ^ k.toNat) (t.length ^ k.toNat)).2 ∧ rwP p N c ∧ rwP p M (List.replicate (t.length ^ k.toNat) 0) ∧ N ≤ 512 ∧ M ≤ 512 := ⟨_, _, G, hc, hs, by omega, by omega⟩
    have fv : flV t p k.toNat c = if 0 ≤ ldF (flR t p k.toNat c).1 then ([], false) else (ngF p (flR t p k.toNat c).2, true) := rfl
    clear F
    generalize hB : (flN p (btF t p k.toNat) (t.length ^ k.toNat) (t.length ^ k.toNat)).1 = B at *
    generalize hS : (flN p (btF t p k.toNat) (t.length ^ k.toNat) (t.length ^ k.toNat)).2 = S at *
    generalize hrr : redN p B (ldN B) c B.length = r at *
    generalize hss : srcN p B S (ldN B) c (List.replicate (t.length ^ k.toNat) 0) B.length = u at *
    have r11 := r1.1
    have s11 := s1.1
    rw [fv, fr]
    dsimp only
    have nl := ngF_length p u
    refine ⟨by omega, by omega, ⟨⟨hp, pre, by omega⟩, by omega, by omega⟩, by omega, fun h4 => by rw [if_pos h4]; exact ⟨rfl, rfl⟩, fun h4 => ⟨⟨0, ⟨Nat.zero_le _, by omega⟩, by omega, rfl, by simp⟩, fun j ⟨hj, _⟩ => ⟨fun h5 => ?_, fun h5 => ?_⟩⟩⟩
    · have tl : ((ngF p u).take j).length = j := by rw [List.length_take]; omega
      have x := s1.2 j (by omega)
      rw [drop_cons' u 0 j (by omega), at_getD _ _ _ _ _ tl, at_set _ _ _ _ _ tl]
      refine ⟨by omega, by omega, by omega, by omega, by omega, j + 1, ⟨by omega, by omega⟩, by omega, by omega, ?_⟩
      rw [← take_snoc (ngF p u) 0 j (by omega), show (ngF p u).getD j 0 = (p - u.getD j 0).tmod p by rw [ngF, tab_getD _ _ _ (by omega)], List.append_assoc]; rfl
    · rw [if_neg (by omega)]
      rw [List.take_of_length_le (by omega), List.drop_of_length_le (by omega), List.append_nil]
      exact ⟨rfl, rfl⟩
theorem fillingOf_fits : Fits Try.prog 63 ⟨[], fillingOf_ct⟩ := by
  refine fits_fn (Γ := gam fillingOf_G) (gok_cons tuplesOf_fits (gok_cons tupleOf_fits (gok_cons addBoundary_fits (gok_cons fillingOf1_fits (gok_cons leading_fits (gok_cons inverseModulo_fits (gok_cons scaleRow_fits (gok_cons Clone_fits gok_nil)))))))) Try.func63 (by kernel_rfl) (by kernel_rfl) (by kernel_rfl) fun ds p h hp => ?_
  unfold fillingOf_ct at h
  split at h
  · cases h
    exact ⟨noWr, fillingOf_ann _ _ _ _ , by rw [fillingOf_vc]; exact fillingOf_ok _ _ _ _  hp⟩
  · cases h

def fiB (t : List (List Int)) (p : Int) (K i : Nat) : List (List Int) := (flN p (btF t p K) (t.length ^ K) i).1
def fiS (t : List (List Int)) (p : Int) (K i : Nat) : List (List Int) := (flN p (btF t p K) (t.length ^ K) i).2
def fiP (t : List (List Int)) (p : Int) (K i : Nat) : List Int := (fiB t p K i).map ldF

theorem fiP_get {B : List (List Int)} {k : Nat} (h : k < B.length) : (B.map ldF).getD k 0 = ldF (B.getD k []) := by simp [List.getD, h]
theorem fiP_pv {B : List (List Int)} {k : Nat} (h : k < B.length) : pvN (B.map ldF) k = ldN B k := by unfold pvN ldN; rw [fiP_get h]

theorem nm_le {n k : Nat} (h1 : 1 ≤ n) (h : n ^ (k + 1) ≤ 512) : n ^ k + n ^ (k + 1) ≤ 1000 := by
  rw [Nat.pow_succ] at *
  rcases Nat.lt_or_ge n 2 with e | e
  · have : n = 1 := by omega
    subst this
    simp
  · have := Nat.mul_le_mul_left (n ^ k) e
    omega

theorem rwP_app {p : Int} {N M : Nat} {a b : List Int} (ha : rwP p N a) (hb : rwP p M b) : rwP p (N + M) (a ++ b) := by
  have h1 := ha.1
  have h2 := hb.1
  refine ⟨by simp [h1, h2], fun q hq => ?_⟩
  rw [List.length_append] at hq
  by_cases e : q < a.length
  · rw [getD_app1 _ _ e]; exact ha.2 q e
  · rw [getD_app2 _ _ (by omega)]; exact hb.2 _ (by omega)

theorem cb_at {p : Int} {N M : Nat} {B S : List (List Int)} (h : FlOk p N M B S) {j : Nat} (hj : j < B.length) :
    0 ≤ (B.map ldF).getD j 0 ∧ (B.map ldF).getD j 0 < (N : Int) ∧ ((B.map ldF).getD j 0).toNat = pvN (B.map ldF) j ∧ rwP p (N + M) ((cbL B S).getD j []) := by
  have a := h.nn j hj
  have b := h.bas.piv j hj
  unfold ldN at b
  have hl := h.len
  rw [fiP_get hj]
  refine ⟨a, by omega, ?_, ?_⟩
  · unfold pvN; rw [fiP_get hj]
  · rw [cbL_get hl hj]
    exact rwP_app (h.bas.row j hj) (h.src j (by omega))

theorem cb_ok {p : Int} {N M : Nat} {B S : List (List Int)} (hp : 2 ≤ p) (h : FlOk p N M B S) {r s : List Int} (hr : rwP p N r) (hs : rwP p M s) {j : Nat} (hj : j ≤ B.length) :
    redN p (cbL B S) (pvN (B.map ldF)) (r ++ s) j = redN p B (ldN B) r j ++ srcN p B S (ldN B) r s j ∧ rwP p (N + M) (redN p (cbL B S) (pvN (B.map ldF)) (r ++ s) j) := by
  have e := red_cb hp h (P := pvN (B.map ldF)) (fun k hk => fiP_pv hk) hr hs j hj
  refine ⟨e, ?_⟩
  rw [e]
  exact rwP_app (red_ok hp h.bas hr j hj).1 (srcN_ok hp h hr hs j hj)

theorem ld_sc {p : Int} (hp : primeB p = true) {N : Nat} {r : List Int} (hr : rwP p N r) (h : 0 ≤ ldF r) : ldF (scF p (ivM p (r.getD (ldF r).toNat 0)) r) = ldF r := by
  have n := scF_nrm hp hr h
  have y := ld_yes h
  have l := hr.1
  rw [ld_is (l := scF p (ivM p (r.getD (ldF r).toNat 0)) r) (a := (ldF r).toNat) (by rw [n.one]; decide) fun q hq => by
    by_cases hqN : q < N
    · exact n.zer q hqN (y.2.2 q hq)
    · omega]
  omega

theorem take_app {a b : List Int} {n : Nat} (h : a.length = n) : (a ++ b).take n = a := by
  subst h; exact List.take_left

/-- The answer of FillingOf. -/
def flC (t : List (List Int)) (p k : Int) (c : List Int) : List Int × Int :=
  if chC t p k c = 0 then (if degB (t.length : Int) (k + 1) = true then (if (flV t p (k + 1).toNat c).2 = true then ((flV t p (k + 1).toNat c).1, 0) else ([], 4)) else ([], 3)) else ([], chC t p k c)

def iFil_p (t : List (List Int)) (p : Int) (k : Int) (c : List Int) : Post := ⟨roomR t ∧ c.length ≤ 1099511627776, .tup [.inl (.ints 2 .i64 ((flC t p k c).1)), .inl (.int .i64 ((flC t p k c).2))], []⟩
def iFil_ct : List AD → Option Post
  | [.agg [.rows .i64 (t)], .c (.int .i64 (p)), .c (.int .i64 (k)), .c (.ints .i64 (c))] => some (iFil_p t p k c)
  | _ => none
def iFil_G : List (Nat × Ctr) := [(48, ⟨[], checkChain_ct⟩), (59, ⟨[], isDegree_ct⟩), (63, ⟨[], fillingOf_ct⟩)]
def iFil_V (t : List (List Int)) (p : Int) (k : Int) (c : List Int) : Prop :=
  ((((roomR t) ∧
 (List.length c ≤ (1099511627776 : Nat))) ∧
 (True)) ∧
 (BrP (chC t p k c != (0 : Int))
 ((([] = Prod.fst (flC t p k c)) ∧
 ((chC t p k c = Prod.snd (flC t p k c)) ∧
 (True))) ∧
 (True))
 ((InR (k + (1 : Int))) ∧
 (((((1 : Int) ≤ (↑(List.length t) : Int)) ∧
 ((↑(List.length t) : Int) ≤ (12 : Int))) ∧
 (True)) ∧
 (BrP (!degB (↑(List.length t) : Int) (k + (1 : Int)))
 ((([] = Prod.fst (flC t p k c)) ∧
 (((3 : Int) = Prod.snd (flC t p k c)) ∧
 (True))) ∧
 (True))
 ((InR (k + (1 : Int))) ∧
 ((((tabB t = Bool.true) ∧
 ((primeB p = Bool.true) ∧
 ((degB (↑(List.length t) : Int) (k + (1 : Int)) = Bool.true) ∧
 (((1 : Int) ≤ k + (1 : Int)) ∧
 (rwP p (List.length t ^ (Int.toNat (k + (1 : Int)) - (1 : Nat))) c))))) ∧
 (True)) ∧
 (BrP (!Prod.snd (flV t p (Int.toNat (k + (1 : Int))) c))
 ((([] = Prod.fst (flC t p k c)) ∧
 (((4 : Int) = Prod.snd (flC t p k c)) ∧
 (True))) ∧
 (True))
 (((Prod.fst (flV t p (Int.toNat (k + (1 : Int))) c) = Prod.fst (flC t p k c)) ∧
 (((0 : Int) = Prod.snd (flC t p k c)) ∧
 (True))) ∧
 (True))))))))))
theorem iFil_vc (t : List (List Int)) (p : Int) (k : Int) (c : List Int) : runF Try.prog (gam iFil_G) noWr noAnn Try.f28 (bodyOf Try.f28) [] [.agg [.rows .i64 (t)], .c (.int .i64 (p)), .c (.int .i64 (k)), .c (.ints .i64 (c))] (iFil_p t p k c) = iFil_V t p k c := by kernel_rfl
theorem iFil_ok (t : List (List Int)) (p : Int) (k : Int) (c : List Int) (hpre : (iFil_p t p k c).pre) : iFil_V t p k c := by
  simp only [iFil_p, iFil_V, BrP_iff, true_and, and_true, decide_eq_true_eq, decide_eq_false_iff_not, bne_iff_ne, beq_iff_eq, bne_eq_false_iff_eq, beq_eq_false_iff_ne, Bool.not_eq_true, Bool.not_eq_false, Bool.not_true, Bool.not_false, Bool.not_eq_eq_eq_not, Int.toNat_natCast, List.length_append, List.length_take, List.length_replicate, List.length_set, List.length_map, List.length_drop, List.length_nil, List.length_cons, markL_length, inB, InR, room, bdsOk] at hpre ⊢
  refine ⟨hpre, fun h => by rw [flC, if_neg h]; exact ⟨rfl, rfl⟩, fun h => ?_⟩
  obtain ⟨h1, hp, hd, hcb, _⟩ := chC_ok h
  have hT := rackB_tab h1
  obtain ⟨n1, n2, ht⟩ := tabB_of hT
  have dd := degB_of hd
  obtain ⟨ca, cb, _⟩ := chB_of hcb
  refine ⟨by omega, by omega, fun h5 => by rw [flC, if_pos h, if_neg (by rw [h5]; decide)]; exact ⟨rfl, rfl⟩, fun h5 => ⟨by omega, ⟨hT, hp, h5, by omega, by rw [show (k + 1).toNat - 1 = k.toNat by omega]; exact ⟨ca, cb⟩⟩, fun h6 => ?_, fun h6 => ?_⟩⟩
  · rw [flC, if_pos h, if_pos h5, if_neg (by rw [h6]; decide)]; exact ⟨rfl, rfl⟩
  · rw [flC, if_pos h, if_pos h5, if_pos h6]; exact ⟨rfl, rfl⟩
theorem iFil_fits : Fits Try.prog 28 ⟨[], iFil_ct⟩ := by
  refine fits_fn (Γ := gam iFil_G) (gok_cons checkChain_fits (gok_cons isDegree_fits (gok_cons fillingOf_fits gok_nil))) Try.func28 (by kernel_rfl) (by kernel_rfl) (by kernel_rfl) fun ds p h hp => ?_
  unfold iFil_ct at h
  split at h
  · cases h
    exact ⟨noWr, noAnn, by rw [iFil_vc]; exact iFil_ok _ _ _ _  hp⟩
  · cases h

def sFil_p (t : List (List Int)) (p : Int) (k : Int) (c : List Int) : Post := ⟨roomR t ∧ c.length ≤ 1099511627776, .tup [.inl (.ints 2 .i64 ((flC t p k c).1)), .inl (.int .i64 ((flC t p k c).2))], []⟩
def sFil_ct : List AD → Option Post
  | [.agg [.rows .i64 (t)], .c (.int .i64 (p)), .c (.int .i64 (k)), .c (.ints .i64 (c))] => some (sFil_p t p k c)
  | _ => none
def sFil_ann (t : List (List Int)) (p : Int) (k : Int) (c : List Int) : Nat → Option Ann
  | 0 => some (Ann.mk ((Nat)) (fun i => ⟨[(4, .c (.ptr 4 0)), (1, .c (.int .i64 (p))), (2, .c (.int .i64 (k))), (3, .c (.ro (.ints .i64 (c)))), (11, .c (.int .i64 ((t.length : Int)))), (12, .c (.int .i64 (((t.length ^ (k + 1).toNat : Nat) : Int)))), (13, .c (.own (100))), (14, .c (.own (101))), (15, .c (.int .i64 ((i : Int))))], [(4, some (.box [.ro (.rows .i64 (t))])), (100, some (.rows 0 34 2 .i64 (cbL (fiB t p (k + 1).toNat i) (fiS t p (k + 1).toNat i)))), (101, some (.ints 2 .i64 (fiP t p (k + 1).toNat i)))]⟩) (fun i => i ≤ t.length ^ (k + 1).toNat ∧ chC t p k c = 0 ∧ degB (t.length : Int) (k + 1) = true) (fun i => t.length ^ (k + 1).toNat - i) (fun i => fun b_ => match b_ with | 2 => some (Ann.mk ((Nat)) (fun j => ⟨[(4, .c (.ptr 4 0)), (1, .c (.int .i64 (p))), (2, .c (.int .i64 (k))), (3, .c (.ro (.ints .i64 (c)))), (11, .c (.int .i64 ((t.length : Int)))), (12, .c (.int .i64 (((t.length ^ (k + 1).toNat : Nat) : Int)))), (13, .c (.own (100))), (14, .c (.own (101))), (15, .c (.int .i64 ((i : Int)))), (18, .c (.own (102))), (19, .c (.int .i64 ((j : Int))))], [(4, some (.box [.ro (.rows .i64 (t))])), (100, some (.rows 0 34 2 .i64 (cbL (fiB t p (k + 1).toNat i) (fiS t p (k + 1).toNat i)))), (101, some (.ints 2 .i64 (fiP t p (k + 1).toNat i))), (102, some (.ints 2 .i64 (redN p (cbL (fiB t p (k + 1).toNat i) (fiS t p (k + 1).toNat i)) (pvN (fiP t p (k + 1).toNat i)) (btF t p (k + 1).toNat i ++ ehN (t.length ^ (k + 1).toNat) i) j)))]⟩) (fun j => j ≤ (fiB t p (k + 1).toNat i).length ∧ i < t.length ^ (k + 1).toNat ∧ chC t p k c = 0 ∧ degB (t.length : Int) (k + 1) = true) (fun j => (fiB t p (k + 1).toNat i).length - j) (fun _ => noAnn)) | _ => none))
  | 4 => some (Ann.mk ((Nat)) (fun j => ⟨[(1, .c (.int .i64 (p))), (3, .c (.ro (.ints .i64 (c)))), (13, .c (.own (100))), (14, .c (.own (101))), (21, .c (.own (102))), (22, .c (.int .i64 ((j : Int))))], [(100, some (.rows 0 34 2 .i64 (cbL (fiB t p (k + 1).toNat (t.length ^ (k + 1).toNat)) (fiS t p (k + 1).toNat (t.length ^ (k + 1).toNat))))), (101, some (.ints 2 .i64 (fiP t p (k + 1).toNat (t.length ^ (k + 1).toNat)))), (102, some (.ints 2 .i64 (redN p (cbL (fiB t p (k + 1).toNat (t.length ^ (k + 1).toNat)) (fiS t p (k + 1).toNat (t.length ^ (k + 1).toNat))) (pvN (fiP t p (k + 1).toNat (t.length ^ (k + 1).toNat))) (c ++ List.replicate (t.length ^ (k + 1).toNat) 0) j)))]⟩) (fun j => j ≤ (fiB t p (k + 1).toNat (t.length ^ (k + 1).toNat)).length ∧ chC t p k c = 0 ∧ degB (t.length : Int) (k + 1) = true) (fun j => (fiB t p (k + 1).toNat (t.length ^ (k + 1).toNat)).length - j) (fun _ => noAnn))
  | 6 => some (Ann.mk ((Nat)) (fun j => ⟨[(1, .c (.int .i64 (p))), (21, .c (.own (102))), (23, .c (.own (103))), (24, .c (.int .i64 (((c.length + j : Nat) : Int))))], [(102, some (.ints 2 .i64 ((flR t p (k + 1).toNat c).1 ++ (flR t p (k + 1).toNat c).2))), (103, some (.ints 2 .i64 ((ngF p (flR t p (k + 1).toNat c).2).take j)))]⟩) (fun j => j ≤ t.length ^ (k + 1).toNat ∧ ldF (flR t p (k + 1).toNat c).1 < 0 ∧ chC t p k c = 0 ∧ degB (t.length : Int) (k + 1) = true) (fun j => t.length ^ (k + 1).toNat - j) (fun _ => noAnn))
  | _ => none
def sFil_G : List (Nat × Ctr) := [(50, ⟨[], l15Code_ct⟩), (51, ⟨[], l15Chain_ct⟩), (62, ⟨[], l15Allowed_ct⟩), (64, ⟨[], l15Power_ct⟩), (66, ⟨[], l15Tuple_ct⟩), (65, ⟨[], l15Tuples_ct⟩), (67, ⟨[], l15Less_ct⟩), (68, ⟨[], l15First_ct⟩), (69, ⟨[], l15Inverse_ct⟩), (70, ⟨[], l01Own_ct⟩)]
def sFil_V (t : List (List Int)) (p : Int) (k : Int) (c : List Int) : Prop :=
  (((roomR t) ∧
 (True)) ∧
 (BrP (dgC t p k == (0 : Int))
 (((((1 : Int) ≤ (↑(List.length t) : Int)) ∧
 (((↑(List.length t) : Int) ≤ (12 : Int)) ∧
 ((degB (↑(List.length t) : Int) k = Bool.true) ∧
 (((2 : Int) ≤ p) ∧
 ((p ≤ (7 : Int)) ∧
 (List.length c ≤ (1099511627776 : Nat))))))) ∧
 (True)) ∧
 (BrP (!(Decidable.decide ((↑(List.length c) : Int) = (↑(List.length t) : Int) ^ Int.toNat k) && allW (0 : Int) (p - (1 : Int)) c))
 ((([] = Prod.fst (flC t p k c)) ∧
 (((2 : Int) = Prod.snd (flC t p k c)) ∧
 (True))) ∧
 (True))
 (BrP (dgC t p k == (0 : Int))
 ((InR (k + (1 : Int))) ∧
 (((((1 : Int) ≤ (↑(List.length t) : Int)) ∧
 ((↑(List.length t) : Int) ≤ (12 : Int))) ∧
 (True)) ∧
 (BrP (!degB (↑(List.length t) : Int) (k + (1 : Int)))
 ((([] = Prod.fst (flC t p k c)) ∧
 (((3 : Int) = Prod.snd (flC t p k c)) ∧
 (True))) ∧
 (True))
 (BrP (dgC t p k != (0 : Int))
 ((([] = Prod.fst (flC t p k c)) ∧
 ((dgC t p k = Prod.snd (flC t p k c)) ∧
 (True))) ∧
 (True))
 ((InR (k + (1 : Int))) ∧
 (((((1 : Int) ≤ (↑(List.length t) : Int)) ∧
 (((↑(List.length t) : Int) ≤ (12 : Int)) ∧
 (((0 : Int) ≤ k + (1 : Int)) ∧
 (k + (1 : Int) ≤ (1000 : Int))))) ∧
 (True)) ∧
 ((∃ x0 : Nat, (((x0 ≤ List.length t ^ Int.toNat (k + (1 : Int))) ∧
 ((chC t p k c = (0 : Int)) ∧
 (degB (↑(List.length t) : Int) (k + (1 : Int)) = Bool.true))) ∧
 ((p = p) ∧
 ((k = k) ∧
 ((c = c) ∧
 (((↑(List.length t) : Int) = (↑(List.length t) : Int)) ∧
 (((if (↑(List.length t) : Int) ^ Int.toNat (k + (1 : Int)) ≤ (512 : Int) then (↑(List.length t) : Int) ^ Int.toNat (k + (1 : Int)) else (513 : Int)) = (↑(List.length t ^ Int.toNat (k + (1 : Int))) : Int)) ∧
 (((0 : Int) = (↑x0 : Int)) ∧
 ((t = t) ∧
 (([] = cbL (fiB t p (Int.toNat (k + (1 : Int))) x0) (fiS t p (Int.toNat (k + (1 : Int))) x0)) ∧
 ([] = fiP t p (Int.toNat (k + (1 : Int))) x0))))))))))) ∧
 (∀ x1 : Nat, (((x1 ≤ List.length t ^ Int.toNat (k + (1 : Int))) ∧
 ((chC t p k c = (0 : Int)) ∧
 (degB (↑(List.length t) : Int) (k + (1 : Int)) = Bool.true))) →
 (BrP (Decidable.decide ((↑x1 : Int) < (↑(List.length t ^ Int.toNat (k + (1 : Int))) : Int)))
 ((InR (k + (1 : Int))) ∧
 (((((1 : Int) ≤ (↑(List.length t) : Int)) ∧
 (((0 : Int) ≤ k + (1 : Int)) ∧
 ((k + (1 : Int) ≤ (1000 : Int)) ∧
 (((0 : Int) ≤ (↑x1 : Int)) ∧
 ((↑x1 : Int) ≤ (1000000 : Int)))))) ∧
 (True)) ∧
 ((((bdOk t p (digN (↑(List.length t) : Int) (Int.toNat (k + (1 : Int))) (↑x1 : Int))) ∧
 ((1 : Nat) ≤ List.length (digN (↑(List.length t) : Int) (Int.toNat (k + (1 : Int))) (↑x1 : Int)))) ∧
 (True)) ∧
 ((((0 : Int) ≤ (↑(List.length t ^ Int.toNat (k + (1 : Int))) : Int)) ∧
 (((↑(List.length t ^ Int.toNat (k + (1 : Int))) : Int) ≤ (↑(List.length t ^ Int.toNat (k + (1 : Int))) : Int)) ∧
 (room (Int.toNat (↑(List.length t ^ Int.toNat (k + (1 : Int))) : Int))))) ∧
 ((inB (↑x1 : Int) (List.length (List.replicate (Int.toNat (↑(List.length t ^ Int.toNat (k + (1 : Int))) : Int)) (0 : Int)))) ∧
 ((room (List.length (ptF t p (digN (↑(List.length t) : Int) (Int.toNat (k + (1 : Int))) (↑x1 : Int)) (List.length (digN (↑(List.length t) : Int) (Int.toNat (k + (1 : Int))) (↑x1 : Int)))) + List.length (List.set (List.replicate (Int.toNat (↑(List.length t ^ Int.toNat (k + (1 : Int))) : Int)) (0 : Int)) (Int.toNat (↑x1 : Int)) (1 : Int)))) ∧
 ((∃ x2 : Nat, (((x2 ≤ List.length (fiB t p (Int.toNat (k + (1 : Int))) x1)) ∧
 ((x1 < List.length t ^ Int.toNat (k + (1 : Int))) ∧
 ((chC t p k c = (0 : Int)) ∧
 (degB (↑(List.length t) : Int) (k + (1 : Int)) = Bool.true)))) ∧
 ((p = p) ∧
 ((k = k) ∧
 ((c = c) ∧
 (((↑(List.length t) : Int) = (↑(List.length t) : Int)) ∧
 (((↑(List.length t ^ Int.toNat (k + (1 : Int))) : Int) = (↑(List.length t ^ Int.toNat (k + (1 : Int))) : Int)) ∧
 (((↑x1 : Int) = (↑x1 : Int)) ∧
 (((0 : Int) = (↑x2 : Int)) ∧
 ((t = t) ∧
 ((cbL (fiB t p (Int.toNat (k + (1 : Int))) x1) (fiS t p (Int.toNat (k + (1 : Int))) x1) = cbL (fiB t p (Int.toNat (k + (1 : Int))) x1) (fiS t p (Int.toNat (k + (1 : Int))) x1)) ∧
 ((fiP t p (Int.toNat (k + (1 : Int))) x1 = fiP t p (Int.toNat (k + (1 : Int))) x1) ∧
 (ptF t p (digN (↑(List.length t) : Int) (Int.toNat (k + (1 : Int))) (↑x1 : Int)) (List.length (digN (↑(List.length t) : Int) (Int.toNat (k + (1 : Int))) (↑x1 : Int))) ++ List.set (List.replicate (Int.toNat (↑(List.length t ^ Int.toNat (k + (1 : Int))) : Int)) (0 : Int)) (Int.toNat (↑x1 : Int)) (1 : Int) = redN p (cbL (fiB t p (Int.toNat (k + (1 : Int))) x1) (fiS t p (Int.toNat (k + (1 : Int))) x1)) (pvN (fiP t p (Int.toNat (k + (1 : Int))) x1)) (btF t p (Int.toNat (k + (1 : Int))) x1 ++ ehN (List.length t ^ Int.toNat (k + (1 : Int))) x1) x2))))))))))))) ∧
 (∀ x3 : Nat, (((x3 ≤ List.length (fiB t p (Int.toNat (k + (1 : Int))) x1)) ∧
 ((x1 < List.length t ^ Int.toNat (k + (1 : Int))) ∧
 ((chC t p k c = (0 : Int)) ∧
 (degB (↑(List.length t) : Int) (k + (1 : Int)) = Bool.true)))) →
 (BrP (Decidable.decide ((↑x3 : Int) < (↑(List.length (cbL (fiB t p (Int.toNat (k + (1 : Int))) x1) (fiS t p (Int.toNat (k + (1 : Int))) x1))) : Int)))
 ((inB (↑x3 : Int) (List.length (fiP t p (Int.toNat (k + (1 : Int))) x1))) ∧
 ((inB (List.getD (fiP t p (Int.toNat (k + (1 : Int))) x1) (Int.toNat (↑x3 : Int)) (0 : Int)) (List.length (redN p (cbL (fiB t p (Int.toNat (k + (1 : Int))) x1) (fiS t p (Int.toNat (k + (1 : Int))) x1)) (pvN (fiP t p (Int.toNat (k + (1 : Int))) x1)) (btF t p (Int.toNat (k + (1 : Int))) x1 ++ ehN (List.length t ^ Int.toNat (k + (1 : Int))) x1) x3))) ∧
 (BrP (List.getD (redN p (cbL (fiB t p (Int.toNat (k + (1 : Int))) x1) (fiS t p (Int.toNat (k + (1 : Int))) x1)) (pvN (fiP t p (Int.toNat (k + (1 : Int))) x1)) (btF t p (Int.toNat (k + (1 : Int))) x1 ++ ehN (List.length t ^ Int.toNat (k + (1 : Int))) x1) x3) (Int.toNat (List.getD (fiP t p (Int.toNat (k + (1 : Int))) x1) (Int.toNat (↑x3 : Int)) (0 : Int))) (0 : Int) != (0 : Int))
 ((inB (↑x3 : Int) (List.length (cbL (fiB t p (Int.toNat (k + (1 : Int))) x1) (fiS t p (Int.toNat (k + (1 : Int))) x1)))) ∧
 ((inB (↑x3 : Int) (List.length (fiP t p (Int.toNat (k + (1 : Int))) x1))) ∧
 ((inB (List.getD (fiP t p (Int.toNat (k + (1 : Int))) x1) (Int.toNat (↑x3 : Int)) (0 : Int)) (List.length (redN p (cbL (fiB t p (Int.toNat (k + (1 : Int))) x1) (fiS t p (Int.toNat (k + (1 : Int))) x1)) (pvN (fiP t p (Int.toNat (k + (1 : Int))) x1)) (btF t p (Int.toNat (k + (1 : Int))) x1 ++ ehN (List.length t ^ Int.toNat (k + (1 : Int))) x1) x3))) ∧
 ((((twR p (redN p (cbL (fiB t p (Int.toNat (k + (1 : Int))) x1) (fiS t p (Int.toNat (k + (1 : Int))) x1)) (pvN (fiP t p (Int.toNat (k + (1 : Int))) x1)) (btF t p (Int.toNat (k + (1 : Int))) x1 ++ ehN (List.length t ^ Int.toNat (k + (1 : Int))) x1) x3) (List.getD (cbL (fiB t p (Int.toNat (k + (1 : Int))) x1) (fiS t p (Int.toNat (k + (1 : Int))) x1)) (Int.toNat (↑x3 : Int)) [])) ∧
 (((0 : Int) ≤ p - List.getD (redN p (cbL (fiB t p (Int.toNat (k + (1 : Int))) x1) (fiS t p (Int.toNat (k + (1 : Int))) x1)) (pvN (fiP t p (Int.toNat (k + (1 : Int))) x1)) (btF t p (Int.toNat (k + (1 : Int))) x1 ++ ehN (List.length t ^ Int.toNat (k + (1 : Int))) x1) x3) (Int.toNat (List.getD (fiP t p (Int.toNat (k + (1 : Int))) x1) (Int.toNat (↑x3 : Int)) (0 : Int))) (0 : Int)) ∧
 ((p - List.getD (redN p (cbL (fiB t p (Int.toNat (k + (1 : Int))) x1) (fiS t p (Int.toNat (k + (1 : Int))) x1)) (pvN (fiP t p (Int.toNat (k + (1 : Int))) x1)) (btF t p (Int.toNat (k + (1 : Int))) x1 ++ ehN (List.length t ^ Int.toNat (k + (1 : Int))) x1) x3) (Int.toNat (List.getD (fiP t p (Int.toNat (k + (1 : Int))) x1) (Int.toNat (↑x3 : Int)) (0 : Int))) (0 : Int) ≤ (7 : Int)) ∧
 (((-100 : Int) ≤ List.getD (redN p (cbL (fiB t p (Int.toNat (k + (1 : Int))) x1) (fiS t p (Int.toNat (k + (1 : Int))) x1)) (pvN (fiP t p (Int.toNat (k + (1 : Int))) x1)) (btF t p (Int.toNat (k + (1 : Int))) x1 ++ ehN (List.length t ^ Int.toNat (k + (1 : Int))) x1) x3) (Int.toNat (List.getD (fiP t p (Int.toNat (k + (1 : Int))) x1) (Int.toNat (↑x3 : Int)) (0 : Int))) (0 : Int)) ∧
 (List.getD (redN p (cbL (fiB t p (Int.toNat (k + (1 : Int))) x1) (fiS t p (Int.toNat (k + (1 : Int))) x1)) (pvN (fiP t p (Int.toNat (k + (1 : Int))) x1)) (btF t p (Int.toNat (k + (1 : Int))) x1 ++ ehN (List.length t ^ Int.toNat (k + (1 : Int))) x1) x3) (Int.toNat (List.getD (fiP t p (Int.toNat (k + (1 : Int))) x1) (Int.toNat (↑x3 : Int)) (0 : Int))) (0 : Int) ≤ (100 : Int)))))) ∧
 (True)) ∧
 ((InR ((↑x3 : Int) + (1 : Int))) ∧
 (∃ x4 : Nat, (((x4 ≤ List.length (fiB t p (Int.toNat (k + (1 : Int))) x1)) ∧
 ((x1 < List.length t ^ Int.toNat (k + (1 : Int))) ∧
 ((chC t p k c = (0 : Int)) ∧
 (degB (↑(List.length t) : Int) (k + (1 : Int)) = Bool.true)))) ∧
 ((List.length (fiB t p (Int.toNat (k + (1 : Int))) x1) - x4 < List.length (fiB t p (Int.toNat (k + (1 : Int))) x1) - x3) ∧
 ((p = p) ∧
 ((k = k) ∧
 ((c = c) ∧
 (((↑(List.length t) : Int) = (↑(List.length t) : Int)) ∧
 (((↑(List.length t ^ Int.toNat (k + (1 : Int))) : Int) = (↑(List.length t ^ Int.toNat (k + (1 : Int))) : Int)) ∧
 (((↑x1 : Int) = (↑x1 : Int)) ∧
 (((↑x3 : Int) + (1 : Int) = (↑x4 : Int)) ∧
 ((t = t) ∧
 ((cbL (fiB t p (Int.toNat (k + (1 : Int))) x1) (fiS t p (Int.toNat (k + (1 : Int))) x1) = cbL (fiB t p (Int.toNat (k + (1 : Int))) x1) (fiS t p (Int.toNat (k + (1 : Int))) x1)) ∧
 ((fiP t p (Int.toNat (k + (1 : Int))) x1 = fiP t p (Int.toNat (k + (1 : Int))) x1) ∧
 (stF p (p - List.getD (redN p (cbL (fiB t p (Int.toNat (k + (1 : Int))) x1) (fiS t p (Int.toNat (k + (1 : Int))) x1)) (pvN (fiP t p (Int.toNat (k + (1 : Int))) x1)) (btF t p (Int.toNat (k + (1 : Int))) x1 ++ ehN (List.length t ^ Int.toNat (k + (1 : Int))) x1) x3) (Int.toNat (List.getD (fiP t p (Int.toNat (k + (1 : Int))) x1) (Int.toNat (↑x3 : Int)) (0 : Int))) (0 : Int)) (List.getD (cbL (fiB t p (Int.toNat (k + (1 : Int))) x1) (fiS t p (Int.toNat (k + (1 : Int))) x1)) (Int.toNat (↑x3 : Int)) []) (redN p (cbL (fiB t p (Int.toNat (k + (1 : Int))) x1) (fiS t p (Int.toNat (k + (1 : Int))) x1)) (pvN (fiP t p (Int.toNat (k + (1 : Int))) x1)) (btF t p (Int.toNat (k + (1 : Int))) x1 ++ ehN (List.length t ^ Int.toNat (k + (1 : Int))) x1) x3) = redN p (cbL (fiB t p (Int.toNat (k + (1 : Int))) x1) (fiS t p (Int.toNat (k + (1 : Int))) x1)) (pvN (fiP t p (Int.toNat (k + (1 : Int))) x1)) (btF t p (Int.toNat (k + (1 : Int))) x1 ++ ehN (List.length t ^ Int.toNat (k + (1 : Int))) x1) x4)))))))))))))))))))
 ((InR ((↑x3 : Int) + (1 : Int))) ∧
 (∃ x5 : Nat, (((x5 ≤ List.length (fiB t p (Int.toNat (k + (1 : Int))) x1)) ∧
 ((x1 < List.length t ^ Int.toNat (k + (1 : Int))) ∧
 ((chC t p k c = (0 : Int)) ∧
 (degB (↑(List.length t) : Int) (k + (1 : Int)) = Bool.true)))) ∧
 ((List.length (fiB t p (Int.toNat (k + (1 : Int))) x1) - x5 < List.length (fiB t p (Int.toNat (k + (1 : Int))) x1) - x3) ∧
 ((p = p) ∧
 ((k = k) ∧
 ((c = c) ∧
 (((↑(List.length t) : Int) = (↑(List.length t) : Int)) ∧
 (((↑(List.length t ^ Int.toNat (k + (1 : Int))) : Int) = (↑(List.length t ^ Int.toNat (k + (1 : Int))) : Int)) ∧
 (((↑x1 : Int) = (↑x1 : Int)) ∧
 (((↑x3 : Int) + (1 : Int) = (↑x5 : Int)) ∧
 ((t = t) ∧
 ((cbL (fiB t p (Int.toNat (k + (1 : Int))) x1) (fiS t p (Int.toNat (k + (1 : Int))) x1) = cbL (fiB t p (Int.toNat (k + (1 : Int))) x1) (fiS t p (Int.toNat (k + (1 : Int))) x1)) ∧
 ((fiP t p (Int.toNat (k + (1 : Int))) x1 = fiP t p (Int.toNat (k + (1 : Int))) x1) ∧
 (redN p (cbL (fiB t p (Int.toNat (k + (1 : Int))) x1) (fiS t p (Int.toNat (k + (1 : Int))) x1)) (pvN (fiP t p (Int.toNat (k + (1 : Int))) x1)) (btF t p (Int.toNat (k + (1 : Int))) x1 ++ ehN (List.length t ^ Int.toNat (k + (1 : Int))) x1) x3 = redN p (cbL (fiB t p (Int.toNat (k + (1 : Int))) x1) (fiS t p (Int.toNat (k + (1 : Int))) x1)) (pvN (fiP t p (Int.toNat (k + (1 : Int))) x1)) (btF t p (Int.toNat (k + (1 : Int))) x1 ++ ehN (List.length t ^ Int.toNat (k + (1 : Int))) x1) x5))))))))))))))))))
 ((bdsOk (List.length (redN p (cbL (fiB t p (Int.toNat (k + (1 : Int))) x1) (fiS t p (Int.toNat (k + (1 : Int))) x1)) (pvN (fiP t p (Int.toNat (k + (1 : Int))) x1)) (btF t p (Int.toNat (k + (1 : Int))) x1 ++ ehN (List.length t ^ Int.toNat (k + (1 : Int))) x1) x3)) Option.none (Option.some (↑(List.length c) : Int))) ∧
 (((List.length (List.take (Int.toNat (↑(List.length c) : Int)) (List.drop (0 : Nat) (redN p (cbL (fiB t p (Int.toNat (k + (1 : Int))) x1) (fiS t p (Int.toNat (k + (1 : Int))) x1)) (pvN (fiP t p (Int.toNat (k + (1 : Int))) x1)) (btF t p (Int.toNat (k + (1 : Int))) x1 ++ ehN (List.length t ^ Int.toNat (k + (1 : Int))) x1) x3))) ≤ (1000 : Nat)) ∧
 (True)) ∧
 (BrP (Decidable.decide ((0 : Int) ≤ ldF (List.take (Int.toNat (↑(List.length c) : Int)) (List.drop (0 : Nat) (redN p (cbL (fiB t p (Int.toNat (k + (1 : Int))) x1) (fiS t p (Int.toNat (k + (1 : Int))) x1)) (pvN (fiP t p (Int.toNat (k + (1 : Int))) x1)) (btF t p (Int.toNat (k + (1 : Int))) x1 ++ ehN (List.length t ^ Int.toNat (k + (1 : Int))) x1) x3)))))
 ((((0 : Int) ≤ (↑(List.length (redN p (cbL (fiB t p (Int.toNat (k + (1 : Int))) x1) (fiS t p (Int.toNat (k + (1 : Int))) x1)) (pvN (fiP t p (Int.toNat (k + (1 : Int))) x1)) (btF t p (Int.toNat (k + (1 : Int))) x1 ++ ehN (List.length t ^ Int.toNat (k + (1 : Int))) x1) x3)) : Int)) ∧
 (((↑(List.length (redN p (cbL (fiB t p (Int.toNat (k + (1 : Int))) x1) (fiS t p (Int.toNat (k + (1 : Int))) x1)) (pvN (fiP t p (Int.toNat (k + (1 : Int))) x1)) (btF t p (Int.toNat (k + (1 : Int))) x1 ++ ehN (List.length t ^ Int.toNat (k + (1 : Int))) x1) x3)) : Int) ≤ (↑(List.length (redN p (cbL (fiB t p (Int.toNat (k + (1 : Int))) x1) (fiS t p (Int.toNat (k + (1 : Int))) x1)) (pvN (fiP t p (Int.toNat (k + (1 : Int))) x1)) (btF t p (Int.toNat (k + (1 : Int))) x1 ++ ehN (List.length t ^ Int.toNat (k + (1 : Int))) x1) x3)) : Int)) ∧
 (room (Int.toNat (↑(List.length (redN p (cbL (fiB t p (Int.toNat (k + (1 : Int))) x1) (fiS t p (Int.toNat (k + (1 : Int))) x1)) (pvN (fiP t p (Int.toNat (k + (1 : Int))) x1)) (btF t p (Int.toNat (k + (1 : Int))) x1 ++ ehN (List.length t ^ Int.toNat (k + (1 : Int))) x1) x3)) : Int))))) ∧
 ((inB (ldF (List.take (Int.toNat (↑(List.length c) : Int)) (List.drop (0 : Nat) (redN p (cbL (fiB t p (Int.toNat (k + (1 : Int))) x1) (fiS t p (Int.toNat (k + (1 : Int))) x1)) (pvN (fiP t p (Int.toNat (k + (1 : Int))) x1)) (btF t p (Int.toNat (k + (1 : Int))) x1 ++ ehN (List.length t ^ Int.toNat (k + (1 : Int))) x1) x3)))) (List.length (redN p (cbL (fiB t p (Int.toNat (k + (1 : Int))) x1) (fiS t p (Int.toNat (k + (1 : Int))) x1)) (pvN (fiP t p (Int.toNat (k + (1 : Int))) x1)) (btF t p (Int.toNat (k + (1 : Int))) x1 ++ ehN (List.length t ^ Int.toNat (k + (1 : Int))) x1) x3))) ∧
 ((((primeB p = Bool.true) ∧
 (((1 : Int) ≤ List.getD (redN p (cbL (fiB t p (Int.toNat (k + (1 : Int))) x1) (fiS t p (Int.toNat (k + (1 : Int))) x1)) (pvN (fiP t p (Int.toNat (k + (1 : Int))) x1)) (btF t p (Int.toNat (k + (1 : Int))) x1 ++ ehN (List.length t ^ Int.toNat (k + (1 : Int))) x1) x3) (Int.toNat (ldF (List.take (Int.toNat (↑(List.length c) : Int)) (List.drop (0 : Nat) (redN p (cbL (fiB t p (Int.toNat (k + (1 : Int))) x1) (fiS t p (Int.toNat (k + (1 : Int))) x1)) (pvN (fiP t p (Int.toNat (k + (1 : Int))) x1)) (btF t p (Int.toNat (k + (1 : Int))) x1 ++ ehN (List.length t ^ Int.toNat (k + (1 : Int))) x1) x3))))) (0 : Int)) ∧
 (List.getD (redN p (cbL (fiB t p (Int.toNat (k + (1 : Int))) x1) (fiS t p (Int.toNat (k + (1 : Int))) x1)) (pvN (fiP t p (Int.toNat (k + (1 : Int))) x1)) (btF t p (Int.toNat (k + (1 : Int))) x1 ++ ehN (List.length t ^ Int.toNat (k + (1 : Int))) x1) x3) (Int.toNat (ldF (List.take (Int.toNat (↑(List.length c) : Int)) (List.drop (0 : Nat) (redN p (cbL (fiB t p (Int.toNat (k + (1 : Int))) x1) (fiS t p (Int.toNat (k + (1 : Int))) x1)) (pvN (fiP t p (Int.toNat (k + (1 : Int))) x1)) (btF t p (Int.toNat (k + (1 : Int))) x1 ++ ehN (List.length t ^ Int.toNat (k + (1 : Int))) x1) x3))))) (0 : Int) ≤ p - (1 : Int)))) ∧
 (True)) ∧
 ((InR (p - ivM p (List.getD (redN p (cbL (fiB t p (Int.toNat (k + (1 : Int))) x1) (fiS t p (Int.toNat (k + (1 : Int))) x1)) (pvN (fiP t p (Int.toNat (k + (1 : Int))) x1)) (btF t p (Int.toNat (k + (1 : Int))) x1 ++ ehN (List.length t ^ Int.toNat (k + (1 : Int))) x1) x3) (Int.toNat (ldF (List.take (Int.toNat (↑(List.length c) : Int)) (List.drop (0 : Nat) (redN p (cbL (fiB t p (Int.toNat (k + (1 : Int))) x1) (fiS t p (Int.toNat (k + (1 : Int))) x1)) (pvN (fiP t p (Int.toNat (k + (1 : Int))) x1)) (btF t p (Int.toNat (k + (1 : Int))) x1 ++ ehN (List.length t ^ Int.toNat (k + (1 : Int))) x1) x3))))) (0 : Int)))) ∧
 ((((twR p (List.replicate (Int.toNat (↑(List.length (redN p (cbL (fiB t p (Int.toNat (k + (1 : Int))) x1) (fiS t p (Int.toNat (k + (1 : Int))) x1)) (pvN (fiP t p (Int.toNat (k + (1 : Int))) x1)) (btF t p (Int.toNat (k + (1 : Int))) x1 ++ ehN (List.length t ^ Int.toNat (k + (1 : Int))) x1) x3)) : Int)) (0 : Int)) (redN p (cbL (fiB t p (Int.toNat (k + (1 : Int))) x1) (fiS t p (Int.toNat (k + (1 : Int))) x1)) (pvN (fiP t p (Int.toNat (k + (1 : Int))) x1)) (btF t p (Int.toNat (k + (1 : Int))) x1 ++ ehN (List.length t ^ Int.toNat (k + (1 : Int))) x1) x3)) ∧
 (((0 : Int) ≤ p - (p - ivM p (List.getD (redN p (cbL (fiB t p (Int.toNat (k + (1 : Int))) x1) (fiS t p (Int.toNat (k + (1 : Int))) x1)) (pvN (fiP t p (Int.toNat (k + (1 : Int))) x1)) (btF t p (Int.toNat (k + (1 : Int))) x1 ++ ehN (List.length t ^ Int.toNat (k + (1 : Int))) x1) x3) (Int.toNat (ldF (List.take (Int.toNat (↑(List.length c) : Int)) (List.drop (0 : Nat) (redN p (cbL (fiB t p (Int.toNat (k + (1 : Int))) x1) (fiS t p (Int.toNat (k + (1 : Int))) x1)) (pvN (fiP t p (Int.toNat (k + (1 : Int))) x1)) (btF t p (Int.toNat (k + (1 : Int))) x1 ++ ehN (List.length t ^ Int.toNat (k + (1 : Int))) x1) x3))))) (0 : Int)))) ∧
 ((p - (p - ivM p (List.getD (redN p (cbL (fiB t p (Int.toNat (k + (1 : Int))) x1) (fiS t p (Int.toNat (k + (1 : Int))) x1)) (pvN (fiP t p (Int.toNat (k + (1 : Int))) x1)) (btF t p (Int.toNat (k + (1 : Int))) x1 ++ ehN (List.length t ^ Int.toNat (k + (1 : Int))) x1) x3) (Int.toNat (ldF (List.take (Int.toNat (↑(List.length c) : Int)) (List.drop (0 : Nat) (redN p (cbL (fiB t p (Int.toNat (k + (1 : Int))) x1) (fiS t p (Int.toNat (k + (1 : Int))) x1)) (pvN (fiP t p (Int.toNat (k + (1 : Int))) x1)) (btF t p (Int.toNat (k + (1 : Int))) x1 ++ ehN (List.length t ^ Int.toNat (k + (1 : Int))) x1) x3))))) (0 : Int))) ≤ (7 : Int)) ∧
 (((-100 : Int) ≤ p - ivM p (List.getD (redN p (cbL (fiB t p (Int.toNat (k + (1 : Int))) x1) (fiS t p (Int.toNat (k + (1 : Int))) x1)) (pvN (fiP t p (Int.toNat (k + (1 : Int))) x1)) (btF t p (Int.toNat (k + (1 : Int))) x1 ++ ehN (List.length t ^ Int.toNat (k + (1 : Int))) x1) x3) (Int.toNat (ldF (List.take (Int.toNat (↑(List.length c) : Int)) (List.drop (0 : Nat) (redN p (cbL (fiB t p (Int.toNat (k + (1 : Int))) x1) (fiS t p (Int.toNat (k + (1 : Int))) x1)) (pvN (fiP t p (Int.toNat (k + (1 : Int))) x1)) (btF t p (Int.toNat (k + (1 : Int))) x1 ++ ehN (List.length t ^ Int.toNat (k + (1 : Int))) x1) x3))))) (0 : Int))) ∧
 (p - ivM p (List.getD (redN p (cbL (fiB t p (Int.toNat (k + (1 : Int))) x1) (fiS t p (Int.toNat (k + (1 : Int))) x1)) (pvN (fiP t p (Int.toNat (k + (1 : Int))) x1)) (btF t p (Int.toNat (k + (1 : Int))) x1 ++ ehN (List.length t ^ Int.toNat (k + (1 : Int))) x1) x3) (Int.toNat (ldF (List.take (Int.toNat (↑(List.length c) : Int)) (List.drop (0 : Nat) (redN p (cbL (fiB t p (Int.toNat (k + (1 : Int))) x1) (fiS t p (Int.toNat (k + (1 : Int))) x1)) (pvN (fiP t p (Int.toNat (k + (1 : Int))) x1)) (btF t p (Int.toNat (k + (1 : Int))) x1 ++ ehN (List.length t ^ Int.toNat (k + (1 : Int))) x1) x3))))) (0 : Int)) ≤ (100 : Int)))))) ∧
 (True)) ∧
 ((room (List.length (cbL (fiB t p (Int.toNat (k + (1 : Int))) x1) (fiS t p (Int.toNat (k + (1 : Int))) x1)) + List.length [stF p (p - (p - ivM p (List.getD (redN p (cbL (fiB t p (Int.toNat (k + (1 : Int))) x1) (fiS t p (Int.toNat (k + (1 : Int))) x1)) (pvN (fiP t p (Int.toNat (k + (1 : Int))) x1)) (btF t p (Int.toNat (k + (1 : Int))) x1 ++ ehN (List.length t ^ Int.toNat (k + (1 : Int))) x1) x3) (Int.toNat (ldF (List.take (Int.toNat (↑(List.length c) : Int)) (List.drop (0 : Nat) (redN p (cbL (fiB t p (Int.toNat (k + (1 : Int))) x1) (fiS t p (Int.toNat (k + (1 : Int))) x1)) (pvN (fiP t p (Int.toNat (k + (1 : Int))) x1)) (btF t p (Int.toNat (k + (1 : Int))) x1 ++ ehN (List.length t ^ Int.toNat (k + (1 : Int))) x1) x3))))) (0 : Int)))) (redN p (cbL (fiB t p (Int.toNat (k + (1 : Int))) x1) (fiS t p (Int.toNat (k + (1 : Int))) x1)) (pvN (fiP t p (Int.toNat (k + (1 : Int))) x1)) (btF t p (Int.toNat (k + (1 : Int))) x1 ++ ehN (List.length t ^ Int.toNat (k + (1 : Int))) x1) x3) (List.replicate (Int.toNat (↑(List.length (redN p (cbL (fiB t p (Int.toNat (k + (1 : Int))) x1) (fiS t p (Int.toNat (k + (1 : Int))) x1)) (pvN (fiP t p (Int.toNat (k + (1 : Int))) x1)) (btF t p (Int.toNat (k + (1 : Int))) x1 ++ ehN (List.length t ^ Int.toNat (k + (1 : Int))) x1) x3)) : Int)) (0 : Int))])) ∧
 ((room (List.length (fiP t p (Int.toNat (k + (1 : Int))) x1) + List.length [ldF (List.take (Int.toNat (↑(List.length c) : Int)) (List.drop (0 : Nat) (redN p (cbL (fiB t p (Int.toNat (k + (1 : Int))) x1) (fiS t p (Int.toNat (k + (1 : Int))) x1)) (pvN (fiP t p (Int.toNat (k + (1 : Int))) x1)) (btF t p (Int.toNat (k + (1 : Int))) x1 ++ ehN (List.length t ^ Int.toNat (k + (1 : Int))) x1) x3)))])) ∧
 ((InR ((↑x1 : Int) + (1 : Int))) ∧
 (∃ x6 : Nat, (((x6 ≤ List.length t ^ Int.toNat (k + (1 : Int))) ∧
 ((chC t p k c = (0 : Int)) ∧
 (degB (↑(List.length t) : Int) (k + (1 : Int)) = Bool.true))) ∧
 ((List.length t ^ Int.toNat (k + (1 : Int)) - x6 < List.length t ^ Int.toNat (k + (1 : Int)) - x1) ∧
 ((p = p) ∧
 ((k = k) ∧
 ((c = c) ∧
 (((↑(List.length t) : Int) = (↑(List.length t) : Int)) ∧
 (((↑(List.length t ^ Int.toNat (k + (1 : Int))) : Int) = (↑(List.length t ^ Int.toNat (k + (1 : Int))) : Int)) ∧
 (((↑x1 : Int) + (1 : Int) = (↑x6 : Int)) ∧
 ((t = t) ∧
 ((cbL (fiB t p (Int.toNat (k + (1 : Int))) x1) (fiS t p (Int.toNat (k + (1 : Int))) x1) ++ [stF p (p - (p - ivM p (List.getD (redN p (cbL (fiB t p (Int.toNat (k + (1 : Int))) x1) (fiS t p (Int.toNat (k + (1 : Int))) x1)) (pvN (fiP t p (Int.toNat (k + (1 : Int))) x1)) (btF t p (Int.toNat (k + (1 : Int))) x1 ++ ehN (List.length t ^ Int.toNat (k + (1 : Int))) x1) x3) (Int.toNat (ldF (List.take (Int.toNat (↑(List.length c) : Int)) (List.drop (0 : Nat) (redN p (cbL (fiB t p (Int.toNat (k + (1 : Int))) x1) (fiS t p (Int.toNat (k + (1 : Int))) x1)) (pvN (fiP t p (Int.toNat (k + (1 : Int))) x1)) (btF t p (Int.toNat (k + (1 : Int))) x1 ++ ehN (List.length t ^ Int.toNat (k + (1 : Int))) x1) x3))))) (0 : Int)))) (redN p (cbL (fiB t p (Int.toNat (k + (1 : Int))) x1) (fiS t p (Int.toNat (k + (1 : Int))) x1)) (pvN (fiP t p (Int.toNat (k + (1 : Int))) x1)) (btF t p (Int.toNat (k + (1 : Int))) x1 ++ ehN (List.length t ^ Int.toNat (k + (1 : Int))) x1) x3) (List.replicate (Int.toNat (↑(List.length (redN p (cbL (fiB t p (Int.toNat (k + (1 : Int))) x1) (fiS t p (Int.toNat (k + (1 : Int))) x1)) (pvN (fiP t p (Int.toNat (k + (1 : Int))) x1)) (btF t p (Int.toNat (k + (1 : Int))) x1 ++ ehN (List.length t ^ Int.toNat (k + (1 : Int))) x1) x3)) : Int)) (0 : Int))] = cbL (fiB t p (Int.toNat (k + (1 : Int))) x6) (fiS t p (Int.toNat (k + (1 : Int))) x6)) ∧
 (fiP t p (Int.toNat (k + (1 : Int))) x1 ++ [ldF (List.take (Int.toNat (↑(List.length c) : Int)) (List.drop (0 : Nat) (redN p (cbL (fiB t p (Int.toNat (k + (1 : Int))) x1) (fiS t p (Int.toNat (k + (1 : Int))) x1)) (pvN (fiP t p (Int.toNat (k + (1 : Int))) x1)) (btF t p (Int.toNat (k + (1 : Int))) x1 ++ ehN (List.length t ^ Int.toNat (k + (1 : Int))) x1) x3)))] = fiP t p (Int.toNat (k + (1 : Int))) x6))))))))))))))))))))
 ((InR ((↑x1 : Int) + (1 : Int))) ∧
 (∃ x7 : Nat, (((x7 ≤ List.length t ^ Int.toNat (k + (1 : Int))) ∧
 ((chC t p k c = (0 : Int)) ∧
 (degB (↑(List.length t) : Int) (k + (1 : Int)) = Bool.true))) ∧
 ((List.length t ^ Int.toNat (k + (1 : Int)) - x7 < List.length t ^ Int.toNat (k + (1 : Int)) - x1) ∧
 ((p = p) ∧
 ((k = k) ∧
 ((c = c) ∧
 (((↑(List.length t) : Int) = (↑(List.length t) : Int)) ∧
 (((↑(List.length t ^ Int.toNat (k + (1 : Int))) : Int) = (↑(List.length t ^ Int.toNat (k + (1 : Int))) : Int)) ∧
 (((↑x1 : Int) + (1 : Int) = (↑x7 : Int)) ∧
 ((t = t) ∧
 ((cbL (fiB t p (Int.toNat (k + (1 : Int))) x1) (fiS t p (Int.toNat (k + (1 : Int))) x1) = cbL (fiB t p (Int.toNat (k + (1 : Int))) x7) (fiS t p (Int.toNat (k + (1 : Int))) x7)) ∧
 (fiP t p (Int.toNat (k + (1 : Int))) x1 = fiP t p (Int.toNat (k + (1 : Int))) x7))))))))))))))))))))))))))
 (((room (List.length c)) ∧
 (True)) ∧
 ((((0 : Int) ≤ (↑(List.length t ^ Int.toNat (k + (1 : Int))) : Int)) ∧
 (room (List.length c + Int.toNat (↑(List.length t ^ Int.toNat (k + (1 : Int))) : Int)))) ∧
 ((∃ x8 : Nat, (((x8 ≤ List.length (fiB t p (Int.toNat (k + (1 : Int))) (List.length t ^ Int.toNat (k + (1 : Int))))) ∧
 ((chC t p k c = (0 : Int)) ∧
 (degB (↑(List.length t) : Int) (k + (1 : Int)) = Bool.true))) ∧
 ((p = p) ∧
 ((c = c) ∧
 (((0 : Int) = (↑x8 : Int)) ∧
 ((cbL (fiB t p (Int.toNat (k + (1 : Int))) x1) (fiS t p (Int.toNat (k + (1 : Int))) x1) = cbL (fiB t p (Int.toNat (k + (1 : Int))) (List.length t ^ Int.toNat (k + (1 : Int)))) (fiS t p (Int.toNat (k + (1 : Int))) (List.length t ^ Int.toNat (k + (1 : Int))))) ∧
 ((fiP t p (Int.toNat (k + (1 : Int))) x1 = fiP t p (Int.toNat (k + (1 : Int))) (List.length t ^ Int.toNat (k + (1 : Int)))) ∧
 (c ++ List.replicate (Int.toNat (↑(List.length t ^ Int.toNat (k + (1 : Int))) : Int)) (0 : Int) = redN p (cbL (fiB t p (Int.toNat (k + (1 : Int))) (List.length t ^ Int.toNat (k + (1 : Int)))) (fiS t p (Int.toNat (k + (1 : Int))) (List.length t ^ Int.toNat (k + (1 : Int))))) (pvN (fiP t p (Int.toNat (k + (1 : Int))) (List.length t ^ Int.toNat (k + (1 : Int))))) (c ++ List.replicate (List.length t ^ Int.toNat (k + (1 : Int))) (0 : Int)) x8)))))))) ∧
 (∀ x9 : Nat, (((x9 ≤ List.length (fiB t p (Int.toNat (k + (1 : Int))) (List.length t ^ Int.toNat (k + (1 : Int))))) ∧
 ((chC t p k c = (0 : Int)) ∧
 (degB (↑(List.length t) : Int) (k + (1 : Int)) = Bool.true))) →
 (BrP (Decidable.decide ((↑x9 : Int) < (↑(List.length (cbL (fiB t p (Int.toNat (k + (1 : Int))) (List.length t ^ Int.toNat (k + (1 : Int)))) (fiS t p (Int.toNat (k + (1 : Int))) (List.length t ^ Int.toNat (k + (1 : Int)))))) : Int)))
 ((inB (↑x9 : Int) (List.length (fiP t p (Int.toNat (k + (1 : Int))) (List.length t ^ Int.toNat (k + (1 : Int)))))) ∧
 ((inB (List.getD (fiP t p (Int.toNat (k + (1 : Int))) (List.length t ^ Int.toNat (k + (1 : Int)))) (Int.toNat (↑x9 : Int)) (0 : Int)) (List.length (redN p (cbL (fiB t p (Int.toNat (k + (1 : Int))) (List.length t ^ Int.toNat (k + (1 : Int)))) (fiS t p (Int.toNat (k + (1 : Int))) (List.length t ^ Int.toNat (k + (1 : Int))))) (pvN (fiP t p (Int.toNat (k + (1 : Int))) (List.length t ^ Int.toNat (k + (1 : Int))))) (c ++ List.replicate (List.length t ^ Int.toNat (k + (1 : Int))) (0 : Int)) x9))) ∧
 (BrP (List.getD (redN p (cbL (fiB t p (Int.toNat (k + (1 : Int))) (List.length t ^ Int.toNat (k + (1 : Int)))) (fiS t p (Int.toNat (k + (1 : Int))) (List.length t ^ Int.toNat (k + (1 : Int))))) (pvN (fiP t p (Int.toNat (k + (1 : Int))) (List.length t ^ Int.toNat (k + (1 : Int))))) (c ++ List.replicate (List.length t ^ Int.toNat (k + (1 : Int))) (0 : Int)) x9) (Int.toNat (List.getD (fiP t p (Int.toNat (k + (1 : Int))) (List.length t ^ Int.toNat (k + (1 : Int)))) (Int.toNat (↑x9 : Int)) (0 : Int))) (0 : Int) != (0 : Int))
 ((inB (↑x9 : Int) (List.length (cbL (fiB t p (Int.toNat (k + (1 : Int))) (List.length t ^ Int.toNat (k + (1 : Int)))) (fiS t p (Int.toNat (k + (1 : Int))) (List.length t ^ Int.toNat (k + (1 : Int))))))) ∧
 ((inB (↑x9 : Int) (List.length (fiP t p (Int.toNat (k + (1 : Int))) (List.length t ^ Int.toNat (k + (1 : Int)))))) ∧
 ((inB (List.getD (fiP t p (Int.toNat (k + (1 : Int))) (List.length t ^ Int.toNat (k + (1 : Int)))) (Int.toNat (↑x9 : Int)) (0 : Int)) (List.length (redN p (cbL (fiB t p (Int.toNat (k + (1 : Int))) (List.length t ^ Int.toNat (k + (1 : Int)))) (fiS t p (Int.toNat (k + (1 : Int))) (List.length t ^ Int.toNat (k + (1 : Int))))) (pvN (fiP t p (Int.toNat (k + (1 : Int))) (List.length t ^ Int.toNat (k + (1 : Int))))) (c ++ List.replicate (List.length t ^ Int.toNat (k + (1 : Int))) (0 : Int)) x9))) ∧
 ((((twR p (redN p (cbL (fiB t p (Int.toNat (k + (1 : Int))) (List.length t ^ Int.toNat (k + (1 : Int)))) (fiS t p (Int.toNat (k + (1 : Int))) (List.length t ^ Int.toNat (k + (1 : Int))))) (pvN (fiP t p (Int.toNat (k + (1 : Int))) (List.length t ^ Int.toNat (k + (1 : Int))))) (c ++ List.replicate (List.length t ^ Int.toNat (k + (1 : Int))) (0 : Int)) x9) (List.getD (cbL (fiB t p (Int.toNat (k + (1 : Int))) (List.length t ^ Int.toNat (k + (1 : Int)))) (fiS t p (Int.toNat (k + (1 : Int))) (List.length t ^ Int.toNat (k + (1 : Int))))) (Int.toNat (↑x9 : Int)) [])) ∧
 (((0 : Int) ≤ p - List.getD (redN p (cbL (fiB t p (Int.toNat (k + (1 : Int))) (List.length t ^ Int.toNat (k + (1 : Int)))) (fiS t p (Int.toNat (k + (1 : Int))) (List.length t ^ Int.toNat (k + (1 : Int))))) (pvN (fiP t p (Int.toNat (k + (1 : Int))) (List.length t ^ Int.toNat (k + (1 : Int))))) (c ++ List.replicate (List.length t ^ Int.toNat (k + (1 : Int))) (0 : Int)) x9) (Int.toNat (List.getD (fiP t p (Int.toNat (k + (1 : Int))) (List.length t ^ Int.toNat (k + (1 : Int)))) (Int.toNat (↑x9 : Int)) (0 : Int))) (0 : Int)) ∧
 ((p - List.getD (redN p (cbL (fiB t p (Int.toNat (k + (1 : Int))) (List.length t ^ Int.toNat (k + (1 : Int)))) (fiS t p (Int.toNat (k + (1 : Int))) (List.length t ^ Int.toNat (k + (1 : Int))))) (pvN (fiP t p (Int.toNat (k + (1 : Int))) (List.length t ^ Int.toNat (k + (1 : Int))))) (c ++ List.replicate (List.length t ^ Int.toNat (k + (1 : Int))) (0 : Int)) x9) (Int.toNat (List.getD (fiP t p (Int.toNat (k + (1 : Int))) (List.length t ^ Int.toNat (k + (1 : Int)))) (Int.toNat (↑x9 : Int)) (0 : Int))) (0 : Int) ≤ (7 : Int)) ∧
 (((-100 : Int) ≤ List.getD (redN p (cbL (fiB t p (Int.toNat (k + (1 : Int))) (List.length t ^ Int.toNat (k + (1 : Int)))) (fiS t p (Int.toNat (k + (1 : Int))) (List.length t ^ Int.toNat (k + (1 : Int))))) (pvN (fiP t p (Int.toNat (k + (1 : Int))) (List.length t ^ Int.toNat (k + (1 : Int))))) (c ++ List.replicate (List.length t ^ Int.toNat (k + (1 : Int))) (0 : Int)) x9) (Int.toNat (List.getD (fiP t p (Int.toNat (k + (1 : Int))) (List.length t ^ Int.toNat (k + (1 : Int)))) (Int.toNat (↑x9 : Int)) (0 : Int))) (0 : Int)) ∧
 (List.getD (redN p (cbL (fiB t p (Int.toNat (k + (1 : Int))) (List.length t ^ Int.toNat (k + (1 : Int)))) (fiS t p (Int.toNat (k + (1 : Int))) (List.length t ^ Int.toNat (k + (1 : Int))))) (pvN (fiP t p (Int.toNat (k + (1 : Int))) (List.length t ^ Int.toNat (k + (1 : Int))))) (c ++ List.replicate (List.length t ^ Int.toNat (k + (1 : Int))) (0 : Int)) x9) (Int.toNat (List.getD (fiP t p (Int.toNat (k + (1 : Int))) (List.length t ^ Int.toNat (k + (1 : Int)))) (Int.toNat (↑x9 : Int)) (0 : Int))) (0 : Int) ≤ (100 : Int)))))) ∧
 (True)) ∧
 ((InR ((↑x9 : Int) + (1 : Int))) ∧
 (∃ x10 : Nat, (((x10 ≤ List.length (fiB t p (Int.toNat (k + (1 : Int))) (List.length t ^ Int.toNat (k + (1 : Int))))) ∧
 ((chC t p k c = (0 : Int)) ∧
 (degB (↑(List.length t) : Int) (k + (1 : Int)) = Bool.true))) ∧
 ((List.length (fiB t p (Int.toNat (k + (1 : Int))) (List.length t ^ Int.toNat (k + (1 : Int)))) - x10 < List.length (fiB t p (Int.toNat (k + (1 : Int))) (List.length t ^ Int.toNat (k + (1 : Int)))) - x9) ∧
 ((p = p) ∧
 ((c = c) ∧
 (((↑x9 : Int) + (1 : Int) = (↑x10 : Int)) ∧
 ((cbL (fiB t p (Int.toNat (k + (1 : Int))) (List.length t ^ Int.toNat (k + (1 : Int)))) (fiS t p (Int.toNat (k + (1 : Int))) (List.length t ^ Int.toNat (k + (1 : Int)))) = cbL (fiB t p (Int.toNat (k + (1 : Int))) (List.length t ^ Int.toNat (k + (1 : Int)))) (fiS t p (Int.toNat (k + (1 : Int))) (List.length t ^ Int.toNat (k + (1 : Int))))) ∧
 ((fiP t p (Int.toNat (k + (1 : Int))) (List.length t ^ Int.toNat (k + (1 : Int))) = fiP t p (Int.toNat (k + (1 : Int))) (List.length t ^ Int.toNat (k + (1 : Int)))) ∧
 (stF p (p - List.getD (redN p (cbL (fiB t p (Int.toNat (k + (1 : Int))) (List.length t ^ Int.toNat (k + (1 : Int)))) (fiS t p (Int.toNat (k + (1 : Int))) (List.length t ^ Int.toNat (k + (1 : Int))))) (pvN (fiP t p (Int.toNat (k + (1 : Int))) (List.length t ^ Int.toNat (k + (1 : Int))))) (c ++ List.replicate (List.length t ^ Int.toNat (k + (1 : Int))) (0 : Int)) x9) (Int.toNat (List.getD (fiP t p (Int.toNat (k + (1 : Int))) (List.length t ^ Int.toNat (k + (1 : Int)))) (Int.toNat (↑x9 : Int)) (0 : Int))) (0 : Int)) (List.getD (cbL (fiB t p (Int.toNat (k + (1 : Int))) (List.length t ^ Int.toNat (k + (1 : Int)))) (fiS t p (Int.toNat (k + (1 : Int))) (List.length t ^ Int.toNat (k + (1 : Int))))) (Int.toNat (↑x9 : Int)) []) (redN p (cbL (fiB t p (Int.toNat (k + (1 : Int))) (List.length t ^ Int.toNat (k + (1 : Int)))) (fiS t p (Int.toNat (k + (1 : Int))) (List.length t ^ Int.toNat (k + (1 : Int))))) (pvN (fiP t p (Int.toNat (k + (1 : Int))) (List.length t ^ Int.toNat (k + (1 : Int))))) (c ++ List.replicate (List.length t ^ Int.toNat (k + (1 : Int))) (0 : Int)) x9) = redN p (cbL (fiB t p (Int.toNat (k + (1 : Int))) (List.length t ^ Int.toNat (k + (1 : Int)))) (fiS t p (Int.toNat (k + (1 : Int))) (List.length t ^ Int.toNat (k + (1 : Int))))) (pvN (fiP t p (Int.toNat (k + (1 : Int))) (List.length t ^ Int.toNat (k + (1 : Int))))) (c ++ List.replicate (List.length t ^ Int.toNat (k + (1 : Int))) (0 : Int)) x10))))))))))))))
 ((InR ((↑x9 : Int) + (1 : Int))) ∧
 (∃ x11 : Nat, (((x11 ≤ List.length (fiB t p (Int.toNat (k + (1 : Int))) (List.length t ^ Int.toNat (k + (1 : Int))))) ∧
 ((chC t p k c = (0 : Int)) ∧
 (degB (↑(List.length t) : Int) (k + (1 : Int)) = Bool.true))) ∧
 ((List.length (fiB t p (Int.toNat (k + (1 : Int))) (List.length t ^ Int.toNat (k + (1 : Int)))) - x11 < List.length (fiB t p (Int.toNat (k + (1 : Int))) (List.length t ^ Int.toNat (k + (1 : Int)))) - x9) ∧
 ((p = p) ∧
 ((c = c) ∧
 (((↑x9 : Int) + (1 : Int) = (↑x11 : Int)) ∧
 ((cbL (fiB t p (Int.toNat (k + (1 : Int))) (List.length t ^ Int.toNat (k + (1 : Int)))) (fiS t p (Int.toNat (k + (1 : Int))) (List.length t ^ Int.toNat (k + (1 : Int)))) = cbL (fiB t p (Int.toNat (k + (1 : Int))) (List.length t ^ Int.toNat (k + (1 : Int)))) (fiS t p (Int.toNat (k + (1 : Int))) (List.length t ^ Int.toNat (k + (1 : Int))))) ∧
 ((fiP t p (Int.toNat (k + (1 : Int))) (List.length t ^ Int.toNat (k + (1 : Int))) = fiP t p (Int.toNat (k + (1 : Int))) (List.length t ^ Int.toNat (k + (1 : Int)))) ∧
 (redN p (cbL (fiB t p (Int.toNat (k + (1 : Int))) (List.length t ^ Int.toNat (k + (1 : Int)))) (fiS t p (Int.toNat (k + (1 : Int))) (List.length t ^ Int.toNat (k + (1 : Int))))) (pvN (fiP t p (Int.toNat (k + (1 : Int))) (List.length t ^ Int.toNat (k + (1 : Int))))) (c ++ List.replicate (List.length t ^ Int.toNat (k + (1 : Int))) (0 : Int)) x9 = redN p (cbL (fiB t p (Int.toNat (k + (1 : Int))) (List.length t ^ Int.toNat (k + (1 : Int)))) (fiS t p (Int.toNat (k + (1 : Int))) (List.length t ^ Int.toNat (k + (1 : Int))))) (pvN (fiP t p (Int.toNat (k + (1 : Int))) (List.length t ^ Int.toNat (k + (1 : Int))))) (c ++ List.replicate (List.length t ^ Int.toNat (k + (1 : Int))) (0 : Int)) x11)))))))))))))
 ((bdsOk (List.length (redN p (cbL (fiB t p (Int.toNat (k + (1 : Int))) (List.length t ^ Int.toNat (k + (1 : Int)))) (fiS t p (Int.toNat (k + (1 : Int))) (List.length t ^ Int.toNat (k + (1 : Int))))) (pvN (fiP t p (Int.toNat (k + (1 : Int))) (List.length t ^ Int.toNat (k + (1 : Int))))) (c ++ List.replicate (List.length t ^ Int.toNat (k + (1 : Int))) (0 : Int)) x9)) Option.none (Option.some (↑(List.length c) : Int))) ∧
 (((List.length (List.take (Int.toNat (↑(List.length c) : Int)) (List.drop (0 : Nat) (redN p (cbL (fiB t p (Int.toNat (k + (1 : Int))) (List.length t ^ Int.toNat (k + (1 : Int)))) (fiS t p (Int.toNat (k + (1 : Int))) (List.length t ^ Int.toNat (k + (1 : Int))))) (pvN (fiP t p (Int.toNat (k + (1 : Int))) (List.length t ^ Int.toNat (k + (1 : Int))))) (c ++ List.replicate (List.length t ^ Int.toNat (k + (1 : Int))) (0 : Int)) x9))) ≤ (1000 : Nat)) ∧
 (True)) ∧
 (BrP (Decidable.decide ((0 : Int) ≤ ldF (List.take (Int.toNat (↑(List.length c) : Int)) (List.drop (0 : Nat) (redN p (cbL (fiB t p (Int.toNat (k + (1 : Int))) (List.length t ^ Int.toNat (k + (1 : Int)))) (fiS t p (Int.toNat (k + (1 : Int))) (List.length t ^ Int.toNat (k + (1 : Int))))) (pvN (fiP t p (Int.toNat (k + (1 : Int))) (List.length t ^ Int.toNat (k + (1 : Int))))) (c ++ List.replicate (List.length t ^ Int.toNat (k + (1 : Int))) (0 : Int)) x9)))))
 ((([] = Prod.fst (flC t p k c)) ∧
 (((4 : Int) = Prod.snd (flC t p k c)) ∧
 (True))) ∧
 (True))
 ((∃ x12 : Nat, (((x12 ≤ List.length t ^ Int.toNat (k + (1 : Int))) ∧
 ((ldF (Prod.fst (flR t p (Int.toNat (k + (1 : Int))) c)) < (0 : Int)) ∧
 ((chC t p k c = (0 : Int)) ∧
 (degB (↑(List.length t) : Int) (k + (1 : Int)) = Bool.true)))) ∧
 ((p = p) ∧
 (((↑(List.length c) : Int) = (↑(List.length c + x12) : Int)) ∧
 ((redN p (cbL (fiB t p (Int.toNat (k + (1 : Int))) (List.length t ^ Int.toNat (k + (1 : Int)))) (fiS t p (Int.toNat (k + (1 : Int))) (List.length t ^ Int.toNat (k + (1 : Int))))) (pvN (fiP t p (Int.toNat (k + (1 : Int))) (List.length t ^ Int.toNat (k + (1 : Int))))) (c ++ List.replicate (List.length t ^ Int.toNat (k + (1 : Int))) (0 : Int)) x9 = Prod.fst (flR t p (Int.toNat (k + (1 : Int))) c) ++ Prod.snd (flR t p (Int.toNat (k + (1 : Int))) c)) ∧
 ([] = List.take x12 (ngF p (Prod.snd (flR t p (Int.toNat (k + (1 : Int))) c))))))))) ∧
 (∀ x13 : Nat, (((x13 ≤ List.length t ^ Int.toNat (k + (1 : Int))) ∧
 ((ldF (Prod.fst (flR t p (Int.toNat (k + (1 : Int))) c)) < (0 : Int)) ∧
 ((chC t p k c = (0 : Int)) ∧
 (degB (↑(List.length t) : Int) (k + (1 : Int)) = Bool.true)))) →
 (BrP (Decidable.decide ((↑(List.length c + x13) : Int) < (↑(List.length (Prod.fst (flR t p (Int.toNat (k + (1 : Int))) c) ++ Prod.snd (flR t p (Int.toNat (k + (1 : Int))) c))) : Int)))
 ((inB (↑(List.length c + x13) : Int) (List.length (Prod.fst (flR t p (Int.toNat (k + (1 : Int))) c) ++ Prod.snd (flR t p (Int.toNat (k + (1 : Int))) c)))) ∧
 ((InR (p - List.getD (Prod.fst (flR t p (Int.toNat (k + (1 : Int))) c) ++ Prod.snd (flR t p (Int.toNat (k + (1 : Int))) c)) (Int.toNat (↑(List.length c + x13) : Int)) (0 : Int))) ∧
 ((p ≠ (0 : Int)) ∧
 ((room (List.length (List.take x13 (ngF p (Prod.snd (flR t p (Int.toNat (k + (1 : Int))) c)))) + List.length [Int.tmod (p - List.getD (Prod.fst (flR t p (Int.toNat (k + (1 : Int))) c) ++ Prod.snd (flR t p (Int.toNat (k + (1 : Int))) c)) (Int.toNat (↑(List.length c + x13) : Int)) (0 : Int)) p])) ∧
 ((InR ((↑(List.length c + x13) : Int) + (1 : Int))) ∧
 (∃ x14 : Nat, (((x14 ≤ List.length t ^ Int.toNat (k + (1 : Int))) ∧
 ((ldF (Prod.fst (flR t p (Int.toNat (k + (1 : Int))) c)) < (0 : Int)) ∧
 ((chC t p k c = (0 : Int)) ∧
 (degB (↑(List.length t) : Int) (k + (1 : Int)) = Bool.true)))) ∧
 ((List.length t ^ Int.toNat (k + (1 : Int)) - x14 < List.length t ^ Int.toNat (k + (1 : Int)) - x13) ∧
 ((p = p) ∧
 (((↑(List.length c + x13) : Int) + (1 : Int) = (↑(List.length c + x14) : Int)) ∧
 ((Prod.fst (flR t p (Int.toNat (k + (1 : Int))) c) ++ Prod.snd (flR t p (Int.toNat (k + (1 : Int))) c) = Prod.fst (flR t p (Int.toNat (k + (1 : Int))) c) ++ Prod.snd (flR t p (Int.toNat (k + (1 : Int))) c)) ∧
 (List.take x13 (ngF p (Prod.snd (flR t p (Int.toNat (k + (1 : Int))) c))) ++ [Int.tmod (p - List.getD (Prod.fst (flR t p (Int.toNat (k + (1 : Int))) c) ++ Prod.snd (flR t p (Int.toNat (k + (1 : Int))) c)) (Int.toNat (↑(List.length c + x13) : Int)) (0 : Int)) p] = List.take x14 (ngF p (Prod.snd (flR t p (Int.toNat (k + (1 : Int))) c)))))))))))))))
 (((List.take x13 (ngF p (Prod.snd (flR t p (Int.toNat (k + (1 : Int))) c))) = Prod.fst (flC t p k c)) ∧
 (((0 : Int) = Prod.snd (flC t p k c)) ∧
 (True))) ∧
 (True)))))))))))))))))))))))))
 (BrP (dgC t p k != (0 : Int))
 ((([] = Prod.fst (flC t p k c)) ∧
 ((dgC t p k = Prod.snd (flC t p k c)) ∧
 (True))) ∧
 (True))
 ((InR (k + (1 : Int))) ∧
 (((((1 : Int) ≤ (↑(List.length t) : Int)) ∧
 (((↑(List.length t) : Int) ≤ (12 : Int)) ∧
 (((0 : Int) ≤ k + (1 : Int)) ∧
 (k + (1 : Int) ≤ (1000 : Int))))) ∧
 (True)) ∧
 ((∃ x15 : Nat, (((x15 ≤ List.length t ^ Int.toNat (k + (1 : Int))) ∧
 ((chC t p k c = (0 : Int)) ∧
 (degB (↑(List.length t) : Int) (k + (1 : Int)) = Bool.true))) ∧
 ((p = p) ∧
 ((k = k) ∧
 ((c = c) ∧
 (((↑(List.length t) : Int) = (↑(List.length t) : Int)) ∧
 (((if (↑(List.length t) : Int) ^ Int.toNat (k + (1 : Int)) ≤ (512 : Int) then (↑(List.length t) : Int) ^ Int.toNat (k + (1 : Int)) else (513 : Int)) = (↑(List.length t ^ Int.toNat (k + (1 : Int))) : Int)) ∧
 (((0 : Int) = (↑x15 : Int)) ∧
 ((t = t) ∧
 (([] = cbL (fiB t p (Int.toNat (k + (1 : Int))) x15) (fiS t p (Int.toNat (k + (1 : Int))) x15)) ∧
 ([] = fiP t p (Int.toNat (k + (1 : Int))) x15))))))))))) ∧
 (∀ x16 : Nat, (((x16 ≤ List.length t ^ Int.toNat (k + (1 : Int))) ∧
 ((chC t p k c = (0 : Int)) ∧
 (degB (↑(List.length t) : Int) (k + (1 : Int)) = Bool.true))) →
 (BrP (Decidable.decide ((↑x16 : Int) < (↑(List.length t ^ Int.toNat (k + (1 : Int))) : Int)))
 ((InR (k + (1 : Int))) ∧
 (((((1 : Int) ≤ (↑(List.length t) : Int)) ∧
 (((0 : Int) ≤ k + (1 : Int)) ∧
 ((k + (1 : Int) ≤ (1000 : Int)) ∧
 (((0 : Int) ≤ (↑x16 : Int)) ∧
 ((↑x16 : Int) ≤ (1000000 : Int)))))) ∧
 (True)) ∧
 ((((bdOk t p (digN (↑(List.length t) : Int) (Int.toNat (k + (1 : Int))) (↑x16 : Int))) ∧
 ((1 : Nat) ≤ List.length (digN (↑(List.length t) : Int) (Int.toNat (k + (1 : Int))) (↑x16 : Int)))) ∧
 (True)) ∧
 ((((0 : Int) ≤ (↑(List.length t ^ Int.toNat (k + (1 : Int))) : Int)) ∧
 (((↑(List.length t ^ Int.toNat (k + (1 : Int))) : Int) ≤ (↑(List.length t ^ Int.toNat (k + (1 : Int))) : Int)) ∧
 (room (Int.toNat (↑(List.length t ^ Int.toNat (k + (1 : Int))) : Int))))) ∧
 ((inB (↑x16 : Int) (List.length (List.replicate (Int.toNat (↑(List.length t ^ Int.toNat (k + (1 : Int))) : Int)) (0 : Int)))) ∧
 ((room (List.length (ptF t p (digN (↑(List.length t) : Int) (Int.toNat (k + (1 : Int))) (↑x16 : Int)) (List.length (digN (↑(List.length t) : Int) (Int.toNat (k + (1 : Int))) (↑x16 : Int)))) + List.length (List.set (List.replicate (Int.toNat (↑(List.length t ^ Int.toNat (k + (1 : Int))) : Int)) (0 : Int)) (Int.toNat (↑x16 : Int)) (1 : Int)))) ∧
 ((∃ x17 : Nat, (((x17 ≤ List.length (fiB t p (Int.toNat (k + (1 : Int))) x16)) ∧
 ((x16 < List.length t ^ Int.toNat (k + (1 : Int))) ∧
 ((chC t p k c = (0 : Int)) ∧
 (degB (↑(List.length t) : Int) (k + (1 : Int)) = Bool.true)))) ∧
 ((p = p) ∧
 ((k = k) ∧
 ((c = c) ∧
 (((↑(List.length t) : Int) = (↑(List.length t) : Int)) ∧
 (((↑(List.length t ^ Int.toNat (k + (1 : Int))) : Int) = (↑(List.length t ^ Int.toNat (k + (1 : Int))) : Int)) ∧
 (((↑x16 : Int) = (↑x16 : Int)) ∧
 (((0 : Int) = (↑x17 : Int)) ∧
 ((t = t) ∧
 ((cbL (fiB t p (Int.toNat (k + (1 : Int))) x16) (fiS t p (Int.toNat (k + (1 : Int))) x16) = cbL (fiB t p (Int.toNat (k + (1 : Int))) x16) (fiS t p (Int.toNat (k + (1 : Int))) x16)) ∧
 ((fiP t p (Int.toNat (k + (1 : Int))) x16 = fiP t p (Int.toNat (k + (1 : Int))) x16) ∧
 (ptF t p (digN (↑(List.length t) : Int) (Int.toNat (k + (1 : Int))) (↑x16 : Int)) (List.length (digN (↑(List.length t) : Int) (Int.toNat (k + (1 : Int))) (↑x16 : Int))) ++ List.set (List.replicate (Int.toNat (↑(List.length t ^ Int.toNat (k + (1 : Int))) : Int)) (0 : Int)) (Int.toNat (↑x16 : Int)) (1 : Int) = redN p (cbL (fiB t p (Int.toNat (k + (1 : Int))) x16) (fiS t p (Int.toNat (k + (1 : Int))) x16)) (pvN (fiP t p (Int.toNat (k + (1 : Int))) x16)) (btF t p (Int.toNat (k + (1 : Int))) x16 ++ ehN (List.length t ^ Int.toNat (k + (1 : Int))) x16) x17))))))))))))) ∧
 (∀ x18 : Nat, (((x18 ≤ List.length (fiB t p (Int.toNat (k + (1 : Int))) x16)) ∧
 ((x16 < List.length t ^ Int.toNat (k + (1 : Int))) ∧
 ((chC t p k c = (0 : Int)) ∧
 (degB (↑(List.length t) : Int) (k + (1 : Int)) = Bool.true)))) →
 (BrP (Decidable.decide ((↑x18 : Int) < (↑(List.length (cbL (fiB t p (Int.toNat (k + (1 : Int))) x16) (fiS t p (Int.toNat (k + (1 : Int))) x16))) : Int)))
 ((inB (↑x18 : Int) (List.length (fiP t p (Int.toNat (k + (1 : Int))) x16))) ∧
 ((inB (List.getD (fiP t p (Int.toNat (k + (1 : Int))) x16) (Int.toNat (↑x18 : Int)) (0 : Int)) (List.length (redN p (cbL (fiB t p (Int.toNat (k + (1 : Int))) x16) (fiS t p (Int.toNat (k + (1 : Int))) x16)) (pvN (fiP t p (Int.toNat (k + (1 : Int))) x16)) (btF t p (Int.toNat (k + (1 : Int))) x16 ++ ehN (List.length t ^ Int.toNat (k + (1 : Int))) x16) x18))) ∧
 (BrP (List.getD (redN p (cbL (fiB t p (Int.toNat (k + (1 : Int))) x16) (fiS t p (Int.toNat (k + (1 : Int))) x16)) (pvN (fiP t p (Int.toNat (k + (1 : Int))) x16)) (btF t p (Int.toNat (k + (1 : Int))) x16 ++ ehN (List.length t ^ Int.toNat (k + (1 : Int))) x16) x18) (Int.toNat (List.getD (fiP t p (Int.toNat (k + (1 : Int))) x16) (Int.toNat (↑x18 : Int)) (0 : Int))) (0 : Int) != (0 : Int))
 ((inB (↑x18 : Int) (List.length (cbL (fiB t p (Int.toNat (k + (1 : Int))) x16) (fiS t p (Int.toNat (k + (1 : Int))) x16)))) ∧
 ((inB (↑x18 : Int) (List.length (fiP t p (Int.toNat (k + (1 : Int))) x16))) ∧
 ((inB (List.getD (fiP t p (Int.toNat (k + (1 : Int))) x16) (Int.toNat (↑x18 : Int)) (0 : Int)) (List.length (redN p (cbL (fiB t p (Int.toNat (k + (1 : Int))) x16) (fiS t p (Int.toNat (k + (1 : Int))) x16)) (pvN (fiP t p (Int.toNat (k + (1 : Int))) x16)) (btF t p (Int.toNat (k + (1 : Int))) x16 ++ ehN (List.length t ^ Int.toNat (k + (1 : Int))) x16) x18))) ∧
 ((((twR p (redN p (cbL (fiB t p (Int.toNat (k + (1 : Int))) x16) (fiS t p (Int.toNat (k + (1 : Int))) x16)) (pvN (fiP t p (Int.toNat (k + (1 : Int))) x16)) (btF t p (Int.toNat (k + (1 : Int))) x16 ++ ehN (List.length t ^ Int.toNat (k + (1 : Int))) x16) x18) (List.getD (cbL (fiB t p (Int.toNat (k + (1 : Int))) x16) (fiS t p (Int.toNat (k + (1 : Int))) x16)) (Int.toNat (↑x18 : Int)) [])) ∧
 (((0 : Int) ≤ p - List.getD (redN p (cbL (fiB t p (Int.toNat (k + (1 : Int))) x16) (fiS t p (Int.toNat (k + (1 : Int))) x16)) (pvN (fiP t p (Int.toNat (k + (1 : Int))) x16)) (btF t p (Int.toNat (k + (1 : Int))) x16 ++ ehN (List.length t ^ Int.toNat (k + (1 : Int))) x16) x18) (Int.toNat (List.getD (fiP t p (Int.toNat (k + (1 : Int))) x16) (Int.toNat (↑x18 : Int)) (0 : Int))) (0 : Int)) ∧
 ((p - List.getD (redN p (cbL (fiB t p (Int.toNat (k + (1 : Int))) x16) (fiS t p (Int.toNat (k + (1 : Int))) x16)) (pvN (fiP t p (Int.toNat (k + (1 : Int))) x16)) (btF t p (Int.toNat (k + (1 : Int))) x16 ++ ehN (List.length t ^ Int.toNat (k + (1 : Int))) x16) x18) (Int.toNat (List.getD (fiP t p (Int.toNat (k + (1 : Int))) x16) (Int.toNat (↑x18 : Int)) (0 : Int))) (0 : Int) ≤ (7 : Int)) ∧
 (((-100 : Int) ≤ List.getD (redN p (cbL (fiB t p (Int.toNat (k + (1 : Int))) x16) (fiS t p (Int.toNat (k + (1 : Int))) x16)) (pvN (fiP t p (Int.toNat (k + (1 : Int))) x16)) (btF t p (Int.toNat (k + (1 : Int))) x16 ++ ehN (List.length t ^ Int.toNat (k + (1 : Int))) x16) x18) (Int.toNat (List.getD (fiP t p (Int.toNat (k + (1 : Int))) x16) (Int.toNat (↑x18 : Int)) (0 : Int))) (0 : Int)) ∧
 (List.getD (redN p (cbL (fiB t p (Int.toNat (k + (1 : Int))) x16) (fiS t p (Int.toNat (k + (1 : Int))) x16)) (pvN (fiP t p (Int.toNat (k + (1 : Int))) x16)) (btF t p (Int.toNat (k + (1 : Int))) x16 ++ ehN (List.length t ^ Int.toNat (k + (1 : Int))) x16) x18) (Int.toNat (List.getD (fiP t p (Int.toNat (k + (1 : Int))) x16) (Int.toNat (↑x18 : Int)) (0 : Int))) (0 : Int) ≤ (100 : Int)))))) ∧
 (True)) ∧
 ((InR ((↑x18 : Int) + (1 : Int))) ∧
 (∃ x19 : Nat, (((x19 ≤ List.length (fiB t p (Int.toNat (k + (1 : Int))) x16)) ∧
 ((x16 < List.length t ^ Int.toNat (k + (1 : Int))) ∧
 ((chC t p k c = (0 : Int)) ∧
 (degB (↑(List.length t) : Int) (k + (1 : Int)) = Bool.true)))) ∧
 ((List.length (fiB t p (Int.toNat (k + (1 : Int))) x16) - x19 < List.length (fiB t p (Int.toNat (k + (1 : Int))) x16) - x18) ∧
 ((p = p) ∧
 ((k = k) ∧
 ((c = c) ∧
 (((↑(List.length t) : Int) = (↑(List.length t) : Int)) ∧
 (((↑(List.length t ^ Int.toNat (k + (1 : Int))) : Int) = (↑(List.length t ^ Int.toNat (k + (1 : Int))) : Int)) ∧
 (((↑x16 : Int) = (↑x16 : Int)) ∧
 (((↑x18 : Int) + (1 : Int) = (↑x19 : Int)) ∧
 ((t = t) ∧
 ((cbL (fiB t p (Int.toNat (k + (1 : Int))) x16) (fiS t p (Int.toNat (k + (1 : Int))) x16) = cbL (fiB t p (Int.toNat (k + (1 : Int))) x16) (fiS t p (Int.toNat (k + (1 : Int))) x16)) ∧
 ((fiP t p (Int.toNat (k + (1 : Int))) x16 = fiP t p (Int.toNat (k + (1 : Int))) x16) ∧
 (stF p (p - List.getD (redN p (cbL (fiB t p (Int.toNat (k + (1 : Int))) x16) (fiS t p (Int.toNat (k + (1 : Int))) x16)) (pvN (fiP t p (Int.toNat (k + (1 : Int))) x16)) (btF t p (Int.toNat (k + (1 : Int))) x16 ++ ehN (List.length t ^ Int.toNat (k + (1 : Int))) x16) x18) (Int.toNat (List.getD (fiP t p (Int.toNat (k + (1 : Int))) x16) (Int.toNat (↑x18 : Int)) (0 : Int))) (0 : Int)) (List.getD (cbL (fiB t p (Int.toNat (k + (1 : Int))) x16) (fiS t p (Int.toNat (k + (1 : Int))) x16)) (Int.toNat (↑x18 : Int)) []) (redN p (cbL (fiB t p (Int.toNat (k + (1 : Int))) x16) (fiS t p (Int.toNat (k + (1 : Int))) x16)) (pvN (fiP t p (Int.toNat (k + (1 : Int))) x16)) (btF t p (Int.toNat (k + (1 : Int))) x16 ++ ehN (List.length t ^ Int.toNat (k + (1 : Int))) x16) x18) = redN p (cbL (fiB t p (Int.toNat (k + (1 : Int))) x16) (fiS t p (Int.toNat (k + (1 : Int))) x16)) (pvN (fiP t p (Int.toNat (k + (1 : Int))) x16)) (btF t p (Int.toNat (k + (1 : Int))) x16 ++ ehN (List.length t ^ Int.toNat (k + (1 : Int))) x16) x19)))))))))))))))))))
 ((InR ((↑x18 : Int) + (1 : Int))) ∧
 (∃ x20 : Nat, (((x20 ≤ List.length (fiB t p (Int.toNat (k + (1 : Int))) x16)) ∧
 ((x16 < List.length t ^ Int.toNat (k + (1 : Int))) ∧
 ((chC t p k c = (0 : Int)) ∧
 (degB (↑(List.length t) : Int) (k + (1 : Int)) = Bool.true)))) ∧
 ((List.length (fiB t p (Int.toNat (k + (1 : Int))) x16) - x20 < List.length (fiB t p (Int.toNat (k + (1 : Int))) x16) - x18) ∧
 ((p = p) ∧
 ((k = k) ∧
 ((c = c) ∧
 (((↑(List.length t) : Int) = (↑(List.length t) : Int)) ∧
 (((↑(List.length t ^ Int.toNat (k + (1 : Int))) : Int) = (↑(List.length t ^ Int.toNat (k + (1 : Int))) : Int)) ∧
 (((↑x16 : Int) = (↑x16 : Int)) ∧
 (((↑x18 : Int) + (1 : Int) = (↑x20 : Int)) ∧
 ((t = t) ∧
 ((cbL (fiB t p (Int.toNat (k + (1 : Int))) x16) (fiS t p (Int.toNat (k + (1 : Int))) x16) = cbL (fiB t p (Int.toNat (k + (1 : Int))) x16) (fiS t p (Int.toNat (k + (1 : Int))) x16)) ∧
 ((fiP t p (Int.toNat (k + (1 : Int))) x16 = fiP t p (Int.toNat (k + (1 : Int))) x16) ∧
 (redN p (cbL (fiB t p (Int.toNat (k + (1 : Int))) x16) (fiS t p (Int.toNat (k + (1 : Int))) x16)) (pvN (fiP t p (Int.toNat (k + (1 : Int))) x16)) (btF t p (Int.toNat (k + (1 : Int))) x16 ++ ehN (List.length t ^ Int.toNat (k + (1 : Int))) x16) x18 = redN p (cbL (fiB t p (Int.toNat (k + (1 : Int))) x16) (fiS t p (Int.toNat (k + (1 : Int))) x16)) (pvN (fiP t p (Int.toNat (k + (1 : Int))) x16)) (btF t p (Int.toNat (k + (1 : Int))) x16 ++ ehN (List.length t ^ Int.toNat (k + (1 : Int))) x16) x20))))))))))))))))))
 ((bdsOk (List.length (redN p (cbL (fiB t p (Int.toNat (k + (1 : Int))) x16) (fiS t p (Int.toNat (k + (1 : Int))) x16)) (pvN (fiP t p (Int.toNat (k + (1 : Int))) x16)) (btF t p (Int.toNat (k + (1 : Int))) x16 ++ ehN (List.length t ^ Int.toNat (k + (1 : Int))) x16) x18)) Option.none (Option.some (↑(List.length c) : Int))) ∧
 (((List.length (List.take (Int.toNat (↑(List.length c) : Int)) (List.drop (0 : Nat) (redN p (cbL (fiB t p (Int.toNat (k + (1 : Int))) x16) (fiS t p (Int.toNat (k + (1 : Int))) x16)) (pvN (fiP t p (Int.toNat (k + (1 : Int))) x16)) (btF t p (Int.toNat (k + (1 : Int))) x16 ++ ehN (List.length t ^ Int.toNat (k + (1 : Int))) x16) x18))) ≤ (1000 : Nat)) ∧
 (True)) ∧
 (BrP (Decidable.decide ((0 : Int) ≤ ldF (List.take (Int.toNat (↑(List.length c) : Int)) (List.drop (0 : Nat) (redN p (cbL (fiB t p (Int.toNat (k + (1 : Int))) x16) (fiS t p (Int.toNat (k + (1 : Int))) x16)) (pvN (fiP t p (Int.toNat (k + (1 : Int))) x16)) (btF t p (Int.toNat (k + (1 : Int))) x16 ++ ehN (List.length t ^ Int.toNat (k + (1 : Int))) x16) x18)))))
 ((((0 : Int) ≤ (↑(List.length (redN p (cbL (fiB t p (Int.toNat (k + (1 : Int))) x16) (fiS t p (Int.toNat (k + (1 : Int))) x16)) (pvN (fiP t p (Int.toNat (k + (1 : Int))) x16)) (btF t p (Int.toNat (k + (1 : Int))) x16 ++ ehN (List.length t ^ Int.toNat (k + (1 : Int))) x16) x18)) : Int)) ∧
 (((↑(List.length (redN p (cbL (fiB t p (Int.toNat (k + (1 : Int))) x16) (fiS t p (Int.toNat (k + (1 : Int))) x16)) (pvN (fiP t p (Int.toNat (k + (1 : Int))) x16)) (btF t p (Int.toNat (k + (1 : Int))) x16 ++ ehN (List.length t ^ Int.toNat (k + (1 : Int))) x16) x18)) : Int) ≤ (↑(List.length (redN p (cbL (fiB t p (Int.toNat (k + (1 : Int))) x16) (fiS t p (Int.toNat (k + (1 : Int))) x16)) (pvN (fiP t p (Int.toNat (k + (1 : Int))) x16)) (btF t p (Int.toNat (k + (1 : Int))) x16 ++ ehN (List.length t ^ Int.toNat (k + (1 : Int))) x16) x18)) : Int)) ∧
 (room (Int.toNat (↑(List.length (redN p (cbL (fiB t p (Int.toNat (k + (1 : Int))) x16) (fiS t p (Int.toNat (k + (1 : Int))) x16)) (pvN (fiP t p (Int.toNat (k + (1 : Int))) x16)) (btF t p (Int.toNat (k + (1 : Int))) x16 ++ ehN (List.length t ^ Int.toNat (k + (1 : Int))) x16) x18)) : Int))))) ∧
 ((inB (ldF (List.take (Int.toNat (↑(List.length c) : Int)) (List.drop (0 : Nat) (redN p (cbL (fiB t p (Int.toNat (k + (1 : Int))) x16) (fiS t p (Int.toNat (k + (1 : Int))) x16)) (pvN (fiP t p (Int.toNat (k + (1 : Int))) x16)) (btF t p (Int.toNat (k + (1 : Int))) x16 ++ ehN (List.length t ^ Int.toNat (k + (1 : Int))) x16) x18)))) (List.length (redN p (cbL (fiB t p (Int.toNat (k + (1 : Int))) x16) (fiS t p (Int.toNat (k + (1 : Int))) x16)) (pvN (fiP t p (Int.toNat (k + (1 : Int))) x16)) (btF t p (Int.toNat (k + (1 : Int))) x16 ++ ehN (List.length t ^ Int.toNat (k + (1 : Int))) x16) x18))) ∧
 ((((primeB p = Bool.true) ∧
 (((1 : Int) ≤ List.getD (redN p (cbL (fiB t p (Int.toNat (k + (1 : Int))) x16) (fiS t p (Int.toNat (k + (1 : Int))) x16)) (pvN (fiP t p (Int.toNat (k + (1 : Int))) x16)) (btF t p (Int.toNat (k + (1 : Int))) x16 ++ ehN (List.length t ^ Int.toNat (k + (1 : Int))) x16) x18) (Int.toNat (ldF (List.take (Int.toNat (↑(List.length c) : Int)) (List.drop (0 : Nat) (redN p (cbL (fiB t p (Int.toNat (k + (1 : Int))) x16) (fiS t p (Int.toNat (k + (1 : Int))) x16)) (pvN (fiP t p (Int.toNat (k + (1 : Int))) x16)) (btF t p (Int.toNat (k + (1 : Int))) x16 ++ ehN (List.length t ^ Int.toNat (k + (1 : Int))) x16) x18))))) (0 : Int)) ∧
 (List.getD (redN p (cbL (fiB t p (Int.toNat (k + (1 : Int))) x16) (fiS t p (Int.toNat (k + (1 : Int))) x16)) (pvN (fiP t p (Int.toNat (k + (1 : Int))) x16)) (btF t p (Int.toNat (k + (1 : Int))) x16 ++ ehN (List.length t ^ Int.toNat (k + (1 : Int))) x16) x18) (Int.toNat (ldF (List.take (Int.toNat (↑(List.length c) : Int)) (List.drop (0 : Nat) (redN p (cbL (fiB t p (Int.toNat (k + (1 : Int))) x16) (fiS t p (Int.toNat (k + (1 : Int))) x16)) (pvN (fiP t p (Int.toNat (k + (1 : Int))) x16)) (btF t p (Int.toNat (k + (1 : Int))) x16 ++ ehN (List.length t ^ Int.toNat (k + (1 : Int))) x16) x18))))) (0 : Int) ≤ p - (1 : Int)))) ∧
 (True)) ∧
 ((InR (p - ivM p (List.getD (redN p (cbL (fiB t p (Int.toNat (k + (1 : Int))) x16) (fiS t p (Int.toNat (k + (1 : Int))) x16)) (pvN (fiP t p (Int.toNat (k + (1 : Int))) x16)) (btF t p (Int.toNat (k + (1 : Int))) x16 ++ ehN (List.length t ^ Int.toNat (k + (1 : Int))) x16) x18) (Int.toNat (ldF (List.take (Int.toNat (↑(List.length c) : Int)) (List.drop (0 : Nat) (redN p (cbL (fiB t p (Int.toNat (k + (1 : Int))) x16) (fiS t p (Int.toNat (k + (1 : Int))) x16)) (pvN (fiP t p (Int.toNat (k + (1 : Int))) x16)) (btF t p (Int.toNat (k + (1 : Int))) x16 ++ ehN (List.length t ^ Int.toNat (k + (1 : Int))) x16) x18))))) (0 : Int)))) ∧
 ((((twR p (List.replicate (Int.toNat (↑(List.length (redN p (cbL (fiB t p (Int.toNat (k + (1 : Int))) x16) (fiS t p (Int.toNat (k + (1 : Int))) x16)) (pvN (fiP t p (Int.toNat (k + (1 : Int))) x16)) (btF t p (Int.toNat (k + (1 : Int))) x16 ++ ehN (List.length t ^ Int.toNat (k + (1 : Int))) x16) x18)) : Int)) (0 : Int)) (redN p (cbL (fiB t p (Int.toNat (k + (1 : Int))) x16) (fiS t p (Int.toNat (k + (1 : Int))) x16)) (pvN (fiP t p (Int.toNat (k + (1 : Int))) x16)) (btF t p (Int.toNat (k + (1 : Int))) x16 ++ ehN (List.length t ^ Int.toNat (k + (1 : Int))) x16) x18)) ∧
 (((0 : Int) ≤ p - (p - ivM p (List.getD (redN p (cbL (fiB t p (Int.toNat (k + (1 : Int))) x16) (fiS t p (Int.toNat (k + (1 : Int))) x16)) (pvN (fiP t p (Int.toNat (k + (1 : Int))) x16)) (btF t p (Int.toNat (k + (1 : Int))) x16 ++ ehN (List.length t ^ Int.toNat (k + (1 : Int))) x16) x18) (Int.toNat (ldF (List.take (Int.toNat (↑(List.length c) : Int)) (List.drop (0 : Nat) (redN p (cbL (fiB t p (Int.toNat (k + (1 : Int))) x16) (fiS t p (Int.toNat (k + (1 : Int))) x16)) (pvN (fiP t p (Int.toNat (k + (1 : Int))) x16)) (btF t p (Int.toNat (k + (1 : Int))) x16 ++ ehN (List.length t ^ Int.toNat (k + (1 : Int))) x16) x18))))) (0 : Int)))) ∧
 ((p - (p - ivM p (List.getD (redN p (cbL (fiB t p (Int.toNat (k + (1 : Int))) x16) (fiS t p (Int.toNat (k + (1 : Int))) x16)) (pvN (fiP t p (Int.toNat (k + (1 : Int))) x16)) (btF t p (Int.toNat (k + (1 : Int))) x16 ++ ehN (List.length t ^ Int.toNat (k + (1 : Int))) x16) x18) (Int.toNat (ldF (List.take (Int.toNat (↑(List.length c) : Int)) (List.drop (0 : Nat) (redN p (cbL (fiB t p (Int.toNat (k + (1 : Int))) x16) (fiS t p (Int.toNat (k + (1 : Int))) x16)) (pvN (fiP t p (Int.toNat (k + (1 : Int))) x16)) (btF t p (Int.toNat (k + (1 : Int))) x16 ++ ehN (List.length t ^ Int.toNat (k + (1 : Int))) x16) x18))))) (0 : Int))) ≤ (7 : Int)) ∧
 (((-100 : Int) ≤ p - ivM p (List.getD (redN p (cbL (fiB t p (Int.toNat (k + (1 : Int))) x16) (fiS t p (Int.toNat (k + (1 : Int))) x16)) (pvN (fiP t p (Int.toNat (k + (1 : Int))) x16)) (btF t p (Int.toNat (k + (1 : Int))) x16 ++ ehN (List.length t ^ Int.toNat (k + (1 : Int))) x16) x18) (Int.toNat (ldF (List.take (Int.toNat (↑(List.length c) : Int)) (List.drop (0 : Nat) (redN p (cbL (fiB t p (Int.toNat (k + (1 : Int))) x16) (fiS t p (Int.toNat (k + (1 : Int))) x16)) (pvN (fiP t p (Int.toNat (k + (1 : Int))) x16)) (btF t p (Int.toNat (k + (1 : Int))) x16 ++ ehN (List.length t ^ Int.toNat (k + (1 : Int))) x16) x18))))) (0 : Int))) ∧
 (p - ivM p (List.getD (redN p (cbL (fiB t p (Int.toNat (k + (1 : Int))) x16) (fiS t p (Int.toNat (k + (1 : Int))) x16)) (pvN (fiP t p (Int.toNat (k + (1 : Int))) x16)) (btF t p (Int.toNat (k + (1 : Int))) x16 ++ ehN (List.length t ^ Int.toNat (k + (1 : Int))) x16) x18) (Int.toNat (ldF (List.take (Int.toNat (↑(List.length c) : Int)) (List.drop (0 : Nat) (redN p (cbL (fiB t p (Int.toNat (k + (1 : Int))) x16) (fiS t p (Int.toNat (k + (1 : Int))) x16)) (pvN (fiP t p (Int.toNat (k + (1 : Int))) x16)) (btF t p (Int.toNat (k + (1 : Int))) x16 ++ ehN (List.length t ^ Int.toNat (k + (1 : Int))) x16) x18))))) (0 : Int)) ≤ (100 : Int)))))) ∧
 (True)) ∧
 ((room (List.length (cbL (fiB t p (Int.toNat (k + (1 : Int))) x16) (fiS t p (Int.toNat (k + (1 : Int))) x16)) + List.length [stF p (p - (p - ivM p (List.getD (redN p (cbL (fiB t p (Int.toNat (k + (1 : Int))) x16) (fiS t p (Int.toNat (k + (1 : Int))) x16)) (pvN (fiP t p (Int.toNat (k + (1 : Int))) x16)) (btF t p (Int.toNat (k + (1 : Int))) x16 ++ ehN (List.length t ^ Int.toNat (k + (1 : Int))) x16) x18) (Int.toNat (ldF (List.take (Int.toNat (↑(List.length c) : Int)) (List.drop (0 : Nat) (redN p (cbL (fiB t p (Int.toNat (k + (1 : Int))) x16) (fiS t p (Int.toNat (k + (1 : Int))) x16)) (pvN (fiP t p (Int.toNat (k + (1 : Int))) x16)) (btF t p (Int.toNat (k + (1 : Int))) x16 ++ ehN (List.length t ^ Int.toNat (k + (1 : Int))) x16) x18))))) (0 : Int)))) (redN p (cbL (fiB t p (Int.toNat (k + (1 : Int))) x16) (fiS t p (Int.toNat (k + (1 : Int))) x16)) (pvN (fiP t p (Int.toNat (k + (1 : Int))) x16)) (btF t p (Int.toNat (k + (1 : Int))) x16 ++ ehN (List.length t ^ Int.toNat (k + (1 : Int))) x16) x18) (List.replicate (Int.toNat (↑(List.length (redN p (cbL (fiB t p (Int.toNat (k + (1 : Int))) x16) (fiS t p (Int.toNat (k + (1 : Int))) x16)) (pvN (fiP t p (Int.toNat (k + (1 : Int))) x16)) (btF t p (Int.toNat (k + (1 : Int))) x16 ++ ehN (List.length t ^ Int.toNat (k + (1 : Int))) x16) x18)) : Int)) (0 : Int))])) ∧
 ((room (List.length (fiP t p (Int.toNat (k + (1 : Int))) x16) + List.length [ldF (List.take (Int.toNat (↑(List.length c) : Int)) (List.drop (0 : Nat) (redN p (cbL (fiB t p (Int.toNat (k + (1 : Int))) x16) (fiS t p (Int.toNat (k + (1 : Int))) x16)) (pvN (fiP t p (Int.toNat (k + (1 : Int))) x16)) (btF t p (Int.toNat (k + (1 : Int))) x16 ++ ehN (List.length t ^ Int.toNat (k + (1 : Int))) x16) x18)))])) ∧
 ((InR ((↑x16 : Int) + (1 : Int))) ∧
 (∃ x21 : Nat, (((x21 ≤ List.length t ^ Int.toNat (k + (1 : Int))) ∧
 ((chC t p k c = (0 : Int)) ∧
 (degB (↑(List.length t) : Int) (k + (1 : Int)) = Bool.true))) ∧
 ((List.length t ^ Int.toNat (k + (1 : Int)) - x21 < List.length t ^ Int.toNat (k + (1 : Int)) - x16) ∧
 ((p = p) ∧
 ((k = k) ∧
 ((c = c) ∧
 (((↑(List.length t) : Int) = (↑(List.length t) : Int)) ∧
 (((↑(List.length t ^ Int.toNat (k + (1 : Int))) : Int) = (↑(List.length t ^ Int.toNat (k + (1 : Int))) : Int)) ∧
 (((↑x16 : Int) + (1 : Int) = (↑x21 : Int)) ∧
 ((t = t) ∧
 ((cbL (fiB t p (Int.toNat (k + (1 : Int))) x16) (fiS t p (Int.toNat (k + (1 : Int))) x16) ++ [stF p (p - (p - ivM p (List.getD (redN p (cbL (fiB t p (Int.toNat (k + (1 : Int))) x16) (fiS t p (Int.toNat (k + (1 : Int))) x16)) (pvN (fiP t p (Int.toNat (k + (1 : Int))) x16)) (btF t p (Int.toNat (k + (1 : Int))) x16 ++ ehN (List.length t ^ Int.toNat (k + (1 : Int))) x16) x18) (Int.toNat (ldF (List.take (Int.toNat (↑(List.length c) : Int)) (List.drop (0 : Nat) (redN p (cbL (fiB t p (Int.toNat (k + (1 : Int))) x16) (fiS t p (Int.toNat (k + (1 : Int))) x16)) (pvN (fiP t p (Int.toNat (k + (1 : Int))) x16)) (btF t p (Int.toNat (k + (1 : Int))) x16 ++ ehN (List.length t ^ Int.toNat (k + (1 : Int))) x16) x18))))) (0 : Int)))) (redN p (cbL (fiB t p (Int.toNat (k + (1 : Int))) x16) (fiS t p (Int.toNat (k + (1 : Int))) x16)) (pvN (fiP t p (Int.toNat (k + (1 : Int))) x16)) (btF t p (Int.toNat (k + (1 : Int))) x16 ++ ehN (List.length t ^ Int.toNat (k + (1 : Int))) x16) x18) (List.replicate (Int.toNat (↑(List.length (redN p (cbL (fiB t p (Int.toNat (k + (1 : Int))) x16) (fiS t p (Int.toNat (k + (1 : Int))) x16)) (pvN (fiP t p (Int.toNat (k + (1 : Int))) x16)) (btF t p (Int.toNat (k + (1 : Int))) x16 ++ ehN (List.length t ^ Int.toNat (k + (1 : Int))) x16) x18)) : Int)) (0 : Int))] = cbL (fiB t p (Int.toNat (k + (1 : Int))) x21) (fiS t p (Int.toNat (k + (1 : Int))) x21)) ∧
 (fiP t p (Int.toNat (k + (1 : Int))) x16 ++ [ldF (List.take (Int.toNat (↑(List.length c) : Int)) (List.drop (0 : Nat) (redN p (cbL (fiB t p (Int.toNat (k + (1 : Int))) x16) (fiS t p (Int.toNat (k + (1 : Int))) x16)) (pvN (fiP t p (Int.toNat (k + (1 : Int))) x16)) (btF t p (Int.toNat (k + (1 : Int))) x16 ++ ehN (List.length t ^ Int.toNat (k + (1 : Int))) x16) x18)))] = fiP t p (Int.toNat (k + (1 : Int))) x21))))))))))))))))))))
 ((InR ((↑x16 : Int) + (1 : Int))) ∧
 (∃ x22 : Nat, (((x22 ≤ List.length t ^ Int.toNat (k + (1 : Int))) ∧
 ((chC t p k c = (0 : Int)) ∧
 (degB (↑(List.length t) : Int) (k + (1 : Int)) = Bool.true))) ∧
 ((List.length t ^ Int.toNat (k + (1 : Int)) - x22 < List.length t ^ Int.toNat (k + (1 : Int)) - x16) ∧
 ((p = p) ∧
 ((k = k) ∧
 ((c = c) ∧
 (((↑(List.length t) : Int) = (↑(List.length t) : Int)) ∧
 (((↑(List.length t ^ Int.toNat (k + (1 : Int))) : Int) = (↑(List.length t ^ Int.toNat (k + (1 : Int))) : Int)) ∧
 (((↑x16 : Int) + (1 : Int) = (↑x22 : Int)) ∧
 ((t = t) ∧
 ((cbL (fiB t p (Int.toNat (k + (1 : Int))) x16) (fiS t p (Int.toNat (k + (1 : Int))) x16) = cbL (fiB t p (Int.toNat (k + (1 : Int))) x22) (fiS t p (Int.toNat (k + (1 : Int))) x22)) ∧
 (fiP t p (Int.toNat (k + (1 : Int))) x16 = fiP t p (Int.toNat (k + (1 : Int))) x22))))))))))))))))))))))))))
 (((room (List.length c)) ∧
 (True)) ∧
 ((((0 : Int) ≤ (↑(List.length t ^ Int.toNat (k + (1 : Int))) : Int)) ∧
 (room (List.length c + Int.toNat (↑(List.length t ^ Int.toNat (k + (1 : Int))) : Int)))) ∧
 ((∃ x23 : Nat, (((x23 ≤ List.length (fiB t p (Int.toNat (k + (1 : Int))) (List.length t ^ Int.toNat (k + (1 : Int))))) ∧
 ((chC t p k c = (0 : Int)) ∧
 (degB (↑(List.length t) : Int) (k + (1 : Int)) = Bool.true))) ∧
 ((p = p) ∧
 ((c = c) ∧
 (((0 : Int) = (↑x23 : Int)) ∧
 ((cbL (fiB t p (Int.toNat (k + (1 : Int))) x16) (fiS t p (Int.toNat (k + (1 : Int))) x16) = cbL (fiB t p (Int.toNat (k + (1 : Int))) (List.length t ^ Int.toNat (k + (1 : Int)))) (fiS t p (Int.toNat (k + (1 : Int))) (List.length t ^ Int.toNat (k + (1 : Int))))) ∧
 ((fiP t p (Int.toNat (k + (1 : Int))) x16 = fiP t p (Int.toNat (k + (1 : Int))) (List.length t ^ Int.toNat (k + (1 : Int)))) ∧
 (c ++ List.replicate (Int.toNat (↑(List.length t ^ Int.toNat (k + (1 : Int))) : Int)) (0 : Int) = redN p (cbL (fiB t p (Int.toNat (k + (1 : Int))) (List.length t ^ Int.toNat (k + (1 : Int)))) (fiS t p (Int.toNat (k + (1 : Int))) (List.length t ^ Int.toNat (k + (1 : Int))))) (pvN (fiP t p (Int.toNat (k + (1 : Int))) (List.length t ^ Int.toNat (k + (1 : Int))))) (c ++ List.replicate (List.length t ^ Int.toNat (k + (1 : Int))) (0 : Int)) x23)))))))) ∧
 (∀ x24 : Nat, (((x24 ≤ List.length (fiB t p (Int.toNat (k + (1 : Int))) (List.length t ^ Int.toNat (k + (1 : Int))))) ∧
 ((chC t p k c = (0 : Int)) ∧
 (degB (↑(List.length t) : Int) (k + (1 : Int)) = Bool.true))) →
 (BrP (Decidable.decide ((↑x24 : Int) < (↑(List.length (cbL (fiB t p (Int.toNat (k + (1 : Int))) (List.length t ^ Int.toNat (k + (1 : Int)))) (fiS t p (Int.toNat (k + (1 : Int))) (List.length t ^ Int.toNat (k + (1 : Int)))))) : Int)))
 ((inB (↑x24 : Int) (List.length (fiP t p (Int.toNat (k + (1 : Int))) (List.length t ^ Int.toNat (k + (1 : Int)))))) ∧
 ((inB (List.getD (fiP t p (Int.toNat (k + (1 : Int))) (List.length t ^ Int.toNat (k + (1 : Int)))) (Int.toNat (↑x24 : Int)) (0 : Int)) (List.length (redN p (cbL (fiB t p (Int.toNat (k + (1 : Int))) (List.length t ^ Int.toNat (k + (1 : Int)))) (fiS t p (Int.toNat (k + (1 : Int))) (List.length t ^ Int.toNat (k + (1 : Int))))) (pvN (fiP t p (Int.toNat (k + (1 : Int))) (List.length t ^ Int.toNat (k + (1 : Int))))) (c ++ List.replicate (List.length t ^ Int.toNat (k + (1 : Int))) (0 : Int)) x24))) ∧
 (BrP (List.getD (redN p (cbL (fiB t p (Int.toNat (k + (1 : Int))) (List.length t ^ Int.toNat (k + (1 : Int)))) (fiS t p (Int.toNat (k + (1 : Int))) (List.length t ^ Int.toNat (k + (1 : Int))))) (pvN (fiP t p (Int.toNat (k + (1 : Int))) (List.length t ^ Int.toNat (k + (1 : Int))))) (c ++ List.replicate (List.length t ^ Int.toNat (k + (1 : Int))) (0 : Int)) x24) (Int.toNat (List.getD (fiP t p (Int.toNat (k + (1 : Int))) (List.length t ^ Int.toNat (k + (1 : Int)))) (Int.toNat (↑x24 : Int)) (0 : Int))) (0 : Int) != (0 : Int))
 ((inB (↑x24 : Int) (List.length (cbL (fiB t p (Int.toNat (k + (1 : Int))) (List.length t ^ Int.toNat (k + (1 : Int)))) (fiS t p (Int.toNat (k + (1 : Int))) (List.length t ^ Int.toNat (k + (1 : Int))))))) ∧
 ((inB (↑x24 : Int) (List.length (fiP t p (Int.toNat (k + (1 : Int))) (List.length t ^ Int.toNat (k + (1 : Int)))))) ∧
 ((inB (List.getD (fiP t p (Int.toNat (k + (1 : Int))) (List.length t ^ Int.toNat (k + (1 : Int)))) (Int.toNat (↑x24 : Int)) (0 : Int)) (List.length (redN p (cbL (fiB t p (Int.toNat (k + (1 : Int))) (List.length t ^ Int.toNat (k + (1 : Int)))) (fiS t p (Int.toNat (k + (1 : Int))) (List.length t ^ Int.toNat (k + (1 : Int))))) (pvN (fiP t p (Int.toNat (k + (1 : Int))) (List.length t ^ Int.toNat (k + (1 : Int))))) (c ++ List.replicate (List.length t ^ Int.toNat (k + (1 : Int))) (0 : Int)) x24))) ∧
 ((((twR p (redN p (cbL (fiB t p (Int.toNat (k + (1 : Int))) (List.length t ^ Int.toNat (k + (1 : Int)))) (fiS t p (Int.toNat (k + (1 : Int))) (List.length t ^ Int.toNat (k + (1 : Int))))) (pvN (fiP t p (Int.toNat (k + (1 : Int))) (List.length t ^ Int.toNat (k + (1 : Int))))) (c ++ List.replicate (List.length t ^ Int.toNat (k + (1 : Int))) (0 : Int)) x24) (List.getD (cbL (fiB t p (Int.toNat (k + (1 : Int))) (List.length t ^ Int.toNat (k + (1 : Int)))) (fiS t p (Int.toNat (k + (1 : Int))) (List.length t ^ Int.toNat (k + (1 : Int))))) (Int.toNat (↑x24 : Int)) [])) ∧
 (((0 : Int) ≤ p - List.getD (redN p (cbL (fiB t p (Int.toNat (k + (1 : Int))) (List.length t ^ Int.toNat (k + (1 : Int)))) (fiS t p (Int.toNat (k + (1 : Int))) (List.length t ^ Int.toNat (k + (1 : Int))))) (pvN (fiP t p (Int.toNat (k + (1 : Int))) (List.length t ^ Int.toNat (k + (1 : Int))))) (c ++ List.replicate (List.length t ^ Int.toNat (k + (1 : Int))) (0 : Int)) x24) (Int.toNat (List.getD (fiP t p (Int.toNat (k + (1 : Int))) (List.length t ^ Int.toNat (k + (1 : Int)))) (Int.toNat (↑x24 : Int)) (0 : Int))) (0 : Int)) ∧
 ((p - List.getD (redN p (cbL (fiB t p (Int.toNat (k + (1 : Int))) (List.length t ^ Int.toNat (k + (1 : Int)))) (fiS t p (Int.toNat (k + (1 : Int))) (List.length t ^ Int.toNat (k + (1 : Int))))) (pvN (fiP t p (Int.toNat (k + (1 : Int))) (List.length t ^ Int.toNat (k + (1 : Int))))) (c ++ List.replicate (List.length t ^ Int.toNat (k + (1 : Int))) (0 : Int)) x24) (Int.toNat (List.getD (fiP t p (Int.toNat (k + (1 : Int))) (List.length t ^ Int.toNat (k + (1 : Int)))) (Int.toNat (↑x24 : Int)) (0 : Int))) (0 : Int) ≤ (7 : Int)) ∧
 (((-100 : Int) ≤ List.getD (redN p (cbL (fiB t p (Int.toNat (k + (1 : Int))) (List.length t ^ Int.toNat (k + (1 : Int)))) (fiS t p (Int.toNat (k + (1 : Int))) (List.length t ^ Int.toNat (k + (1 : Int))))) (pvN (fiP t p (Int.toNat (k + (1 : Int))) (List.length t ^ Int.toNat (k + (1 : Int))))) (c ++ List.replicate (List.length t ^ Int.toNat (k + (1 : Int))) (0 : Int)) x24) (Int.toNat (List.getD (fiP t p (Int.toNat (k + (1 : Int))) (List.length t ^ Int.toNat (k + (1 : Int)))) (Int.toNat (↑x24 : Int)) (0 : Int))) (0 : Int)) ∧
 (List.getD (redN p (cbL (fiB t p (Int.toNat (k + (1 : Int))) (List.length t ^ Int.toNat (k + (1 : Int)))) (fiS t p (Int.toNat (k + (1 : Int))) (List.length t ^ Int.toNat (k + (1 : Int))))) (pvN (fiP t p (Int.toNat (k + (1 : Int))) (List.length t ^ Int.toNat (k + (1 : Int))))) (c ++ List.replicate (List.length t ^ Int.toNat (k + (1 : Int))) (0 : Int)) x24) (Int.toNat (List.getD (fiP t p (Int.toNat (k + (1 : Int))) (List.length t ^ Int.toNat (k + (1 : Int)))) (Int.toNat (↑x24 : Int)) (0 : Int))) (0 : Int) ≤ (100 : Int)))))) ∧
 (True)) ∧
 ((InR ((↑x24 : Int) + (1 : Int))) ∧
 (∃ x25 : Nat, (((x25 ≤ List.length (fiB t p (Int.toNat (k + (1 : Int))) (List.length t ^ Int.toNat (k + (1 : Int))))) ∧
 ((chC t p k c = (0 : Int)) ∧
 (degB (↑(List.length t) : Int) (k + (1 : Int)) = Bool.true))) ∧
 ((List.length (fiB t p (Int.toNat (k + (1 : Int))) (List.length t ^ Int.toNat (k + (1 : Int)))) - x25 < List.length (fiB t p (Int.toNat (k + (1 : Int))) (List.length t ^ Int.toNat (k + (1 : Int)))) - x24) ∧
 ((p = p) ∧
 ((c = c) ∧
 (((↑x24 : Int) + (1 : Int) = (↑x25 : Int)) ∧
 ((cbL (fiB t p (Int.toNat (k + (1 : Int))) (List.length t ^ Int.toNat (k + (1 : Int)))) (fiS t p (Int.toNat (k + (1 : Int))) (List.length t ^ Int.toNat (k + (1 : Int)))) = cbL (fiB t p (Int.toNat (k + (1 : Int))) (List.length t ^ Int.toNat (k + (1 : Int)))) (fiS t p (Int.toNat (k + (1 : Int))) (List.length t ^ Int.toNat (k + (1 : Int))))) ∧
 ((fiP t p (Int.toNat (k + (1 : Int))) (List.length t ^ Int.toNat (k + (1 : Int))) = fiP t p (Int.toNat (k + (1 : Int))) (List.length t ^ Int.toNat (k + (1 : Int)))) ∧
 (stF p (p - List.getD (redN p (cbL (fiB t p (Int.toNat (k + (1 : Int))) (List.length t ^ Int.toNat (k + (1 : Int)))) (fiS t p (Int.toNat (k + (1 : Int))) (List.length t ^ Int.toNat (k + (1 : Int))))) (pvN (fiP t p (Int.toNat (k + (1 : Int))) (List.length t ^ Int.toNat (k + (1 : Int))))) (c ++ List.replicate (List.length t ^ Int.toNat (k + (1 : Int))) (0 : Int)) x24) (Int.toNat (List.getD (fiP t p (Int.toNat (k + (1 : Int))) (List.length t ^ Int.toNat (k + (1 : Int)))) (Int.toNat (↑x24 : Int)) (0 : Int))) (0 : Int)) (List.getD (cbL (fiB t p (Int.toNat (k + (1 : Int))) (List.length t ^ Int.toNat (k + (1 : Int)))) (fiS t p (Int.toNat (k + (1 : Int))) (List.length t ^ Int.toNat (k + (1 : Int))))) (Int.toNat (↑x24 : Int)) []) (redN p (cbL (fiB t p (Int.toNat (k + (1 : Int))) (List.length t ^ Int.toNat (k + (1 : Int)))) (fiS t p (Int.toNat (k + (1 : Int))) (List.length t ^ Int.toNat (k + (1 : Int))))) (pvN (fiP t p (Int.toNat (k + (1 : Int))) (List.length t ^ Int.toNat (k + (1 : Int))))) (c ++ List.replicate (List.length t ^ Int.toNat (k + (1 : Int))) (0 : Int)) x24) = redN p (cbL (fiB t p (Int.toNat (k + (1 : Int))) (List.length t ^ Int.toNat (k + (1 : Int)))) (fiS t p (Int.toNat (k + (1 : Int))) (List.length t ^ Int.toNat (k + (1 : Int))))) (pvN (fiP t p (Int.toNat (k + (1 : Int))) (List.length t ^ Int.toNat (k + (1 : Int))))) (c ++ List.replicate (List.length t ^ Int.toNat (k + (1 : Int))) (0 : Int)) x25))))))))))))))
 ((InR ((↑x24 : Int) + (1 : Int))) ∧
 (∃ x26 : Nat, (((x26 ≤ List.length (fiB t p (Int.toNat (k + (1 : Int))) (List.length t ^ Int.toNat (k + (1 : Int))))) ∧
 ((chC t p k c = (0 : Int)) ∧
 (degB (↑(List.length t) : Int) (k + (1 : Int)) = Bool.true))) ∧
 ((List.length (fiB t p (Int.toNat (k + (1 : Int))) (List.length t ^ Int.toNat (k + (1 : Int)))) - x26 < List.length (fiB t p (Int.toNat (k + (1 : Int))) (List.length t ^ Int.toNat (k + (1 : Int)))) - x24) ∧
 ((p = p) ∧
 ((c = c) ∧
 (((↑x24 : Int) + (1 : Int) = (↑x26 : Int)) ∧
 ((cbL (fiB t p (Int.toNat (k + (1 : Int))) (List.length t ^ Int.toNat (k + (1 : Int)))) (fiS t p (Int.toNat (k + (1 : Int))) (List.length t ^ Int.toNat (k + (1 : Int)))) = cbL (fiB t p (Int.toNat (k + (1 : Int))) (List.length t ^ Int.toNat (k + (1 : Int)))) (fiS t p (Int.toNat (k + (1 : Int))) (List.length t ^ Int.toNat (k + (1 : Int))))) ∧
 ((fiP t p (Int.toNat (k + (1 : Int))) (List.length t ^ Int.toNat (k + (1 : Int))) = fiP t p (Int.toNat (k + (1 : Int))) (List.length t ^ Int.toNat (k + (1 : Int)))) ∧
 (redN p (cbL (fiB t p (Int.toNat (k + (1 : Int))) (List.length t ^ Int.toNat (k + (1 : Int)))) (fiS t p (Int.toNat (k + (1 : Int))) (List.length t ^ Int.toNat (k + (1 : Int))))) (pvN (fiP t p (Int.toNat (k + (1 : Int))) (List.length t ^ Int.toNat (k + (1 : Int))))) (c ++ List.replicate (List.length t ^ Int.toNat (k + (1 : Int))) (0 : Int)) x24 = redN p (cbL (fiB t p (Int.toNat (k + (1 : Int))) (List.length t ^ Int.toNat (k + (1 : Int)))) (fiS t p (Int.toNat (k + (1 : Int))) (List.length t ^ Int.toNat (k + (1 : Int))))) (pvN (fiP t p (Int.toNat (k + (1 : Int))) (List.length t ^ Int.toNat (k + (1 : Int))))) (c ++ List.replicate (List.length t ^ Int.toNat (k + (1 : Int))) (0 : Int)) x26)))))))))))))
 ((bdsOk (List.length (redN p (cbL (fiB t p (Int.toNat (k + (1 : Int))) (List.length t ^ Int.toNat (k + (1 : Int)))) (fiS t p (Int.toNat (k + (1 : Int))) (List.length t ^ Int.toNat (k + (1 : Int))))) (pvN (fiP t p (Int.toNat (k + (1 : Int))) (List.length t ^ Int.toNat (k + (1 : Int))))) (c ++ List.replicate (List.length t ^ Int.toNat (k + (1 : Int))) (0 : Int)) x24)) Option.none (Option.some (↑(List.length c) : Int))) ∧
 (((List.length (List.take (Int.toNat (↑(List.length c) : Int)) (List.drop (0 : Nat) (redN p (cbL (fiB t p (Int.toNat (k + (1 : Int))) (List.length t ^ Int.toNat (k + (1 : Int)))) (fiS t p (Int.toNat (k + (1 : Int))) (List.length t ^ Int.toNat (k + (1 : Int))))) (pvN (fiP t p (Int.toNat (k + (1 : Int))) (List.length t ^ Int.toNat (k + (1 : Int))))) (c ++ List.replicate (List.length t ^ Int.toNat (k + (1 : Int))) (0 : Int)) x24))) ≤ (1000 : Nat)) ∧
 (True)) ∧
 (BrP (Decidable.decide ((0 : Int) ≤ ldF (List.take (Int.toNat (↑(List.length c) : Int)) (List.drop (0 : Nat) (redN p (cbL (fiB t p (Int.toNat (k + (1 : Int))) (List.length t ^ Int.toNat (k + (1 : Int)))) (fiS t p (Int.toNat (k + (1 : Int))) (List.length t ^ Int.toNat (k + (1 : Int))))) (pvN (fiP t p (Int.toNat (k + (1 : Int))) (List.length t ^ Int.toNat (k + (1 : Int))))) (c ++ List.replicate (List.length t ^ Int.toNat (k + (1 : Int))) (0 : Int)) x24)))))
 ((([] = Prod.fst (flC t p k c)) ∧
 (((4 : Int) = Prod.snd (flC t p k c)) ∧
 (True))) ∧
 (True))
 ((∃ x27 : Nat, (((x27 ≤ List.length t ^ Int.toNat (k + (1 : Int))) ∧
 ((ldF (Prod.fst (flR t p (Int.toNat (k + (1 : Int))) c)) < (0 : Int)) ∧
 ((chC t p k c = (0 : Int)) ∧
 (degB (↑(List.length t) : Int) (k + (1 : Int)) = Bool.true)))) ∧
 ((p = p) ∧
 (((↑(List.length c) : Int) = (↑(List.length c + x27) : Int)) ∧
 ((redN p (cbL (fiB t p (Int.toNat (k + (1 : Int))) (List.length t ^ Int.toNat (k + (1 : Int)))) (fiS t p (Int.toNat (k + (1 : Int))) (List.length t ^ Int.toNat (k + (1 : Int))))) (pvN (fiP t p (Int.toNat (k + (1 : Int))) (List.length t ^ Int.toNat (k + (1 : Int))))) (c ++ List.replicate (List.length t ^ Int.toNat (k + (1 : Int))) (0 : Int)) x24 = Prod.fst (flR t p (Int.toNat (k + (1 : Int))) c) ++ Prod.snd (flR t p (Int.toNat (k + (1 : Int))) c)) ∧
 ([] = List.take x27 (ngF p (Prod.snd (flR t p (Int.toNat (k + (1 : Int))) c))))))))) ∧
 (∀ x28 : Nat, (((x28 ≤ List.length t ^ Int.toNat (k + (1 : Int))) ∧
 ((ldF (Prod.fst (flR t p (Int.toNat (k + (1 : Int))) c)) < (0 : Int)) ∧
 ((chC t p k c = (0 : Int)) ∧
 (degB (↑(List.length t) : Int) (k + (1 : Int)) = Bool.true)))) →
 (BrP (Decidable.decide ((↑(List.length c + x28) : Int) < (↑(List.length (Prod.fst (flR t p (Int.toNat (k + (1 : Int))) c) ++ Prod.snd (flR t p (Int.toNat (k + (1 : Int))) c))) : Int)))
 ((inB (↑(List.length c + x28) : Int) (List.length (Prod.fst (flR t p (Int.toNat (k + (1 : Int))) c) ++ Prod.snd (flR t p (Int.toNat (k + (1 : Int))) c)))) ∧
 ((InR (p - List.getD (Prod.fst (flR t p (Int.toNat (k + (1 : Int))) c) ++ Prod.snd (flR t p (Int.toNat (k + (1 : Int))) c)) (Int.toNat (↑(List.length c + x28) : Int)) (0 : Int))) ∧
 ((p ≠ (0 : Int)) ∧
 ((room (List.length (List.take x28 (ngF p (Prod.snd (flR t p (Int.toNat (k + (1 : Int))) c)))) + List.length [Int.tmod (p - List.getD (Prod.fst (flR t p (Int.toNat (k + (1 : Int))) c) ++ Prod.snd (flR t p (Int.toNat (k + (1 : Int))) c)) (Int.toNat (↑(List.length c + x28) : Int)) (0 : Int)) p])) ∧
 ((InR ((↑(List.length c + x28) : Int) + (1 : Int))) ∧
 (∃ x29 : Nat, (((x29 ≤ List.length t ^ Int.toNat (k + (1 : Int))) ∧
 ((ldF (Prod.fst (flR t p (Int.toNat (k + (1 : Int))) c)) < (0 : Int)) ∧
 ((chC t p k c = (0 : Int)) ∧
 (degB (↑(List.length t) : Int) (k + (1 : Int)) = Bool.true)))) ∧
 ((List.length t ^ Int.toNat (k + (1 : Int)) - x29 < List.length t ^ Int.toNat (k + (1 : Int)) - x28) ∧
 ((p = p) ∧
 (((↑(List.length c + x28) : Int) + (1 : Int) = (↑(List.length c + x29) : Int)) ∧
 ((Prod.fst (flR t p (Int.toNat (k + (1 : Int))) c) ++ Prod.snd (flR t p (Int.toNat (k + (1 : Int))) c) = Prod.fst (flR t p (Int.toNat (k + (1 : Int))) c) ++ Prod.snd (flR t p (Int.toNat (k + (1 : Int))) c)) ∧
 (List.take x28 (ngF p (Prod.snd (flR t p (Int.toNat (k + (1 : Int))) c))) ++ [Int.tmod (p - List.getD (Prod.fst (flR t p (Int.toNat (k + (1 : Int))) c) ++ Prod.snd (flR t p (Int.toNat (k + (1 : Int))) c)) (Int.toNat (↑(List.length c + x28) : Int)) (0 : Int)) p] = List.take x29 (ngF p (Prod.snd (flR t p (Int.toNat (k + (1 : Int))) c)))))))))))))))
 (((List.take x28 (ngF p (Prod.snd (flR t p (Int.toNat (k + (1 : Int))) c))) = Prod.fst (flC t p k c)) ∧
 (((0 : Int) = Prod.snd (flC t p k c)) ∧
 (True))) ∧
 (True)))))))))))))))))))))))))
 (BrP (dgC t p k == (0 : Int))
 ((InR (k + (1 : Int))) ∧
 (((((1 : Int) ≤ (↑(List.length t) : Int)) ∧
 ((↑(List.length t) : Int) ≤ (12 : Int))) ∧
 (True)) ∧
 (BrP (!degB (↑(List.length t) : Int) (k + (1 : Int)))
 ((([] = Prod.fst (flC t p k c)) ∧
 (((3 : Int) = Prod.snd (flC t p k c)) ∧
 (True))) ∧
 (True))
 (BrP (dgC t p k != (0 : Int))
 ((([] = Prod.fst (flC t p k c)) ∧
 ((dgC t p k = Prod.snd (flC t p k c)) ∧
 (True))) ∧
 (True))
 ((InR (k + (1 : Int))) ∧
 (((((1 : Int) ≤ (↑(List.length t) : Int)) ∧
 (((↑(List.length t) : Int) ≤ (12 : Int)) ∧
 (((0 : Int) ≤ k + (1 : Int)) ∧
 (k + (1 : Int) ≤ (1000 : Int))))) ∧
 (True)) ∧
 ((∃ x30 : Nat, (((x30 ≤ List.length t ^ Int.toNat (k + (1 : Int))) ∧
 ((chC t p k c = (0 : Int)) ∧
 (degB (↑(List.length t) : Int) (k + (1 : Int)) = Bool.true))) ∧
 ((p = p) ∧
 ((k = k) ∧
 ((c = c) ∧
 (((↑(List.length t) : Int) = (↑(List.length t) : Int)) ∧
 (((if (↑(List.length t) : Int) ^ Int.toNat (k + (1 : Int)) ≤ (512 : Int) then (↑(List.length t) : Int) ^ Int.toNat (k + (1 : Int)) else (513 : Int)) = (↑(List.length t ^ Int.toNat (k + (1 : Int))) : Int)) ∧
 (((0 : Int) = (↑x30 : Int)) ∧
 ((t = t) ∧
 (([] = cbL (fiB t p (Int.toNat (k + (1 : Int))) x30) (fiS t p (Int.toNat (k + (1 : Int))) x30)) ∧
 ([] = fiP t p (Int.toNat (k + (1 : Int))) x30))))))))))) ∧
 (∀ x31 : Nat, (((x31 ≤ List.length t ^ Int.toNat (k + (1 : Int))) ∧
 ((chC t p k c = (0 : Int)) ∧
 (degB (↑(List.length t) : Int) (k + (1 : Int)) = Bool.true))) →
 (BrP (Decidable.decide ((↑x31 : Int) < (↑(List.length t ^ Int.toNat (k + (1 : Int))) : Int)))
 ((InR (k + (1 : Int))) ∧
 (((((1 : Int) ≤ (↑(List.length t) : Int)) ∧
 (((0 : Int) ≤ k + (1 : Int)) ∧
 ((k + (1 : Int) ≤ (1000 : Int)) ∧
 (((0 : Int) ≤ (↑x31 : Int)) ∧
 ((↑x31 : Int) ≤ (1000000 : Int)))))) ∧
 (True)) ∧
 ((((bdOk t p (digN (↑(List.length t) : Int) (Int.toNat (k + (1 : Int))) (↑x31 : Int))) ∧
 ((1 : Nat) ≤ List.length (digN (↑(List.length t) : Int) (Int.toNat (k + (1 : Int))) (↑x31 : Int)))) ∧
 (True)) ∧
 ((((0 : Int) ≤ (↑(List.length t ^ Int.toNat (k + (1 : Int))) : Int)) ∧
 (((↑(List.length t ^ Int.toNat (k + (1 : Int))) : Int) ≤ (↑(List.length t ^ Int.toNat (k + (1 : Int))) : Int)) ∧
 (room (Int.toNat (↑(List.length t ^ Int.toNat (k + (1 : Int))) : Int))))) ∧
 ((inB (↑x31 : Int) (List.length (List.replicate (Int.toNat (↑(List.length t ^ Int.toNat (k + (1 : Int))) : Int)) (0 : Int)))) ∧
 ((room (List.length (ptF t p (digN (↑(List.length t) : Int) (Int.toNat (k + (1 : Int))) (↑x31 : Int)) (List.length (digN (↑(List.length t) : Int) (Int.toNat (k + (1 : Int))) (↑x31 : Int)))) + List.length (List.set (List.replicate (Int.toNat (↑(List.length t ^ Int.toNat (k + (1 : Int))) : Int)) (0 : Int)) (Int.toNat (↑x31 : Int)) (1 : Int)))) ∧
 ((∃ x32 : Nat, (((x32 ≤ List.length (fiB t p (Int.toNat (k + (1 : Int))) x31)) ∧
 ((x31 < List.length t ^ Int.toNat (k + (1 : Int))) ∧
 ((chC t p k c = (0 : Int)) ∧
 (degB (↑(List.length t) : Int) (k + (1 : Int)) = Bool.true)))) ∧
 ((p = p) ∧
 ((k = k) ∧
 ((c = c) ∧
 (((↑(List.length t) : Int) = (↑(List.length t) : Int)) ∧
 (((↑(List.length t ^ Int.toNat (k + (1 : Int))) : Int) = (↑(List.length t ^ Int.toNat (k + (1 : Int))) : Int)) ∧
 (((↑x31 : Int) = (↑x31 : Int)) ∧
 (((0 : Int) = (↑x32 : Int)) ∧
 ((t = t) ∧
 ((cbL (fiB t p (Int.toNat (k + (1 : Int))) x31) (fiS t p (Int.toNat (k + (1 : Int))) x31) = cbL (fiB t p (Int.toNat (k + (1 : Int))) x31) (fiS t p (Int.toNat (k + (1 : Int))) x31)) ∧
 ((fiP t p (Int.toNat (k + (1 : Int))) x31 = fiP t p (Int.toNat (k + (1 : Int))) x31) ∧
 (ptF t p (digN (↑(List.length t) : Int) (Int.toNat (k + (1 : Int))) (↑x31 : Int)) (List.length (digN (↑(List.length t) : Int) (Int.toNat (k + (1 : Int))) (↑x31 : Int))) ++ List.set (List.replicate (Int.toNat (↑(List.length t ^ Int.toNat (k + (1 : Int))) : Int)) (0 : Int)) (Int.toNat (↑x31 : Int)) (1 : Int) = redN p (cbL (fiB t p (Int.toNat (k + (1 : Int))) x31) (fiS t p (Int.toNat (k + (1 : Int))) x31)) (pvN (fiP t p (Int.toNat (k + (1 : Int))) x31)) (btF t p (Int.toNat (k + (1 : Int))) x31 ++ ehN (List.length t ^ Int.toNat (k + (1 : Int))) x31) x32))))))))))))) ∧
 (∀ x33 : Nat, (((x33 ≤ List.length (fiB t p (Int.toNat (k + (1 : Int))) x31)) ∧
 ((x31 < List.length t ^ Int.toNat (k + (1 : Int))) ∧
 ((chC t p k c = (0 : Int)) ∧
 (degB (↑(List.length t) : Int) (k + (1 : Int)) = Bool.true)))) →
 (BrP (Decidable.decide ((↑x33 : Int) < (↑(List.length (cbL (fiB t p (Int.toNat (k + (1 : Int))) x31) (fiS t p (Int.toNat (k + (1 : Int))) x31))) : Int)))
 ((inB (↑x33 : Int) (List.length (fiP t p (Int.toNat (k + (1 : Int))) x31))) ∧
 ((inB (List.getD (fiP t p (Int.toNat (k + (1 : Int))) x31) (Int.toNat (↑x33 : Int)) (0 : Int)) (List.length (redN p (cbL (fiB t p (Int.toNat (k + (1 : Int))) x31) (fiS t p (Int.toNat (k + (1 : Int))) x31)) (pvN (fiP t p (Int.toNat (k + (1 : Int))) x31)) (btF t p (Int.toNat (k + (1 : Int))) x31 ++ ehN (List.length t ^ Int.toNat (k + (1 : Int))) x31) x33))) ∧
 (BrP (List.getD (redN p (cbL (fiB t p (Int.toNat (k + (1 : Int))) x31) (fiS t p (Int.toNat (k + (1 : Int))) x31)) (pvN (fiP t p (Int.toNat (k + (1 : Int))) x31)) (btF t p (Int.toNat (k + (1 : Int))) x31 ++ ehN (List.length t ^ Int.toNat (k + (1 : Int))) x31) x33) (Int.toNat (List.getD (fiP t p (Int.toNat (k + (1 : Int))) x31) (Int.toNat (↑x33 : Int)) (0 : Int))) (0 : Int) != (0 : Int))
 ((inB (↑x33 : Int) (List.length (cbL (fiB t p (Int.toNat (k + (1 : Int))) x31) (fiS t p (Int.toNat (k + (1 : Int))) x31)))) ∧
 ((inB (↑x33 : Int) (List.length (fiP t p (Int.toNat (k + (1 : Int))) x31))) ∧
 ((inB (List.getD (fiP t p (Int.toNat (k + (1 : Int))) x31) (Int.toNat (↑x33 : Int)) (0 : Int)) (List.length (redN p (cbL (fiB t p (Int.toNat (k + (1 : Int))) x31) (fiS t p (Int.toNat (k + (1 : Int))) x31)) (pvN (fiP t p (Int.toNat (k + (1 : Int))) x31)) (btF t p (Int.toNat (k + (1 : Int))) x31 ++ ehN (List.length t ^ Int.toNat (k + (1 : Int))) x31) x33))) ∧
 ((((twR p (redN p (cbL (fiB t p (Int.toNat (k + (1 : Int))) x31) (fiS t p (Int.toNat (k + (1 : Int))) x31)) (pvN (fiP t p (Int.toNat (k + (1 : Int))) x31)) (btF t p (Int.toNat (k + (1 : Int))) x31 ++ ehN (List.length t ^ Int.toNat (k + (1 : Int))) x31) x33) (List.getD (cbL (fiB t p (Int.toNat (k + (1 : Int))) x31) (fiS t p (Int.toNat (k + (1 : Int))) x31)) (Int.toNat (↑x33 : Int)) [])) ∧
 (((0 : Int) ≤ p - List.getD (redN p (cbL (fiB t p (Int.toNat (k + (1 : Int))) x31) (fiS t p (Int.toNat (k + (1 : Int))) x31)) (pvN (fiP t p (Int.toNat (k + (1 : Int))) x31)) (btF t p (Int.toNat (k + (1 : Int))) x31 ++ ehN (List.length t ^ Int.toNat (k + (1 : Int))) x31) x33) (Int.toNat (List.getD (fiP t p (Int.toNat (k + (1 : Int))) x31) (Int.toNat (↑x33 : Int)) (0 : Int))) (0 : Int)) ∧
 ((p - List.getD (redN p (cbL (fiB t p (Int.toNat (k + (1 : Int))) x31) (fiS t p (Int.toNat (k + (1 : Int))) x31)) (pvN (fiP t p (Int.toNat (k + (1 : Int))) x31)) (btF t p (Int.toNat (k + (1 : Int))) x31 ++ ehN (List.length t ^ Int.toNat (k + (1 : Int))) x31) x33) (Int.toNat (List.getD (fiP t p (Int.toNat (k + (1 : Int))) x31) (Int.toNat (↑x33 : Int)) (0 : Int))) (0 : Int) ≤ (7 : Int)) ∧
 (((-100 : Int) ≤ List.getD (redN p (cbL (fiB t p (Int.toNat (k + (1 : Int))) x31) (fiS t p (Int.toNat (k + (1 : Int))) x31)) (pvN (fiP t p (Int.toNat (k + (1 : Int))) x31)) (btF t p (Int.toNat (k + (1 : Int))) x31 ++ ehN (List.length t ^ Int.toNat (k + (1 : Int))) x31) x33) (Int.toNat (List.getD (fiP t p (Int.toNat (k + (1 : Int))) x31) (Int.toNat (↑x33 : Int)) (0 : Int))) (0 : Int)) ∧
 (List.getD (redN p (cbL (fiB t p (Int.toNat (k + (1 : Int))) x31) (fiS t p (Int.toNat (k + (1 : Int))) x31)) (pvN (fiP t p (Int.toNat (k + (1 : Int))) x31)) (btF t p (Int.toNat (k + (1 : Int))) x31 ++ ehN (List.length t ^ Int.toNat (k + (1 : Int))) x31) x33) (Int.toNat (List.getD (fiP t p (Int.toNat (k + (1 : Int))) x31) (Int.toNat (↑x33 : Int)) (0 : Int))) (0 : Int) ≤ (100 : Int)))))) ∧
 (True)) ∧
 ((InR ((↑x33 : Int) + (1 : Int))) ∧
 (∃ x34 : Nat, (((x34 ≤ List.length (fiB t p (Int.toNat (k + (1 : Int))) x31)) ∧
 ((x31 < List.length t ^ Int.toNat (k + (1 : Int))) ∧
 ((chC t p k c = (0 : Int)) ∧
 (degB (↑(List.length t) : Int) (k + (1 : Int)) = Bool.true)))) ∧
 ((List.length (fiB t p (Int.toNat (k + (1 : Int))) x31) - x34 < List.length (fiB t p (Int.toNat (k + (1 : Int))) x31) - x33) ∧
 ((p = p) ∧
 ((k = k) ∧
 ((c = c) ∧
 (((↑(List.length t) : Int) = (↑(List.length t) : Int)) ∧
 (((↑(List.length t ^ Int.toNat (k + (1 : Int))) : Int) = (↑(List.length t ^ Int.toNat (k + (1 : Int))) : Int)) ∧
 (((↑x31 : Int) = (↑x31 : Int)) ∧
 (((↑x33 : Int) + (1 : Int) = (↑x34 : Int)) ∧
 ((t = t) ∧
 ((cbL (fiB t p (Int.toNat (k + (1 : Int))) x31) (fiS t p (Int.toNat (k + (1 : Int))) x31) = cbL (fiB t p (Int.toNat (k + (1 : Int))) x31) (fiS t p (Int.toNat (k + (1 : Int))) x31)) ∧
 ((fiP t p (Int.toNat (k + (1 : Int))) x31 = fiP t p (Int.toNat (k + (1 : Int))) x31) ∧
 (stF p (p - List.getD (redN p (cbL (fiB t p (Int.toNat (k + (1 : Int))) x31) (fiS t p (Int.toNat (k + (1 : Int))) x31)) (pvN (fiP t p (Int.toNat (k + (1 : Int))) x31)) (btF t p (Int.toNat (k + (1 : Int))) x31 ++ ehN (List.length t ^ Int.toNat (k + (1 : Int))) x31) x33) (Int.toNat (List.getD (fiP t p (Int.toNat (k + (1 : Int))) x31) (Int.toNat (↑x33 : Int)) (0 : Int))) (0 : Int)) (List.getD (cbL (fiB t p (Int.toNat (k + (1 : Int))) x31) (fiS t p (Int.toNat (k + (1 : Int))) x31)) (Int.toNat (↑x33 : Int)) []) (redN p (cbL (fiB t p (Int.toNat (k + (1 : Int))) x31) (fiS t p (Int.toNat (k + (1 : Int))) x31)) (pvN (fiP t p (Int.toNat (k + (1 : Int))) x31)) (btF t p (Int.toNat (k + (1 : Int))) x31 ++ ehN (List.length t ^ Int.toNat (k + (1 : Int))) x31) x33) = redN p (cbL (fiB t p (Int.toNat (k + (1 : Int))) x31) (fiS t p (Int.toNat (k + (1 : Int))) x31)) (pvN (fiP t p (Int.toNat (k + (1 : Int))) x31)) (btF t p (Int.toNat (k + (1 : Int))) x31 ++ ehN (List.length t ^ Int.toNat (k + (1 : Int))) x31) x34)))))))))))))))))))
 ((InR ((↑x33 : Int) + (1 : Int))) ∧
 (∃ x35 : Nat, (((x35 ≤ List.length (fiB t p (Int.toNat (k + (1 : Int))) x31)) ∧
 ((x31 < List.length t ^ Int.toNat (k + (1 : Int))) ∧
 ((chC t p k c = (0 : Int)) ∧
 (degB (↑(List.length t) : Int) (k + (1 : Int)) = Bool.true)))) ∧
 ((List.length (fiB t p (Int.toNat (k + (1 : Int))) x31) - x35 < List.length (fiB t p (Int.toNat (k + (1 : Int))) x31) - x33) ∧
 ((p = p) ∧
 ((k = k) ∧
 ((c = c) ∧
 (((↑(List.length t) : Int) = (↑(List.length t) : Int)) ∧
 (((↑(List.length t ^ Int.toNat (k + (1 : Int))) : Int) = (↑(List.length t ^ Int.toNat (k + (1 : Int))) : Int)) ∧
 (((↑x31 : Int) = (↑x31 : Int)) ∧
 (((↑x33 : Int) + (1 : Int) = (↑x35 : Int)) ∧
 ((t = t) ∧
 ((cbL (fiB t p (Int.toNat (k + (1 : Int))) x31) (fiS t p (Int.toNat (k + (1 : Int))) x31) = cbL (fiB t p (Int.toNat (k + (1 : Int))) x31) (fiS t p (Int.toNat (k + (1 : Int))) x31)) ∧
 ((fiP t p (Int.toNat (k + (1 : Int))) x31 = fiP t p (Int.toNat (k + (1 : Int))) x31) ∧
 (redN p (cbL (fiB t p (Int.toNat (k + (1 : Int))) x31) (fiS t p (Int.toNat (k + (1 : Int))) x31)) (pvN (fiP t p (Int.toNat (k + (1 : Int))) x31)) (btF t p (Int.toNat (k + (1 : Int))) x31 ++ ehN (List.length t ^ Int.toNat (k + (1 : Int))) x31) x33 = redN p (cbL (fiB t p (Int.toNat (k + (1 : Int))) x31) (fiS t p (Int.toNat (k + (1 : Int))) x31)) (pvN (fiP t p (Int.toNat (k + (1 : Int))) x31)) (btF t p (Int.toNat (k + (1 : Int))) x31 ++ ehN (List.length t ^ Int.toNat (k + (1 : Int))) x31) x35))))))))))))))))))
 ((bdsOk (List.length (redN p (cbL (fiB t p (Int.toNat (k + (1 : Int))) x31) (fiS t p (Int.toNat (k + (1 : Int))) x31)) (pvN (fiP t p (Int.toNat (k + (1 : Int))) x31)) (btF t p (Int.toNat (k + (1 : Int))) x31 ++ ehN (List.length t ^ Int.toNat (k + (1 : Int))) x31) x33)) Option.none (Option.some (↑(List.length c) : Int))) ∧
 (((List.length (List.take (Int.toNat (↑(List.length c) : Int)) (List.drop (0 : Nat) (redN p (cbL (fiB t p (Int.toNat (k + (1 : Int))) x31) (fiS t p (Int.toNat (k + (1 : Int))) x31)) (pvN (fiP t p (Int.toNat (k + (1 : Int))) x31)) (btF t p (Int.toNat (k + (1 : Int))) x31 ++ ehN (List.length t ^ Int.toNat (k + (1 : Int))) x31) x33))) ≤ (1000 : Nat)) ∧
 (True)) ∧
 (BrP (Decidable.decide ((0 : Int) ≤ ldF (List.take (Int.toNat (↑(List.length c) : Int)) (List.drop (0 : Nat) (redN p (cbL (fiB t p (Int.toNat (k + (1 : Int))) x31) (fiS t p (Int.toNat (k + (1 : Int))) x31)) (pvN (fiP t p (Int.toNat (k + (1 : Int))) x31)) (btF t p (Int.toNat (k + (1 : Int))) x31 ++ ehN (List.length t ^ Int.toNat (k + (1 : Int))) x31) x33)))))
 ((((0 : Int) ≤ (↑(List.length (redN p (cbL (fiB t p (Int.toNat (k + (1 : Int))) x31) (fiS t p (Int.toNat (k + (1 : Int))) x31)) (pvN (fiP t p (Int.toNat (k + (1 : Int))) x31)) (btF t p (Int.toNat (k + (1 : Int))) x31 ++ ehN (List.length t ^ Int.toNat (k + (1 : Int))) x31) x33)) : Int)) ∧
 (((↑(List.length (redN p (cbL (fiB t p (Int.toNat (k + (1 : Int))) x31) (fiS t p (Int.toNat (k + (1 : Int))) x31)) (pvN (fiP t p (Int.toNat (k + (1 : Int))) x31)) (btF t p (Int.toNat (k + (1 : Int))) x31 ++ ehN (List.length t ^ Int.toNat (k + (1 : Int))) x31) x33)) : Int) ≤ (↑(List.length (redN p (cbL (fiB t p (Int.toNat (k + (1 : Int))) x31) (fiS t p (Int.toNat (k + (1 : Int))) x31)) (pvN (fiP t p (Int.toNat (k + (1 : Int))) x31)) (btF t p (Int.toNat (k + (1 : Int))) x31 ++ ehN (List.length t ^ Int.toNat (k + (1 : Int))) x31) x33)) : Int)) ∧
 (room (Int.toNat (↑(List.length (redN p (cbL (fiB t p (Int.toNat (k + (1 : Int))) x31) (fiS t p (Int.toNat (k + (1 : Int))) x31)) (pvN (fiP t p (Int.toNat (k + (1 : Int))) x31)) (btF t p (Int.toNat (k + (1 : Int))) x31 ++ ehN (List.length t ^ Int.toNat (k + (1 : Int))) x31) x33)) : Int))))) ∧
 ((inB (ldF (List.take (Int.toNat (↑(List.length c) : Int)) (List.drop (0 : Nat) (redN p (cbL (fiB t p (Int.toNat (k + (1 : Int))) x31) (fiS t p (Int.toNat (k + (1 : Int))) x31)) (pvN (fiP t p (Int.toNat (k + (1 : Int))) x31)) (btF t p (Int.toNat (k + (1 : Int))) x31 ++ ehN (List.length t ^ Int.toNat (k + (1 : Int))) x31) x33)))) (List.length (redN p (cbL (fiB t p (Int.toNat (k + (1 : Int))) x31) (fiS t p (Int.toNat (k + (1 : Int))) x31)) (pvN (fiP t p (Int.toNat (k + (1 : Int))) x31)) (btF t p (Int.toNat (k + (1 : Int))) x31 ++ ehN (List.length t ^ Int.toNat (k + (1 : Int))) x31) x33))) ∧
 ((((primeB p = Bool.true) ∧
 (((1 : Int) ≤ List.getD (redN p (cbL (fiB t p (Int.toNat (k + (1 : Int))) x31) (fiS t p (Int.toNat (k + (1 : Int))) x31)) (pvN (fiP t p (Int.toNat (k + (1 : Int))) x31)) (btF t p (Int.toNat (k + (1 : Int))) x31 ++ ehN (List.length t ^ Int.toNat (k + (1 : Int))) x31) x33) (Int.toNat (ldF (List.take (Int.toNat (↑(List.length c) : Int)) (List.drop (0 : Nat) (redN p (cbL (fiB t p (Int.toNat (k + (1 : Int))) x31) (fiS t p (Int.toNat (k + (1 : Int))) x31)) (pvN (fiP t p (Int.toNat (k + (1 : Int))) x31)) (btF t p (Int.toNat (k + (1 : Int))) x31 ++ ehN (List.length t ^ Int.toNat (k + (1 : Int))) x31) x33))))) (0 : Int)) ∧
 (List.getD (redN p (cbL (fiB t p (Int.toNat (k + (1 : Int))) x31) (fiS t p (Int.toNat (k + (1 : Int))) x31)) (pvN (fiP t p (Int.toNat (k + (1 : Int))) x31)) (btF t p (Int.toNat (k + (1 : Int))) x31 ++ ehN (List.length t ^ Int.toNat (k + (1 : Int))) x31) x33) (Int.toNat (ldF (List.take (Int.toNat (↑(List.length c) : Int)) (List.drop (0 : Nat) (redN p (cbL (fiB t p (Int.toNat (k + (1 : Int))) x31) (fiS t p (Int.toNat (k + (1 : Int))) x31)) (pvN (fiP t p (Int.toNat (k + (1 : Int))) x31)) (btF t p (Int.toNat (k + (1 : Int))) x31 ++ ehN (List.length t ^ Int.toNat (k + (1 : Int))) x31) x33))))) (0 : Int) ≤ p - (1 : Int)))) ∧
 (True)) ∧
 ((InR (p - ivM p (List.getD (redN p (cbL (fiB t p (Int.toNat (k + (1 : Int))) x31) (fiS t p (Int.toNat (k + (1 : Int))) x31)) (pvN (fiP t p (Int.toNat (k + (1 : Int))) x31)) (btF t p (Int.toNat (k + (1 : Int))) x31 ++ ehN (List.length t ^ Int.toNat (k + (1 : Int))) x31) x33) (Int.toNat (ldF (List.take (Int.toNat (↑(List.length c) : Int)) (List.drop (0 : Nat) (redN p (cbL (fiB t p (Int.toNat (k + (1 : Int))) x31) (fiS t p (Int.toNat (k + (1 : Int))) x31)) (pvN (fiP t p (Int.toNat (k + (1 : Int))) x31)) (btF t p (Int.toNat (k + (1 : Int))) x31 ++ ehN (List.length t ^ Int.toNat (k + (1 : Int))) x31) x33))))) (0 : Int)))) ∧
 ((((twR p (List.replicate (Int.toNat (↑(List.length (redN p (cbL (fiB t p (Int.toNat (k + (1 : Int))) x31) (fiS t p (Int.toNat (k + (1 : Int))) x31)) (pvN (fiP t p (Int.toNat (k + (1 : Int))) x31)) (btF t p (Int.toNat (k + (1 : Int))) x31 ++ ehN (List.length t ^ Int.toNat (k + (1 : Int))) x31) x33)) : Int)) (0 : Int)) (redN p (cbL (fiB t p (Int.toNat (k + (1 : Int))) x31) (fiS t p (Int.toNat (k + (1 : Int))) x31)) (pvN (fiP t p (Int.toNat (k + (1 : Int))) x31)) (btF t p (Int.toNat (k + (1 : Int))) x31 ++ ehN (List.length t ^ Int.toNat (k + (1 : Int))) x31) x33)) ∧
 (((0 : Int) ≤ p - (p - ivM p (List.getD (redN p (cbL (fiB t p (Int.toNat (k + (1 : Int))) x31) (fiS t p (Int.toNat (k + (1 : Int))) x31)) (pvN (fiP t p (Int.toNat (k + (1 : Int))) x31)) (btF t p (Int.toNat (k + (1 : Int))) x31 ++ ehN (List.length t ^ Int.toNat (k + (1 : Int))) x31) x33) (Int.toNat (ldF (List.take (Int.toNat (↑(List.length c) : Int)) (List.drop (0 : Nat) (redN p (cbL (fiB t p (Int.toNat (k + (1 : Int))) x31) (fiS t p (Int.toNat (k + (1 : Int))) x31)) (pvN (fiP t p (Int.toNat (k + (1 : Int))) x31)) (btF t p (Int.toNat (k + (1 : Int))) x31 ++ ehN (List.length t ^ Int.toNat (k + (1 : Int))) x31) x33))))) (0 : Int)))) ∧
 ((p - (p - ivM p (List.getD (redN p (cbL (fiB t p (Int.toNat (k + (1 : Int))) x31) (fiS t p (Int.toNat (k + (1 : Int))) x31)) (pvN (fiP t p (Int.toNat (k + (1 : Int))) x31)) (btF t p (Int.toNat (k + (1 : Int))) x31 ++ ehN (List.length t ^ Int.toNat (k + (1 : Int))) x31) x33) (Int.toNat (ldF (List.take (Int.toNat (↑(List.length c) : Int)) (List.drop (0 : Nat) (redN p (cbL (fiB t p (Int.toNat (k + (1 : Int))) x31) (fiS t p (Int.toNat (k + (1 : Int))) x31)) (pvN (fiP t p (Int.toNat (k + (1 : Int))) x31)) (btF t p (Int.toNat (k + (1 : Int))) x31 ++ ehN (List.length t ^ Int.toNat (k + (1 : Int))) x31) x33))))) (0 : Int))) ≤ (7 : Int)) ∧
 (((-100 : Int) ≤ p - ivM p (List.getD (redN p (cbL (fiB t p (Int.toNat (k + (1 : Int))) x31) (fiS t p (Int.toNat (k + (1 : Int))) x31)) (pvN (fiP t p (Int.toNat (k + (1 : Int))) x31)) (btF t p (Int.toNat (k + (1 : Int))) x31 ++ ehN (List.length t ^ Int.toNat (k + (1 : Int))) x31) x33) (Int.toNat (ldF (List.take (Int.toNat (↑(List.length c) : Int)) (List.drop (0 : Nat) (redN p (cbL (fiB t p (Int.toNat (k + (1 : Int))) x31) (fiS t p (Int.toNat (k + (1 : Int))) x31)) (pvN (fiP t p (Int.toNat (k + (1 : Int))) x31)) (btF t p (Int.toNat (k + (1 : Int))) x31 ++ ehN (List.length t ^ Int.toNat (k + (1 : Int))) x31) x33))))) (0 : Int))) ∧
 (p - ivM p (List.getD (redN p (cbL (fiB t p (Int.toNat (k + (1 : Int))) x31) (fiS t p (Int.toNat (k + (1 : Int))) x31)) (pvN (fiP t p (Int.toNat (k + (1 : Int))) x31)) (btF t p (Int.toNat (k + (1 : Int))) x31 ++ ehN (List.length t ^ Int.toNat (k + (1 : Int))) x31) x33) (Int.toNat (ldF (List.take (Int.toNat (↑(List.length c) : Int)) (List.drop (0 : Nat) (redN p (cbL (fiB t p (Int.toNat (k + (1 : Int))) x31) (fiS t p (Int.toNat (k + (1 : Int))) x31)) (pvN (fiP t p (Int.toNat (k + (1 : Int))) x31)) (btF t p (Int.toNat (k + (1 : Int))) x31 ++ ehN (List.length t ^ Int.toNat (k + (1 : Int))) x31) x33))))) (0 : Int)) ≤ (100 : Int)))))) ∧
 (True)) ∧
 ((room (List.length (cbL (fiB t p (Int.toNat (k + (1 : Int))) x31) (fiS t p (Int.toNat (k + (1 : Int))) x31)) + List.length [stF p (p - (p - ivM p (List.getD (redN p (cbL (fiB t p (Int.toNat (k + (1 : Int))) x31) (fiS t p (Int.toNat (k + (1 : Int))) x31)) (pvN (fiP t p (Int.toNat (k + (1 : Int))) x31)) (btF t p (Int.toNat (k + (1 : Int))) x31 ++ ehN (List.length t ^ Int.toNat (k + (1 : Int))) x31) x33) (Int.toNat (ldF (List.take (Int.toNat (↑(List.length c) : Int)) (List.drop (0 : Nat) (redN p (cbL (fiB t p (Int.toNat (k + (1 : Int))) x31) (fiS t p (Int.toNat (k + (1 : Int))) x31)) (pvN (fiP t p (Int.toNat (k + (1 : Int))) x31)) (btF t p (Int.toNat (k + (1 : Int))) x31 ++ ehN (List.length t ^ Int.toNat (k + (1 : Int))) x31) x33))))) (0 : Int)))) (redN p (cbL (fiB t p (Int.toNat (k + (1 : Int))) x31) (fiS t p (Int.toNat (k + (1 : Int))) x31)) (pvN (fiP t p (Int.toNat (k + (1 : Int))) x31)) (btF t p (Int.toNat (k + (1 : Int))) x31 ++ ehN (List.length t ^ Int.toNat (k + (1 : Int))) x31) x33) (List.replicate (Int.toNat (↑(List.length (redN p (cbL (fiB t p (Int.toNat (k + (1 : Int))) x31) (fiS t p (Int.toNat (k + (1 : Int))) x31)) (pvN (fiP t p (Int.toNat (k + (1 : Int))) x31)) (btF t p (Int.toNat (k + (1 : Int))) x31 ++ ehN (List.length t ^ Int.toNat (k + (1 : Int))) x31) x33)) : Int)) (0 : Int))])) ∧
 ((room (List.length (fiP t p (Int.toNat (k + (1 : Int))) x31) + List.length [ldF (List.take (Int.toNat (↑(List.length c) : Int)) (List.drop (0 : Nat) (redN p (cbL (fiB t p (Int.toNat (k + (1 : Int))) x31) (fiS t p (Int.toNat (k + (1 : Int))) x31)) (pvN (fiP t p (Int.toNat (k + (1 : Int))) x31)) (btF t p (Int.toNat (k + (1 : Int))) x31 ++ ehN (List.length t ^ Int.toNat (k + (1 : Int))) x31) x33)))])) ∧
 ((InR ((↑x31 : Int) + (1 : Int))) ∧
 (∃ x36 : Nat, (((x36 ≤ List.length t ^ Int.toNat (k + (1 : Int))) ∧
 ((chC t p k c = (0 : Int)) ∧
 (degB (↑(List.length t) : Int) (k + (1 : Int)) = Bool.true))) ∧
 ((List.length t ^ Int.toNat (k + (1 : Int)) - x36 < List.length t ^ Int.toNat (k + (1 : Int)) - x31) ∧
 ((p = p) ∧
 ((k = k) ∧
 ((c = c) ∧
 (((↑(List.length t) : Int) = (↑(List.length t) : Int)) ∧
 (((↑(List.length t ^ Int.toNat (k + (1 : Int))) : Int) = (↑(List.length t ^ Int.toNat (k + (1 : Int))) : Int)) ∧
 (((↑x31 : Int) + (1 : Int) = (↑x36 : Int)) ∧
 ((t = t) ∧
 ((cbL (fiB t p (Int.toNat (k + (1 : Int))) x31) (fiS t p (Int.toNat (k + (1 : Int))) x31) ++ [stF p (p - (p - ivM p (List.getD (redN p (cbL (fiB t p (Int.toNat (k + (1 : Int))) x31) (fiS t p (Int.toNat (k + (1 : Int))) x31)) (pvN (fiP t p (Int.toNat (k + (1 : Int))) x31)) (btF t p (Int.toNat (k + (1 : Int))) x31 ++ ehN (List.length t ^ Int.toNat (k + (1 : Int))) x31) x33) (Int.toNat (ldF (List.take (Int.toNat (↑(List.length c) : Int)) (List.drop (0 : Nat) (redN p (cbL (fiB t p (Int.toNat (k + (1 : Int))) x31) (fiS t p (Int.toNat (k + (1 : Int))) x31)) (pvN (fiP t p (Int.toNat (k + (1 : Int))) x31)) (btF t p (Int.toNat (k + (1 : Int))) x31 ++ ehN (List.length t ^ Int.toNat (k + (1 : Int))) x31) x33))))) (0 : Int)))) (redN p (cbL (fiB t p (Int.toNat (k + (1 : Int))) x31) (fiS t p (Int.toNat (k + (1 : Int))) x31)) (pvN (fiP t p (Int.toNat (k + (1 : Int))) x31)) (btF t p (Int.toNat (k + (1 : Int))) x31 ++ ehN (List.length t ^ Int.toNat (k + (1 : Int))) x31) x33) (List.replicate (Int.toNat (↑(List.length (redN p (cbL (fiB t p (Int.toNat (k + (1 : Int))) x31) (fiS t p (Int.toNat (k + (1 : Int))) x31)) (pvN (fiP t p (Int.toNat (k + (1 : Int))) x31)) (btF t p (Int.toNat (k + (1 : Int))) x31 ++ ehN (List.length t ^ Int.toNat (k + (1 : Int))) x31) x33)) : Int)) (0 : Int))] = cbL (fiB t p (Int.toNat (k + (1 : Int))) x36) (fiS t p (Int.toNat (k + (1 : Int))) x36)) ∧
 (fiP t p (Int.toNat (k + (1 : Int))) x31 ++ [ldF (List.take (Int.toNat (↑(List.length c) : Int)) (List.drop (0 : Nat) (redN p (cbL (fiB t p (Int.toNat (k + (1 : Int))) x31) (fiS t p (Int.toNat (k + (1 : Int))) x31)) (pvN (fiP t p (Int.toNat (k + (1 : Int))) x31)) (btF t p (Int.toNat (k + (1 : Int))) x31 ++ ehN (List.length t ^ Int.toNat (k + (1 : Int))) x31) x33)))] = fiP t p (Int.toNat (k + (1 : Int))) x36))))))))))))))))))))
 ((InR ((↑x31 : Int) + (1 : Int))) ∧
 (∃ x37 : Nat, (((x37 ≤ List.length t ^ Int.toNat (k + (1 : Int))) ∧
 ((chC t p k c = (0 : Int)) ∧
 (degB (↑(List.length t) : Int) (k + (1 : Int)) = Bool.true))) ∧
 ((List.length t ^ Int.toNat (k + (1 : Int)) - x37 < List.length t ^ Int.toNat (k + (1 : Int)) - x31) ∧
 ((p = p) ∧
 ((k = k) ∧
 ((c = c) ∧
 (((↑(List.length t) : Int) = (↑(List.length t) : Int)) ∧
 (((↑(List.length t ^ Int.toNat (k + (1 : Int))) : Int) = (↑(List.length t ^ Int.toNat (k + (1 : Int))) : Int)) ∧
 (((↑x31 : Int) + (1 : Int) = (↑x37 : Int)) ∧
 ((t = t) ∧
 ((cbL (fiB t p (Int.toNat (k + (1 : Int))) x31) (fiS t p (Int.toNat (k + (1 : Int))) x31) = cbL (fiB t p (Int.toNat (k + (1 : Int))) x37) (fiS t p (Int.toNat (k + (1 : Int))) x37)) ∧
 (fiP t p (Int.toNat (k + (1 : Int))) x31 = fiP t p (Int.toNat (k + (1 : Int))) x37))))))))))))))))))))))))))
 (((room (List.length c)) ∧
 (True)) ∧
 ((((0 : Int) ≤ (↑(List.length t ^ Int.toNat (k + (1 : Int))) : Int)) ∧
 (room (List.length c + Int.toNat (↑(List.length t ^ Int.toNat (k + (1 : Int))) : Int)))) ∧
 ((∃ x38 : Nat, (((x38 ≤ List.length (fiB t p (Int.toNat (k + (1 : Int))) (List.length t ^ Int.toNat (k + (1 : Int))))) ∧
 ((chC t p k c = (0 : Int)) ∧
 (degB (↑(List.length t) : Int) (k + (1 : Int)) = Bool.true))) ∧
 ((p = p) ∧
 ((c = c) ∧
 (((0 : Int) = (↑x38 : Int)) ∧
 ((cbL (fiB t p (Int.toNat (k + (1 : Int))) x31) (fiS t p (Int.toNat (k + (1 : Int))) x31) = cbL (fiB t p (Int.toNat (k + (1 : Int))) (List.length t ^ Int.toNat (k + (1 : Int)))) (fiS t p (Int.toNat (k + (1 : Int))) (List.length t ^ Int.toNat (k + (1 : Int))))) ∧
 ((fiP t p (Int.toNat (k + (1 : Int))) x31 = fiP t p (Int.toNat (k + (1 : Int))) (List.length t ^ Int.toNat (k + (1 : Int)))) ∧
 (c ++ List.replicate (Int.toNat (↑(List.length t ^ Int.toNat (k + (1 : Int))) : Int)) (0 : Int) = redN p (cbL (fiB t p (Int.toNat (k + (1 : Int))) (List.length t ^ Int.toNat (k + (1 : Int)))) (fiS t p (Int.toNat (k + (1 : Int))) (List.length t ^ Int.toNat (k + (1 : Int))))) (pvN (fiP t p (Int.toNat (k + (1 : Int))) (List.length t ^ Int.toNat (k + (1 : Int))))) (c ++ List.replicate (List.length t ^ Int.toNat (k + (1 : Int))) (0 : Int)) x38)))))))) ∧
 (∀ x39 : Nat, (((x39 ≤ List.length (fiB t p (Int.toNat (k + (1 : Int))) (List.length t ^ Int.toNat (k + (1 : Int))))) ∧
 ((chC t p k c = (0 : Int)) ∧
 (degB (↑(List.length t) : Int) (k + (1 : Int)) = Bool.true))) →
 (BrP (Decidable.decide ((↑x39 : Int) < (↑(List.length (cbL (fiB t p (Int.toNat (k + (1 : Int))) (List.length t ^ Int.toNat (k + (1 : Int)))) (fiS t p (Int.toNat (k + (1 : Int))) (List.length t ^ Int.toNat (k + (1 : Int)))))) : Int)))
 ((inB (↑x39 : Int) (List.length (fiP t p (Int.toNat (k + (1 : Int))) (List.length t ^ Int.toNat (k + (1 : Int)))))) ∧
 ((inB (List.getD (fiP t p (Int.toNat (k + (1 : Int))) (List.length t ^ Int.toNat (k + (1 : Int)))) (Int.toNat (↑x39 : Int)) (0 : Int)) (List.length (redN p (cbL (fiB t p (Int.toNat (k + (1 : Int))) (List.length t ^ Int.toNat (k + (1 : Int)))) (fiS t p (Int.toNat (k + (1 : Int))) (List.length t ^ Int.toNat (k + (1 : Int))))) (pvN (fiP t p (Int.toNat (k + (1 : Int))) (List.length t ^ Int.toNat (k + (1 : Int))))) (c ++ List.replicate (List.length t ^ Int.toNat (k + (1 : Int))) (0 : Int)) x39))) ∧
 (BrP (List.getD (redN p (cbL (fiB t p (Int.toNat (k + (1 : Int))) (List.length t ^ Int.toNat (k + (1 : Int)))) (fiS t p (Int.toNat (k + (1 : Int))) (List.length t ^ Int.toNat (k + (1 : Int))))) (pvN (fiP t p (Int.toNat (k + (1 : Int))) (List.length t ^ Int.toNat (k + (1 : Int))))) (c ++ List.replicate (List.length t ^ Int.toNat (k + (1 : Int))) (0 : Int)) x39) (Int.toNat (List.getD (fiP t p (Int.toNat (k + (1 : Int))) (List.length t ^ Int.toNat (k + (1 : Int)))) (Int.toNat (↑x39 : Int)) (0 : Int))) (0 : Int) != (0 : Int))
 ((inB (↑x39 : Int) (List.length (cbL (fiB t p (Int.toNat (k + (1 : Int))) (List.length t ^ Int.toNat (k + (1 : Int)))) (fiS t p (Int.toNat (k + (1 : Int))) (List.length t ^ Int.toNat (k + (1 : Int))))))) ∧
 ((inB (↑x39 : Int) (List.length (fiP t p (Int.toNat (k + (1 : Int))) (List.length t ^ Int.toNat (k + (1 : Int)))))) ∧
 ((inB (List.getD (fiP t p (Int.toNat (k + (1 : Int))) (List.length t ^ Int.toNat (k + (1 : Int)))) (Int.toNat (↑x39 : Int)) (0 : Int)) (List.length (redN p (cbL (fiB t p (Int.toNat (k + (1 : Int))) (List.length t ^ Int.toNat (k + (1 : Int)))) (fiS t p (Int.toNat (k + (1 : Int))) (List.length t ^ Int.toNat (k + (1 : Int))))) (pvN (fiP t p (Int.toNat (k + (1 : Int))) (List.length t ^ Int.toNat (k + (1 : Int))))) (c ++ List.replicate (List.length t ^ Int.toNat (k + (1 : Int))) (0 : Int)) x39))) ∧
 ((((twR p (redN p (cbL (fiB t p (Int.toNat (k + (1 : Int))) (List.length t ^ Int.toNat (k + (1 : Int)))) (fiS t p (Int.toNat (k + (1 : Int))) (List.length t ^ Int.toNat (k + (1 : Int))))) (pvN (fiP t p (Int.toNat (k + (1 : Int))) (List.length t ^ Int.toNat (k + (1 : Int))))) (c ++ List.replicate (List.length t ^ Int.toNat (k + (1 : Int))) (0 : Int)) x39) (List.getD (cbL (fiB t p (Int.toNat (k + (1 : Int))) (List.length t ^ Int.toNat (k + (1 : Int)))) (fiS t p (Int.toNat (k + (1 : Int))) (List.length t ^ Int.toNat (k + (1 : Int))))) (Int.toNat (↑x39 : Int)) [])) ∧
 (((0 : Int) ≤ p - List.getD (redN p (cbL (fiB t p (Int.toNat (k + (1 : Int))) (List.length t ^ Int.toNat (k + (1 : Int)))) (fiS t p (Int.toNat (k + (1 : Int))) (List.length t ^ Int.toNat (k + (1 : Int))))) (pvN (fiP t p (Int.toNat (k + (1 : Int))) (List.length t ^ Int.toNat (k + (1 : Int))))) (c ++ List.replicate (List.length t ^ Int.toNat (k + (1 : Int))) (0 : Int)) x39) (Int.toNat (List.getD (fiP t p (Int.toNat (k + (1 : Int))) (List.length t ^ Int.toNat (k + (1 : Int)))) (Int.toNat (↑x39 : Int)) (0 : Int))) (0 : Int)) ∧
 ((p - List.getD (redN p (cbL (fiB t p (Int.toNat (k + (1 : Int))) (List.length t ^ Int.toNat (k + (1 : Int)))) (fiS t p (Int.toNat (k + (1 : Int))) (List.length t ^ Int.toNat (k + (1 : Int))))) (pvN (fiP t p (Int.toNat (k + (1 : Int))) (List.length t ^ Int.toNat (k + (1 : Int))))) (c ++ List.replicate (List.length t ^ Int.toNat (k + (1 : Int))) (0 : Int)) x39) (Int.toNat (List.getD (fiP t p (Int.toNat (k + (1 : Int))) (List.length t ^ Int.toNat (k + (1 : Int)))) (Int.toNat (↑x39 : Int)) (0 : Int))) (0 : Int) ≤ (7 : Int)) ∧
 (((-100 : Int) ≤ List.getD (redN p (cbL (fiB t p (Int.toNat (k + (1 : Int))) (List.length t ^ Int.toNat (k + (1 : Int)))) (fiS t p (Int.toNat (k + (1 : Int))) (List.length t ^ Int.toNat (k + (1 : Int))))) (pvN (fiP t p (Int.toNat (k + (1 : Int))) (List.length t ^ Int.toNat (k + (1 : Int))))) (c ++ List.replicate (List.length t ^ Int.toNat (k + (1 : Int))) (0 : Int)) x39) (Int.toNat (List.getD (fiP t p (Int.toNat (k + (1 : Int))) (List.length t ^ Int.toNat (k + (1 : Int)))) (Int.toNat (↑x39 : Int)) (0 : Int))) (0 : Int)) ∧
 (List.getD (redN p (cbL (fiB t p (Int.toNat (k + (1 : Int))) (List.length t ^ Int.toNat (k + (1 : Int)))) (fiS t p (Int.toNat (k + (1 : Int))) (List.length t ^ Int.toNat (k + (1 : Int))))) (pvN (fiP t p (Int.toNat (k + (1 : Int))) (List.length t ^ Int.toNat (k + (1 : Int))))) (c ++ List.replicate (List.length t ^ Int.toNat (k + (1 : Int))) (0 : Int)) x39) (Int.toNat (List.getD (fiP t p (Int.toNat (k + (1 : Int))) (List.length t ^ Int.toNat (k + (1 : Int)))) (Int.toNat (↑x39 : Int)) (0 : Int))) (0 : Int) ≤ (100 : Int)))))) ∧
 (True)) ∧
 ((InR ((↑x39 : Int) + (1 : Int))) ∧
 (∃ x40 : Nat, (((x40 ≤ List.length (fiB t p (Int.toNat (k + (1 : Int))) (List.length t ^ Int.toNat (k + (1 : Int))))) ∧
 ((chC t p k c = (0 : Int)) ∧
 (degB (↑(List.length t) : Int) (k + (1 : Int)) = Bool.true))) ∧
 ((List.length (fiB t p (Int.toNat (k + (1 : Int))) (List.length t ^ Int.toNat (k + (1 : Int)))) - x40 < List.length (fiB t p (Int.toNat (k + (1 : Int))) (List.length t ^ Int.toNat (k + (1 : Int)))) - x39) ∧
 ((p = p) ∧
 ((c = c) ∧
 (((↑x39 : Int) + (1 : Int) = (↑x40 : Int)) ∧
 ((cbL (fiB t p (Int.toNat (k + (1 : Int))) (List.length t ^ Int.toNat (k + (1 : Int)))) (fiS t p (Int.toNat (k + (1 : Int))) (List.length t ^ Int.toNat (k + (1 : Int)))) = cbL (fiB t p (Int.toNat (k + (1 : Int))) (List.length t ^ Int.toNat (k + (1 : Int)))) (fiS t p (Int.toNat (k + (1 : Int))) (List.length t ^ Int.toNat (k + (1 : Int))))) ∧
 ((fiP t p (Int.toNat (k + (1 : Int))) (List.length t ^ Int.toNat (k + (1 : Int))) = fiP t p (Int.toNat (k + (1 : Int))) (List.length t ^ Int.toNat (k + (1 : Int)))) ∧
 (stF p (p - List.getD (redN p (cbL (fiB t p (Int.toNat (k + (1 : Int))) (List.length t ^ Int.toNat (k + (1 : Int)))) (fiS t p (Int.toNat (k + (1 : Int))) (List.length t ^ Int.toNat (k + (1 : Int))))) (pvN (fiP t p (Int.toNat (k + (1 : Int))) (List.length t ^ Int.toNat (k + (1 : Int))))) (c ++ List.replicate (List.length t ^ Int.toNat (k + (1 : Int))) (0 : Int)) x39) (Int.toNat (List.getD (fiP t p (Int.toNat (k + (1 : Int))) (List.length t ^ Int.toNat (k + (1 : Int)))) (Int.toNat (↑x39 : Int)) (0 : Int))) (0 : Int)) (List.getD (cbL (fiB t p (Int.toNat (k + (1 : Int))) (List.length t ^ Int.toNat (k + (1 : Int)))) (fiS t p (Int.toNat (k + (1 : Int))) (List.length t ^ Int.toNat (k + (1 : Int))))) (Int.toNat (↑x39 : Int)) []) (redN p (cbL (fiB t p (Int.toNat (k + (1 : Int))) (List.length t ^ Int.toNat (k + (1 : Int)))) (fiS t p (Int.toNat (k + (1 : Int))) (List.length t ^ Int.toNat (k + (1 : Int))))) (pvN (fiP t p (Int.toNat (k + (1 : Int))) (List.length t ^ Int.toNat (k + (1 : Int))))) (c ++ List.replicate (List.length t ^ Int.toNat (k + (1 : Int))) (0 : Int)) x39) = redN p (cbL (fiB t p (Int.toNat (k + (1 : Int))) (List.length t ^ Int.toNat (k + (1 : Int)))) (fiS t p (Int.toNat (k + (1 : Int))) (List.length t ^ Int.toNat (k + (1 : Int))))) (pvN (fiP t p (Int.toNat (k + (1 : Int))) (List.length t ^ Int.toNat (k + (1 : Int))))) (c ++ List.replicate (List.length t ^ Int.toNat (k + (1 : Int))) (0 : Int)) x40))))))))))))))
 ((InR ((↑x39 : Int) + (1 : Int))) ∧
 (∃ x41 : Nat, (((x41 ≤ List.length (fiB t p (Int.toNat (k + (1 : Int))) (List.length t ^ Int.toNat (k + (1 : Int))))) ∧
 ((chC t p k c = (0 : Int)) ∧
 (degB (↑(List.length t) : Int) (k + (1 : Int)) = Bool.true))) ∧
 ((List.length (fiB t p (Int.toNat (k + (1 : Int))) (List.length t ^ Int.toNat (k + (1 : Int)))) - x41 < List.length (fiB t p (Int.toNat (k + (1 : Int))) (List.length t ^ Int.toNat (k + (1 : Int)))) - x39) ∧
 ((p = p) ∧
 ((c = c) ∧
 (((↑x39 : Int) + (1 : Int) = (↑x41 : Int)) ∧
 ((cbL (fiB t p (Int.toNat (k + (1 : Int))) (List.length t ^ Int.toNat (k + (1 : Int)))) (fiS t p (Int.toNat (k + (1 : Int))) (List.length t ^ Int.toNat (k + (1 : Int)))) = cbL (fiB t p (Int.toNat (k + (1 : Int))) (List.length t ^ Int.toNat (k + (1 : Int)))) (fiS t p (Int.toNat (k + (1 : Int))) (List.length t ^ Int.toNat (k + (1 : Int))))) ∧
 ((fiP t p (Int.toNat (k + (1 : Int))) (List.length t ^ Int.toNat (k + (1 : Int))) = fiP t p (Int.toNat (k + (1 : Int))) (List.length t ^ Int.toNat (k + (1 : Int)))) ∧
 (redN p (cbL (fiB t p (Int.toNat (k + (1 : Int))) (List.length t ^ Int.toNat (k + (1 : Int)))) (fiS t p (Int.toNat (k + (1 : Int))) (List.length t ^ Int.toNat (k + (1 : Int))))) (pvN (fiP t p (Int.toNat (k + (1 : Int))) (List.length t ^ Int.toNat (k + (1 : Int))))) (c ++ List.replicate (List.length t ^ Int.toNat (k + (1 : Int))) (0 : Int)) x39 = redN p (cbL (fiB t p (Int.toNat (k + (1 : Int))) (List.length t ^ Int.toNat (k + (1 : Int)))) (fiS t p (Int.toNat (k + (1 : Int))) (List.length t ^ Int.toNat (k + (1 : Int))))) (pvN (fiP t p (Int.toNat (k + (1 : Int))) (List.length t ^ Int.toNat (k + (1 : Int))))) (c ++ List.replicate (List.length t ^ Int.toNat (k + (1 : Int))) (0 : Int)) x41)))))))))))))
 ((bdsOk (List.length (redN p (cbL (fiB t p (Int.toNat (k + (1 : Int))) (List.length t ^ Int.toNat (k + (1 : Int)))) (fiS t p (Int.toNat (k + (1 : Int))) (List.length t ^ Int.toNat (k + (1 : Int))))) (pvN (fiP t p (Int.toNat (k + (1 : Int))) (List.length t ^ Int.toNat (k + (1 : Int))))) (c ++ List.replicate (List.length t ^ Int.toNat (k + (1 : Int))) (0 : Int)) x39)) Option.none (Option.some (↑(List.length c) : Int))) ∧
 (((List.length (List.take (Int.toNat (↑(List.length c) : Int)) (List.drop (0 : Nat) (redN p (cbL (fiB t p (Int.toNat (k + (1 : Int))) (List.length t ^ Int.toNat (k + (1 : Int)))) (fiS t p (Int.toNat (k + (1 : Int))) (List.length t ^ Int.toNat (k + (1 : Int))))) (pvN (fiP t p (Int.toNat (k + (1 : Int))) (List.length t ^ Int.toNat (k + (1 : Int))))) (c ++ List.replicate (List.length t ^ Int.toNat (k + (1 : Int))) (0 : Int)) x39))) ≤ (1000 : Nat)) ∧
 (True)) ∧
 (BrP (Decidable.decide ((0 : Int) ≤ ldF (List.take (Int.toNat (↑(List.length c) : Int)) (List.drop (0 : Nat) (redN p (cbL (fiB t p (Int.toNat (k + (1 : Int))) (List.length t ^ Int.toNat (k + (1 : Int)))) (fiS t p (Int.toNat (k + (1 : Int))) (List.length t ^ Int.toNat (k + (1 : Int))))) (pvN (fiP t p (Int.toNat (k + (1 : Int))) (List.length t ^ Int.toNat (k + (1 : Int))))) (c ++ List.replicate (List.length t ^ Int.toNat (k + (1 : Int))) (0 : Int)) x39)))))
 ((([] = Prod.fst (flC t p k c)) ∧
 (((4 : Int) = Prod.snd (flC t p k c)) ∧
 (True))) ∧
 (True))
 ((∃ x42 : Nat, (((x42 ≤ List.length t ^ Int.toNat (k + (1 : Int))) ∧
 ((ldF (Prod.fst (flR t p (Int.toNat (k + (1 : Int))) c)) < (0 : Int)) ∧
 ((chC t p k c = (0 : Int)) ∧
 (degB (↑(List.length t) : Int) (k + (1 : Int)) = Bool.true)))) ∧
 ((p = p) ∧
 (((↑(List.length c) : Int) = (↑(List.length c + x42) : Int)) ∧
 ((redN p (cbL (fiB t p (Int.toNat (k + (1 : Int))) (List.length t ^ Int.toNat (k + (1 : Int)))) (fiS t p (Int.toNat (k + (1 : Int))) (List.length t ^ Int.toNat (k + (1 : Int))))) (pvN (fiP t p (Int.toNat (k + (1 : Int))) (List.length t ^ Int.toNat (k + (1 : Int))))) (c ++ List.replicate (List.length t ^ Int.toNat (k + (1 : Int))) (0 : Int)) x39 = Prod.fst (flR t p (Int.toNat (k + (1 : Int))) c) ++ Prod.snd (flR t p (Int.toNat (k + (1 : Int))) c)) ∧
 ([] = List.take x42 (ngF p (Prod.snd (flR t p (Int.toNat (k + (1 : Int))) c))))))))) ∧
 (∀ x43 : Nat, (((x43 ≤ List.length t ^ Int.toNat (k + (1 : Int))) ∧
 ((ldF (Prod.fst (flR t p (Int.toNat (k + (1 : Int))) c)) < (0 : Int)) ∧
 ((chC t p k c = (0 : Int)) ∧
 (degB (↑(List.length t) : Int) (k + (1 : Int)) = Bool.true)))) →
 (BrP (Decidable.decide ((↑(List.length c + x43) : Int) < (↑(List.length (Prod.fst (flR t p (Int.toNat (k + (1 : Int))) c) ++ Prod.snd (flR t p (Int.toNat (k + (1 : Int))) c))) : Int)))
 ((inB (↑(List.length c + x43) : Int) (List.length (Prod.fst (flR t p (Int.toNat (k + (1 : Int))) c) ++ Prod.snd (flR t p (Int.toNat (k + (1 : Int))) c)))) ∧
 ((InR (p - List.getD (Prod.fst (flR t p (Int.toNat (k + (1 : Int))) c) ++ Prod.snd (flR t p (Int.toNat (k + (1 : Int))) c)) (Int.toNat (↑(List.length c + x43) : Int)) (0 : Int))) ∧
 ((p ≠ (0 : Int)) ∧
 ((room (List.length (List.take x43 (ngF p (Prod.snd (flR t p (Int.toNat (k + (1 : Int))) c)))) + List.length [Int.tmod (p - List.getD (Prod.fst (flR t p (Int.toNat (k + (1 : Int))) c) ++ Prod.snd (flR t p (Int.toNat (k + (1 : Int))) c)) (Int.toNat (↑(List.length c + x43) : Int)) (0 : Int)) p])) ∧
 ((InR ((↑(List.length c + x43) : Int) + (1 : Int))) ∧
 (∃ x44 : Nat, (((x44 ≤ List.length t ^ Int.toNat (k + (1 : Int))) ∧
 ((ldF (Prod.fst (flR t p (Int.toNat (k + (1 : Int))) c)) < (0 : Int)) ∧
 ((chC t p k c = (0 : Int)) ∧
 (degB (↑(List.length t) : Int) (k + (1 : Int)) = Bool.true)))) ∧
 ((List.length t ^ Int.toNat (k + (1 : Int)) - x44 < List.length t ^ Int.toNat (k + (1 : Int)) - x43) ∧
 ((p = p) ∧
 (((↑(List.length c + x43) : Int) + (1 : Int) = (↑(List.length c + x44) : Int)) ∧
 ((Prod.fst (flR t p (Int.toNat (k + (1 : Int))) c) ++ Prod.snd (flR t p (Int.toNat (k + (1 : Int))) c) = Prod.fst (flR t p (Int.toNat (k + (1 : Int))) c) ++ Prod.snd (flR t p (Int.toNat (k + (1 : Int))) c)) ∧
 (List.take x43 (ngF p (Prod.snd (flR t p (Int.toNat (k + (1 : Int))) c))) ++ [Int.tmod (p - List.getD (Prod.fst (flR t p (Int.toNat (k + (1 : Int))) c) ++ Prod.snd (flR t p (Int.toNat (k + (1 : Int))) c)) (Int.toNat (↑(List.length c + x43) : Int)) (0 : Int)) p] = List.take x44 (ngF p (Prod.snd (flR t p (Int.toNat (k + (1 : Int))) c)))))))))))))))
 (((List.take x43 (ngF p (Prod.snd (flR t p (Int.toNat (k + (1 : Int))) c))) = Prod.fst (flC t p k c)) ∧
 (((0 : Int) = Prod.snd (flC t p k c)) ∧
 (True))) ∧
 (True)))))))))))))))))))))))))
 (BrP (dgC t p k != (0 : Int))
 ((([] = Prod.fst (flC t p k c)) ∧
 ((dgC t p k = Prod.snd (flC t p k c)) ∧
 (True))) ∧
 (True))
 ((InR (k + (1 : Int))) ∧
 (((((1 : Int) ≤ (↑(List.length t) : Int)) ∧
 (((↑(List.length t) : Int) ≤ (12 : Int)) ∧
 (((0 : Int) ≤ k + (1 : Int)) ∧
 (k + (1 : Int) ≤ (1000 : Int))))) ∧
 (True)) ∧
 ((∃ x45 : Nat, (((x45 ≤ List.length t ^ Int.toNat (k + (1 : Int))) ∧
 ((chC t p k c = (0 : Int)) ∧
 (degB (↑(List.length t) : Int) (k + (1 : Int)) = Bool.true))) ∧
 ((p = p) ∧
 ((k = k) ∧
 ((c = c) ∧
 (((↑(List.length t) : Int) = (↑(List.length t) : Int)) ∧
 (((if (↑(List.length t) : Int) ^ Int.toNat (k + (1 : Int)) ≤ (512 : Int) then (↑(List.length t) : Int) ^ Int.toNat (k + (1 : Int)) else (513 : Int)) = (↑(List.length t ^ Int.toNat (k + (1 : Int))) : Int)) ∧
 (((0 : Int) = (↑x45 : Int)) ∧
 ((t = t) ∧
 (([] = cbL (fiB t p (Int.toNat (k + (1 : Int))) x45) (fiS t p (Int.toNat (k + (1 : Int))) x45)) ∧
 ([] = fiP t p (Int.toNat (k + (1 : Int))) x45))))))))))) ∧
 (∀ x46 : Nat, (((x46 ≤ List.length t ^ Int.toNat (k + (1 : Int))) ∧
 ((chC t p k c = (0 : Int)) ∧
 (degB (↑(List.length t) : Int) (k + (1 : Int)) = Bool.true))) →
 (BrP (Decidable.decide ((↑x46 : Int) < (↑(List.length t ^ Int.toNat (k + (1 : Int))) : Int)))
 ((InR (k + (1 : Int))) ∧
 (((((1 : Int) ≤ (↑(List.length t) : Int)) ∧
 (((0 : Int) ≤ k + (1 : Int)) ∧
 ((k + (1 : Int) ≤ (1000 : Int)) ∧
 (((0 : Int) ≤ (↑x46 : Int)) ∧
 ((↑x46 : Int) ≤ (1000000 : Int)))))) ∧
 (True)) ∧
 ((((bdOk t p (digN (↑(List.length t) : Int) (Int.toNat (k + (1 : Int))) (↑x46 : Int))) ∧
 ((1 : Nat) ≤ List.length (digN (↑(List.length t) : Int) (Int.toNat (k + (1 : Int))) (↑x46 : Int)))) ∧
 (True)) ∧
 ((((0 : Int) ≤ (↑(List.length t ^ Int.toNat (k + (1 : Int))) : Int)) ∧
 (((↑(List.length t ^ Int.toNat (k + (1 : Int))) : Int) ≤ (↑(List.length t ^ Int.toNat (k + (1 : Int))) : Int)) ∧
 (room (Int.toNat (↑(List.length t ^ Int.toNat (k + (1 : Int))) : Int))))) ∧
 ((inB (↑x46 : Int) (List.length (List.replicate (Int.toNat (↑(List.length t ^ Int.toNat (k + (1 : Int))) : Int)) (0 : Int)))) ∧
 ((room (List.length (ptF t p (digN (↑(List.length t) : Int) (Int.toNat (k + (1 : Int))) (↑x46 : Int)) (List.length (digN (↑(List.length t) : Int) (Int.toNat (k + (1 : Int))) (↑x46 : Int)))) + List.length (List.set (List.replicate (Int.toNat (↑(List.length t ^ Int.toNat (k + (1 : Int))) : Int)) (0 : Int)) (Int.toNat (↑x46 : Int)) (1 : Int)))) ∧
 ((∃ x47 : Nat, (((x47 ≤ List.length (fiB t p (Int.toNat (k + (1 : Int))) x46)) ∧
 ((x46 < List.length t ^ Int.toNat (k + (1 : Int))) ∧
 ((chC t p k c = (0 : Int)) ∧
 (degB (↑(List.length t) : Int) (k + (1 : Int)) = Bool.true)))) ∧
 ((p = p) ∧
 ((k = k) ∧
 ((c = c) ∧
 (((↑(List.length t) : Int) = (↑(List.length t) : Int)) ∧
 (((↑(List.length t ^ Int.toNat (k + (1 : Int))) : Int) = (↑(List.length t ^ Int.toNat (k + (1 : Int))) : Int)) ∧
 (((↑x46 : Int) = (↑x46 : Int)) ∧
 (((0 : Int) = (↑x47 : Int)) ∧
 ((t = t) ∧
 ((cbL (fiB t p (Int.toNat (k + (1 : Int))) x46) (fiS t p (Int.toNat (k + (1 : Int))) x46) = cbL (fiB t p (Int.toNat (k + (1 : Int))) x46) (fiS t p (Int.toNat (k + (1 : Int))) x46)) ∧
 ((fiP t p (Int.toNat (k + (1 : Int))) x46 = fiP t p (Int.toNat (k + (1 : Int))) x46) ∧
 (ptF t p (digN (↑(List.length t) : Int) (Int.toNat (k + (1 : Int))) (↑x46 : Int)) (List.length (digN (↑(List.length t) : Int) (Int.toNat (k + (1 : Int))) (↑x46 : Int))) ++ List.set (List.replicate (Int.toNat (↑(List.length t ^ Int.toNat (k + (1 : Int))) : Int)) (0 : Int)) (Int.toNat (↑x46 : Int)) (1 : Int) = redN p (cbL (fiB t p (Int.toNat (k + (1 : Int))) x46) (fiS t p (Int.toNat (k + (1 : Int))) x46)) (pvN (fiP t p (Int.toNat (k + (1 : Int))) x46)) (btF t p (Int.toNat (k + (1 : Int))) x46 ++ ehN (List.length t ^ Int.toNat (k + (1 : Int))) x46) x47))))))))))))) ∧
 (∀ x48 : Nat, (((x48 ≤ List.length (fiB t p (Int.toNat (k + (1 : Int))) x46)) ∧
 ((x46 < List.length t ^ Int.toNat (k + (1 : Int))) ∧
 ((chC t p k c = (0 : Int)) ∧
 (degB (↑(List.length t) : Int) (k + (1 : Int)) = Bool.true)))) →
 (BrP (Decidable.decide ((↑x48 : Int) < (↑(List.length (cbL (fiB t p (Int.toNat (k + (1 : Int))) x46) (fiS t p (Int.toNat (k + (1 : Int))) x46))) : Int)))
 ((inB (↑x48 : Int) (List.length (fiP t p (Int.toNat (k + (1 : Int))) x46))) ∧
 ((inB (List.getD (fiP t p (Int.toNat (k + (1 : Int))) x46) (Int.toNat (↑x48 : Int)) (0 : Int)) (List.length (redN p (cbL (fiB t p (Int.toNat (k + (1 : Int))) x46) (fiS t p (Int.toNat (k + (1 : Int))) x46)) (pvN (fiP t p (Int.toNat (k + (1 : Int))) x46)) (btF t p (Int.toNat (k + (1 : Int))) x46 ++ ehN (List.length t ^ Int.toNat (k + (1 : Int))) x46) x48))) ∧
 (BrP (List.getD (redN p (cbL (fiB t p (Int.toNat (k + (1 : Int))) x46) (fiS t p (Int.toNat (k + (1 : Int))) x46)) (pvN (fiP t p (Int.toNat (k + (1 : Int))) x46)) (btF t p (Int.toNat (k + (1 : Int))) x46 ++ ehN (List.length t ^ Int.toNat (k + (1 : Int))) x46) x48) (Int.toNat (List.getD (fiP t p (Int.toNat (k + (1 : Int))) x46) (Int.toNat (↑x48 : Int)) (0 : Int))) (0 : Int) != (0 : Int))
 ((inB (↑x48 : Int) (List.length (cbL (fiB t p (Int.toNat (k + (1 : Int))) x46) (fiS t p (Int.toNat (k + (1 : Int))) x46)))) ∧
 ((inB (↑x48 : Int) (List.length (fiP t p (Int.toNat (k + (1 : Int))) x46))) ∧
 ((inB (List.getD (fiP t p (Int.toNat (k + (1 : Int))) x46) (Int.toNat (↑x48 : Int)) (0 : Int)) (List.length (redN p (cbL (fiB t p (Int.toNat (k + (1 : Int))) x46) (fiS t p (Int.toNat (k + (1 : Int))) x46)) (pvN (fiP t p (Int.toNat (k + (1 : Int))) x46)) (btF t p (Int.toNat (k + (1 : Int))) x46 ++ ehN (List.length t ^ Int.toNat (k + (1 : Int))) x46) x48))) ∧
 ((((twR p (redN p (cbL (fiB t p (Int.toNat (k + (1 : Int))) x46) (fiS t p (Int.toNat (k + (1 : Int))) x46)) (pvN (fiP t p (Int.toNat (k + (1 : Int))) x46)) (btF t p (Int.toNat (k + (1 : Int))) x46 ++ ehN (List.length t ^ Int.toNat (k + (1 : Int))) x46) x48) (List.getD (cbL (fiB t p (Int.toNat (k + (1 : Int))) x46) (fiS t p (Int.toNat (k + (1 : Int))) x46)) (Int.toNat (↑x48 : Int)) [])) ∧
 (((0 : Int) ≤ p - List.getD (redN p (cbL (fiB t p (Int.toNat (k + (1 : Int))) x46) (fiS t p (Int.toNat (k + (1 : Int))) x46)) (pvN (fiP t p (Int.toNat (k + (1 : Int))) x46)) (btF t p (Int.toNat (k + (1 : Int))) x46 ++ ehN (List.length t ^ Int.toNat (k + (1 : Int))) x46) x48) (Int.toNat (List.getD (fiP t p (Int.toNat (k + (1 : Int))) x46) (Int.toNat (↑x48 : Int)) (0 : Int))) (0 : Int)) ∧
 ((p - List.getD (redN p (cbL (fiB t p (Int.toNat (k + (1 : Int))) x46) (fiS t p (Int.toNat (k + (1 : Int))) x46)) (pvN (fiP t p (Int.toNat (k + (1 : Int))) x46)) (btF t p (Int.toNat (k + (1 : Int))) x46 ++ ehN (List.length t ^ Int.toNat (k + (1 : Int))) x46) x48) (Int.toNat (List.getD (fiP t p (Int.toNat (k + (1 : Int))) x46) (Int.toNat (↑x48 : Int)) (0 : Int))) (0 : Int) ≤ (7 : Int)) ∧
 (((-100 : Int) ≤ List.getD (redN p (cbL (fiB t p (Int.toNat (k + (1 : Int))) x46) (fiS t p (Int.toNat (k + (1 : Int))) x46)) (pvN (fiP t p (Int.toNat (k + (1 : Int))) x46)) (btF t p (Int.toNat (k + (1 : Int))) x46 ++ ehN (List.length t ^ Int.toNat (k + (1 : Int))) x46) x48) (Int.toNat (List.getD (fiP t p (Int.toNat (k + (1 : Int))) x46) (Int.toNat (↑x48 : Int)) (0 : Int))) (0 : Int)) ∧
 (List.getD (redN p (cbL (fiB t p (Int.toNat (k + (1 : Int))) x46) (fiS t p (Int.toNat (k + (1 : Int))) x46)) (pvN (fiP t p (Int.toNat (k + (1 : Int))) x46)) (btF t p (Int.toNat (k + (1 : Int))) x46 ++ ehN (List.length t ^ Int.toNat (k + (1 : Int))) x46) x48) (Int.toNat (List.getD (fiP t p (Int.toNat (k + (1 : Int))) x46) (Int.toNat (↑x48 : Int)) (0 : Int))) (0 : Int) ≤ (100 : Int)))))) ∧
 (True)) ∧
 ((InR ((↑x48 : Int) + (1 : Int))) ∧
 (∃ x49 : Nat, (((x49 ≤ List.length (fiB t p (Int.toNat (k + (1 : Int))) x46)) ∧
 ((x46 < List.length t ^ Int.toNat (k + (1 : Int))) ∧
 ((chC t p k c = (0 : Int)) ∧
 (degB (↑(List.length t) : Int) (k + (1 : Int)) = Bool.true)))) ∧
 ((List.length (fiB t p (Int.toNat (k + (1 : Int))) x46) - x49 < List.length (fiB t p (Int.toNat (k + (1 : Int))) x46) - x48) ∧
 ((p = p) ∧
 ((k = k) ∧
 ((c = c) ∧
 (((↑(List.length t) : Int) = (↑(List.length t) : Int)) ∧
 (((↑(List.length t ^ Int.toNat (k + (1 : Int))) : Int) = (↑(List.length t ^ Int.toNat (k + (1 : Int))) : Int)) ∧
 (((↑x46 : Int) = (↑x46 : Int)) ∧
 (((↑x48 : Int) + (1 : Int) = (↑x49 : Int)) ∧
 ((t = t) ∧
 ((cbL (fiB t p (Int.toNat (k + (1 : Int))) x46) (fiS t p (Int.toNat (k + (1 : Int))) x46) = cbL (fiB t p (Int.toNat (k + (1 : Int))) x46) (fiS t p (Int.toNat (k + (1 : Int))) x46)) ∧
 ((fiP t p (Int.toNat (k + (1 : Int))) x46 = fiP t p (Int.toNat (k + (1 : Int))) x46) ∧
 (stF p (p - List.getD (redN p (cbL (fiB t p (Int.toNat (k + (1 : Int))) x46) (fiS t p (Int.toNat (k + (1 : Int))) x46)) (pvN (fiP t p (Int.toNat (k + (1 : Int))) x46)) (btF t p (Int.toNat (k + (1 : Int))) x46 ++ ehN (List.length t ^ Int.toNat (k + (1 : Int))) x46) x48) (Int.toNat (List.getD (fiP t p (Int.toNat (k + (1 : Int))) x46) (Int.toNat (↑x48 : Int)) (0 : Int))) (0 : Int)) (List.getD (cbL (fiB t p (Int.toNat (k + (1 : Int))) x46) (fiS t p (Int.toNat (k + (1 : Int))) x46)) (Int.toNat (↑x48 : Int)) []) (redN p (cbL (fiB t p (Int.toNat (k + (1 : Int))) x46) (fiS t p (Int.toNat (k + (1 : Int))) x46)) (pvN (fiP t p (Int.toNat (k + (1 : Int))) x46)) (btF t p (Int.toNat (k + (1 : Int))) x46 ++ ehN (List.length t ^ Int.toNat (k + (1 : Int))) x46) x48) = redN p (cbL (fiB t p (Int.toNat (k + (1 : Int))) x46) (fiS t p (Int.toNat (k + (1 : Int))) x46)) (pvN (fiP t p (Int.toNat (k + (1 : Int))) x46)) (btF t p (Int.toNat (k + (1 : Int))) x46 ++ ehN (List.length t ^ Int.toNat (k + (1 : Int))) x46) x49)))))))))))))))))))
 ((InR ((↑x48 : Int) + (1 : Int))) ∧
 (∃ x50 : Nat, (((x50 ≤ List.length (fiB t p (Int.toNat (k + (1 : Int))) x46)) ∧
 ((x46 < List.length t ^ Int.toNat (k + (1 : Int))) ∧
 ((chC t p k c = (0 : Int)) ∧
 (degB (↑(List.length t) : Int) (k + (1 : Int)) = Bool.true)))) ∧
 ((List.length (fiB t p (Int.toNat (k + (1 : Int))) x46) - x50 < List.length (fiB t p (Int.toNat (k + (1 : Int))) x46) - x48) ∧
 ((p = p) ∧
 ((k = k) ∧
 ((c = c) ∧
 (((↑(List.length t) : Int) = (↑(List.length t) : Int)) ∧
 (((↑(List.length t ^ Int.toNat (k + (1 : Int))) : Int) = (↑(List.length t ^ Int.toNat (k + (1 : Int))) : Int)) ∧
 (((↑x46 : Int) = (↑x46 : Int)) ∧
 (((↑x48 : Int) + (1 : Int) = (↑x50 : Int)) ∧
 ((t = t) ∧
 ((cbL (fiB t p (Int.toNat (k + (1 : Int))) x46) (fiS t p (Int.toNat (k + (1 : Int))) x46) = cbL (fiB t p (Int.toNat (k + (1 : Int))) x46) (fiS t p (Int.toNat (k + (1 : Int))) x46)) ∧
 ((fiP t p (Int.toNat (k + (1 : Int))) x46 = fiP t p (Int.toNat (k + (1 : Int))) x46) ∧
 (redN p (cbL (fiB t p (Int.toNat (k + (1 : Int))) x46) (fiS t p (Int.toNat (k + (1 : Int))) x46)) (pvN (fiP t p (Int.toNat (k + (1 : Int))) x46)) (btF t p (Int.toNat (k + (1 : Int))) x46 ++ ehN (List.length t ^ Int.toNat (k + (1 : Int))) x46) x48 = redN p (cbL (fiB t p (Int.toNat (k + (1 : Int))) x46) (fiS t p (Int.toNat (k + (1 : Int))) x46)) (pvN (fiP t p (Int.toNat (k + (1 : Int))) x46)) (btF t p (Int.toNat (k + (1 : Int))) x46 ++ ehN (List.length t ^ Int.toNat (k + (1 : Int))) x46) x50))))))))))))))))))
 ((bdsOk (List.length (redN p (cbL (fiB t p (Int.toNat (k + (1 : Int))) x46) (fiS t p (Int.toNat (k + (1 : Int))) x46)) (pvN (fiP t p (Int.toNat (k + (1 : Int))) x46)) (btF t p (Int.toNat (k + (1 : Int))) x46 ++ ehN (List.length t ^ Int.toNat (k + (1 : Int))) x46) x48)) Option.none (Option.some (↑(List.length c) : Int))) ∧
 (((List.length (List.take (Int.toNat (↑(List.length c) : Int)) (List.drop (0 : Nat) (redN p (cbL (fiB t p (Int.toNat (k + (1 : Int))) x46) (fiS t p (Int.toNat (k + (1 : Int))) x46)) (pvN (fiP t p (Int.toNat (k + (1 : Int))) x46)) (btF t p (Int.toNat (k + (1 : Int))) x46 ++ ehN (List.length t ^ Int.toNat (k + (1 : Int))) x46) x48))) ≤ (1000 : Nat)) ∧
 (True)) ∧
 (BrP (Decidable.decide ((0 : Int) ≤ ldF (List.take (Int.toNat (↑(List.length c) : Int)) (List.drop (0 : Nat) (redN p (cbL (fiB t p (Int.toNat (k + (1 : Int))) x46) (fiS t p (Int.toNat (k + (1 : Int))) x46)) (pvN (fiP t p (Int.toNat (k + (1 : Int))) x46)) (btF t p (Int.toNat (k + (1 : Int))) x46 ++ ehN (List.length t ^ Int.toNat (k + (1 : Int))) x46) x48)))))
 ((((0 : Int) ≤ (↑(List.length (redN p (cbL (fiB t p (Int.toNat (k + (1 : Int))) x46) (fiS t p (Int.toNat (k + (1 : Int))) x46)) (pvN (fiP t p (Int.toNat (k + (1 : Int))) x46)) (btF t p (Int.toNat (k + (1 : Int))) x46 ++ ehN (List.length t ^ Int.toNat (k + (1 : Int))) x46) x48)) : Int)) ∧
 (((↑(List.length (redN p (cbL (fiB t p (Int.toNat (k + (1 : Int))) x46) (fiS t p (Int.toNat (k + (1 : Int))) x46)) (pvN (fiP t p (Int.toNat (k + (1 : Int))) x46)) (btF t p (Int.toNat (k + (1 : Int))) x46 ++ ehN (List.length t ^ Int.toNat (k + (1 : Int))) x46) x48)) : Int) ≤ (↑(List.length (redN p (cbL (fiB t p (Int.toNat (k + (1 : Int))) x46) (fiS t p (Int.toNat (k + (1 : Int))) x46)) (pvN (fiP t p (Int.toNat (k + (1 : Int))) x46)) (btF t p (Int.toNat (k + (1 : Int))) x46 ++ ehN (List.length t ^ Int.toNat (k + (1 : Int))) x46) x48)) : Int)) ∧
 (room (Int.toNat (↑(List.length (redN p (cbL (fiB t p (Int.toNat (k + (1 : Int))) x46) (fiS t p (Int.toNat (k + (1 : Int))) x46)) (pvN (fiP t p (Int.toNat (k + (1 : Int))) x46)) (btF t p (Int.toNat (k + (1 : Int))) x46 ++ ehN (List.length t ^ Int.toNat (k + (1 : Int))) x46) x48)) : Int))))) ∧
 ((inB (ldF (List.take (Int.toNat (↑(List.length c) : Int)) (List.drop (0 : Nat) (redN p (cbL (fiB t p (Int.toNat (k + (1 : Int))) x46) (fiS t p (Int.toNat (k + (1 : Int))) x46)) (pvN (fiP t p (Int.toNat (k + (1 : Int))) x46)) (btF t p (Int.toNat (k + (1 : Int))) x46 ++ ehN (List.length t ^ Int.toNat (k + (1 : Int))) x46) x48)))) (List.length (redN p (cbL (fiB t p (Int.toNat (k + (1 : Int))) x46) (fiS t p (Int.toNat (k + (1 : Int))) x46)) (pvN (fiP t p (Int.toNat (k + (1 : Int))) x46)) (btF t p (Int.toNat (k + (1 : Int))) x46 ++ ehN (List.length t ^ Int.toNat (k + (1 : Int))) x46) x48))) ∧
 ((((primeB p = Bool.true) ∧
 (((1 : Int) ≤ List.getD (redN p (cbL (fiB t p (Int.toNat (k + (1 : Int))) x46) (fiS t p (Int.toNat (k + (1 : Int))) x46)) (pvN (fiP t p (Int.toNat (k + (1 : Int))) x46)) (btF t p (Int.toNat (k + (1 : Int))) x46 ++ ehN (List.length t ^ Int.toNat (k + (1 : Int))) x46) x48) (Int.toNat (ldF (List.take (Int.toNat (↑(List.length c) : Int)) (List.drop (0 : Nat) (redN p (cbL (fiB t p (Int.toNat (k + (1 : Int))) x46) (fiS t p (Int.toNat (k + (1 : Int))) x46)) (pvN (fiP t p (Int.toNat (k + (1 : Int))) x46)) (btF t p (Int.toNat (k + (1 : Int))) x46 ++ ehN (List.length t ^ Int.toNat (k + (1 : Int))) x46) x48))))) (0 : Int)) ∧
 (List.getD (redN p (cbL (fiB t p (Int.toNat (k + (1 : Int))) x46) (fiS t p (Int.toNat (k + (1 : Int))) x46)) (pvN (fiP t p (Int.toNat (k + (1 : Int))) x46)) (btF t p (Int.toNat (k + (1 : Int))) x46 ++ ehN (List.length t ^ Int.toNat (k + (1 : Int))) x46) x48) (Int.toNat (ldF (List.take (Int.toNat (↑(List.length c) : Int)) (List.drop (0 : Nat) (redN p (cbL (fiB t p (Int.toNat (k + (1 : Int))) x46) (fiS t p (Int.toNat (k + (1 : Int))) x46)) (pvN (fiP t p (Int.toNat (k + (1 : Int))) x46)) (btF t p (Int.toNat (k + (1 : Int))) x46 ++ ehN (List.length t ^ Int.toNat (k + (1 : Int))) x46) x48))))) (0 : Int) ≤ p - (1 : Int)))) ∧
 (True)) ∧
 ((InR (p - ivM p (List.getD (redN p (cbL (fiB t p (Int.toNat (k + (1 : Int))) x46) (fiS t p (Int.toNat (k + (1 : Int))) x46)) (pvN (fiP t p (Int.toNat (k + (1 : Int))) x46)) (btF t p (Int.toNat (k + (1 : Int))) x46 ++ ehN (List.length t ^ Int.toNat (k + (1 : Int))) x46) x48) (Int.toNat (ldF (List.take (Int.toNat (↑(List.length c) : Int)) (List.drop (0 : Nat) (redN p (cbL (fiB t p (Int.toNat (k + (1 : Int))) x46) (fiS t p (Int.toNat (k + (1 : Int))) x46)) (pvN (fiP t p (Int.toNat (k + (1 : Int))) x46)) (btF t p (Int.toNat (k + (1 : Int))) x46 ++ ehN (List.length t ^ Int.toNat (k + (1 : Int))) x46) x48))))) (0 : Int)))) ∧
 ((((twR p (List.replicate (Int.toNat (↑(List.length (redN p (cbL (fiB t p (Int.toNat (k + (1 : Int))) x46) (fiS t p (Int.toNat (k + (1 : Int))) x46)) (pvN (fiP t p (Int.toNat (k + (1 : Int))) x46)) (btF t p (Int.toNat (k + (1 : Int))) x46 ++ ehN (List.length t ^ Int.toNat (k + (1 : Int))) x46) x48)) : Int)) (0 : Int)) (redN p (cbL (fiB t p (Int.toNat (k + (1 : Int))) x46) (fiS t p (Int.toNat (k + (1 : Int))) x46)) (pvN (fiP t p (Int.toNat (k + (1 : Int))) x46)) (btF t p (Int.toNat (k + (1 : Int))) x46 ++ ehN (List.length t ^ Int.toNat (k + (1 : Int))) x46) x48)) ∧
 (((0 : Int) ≤ p - (p - ivM p (List.getD (redN p (cbL (fiB t p (Int.toNat (k + (1 : Int))) x46) (fiS t p (Int.toNat (k + (1 : Int))) x46)) (pvN (fiP t p (Int.toNat (k + (1 : Int))) x46)) (btF t p (Int.toNat (k + (1 : Int))) x46 ++ ehN (List.length t ^ Int.toNat (k + (1 : Int))) x46) x48) (Int.toNat (ldF (List.take (Int.toNat (↑(List.length c) : Int)) (List.drop (0 : Nat) (redN p (cbL (fiB t p (Int.toNat (k + (1 : Int))) x46) (fiS t p (Int.toNat (k + (1 : Int))) x46)) (pvN (fiP t p (Int.toNat (k + (1 : Int))) x46)) (btF t p (Int.toNat (k + (1 : Int))) x46 ++ ehN (List.length t ^ Int.toNat (k + (1 : Int))) x46) x48))))) (0 : Int)))) ∧
 ((p - (p - ivM p (List.getD (redN p (cbL (fiB t p (Int.toNat (k + (1 : Int))) x46) (fiS t p (Int.toNat (k + (1 : Int))) x46)) (pvN (fiP t p (Int.toNat (k + (1 : Int))) x46)) (btF t p (Int.toNat (k + (1 : Int))) x46 ++ ehN (List.length t ^ Int.toNat (k + (1 : Int))) x46) x48) (Int.toNat (ldF (List.take (Int.toNat (↑(List.length c) : Int)) (List.drop (0 : Nat) (redN p (cbL (fiB t p (Int.toNat (k + (1 : Int))) x46) (fiS t p (Int.toNat (k + (1 : Int))) x46)) (pvN (fiP t p (Int.toNat (k + (1 : Int))) x46)) (btF t p (Int.toNat (k + (1 : Int))) x46 ++ ehN (List.length t ^ Int.toNat (k + (1 : Int))) x46) x48))))) (0 : Int))) ≤ (7 : Int)) ∧
 (((-100 : Int) ≤ p - ivM p (List.getD (redN p (cbL (fiB t p (Int.toNat (k + (1 : Int))) x46) (fiS t p (Int.toNat (k + (1 : Int))) x46)) (pvN (fiP t p (Int.toNat (k + (1 : Int))) x46)) (btF t p (Int.toNat (k + (1 : Int))) x46 ++ ehN (List.length t ^ Int.toNat (k + (1 : Int))) x46) x48) (Int.toNat (ldF (List.take (Int.toNat (↑(List.length c) : Int)) (List.drop (0 : Nat) (redN p (cbL (fiB t p (Int.toNat (k + (1 : Int))) x46) (fiS t p (Int.toNat (k + (1 : Int))) x46)) (pvN (fiP t p (Int.toNat (k + (1 : Int))) x46)) (btF t p (Int.toNat (k + (1 : Int))) x46 ++ ehN (List.length t ^ Int.toNat (k + (1 : Int))) x46) x48))))) (0 : Int))) ∧
 (p - ivM p (List.getD (redN p (cbL (fiB t p (Int.toNat (k + (1 : Int))) x46) (fiS t p (Int.toNat (k + (1 : Int))) x46)) (pvN (fiP t p (Int.toNat (k + (1 : Int))) x46)) (btF t p (Int.toNat (k + (1 : Int))) x46 ++ ehN (List.length t ^ Int.toNat (k + (1 : Int))) x46) x48) (Int.toNat (ldF (List.take (Int.toNat (↑(List.length c) : Int)) (List.drop (0 : Nat) (redN p (cbL (fiB t p (Int.toNat (k + (1 : Int))) x46) (fiS t p (Int.toNat (k + (1 : Int))) x46)) (pvN (fiP t p (Int.toNat (k + (1 : Int))) x46)) (btF t p (Int.toNat (k + (1 : Int))) x46 ++ ehN (List.length t ^ Int.toNat (k + (1 : Int))) x46) x48))))) (0 : Int)) ≤ (100 : Int)))))) ∧
 (True)) ∧
 ((room (List.length (cbL (fiB t p (Int.toNat (k + (1 : Int))) x46) (fiS t p (Int.toNat (k + (1 : Int))) x46)) + List.length [stF p (p - (p - ivM p (List.getD (redN p (cbL (fiB t p (Int.toNat (k + (1 : Int))) x46) (fiS t p (Int.toNat (k + (1 : Int))) x46)) (pvN (fiP t p (Int.toNat (k + (1 : Int))) x46)) (btF t p (Int.toNat (k + (1 : Int))) x46 ++ ehN (List.length t ^ Int.toNat (k + (1 : Int))) x46) x48) (Int.toNat (ldF (List.take (Int.toNat (↑(List.length c) : Int)) (List.drop (0 : Nat) (redN p (cbL (fiB t p (Int.toNat (k + (1 : Int))) x46) (fiS t p (Int.toNat (k + (1 : Int))) x46)) (pvN (fiP t p (Int.toNat (k + (1 : Int))) x46)) (btF t p (Int.toNat (k + (1 : Int))) x46 ++ ehN (List.length t ^ Int.toNat (k + (1 : Int))) x46) x48))))) (0 : Int)))) (redN p (cbL (fiB t p (Int.toNat (k + (1 : Int))) x46) (fiS t p (Int.toNat (k + (1 : Int))) x46)) (pvN (fiP t p (Int.toNat (k + (1 : Int))) x46)) (btF t p (Int.toNat (k + (1 : Int))) x46 ++ ehN (List.length t ^ Int.toNat (k + (1 : Int))) x46) x48) (List.replicate (Int.toNat (↑(List.length (redN p (cbL (fiB t p (Int.toNat (k + (1 : Int))) x46) (fiS t p (Int.toNat (k + (1 : Int))) x46)) (pvN (fiP t p (Int.toNat (k + (1 : Int))) x46)) (btF t p (Int.toNat (k + (1 : Int))) x46 ++ ehN (List.length t ^ Int.toNat (k + (1 : Int))) x46) x48)) : Int)) (0 : Int))])) ∧
 ((room (List.length (fiP t p (Int.toNat (k + (1 : Int))) x46) + List.length [ldF (List.take (Int.toNat (↑(List.length c) : Int)) (List.drop (0 : Nat) (redN p (cbL (fiB t p (Int.toNat (k + (1 : Int))) x46) (fiS t p (Int.toNat (k + (1 : Int))) x46)) (pvN (fiP t p (Int.toNat (k + (1 : Int))) x46)) (btF t p (Int.toNat (k + (1 : Int))) x46 ++ ehN (List.length t ^ Int.toNat (k + (1 : Int))) x46) x48)))])) ∧
 ((InR ((↑x46 : Int) + (1 : Int))) ∧
 (∃ x51 : Nat, (((x51 ≤ List.length t ^ Int.toNat (k + (1 : Int))) ∧
 ((chC t p k c = (0 : Int)) ∧
 (degB (↑(List.length t) : Int) (k + (1 : Int)) = Bool.true))) ∧
 ((List.length t ^ Int.toNat (k + (1 : Int)) - x51 < List.length t ^ Int.toNat (k + (1 : Int)) - x46) ∧
 ((p = p) ∧
 ((k = k) ∧
 ((c = c) ∧
 (((↑(List.length t) : Int) = (↑(List.length t) : Int)) ∧
 (((↑(List.length t ^ Int.toNat (k + (1 : Int))) : Int) = (↑(List.length t ^ Int.toNat (k + (1 : Int))) : Int)) ∧
 (((↑x46 : Int) + (1 : Int) = (↑x51 : Int)) ∧
 ((t = t) ∧
 ((cbL (fiB t p (Int.toNat (k + (1 : Int))) x46) (fiS t p (Int.toNat (k + (1 : Int))) x46) ++ [stF p (p - (p - ivM p (List.getD (redN p (cbL (fiB t p (Int.toNat (k + (1 : Int))) x46) (fiS t p (Int.toNat (k + (1 : Int))) x46)) (pvN (fiP t p (Int.toNat (k + (1 : Int))) x46)) (btF t p (Int.toNat (k + (1 : Int))) x46 ++ ehN (List.length t ^ Int.toNat (k + (1 : Int))) x46) x48) (Int.toNat (ldF (List.take (Int.toNat (↑(List.length c) : Int)) (List.drop (0 : Nat) (redN p (cbL (fiB t p (Int.toNat (k + (1 : Int))) x46) (fiS t p (Int.toNat (k + (1 : Int))) x46)) (pvN (fiP t p (Int.toNat (k + (1 : Int))) x46)) (btF t p (Int.toNat (k + (1 : Int))) x46 ++ ehN (List.length t ^ Int.toNat (k + (1 : Int))) x46) x48))))) (0 : Int)))) (redN p (cbL (fiB t p (Int.toNat (k + (1 : Int))) x46) (fiS t p (Int.toNat (k + (1 : Int))) x46)) (pvN (fiP t p (Int.toNat (k + (1 : Int))) x46)) (btF t p (Int.toNat (k + (1 : Int))) x46 ++ ehN (List.length t ^ Int.toNat (k + (1 : Int))) x46) x48) (List.replicate (Int.toNat (↑(List.length (redN p (cbL (fiB t p (Int.toNat (k + (1 : Int))) x46) (fiS t p (Int.toNat (k + (1 : Int))) x46)) (pvN (fiP t p (Int.toNat (k + (1 : Int))) x46)) (btF t p (Int.toNat (k + (1 : Int))) x46 ++ ehN (List.length t ^ Int.toNat (k + (1 : Int))) x46) x48)) : Int)) (0 : Int))] = cbL (fiB t p (Int.toNat (k + (1 : Int))) x51) (fiS t p (Int.toNat (k + (1 : Int))) x51)) ∧
 (fiP t p (Int.toNat (k + (1 : Int))) x46 ++ [ldF (List.take (Int.toNat (↑(List.length c) : Int)) (List.drop (0 : Nat) (redN p (cbL (fiB t p (Int.toNat (k + (1 : Int))) x46) (fiS t p (Int.toNat (k + (1 : Int))) x46)) (pvN (fiP t p (Int.toNat (k + (1 : Int))) x46)) (btF t p (Int.toNat (k + (1 : Int))) x46 ++ ehN (List.length t ^ Int.toNat (k + (1 : Int))) x46) x48)))] = fiP t p (Int.toNat (k + (1 : Int))) x51))))))))))))))))))))
 ((InR ((↑x46 : Int) + (1 : Int))) ∧
 (∃ x52 : Nat, (((x52 ≤ List.length t ^ Int.toNat (k + (1 : Int))) ∧
 ((chC t p k c = (0 : Int)) ∧
 (degB (↑(List.length t) : Int) (k + (1 : Int)) = Bool.true))) ∧
 ((List.length t ^ Int.toNat (k + (1 : Int)) - x52 < List.length t ^ Int.toNat (k + (1 : Int)) - x46) ∧
 ((p = p) ∧
 ((k = k) ∧
 ((c = c) ∧
 (((↑(List.length t) : Int) = (↑(List.length t) : Int)) ∧
 (((↑(List.length t ^ Int.toNat (k + (1 : Int))) : Int) = (↑(List.length t ^ Int.toNat (k + (1 : Int))) : Int)) ∧
 (((↑x46 : Int) + (1 : Int) = (↑x52 : Int)) ∧
 ((t = t) ∧
 ((cbL (fiB t p (Int.toNat (k + (1 : Int))) x46) (fiS t p (Int.toNat (k + (1 : Int))) x46) = cbL (fiB t p (Int.toNat (k + (1 : Int))) x52) (fiS t p (Int.toNat (k + (1 : Int))) x52)) ∧
 (fiP t p (Int.toNat (k + (1 : Int))) x46 = fiP t p (Int.toNat (k + (1 : Int))) x52))))))))))))))))))))))))))
 (((room (List.length c)) ∧
 (True)) ∧
 ((((0 : Int) ≤ (↑(List.length t ^ Int.toNat (k + (1 : Int))) : Int)) ∧
 (room (List.length c + Int.toNat (↑(List.length t ^ Int.toNat (k + (1 : Int))) : Int)))) ∧
 ((∃ x53 : Nat, (((x53 ≤ List.length (fiB t p (Int.toNat (k + (1 : Int))) (List.length t ^ Int.toNat (k + (1 : Int))))) ∧
 ((chC t p k c = (0 : Int)) ∧
 (degB (↑(List.length t) : Int) (k + (1 : Int)) = Bool.true))) ∧
 ((p = p) ∧
 ((c = c) ∧
 (((0 : Int) = (↑x53 : Int)) ∧
 ((cbL (fiB t p (Int.toNat (k + (1 : Int))) x46) (fiS t p (Int.toNat (k + (1 : Int))) x46) = cbL (fiB t p (Int.toNat (k + (1 : Int))) (List.length t ^ Int.toNat (k + (1 : Int)))) (fiS t p (Int.toNat (k + (1 : Int))) (List.length t ^ Int.toNat (k + (1 : Int))))) ∧
 ((fiP t p (Int.toNat (k + (1 : Int))) x46 = fiP t p (Int.toNat (k + (1 : Int))) (List.length t ^ Int.toNat (k + (1 : Int)))) ∧
 (c ++ List.replicate (Int.toNat (↑(List.length t ^ Int.toNat (k + (1 : Int))) : Int)) (0 : Int) = redN p (cbL (fiB t p (Int.toNat (k + (1 : Int))) (List.length t ^ Int.toNat (k + (1 : Int)))) (fiS t p (Int.toNat (k + (1 : Int))) (List.length t ^ Int.toNat (k + (1 : Int))))) (pvN (fiP t p (Int.toNat (k + (1 : Int))) (List.length t ^ Int.toNat (k + (1 : Int))))) (c ++ List.replicate (List.length t ^ Int.toNat (k + (1 : Int))) (0 : Int)) x53)))))))) ∧
 (∀ x54 : Nat, (((x54 ≤ List.length (fiB t p (Int.toNat (k + (1 : Int))) (List.length t ^ Int.toNat (k + (1 : Int))))) ∧
 ((chC t p k c = (0 : Int)) ∧
 (degB (↑(List.length t) : Int) (k + (1 : Int)) = Bool.true))) →
 (BrP (Decidable.decide ((↑x54 : Int) < (↑(List.length (cbL (fiB t p (Int.toNat (k + (1 : Int))) (List.length t ^ Int.toNat (k + (1 : Int)))) (fiS t p (Int.toNat (k + (1 : Int))) (List.length t ^ Int.toNat (k + (1 : Int)))))) : Int)))
 ((inB (↑x54 : Int) (List.length (fiP t p (Int.toNat (k + (1 : Int))) (List.length t ^ Int.toNat (k + (1 : Int)))))) ∧
 ((inB (List.getD (fiP t p (Int.toNat (k + (1 : Int))) (List.length t ^ Int.toNat (k + (1 : Int)))) (Int.toNat (↑x54 : Int)) (0 : Int)) (List.length (redN p (cbL (fiB t p (Int.toNat (k + (1 : Int))) (List.length t ^ Int.toNat (k + (1 : Int)))) (fiS t p (Int.toNat (k + (1 : Int))) (List.length t ^ Int.toNat (k + (1 : Int))))) (pvN (fiP t p (Int.toNat (k + (1 : Int))) (List.length t ^ Int.toNat (k + (1 : Int))))) (c ++ List.replicate (List.length t ^ Int.toNat (k + (1 : Int))) (0 : Int)) x54))) ∧
 (BrP (List.getD (redN p (cbL (fiB t p (Int.toNat (k + (1 : Int))) (List.length t ^ Int.toNat (k + (1 : Int)))) (fiS t p (Int.toNat (k + (1 : Int))) (List.length t ^ Int.toNat (k + (1 : Int))))) (pvN (fiP t p (Int.toNat (k + (1 : Int))) (List.length t ^ Int.toNat (k + (1 : Int))))) (c ++ List.replicate (List.length t ^ Int.toNat (k + (1 : Int))) (0 : Int)) x54) (Int.toNat (List.getD (fiP t p (Int.toNat (k + (1 : Int))) (List.length t ^ Int.toNat (k + (1 : Int)))) (Int.toNat (↑x54 : Int)) (0 : Int))) (0 : Int) != (0 : Int))
 ((inB (↑x54 : Int) (List.length (cbL (fiB t p (Int.toNat (k + (1 : Int))) (List.length t ^ Int.toNat (k + (1 : Int)))) (fiS t p (Int.toNat (k + (1 : Int))) (List.length t ^ Int.toNat (k + (1 : Int))))))) ∧
 ((inB (↑x54 : Int) (List.length (fiP t p (Int.toNat (k + (1 : Int))) (List.length t ^ Int.toNat (k + (1 : Int)))))) ∧
 ((inB (List.getD (fiP t p (Int.toNat (k + (1 : Int))) (List.length t ^ Int.toNat (k + (1 : Int)))) (Int.toNat (↑x54 : Int)) (0 : Int)) (List.length (redN p (cbL (fiB t p (Int.toNat (k + (1 : Int))) (List.length t ^ Int.toNat (k + (1 : Int)))) (fiS t p (Int.toNat (k + (1 : Int))) (List.length t ^ Int.toNat (k + (1 : Int))))) (pvN (fiP t p (Int.toNat (k + (1 : Int))) (List.length t ^ Int.toNat (k + (1 : Int))))) (c ++ List.replicate (List.length t ^ Int.toNat (k + (1 : Int))) (0 : Int)) x54))) ∧
 ((((twR p (redN p (cbL (fiB t p (Int.toNat (k + (1 : Int))) (List.length t ^ Int.toNat (k + (1 : Int)))) (fiS t p (Int.toNat (k + (1 : Int))) (List.length t ^ Int.toNat (k + (1 : Int))))) (pvN (fiP t p (Int.toNat (k + (1 : Int))) (List.length t ^ Int.toNat (k + (1 : Int))))) (c ++ List.replicate (List.length t ^ Int.toNat (k + (1 : Int))) (0 : Int)) x54) (List.getD (cbL (fiB t p (Int.toNat (k + (1 : Int))) (List.length t ^ Int.toNat (k + (1 : Int)))) (fiS t p (Int.toNat (k + (1 : Int))) (List.length t ^ Int.toNat (k + (1 : Int))))) (Int.toNat (↑x54 : Int)) [])) ∧
 (((0 : Int) ≤ p - List.getD (redN p (cbL (fiB t p (Int.toNat (k + (1 : Int))) (List.length t ^ Int.toNat (k + (1 : Int)))) (fiS t p (Int.toNat (k + (1 : Int))) (List.length t ^ Int.toNat (k + (1 : Int))))) (pvN (fiP t p (Int.toNat (k + (1 : Int))) (List.length t ^ Int.toNat (k + (1 : Int))))) (c ++ List.replicate (List.length t ^ Int.toNat (k + (1 : Int))) (0 : Int)) x54) (Int.toNat (List.getD (fiP t p (Int.toNat (k + (1 : Int))) (List.length t ^ Int.toNat (k + (1 : Int)))) (Int.toNat (↑x54 : Int)) (0 : Int))) (0 : Int)) ∧
 ((p - List.getD (redN p (cbL (fiB t p (Int.toNat (k + (1 : Int))) (List.length t ^ Int.toNat (k + (1 : Int)))) (fiS t p (Int.toNat (k + (1 : Int))) (List.length t ^ Int.toNat (k + (1 : Int))))) (pvN (fiP t p (Int.toNat (k + (1 : Int))) (List.length t ^ Int.toNat (k + (1 : Int))))) (c ++ List.replicate (List.length t ^ Int.toNat (k + (1 : Int))) (0 : Int)) x54) (Int.toNat (List.getD (fiP t p (Int.toNat (k + (1 : Int))) (List.length t ^ Int.toNat (k + (1 : Int)))) (Int.toNat (↑x54 : Int)) (0 : Int))) (0 : Int) ≤ (7 : Int)) ∧
 (((-100 : Int) ≤ List.getD (redN p (cbL (fiB t p (Int.toNat (k + (1 : Int))) (List.length t ^ Int.toNat (k + (1 : Int)))) (fiS t p (Int.toNat (k + (1 : Int))) (List.length t ^ Int.toNat (k + (1 : Int))))) (pvN (fiP t p (Int.toNat (k + (1 : Int))) (List.length t ^ Int.toNat (k + (1 : Int))))) (c ++ List.replicate (List.length t ^ Int.toNat (k + (1 : Int))) (0 : Int)) x54) (Int.toNat (List.getD (fiP t p (Int.toNat (k + (1 : Int))) (List.length t ^ Int.toNat (k + (1 : Int)))) (Int.toNat (↑x54 : Int)) (0 : Int))) (0 : Int)) ∧
 (List.getD (redN p (cbL (fiB t p (Int.toNat (k + (1 : Int))) (List.length t ^ Int.toNat (k + (1 : Int)))) (fiS t p (Int.toNat (k + (1 : Int))) (List.length t ^ Int.toNat (k + (1 : Int))))) (pvN (fiP t p (Int.toNat (k + (1 : Int))) (List.length t ^ Int.toNat (k + (1 : Int))))) (c ++ List.replicate (List.length t ^ Int.toNat (k + (1 : Int))) (0 : Int)) x54) (Int.toNat (List.getD (fiP t p (Int.toNat (k + (1 : Int))) (List.length t ^ Int.toNat (k + (1 : Int)))) (Int.toNat (↑x54 : Int)) (0 : Int))) (0 : Int) ≤ (100 : Int)))))) ∧
 (True)) ∧
 ((InR ((↑x54 : Int) + (1 : Int))) ∧
 (∃ x55 : Nat, (((x55 ≤ List.length (fiB t p (Int.toNat (k + (1 : Int))) (List.length t ^ Int.toNat (k + (1 : Int))))) ∧
 ((chC t p k c = (0 : Int)) ∧
 (degB (↑(List.length t) : Int) (k + (1 : Int)) = Bool.true))) ∧
 ((List.length (fiB t p (Int.toNat (k + (1 : Int))) (List.length t ^ Int.toNat (k + (1 : Int)))) - x55 < List.length (fiB t p (Int.toNat (k + (1 : Int))) (List.length t ^ Int.toNat (k + (1 : Int)))) - x54) ∧
 ((p = p) ∧
 ((c = c) ∧
 (((↑x54 : Int) + (1 : Int) = (↑x55 : Int)) ∧
 ((cbL (fiB t p (Int.toNat (k + (1 : Int))) (List.length t ^ Int.toNat (k + (1 : Int)))) (fiS t p (Int.toNat (k + (1 : Int))) (List.length t ^ Int.toNat (k + (1 : Int)))) = cbL (fiB t p (Int.toNat (k + (1 : Int))) (List.length t ^ Int.toNat (k + (1 : Int)))) (fiS t p (Int.toNat (k + (1 : Int))) (List.length t ^ Int.toNat (k + (1 : Int))))) ∧
 ((fiP t p (Int.toNat (k + (1 : Int))) (List.length t ^ Int.toNat (k + (1 : Int))) = fiP t p (Int.toNat (k + (1 : Int))) (List.length t ^ Int.toNat (k + (1 : Int)))) ∧
 (stF p (p - List.getD (redN p (cbL (fiB t p (Int.toNat (k + (1 : Int))) (List.length t ^ Int.toNat (k + (1 : Int)))) (fiS t p (Int.toNat (k + (1 : Int))) (List.length t ^ Int.toNat (k + (1 : Int))))) (pvN (fiP t p (Int.toNat (k + (1 : Int))) (List.length t ^ Int.toNat (k + (1 : Int))))) (c ++ List.replicate (List.length t ^ Int.toNat (k + (1 : Int))) (0 : Int)) x54) (Int.toNat (List.getD (fiP t p (Int.toNat (k + (1 : Int))) (List.length t ^ Int.toNat (k + (1 : Int)))) (Int.toNat (↑x54 : Int)) (0 : Int))) (0 : Int)) (List.getD (cbL (fiB t p (Int.toNat (k + (1 : Int))) (List.length t ^ Int.toNat (k + (1 : Int)))) (fiS t p (Int.toNat (k + (1 : Int))) (List.length t ^ Int.toNat (k + (1 : Int))))) (Int.toNat (↑x54 : Int)) []) (redN p (cbL (fiB t p (Int.toNat (k + (1 : Int))) (List.length t ^ Int.toNat (k + (1 : Int)))) (fiS t p (Int.toNat (k + (1 : Int))) (List.length t ^ Int.toNat (k + (1 : Int))))) (pvN (fiP t p (Int.toNat (k + (1 : Int))) (List.length t ^ Int.toNat (k + (1 : Int))))) (c ++ List.replicate (List.length t ^ Int.toNat (k + (1 : Int))) (0 : Int)) x54) = redN p (cbL (fiB t p (Int.toNat (k + (1 : Int))) (List.length t ^ Int.toNat (k + (1 : Int)))) (fiS t p (Int.toNat (k + (1 : Int))) (List.length t ^ Int.toNat (k + (1 : Int))))) (pvN (fiP t p (Int.toNat (k + (1 : Int))) (List.length t ^ Int.toNat (k + (1 : Int))))) (c ++ List.replicate (List.length t ^ Int.toNat (k + (1 : Int))) (0 : Int)) x55))))))))))))))
 ((InR ((↑x54 : Int) + (1 : Int))) ∧
 (∃ x56 : Nat, (((x56 ≤ List.length (fiB t p (Int.toNat (k + (1 : Int))) (List.length t ^ Int.toNat (k + (1 : Int))))) ∧
 ((chC t p k c = (0 : Int)) ∧
 (degB (↑(List.length t) : Int) (k + (1 : Int)) = Bool.true))) ∧
 ((List.length (fiB t p (Int.toNat (k + (1 : Int))) (List.length t ^ Int.toNat (k + (1 : Int)))) - x56 < List.length (fiB t p (Int.toNat (k + (1 : Int))) (List.length t ^ Int.toNat (k + (1 : Int)))) - x54) ∧
 ((p = p) ∧
 ((c = c) ∧
 (((↑x54 : Int) + (1 : Int) = (↑x56 : Int)) ∧
 ((cbL (fiB t p (Int.toNat (k + (1 : Int))) (List.length t ^ Int.toNat (k + (1 : Int)))) (fiS t p (Int.toNat (k + (1 : Int))) (List.length t ^ Int.toNat (k + (1 : Int)))) = cbL (fiB t p (Int.toNat (k + (1 : Int))) (List.length t ^ Int.toNat (k + (1 : Int)))) (fiS t p (Int.toNat (k + (1 : Int))) (List.length t ^ Int.toNat (k + (1 : Int))))) ∧
 ((fiP t p (Int.toNat (k + (1 : Int))) (List.length t ^ Int.toNat (k + (1 : Int))) = fiP t p (Int.toNat (k + (1 : Int))) (List.length t ^ Int.toNat (k + (1 : Int)))) ∧
 (redN p (cbL (fiB t p (Int.toNat (k + (1 : Int))) (List.length t ^ Int.toNat (k + (1 : Int)))) (fiS t p (Int.toNat (k + (1 : Int))) (List.length t ^ Int.toNat (k + (1 : Int))))) (pvN (fiP t p (Int.toNat (k + (1 : Int))) (List.length t ^ Int.toNat (k + (1 : Int))))) (c ++ List.replicate (List.length t ^ Int.toNat (k + (1 : Int))) (0 : Int)) x54 = redN p (cbL (fiB t p (Int.toNat (k + (1 : Int))) (List.length t ^ Int.toNat (k + (1 : Int)))) (fiS t p (Int.toNat (k + (1 : Int))) (List.length t ^ Int.toNat (k + (1 : Int))))) (pvN (fiP t p (Int.toNat (k + (1 : Int))) (List.length t ^ Int.toNat (k + (1 : Int))))) (c ++ List.replicate (List.length t ^ Int.toNat (k + (1 : Int))) (0 : Int)) x56)))))))))))))
 ((bdsOk (List.length (redN p (cbL (fiB t p (Int.toNat (k + (1 : Int))) (List.length t ^ Int.toNat (k + (1 : Int)))) (fiS t p (Int.toNat (k + (1 : Int))) (List.length t ^ Int.toNat (k + (1 : Int))))) (pvN (fiP t p (Int.toNat (k + (1 : Int))) (List.length t ^ Int.toNat (k + (1 : Int))))) (c ++ List.replicate (List.length t ^ Int.toNat (k + (1 : Int))) (0 : Int)) x54)) Option.none (Option.some (↑(List.length c) : Int))) ∧
 (((List.length (List.take (Int.toNat (↑(List.length c) : Int)) (List.drop (0 : Nat) (redN p (cbL (fiB t p (Int.toNat (k + (1 : Int))) (List.length t ^ Int.toNat (k + (1 : Int)))) (fiS t p (Int.toNat (k + (1 : Int))) (List.length t ^ Int.toNat (k + (1 : Int))))) (pvN (fiP t p (Int.toNat (k + (1 : Int))) (List.length t ^ Int.toNat (k + (1 : Int))))) (c ++ List.replicate (List.length t ^ Int.toNat (k + (1 : Int))) (0 : Int)) x54))) ≤ (1000 : Nat)) ∧
 (True)) ∧
 (BrP (Decidable.decide ((0 : Int) ≤ ldF (List.take (Int.toNat (↑(List.length c) : Int)) (List.drop (0 : Nat) (redN p (cbL (fiB t p (Int.toNat (k + (1 : Int))) (List.length t ^ Int.toNat (k + (1 : Int)))) (fiS t p (Int.toNat (k + (1 : Int))) (List.length t ^ Int.toNat (k + (1 : Int))))) (pvN (fiP t p (Int.toNat (k + (1 : Int))) (List.length t ^ Int.toNat (k + (1 : Int))))) (c ++ List.replicate (List.length t ^ Int.toNat (k + (1 : Int))) (0 : Int)) x54)))))
 ((([] = Prod.fst (flC t p k c)) ∧
 (((4 : Int) = Prod.snd (flC t p k c)) ∧
 (True))) ∧
 (True))
 ((∃ x57 : Nat, (((x57 ≤ List.length t ^ Int.toNat (k + (1 : Int))) ∧
 ((ldF (Prod.fst (flR t p (Int.toNat (k + (1 : Int))) c)) < (0 : Int)) ∧
 ((chC t p k c = (0 : Int)) ∧
 (degB (↑(List.length t) : Int) (k + (1 : Int)) = Bool.true)))) ∧
 ((p = p) ∧
 (((↑(List.length c) : Int) = (↑(List.length c + x57) : Int)) ∧
 ((redN p (cbL (fiB t p (Int.toNat (k + (1 : Int))) (List.length t ^ Int.toNat (k + (1 : Int)))) (fiS t p (Int.toNat (k + (1 : Int))) (List.length t ^ Int.toNat (k + (1 : Int))))) (pvN (fiP t p (Int.toNat (k + (1 : Int))) (List.length t ^ Int.toNat (k + (1 : Int))))) (c ++ List.replicate (List.length t ^ Int.toNat (k + (1 : Int))) (0 : Int)) x54 = Prod.fst (flR t p (Int.toNat (k + (1 : Int))) c) ++ Prod.snd (flR t p (Int.toNat (k + (1 : Int))) c)) ∧
 ([] = List.take x57 (ngF p (Prod.snd (flR t p (Int.toNat (k + (1 : Int))) c))))))))) ∧
 (∀ x58 : Nat, (((x58 ≤ List.length t ^ Int.toNat (k + (1 : Int))) ∧
 ((ldF (Prod.fst (flR t p (Int.toNat (k + (1 : Int))) c)) < (0 : Int)) ∧
 ((chC t p k c = (0 : Int)) ∧
 (degB (↑(List.length t) : Int) (k + (1 : Int)) = Bool.true)))) →
 (BrP (Decidable.decide ((↑(List.length c + x58) : Int) < (↑(List.length (Prod.fst (flR t p (Int.toNat (k + (1 : Int))) c) ++ Prod.snd (flR t p (Int.toNat (k + (1 : Int))) c))) : Int)))
 ((inB (↑(List.length c + x58) : Int) (List.length (Prod.fst (flR t p (Int.toNat (k + (1 : Int))) c) ++ Prod.snd (flR t p (Int.toNat (k + (1 : Int))) c)))) ∧
 ((InR (p - List.getD (Prod.fst (flR t p (Int.toNat (k + (1 : Int))) c) ++ Prod.snd (flR t p (Int.toNat (k + (1 : Int))) c)) (Int.toNat (↑(List.length c + x58) : Int)) (0 : Int))) ∧
 ((p ≠ (0 : Int)) ∧
 ((room (List.length (List.take x58 (ngF p (Prod.snd (flR t p (Int.toNat (k + (1 : Int))) c)))) + List.length [Int.tmod (p - List.getD (Prod.fst (flR t p (Int.toNat (k + (1 : Int))) c) ++ Prod.snd (flR t p (Int.toNat (k + (1 : Int))) c)) (Int.toNat (↑(List.length c + x58) : Int)) (0 : Int)) p])) ∧
 ((InR ((↑(List.length c + x58) : Int) + (1 : Int))) ∧
 (∃ x59 : Nat, (((x59 ≤ List.length t ^ Int.toNat (k + (1 : Int))) ∧
 ((ldF (Prod.fst (flR t p (Int.toNat (k + (1 : Int))) c)) < (0 : Int)) ∧
 ((chC t p k c = (0 : Int)) ∧
 (degB (↑(List.length t) : Int) (k + (1 : Int)) = Bool.true)))) ∧
 ((List.length t ^ Int.toNat (k + (1 : Int)) - x59 < List.length t ^ Int.toNat (k + (1 : Int)) - x58) ∧
 ((p = p) ∧
 (((↑(List.length c + x58) : Int) + (1 : Int) = (↑(List.length c + x59) : Int)) ∧
 ((Prod.fst (flR t p (Int.toNat (k + (1 : Int))) c) ++ Prod.snd (flR t p (Int.toNat (k + (1 : Int))) c) = Prod.fst (flR t p (Int.toNat (k + (1 : Int))) c) ++ Prod.snd (flR t p (Int.toNat (k + (1 : Int))) c)) ∧
 (List.take x58 (ngF p (Prod.snd (flR t p (Int.toNat (k + (1 : Int))) c))) ++ [Int.tmod (p - List.getD (Prod.fst (flR t p (Int.toNat (k + (1 : Int))) c) ++ Prod.snd (flR t p (Int.toNat (k + (1 : Int))) c)) (Int.toNat (↑(List.length c + x58) : Int)) (0 : Int)) p] = List.take x59 (ngF p (Prod.snd (flR t p (Int.toNat (k + (1 : Int))) c)))))))))))))))
 (((List.take x58 (ngF p (Prod.snd (flR t p (Int.toNat (k + (1 : Int))) c))) = Prod.fst (flC t p k c)) ∧
 (((0 : Int) = Prod.snd (flC t p k c)) ∧
 (True))) ∧
 (True)))))))))))))))))))))))))
theorem sFil_vc (t : List (List Int)) (p : Int) (k : Int) (c : List Int) : runF Try.prog (gam sFil_G) noWr (sFil_ann t p k c) Try.f29 (bodyOf Try.f29) [] [.agg [.rows .i64 (t)], .c (.int .i64 (p)), .c (.int .i64 (k)), .c (.ints .i64 (c))] (sFil_p t p k c) = sFil_V t p k c := by kernel_rfl
theorem sFil_ok (t : List (List Int)) (p : Int) (k : Int) (c : List Int) (hpre : (sFil_p t p k c).pre) : sFil_V t p k c := by
  simp only [sFil_p, sFil_V, BrP_iff, true_and, and_true, decide_eq_true_eq, decide_eq_false_iff_not, bne_iff_ne, beq_iff_eq, bne_eq_false_iff_eq, beq_eq_false_iff_ne, Bool.not_eq_true, Bool.not_eq_false, Bool.not_true, Bool.not_false, Bool.not_eq_eq_eq_not, Int.toNat_natCast, List.length_append, List.length_take, List.length_replicate, List.length_set, List.length_map, List.length_drop, List.length_nil, List.length_cons, markL_length, inB, InR, room, bdsOk] at hpre ⊢
  obtain ⟨hr, hl⟩ := hpre
  refine ⟨hr, fun h0 => ?_, fun h0 => ⟨fun c => absurd c h0, fun _ => ⟨fun _ => ?_, fun c => absurd c h0⟩⟩⟩
  rotate_left
  · rw [flC, if_neg (by rw [← dgC_no c h0]; exact h0), ← dgC_no c h0]; exact ⟨rfl, rfl⟩
  obtain ⟨h1, hp, hd, h4⟩ := dgC_ok h0
  have hT := rackB_tab h1
  obtain ⟨n1, n2, ht⟩ := tabB_of hT
  obtain ⟨p2, p7⟩ := primeB_le hp
  have dd := degB_of hd
  have no : chB t p k c = false → [] = (flC t p k c).1 ∧ 2 = (flC t p k c).2 := fun h5 => by
    have e : chC t p k c = 2 := by rw [chC, if_pos h1, if_pos h4, if_neg (by rw [h5]; decide)]
    rw [flC, if_neg (by omega), e]; exact ⟨rfl, rfl⟩
  have yes : chB t p k c = true → chC t p k c = 0 := fun h5 => by rw [chC, if_pos h1, if_pos h4, if_pos h5]
  refine ⟨⟨by omega, by omega, hd, p2, p7, hl⟩, fun h5 => no h5, fun h5 => ⟨fun _ => ?_, fun c => absurd h0 c⟩⟩
  have hz := yes h5
  obtain ⟨ca, cb, _⟩ := chB_of h5
  refine ⟨by omega, by omega, fun h6 => by rw [flC, if_pos hz, if_neg (by rw [h6]; decide)]; exact ⟨rfl, rfl⟩, fun h6 => ⟨fun c => absurd h0 c, fun _ => ?_⟩⟩
  obtain ⟨k0, k1, N1, eN, N2⟩ := rk_facts hT h6
  obtain ⟨d1, d2, _, _, d5⟩ := deg_sub hT (show 1 ≤ k + 1 by omega) h6
  have eK : (k + 1).toNat - 1 = k.toNat := by omega
  have hNM : t.length ^ k.toNat + t.length ^ (k + 1).toNat ≤ 1000 := by
    have := nm_le (n := t.length) (k := k.toNat) (by omega) (by rw [show k.toNat + 1 = (k + 1).toNat by omega]; exact N1)
    rwa [show k.toNat + 1 = (k + 1).toNat by omega] at this
  have hc : rwP p (t.length ^ k.toNat) c := ⟨ca, cb⟩
  have hb : ∀ j, rwP p (t.length ^ k.toNat) (btF t p (k + 1).toNat j) := fun j => by have := btF_ok t p2 (k + 1).toNat j; rwa [eK] at this
  have hs : ∀ i, rwP p (t.length ^ (k + 1).toNat) (ehN (t.length ^ (k + 1).toNat) i) := fun i => ⟨ehN_length _ _, ehN_in p2 _ _⟩
  have F : ∀ i, (fiB t p (k + 1).toNat i).length ≤ i ∧ FlOk p (t.length ^ k.toNat) (t.length ^ (k + 1).toNat) (fiB t p (k + 1).toNat i) (fiS t p (k + 1).toNat i) := fun i =>
    flN_ok hp (N := t.length ^ k.toNat) (M := t.length ^ (k + 1).toNat) (ρ := btF t p (k + 1).toNat) i fun j _ => hb j
  -- a round of the two loops that make a row 0 at the pivots
  have rnd : ∀ (B S : List (List Int)) (r s : List Int) (j : Nat), FlOk p (t.length ^ k.toNat) (t.length ^ (k + 1).toNat) B S → rwP p (t.length ^ k.toNat) r → rwP p (t.length ^ (k + 1).toNat) s → j < B.length →
      (j < (B.map ldF).length) ∧ (j < (cbL B S).length) ∧ (0 ≤ (B.map ldF).getD j 0 ∧ (B.map ldF).getD j 0 < ((redN p (cbL B S) (pvN (B.map ldF)) (r ++ s) j).length : Int)) ∧
      ((B.map ldF).getD j 0).toNat = pvN (B.map ldF) j ∧ twR p (redN p (cbL B S) (pvN (B.map ldF)) (r ++ s) j) ((cbL B S).getD j []) ∧
      0 ≤ (redN p (cbL B S) (pvN (B.map ldF)) (r ++ s) j).getD (pvN (B.map ldF) j) 0 ∧ (redN p (cbL B S) (pvN (B.map ldF)) (r ++ s) j).getD (pvN (B.map ldF) j) 0 ≤ p - 1 := fun B S r s j G hr hs hj => by
    obtain ⟨E, W⟩ := cb_ok p2 G hr hs (Nat.le_of_lt hj)
    have W1 := W.1
    obtain ⟨q1, q2, q3, q4⟩ := cb_at G hj
    have q41 := q4.1
    have cc := W.2 (pvN (B.map ldF) j) (by rw [← q3]; omega)
    exact ⟨by rw [List.length_map]; exact hj, by rw [cbL_length G.len]; exact hj, ⟨q1, by omega⟩, q3, ⟨p2, p7, W.2, q4.2, by omega, by omega⟩, cc.1, cc.2⟩
  refine ⟨by omega, ⟨by omega, by omega, by omega, by omega⟩, ⟨0, ⟨Nat.zero_le _, hz, h6⟩, by rw [eN, if_pos (by omega)], rfl, rfl, rfl⟩, fun i ⟨hi, _⟩ => ⟨fun h7 => ?_, fun h7 => ?_⟩⟩
  · obtain ⟨L, G⟩ := F i
    have hx : bdOk t p (digN t.length (k + 1).toNat (i : Int)) := dig_ok hT p2 p7 (by omega) d2 (by omega)
    have e1 : ptF t p (digN (t.length : Int) (k + 1).toNat (i : Int)) (k + 1).toNat = btF t p (k + 1).toNat i := rfl
    have e2 : (List.replicate (t.length ^ (k + 1).toNat) (0 : Int)).set i 1 = ehN (t.length ^ (k + 1).toNat) i := rfl
    have eP : fiP t p (k + 1).toNat i = (fiB t p (k + 1).toNat i).map ldF := rfl
    have eP1 : fiP t p (k + 1).toNat (i + 1) = (fiB t p (k + 1).toNat (i + 1)).map ldF := rfl
    have sB : fiB t p (k + 1).toNat (i + 1) = if 0 ≤ ldF (redN p (fiB t p (k + 1).toNat i) (ldN (fiB t p (k + 1).toNat i)) (btF t p (k + 1).toNat i) (fiB t p (k + 1).toNat i).length) then fiB t p (k + 1).toNat i ++ [scF p (ivM p ((redN p (fiB t p (k + 1).toNat i) (ldN (fiB t p (k + 1).toNat i)) (btF t p (k + 1).toNat i) (fiB t p (k + 1).toNat i).length).getD (ldF (redN p (fiB t p (k + 1).toNat i) (ldN (fiB t p (k + 1).toNat i)) (btF t p (k + 1).toNat i) (fiB t p (k + 1).toNat i).length)).toNat 0)) (redN p (fiB t p (k + 1).toNat i) (ldN (fiB t p (k + 1).toNat i)) (btF t p (k + 1).toNat i) (fiB t p (k + 1).toNat i).length)] else fiB t p (k + 1).toNat i := by
      unfold fiB; rw [flN_step]; split <;> rfl
    have sS : fiS t p (k + 1).toNat (i + 1) = if 0 ≤ ldF (redN p (fiB t p (k + 1).toNat i) (ldN (fiB t p (k + 1).toNat i)) (btF t p (k + 1).toNat i) (fiB t p (k + 1).toNat i).length) then fiS t p (k + 1).toNat i ++ [scF p (ivM p ((redN p (fiB t p (k + 1).toNat i) (ldN (fiB t p (k + 1).toNat i)) (btF t p (k + 1).toNat i) (fiB t p (k + 1).toNat i).length).getD (ldF (redN p (fiB t p (k + 1).toNat i) (ldN (fiB t p (k + 1).toNat i)) (btF t p (k + 1).toNat i) (fiB t p (k + 1).toNat i).length)).toNat 0)) (srcN p (fiB t p (k + 1).toNat i) (fiS t p (k + 1).toNat i) (ldN (fiB t p (k + 1).toNat i)) (btF t p (k + 1).toNat i) (ehN (t.length ^ (k + 1).toNat) i) (fiB t p (k + 1).toNat i).length)] else fiS t p (k + 1).toNat i := by
      unfold fiB fiS; rw [flN_step]; split <;> rfl
    simp only [digN_length, e1, e2, eP]
    clear e1 e2 eP F
    have hbi := hb i
    have hsi := hs i
    have hb1 := hbi.1
    have hs1 := hsi.1
    generalize fiB t p (k + 1).toNat i = B at *
    generalize fiS t p (k + 1).toNat i = S at *
    have gl := G.len
    refine ⟨by omega, ⟨by omega, by omega, by omega, by omega, by omega⟩, ⟨hx, by omega⟩, by omega, by omega, by omega, ⟨0, ⟨Nat.zero_le _, by omega, hz, h6⟩, rfl, rfl⟩, fun j ⟨hj, _⟩ => ⟨fun h8 => ?_, fun h8 => ?_⟩⟩
    · rw [cbL_length gl] at h8
      obtain ⟨g1, g2, g3, g4, g5, g6, g7⟩ := rnd B S _ _ j G hbi hsi (by omega)
      rw [g4]
      refine ⟨by omega, g3, fun h9 => ⟨by omega, by omega, g3, ⟨g5, by omega, by omega, by omega, by omega⟩, by omega, j + 1, ⟨by omega, by omega, hz, h6⟩, by omega, by omega, ?_⟩, fun h9 => ⟨by omega, j + 1, ⟨by omega, by omega, hz, h6⟩, by omega, by omega, ?_⟩⟩
      · rw [redN, if_pos h9]
      · rw [redN, if_neg (by omega)]
    · rw [cbL_length gl] at h8
      have e : j = B.length := by omega
      subst e
      obtain ⟨E, W⟩ := cb_ok p2 G hbi hsi (Nat.le_refl _)
      have r1 := (red_ok p2 G.bas hbi _ (Nat.le_refl _)).1
      have s1 := srcN_ok p2 G hbi hsi _ (Nat.le_refl _)
      rw [E] at W
      rw [E]
      generalize redN p B (ldN B) (btF t p (k + 1).toNat i) B.length = r at *
      generalize srcN p B S (ldN B) (btF t p (k + 1).toNat i) (ehN (t.length ^ (k + 1).toNat) i) B.length = u at *
      have r11 := r1.1
      have s11 := s1.1
      have la := W.1
      have lC := cbL_length gl
      rw [List.drop_zero, take_app (by omega)]
      refine ⟨by omega, by omega, fun h9 => ?_, fun h9 => ⟨by omega, i + 1, ⟨by omega, hz, h6⟩, by omega, by omega, by rw [sB, sS, if_neg h9, if_neg h9], by rw [eP1, sB, if_neg h9]⟩⟩
      have y := ld_yes h9
      rw [getD_app1 r u y.1]
      have c0 := r1.2 _ y.1
      have iv := ivM_ok hp (a := r.getD (ldF r).toNat 0) (by omega) (by omega)
      refine ⟨by omega, by omega, ⟨hp, by omega, by omega⟩, by omega, ⟨⟨p2, p7, rep_in (by omega) _, W.2, by rw [List.length_replicate], by rw [List.length_replicate]; omega⟩, by omega, by omega, by omega, by omega⟩, by omega, by rw [List.length_map]; omega, by omega, i + 1, ⟨by omega, hz, h6⟩, by omega, by omega, ?_, ?_⟩
      · rw [sB, sS, if_pos h9, if_pos h9, neg_sc, scF_app, cbL_snoc gl]
      · rw [eP1, sB, if_pos h9, List.map_append, List.map_singleton, ld_sc hp r1 h9]
  · have e : i = t.length ^ (k + 1).toNat := by omega
    subst e
    obtain ⟨L, G⟩ := F (t.length ^ (k + 1).toNat)
    have eP : fiP t p (k + 1).toNat (t.length ^ (k + 1).toNat) = (fiB t p (k + 1).toNat (t.length ^ (k + 1).toNat)).map ldF := rfl
    have fr : flR t p (k + 1).toNat c = (redN p (fiB t p (k + 1).toNat (t.length ^ (k + 1).toNat)) (ldN (fiB t p (k + 1).toNat (t.length ^ (k + 1).toNat))) c (fiB t p (k + 1).toNat (t.length ^ (k + 1).toNat)).length, srcN p (fiB t p (k + 1).toNat (t.length ^ (k + 1).toNat)) (fiS t p (k + 1).toNat (t.length ^ (k + 1).toNat)) (ldN (fiB t p (k + 1).toNat (t.length ^ (k + 1).toNat))) c (List.replicate (t.length ^ (k + 1).toNat) 0) (fiB t p (k + 1).toNat (t.length ^ (k + 1).toNat)).length) := rfl
    have fv : flV t p (k + 1).toNat c = if 0 ≤ ldF (flR t p (k + 1).toNat c).1 then ([], false) else (ngF p (flR t p (k + 1).toNat c).2, true) := rfl
    have hrep : rwP p (t.length ^ (k + 1).toNat) (List.replicate (t.length ^ (k + 1).toNat) 0) := ⟨List.length_replicate .., rep_in (by omega) _⟩
    have fc : flC t p k c = if (flV t p (k + 1).toNat c).2 = true then ((flV t p (k + 1).toNat c).1, 0) else ([], 4) := by rw [flC, if_pos hz, if_pos h6]
    rw [fc, fv, fr]
    dsimp only
    simp only [eP]
    clear F eP fr fv fc
    generalize fiB t p (k + 1).toNat (t.length ^ (k + 1).toNat) = B at *
    generalize fiS t p (k + 1).toNat (t.length ^ (k + 1).toNat) = S at *
    have gl := G.len
    refine ⟨by omega, by omega, ⟨0, ⟨Nat.zero_le _, hz, h6⟩, rfl, trivial, trivial, rfl⟩, fun j ⟨hj, _⟩ => ⟨fun h8 => ?_, fun h8 => ?_⟩⟩
    · rw [cbL_length gl] at h8
      obtain ⟨g1, g2, g3, g4, g5, g6, g7⟩ := rnd B S _ _ j G hc hrep (by omega)
      rw [g4]
      refine ⟨by omega, g3, fun h9 => ⟨by omega, by omega, g3, ⟨g5, by omega, by omega, by omega, by omega⟩, by omega, j + 1, ⟨by omega, hz, h6⟩, by omega, by omega, ?_⟩, fun h9 => ⟨by omega, j + 1, ⟨by omega, hz, h6⟩, by omega, by omega, ?_⟩⟩
      · rw [redN, if_pos h9]
      · rw [redN, if_neg (by omega)]
    · rw [cbL_length gl] at h8
      have e : j = B.length := by omega
      subst e
      obtain ⟨E, W⟩ := cb_ok p2 G hc hrep (Nat.le_refl _)
      have r1 := (red_ok p2 G.bas hc _ (Nat.le_refl _)).1
      have s1 := srcN_ok p2 G hc hrep _ (Nat.le_refl _)
      rw [E] at W
      rw [E]
      generalize redN p B (ldN B) c B.length = r at *
      generalize srcN p B S (ldN B) c (List.replicate (t.length ^ (k + 1).toNat) 0) B.length = u at *
      have r11 := r1.1
      have s11 := s1.1
      have la := W.1
      have nl := ngF_length p u
      rw [List.drop_zero, take_app (by omega)]
      refine ⟨by omega, by omega, fun h9 => by rw [if_pos h9, if_neg (by decide)]; exact ⟨rfl, rfl⟩, fun h9 => ⟨⟨0, ⟨Nat.zero_le _, by omega, hz, h6⟩, rfl, rfl, rfl⟩, fun q ⟨hq, _⟩ => ⟨fun h10 => ?_, fun h10 => ?_⟩⟩⟩
      · have g : (r ++ u).getD (c.length + q) 0 = u.getD q 0 := by rw [getD_app2 _ _ (by omega), show c.length + q - r.length = q by omega]
        have x := s1.2 q (by omega)
        rw [g]
        refine ⟨by omega, by omega, by omega, by omega, by omega, q + 1, ⟨by omega, by omega, hz, h6⟩, by omega, by omega, ?_⟩
        rw [← take_snoc (ngF p u) 0 q (by omega), show (ngF p u).getD q 0 = (p - u.getD q 0).tmod p by rw [ngF, tab_getD _ _ _ (by omega)]]
      · rw [if_neg h9, if_pos rfl, List.take_of_length_le (by omega)]
        exact ⟨rfl, rfl⟩
theorem sFil_fits : Fits Try.prog 29 ⟨[], sFil_ct⟩ := by
  refine fits_fn (Γ := gam sFil_G) (gok_cons l15Code_fits (gok_cons l15Chain_fits (gok_cons l15Allowed_fits (gok_cons l15Power_fits (gok_cons l15Tuple_fits (gok_cons l15Tuples_fits (gok_cons l15Less_fits (gok_cons l15First_fits (gok_cons l15Inverse_fits (gok_cons l01Own_fits gok_nil)))))))))) Try.func29 (by kernel_rfl) (by kernel_rfl) (by kernel_rfl) fun ds p h hp => ?_
  unfold sFil_ct at h
  split at h
  · cases h
    exact ⟨noWr, sFil_ann _ _ _ _ , by rw [sFil_vc]; exact sFil_ok _ _ _ _  hp⟩
  · cases h

theorem flC_len (t : List (List Int)) (p k : Int) (c : List Int) : (flC t p k c).1.length ≤ 512 := by
  unfold flC
  split
  · rename_i hz
    split
    · rename_i h6
      obtain ⟨h1, hp, hd, hcb, _⟩ := chC_ok hz
      have hT := rackB_tab h1
      obtain ⟨p2, p7⟩ := primeB_le hp
      obtain ⟨ca, cb, _⟩ := chB_of hcb
      obtain ⟨k0, k1, N1, eN, N2⟩ := rk_facts hT h6
      have dd := degB_of hd
      have eK : (k + 1).toNat - 1 = k.toNat := by omega
      have hb : ∀ j, rwP p (t.length ^ k.toNat) (btF t p (k + 1).toNat j) := fun j => by have := btF_ok t p2 (k + 1).toNat j; rwa [eK] at this
      have G := (flN_ok hp (N := t.length ^ k.toNat) (M := t.length ^ (k + 1).toNat) (ρ := btF t p (k + 1).toNat) (t.length ^ (k + 1).toNat) fun j _ => hb j).2
      have s1 := srcN_ok p2 G (r := c) (s := List.replicate (t.length ^ (k + 1).toNat) 0) ⟨ca, cb⟩ ⟨List.length_replicate .., rep_in (by omega) _⟩ _ (Nat.le_refl _)
      have l1 : (flR t p (k + 1).toNat c).2.length = t.length ^ (k + 1).toNat := s1.1
      have l2 : (flV t p (k + 1).toNat c).1.length ≤ 512 := by
        unfold flV
        split
        · simp
        · show (ngF p _).length ≤ 512
          rw [ngF_length]; omega
      split
      · exact l2
      · simp
    · simp
  · simp


end Go.Sx
