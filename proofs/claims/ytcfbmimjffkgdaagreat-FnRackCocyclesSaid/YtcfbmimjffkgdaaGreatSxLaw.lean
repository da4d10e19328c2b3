/- SxLaw -/
import Derived.Test.YtcfbmimjffkgdaaGreatOrbP
import Derived.Test.YtcfbmimjffkgdaaGreatRnk
import Derived.Test.YtcfbmimjffkgdaaGreatFil
import Derived.Test.YtcfbmimjffkgdaaGreatTuple
import Derived.ProofKit
import Derived.OpenShut
import Derived.Lib.SmallJoins
import Derived.Deep.Matrix
section
open Go Go.Proofs
namespace Go.Sx
set_option linter.unusedSimpArgs false
set_option linter.unusedVariables false
theorem drL_in {code : List Int} (hb : bytesB code) {m : Int} (hm : 1 ≤ m) : ∀ (j : Nat) (s : List Int × Int × Int), (∀ x ∈ s.1, 0 ≤ x ∧ x ≤ m - 1) → ∀ x ∈ (lsS code m j s).1, 0 ≤ x ∧ x ≤ m - 1
  | 0, s, h => h
  | j + 1, s, h => by
    have v := nxV_in hb s.2.1 s.2.2 hm
    refine drL_in hb hm j (s.1 ++ [nxV code s.2.1 s.2.2 m], nxA code.length s.2.1 m, nxH s.2.2 m) fun x hx => ?_
    rcases List.mem_append.1 hx with hx | hx
    · exact h x hx
    · rw [List.mem_singleton.1 hx]; exact v
theorem drL_len {code : List Int} {m : Int} : ∀ (j : Nat) (s : List Int × Int × Int), 0 ≤ s.2.1 → s.2.1 ≤ (code.length : Int) → (lsS code m j s).1.length = s.1.length + j ∧ 0 ≤ (lsS code m j s).2.1 ∧ (lsS code m j s).2.1 ≤ (code.length : Int)
  | 0, s, h0, h1 => ⟨rfl, h0, h1⟩
  | j + 1, s, h0, h1 => by
    have a := nxA_in (n := m) h0 h1
    have := drL_len (code := code) (m := m) j (s.1 ++ [nxV code s.2.1 s.2.2 m], nxA code.length s.2.1 m, nxH s.2.2 m) a.1 a.2
    rw [List.length_append] at this
    refine ⟨?_, this.2⟩
    have e := this.1
    show (lsS code m j _).1.length = _
    rw [e]; show s.1.length + 1 + j = _; omega
def l14DrawList_p (code : List Int) (a : Int) (h : Int) (n : Int) (m : Int) : Post := ⟨bytesB code ∧ 0 ≤ a ∧ a ≤ (code.length : Int) ∧ code.length ≤ 4096 ∧ n ≤ 1000000 ∧ -1000000 ≤ n, .c (.ints 2 .i64 ((lsS code m n.toNat ([], a, h)).1)), [.bx [.ints .u8 (code), .int .i64 ((lsS code m n.toNat ([], a, h)).2.1), .int .u64 ((lsS code m n.toNat ([], a, h)).2.2)]]⟩
def l14DrawList_ct : List AD → Option Post
  | [.box [.ints .u8 (code), .int .i64 (a), .int .u64 (h)], .c (.int .i64 (n)), .c (.int .i64 (m))] => some (l14DrawList_p code a h n m)
  | _ => none
def l14DrawList_ann (code : List Int) (a : Int) (h : Int) (n : Int) (m : Int) : Nat → Option Ann
  | 0 => some (Ann.mk ((Nat) × (List Int) × (Int) × (Int)) (fun x => match x with | (j, l, b, g) => ⟨[(0, .c (.ptr 700 0)), (1, .c (.int .i64 (n - (n.toNat - j : Nat)))), (2, .c (.int .i64 (m))), (7, .c (.own (8)))], [(700, some (.box [.orig 700 0 (.ints .u8 (code)), .int .i64 (b), .int .u64 (g)])), (8, some (.ints 2 .i64 (l)))]⟩) (fun x => match x with | (j, l, b, g) => j ≤ n.toNat ∧ l.length = n.toNat - j ∧ 0 ≤ b ∧ b ≤ (code.length : Int) ∧ lsS code m n.toNat ([], a, h) = lsS code m j (l, b, g)) (fun x => match x with | (j, l, b, g) => j) (fun _ => noAnn))
  | _ => none
def l14DrawList_G : List (Nat × Ctr) := [(23, ⟨[(0, 0)], l01Next_ct⟩)]
def l14DrawList_V (code : List Int) (a : Int) (h : Int) (n : Int) (m : Int) : Prop :=
 ((∃ x0 : Nat × List Int × Int × Int, (((x0.1 ≤ n.toNat)∧(((x0.2.1).length = n.toNat - x0.1)∧(((0:Int) ≤ x0.2.2.1)∧((x0.2.2.1 ≤ (↑(code.length):Int))∧(lsS code m (n.toNat) ([], a, h) = lsS code m (x0.1) (x0.2.1, x0.2.2.1, x0.2.2.2))))))∧((n = n - (↑(n.toNat - x0.1):Int))∧((m = m)∧((code = code)∧((a = x0.2.2.1)∧((h = x0.2.2.2)∧([] = x0.2.1))))))))∧(∀ x1 : Nat × List Int × Int × Int, (((x1.1 ≤ n.toNat)∧(((x1.2.1).length = n.toNat - x1.1)∧(((0:Int) ≤ x1.2.2.1)∧((x1.2.2.1 ≤ (↑(code.length):Int))∧(lsS code m (n.toNat) ([], a, h) = lsS code m (x1.1) (x1.2.1, x1.2.2.1, x1.2.2.2)))))) → (BrP (decide ((0:Int) < n - (↑(n.toNat - x1.1):Int))) ((((bytesB code)∧(((0:Int) ≤ x1.2.2.1)∧(x1.2.2.1 ≤ (1099511627776:Int))))∧((code = code)∧True))∧((room (x1.2.1.length + [nxV code x1.2.2.1 x1.2.2.2 m].length))∧((InR (n - (↑(n.toNat - x1.1):Int) - (1:Int)))∧(∃ x2 : Nat × List Int × Int × Int, (((x2.1 ≤ n.toNat)∧(((x2.2.1).length = n.toNat - x2.1)∧(((0:Int) ≤ x2.2.2.1)∧((x2.2.2.1 ≤ (↑(code.length):Int))∧(lsS code m (n.toNat) ([], a, h) = lsS code m (x2.1) (x2.2.1, x2.2.2.1, x2.2.2.2))))))∧((x2.1 < x1.1)∧((n - (↑(n.toNat - x1.1):Int) - (1:Int) = n - (↑(n.toNat - x2.1):Int))∧((m = m)∧((code = code)∧((nxA (code.length) x1.2.2.1 m = x2.2.2.1)∧((nxH x1.2.2.2 m = x2.2.2.2)∧(x1.2.1 ++ [nxV code x1.2.2.1 x1.2.2.2 m] = x2.2.1)))))))))))) ((x1.2.1 = (lsS code m (n.toNat) ([], a, h)).1)∧(((code = code)∧((x1.2.2.1 = ((lsS code m (n.toNat) ([], a, h)).2).1)∧((x1.2.2.2 = ((lsS code m (n.toNat) ([], a, h)).2).2) ∧
 True)))∧True))))))
theorem l14DrawList_vc (code : List Int) (a : Int) (h : Int) (n : Int) (m : Int) : runF Tryz.prog (gam l14DrawList_G) noWr (l14DrawList_ann code a h n m) Tryz.f58 (bodyOf Tryz.f58) [(0, 0)] [.box [.ints .u8 (code), .int .i64 (a), .int .u64 (h)], .c (.int .i64 (n)), .c (.int .i64 (m))] (l14DrawList_p code a h n m) = l14DrawList_V code a h n m := by kernel_rfl
theorem l14DrawList_ok (code : List Int) (a : Int) (h : Int) (n : Int) (m : Int) (hpre : (l14DrawList_p code a h n m).pre) : l14DrawList_V code a h n m := by
  simp only [l14DrawList_p, l14DrawList_V, BrP_iff, u1, u2, u3, u4, u5, u6, u7, u8, u9, v1, v2, v3, v4, v5, v6, v7, v8, v9, w1, w2, w3, w4, markL_length, inB, InR, room, bdsOk] at hpre ⊢
  obtain ⟨hb, h0, h1, h2, h3, h4⟩ := hpre
  refine ⟨⟨(n.toNat, [], a, h), ?_⟩, ?_⟩
  · dsimp only
    exact ⟨⟨Nat.le_refl _, by simp, h0, h1, rfl⟩, by omega, rfl, rfl, rfl⟩
  rintro ⟨j, l, b, g⟩ ⟨q1, q2, q3, q4, q5⟩
  dsimp only at q1 q2 q3 q4 q5 ⊢
  have s1 := nxA_in (n := m) q3 q4
  refine ⟨fun hl => ⟨⟨hb, q3, by omega⟩, by omega, by omega, (j - 1, l ++ [nxV code b g m], nxA code.length b m, nxH g m), ?_⟩, fun hl => ?_⟩
  · dsimp only
    refine ⟨⟨by omega, by rw [List.length_append]; show l.length + 1 = _; omega, s1.1, s1.2, ?_⟩, by omega, by omega, rfl, rfl, rfl⟩
    rw [q5, show j = (j - 1) + 1 by omega]; rfl
  · rw [q5, show j = 0 by omega]; exact ⟨rfl, rfl, rfl⟩
theorem l14DrawList_fits : Fits Tryz.prog 58 ⟨[(0, 0)], l14DrawList_ct⟩ := by
  refine ffn (Γ := gam l14DrawList_G) (gok_cons l01Next_fits gok_nil) Tryz.func58 fun ds p h hp => ?_
  unfold l14DrawList_ct at h
  split at h
  · cases h
    exact ⟨noWr, l14DrawList_ann _ _ _ _ _ , by rw [l14DrawList_vc]; exact l14DrawList_ok _ _ _ _ _  hp⟩
  · cases h
abbrev Ds := List (List Int) × Int × Int
def drwS (code : List Int) (m : Int) (n : Nat) : Nat → Ds → Ds
  | 0, s => s
  | j + 1, s => drwS code m n j (s.1 ++ [(lsS code m n ([], s.2.1, s.2.2)).1], (lsS code m n ([], s.2.1, s.2.2)).2)
def shR (s : Ds) : Dy := (s.1, 0, s.2)
def shW (t : List (List Int)) (m : Int) (g lb w : List Int) (x y : Nat) : Int :=
  if 0 < lb.length then (cbF t m g x y + w.getD (lb.getD x 0 * (t.length : Int) + lb.getD y 0).toNat 0).tmod m else cbF t m g x y
def shL (t : List (List Int)) : List Int := if t.all permB = true then (obN t t.length).1 else []
def shB (code : List Int) (t : List (List Int)) (m a h : Int) : Ds :=
  let g := lsS code m t.length ([], a, h)
  let w := lsS code m (t.length * t.length) ([], g.2)
  (tabR t.length (shW t m g.1 (shL t) w.1), w.2)
def shE (code : List Int) (n m : Int) (s : Ds) : Dy :=
  let c := nxV code s.2.1 s.2.2 12
  let a1 := nxA code.length s.2.1 12
  let h1 := nxH s.2.2 12
  if c = 0 then
    (s.1.set (nxV code a1 h1 n).toNat ((s.1.getD (nxV code a1 h1 n).toNat []).set (nxV code (nxA code.length a1 n) (nxH h1 n) n).toNat (nxV code (nxA code.length (nxA code.length a1 n) n) (nxH (nxH h1 n) n) m)), 0,
      nxA code.length (nxA code.length (nxA code.length a1 n) n) m, nxH (nxH (nxH h1 n) n) m)
  else if c = 1 then (s.1.set 0 ((s.1.getD 0 []).set 0 ([-1, m].getD (nxV code a1 h1 2).toNat 0)), 0, nxA code.length a1 2, nxH h1 2)
  else if c = 2 then (s.1, 1, a1, h1) else (s.1, 0, a1, h1)
theorem shE0 {code : List Int} {n m b k : Int} {F : List (List Int)} (z : nxV code b k 12 = 0) : shE code n m (F, b, k) =
    (F.set (nxV code (nxA code.length b 12) (nxH k 12) n).toNat ((F.getD (nxV code (nxA code.length b 12) (nxH k 12) n).toNat []).set (nxV code (nxA code.length (nxA code.length b 12) n) (nxH (nxH k 12) n) n).toNat (nxV code (nxA code.length (nxA code.length (nxA code.length b 12) n) n) (nxH (nxH (nxH k 12) n) n) m)), 0,
      nxA code.length (nxA code.length (nxA code.length (nxA code.length b 12) n) n) m, nxH (nxH (nxH (nxH k 12) n) n) m) := by
  unfold shE; dsimp only; rw [if_pos z]
theorem shE1 {code : List Int} {n m b k : Int} {F : List (List Int)} (z : nxV code b k 12 ≠ 0) (z1 : nxV code b k 12 = 1) : shE code n m (F, b, k) =
    (F.set 0 ((F.getD 0 []).set 0 ([-1, m].getD (nxV code (nxA code.length b 12) (nxH k 12) 2).toNat 0)), 0, nxA code.length (nxA code.length b 12) 2, nxH (nxH k 12) 2) := by
  unfold shE; dsimp only; rw [if_neg z, if_pos z1]
theorem shE2 {code : List Int} {n m b k : Int} {F : List (List Int)} (z : nxV code b k 12 ≠ 0) (z1 : nxV code b k 12 ≠ 1) (z2 : nxV code b k 12 = 2) : shE code n m (F, b, k) = (F, 1, nxA code.length b 12, nxH k 12) := by
  unfold shE; dsimp only; rw [if_neg z, if_neg z1, if_pos z2]
theorem shE3 {code : List Int} {n m b k : Int} {F : List (List Int)} (z : nxV code b k 12 ≠ 0) (z1 : nxV code b k 12 ≠ 1) (z2 : nxV code b k 12 ≠ 2) : shE code n m (F, b, k) = (F, 0, nxA code.length b 12, nxH k 12) := by
  unfold shE; dsimp only; rw [if_neg z, if_neg z1, if_neg z2]
def shF (code : List Int) (t : List (List Int)) (m a h : Int) : Dy :=
  if tabB t = true ∧ 1 ≤ m ∧ m ≤ 12 then
    (if nxV code a h 5 = 0 then shR (drwS code m t.length t.length ([], nxA code.length a 5, nxH h 5)) else shE code t.length m (shB code t m (nxA code.length a 5) (nxH h 5)))
  else shR (drwS code m t.length t.length ([], a, h))
def lbOk (n : Nat) (lb : List Int) : Prop := lb = [] ∨ (lb.length = n ∧ ∀ q, q < n → 0 ≤ lb.getD q 0 ∧ lb.getD q 0 ≤ (n : Int) - 1)
theorem shL_ok {t : List (List Int)} (ht : tabB t = true) : lbOk t.length (shL t) := by
  unfold shL
  split
  · obtain ⟨a1, _, _, a4, a5⟩ := obN_ok ht t.length (Nat.le_refl _)
    exact .inr ⟨a1, fun q hq => ⟨a5 q hq, (a4 q hq).2⟩⟩
  · exact .inl rfl
theorem sh_mk {n m : Int} {g : List Int} (hm : 1 ≤ m ∧ m ≤ 12) (hl : (g.length : Int) = n) (hg : ∀ x ∈ g, 0 ≤ x ∧ x ≤ m - 1) : shiftB n m g = true := by
  simp only [shiftB, numsB, allW, Bool.and_eq_true, decide_eq_true_eq, List.all_eq_true]
  exact ⟨hm, hg, hl⟩
theorem mix_get (A B : List Int) (y : Nat) (hA : y ≤ A.length) (hB : y < B.length) : (A.take y ++ B.drop y).getD y 0 = B.getD y 0 := by
  rw [drop_cons' B 0 y hB, at_getD _ _ _ _ _ (by rw [List.length_take]; omega)]
theorem mix_set (A B : List Int) (y : Nat) (hA : y < A.length) (hB : y < B.length) : (A.take y ++ B.drop y).set y (A.getD y 0) = A.take (y + 1) ++ B.drop (y + 1) := by
  rw [drop_cons' B 0 y hB, at_set _ _ _ _ _ (by rw [List.length_take]; omega), ← take_snoc A 0 y hA, List.append_assoc]; rfl
def l14Shape_p (code : List Int) (a : Int) (h : Int) (t : List (List Int)) (m : Int) : Post := ⟨bytesB code ∧ code.length ≤ 4096 ∧ 0 ≤ a ∧ a ≤ (code.length : Int) ∧ t.length ≤ 12 ∧ roomR t ∧ -1000 ≤ m ∧ m ≤ 1000, .c (.cut ((shF code t m a h).2.1) ((shF code t m a h).1.length - (shF code t m a h).2.1) 27 2 .i64 ((shF code t m a h).1)), [.bx [.ints .u8 (code), .int .i64 ((shF code t m a h).2.2.1), .int .u64 ((shF code t m a h).2.2.2)]]⟩
def l14Shape_ct : List AD → Option Post
  | [.box [.ints .u8 (code), .int .i64 (a), .int .u64 (h)], .c (.rows .i64 (t)), .c (.int .i64 (m))] => some (l14Shape_p code a h t m)
  | _ => none
def l14Shape_ann (code : List Int) (a : Int) (h : Int) (t : List (List Int)) (m : Int) : Nat → Option Ann
  | 0 => some (Ann.mk ((Nat) × (List (List Int)) × (Int) × (Int)) (fun x => match x with | (i, l, b, g) => ⟨[(0, .c (.ptr 700 0)), (2, .c (.int .i64 (m))), (7, .c (.int .i64 ((t.length : Int)))), (8, .c (.own (18))), (9, .c (.int .i64 ((i : Int))))], [(700, some (.box [.orig 700 0 (.ints .u8 (code)), .int .i64 (b), .int .u64 (g)])), (18, some (.rows 0 27 2 .i64 (l)))]⟩) (fun x => match x with | (i, l, b, g) => i ≤ t.length ∧ l.length = i ∧ 0 ≤ b ∧ b ≤ (code.length : Int) ∧ shF code t m a h = shR (drwS code m t.length (t.length - i) (l, b, g))) (fun x => match x with | (i, l, b, g) => t.length - i) (fun _ => noAnn))
  | 2 => some (Ann.mk ((Nat) × (List Int) × (List Int) × (List Int) × (Int) × (Int)) (fun x => match x with | (x, g, lb, w, b, k) => ⟨[(0, .c (.ptr 700 0)), (2, .c (.int .i64 (m))), (7, .c (.int .i64 ((t.length : Int)))), (8, .c (.own (51))), (10, .c (.own (57))), (11, .c (.own (63))), (12, .c (.int .i64 ((x : Int))))], [(700, some (.box [.orig 700 0 (.ints .u8 (code)), .int .i64 (b), .int .u64 (k)])), (51, some (.rows 0 27 2 .i64 ((tabR t.length (shW t m g lb w)).take x ++ (tabR t.length (cbF t m g)).drop x))), (57, some (.ints 2 .i64 (lb))), (63, some (.ints 2 .i64 (w)))]⟩) (fun x => match x with | (x, g, lb, w, b, k) => x ≤ t.length ∧ tabB t = true ∧ shiftB (t.length : Int) m g = true ∧ lbOk t.length lb ∧ shiftB ((t.length * t.length : Nat) : Int) m w = true ∧ 0 ≤ b ∧ b ≤ (code.length : Int) ∧ shF code t m a h = shE code t.length m (tabR t.length (shW t m g lb w), b, k)) (fun x => match x with | (x, g, lb, w, b, k) => t.length - x) (fun x => match x with | (x, g, lb, w, b, k) => fun b_ => match b_ with | 4 => some (Ann.mk ((Nat)) (fun y => ⟨[(0, .c (.ptr 700 0)), (2, .c (.int .i64 (m))), (7, .c (.int .i64 ((t.length : Int)))), (8, .c (.own (51))), (10, .c (.own (57))), (11, .c (.own (63))), (12, .c (.int .i64 ((x : Int)))), (13, .c (.row 51 0 (Int.toNat (x : Int)))), (14, .c (.int .i64 ((y : Int))))], [(700, some (.box [.orig 700 0 (.ints .u8 (code)), .int .i64 (b), .int .u64 (k)])), (51, some (.rows 0 27 2 .i64 ((tabR t.length (shW t m g lb w)).take x ++ ((tab t.length (shW t m g lb w x)).take y ++ (tab t.length (cbF t m g x)).drop y) :: (tabR t.length (cbF t m g)).drop (x + 1)))), (57, some (.ints 2 .i64 (lb))), (63, some (.ints 2 .i64 (w)))]⟩) (fun y => y ≤ t.length ∧ x < t.length) (fun y => t.length - y) (fun _ => noAnn)) | _ => none))
  | _ => none
def l14Shape_G : List (Nat × Ctr) := [(23, ⟨[(0, 0)], l01Next_ct⟩), (52, ⟨[(0, 0)], l01Pick_ct⟩), (53, ⟨[], l01Table_ct⟩), (57, ⟨[], l01In_ct⟩), (58, ⟨[(0, 0)], l14DrawList_ct⟩), (59, ⟨[], l14Bound_ct⟩), (60, ⟨[], l01Rows_ct⟩), (61, ⟨[], l01Orbits_ct⟩)]
def l14Shape_c1 (t : List (List Int)) (m : Int) (x0 : Nat × List Int × List Int × List Int × Int × Int) := (List.take x0.1 (tabR (t.length) (shW t m x0.2.1 x0.2.2.1 x0.2.2.2.1)) ++ List.drop x0.1 (tabR (t.length) (cbF t m x0.2.1)))
def l14Shape_c2 (t : List (List Int)) (m : Int) (x0 : Nat × List Int × List Int × List Int × Int × Int) (x1 : Nat) := (List.take x0.1 (tabR (t.length) (shW t m x0.2.1 x0.2.2.1 x0.2.2.2.1)) ++ (List.take x1 (tab (t.length) (shW t m x0.2.1 x0.2.2.1 x0.2.2.2.1 x0.1)) ++ List.drop x1 (tab (t.length) (cbF t m x0.2.1 x0.1))) :: List.drop (x0.1 + (1:Nat)) (tabR (t.length) (cbF t m x0.2.1)))
def l14Shape_c3 (code : List Int) (t : List (List Int)) (x0 : Nat × List Int × List Int × List Int × Int × Int) := (nxA (code.length) (nxA (code.length) x0.2.2.2.2.1 (12:Int)) (↑(t.length):Int))
def l14Shape_c4 (code : List Int) (t : List (List Int)) (x0 : Nat × List Int × List Int × List Int × Int × Int) := (nxV code (nxA (code.length) x0.2.2.2.2.1 (12:Int)) (nxH x0.2.2.2.2.2 (12:Int)) (↑(t.length):Int))
def l14Shape_c5 (t : List (List Int)) (m : Int) (x0 : Nat) (x1 : Nat × List Int × List Int × List Int × Int × Int) := (List.take x0 (tab (t.length) (shW t m x1.2.1 x1.2.2.1 x1.2.2.2.1 x1.1)) ++ List.drop x0 (tab (t.length) (cbF t m x1.2.1 x1.1)))
def l14Shape_c6 (code : List Int) (t : List (List Int)) (m : Int) (x0 : Nat × List Int × List Int × List Int × Int × Int) := (List.set ((l14Shape_c1 t m x0).getD ((l14Shape_c4 code t x0).toNat) []) ((nxV code (l14Shape_c3 code t x0) (nxH (nxH x0.2.2.2.2.2 (12:Int)) (↑(t.length):Int)) (↑(t.length):Int)).toNat) (nxV code (nxA (code.length) (l14Shape_c3 code t x0) (↑(t.length):Int)) (nxH (nxH (nxH x0.2.2.2.2.2 (12:Int)) (↑(t.length):Int)) (↑(t.length):Int)) m))
def l14Shape_c7 (t : List (List Int)) (x0 : Nat × List Int × List Int × List Int × Int × Int) (x1 : Nat) := (x0.2.2.1.getD ((↑x0.1:Int).toNat) (0:Int) * (↑(t.length):Int) + x0.2.2.1.getD ((↑x1:Int).toNat) (0:Int))
def l14Shape_c8 (t : List (List Int)) (m : Int) (x0 : Nat × List Int × List Int × List Int × Int × Int) := (tabR (t.length) (shW t m x0.2.1 x0.2.2.1 x0.2.2.2.1))
def l14Shape_V1 (code : List Int) (a : Int) (h : Int) (t : List (List Int)) (m : Int) : Prop :=
 ∀ x0 : Nat × List Int × List Int × List Int × Int × Int, (((x0.1 ≤ t.length)∧((tabB t = true)∧((shiftB (↑(t.length):Int) m (x0.2.1) = true)∧((lbOk (t.length) (x0.2.2.1))∧((shiftB (↑(t.length * t.length):Int) m (x0.2.2.2.1) = true)∧(((0:Int) ≤ x0.2.2.2.2.1)∧((x0.2.2.2.2.1 ≤ (↑(code.length):Int))∧(shF code t m a h = shE code (↑(t.length):Int) m (tabR (t.length) (shW t m (x0.2.1) (x0.2.2.1) (x0.2.2.2.1)), x0.2.2.2.2.1, x0.2.2.2.2.2))))))))) → (BrP (decide ((↑x0.1:Int) < (↑(t.length):Int))) ((inB (↑x0.1:Int) ((l14Shape_c1 t m x0).length))∧((∃ x1 : Nat, (((x1 ≤ t.length)∧(x0.1 < t.length))∧((m = m)∧(((↑(t.length):Int) = (↑(t.length):Int))∧(((↑x0.1:Int) = (↑x0.1:Int))∧(((↑x0.1:Int).toNat = (↑x0.1:Int).toNat)∧(((0:Int) = (↑x1:Int))∧((code = code)∧((x0.2.2.2.2.1 = x0.2.2.2.2.1)∧((x0.2.2.2.2.2 = x0.2.2.2.2.2)∧((List.take x0.1 (l14Shape_c8 t m x0) ++ List.drop x0.1 (tabR (t.length) (cbF t m x0.2.1)) = List.take x0.1 (l14Shape_c8 t m x0) ++ (l14Shape_c5 t m x1 x0) :: List.drop (x0.1 + (1:Nat)) (tabR (t.length) (cbF t m x0.2.1)))∧((x0.2.2.1 = x0.2.2.1)∧(x0.2.2.2.1 = x0.2.2.2.1)))))))))))))∧(∀ x2 : Nat, (((x2 ≤ t.length)∧(x0.1 < t.length)) → (BrP (decide ((↑x2:Int) < (↑(t.length):Int))) (BrP (decide ((0:Int) < (↑(x0.2.2.1.length):Int))) ((inB (↑x2:Int) (((l14Shape_c2 t m x0 x2).getD ((↑x0.1:Int).toNat) []).length))∧((inB (↑x0.1:Int) (x0.2.2.1.length))∧((InR (x0.2.2.1.getD ((↑x0.1:Int).toNat) (0:Int) * (↑(t.length):Int)))∧((inB (↑x2:Int) (x0.2.2.1.length))∧((InR (l14Shape_c7 t x0 x2)) ∧
 ((inB (l14Shape_c7 t x0 x2) (x0.2.2.2.1.length))∧((InR ((List.getD (l14Shape_c2 t m x0 x2) ((↑x0.1:Int).toNat) []).getD ((↑x2:Int).toNat) (0:Int) + x0.2.2.2.1.getD ((l14Shape_c7 t x0 x2).toNat) (0:Int)))∧((m ≠ (0:Int))∧((inB (↑x2:Int) (((l14Shape_c2 t m x0 x2).getD ((↑x0.1:Int).toNat) []).length))∧((InR ((↑x2:Int) + (1:Int)))∧(∃ x3 : Nat, (((x3 ≤ t.length)∧(x0.1 < t.length))∧((t.length - x3 < t.length - x2)∧((m = m)∧(((↑(t.length):Int) = (↑(t.length):Int))∧(((↑x0.1:Int) = (↑x0.1:Int))∧(((↑x0.1:Int).toNat = (↑x0.1:Int).toNat)∧(((↑x2:Int) + (1:Int) = (↑x3:Int))∧((code = code)∧((x0.2.2.2.2.1 = x0.2.2.2.2.1)∧((x0.2.2.2.2.2 = x0.2.2.2.2.2)∧((List.set (l14Shape_c2 t m x0 x2) ((↑x0.1:Int).toNat) (List.set ((l14Shape_c2 t m x0 x2).getD ((↑x0.1:Int).toNat) []) ((↑x2:Int).toNat) (Int.tmod ((List.getD (l14Shape_c2 t m x0 x2) ((↑x0.1:Int).toNat) []).getD ((↑x2:Int).toNat) (0:Int) + x0.2.2.2.1.getD ((l14Shape_c7 t x0 x2).toNat) (0:Int)) m)) = List.take x0.1 (l14Shape_c8 t m x0) ++ (l14Shape_c5 t m x3 x0) :: List.drop (x0.1 + (1:Nat)) (tabR (t.length) (cbF t m x0.2.1)))∧((x0.2.2.1 = x0.2.2.1)∧(x0.2.2.2.1 = x0.2.2.2.1)))))))))))))))))))))))) ((InR ((↑x2:Int) + (1:Int)))∧(∃ x4 : Nat, (((x4 ≤ t.length)∧(x0.1 < t.length))∧((t.length - x4 < t.length - x2)∧((m = m)∧(((↑(t.length):Int) = (↑(t.length):Int))∧(((↑x0.1:Int) = (↑x0.1:Int))∧(((↑x0.1:Int).toNat = (↑x0.1:Int).toNat)∧(((↑x2:Int) + (1:Int) = (↑x4:Int))∧((code = code)∧((x0.2.2.2.2.1 = x0.2.2.2.2.1)∧((x0.2.2.2.2.2 = x0.2.2.2.2.2) ∧
 ((List.take x0.1 (l14Shape_c8 t m x0) ++ (l14Shape_c5 t m x2 x0) :: List.drop (x0.1 + (1:Nat)) (tabR (t.length) (cbF t m x0.2.1)) = List.take x0.1 (l14Shape_c8 t m x0) ++ (l14Shape_c5 t m x4 x0) :: List.drop (x0.1 + (1:Nat)) (tabR (t.length) (cbF t m x0.2.1)))∧((x0.2.2.1 = x0.2.2.1)∧(x0.2.2.2.1 = x0.2.2.2.1)))))))))))))))) ((InR ((↑x0.1:Int) + (1:Int)))∧(∃ x5 : Nat × List Int × List Int × List Int × Int × Int, (((x5.1 ≤ t.length)∧((tabB t = true)∧((shiftB (↑(t.length):Int) m (x5.2.1) = true)∧((lbOk (t.length) (x5.2.2.1))∧((shiftB (↑(t.length * t.length):Int) m (x5.2.2.2.1) = true)∧(((0:Int) ≤ x5.2.2.2.2.1)∧((x5.2.2.2.2.1 ≤ (↑(code.length):Int))∧(shF code t m a h = shE code (↑(t.length):Int) m (tabR (t.length) (shW t m (x5.2.1) (x5.2.2.1) (x5.2.2.2.1)), x5.2.2.2.2.1, x5.2.2.2.2.2)))))))))∧((t.length - x5.1 < t.length - x0.1)∧((m = m)∧(((↑(t.length):Int) = (↑(t.length):Int))∧(((↑x0.1:Int) + (1:Int) = (↑x5.1:Int))∧((code = code)∧((x0.2.2.2.2.1 = x5.2.2.2.2.1)∧((x0.2.2.2.2.2 = x5.2.2.2.2.2)∧((List.take x0.1 (l14Shape_c8 t m x0) ++ (l14Shape_c5 t m x2 x0) :: List.drop (x0.1 + (1:Nat)) (tabR (t.length) (cbF t m x0.2.1)) = List.take x5.1 (l14Shape_c8 t m x5) ++ List.drop x5.1 (tabR (t.length) (cbF t m x5.2.1)))∧((x0.2.2.1 = x5.2.2.1)∧(x0.2.2.2.1 = x5.2.2.2.1)))))))))))))))))) ((((bytesB code)∧(((0:Int) ≤ x0.2.2.2.2.1)∧(x0.2.2.2.2.1 ≤ (1099511627776:Int))))∧((code = code)∧True))∧(BrP (nxV code x0.2.2.2.2.1 x0.2.2.2.2.2 (12:Int) == (0:Int)) ((((bytesB code) ∧
 (((0:Int) ≤ nxA (code.length) x0.2.2.2.2.1 (12:Int))∧(nxA (code.length) x0.2.2.2.2.1 (12:Int) ≤ (1099511627776:Int))))∧((code = code)∧True))∧((inB (l14Shape_c4 code t x0) ((l14Shape_c1 t m x0).length))∧((((bytesB code)∧(((0:Int) ≤ nxA (code.length) (nxA (code.length) x0.2.2.2.2.1 (12:Int)) (↑(t.length):Int))∧(nxA (code.length) (nxA (code.length) x0.2.2.2.2.1 (12:Int)) (↑(t.length):Int) ≤ (1099511627776:Int))))∧((code = code)∧True))∧((((bytesB code)∧(((0:Int) ≤ nxA (code.length) (l14Shape_c3 code t x0) (↑(t.length):Int))∧(nxA (code.length) (l14Shape_c3 code t x0) (↑(t.length):Int) ≤ (1099511627776:Int))))∧((code = code)∧True))∧((inB (nxV code (l14Shape_c3 code t x0) (nxH (nxH x0.2.2.2.2.2 (12:Int)) (↑(t.length):Int)) (↑(t.length):Int)) (((l14Shape_c1 t m x0).getD ((l14Shape_c4 code t x0).toNat) []).length))∧((((0:Nat) = ((shF code t m a h).2).1)∧(((List.set (l14Shape_c1 t m x0) ((l14Shape_c4 code t x0).toNat) (l14Shape_c6 code t m x0)).length = ((shF code t m a h).1).length - ((shF code t m a h).2).1)∧(List.set (l14Shape_c1 t m x0) ((l14Shape_c4 code t x0).toNat) (l14Shape_c6 code t m x0) = (shF code t m a h).1)))∧(((code = code)∧((nxA (code.length) (nxA (code.length) (l14Shape_c3 code t x0) (↑(t.length):Int)) m = (((shF code t m a h).2).2).1)∧((nxH (nxH (nxH (nxH x0.2.2.2.2.2 (12:Int)) (↑(t.length):Int)) (↑(t.length):Int)) m = (((shF code t m a h).2).2).2)∧True)))∧True))))))) (BrP (nxV code x0.2.2.2.2.1 x0.2.2.2.2.2 (12:Int) == (1:Int))
 ((inB (0:Int) ((l14Shape_c1 t m x0).length))∧((((bytesB code)∧(((0:Int) ≤ nxA (code.length) x0.2.2.2.2.1 (12:Int))∧((nxA (code.length) x0.2.2.2.2.1 (12:Int) ≤ (1099511627776:Int))∧(((1:Nat) ≤ [(-1:Int), m].length)∧([(-1:Int), m].length ≤ (100:Nat))))))∧((code = code)∧True))∧((inB (0:Int) (((l14Shape_c1 t m x0).getD (0:Nat) []).length))∧((((0:Nat) = ((shF code t m a h).2).1)∧(((List.set (l14Shape_c1 t m x0) (0:Nat) (List.set ((l14Shape_c1 t m x0).getD (0:Nat) []) (0:Nat) ([(-1:Int), m].getD ((nxV code (nxA (code.length) x0.2.2.2.2.1 (12:Int)) (nxH x0.2.2.2.2.2 (12:Int)) (↑([(-1:Int), m].length):Int)).toNat) (0:Int)))).length = ((shF code t m a h).1).length - ((shF code t m a h).2).1)∧(List.set (l14Shape_c1 t m x0) (0:Nat) (List.set ((l14Shape_c1 t m x0).getD (0:Nat) []) (0:Nat) ([(-1:Int), m].getD ((nxV code (nxA (code.length) x0.2.2.2.2.1 (12:Int)) (nxH x0.2.2.2.2.2 (12:Int)) (↑([(-1:Int), m].length):Int)).toNat) (0:Int))) = (shF code t m a h).1)))∧(((code = code)∧((nxA (code.length) (nxA (code.length) x0.2.2.2.2.1 (12:Int)) (↑([(-1:Int), m].length):Int) = (((shF code t m a h).2).2).1)∧((nxH (nxH x0.2.2.2.2.2 (12:Int)) (↑([(-1:Int), m].length):Int) = (((shF code t m a h).2).2).2)∧True)))∧True))))) (BrP (nxV code x0.2.2.2.2.1 x0.2.2.2.2.2 (12:Int) == (2:Int)) ((bdsOk ((l14Shape_c1 t m x0).length) (Option.some (1:Int)) Option.none)∧((((1:Nat) = ((shF code t m a h).2).1)∧(((l14Shape_c1 t m x0).length - (1:Int).toNat = ((shF code t m a h).1).length - ((shF code t m a h).2).1) ∧
 (List.take x0.1 (l14Shape_c8 t m x0) ++ List.drop x0.1 (tabR (t.length) (cbF t m x0.2.1)) = (shF code t m a h).1)))∧(((code = code)∧((nxA (code.length) x0.2.2.2.2.1 (12:Int) = (((shF code t m a h).2).2).1)∧((nxH x0.2.2.2.2.2 (12:Int) = (((shF code t m a h).2).2).2)∧True)))∧True))) ((((0:Nat) = ((shF code t m a h).2).1)∧(((l14Shape_c1 t m x0).length = ((shF code t m a h).1).length - ((shF code t m a h).2).1)∧(List.take x0.1 (l14Shape_c8 t m x0) ++ List.drop x0.1 (tabR (t.length) (cbF t m x0.2.1)) = (shF code t m a h).1)))∧(((code = code)∧((nxA (code.length) x0.2.2.2.2.1 (12:Int) = (((shF code t m a h).2).2).1)∧((nxH x0.2.2.2.2.2 (12:Int) = (((shF code t m a h).2).2).2)∧True)))∧True))))))))
def l14Shape_V2 (code : List Int) (a : Int) (h : Int) (t : List (List Int)) (m : Int) : Prop :=
 ∀ x0 : Nat × List (List Int) × Int × Int, (((x0.1 ≤ t.length)∧(((x0.2.1).length = x0.1)∧(((0:Int) ≤ x0.2.2.1)∧((x0.2.2.1 ≤ (↑(code.length):Int))∧(shF code t m a h = shR (drwS code m (t.length) (t.length - x0.1) (x0.2.1, x0.2.2.1, x0.2.2.2))))))) → (BrP (decide ((↑x0.1:Int) < (↑(t.length):Int))) ((((bytesB code)∧(((0:Int) ≤ x0.2.2.1)∧((x0.2.2.1 ≤ (↑(code.length):Int))∧((code.length ≤ (4096:Nat))∧(((↑(t.length):Int) ≤ (1000000:Int))∧((-1000000:Int) ≤ (↑(t.length):Int)))))))∧((code = code)∧True))∧((room (x0.2.1.length + [(lsS code m ((↑(t.length):Int).toNat) ([], x0.2.2.1, x0.2.2.2)).1].length))∧((InR ((↑x0.1:Int) + (1:Int)))∧(∃ x1 : Nat × List (List Int) × Int × Int, (((x1.1 ≤ t.length)∧(((x1.2.1).length = x1.1)∧(((0:Int) ≤ x1.2.2.1)∧((x1.2.2.1 ≤ (↑(code.length):Int))∧(shF code t m a h = shR (drwS code m (t.length) (t.length - x1.1) (x1.2.1, x1.2.2.1, x1.2.2.2)))))))∧((t.length - x1.1 < t.length - x0.1)∧((m = m)∧(((↑(t.length):Int) = (↑(t.length):Int))∧(((↑x0.1:Int) + (1:Int) = (↑x1.1:Int))∧((code = code)∧((((lsS code m ((↑(t.length):Int).toNat) ([], x0.2.2.1, x0.2.2.2)).2).1 = x1.2.2.1)∧((((lsS code m ((↑(t.length):Int).toNat) ([], x0.2.2.1, x0.2.2.2)).2).2 = x1.2.2.2)∧(x0.2.1 ++ [(lsS code m ((↑(t.length):Int).toNat) ([], x0.2.2.1, x0.2.2.2)).1] = x1.2.1))))))))))))) ((((0:Nat) = ((shF code t m a h).2).1)∧((x0.2.1.length = ((shF code t m a h).1).length - ((shF code t m a h).2).1)∧(x0.2.1 = (shF code t m a h).1)))∧(((code = code)∧((x0.2.2.1 = (((shF code t m a h).2).2).1) ∧
 ((x0.2.2.2 = (((shF code t m a h).2).2).2)∧True)))∧True))))
def l14Shape_V3 (code : List Int) (a : Int) (h : Int) (t : List (List Int)) (m : Int) : Prop :=
 ∃ x0 : Nat × List (List Int) × Int × Int, (((x0.1 ≤ t.length)∧(((x0.2.1).length = x0.1)∧(((0:Int) ≤ x0.2.2.1)∧((x0.2.2.1 ≤ (↑(code.length):Int))∧(shF code t m a h = shR (drwS code m (t.length) (t.length - x0.1) (x0.2.1, x0.2.2.1, x0.2.2.2)))))))∧((m = m)∧(((↑(t.length):Int) = (↑(t.length):Int))∧(((0:Int) = (↑x0.1:Int))∧((code = code)∧((a = x0.2.2.1)∧((h = x0.2.2.2)∧([] = x0.2.1))))))))
def l14Shape_c9 (code : List Int) (a : Int) (h : Int) (t : List (List Int)) (m : Int) := (lsS code m (((↑(t.length):Int) * (↑(t.length):Int)).toNat) ([], ((lsS code m ((↑(t.length):Int).toNat) ([], nxA (code.length) a (5:Int), nxH h (5:Int))).2).1, ((lsS code m ((↑(t.length):Int).toNat) ([], nxA (code.length) a (5:Int), nxH h (5:Int))).2).2))
def l14Shape_c10 (code : List Int) (a : Int) (h : Int) (t : List (List Int)) (m : Int) := (lsS code m ((↑(t.length):Int).toNat) ([], nxA (code.length) a (5:Int), nxH h (5:Int)))
def l14Shape_V (code : List Int) (a : Int) (h : Int) (t : List (List Int)) (m : Int) : Prop :=
 (((roomR t)∧True)∧(BrP (!tabB t) ((l14Shape_V3 code a h t m)∧(l14Shape_V2 code a h t m)) ((True∧True)∧(BrP (!decide ((1:Int) ≤ m ∧ m ≤ (12:Int))) ((l14Shape_V3 code a h t m)∧(l14Shape_V2 code a h t m)) ((((bytesB code)∧(((0:Int) ≤ a)∧(a ≤ (1099511627776:Int))))∧((code = code)∧True))∧(BrP (nxV code a h (5:Int) == (0:Int)) ((∃ x6 : Nat × List (List Int) × Int × Int, (((x6.1 ≤ t.length)∧(((x6.2.1).length = x6.1)∧(((0:Int) ≤ x6.2.2.1)∧((x6.2.2.1 ≤ (↑(code.length):Int))∧(shF code t m a h = shR (drwS code m (t.length) (t.length - x6.1) (x6.2.1, x6.2.2.1, x6.2.2.2)))))))∧((m = m)∧(((↑(t.length):Int) = (↑(t.length):Int))∧(((0:Int) = (↑x6.1:Int))∧((code = code)∧((nxA (code.length) a (5:Int) = x6.2.2.1)∧((nxH h (5:Int) = x6.2.2.2)∧([] = x6.2.1)))))))))∧(l14Shape_V2 code a h t m)) ((((bytesB code)∧(((0:Int) ≤ nxA (code.length) a (5:Int))∧((nxA (code.length) a (5:Int) ≤ (↑(code.length):Int))∧((code.length ≤ (4096:Nat))∧(((↑(t.length):Int) ≤ (1000000:Int))∧((-1000000:Int) ≤ (↑(t.length):Int)))))))∧((code = code)∧True))∧((((tabB t = true)∧(shiftB (↑(t.length):Int) m ((l14Shape_c10 code a h t m).1) = true))∧True)∧(((tabB t = true)∧True)∧(BrP (List.all t permB) ((((tabB t = true)∧((↑(t.length):Int) = (↑(t.length):Int)))∧True)∧((InR ((↑(t.length):Int) * (↑(t.length):Int)))∧((((bytesB code)∧(((0:Int) ≤ ((l14Shape_c10 code a h t m).2).1)∧((((l14Shape_c10 code a h t m).2).1 ≤ (↑(code.length):Int))∧((code.length ≤ (4096:Nat))∧(((↑(t.length):Int) * (↑(t.length):Int) ≤ (1000000:Int)) ∧
 ((-1000000:Int) ≤ (↑(t.length):Int) * (↑(t.length):Int)))))))∧((code = code)∧True))∧((∃ x9 : Nat × List Int × List Int × List Int × Int × Int, (((x9.1 ≤ t.length)∧((tabB t = true)∧((shiftB (↑(t.length):Int) m (x9.2.1) = true)∧((lbOk (t.length) (x9.2.2.1))∧((shiftB (↑(t.length * t.length):Int) m (x9.2.2.2.1) = true)∧(((0:Int) ≤ x9.2.2.2.2.1)∧((x9.2.2.2.2.1 ≤ (↑(code.length):Int))∧(shF code t m a h = shE code (↑(t.length):Int) m (tabR (t.length) (shW t m (x9.2.1) (x9.2.2.1) (x9.2.2.2.1)), x9.2.2.2.2.1, x9.2.2.2.2.2)))))))))∧((m = m)∧(((↑(t.length):Int) = (↑(t.length):Int))∧(((0:Int) = (↑x9.1:Int))∧((code = code)∧((((l14Shape_c9 code a h t m).2).1 = x9.2.2.2.2.1)∧((((l14Shape_c9 code a h t m).2).2 = x9.2.2.2.2.2)∧((tabR (t.length) (cbF t m ((l14Shape_c10 code a h t m).1)) = List.take x9.1 (tabR (t.length) (shW t m x9.2.1 x9.2.2.1 x9.2.2.2.1)) ++ List.drop x9.1 (tabR (t.length) (cbF t m x9.2.1)))∧(((obN t (t.length)).1 = x9.2.2.1)∧((l14Shape_c9 code a h t m).1 = x9.2.2.2.1)))))))))))∧(l14Shape_V1 code a h t m))))) ((InR ((↑(t.length):Int) * (↑(t.length):Int)))∧((((bytesB code)∧(((0:Int) ≤ ((l14Shape_c10 code a h t m).2).1)∧((((l14Shape_c10 code a h t m).2).1 ≤ (↑(code.length):Int))∧((code.length ≤ (4096:Nat))∧(((↑(t.length):Int) * (↑(t.length):Int) ≤ (1000000:Int))∧((-1000000:Int) ≤ (↑(t.length):Int) * (↑(t.length):Int)))))))∧((code = code)∧True))∧((∃ x16 : Nat × List Int × List Int × List Int × Int × Int, (((x16.1 ≤ t.length)∧((tabB t = true) ∧
 ((shiftB (↑(t.length):Int) m (x16.2.1) = true)∧((lbOk (t.length) (x16.2.2.1))∧((shiftB (↑(t.length * t.length):Int) m (x16.2.2.2.1) = true)∧(((0:Int) ≤ x16.2.2.2.2.1)∧((x16.2.2.2.2.1 ≤ (↑(code.length):Int))∧(shF code t m a h = shE code (↑(t.length):Int) m (tabR (t.length) (shW t m (x16.2.1) (x16.2.2.1) (x16.2.2.2.1)), x16.2.2.2.2.1, x16.2.2.2.2.2)))))))))∧((m = m)∧(((↑(t.length):Int) = (↑(t.length):Int))∧(((0:Int) = (↑x16.1:Int))∧((code = code)∧((((l14Shape_c9 code a h t m).2).1 = x16.2.2.2.2.1)∧((((l14Shape_c9 code a h t m).2).2 = x16.2.2.2.2.2)∧((tabR (t.length) (cbF t m ((l14Shape_c10 code a h t m).1)) = List.take x16.1 (tabR (t.length) (shW t m x16.2.1 x16.2.2.1 x16.2.2.2.1)) ++ List.drop x16.1 (tabR (t.length) (cbF t m x16.2.1)))∧(([] = x16.2.2.1)∧((l14Shape_c9 code a h t m).1 = x16.2.2.2.1)))))))))))∧(l14Shape_V1 code a h t m))))))))))))))
theorem l14Shape_vc (code : List Int) (a : Int) (h : Int) (t : List (List Int)) (m : Int) : runF Tryz.prog (gam l14Shape_G) noWr (l14Shape_ann code a h t m) Tryz.f25 (bodyOf Tryz.f25) [(0, 0)] [.box [.ints .u8 (code), .int .i64 (a), .int .u64 (h)], .c (.rows .i64 (t)), .c (.int .i64 (m))] (l14Shape_p code a h t m) = l14Shape_V code a h t m := by kernel_rfl
set_option maxHeartbeats 1000000 in
theorem l14Shape_ok (code : List Int) (a : Int) (h : Int) (t : List (List Int)) (m : Int) (hpre : (l14Shape_p code a h t m).pre) : l14Shape_V code a h t m := by
  simp only [l14Shape_p, l14Shape_V, l14Shape_V3, l14Shape_V2, l14Shape_V1, l14Shape_c1, l14Shape_c2, l14Shape_c3, l14Shape_c4, l14Shape_c5, l14Shape_c6, l14Shape_c7, l14Shape_c8, l14Shape_c9, l14Shape_c10, BrP_iff, u1, u2, u3, u4, u5, u6, u7, u8, u9, v1, v2, v3, v4, v5, v6, v7, v8, v9, w1, w2, w3, w4, markL_length, inB, InR, room, bdsOk] at hpre ⊢
  obtain ⟨hb, hc, h0, h1, hn, hr, m1, m2⟩ := hpre
  refine (fun w => ⟨hr, fun ht => ⟨⟨(0, [], a, h), ?_⟩, w⟩, fun ht => ⟨fun hm => ⟨⟨(0, [], a, h), ?_⟩, w⟩, fun hm => ⟨⟨hb, h0, by omega⟩, fun z => ⟨⟨(0, [], nxA code.length a 5, nxH h 5), ?_⟩, w⟩, fun z => ?_⟩⟩⟩) ?_
  · rintro ⟨i, l, b, g⟩ ⟨q1, q2, q3, q4, q5⟩
    dsimp only at q1 q2 q3 q4 q5 ⊢
    have D := drL_len (code := code) (m := m) t.length ([], b, g) q3 q4
    refine ⟨fun hl => ⟨⟨hb, q3, q4, hc, by omega, by omega⟩, by omega, by omega, (i + 1, l ++ [(lsS code m t.length ([], b, g)).1], (lsS code m t.length ([], b, g)).2.1, (lsS code m t.length ([], b, g)).2.2), ?_⟩, fun hl => ?_⟩
    · dsimp only
      refine ⟨⟨by omega, by rw [List.length_append]; show l.length + 1 = _; omega, D.2.1, D.2.2, ?_⟩, by omega, by omega, rfl, rfl, rfl⟩
      rw [q5, show t.length - i = (t.length - (i + 1)) + 1 by omega]; rfl
    · rw [q5, show t.length - i = 0 by omega]; exact ⟨⟨rfl, rfl, rfl⟩, rfl, rfl⟩
  · exact ⟨⟨Nat.zero_le _, rfl, h0, h1, by rw [shF, if_neg (by simp [ht])]; rfl⟩, rfl, rfl, rfl, rfl⟩
  · exact ⟨⟨Nat.zero_le _, rfl, h0, h1, by rw [shF, if_neg (fun e => hm e.2)]; rfl⟩, rfl, rfl, rfl, rfl⟩
  · have s := nxA_in (n := 5) h0 h1
    exact ⟨⟨Nat.zero_le _, rfl, s.1, s.2, by rw [shF, if_pos ⟨ht, hm⟩, if_pos z]; rfl⟩, rfl, rfl, rfl, rfl⟩
  have s := nxA_in (n := 5) h0 h1
  have hF : shF code t m a h = shE code t.length m (shB code t m (nxA code.length a 5) (nxH h 5)) := by rw [shF, if_pos ⟨ht, hm⟩, if_neg z]
  obtain ⟨n1, n2, tt⟩ := tabB_of ht
  have sq := sq_le n2
  have G := drL_len (code := code) (m := m) t.length ([], nxA code.length a 5, nxH h 5) s.1 s.2
  have G2 := drL_in hb hm.1 t.length ([], nxA code.length a 5, nxH h 5) (fun x hx => (List.not_mem_nil hx).elim)
  have hG : shiftB (t.length : Int) m (lsS code m t.length ([], nxA code.length a 5, nxH h 5)).1 = true := sh_mk hm (by rw [G.1]; simp) G2
  have W := drL_len (code := code) (m := m) (t.length * t.length) ([], (lsS code m t.length ([], nxA code.length a 5, nxH h 5)).2) G.2.1 G.2.2
  have W2 := drL_in hb hm.1 (t.length * t.length) ([], (lsS code m t.length ([], nxA code.length a 5, nxH h 5)).2) (fun x hx => (List.not_mem_nil hx).elim)
  have hW : shiftB ((t.length * t.length : Nat) : Int) m (lsS code m (t.length * t.length) ([], (lsS code m t.length ([], nxA code.length a 5, nxH h 5)).2)).1 = true := sh_mk hm (by rw [W.1]; simp) W2
  have L := shL_ok ht
  have sb : shB code t m (nxA code.length a 5) (nxH h 5) = (tabR t.length (shW t m (lsS code m t.length ([], nxA code.length a 5, nxH h 5)).1 (shL t) (lsS code m (t.length * t.length) ([], (lsS code m t.length ([], nxA code.length a 5, nxH h 5)).2)).1), (lsS code m (t.length * t.length) ([], (lsS code m t.length ([], nxA code.length a 5, nxH h 5)).2)).2) := rfl
  have e : ((t.length : Int) * (t.length : Int)) = ((t.length * t.length : Nat) : Int) := by simp
  simp only [e, Int.toNat_natCast]
  refine (fun wk => ⟨⟨hb, s.1, s.2, hc, by omega, by omega⟩, ⟨ht, hG⟩, ht, fun pz => ⟨ht, ⟨by omega, by omega⟩, ⟨hb, G.2.1, G.2.2, hc, by omega, by omega⟩, ⟨(0, (lsS code m t.length ([], nxA code.length a 5, nxH h 5)).1, (obN t t.length).1, (lsS code m (t.length * t.length) ([], (lsS code m t.length ([], nxA code.length a 5, nxH h 5)).2)).1, (lsS code m (t.length * t.length) ([], (lsS code m t.length ([], nxA code.length a 5, nxH h 5)).2)).2), ?_⟩, wk⟩, fun pz => ⟨⟨by omega, by omega⟩, ⟨hb, G.2.1, G.2.2, hc, by omega, by omega⟩, ⟨(0, (lsS code m t.length ([], nxA code.length a 5, nxH h 5)).1, [], (lsS code m (t.length * t.length) ([], (lsS code m t.length ([], nxA code.length a 5, nxH h 5)).2)).1, (lsS code m (t.length * t.length) ([], (lsS code m t.length ([], nxA code.length a 5, nxH h 5)).2)).2), ?_⟩, wk⟩⟩) ?_
  · rintro ⟨x, g, lb, w, b, k⟩ ⟨q1, _, hg, hlb, hw, q3, q4, q5⟩
    dsimp only at q1 hg hlb hw q3 q4 q5 ⊢
    have g' := shiftB_of hg
    have w' := shiftB_of hw
    have hW : (tabR t.length (shW t m g lb w)).length = t.length := tabR_length _ _
    have hC : (tabR t.length (cbF t m g)).length = t.length := tabR_length _ _
    have hl : ((tabR t.length (shW t m g lb w)).take x).length = x := by rw [List.length_take]; omega
    have r1 : (tab t.length (shW t m g lb w x)).length = t.length := tab_length _ _
    have r2 : (tab t.length (cbF t m g x)).length = t.length := tab_length _ _
    refine ⟨fun h1 => ⟨by omega, ⟨0, ⟨Nat.zero_le _, by omega⟩, rfl, ?_⟩, fun y ⟨hy, _⟩ => ⟨fun h2 => ⟨fun h3 => ?_, fun h3 => ?_⟩, fun h2 => ?_⟩⟩, fun h1 => ?_⟩
    · rw [drop_cons' (tabR t.length (cbF t m g)) [] x (by omega), tabR_getD _ _ _ (by omega)]; rfl
    · rw [at_getD _ _ _ _ _ hl, at_set _ _ _ _ _ hl]
      have hx : x < t.length := by omega
      have hy : y < t.length := by omega
      have rl : (List.take y (tab t.length (shW t m g lb w x)) ++ List.drop y (tab t.length (cbF t m g x))).length = t.length := by
        rw [List.length_append, List.length_take, List.length_drop]; omega
      have rg := mix_get (tab t.length (shW t m g lb w x)) (tab t.length (cbF t m g x)) y (by omega) (by omega)
      rw [tab_getD _ _ _ hy] at rg
      have cb := cb_in ht hg x y hx hy
      have cv : 0 ≤ cbF t m g x y ∧ cbF t m g x y ≤ m - 1 := tmod_in (by omega) (by omega)
      have lq : lb.length = t.length ∧ ∀ q, q < t.length → 0 ≤ lb.getD q 0 ∧ lb.getD q 0 ≤ (t.length : Int) - 1 := by
        rcases hlb with e | e
        · rw [e] at h3; simp at h3
        · exact e
      have lx := lq.2 x hx
      have ly := lq.2 y hy
      have p1 := Int.mul_nonneg lx.1 (show (0 : Int) ≤ (t.length : Int) by omega)
      have p2 := Int.mul_le_mul_of_nonneg_right lx.2 (show (0 : Int) ≤ (t.length : Int) by omega)
      rw [Int.sub_mul, e, Int.one_mul] at p2
      have wl := w'.2.2.1
      have wv := w'.2.2.2 (lb.getD x 0 * (t.length : Int) + lb.getD y 0).toNat (by omega)
      have st := mix_set (tab t.length (shW t m g lb w x)) (tab t.length (cbF t m g x)) y (by omega) (by omega)
      rw [tab_getD _ _ _ hy] at st
      rw [rg]
      have sv : shW t m g lb w x y = (cbF t m g x y + w.getD (lb.getD x 0 * (t.length : Int) + lb.getD y 0).toNat 0).tmod m := by rw [shW, if_pos (by omega)]
      rw [← sv, st, rl]
      exact ⟨by omega, by omega, by omega, by omega, by omega, by omega, by omega, by omega, by omega, by omega, y + 1, ⟨by omega, hx⟩, by omega, by omega, rfl⟩
    · have hy : y < t.length := by omega
      refine ⟨by omega, y + 1, ⟨by omega, by omega⟩, by omega, by omega, ?_⟩
      rw [← take_snoc (tab t.length (shW t m g lb w x)) 0 y (by omega), tab_getD _ _ _ hy, shW, if_neg (by omega), drop_cons' (tab t.length (cbF t m g x)) 0 y (by omega), tab_getD _ _ _ hy, List.append_assoc]; rfl
    · refine ⟨by omega, (x + 1, g, lb, w, b, k), ?_⟩
      dsimp only
      refine ⟨⟨by omega, ht, hg, hlb, hw, q3, q4, q5⟩, by omega, by omega, rfl, rfl, ?_, rfl, rfl⟩
      rw [← take_snoc (tabR t.length (shW t m g lb w)) [] x (by omega), tabR_getD _ _ _ (by omega), show (tab t.length (shW t m g lb w x)).take y = tab t.length (shW t m g lb w x) from List.take_of_length_le (by omega), show (tab t.length (cbF t m g x)).drop y = [] from List.drop_of_length_le (by omega), List.append_nil, List.append_assoc]; rfl
    · have eF : List.take x (tabR t.length (shW t m g lb w)) ++ List.drop x (tabR t.length (cbF t m g)) = tabR t.length (shW t m g lb w) := by
        rw [List.take_of_length_le (by omega), List.drop_of_length_le (by omega), List.append_nil]
      simp only [eF]
      have v1 := nxV_in hb (nxA code.length b 12) (nxH k 12) (n := (t.length : Int)) (by omega)
      have s1 := nxA_in (n := 12) q3 q4
      have s2 := nxA_in (n := (t.length : Int)) s1.1 s1.2
      have s3 := nxA_in (n := (t.length : Int)) s2.1 s2.2
      have v2 := nxV_in hb (nxA code.length (nxA code.length b 12) (t.length : Int)) (nxH (nxH k 12) (t.length : Int)) (n := (t.length : Int)) (by omega)
      have rw0 : ∀ i, i < t.length → ((tabR t.length (shW t m g lb w)).getD i []).length = t.length := fun i hi => by rw [tabR_getD _ _ _ hi, tab_length]
      refine ⟨⟨hb, q3, by omega⟩, fun z => ?_, fun z => ⟨fun z1 => ?_, fun z1 => ⟨fun z2 => ?_, fun z2 => ?_⟩⟩⟩
      · rw [q5, shE0 z]
        have r0 := rw0 (nxV code (nxA code.length b 12) (nxH k 12) (t.length : Int)).toNat (by omega)
        exact ⟨⟨hb, s1.1, by omega⟩, by omega, ⟨hb, s2.1, by omega⟩, ⟨hb, s3.1, by omega⟩, by omega, ⟨rfl, by dsimp only; rw [List.length_set]; omega, rfl⟩, rfl, rfl⟩
      · rw [q5, shE1 z z1]
        have r0 := rw0 0 (by omega)
        exact ⟨by omega, ⟨hb, s1.1, by omega, by omega, by omega⟩, by omega, ⟨rfl, by dsimp only; rw [List.length_set]; omega, rfl⟩, rfl, rfl⟩
      · rw [q5, shE2 z z1 z2]
        exact ⟨by omega, ⟨rfl, by dsimp only; omega, rfl⟩, rfl, rfl⟩
      · rw [q5, shE3 z z1 z2]
        exact ⟨⟨rfl, by dsimp only; omega, rfl⟩, rfl, rfl⟩
  · have eL : shL t = (obN t t.length).1 := if_pos pz
    exact ⟨⟨Nat.zero_le _, ht, hG, eL ▸ L, hW, W.2.1, W.2.2, by rw [hF, sb, eL]⟩, rfl, rfl, rfl, rfl, rfl, rfl⟩
  · have eL : shL t = [] := if_neg (by simp [pz])
    exact ⟨⟨Nat.zero_le _, ht, hG, .inl rfl, hW, W.2.1, W.2.2, by rw [hF, sb, eL]⟩, rfl, rfl, rfl, rfl, rfl, rfl⟩
theorem l14Shape_fits : Fits Tryz.prog 25 ⟨[(0, 0)], l14Shape_ct⟩ := by
  refine ffn (Γ := gam l14Shape_G) (gok_cons l01Next_fits (gok_cons l01Pick_fits (gok_cons l01Table_fits (gok_cons l01In_fits (gok_cons l14DrawList_fits (gok_cons l14Bound_fits (gok_cons l01Rows_fits (gok_cons l01Orbits_fits gok_nil)))))))) Tryz.func25 fun ds p h hp => ?_
  unfold l14Shape_ct at h
  split at h
  · cases h
    exact ⟨noWr, l14Shape_ann _ _ _ _ _ , by rw [l14Shape_vc]; exact l14Shape_ok _ _ _ _ _  hp⟩
  · cases h
theorem drwS_ok {code : List Int} {m : Int} {n : Nat} : ∀ (j : Nat) (s : Ds), (∀ r ∈ s.1, r.length ≤ 12) → n ≤ 12 → 0 ≤ s.2.1 → s.2.1 ≤ (code.length : Int) → (drwS code m n j s).1.length = s.1.length + j ∧ ∀ r ∈ (drwS code m n j s).1, r.length ≤ 12
  | 0, s, h, _, _, _ => ⟨rfl, h⟩
  | j + 1, s, h, hn, h0, h1 => by
    have D := drL_len (code := code) (m := m) n ([], s.2.1, s.2.2) h0 h1
    have := drwS_ok (code := code) (m := m) (n := n) j (s.1 ++ [(lsS code m n ([], s.2.1, s.2.2)).1], (lsS code m n ([], s.2.1, s.2.2)).2) (fun r hr => by
      rcases List.mem_append.1 hr with hr | hr
      · exact h r hr
      · rw [List.mem_singleton.1 hr, D.1]; show 0 + n ≤ 12; omega) hn D.2.1 D.2.2
    rw [List.length_append] at this
    refine ⟨?_, this.2⟩
    have e := this.1
    show (drwS code m n j _).1.length = _
    rw [e]; show s.1.length + 1 + j = _; omega
theorem set_rows {F : List (List Int)} {i j : Nat} {v : Int} (h : ∀ r ∈ F, r.length ≤ 12) : ∀ r ∈ F.set i ((F.getD i []).set j v), r.length ≤ 12 := fun r hr => by
  rcases List.mem_or_eq_of_mem_set hr with hr | rfl
  · exact h r hr
  · rw [List.length_set]
    by_cases e : i < F.length
    · rw [getD_lt F [] i e]; exact h _ (List.getElem_mem e)
    · rw [List.getD_eq_getElem?_getD, List.getElem?_eq_none (by omega)]; simp
theorem shE_ok {code : List Int} {n m b k : Int} {F : List (List Int)} (h : ∀ r ∈ F, r.length ≤ 12) (hl : F.length ≤ 12) : (shE code n m (F, b, k)).1.length ≤ 12 ∧ ∀ r ∈ (shE code n m (F, b, k)).1, r.length ≤ 12 := by
  by_cases z : nxV code b k 12 = 0
  · rw [shE0 z]; exact ⟨by rw [List.length_set]; exact hl, set_rows h⟩
  · by_cases z1 : nxV code b k 12 = 1
    · rw [shE1 z z1]; exact ⟨by rw [List.length_set]; exact hl, set_rows h⟩
    · by_cases z2 : nxV code b k 12 = 2
      · rw [shE2 z z1 z2]; exact ⟨hl, h⟩
      · rw [shE3 z z1 z2]; exact ⟨hl, h⟩
theorem shF_ok {code : List Int} {t : List (List Int)} {m a h : Int} (hn : t.length ≤ 12) (h0 : 0 ≤ a) (h1 : a ≤ (code.length : Int)) : (shF code t m a h).1.length ≤ 12 ∧ ∀ r ∈ (shF code t m a h).1, r.length ≤ 12 := by
  have s := nxA_in (n := 5) h0 h1
  unfold shF
  split
  · split
    · have D := drwS_ok (code := code) (m := m) (n := t.length) t.length ([], nxA code.length a 5, nxH h 5) (fun r hr => (List.not_mem_nil hr).elim) hn s.1 s.2
      exact ⟨by show (drwS _ _ _ _ _).1.length ≤ 12; rw [D.1]; show 0 + t.length ≤ 12; omega, D.2⟩
    · refine shE_ok (fun r hr => ?_) (by rw [tabR_length]; exact hn)
      simp only [tabR, List.mem_map] at hr
      obtain ⟨i, _, rfl⟩ := hr
      rw [tab_length]; exact hn
  · have D := drwS_ok (code := code) (m := m) (n := t.length) t.length ([], a, h) (fun r hr => (List.not_mem_nil hr).elim) hn h0 h1
    exact ⟨by show (drwS _ _ _ _ _).1.length ≤ 12; rw [D.1]; show 0 + t.length ≤ 12; omega, D.2⟩
def likeRows5_p (a : List (List Int)) (b : List (List Int)) : Post := ⟨roomR a, .c (.bool (decide (a = b))), []⟩
def likeRows5_ct : List AD → Option Post
  | [.c (.rows .i64 (a)), .c (.rows .i64 (b))] => some (likeRows5_p a b)
  | _ => none
def likeRows5_ann (a : List (List Int)) (b : List (List Int)) : Nat → Option Ann
  | 0 => some (Ann.mk ((Nat)) (fun i => ⟨[(0, .c (.ro (.rows .i64 (a)))), (1, .c (.ro (.rows .i64 (b)))), (5, .c (.int .i64 ((i : Int))))], []⟩) (fun i => i ≤ a.length ∧ a.length = b.length ∧ a.take i = b.take i) (fun i => a.length - i) (fun _ => noAnn))
  | _ => none
def likeRows5_G : List (Nat × Ctr) := [(49, ⟨[], likeInts_ct⟩)]
def likeRows5_V (a : List (List Int)) (b : List (List Int)) : Prop :=
 (BrP ((↑(a.length):Int) != (↑(b.length):Int)) ((false = decide (a = b))∧True) ((∃ x0 : Nat, (((x0 ≤ a.length)∧((a.length = b.length)∧(List.take x0 a = List.take x0 b)))∧((a = a)∧((b = b)∧((0:Int) = (↑x0:Int))))))∧(∀ x1 : Nat, (((x1 ≤ a.length)∧((a.length = b.length)∧(List.take x1 a = List.take x1 b))) → (BrP (decide ((↑x1:Int) < (↑(a.length):Int))) ((inB (↑x1:Int) (a.length))∧((inB (↑x1:Int) (b.length))∧(((room ((a.getD ((↑x1:Int).toNat) []).length))∧True)∧(BrP (!decide (a.getD ((↑x1:Int).toNat) [] = b.getD ((↑x1:Int).toNat) [])) ((false = decide (a = b))∧True) ((InR ((↑x1:Int) + (1:Int)))∧(∃ x2 : Nat, (((x2 ≤ a.length)∧((a.length = b.length)∧(List.take x2 a = List.take x2 b)))∧((a.length - x2 < a.length - x1)∧((a = a)∧((b = b)∧((↑x1:Int) + (1:Int) = (↑x2:Int)))))))))))) ((true = decide (a = b))∧True))))))
theorem likeRows5_vc (a : List (List Int)) (b : List (List Int)) : runF Tryz.prog (gam likeRows5_G) noWr (likeRows5_ann a b) Tryz.f16 (bodyOf Tryz.f16) [] [.c (.rows .i64 (a)), .c (.rows .i64 (b))] (likeRows5_p a b) = likeRows5_V a b := by kernel_rfl
theorem likeRows5_ok (a : List (List Int)) (b : List (List Int)) (hpre : (likeRows5_p a b).pre) : likeRows5_V a b := by
  simp only [likeRows5_p, likeRows5_V, BrP_iff, u1, u2, u3, u4, u5, u6, u7, u8, u9, v1, v2, v3, v4, v5, v6, v7, v8, v9, w1, w2, w3, w4, markL_length, inB, InR, room, bdsOk] at hpre ⊢
  have h0 := hpre.1
  refine ⟨fun h => ?_, fun h => ⟨⟨0, ⟨by omega, by omega, rfl⟩, by simp⟩, fun i hi => ⟨fun h1 => ⟨by omega, by omega, roomR_get hpre i (by omega), fun h2 => ?_, fun h2 => ⟨by omega, i + 1, ⟨by omega, hi.2.1, ?_⟩, by omega, by omega⟩⟩, fun h1 => ?_⟩⟩⟩
  · exact (decide_eq_false fun e => h (by rw [e])).symm
  · exact (decide_eq_false fun e => h2 (by rw [e])).symm
  · exact (take_eq_step a b [] i (by omega) (by omega) hi.2.2).2 h2
  · refine (decide_eq_true ?_).symm
    have := hi.2.2
    rwa [List.take_of_length_le (by omega), List.take_of_length_le (by omega)] at this
theorem likeRows5_fits : Fits Tryz.prog 16 ⟨[], likeRows5_ct⟩ := by
  refine ffn (Γ := gam likeRows5_G) (gok_cons likeInts_fits gok_nil) Tryz.func16 fun ds p h hp => ?_
  unfold likeRows5_ct at h
  split at h
  · cases h
    exact ⟨noWr, likeRows5_ann _ _ , by rw [likeRows5_vc]; exact likeRows5_ok _ _  hp⟩
  · cases h
def zY (code : List Int) : Dy := drY code 0 (frH code code.length) 6
theorem zY_ok {code : List Int} (hb : bytesB code) : okY code (zY code) := drY_ok hb (by omega) (by omega) (by omega) (by omega)
def zN (code : List Int) : Nat := (zY code).1.length - (zY code).2.1
def zT (code : List Int) : List (List Int) := yT (zY code)
def zP (code : List Int) : Int × Int × Int := primeD code (zY code).2.2.1 (zY code).2.2.2
def zS (code : List Int) : Dy := shF code (zT code) (zP code).1 (nxA code.length (zP code).2.1 3) (nxH (zP code).2.2 3)
def zC (code : List Int) : List Int :=
  if rackB (zT code) = true ∧ primeB (zP code).1 = true then
    (if nxV code (zP code).2.1 (zP code).2.2 3 = 0 then (chainD code (nxA code.length (zP code).2.1 3) (nxH (zP code).2.2 3) (zN code : Int) (zP code).1 2).1 else (yT (zS code)).flatten)
  else (chainD code (zP code).2.1 (zP code).2.2 (zN code : Int) (zP code).1 2).1
theorem zS_ok {code : List Int} (hb : bytesB code) : (yT (zS code)).length ≤ 12 ∧ ∀ r ∈ yT (zS code), r.length ≤ 12 := by
  obtain ⟨k1, k2, k3, k4, k5, k6⟩ := zY_ok hb
  have P : 0 ≤ (zP code).2.1 ∧ (zP code).2.1 ≤ (code.length : Int) := primeD_in (h := (zY code).2.2.2) k5 k6
  have s := nxA_in (n := 3) P.1 P.2
  have T := yT_length (zY code)
  have S := shF_ok (code := code) (t := zT code) (m := (zP code).1) (a := nxA code.length (zP code).2.1 3) (h := nxH (zP code).2.2 3) (by unfold zT; omega) s.1 s.2
  have e : shF code (zT code) (zP code).1 (nxA code.length (zP code).2.1 3) (nxH (zP code).2.2 3) = zS code := rfl
  rw [e] at S
  exact ⟨by rw [yT_length]; omega, fun r hr => S.2 r (List.mem_of_mem_drop (List.mem_of_mem_take hr))⟩
theorem flat_le {l : List (List Int)} (h : ∀ r ∈ l, r.length ≤ 12) (i : Nat) : (l.take i).flatten.length ≤ 12 * l.length := by
  have g : ∀ l : List (List Int), (∀ r ∈ l, r.length ≤ 12) → l.flatten.length ≤ 12 * l.length := fun l => by
    induction l with
    | nil => intro _; simp
    | cons r l ih =>
      intro h
      have a := h r (by simp)
      have b := ih fun r hr => h r (by simp [hr])
      rw [List.flatten_cons, List.length_append, List.length_cons]; omega
  have := g (l.take i) fun r hr => h r (List.mem_of_mem_take hr)
  rw [List.length_take] at this
  omega
def DrawIsCoc_p (code : List Int) : Post := ⟨bytesB code ∧ code.length ≤ 4096, .tup [.inr [.ro (.rows .i64 (zT code))], .inl (.int .i64 ((zP code).1)), .inl (.ints 2 .i64 (zC code))], []⟩
def DrawIsCoc_ct : List AD → Option Post
  | [.c (.ints .u8 (code))] => some (DrawIsCoc_p code)
  | _ => none
def DrawIsCoc_ann (code : List Int) : Nat → Option Ann
  | 0 => some (Ann.mk ((Nat)) (fun i => ⟨[(2, .c (.ptr 2 0)), (6, .c (.ptr 6 0)), (8, .c (.int .i64 ((zP code).1))), (9, .c (.ro (.rows .i64 (yT (zS code))))), (10, .c (.own (45))), (11, .c (.int .i64 ((i : Int))))], [(2, some (.box [.nil])), (6, some (.box [.ro (.rows .i64 (zT code))])), (45, some (.ints 2 .i64 (((yT (zS code)).take i).flatten)))]⟩) (fun i => i ≤ (yT (zS code)).length ∧ zC code = (yT (zS code)).flatten) (fun i => (yT (zS code)).length - i) (fun _ => noAnn))
  | _ => none
def DrawIsCoc_G : List (Nat × Ctr) := [(18, ⟨[], l01From_ct⟩), (19, ⟨[(0, 0)], l03DrawAny_ct⟩), (20, ⟨[(0, 0)], l15DrawPrime_ct⟩), (21, ⟨[], l03Is_ct⟩), (22, ⟨[], l15Prime_ct⟩), (23, ⟨[(0, 0)], l01Next_ct⟩), (24, ⟨[(0, 0)], l15DrawChain_ct⟩), (25, ⟨[(0, 0)], l14Shape_ct⟩)]
def DrawIsCoc_V (code : List Int) : Prop :=
 ((((bytesB code)∧(code.length ≤ (4096:Nat)))∧True)∧((((bytesB code)∧((code.length ≤ (4096:Nat))∧(((0:Int) ≤ (0:Int))∧(((0:Int) ≤ (↑(code.length):Int))∧(((1:Int) ≤ (6:Int))∧((6:Int) ≤ (6:Int)))))))∧((code = code)∧True))∧((((bytesB code)∧(((0:Int) ≤ (((zY code).2).2).1)∧(((((zY code).2).2).1 ≤ (↑(code.length):Int))∧(code.length ≤ (4096:Nat)))))∧((code = code)∧True))∧(((roomR (zT code))∧True)∧(BrP (!rackB (zT code)) ((((bytesB code)∧(((0:Int) ≤ ((zP code).2).1)∧((((zP code).2).1 ≤ (↑(code.length):Int))∧((code.length ≤ (4096:Nat))∧(((0:Int) ≤ (↑(zN code):Int))∧((↑(zN code):Int) ≤ (12:Int)))))))∧((code = code)∧True))∧((((List.take (zN code) (List.drop (((zY code).2).1) ((zY code).1)) = zT code)∧True)∧(((zP code).1 = (zP code).1)∧(((chainD code (((zP code).2).1) (((zP code).2).2) (↑(zN code):Int) ((zP code).1) (2:Int)).1 = zC code)∧True)))∧True)) ((True∧True)∧(BrP (!primeB ((zP code).1)) ((((bytesB code)∧(((0:Int) ≤ ((zP code).2).1)∧((((zP code).2).1 ≤ (↑(code.length):Int))∧((code.length ≤ (4096:Nat))∧(((0:Int) ≤ (↑(zN code):Int))∧((↑(zN code):Int) ≤ (12:Int)))))))∧((code = code)∧True))∧((((List.take (zN code) (List.drop (((zY code).2).1) ((zY code).1)) = zT code)∧True)∧(((zP code).1 = (zP code).1)∧(((chainD code (((zP code).2).1) (((zP code).2).2) (↑(zN code):Int) ((zP code).1) (2:Int)).1 = zC code)∧True)))∧True)) ((((bytesB code)∧(((0:Int) ≤ ((zP code).2).1)∧(((zP code).2).1 ≤ (1099511627776:Int))))∧((code = code)∧True)) ∧
 (BrP (nxV code (((zP code).2).1) (((zP code).2).2) (3:Int) == (0:Int)) ((((bytesB code)∧(((0:Int) ≤ nxA (code.length) (((zP code).2).1) (3:Int))∧((nxA (code.length) (((zP code).2).1) (3:Int) ≤ (↑(code.length):Int))∧((code.length ≤ (4096:Nat))∧(((0:Int) ≤ (↑(zN code):Int))∧((↑(zN code):Int) ≤ (12:Int)))))))∧((code = code)∧True))∧((((List.take (zN code) (List.drop (((zY code).2).1) ((zY code).1)) = zT code)∧True)∧(((zP code).1 = (zP code).1)∧(((chainD code (nxA (code.length) (((zP code).2).1) (3:Int)) (nxH (((zP code).2).2) (3:Int)) (↑(zN code):Int) ((zP code).1) (2:Int)).1 = zC code)∧True)))∧True)) ((((bytesB code)∧((code.length ≤ (4096:Nat))∧(((0:Int) ≤ nxA (code.length) (((zP code).2).1) (3:Int))∧((nxA (code.length) (((zP code).2).1) (3:Int) ≤ (↑(code.length):Int))∧(((zT code).length ≤ (12:Nat))∧((roomR (zT code))∧(((-1000:Int) ≤ (zP code).1)∧((zP code).1 ≤ (1000:Int)))))))))∧((code = code)∧True))∧((∃ x0 : Nat, (((x0 ≤ (yT (zS code)).length)∧(zC code = List.flatten (yT (zS code))))∧(((zP code).1 = (zP code).1)∧((List.take (((zS code).1).length - ((zS code).2).1) (List.drop (((zS code).2).1) ((zS code).1)) = yT (zS code))∧(((0:Int) = (↑x0:Int))∧((List.take (zN code) (List.drop (((zY code).2).1) ((zY code).1)) = zT code)∧([] = List.flatten (List.take x0 (yT (zS code))))))))))∧(∀ x1 : Nat, (((x1 ≤ (yT (zS code)).length)∧(zC code = List.flatten (yT (zS code)))) → (BrP (decide ((↑x1:Int) < (↑((yT (zS code)).length):Int))) ((inB (↑x1:Int) ((yT (zS code)).length)) ∧
 ((room ((List.flatten (List.take x1 (yT (zS code)))).length + ((yT (zS code)).getD ((↑x1:Int).toNat) []).length))∧((InR ((↑x1:Int) + (1:Int)))∧(∃ x2 : Nat, (((x2 ≤ (yT (zS code)).length)∧(zC code = List.flatten (yT (zS code))))∧(((yT (zS code)).length - x2 < (yT (zS code)).length - x1)∧(((zP code).1 = (zP code).1)∧((yT (zS code) = yT (zS code))∧(((↑x1:Int) + (1:Int) = (↑x2:Int))∧((zT code = zT code)∧(List.flatten (List.take x1 (yT (zS code))) ++ (yT (zS code)).getD ((↑x1:Int).toNat) [] = List.flatten (List.take x2 (yT (zS code)))))))))))))) ((((zT code = zT code)∧True)∧(((zP code).1 = (zP code).1)∧((List.flatten (List.take x1 (yT (zS code))) = zC code)∧True)))∧True)))))))))))))))
theorem DrawIsCoc_vc (code : List Int) : runF Tryz.prog (gam DrawIsCoc_G) noWr (DrawIsCoc_ann code) Tryz.f5 (bodyOf Tryz.f5) [] [.c (.ints .u8 (code))] (DrawIsCoc_p code) = DrawIsCoc_V code := by kernel_rfl
theorem DrawIsCoc_ok (code : List Int) (hpre : (DrawIsCoc_p code).pre) : DrawIsCoc_V code := by
  simp only [DrawIsCoc_p, DrawIsCoc_V, BrP_iff, u1, u2, u3, u4, u5, u6, u7, u8, u9, v1, v2, v3, v4, v5, v6, v7, v8, v9, w1, w2, w3, w4, markL_length, inB, InR, room, bdsOk] at hpre ⊢
  obtain ⟨hb, hc⟩ := hpre
  have eY : drY code 0 (frH code code.length) 6 = zY code := rfl
  try simp only [eY]
  have eN : (zY code).1.length - (zY code).2.1 = zN code := rfl
  try simp only [eN]
  have eT : List.take (zN code) (List.drop (zY code).2.1 (zY code).1) = zT code := rfl
  try simp only [eT]
  have eP : primeD code (zY code).2.2.1 (zY code).2.2.2 = zP code := rfl
  try simp only [eP]
  have eS : shF code (zT code) (zP code).1 (nxA code.length (zP code).2.1 3) (nxH (zP code).2.2 3) = zS code := rfl
  try simp only [eS]
  have eU : List.take ((zS code).1.length - (zS code).2.1) (List.drop (zS code).2.1 (zS code).1) = yT (zS code) := rfl
  try simp only [eU]
  have K := zY_ok hb
  have T : roomR (zT code) := yT_room K
  obtain ⟨k1, k2, k3, k4, k5, k6⟩ := K
  have n : zN code ≤ 6 := by unfold zN; omega
  have nT : (zT code).length = zN code := by rw [zT, yT_length]; rfl
  have P := primeD_in (h := (zY code).2.2.2) k5 k6
  rw [eP] at P
  have s := nxA_in (n := 3) P.1 P.2
  have ro := zS_ok hb
  refine ⟨⟨hb, hc⟩, ⟨hb, hc, by omega, by omega, by omega, by omega⟩, ⟨hb, k5, k6, hc⟩, T, fun h => ⟨⟨hb, P.1, P.2, hc, by omega, by omega⟩, ?_⟩, fun h => ⟨fun h2 => ⟨⟨hb, P.1, P.2, hc, by omega, by omega⟩, ?_⟩, fun h2 => ⟨⟨hb, P.1, by omega⟩, fun z => ⟨⟨hb, s.1, s.2, hc, by omega, by omega⟩, ?_⟩, fun z => ?_⟩⟩⟩
  · rw [zC, if_neg (by simp [h])]; exact ⟨trivial, rfl⟩
  · rw [zC, if_neg (by simp [h2])]; exact ⟨trivial, rfl⟩
  · rw [zC, if_pos ⟨h, h2⟩, if_pos z]; exact ⟨trivial, rfl⟩
  · have ez : zC code = (yT (zS code)).flatten := by rw [zC, if_pos ⟨h, h2⟩, if_neg z]
    obtain ⟨p2, p7⟩ := primeB_le h2
    refine ⟨⟨hb, hc, s.1, s.2, by omega, T, by omega, by omega⟩, ⟨0, ⟨Nat.zero_le _, ez⟩, trivial, rfl, trivial, rfl⟩, fun i ⟨hi, _⟩ => ⟨fun hl => ?_, fun hl => ?_⟩⟩
    · have f := flat_le ro.2 i
      have r := ro.2 ((yT (zS code)).getD i []) (by rw [getD_lt _ [] i (by omega)]; exact List.getElem_mem _)
      refine ⟨by omega, by omega, by omega, i + 1, ⟨by omega, ez⟩, by omega, by omega, ?_⟩
      rw [← take_snoc (yT (zS code)) [] i (by omega), List.flatten_append]; simp
    · rw [List.take_of_length_le (by omega), ez]
theorem DrawIsCoc_fits : Fits Tryz.prog 5 ⟨[], DrawIsCoc_ct⟩ := by
  refine ffn (Γ := gam DrawIsCoc_G) (gok_cons l01From_fits (gok_cons l03DrawAny_fits (gok_cons l15DrawPrime_fits (gok_cons l03Is_fits (gok_cons l15Prime_fits (gok_cons l01Next_fits (gok_cons l15DrawChain_fits (gok_cons l14Shape_fits gok_nil)))))))) Tryz.func5 fun ds p h hp => ?_
  unfold DrawIsCoc_ct at h
  split at h
  · cases h
    exact ⟨noWr, DrawIsCoc_ann _ , by rw [DrawIsCoc_vc]; exact DrawIsCoc_ok _  hp⟩
  · cases h
def zQ (code : List Int) : Bool × Int := cocC (zT code) (zP code).1 (zC code)
theorem zC_len {code : List Int} (hb : bytesB code) : (zC code).length ≤ 1000 := by
  obtain ⟨k1, k2, k3, k4, k5, k6⟩ := zY_ok hb
  have P : 0 ≤ (zP code).2.1 ∧ (zP code).2.1 ≤ (code.length : Int) := primeD_in (h := (zY code).2.2.2) k5 k6
  have s := nxA_in (n := 3) P.1 P.2
  have C := fun a h (h0 : 0 ≤ a) (h1 : a ≤ (code.length : Int)) => (chainD_in (code := code) (a := a) (h := h) (n := (zN code : Int)) (p := (zP code).1) (k := 2) h0 h1).1
  unfold zC
  split
  · split
    · have := C _ (nxH (zP code).2.2 3) s.1 s.2; omega
    · have ro := zS_ok hb
      have f := flat_le ro.2 (yT (zS code)).length
      rw [List.take_length] at f
      omega
  · have := C _ (zP code).2.2 P.1 P.2; omega
def lRcy_p (code : List Int) : Post := ⟨bytesB code, .c (.bool (true)), []⟩
def lRcy_ct : List AD → Option Post
  | [.c (.ints .u8 (code))] => some (lRcy_p code)
  | _ => none
def lRcy_ann (code : List Int) : Nat → Option Ann
  | 0 => some (Ann.mk ((Nat)) (fun x => ⟨[(0, .c (.ro (.ints .u8 (code)))), (3, .c (.ptr 3 0)), (4, .c (.int .i64 ((zP code).1))), (5, .c (.ro (.ints .i64 (zC code)))), (6, .c (.bool ((cocC (zT code) (zP code).1 (zC code)).1))), (10, .c (.int .i64 (((zT code).length : Int)))), (11, .c (.own (100))), (12, .c (.int .i64 ((x : Int))))], [(3, some (.box [.ro (.rows .i64 (zT code))])), (100, some (.lst 0 27 (.rows .i64 ((fW (zT code).length (zC code)).take x))))]⟩) (fun x => x ≤ (zT code).length ∧ (cocC (zT code) (zP code).1 (zC code)).2 = 0) (fun x => (zT code).length - x) (fun _ => noAnn))
  | _ => none
def lRcy_G : List (Nat × Ctr) := [(4, ⟨[], big_ct⟩), (5, ⟨[], DrawIsCoc_ct⟩), (6, ⟨[], iCoc_ct⟩), (7, ⟨[], sCoc_ct⟩), (8, ⟨[], iIsRC_ct⟩), (9, ⟨[], roll_ct⟩), (11, ⟨[(0, 0)], list5_ct⟩), (10, ⟨[], iRB_ct⟩), (12, ⟨[], iPairChains_ct⟩), (13, ⟨[], iKb_ct⟩), (14, ⟨[], sKb_ct⟩), (15, ⟨[], iBR_ct⟩), (16, ⟨[], likeRows5_ct⟩), (17, ⟨[(0, 0)], below_ct⟩)]
def lRcy_c1 (code : List Int) := ((lsS code ((zP code).1) (((↑((zT code).length):Int) * (↑((zT code).length):Int) * (↑((zT code).length):Int)).toNat) ([], (0:Int), rlH code (822:Int) (code.length))).2)
def lRcy_c2 (code : List Int) := (nxV code ((lRcy_c1 code).1) ((lRcy_c1 code).2) (↑(((kbC (zT code) ((zP code).1)).1).length):Int))
def lRcy_V1 (code : List Int) : Prop :=
 BrP (!decide ((kbC (zT code) ((zP code).1)).1 = (kbC (zT code) ((zP code).1)).1)) ((false = true)∧True) ((InR ((↑((zT code).length):Int) * (↑((zT code).length):Int)))∧((InR ((↑((zT code).length):Int) * (↑((zT code).length):Int) - (brC (zT code) ((zP code).1) (3:Int)).1))∧(BrP ((↑(((kbC (zT code) ((zP code).1)).1).length):Int) != (↑((zT code).length):Int) * (↑((zT code).length):Int) - (brC (zT code) ((zP code).1) (3:Int)).1) ((false = true)∧True) (BrP ((↑(((kbC (zT code) ((zP code).1)).1).length):Int) == (0:Int)) ((true = true)∧True) ((((bytesB code)∧(((0:Int) ≤ (lRcy_c1 code).1)∧((lRcy_c1 code).1 ≤ (1099511627776:Int))))∧((code = code)∧True))∧((inB (lRcy_c2 code) (((kbC (zT code) ((zP code).1)).1).length))∧((((roomR (zT code))∧((((kbC (zT code) ((zP code).1)).1).getD ((lRcy_c2 code).toNat) []).length ≤ (1099511627776:Nat)))∧True)∧(BrP ((cocC (zT code) ((zP code).1) (((kbC (zT code) ((zP code).1)).1).getD ((nxV code (((lsS code ((zP code).1) (((↑((zT code).length):Int) * (↑((zT code).length):Int) * (↑((zT code).length):Int)).toNat) ([], (0:Int), rlH code (822:Int) (code.length))).2).1) (((lsS code ((zP code).1) (((↑((zT code).length):Int) * (↑((zT code).length):Int) * (↑((zT code).length):Int)).toNat) ([], (0:Int), rlH code (822:Int) (code.length))).2).2) (↑(((kbC (zT code) ((zP code).1)).1).length):Int)).toNat) [])).2 == (0:Int)) (((cocC (zT code) ((zP code).1) (((kbC (zT code) ((zP code).1)).1).getD ((lRcy_c2 code).toNat) [])).1 = true)∧True) ((false = true)∧True)))))))))
def lRcy_c3 (code : List Int) := (↑((zT code).length):Int)
def lRcy_c4 (code : List Int) := (cocC (zT code) ((zP code).1) (zC code))
def lRcy_c5 (code : List Int) := ((lsS code ((zP code).1) (((lRcy_c3 code) * (lRcy_c3 code) * (lRcy_c3 code)).toNat) ([], (0:Int), rlH code (822:Int) (code.length))).1)
def lRcy_V (code : List Int) : Prop :=
 ((True∧True)∧(BrP (decide ((4096:Int) < (↑(code.length):Int))) ((true = true)∧True) ((((bytesB code)∧(code.length ≤ (4096:Nat)))∧True)∧((((roomR (zT code))∧((zC code).length ≤ (1099511627776:Nat)))∧True)∧((((roomR (zT code))∧((zC code).length ≤ (1099511627776:Nat)))∧True)∧(BrP ((cocC (zT code) ((zP code).1) (zC code)).2 != (cocC (zT code) ((zP code).1) (zC code)).2) ((false = true)∧True) (BrP (!(cocC (zT code) ((zP code).1) (zC code)).1 == (cocC (zT code) ((zP code).1) (zC code)).1) ((false = true)∧True) (BrP ((cocC (zT code) ((zP code).1) (zC code)).2 != (0:Int)) ((true = true)∧True) ((∃ x0 : Nat, (((x0 ≤ (zT code).length)∧((lRcy_c4 code).2 = (0:Int)))∧((code = code)∧(((zP code).1 = (zP code).1)∧((zC code = zC code)∧(((lRcy_c4 code).1 = (lRcy_c4 code).1)∧(((lRcy_c3 code) = (lRcy_c3 code))∧(((0:Int) = (↑x0:Int))∧((zT code = zT code)∧([] = List.take x0 (fW ((zT code).length) (zC code))))))))))))∧(∀ x1 : Nat, (((x1 ≤ (zT code).length)∧((lRcy_c4 code).2 = (0:Int))) → (BrP (decide ((↑x1:Int) < (↑((zT code).length):Int))) ((InR ((↑x1:Int) * (lRcy_c3 code)))∧((InR ((↑x1:Int) + (1:Int)))∧((InR (((↑x1:Int) + (1:Int)) * (lRcy_c3 code)))∧((bdsOk ((zC code).length) (Option.some ((↑x1:Int) * (lRcy_c3 code))) (Option.some (((↑x1:Int) + (1:Int)) * (lRcy_c3 code)))) ∧
 ((room (FC.len (FC.rows IntKind.i64 (List.take x1 (fW ((zT code).length) (zC code)))) + FC.len (FC.rows IntKind.i64 [cutL (zC code) (Option.some ((↑x1:Int) * (lRcy_c3 code))) (Option.some (((↑x1:Int) + (1:Int)) * (lRcy_c3 code)))])))∧((InR ((↑x1:Int) + (1:Int)))∧(∃ x2 : Nat, (((x2 ≤ (zT code).length)∧((lRcy_c4 code).2 = (0:Int)))∧(((zT code).length - x2 < (zT code).length - x1)∧((code = code)∧(((zP code).1 = (zP code).1)∧((zC code = zC code)∧(((lRcy_c4 code).1 = (lRcy_c4 code).1)∧(((lRcy_c3 code) = (lRcy_c3 code))∧(((↑x1:Int) + (1:Int) = (↑x2:Int))∧((zT code = zT code)∧(List.take x1 (fW ((zT code).length) (zC code)) ++ [cutL (zC code) (Option.some ((↑x1:Int) * (lRcy_c3 code))) (Option.some (((↑x1:Int) + (1:Int)) * (lRcy_c3 code)))] = List.take x2 (fW ((zT code).length) (zC code))))))))))))))))))) ((((roomR (zT code))∧(roomR (List.take x1 (fW ((zT code).length) (zC code)))))∧True)∧(BrP ((rcC (zT code) ((zP code).1) (List.take x1 (fW ((zT code).length) (zC code)))).2 != (0:Int)) ((false = true)∧True) (BrP (!(rcC (zT code) ((zP code).1) (List.take x1 (fW ((zT code).length) (zC code)))).1 == (cocC (zT code) ((zP code).1) (zC code)).1) ((false = true)∧True) (BrP (decide ((6:Int) < (↑((zT code).length):Int))) ((true = true)∧True) ((((bytesB code)∧(code.length ≤ (4096:Nat)))∧True)∧((InR ((lRcy_c3 code) * (lRcy_c3 code)))∧((InR ((lRcy_c3 code) * (lRcy_c3 code) * (lRcy_c3 code)))∧((((bytesB code)∧(((0:Int) ≤ (0:Int))∧(((0:Int) ≤ (↑(code.length):Int))∧((code.length ≤ (4096:Nat)) ∧
 (((lRcy_c3 code) * (lRcy_c3 code) * (lRcy_c3 code) ≤ (1000000:Int))∧((1:Int) ≤ (zP code).1))))))∧((code = code)∧True))∧((((roomR (zT code))∧((lRcy_c5 code).length ≤ (1099511627776:Nat)))∧True)∧(((((zC code).length ≤ (1048576:Nat))∧(((rbC (zT code) ((zP code).1) (3:Int) (lRcy_c5 code)).1).length ≤ (1048576:Nat)))∧True)∧(((roomR (zT code))∧True)∧(((roomR (zT code))∧True)∧(((roomR (zT code))∧True)∧(BrP ((rbC (zT code) ((zP code).1) (3:Int) ((lsS code ((zP code).1) (((↑((zT code).length):Int) * (↑((zT code).length):Int) * (↑((zT code).length):Int)).toNat) ([], (0:Int), rlH code (822:Int) (code.length))).1)).2 != (0:Int)) ((false = true)∧True) (BrP ((pairC ((zP code).1) (zC code) ((rbC (zT code) ((zP code).1) (3:Int) ((lsS code ((zP code).1) (((↑((zT code).length):Int) * (↑((zT code).length):Int) * (↑((zT code).length):Int)).toNat) ([], (0:Int), rlH code (822:Int) (code.length))).1)).1)).2 != (0:Int)) ((false = true)∧True) (BrP ((kbC (zT code) ((zP code).1)).2 != (0:Int)) ((false = true)∧True) (BrP ((kbC (zT code) ((zP code).1)).2 != (0:Int)) ((false = true)∧True) (BrP ((brC (zT code) ((zP code).1) (3:Int)).2 != (0:Int)) ((false = true)∧True) (BrP ((cocC (zT code) ((zP code).1) (zC code)).1) (BrP ((pairC ((zP code).1) (zC code) ((rbC (zT code) ((zP code).1) (3:Int) ((lsS code ((zP code).1) (((↑((zT code).length):Int) * (↑((zT code).length):Int) * (↑((zT code).length):Int)).toNat) ([], (0:Int), rlH code (822:Int) (code.length))).1)).1)).1 != (0:Int)) ((false = true)∧True)
 (((roomR ((kbC (zT code) ((zP code).1)).1))∧True)∧(lRcy_V1 code))) (((roomR ((kbC (zT code) ((zP code).1)).1))∧True)∧(lRcy_V1 code)))))))))))))))))))))))))))))))))
theorem lRcy_vc (code : List Int) : runF Tryz.prog (gam lRcy_G) noWr (lRcy_ann code) Tryz.f3 (bodyOf Tryz.f3) [] [.c (.ints .u8 (code))] (lRcy_p code) = lRcy_V code := by kernel_rfl
theorem lRcy_ok (code : List Int) (hpre : (lRcy_p code).pre) : lRcy_V code := by
  simp only [lRcy_p, lRcy_V, lRcy_V1, lRcy_c1, lRcy_c2, lRcy_c3, lRcy_c4, lRcy_c5, BrP_iff, u1, u2, u3, u4, u5, u6, u7, u8, u9, v1, v2, v3, v4, v5, v6, v7, v8, v9, w1, w2, w3, w4, markL_length, inB, InR, room, bdsOk] at hpre ⊢
  have eT : cocC (zT code) (zP code).1 (zC code) = zQ code := rfl
  try simp only [eT]
  refine ⟨fun _ => trivial, fun hc => ?_⟩
  have T : roomR (zT code) := yT_room (zY_ok hpre)
  have cl := zC_len hpre
  have hQ : zQ code = cocC (zT code) (zP code).1 (zC code) := rfl
  generalize zQ code = Q at *
  generalize zT code = t at *
  generalize zC code = c at *
  generalize (zP code).1 = p at *
  refine ⟨⟨hpre, by omega⟩, ⟨T, by omega⟩, ⟨T, by omega⟩, fun h => absurd rfl h, fun _ => ⟨fun h => absurd rfl h, fun _ => ⟨fun _ => trivial, fun z => ?_⟩⟩⟩
  rw [hQ] at z
  obtain ⟨hr, hp, hcw, q1⟩ := rcy_of z
  rw [← hQ] at z q1
  have ht := rackB_tab hr
  obtain ⟨n1, n2, _⟩ := tabB_of ht
  obtain ⟨p2, p7⟩ := primeB_le hp
  have sq := sq_le n2
  have c1 := hcw.1
  have fl := fW_len t.length c
  refine ⟨⟨0, ⟨Nat.zero_le _, z⟩, rfl, by simp⟩, fun x ⟨hx, _⟩ => ⟨fun hl => ?_, fun hl => ?_⟩⟩
  · have hx' : x < t.length := by omega
    have e1 : (x : Int) * (t.length : Int) = ((x * t.length : Nat) : Int) := by simp
    have e2 : ((x : Int) + 1) * (t.length : Int) = (((x + 1) * t.length : Nat) : Int) := by simp
    have m1 := Nat.mul_le_mul_right t.length (show x + 1 ≤ t.length by omega)
    have m2 : (x + 1) * t.length = x * t.length + t.length := Nat.succ_mul x t.length
    rw [e1, e2]
    refine ⟨by omega, by omega, by omega, ⟨by omega, by omega, by omega⟩, ?_, by omega, x + 1, ⟨by omega, z⟩, by omega, by omega, ?_⟩
    · show (List.take x (fW t.length c)).length + 1 ≤ _
      rw [List.length_take]; omega
    · rw [← take_snoc (fW t.length c) [] x (by omega), fW_get hx']
      have ec : cutL c (some ((x * t.length : Nat) : Int)) (some (((x + 1) * t.length : Nat) : Int)) = List.take t.length (List.drop (x * t.length) c) := by
        rw [cutL, Int.toNat_natCast, Int.toNat_natCast, List.drop_take, show (x + 1) * t.length - x * t.length = t.length by omega]
      rw [ec]
  · have ef : List.take x (fW t.length c) = fW t.length c := List.take_of_length_le (by omega)
    have eR : rcC t p (fW t.length c) = (Q.1, 0) := by
      rw [rcC, if_pos hr, if_pos (fW_mat p2 p7 hcw), coc_rc ht p2 hcw, q1]
    rw [ef, eR]
    refine ⟨⟨T, by omega, fun r hr' => ?_⟩, fun h => absurd rfl h, fun _ => ⟨fun h => absurd rfl h, fun _ => ⟨fun _ => trivial, fun h6 => ?_⟩⟩⟩
    · obtain ⟨k, hk, rfl⟩ := List.mem_iff_getElem.1 hr'
      have := fW_row (n := t.length) c1 (x := k) (by omega)
      rw [getD_lt _ [] k hk] at this
      omega
    have n6 : t.length ≤ 6 := by omega
    have sq6 : t.length * t.length ≤ 36 := Nat.mul_le_mul n6 n6
    have cu6 : t.length * t.length * t.length ≤ 216 := Nat.mul_le_mul sq6 n6
    simp only [sqI, cuI, Int.toNat_natCast]
    have D := drL_len (code := code) (m := p) (t.length * t.length * t.length) ([], 0, rlH code 822 code.length) (by show (0 : Int) ≤ 0; omega) (by show (0 : Int) ≤ _; omega)
    have D2 := drL_in hpre (m := p) (by omega) (t.length * t.length * t.length) ([], 0, rlH code 822 code.length) (fun x hx => (List.not_mem_nil hx).elim)
    generalize (lsS code p (t.length * t.length * t.length) ([], 0, rlH code 822 code.length)).1 = d at D D2 ⊢
    have d1 : d.length = t.length * t.length * t.length := by rw [D.1]; simp
    have dw : rwP p (t.length * t.length * t.length) d := ⟨d1, fun q hq => D2 _ (getD_mem d 0 q hq)⟩
    have e3 : (t.length : Int) ^ (3 : Int).toNat = ((t.length * t.length * t.length : Nat) : Int) := by rw [← Int.natCast_pow]; simp [Nat.pow_succ]
    have hd : degB (t.length : Int) 3 = true := by
      simp only [degB, Bool.and_eq_true, decide_eq_true_eq]
      exact ⟨by omega, by rw [e3]; omega⟩
    have hch : chC t p 3 d = 0 := by
      have b : chB t p 3 d = true := by
        simp only [chB, Bool.and_eq_true, decide_eq_true_eq]
        exact ⟨by rw [e3, d1], inP_allW dw.2⟩
      simp [chC, hr, dgB, hp, hd, b]
    have eRb : rbC t p 3 d = (bdF t p 3 d d.length, 0) := by
      have := rbC_yes hch (by omega)
      exact Prod.ext this.1.symm this.2.symm
    have bw : rwP p (t.length * t.length) (bdF t p 3 d d.length) := by
      have := (bd_lin (t := t) p2 (K := 3) dw.2 d.length (Nat.le_refl _)).1
      rwa [show t.length ^ (3 - 1) = t.length * t.length by simp [Nat.pow_succ]] at this
    have b1 := bw.1
    have ePc : pairC p c (bdF t p 3 d d.length) = ((dotN c (bdF t p 3 d d.length) c.length).tmod p, 0) := by
      have : pairOk p c (bdF t p 3 d d.length) = true := by
        simp only [pairOk, Bool.and_eq_true, decide_eq_true_eq]
        exact ⟨⟨⟨hp, by omega⟩, by omega⟩, inP_allW hcw.2, inP_allW bw.2⟩
      rw [pairC, if_pos this]
    have eK := kbC_c hr hp hd
    have eB : brC t p 3 = (brV t p 3 false, 0) := by
      rw [brC, if_pos (by simp [dgC, hr, dgB, hp, hd])]
    have rk := basis_rank (t := t) hp
    rw [sqI] at rk
    have kr := kbC_ok t p
    rw [eK] at kr
    have kl : (kbL t p).length ≤ 64 := kr.2.1
    simp only [eRb, ePc, eK, eB]
    have tail : ∀ S : Int × Int, 0 ≤ S.1 → S.1 ≤ (code.length : Int) → ((kbL t p).length : Int) ≠ 0 →
        (bytesB code ∧ 0 ≤ S.1 ∧ S.1 ≤ 1099511627776) ∧ (0 ≤ nxV code S.1 S.2 ((kbL t p).length : Int) ∧ nxV code S.1 S.2 ((kbL t p).length : Int) < ((kbL t p).length : Int)) ∧
        (roomR t ∧ ((kbL t p).getD (nxV code S.1 S.2 ((kbL t p).length : Int)).toNat []).length ≤ 1099511627776) ∧
        cocC t p ((kbL t p).getD (nxV code S.1 S.2 ((kbL t p).length : Int)).toNat []) = (true, 0) := fun S h0 h1 hk => by
      have v := nxV_in hpre S.1 S.2 (n := ((kbL t p).length : Int)) (by omega)
      have rl : (kbC t p).1 = kbL t p := by rw [eK]
      have rm := roomR_get kr.1 (nxV code S.1 S.2 ((kbL t p).length : Int)).toNat (by show _ < (kbL t p).length; omega)
      exact ⟨⟨hpre, h0, by omega⟩, ⟨v.1, by omega⟩, ⟨T, rm⟩, basis_coc hr hp (by omega)⟩
    refine ⟨⟨hpre, by omega⟩, by omega, by omega, ⟨hpre, by omega, by omega, by omega, by omega, by omega⟩, ⟨T, by omega⟩, ⟨by omega, by omega⟩, T, T, T, fun h => absurd rfl h, fun _ => ⟨fun h => absurd rfl h, fun _ => ⟨fun h => absurd rfl h, fun _ => ⟨fun h => absurd rfl h, fun _ => ⟨fun h => absurd rfl h, fun _ => ⟨fun y => ⟨fun h => absurd ?_ h, fun _ => ⟨kr.1, fun h => absurd trivial h, fun _ => ⟨by omega, by omega, fun h => absurd rk h, fun _ => ⟨fun _ => trivial, fun hk => ?_⟩⟩⟩⟩, fun y => ⟨kr.1, fun h => absurd trivial h, fun _ => ⟨by omega, by omega, fun h => absurd rk h, fun _ => ⟨fun _ => trivial, fun hk => ?_⟩⟩⟩⟩⟩⟩⟩⟩⟩
    · exact Int.tmod_eq_zero_of_dvd (pair_zero p2 hcw dw (by rw [← q1]; exact y)).2
    · obtain ⟨w1, w2, w3, w4⟩ := tail _ D.2.1 D.2.2 hk
      rw [w4]
      exact ⟨w1, w2, w3, fun _ => rfl, fun h => absurd rfl h⟩
    · obtain ⟨w1, w2, w3, w4⟩ := tail _ D.2.1 D.2.2 hk
      rw [w4]
      exact ⟨w1, w2, w3, fun _ => rfl, fun h => absurd rfl h⟩
theorem lRcy_fits : Fits Tryz.prog 3 ⟨[], lRcy_ct⟩ := by
  refine ffn (Γ := gam lRcy_G) (gok_cons big_fits (gok_cons DrawIsCoc_fits (gok_cons iCoc_fits (gok_cons sCoc_fits (gok_cons iIsRC_fits (gok_cons roll_fits (gok_cons list5_fits (gok_cons iRB_fits (gok_cons iPairChains_fits (gok_cons iKb_fits (gok_cons sKb_fits (gok_cons iBR_fits (gok_cons likeRows5_fits (gok_cons below_fits gok_nil)))))))))))))) Tryz.func3 fun ds p h hp => ?_
  unfold lRcy_ct at h
  split at h
  · cases h
    exact ⟨noWr, lRcy_ann _ , by rw [lRcy_vc]; exact lRcy_ok _  hp⟩
  · cases h
end Go.Sx
end
section
namespace Go.Sx
set_option linter.unusedSimpArgs false
set_option linter.unusedVariables false
open Go.ChangeShapes Go.WideShapes Go.ChangeAt Go.RowKit Go.ChangeMaps Go.Deep
section
variable {H : Type} {enc : TypeId × Value → H} {P : Program} {W : World}
def Opn (P : Program) (W : World) (t : TypeId) (v : Value) (d : FC) : Prop := v.oneCell' = true ∧ Reads W v d
theorem wf_u8' {n : Int} (h : (Lit.int .u8 n).wf = true) : 0 ≤ n ∧ n ≤ 255 := by
  simp only [Lit.wf, Bool.and_eq_true, decide_eq_true_eq] at h
  exact h
theorem opn_bytes {t e : TypeId} {fuel : Nat} {v : Value} {x : DataW H × List MemPlace} (ht : P.underlying t = some (.slice e)) (he : P.underlying e = some (.int .u8)) (hc : P.cellsOf e = 1)
    (h : DataW.trod enc P W 0 (fun _ => true) true fuel t [v] = some x) : ∃ l : List Int, l.length ≤ maxLen ∧ (∀ n ∈ l, 0 ≤ n ∧ n ≤ 255) ∧ Opn P W t v (.ints .u8 l) := by
  rcases open_ints ht he hc h with ⟨h1, _⟩ | ⟨a, len, cap, zs, h1, _, hl, hm, hz, _, hcell, hw⟩
  · simp only [List.cons.injEq, and_true] at h1
    subst h1
    exact ⟨[], Nat.zero_le _, by simp, rfl, none, 0, rfl, Nat.le_refl _, fun h => by simp at h⟩
  · simp only [List.cons.injEq, and_true] at h1
    subst h1
    simp only [if_true] at hz
    have hlen : (zs.take len).length = len := by simp; omega
    refine ⟨zs.take len, by rw [hlen]; omega, fun n hn => wf_u8' (hw n (List.mem_of_mem_take hn)), rfl, some a, cap, by rw [hlen], by rw [hlen]; exact hl, fun hpos => ?_⟩
    rw [hlen] at hpos
    obtain ⟨b, off, spot⟩ := a
    have hs : spot = none := by simpa [Addr.add] using World.cell?_spot (hcell 0 (by omega))
    subst hs
    refine ⟨b, off, rfl, fun i hi => ?_⟩
    rw [hlen] at hi
    refine ⟨_, by rw [← add_plain]; exact hcell i (by omega), ?_⟩
    simp [List.getD_eq_getElem?_getD, List.getElem?_take, hi]
theorem arg_c {t : TypeId} {v : Value} {d : FC} (h : Opn P W t v d) (i : Nat) : ArgRep P W [] [] [] i (.c d) v := ⟨h.1, h.2⟩
theorem trod_of_okWide {t : TypeId} {v : Value} {d : DataW H} {p : List MemPlace} (h1 : v.cells.toList = [v]) (h : DataW.Trod enc P W 0 (fun _ => true) true t v d p) : ∃ n, DataW.trod enc P W 0 (fun _ => true) true n t [v] = some (d, p) := by
  obtain ⟨n, hn⟩ := h
  exact ⟨n, by rw [← h1]; exact hn⟩
theorem trodAll_keep (hl : laidOutB P = true) {W' : World} (hb : Below W.heap.size W W') : ∀ {ts : List TypeId} {vs : List Value} {ds : List (DataW H)} {p : List MemPlace}, (∀ t ∈ ts, P.readableRec t = true ∧ t < P.types.size) →
    DataW.TrodAll enc P W 0 (fun _ => true) true ts vs ds p → (∀ x ∈ p, x.block < W.heap.size) → DataW.TrodAll enc P W' 0 (fun b => decide (b < W.heap.size)) true ts vs ds p
  | [], [], [], p, _, h, _ => h
  | t :: ts, v :: vs, d :: ds, p, ht, h, hlt => by
    obtain ⟨p1, p2, h1, h2, rfl⟩ := h
    exact ⟨p1, p2, Below.trod hl (ht t (by simp)).1 (ht t (by simp)).2 h1 hb (fun x hx => hlt x (by simp [hx])), trodAll_keep hl hb (fun t' h' => ht t' (by simp [h'])) h2 (fun x hx => hlt x (by simp [hx])), rfl⟩
  | [], [], _ :: _, _, _, h, _ => h.elim
  | [], _ :: _, [], _, _, h, _ => h.elim
  | [], _ :: _, _ :: _, _, _, h, _ => h.elim
  | _ :: _, [], [], _, _, h, _ => h.elim
  | _ :: _, [], _ :: _, _, _, h, _ => h.elim
  | _ :: _, _ :: _, [], _, _, h, _ => h.elim
theorem trodAll_lens {W : World} {base : Nat} {sp : Nat → Bool} {hd : Bool} : ∀ {ts : List TypeId} {vs : List Value} {ds : List (DataW H)} {p : List MemPlace}, DataW.TrodAll enc P W base sp hd ts vs ds p → vs.length = ts.length ∧ ds.length = ts.length
  | [], [], [], _, _ => ⟨rfl, rfl⟩
  | t :: ts, v :: vs, d :: ds, p, h => by
    obtain ⟨p1, p2, _, h2, _⟩ := h
    have := trodAll_lens h2
    simp [this.1, this.2]
  | [], [], _ :: _, _, h => h.elim
  | [], _ :: _, [], _, h => h.elim
  | [], _ :: _, _ :: _, _, h => h.elim
  | _ :: _, [], [], _, h => h.elim
  | _ :: _, [], _ :: _, _, h => h.elim
  | _ :: _, _ :: _, [], _, h => h.elim
end
theorem law_lifted {C : Checked} {os : Os} {H : Type} {enc : TypeId × Value → H} {f : FuncId} {fn : Func} {s : ChangeSpec} {conds : List PathCond} {fresh handsOn : Bool} {tb : TypeId}
    (own : ownKnob C.prog.godebug = none) (started : os.Started) (noInit : C.prog.inits.idxOf? f = none) (hfn : C.prog.funcs[f]? = some fn) (hlaid : laidOutB C.prog = true)
    (hvars : s.vars = []) (hrd : ∀ t ∈ fn.params.toList, C.prog.readableRec t = true ∧ t < C.prog.types.size) (hres : fn.resultTypes = #[tb]) (htb : C.prog.underlying tb = some .bool)
    (hspec : ∀ ds : List (DataW H), ds.length = fn.params.toList.length → s.fn H ds = { results := [.lit (.bool true)], args := ds, vars := [] })
    (witness : ∃ (w : World) (tape : Tape) (i : Input), w.os = os ∧ (w.forCall tape i).Shaped C.prog ∧ i.vars = [] ∧ Input.okWide C.prog (w.forCall tape i) .any w.heap.size f i ∧
      s.pre6 enc C.prog fn conds false (w.forCall tape i).memory i.args ∧ ({} : Assume).holds C.prog (lone (Frame.enter C.prog f i.args .normal) [] (w.forCall tape i)))
    {ct : List AD → Option Post} (fits : Fits C.prog f ⟨[], ct⟩)
    (hopen : ∀ (W : World) (base : Nat) (vs : List Value) (ds : List (DataW H)) (p : List MemPlace), DataW.TrodAll enc C.prog W 0 (fun _ => true) true fn.params.toList vs ds p →
      (∀ (j : Nat) t v, fn.params[j]? = some t → vs[j]? = some v → Value.okWide C.prog W .any base t v) →
      ∃ (ads : List AD) (pre : Prop), ct ads = some ⟨pre, .c (.bool true), []⟩ ∧ pre ∧ vs.length = ads.length ∧ ∀ (i : Nat) (d : AD), ads[i]? = some d → ∃ v, vs[i]? = some v ∧ ArgRep C.prog W [] [] [] i d v) :
    ReturnsInHanded {} C os f .any (s.pre6 enc C.prog fn conds false) (s.post enc C.prog fn false fresh handsOn false) := by
  refine returnsInHanded_of_change own started noInit hfn witness ?_
  intro W base args ds gs before hval hW _ _
  have hW' := hW
  obtain ⟨p, q, hA, hV, rfl, hfz, hnd⟩ := hW
  rw [hvars] at hV
  obtain ⟨rfl, rfl⟩ := trodVars_none hV
  obtain ⟨ads, pre, h1, h2, h3, h4⟩ := hopen W base args.toList ds p hA (fun j t v ht hv => hval j t v ht (by simpa using hv))
  have hrun := fits.run W W args.toList ads _ [] [] h1 h2 h3 rfl rfl rfl (by simp) (by simp) (by simp) (fun q u hq => ⟨hq, by simp⟩) h4
  refine hrun.mono fun e W' ⟨v, ms', img, wG, he, haft, hms, _, _, hret⟩ => ?_
  subst he
  have hv : v = .bool true := hret.val
  subst hv
  have hB : Below W.heap.size W W' := haft.below
  have hlt : ∀ x ∈ p, x.block < W.heap.size := fun x hx => by simpa using hW'.lt x (by simp [hx])
  have hsp := hspec ds (trodAll_lens hA).2
  refine ⟨_, rfl, ds, [], p ++ [], [], p, [], hW', ?_, ?_, ?_, hB.frame _, fun h => by cases h⟩
  · rw [List.append_nil, hsp, hres]
    exact trodAll_cons_mk (shut_bool htb _) trodAll_mk0
  · rw [List.append_nil, hsp]
    exact trodAll_keep hlaid hB hrd hA hlt
  · rw [List.append_nil, hsp, hvars]
    rfl
end Go.Sx
end
