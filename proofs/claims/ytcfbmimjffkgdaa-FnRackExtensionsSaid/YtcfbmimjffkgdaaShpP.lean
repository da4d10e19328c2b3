/- ShpP -/
import Derived.Test.YtcfbmimjffkgdaaDrawC
import Derived.Test.YtcfbmimjffkgdaaOrbP
import Derived.Test.YtcfbmimjffkgdaaRackC
import Derived.Test.YtcfbmimjffkgdaaCyc
open Go Go.Proofs
namespace Go.Sx
set_option linter.unusedSimpArgs false
set_option linter.unusedVariables false

theorem drL_in {code : List Int} (hb : bytesB code) {m : Int} (hm : 1 ≤ m) : ∀ (j : Nat) (s : List Int × Int × Int), (∀ x ∈ s.1, 0 ≤ x ∧ x ≤ m - 1) → ∀ x ∈ (lsS code m j s).1, 0 ≤ x ∧ x ≤ m - 1
  | 0, s, h => h
  | j + 1, s, h => by
    have v := nxV_in hb s.2.1 s.2.2 hm
    refine drL_in hb hm j (s.1 ++ [nxV code s.2.1 s.2.2 m], nxA code.length s.2.1 m, nxH s.2.2 m) fun x hx => ?_
    rcases List.mem_append.1 hx with hx | hx
    · exact h x hx
    · rw [List.mem_singleton.1 hx]; exact v

theorem drL_len {code : List Int} {m : Int} : ∀ (j : Nat) (s : List Int × Int × Int), 0 ≤ s.2.1 → s.2.1 ≤ (code.length : Int) → (lsS code m j s).1.length = s.1.length + j ∧ 0 ≤ (lsS code m j s).2.1 ∧ (lsS code m j s).2.1 ≤ (code.length : Int)
  | 0, s, h0, h1 => ⟨rfl, h0, h1⟩
  | j + 1, s, h0, h1 => by
    have a := nxA_in (n := m) h0 h1
    have := drL_len (code := code) (m := m) j (s.1 ++ [nxV code s.2.1 s.2.2 m], nxA code.length s.2.1 m, nxH s.2.2 m) a.1 a.2
    rw [List.length_append] at this
    refine ⟨?_, this.2⟩
    have e := this.1
    show (lsS code m j _).1.length = _
    rw [e]; show s.1.length + 1 + j = _; omega

def l14DrawList_p (code : List Int) (a : Int) (h : Int) (n : Int) (m : Int) : Post := ⟨bytesB code ∧ 0 ≤ a ∧ a ≤ (code.length : Int) ∧ code.length ≤ 4096 ∧ n ≤ 1000000 ∧ -1000000 ≤ n, .c (.ints 2 .i64 ((lsS code m n.toNat ([], a, h)).1)), [.bx [.ints .u8 (code), .int .i64 ((lsS code m n.toNat ([], a, h)).2.1), .int .u64 ((lsS code m n.toNat ([], a, h)).2.2)]]⟩
def l14DrawList_ct : List AD → Option Post
  | [.box [.ints .u8 (code), .int .i64 (a), .int .u64 (h)], .c (.int .i64 (n)), .c (.int .i64 (m))] => some (l14DrawList_p code a h n m)
  | _ => none
def l14DrawList_ann (code : List Int) (a : Int) (h : Int) (n : Int) (m : Int) : Nat → Option Ann
  | 0 => some (Ann.mk ((Nat) × (List Int) × (Int) × (Int)) (fun x => match x with | (j, l, b, g) => ⟨[(0, .c (.ptr 700 0)), (1, .c (.int .i64 (n - (n.toNat - j : Nat)))), (2, .c (.int .i64 (m))), (7, .c (.own (8)))], [(700, some (.box [.orig 700 0 (.ints .u8 (code)), .int .i64 (b), .int .u64 (g)])), (8, some (.ints 2 .i64 (l)))]⟩) (fun x => match x with | (j, l, b, g) => j ≤ n.toNat ∧ l.length = n.toNat - j ∧ 0 ≤ b ∧ b ≤ (code.length : Int) ∧ lsS code m n.toNat ([], a, h) = lsS code m j (l, b, g)) (fun x => match x with | (j, l, b, g) => j) (fun _ => noAnn))
  | _ => none
def l14DrawList_G : List (Nat × Ctr) := [(85, ⟨[(0, 0)], l01Next_ct⟩)]
def l14DrawList_V (code : List Int) (a : Int) (h : Int) (n : Int) (m : Int) : Prop :=
  ((∃ x0 : Nat × List Int × Int × Int, (((Prod.fst x0 ≤ Int.toNat n) ∧
 ((List.length (Prod.fst x0.2) = Int.toNat n - Prod.fst x0) ∧
 (((0 : Int) ≤ Prod.fst x0.2.2) ∧
 ((Prod.fst x0.2.2 ≤ (↑(List.length code) : Int)) ∧
 (lsS code m (Int.toNat n) ([], a, h) = lsS code m (Prod.fst x0) (Prod.fst x0.2, Prod.fst x0.2.2, Prod.snd x0.2.2)))))) ∧
 ((n = n - (↑(Int.toNat n - x0.1) : Int)) ∧
 ((m = m) ∧
 ((code = code) ∧
 ((a = x0.2.2.1) ∧
 ((h = x0.2.2.2) ∧
 ([] = x0.2.1)))))))) ∧
 (∀ x1 : Nat × List Int × Int × Int, (((Prod.fst x1 ≤ Int.toNat n) ∧
 ((List.length (Prod.fst x1.2) = Int.toNat n - Prod.fst x1) ∧
 (((0 : Int) ≤ Prod.fst x1.2.2) ∧
 ((Prod.fst x1.2.2 ≤ (↑(List.length code) : Int)) ∧
 (lsS code m (Int.toNat n) ([], a, h) = lsS code m (Prod.fst x1) (Prod.fst x1.2, Prod.fst x1.2.2, Prod.snd x1.2.2)))))) →
 (BrP (Decidable.decide ((0 : Int) < n - (↑(Int.toNat n - x1.1) : Int)))
 ((((bytesB code) ∧
 (((0 : Int) ≤ x1.2.2.1) ∧
 (x1.2.2.1 ≤ (1099511627776 : Int)))) ∧
 ((code = code) ∧
 (True))) ∧
 ((room (List.length x1.2.1 + List.length [nxV code x1.2.2.1 x1.2.2.2 m])) ∧
 ((InR (n - (↑(Int.toNat n - x1.1) : Int) - (1 : Int))) ∧
 (∃ x2 : Nat × List Int × Int × Int, (((Prod.fst x2 ≤ Int.toNat n) ∧
 ((List.length (Prod.fst x2.2) = Int.toNat n - Prod.fst x2) ∧
 (((0 : Int) ≤ Prod.fst x2.2.2) ∧
 ((Prod.fst x2.2.2 ≤ (↑(List.length code) : Int)) ∧
 (lsS code m (Int.toNat n) ([], a, h) = lsS code m (Prod.fst x2) (Prod.fst x2.2, Prod.fst x2.2.2, Prod.snd x2.2.2)))))) ∧
 ((Prod.fst x2 < Prod.fst x1) ∧
 ((n - (↑(Int.toNat n - x1.1) : Int) - (1 : Int) = n - (↑(Int.toNat n - x2.1) : Int)) ∧
 ((m = m) ∧
 ((code = code) ∧
 ((nxA (List.length code) x1.2.2.1 m = x2.2.2.1) ∧
 ((nxH x1.2.2.2 m = x2.2.2.2) ∧
 (x1.2.1 ++ [nxV code x1.2.2.1 x1.2.2.2 m] = x2.2.1))))))))))))
 ((x1.2.1 = Prod.fst (lsS code m (Int.toNat n) ([], a, h))) ∧
 (((code = code) ∧
 ((x1.2.2.1 = Prod.fst (Prod.snd (lsS code m (Int.toNat n) ([], a, h)))) ∧
 ((x1.2.2.2 = Prod.snd (Prod.snd (lsS code m (Int.toNat n) ([], a, h)))) ∧
 (True)))) ∧
 (True)))))))
theorem l14DrawList_vc (code : List Int) (a : Int) (h : Int) (n : Int) (m : Int) : runF Try.prog (gam l14DrawList_G) noWr (l14DrawList_ann code a h n m) Try.f142 (bodyOf Try.f142) [(0, 0)] [.box [.ints .u8 (code), .int .i64 (a), .int .u64 (h)], .c (.int .i64 (n)), .c (.int .i64 (m))] (l14DrawList_p code a h n m) = l14DrawList_V code a h n m := by kernel_rfl
theorem l14DrawList_ok (code : List Int) (a : Int) (h : Int) (n : Int) (m : Int) (hpre : (l14DrawList_p code a h n m).pre) : l14DrawList_V code a h n m := by
  simp only [l14DrawList_p, l14DrawList_V, BrP_iff, true_and, and_true, decide_eq_true_eq, decide_eq_false_iff_not, bne_iff_ne, beq_iff_eq, bne_eq_false_iff_eq, beq_eq_false_iff_ne, Bool.not_eq_true, Bool.not_eq_false, Bool.not_true, Bool.not_false, Bool.not_eq_eq_eq_not, Int.toNat_natCast, List.length_append, List.length_take, List.length_replicate, List.length_set, List.length_map, List.length_drop, List.length_nil, List.length_cons, markL_length, inB, InR, room, bdsOk] at hpre ⊢
  obtain ⟨hb, h0, h1, h2, h3, h4⟩ := hpre
  refine ⟨⟨(n.toNat, [], a, h), ?_⟩, ?_⟩
  · dsimp only
    exact ⟨⟨Nat.le_refl _, by simp, h0, h1, rfl⟩, by omega, rfl, rfl, rfl⟩
  rintro ⟨j, l, b, g⟩ ⟨q1, q2, q3, q4, q5⟩
  dsimp only at q1 q2 q3 q4 q5 ⊢
  have s1 := nxA_in (n := m) q3 q4
  refine ⟨fun hl => ⟨⟨hb, q3, by omega⟩, by omega, by omega, (j - 1, l ++ [nxV code b g m], nxA code.length b m, nxH g m), ?_⟩, fun hl => ?_⟩
  · dsimp only
    refine ⟨⟨by omega, by rw [List.length_append]; show l.length + 1 = _; omega, s1.1, s1.2, ?_⟩, by omega, by omega, rfl, rfl, rfl⟩
    rw [q5, show j = (j - 1) + 1 by omega]; rfl
  · rw [q5, show j = 0 by omega]; exact ⟨rfl, rfl, rfl⟩
theorem l14DrawList_fits : Fits Try.prog 142 ⟨[(0, 0)], l14DrawList_ct⟩ := by
  refine fits_fn (Γ := gam l14DrawList_G) (gok_cons l01Next_fits gok_nil) Try.func142 (by kernel_rfl) (by kernel_rfl) (by kernel_rfl) fun ds p h hp => ?_
  unfold l14DrawList_ct at h
  split at h
  · cases h
    exact ⟨noWr, l14DrawList_ann _ _ _ _ _ , by rw [l14DrawList_vc]; exact l14DrawList_ok _ _ _ _ _  hp⟩
  · cases h

/-- Rows that are drawn one behind another. -/
abbrev Ds := List (List Int) × Int × Int
def drwS (code : List Int) (m : Int) (n : Nat) : Nat → Ds → Ds
  | 0, s => s
  | j + 1, s => drwS code m n j (s.1 ++ [(lsS code m n ([], s.2.1, s.2.2)).1], (lsS code m n ([], s.2.1, s.2.2)).2)

def shR (s : Ds) : Dy := (s.1, 0, s.2)

def shW (t : List (List Int)) (m : Int) (g lb w : List Int) (x y : Nat) : Int :=
  if 0 < lb.length then (cbF t m g x y + w.getD (lb.getD x 0 * (t.length : Int) + lb.getD y 0).toNat 0).tmod m else cbF t m g x y

def shL (t : List (List Int)) : List Int := if t.all permB = true then (obN t t.length).1 else []

def shB (code : List Int) (t : List (List Int)) (m a h : Int) : Ds :=
  let g := lsS code m t.length ([], a, h)
  let w := lsS code m (t.length * t.length) ([], g.2)
  (tabR t.length (shW t m g.1 (shL t) w.1), w.2)

def shE (code : List Int) (n m : Int) (s : Ds) : Dy :=
  let c := nxV code s.2.1 s.2.2 12
  let a1 := nxA code.length s.2.1 12
  let h1 := nxH s.2.2 12
  if c = 0 then
    (s.1.set (nxV code a1 h1 n).toNat ((s.1.getD (nxV code a1 h1 n).toNat []).set (nxV code (nxA code.length a1 n) (nxH h1 n) n).toNat (nxV code (nxA code.length (nxA code.length a1 n) n) (nxH (nxH h1 n) n) m)), 0,
      nxA code.length (nxA code.length (nxA code.length a1 n) n) m, nxH (nxH (nxH h1 n) n) m)
  else if c = 1 then (s.1.set 0 ((s.1.getD 0 []).set 0 ([-1, m].getD (nxV code a1 h1 2).toNat 0)), 0, nxA code.length a1 2, nxH h1 2)
  else if c = 2 then (s.1, 1, a1, h1) else (s.1, 0, a1, h1)

theorem shE0 {code : List Int} {n m b k : Int} {F : List (List Int)} (z : nxV code b k 12 = 0) : shE code n m (F, b, k) =
    (F.set (nxV code (nxA code.length b 12) (nxH k 12) n).toNat ((F.getD (nxV code (nxA code.length b 12) (nxH k 12) n).toNat []).set (nxV code (nxA code.length (nxA code.length b 12) n) (nxH (nxH k 12) n) n).toNat (nxV code (nxA code.length (nxA code.length (nxA code.length b 12) n) n) (nxH (nxH (nxH k 12) n) n) m)), 0,
      nxA code.length (nxA code.length (nxA code.length (nxA code.length b 12) n) n) m, nxH (nxH (nxH (nxH k 12) n) n) m) := by
  unfold shE; dsimp only; rw [if_pos z]
theorem shE1 {code : List Int} {n m b k : Int} {F : List (List Int)} (z : nxV code b k 12 ≠ 0) (z1 : nxV code b k 12 = 1) : shE code n m (F, b, k) =
    (F.set 0 ((F.getD 0 []).set 0 ([-1, m].getD (nxV code (nxA code.length b 12) (nxH k 12) 2).toNat 0)), 0, nxA code.length (nxA code.length b 12) 2, nxH (nxH k 12) 2) := by
  unfold shE; dsimp only; rw [if_neg z, if_pos z1]
theorem shE2 {code : List Int} {n m b k : Int} {F : List (List Int)} (z : nxV code b k 12 ≠ 0) (z1 : nxV code b k 12 ≠ 1) (z2 : nxV code b k 12 = 2) : shE code n m (F, b, k) = (F, 1, nxA code.length b 12, nxH k 12) := by
  unfold shE; dsimp only; rw [if_neg z, if_neg z1, if_pos z2]
theorem shE3 {code : List Int} {n m b k : Int} {F : List (List Int)} (z : nxV code b k 12 ≠ 0) (z1 : nxV code b k 12 ≠ 1) (z2 : nxV code b k 12 ≠ 2) : shE code n m (F, b, k) = (F, 0, nxA code.length b 12, nxH k 12) := by
  unfold shE; dsimp only; rw [if_neg z, if_neg z1, if_neg z2]

def shF (code : List Int) (t : List (List Int)) (m a h : Int) : Dy :=
  if tabB t = true ∧ 1 ≤ m ∧ m ≤ 12 then
    (if nxV code a h 5 = 0 then shR (drwS code m t.length t.length ([], nxA code.length a 5, nxH h 5)) else shE code t.length m (shB code t m (nxA code.length a 5) (nxH h 5)))
  else shR (drwS code m t.length t.length ([], a, h))

def lbOk (n : Nat) (lb : List Int) : Prop := lb = [] ∨ (lb.length = n ∧ ∀ q, q < n → 0 ≤ lb.getD q 0 ∧ lb.getD q 0 ≤ (n : Int) - 1)

theorem shL_ok {t : List (List Int)} (ht : tabB t = true) : lbOk t.length (shL t) := by
  unfold shL
  split
  · obtain ⟨a1, _, _, a4, a5⟩ := obN_ok ht t.length (Nat.le_refl _)
    exact .inr ⟨a1, fun q hq => ⟨a5 q hq, (a4 q hq).2⟩⟩
  · exact .inl rfl

theorem sh_mk {n m : Int} {g : List Int} (hm : 1 ≤ m ∧ m ≤ 12) (hl : (g.length : Int) = n) (hg : ∀ x ∈ g, 0 ≤ x ∧ x ≤ m - 1) : shiftB n m g = true := by
  simp only [shiftB, numsB, allW, Bool.and_eq_true, decide_eq_true_eq, List.all_eq_true]
  exact ⟨hm, hg, hl⟩

theorem mix_get (A B : List Int) (y : Nat) (hA : y ≤ A.length) (hB : y < B.length) : (A.take y ++ B.drop y).getD y 0 = B.getD y 0 := by
  rw [drop_cons' B 0 y hB, at_getD _ _ _ _ _ (by rw [List.length_take]; omega)]

theorem mix_set (A B : List Int) (y : Nat) (hA : y < A.length) (hB : y < B.length) : (A.take y ++ B.drop y).set y (A.getD y 0) = A.take (y + 1) ++ B.drop (y + 1) := by
  rw [drop_cons' B 0 y hB, at_set _ _ _ _ _ (by rw [List.length_take]; omega), ← take_snoc A 0 y hA, List.append_assoc]; rfl

def l14Shape_p (code : List Int) (a : Int) (h : Int) (t : List (List Int)) (m : Int) : Post := ⟨bytesB code ∧ code.length ≤ 4096 ∧ 0 ≤ a ∧ a ≤ (code.length : Int) ∧ t.length ≤ 12 ∧ roomR t ∧ -1000 ≤ m ∧ m ≤ 1000, .c (.cut ((shF code t m a h).2.1) ((shF code t m a h).1.length - (shF code t m a h).2.1) 46 2 .i64 ((shF code t m a h).1)), [.bx [.ints .u8 (code), .int .i64 ((shF code t m a h).2.2.1), .int .u64 ((shF code t m a h).2.2.2)]]⟩
def l14Shape_ct : List AD → Option Post
  | [.box [.ints .u8 (code), .int .i64 (a), .int .u64 (h)], .c (.rows .i64 (t)), .c (.int .i64 (m))] => some (l14Shape_p code a h t m)
  | _ => none
def l14Shape_ann (code : List Int) (a : Int) (h : Int) (t : List (List Int)) (m : Int) : Nat → Option Ann
  | 0 => some (Ann.mk ((Nat) × (List (List Int)) × (Int) × (Int)) (fun x => match x with | (i, l, b, g) => ⟨[(0, .c (.ptr 700 0)), (2, .c (.int .i64 (m))), (7, .c (.int .i64 ((t.length : Int)))), (8, .c (.own (18))), (9, .c (.int .i64 ((i : Int))))], [(700, some (.box [.orig 700 0 (.ints .u8 (code)), .int .i64 (b), .int .u64 (g)])), (18, some (.rows 0 46 2 .i64 (l)))]⟩) (fun x => match x with | (i, l, b, g) => i ≤ t.length ∧ l.length = i ∧ 0 ≤ b ∧ b ≤ (code.length : Int) ∧ shF code t m a h = shR (drwS code m t.length (t.length - i) (l, b, g))) (fun x => match x with | (i, l, b, g) => t.length - i) (fun _ => noAnn))
  | 2 => some (Ann.mk ((Nat) × (List Int) × (List Int) × (List Int) × (Int) × (Int)) (fun x => match x with | (x, g, lb, w, b, k) => ⟨[(0, .c (.ptr 700 0)), (2, .c (.int .i64 (m))), (7, .c (.int .i64 ((t.length : Int)))), (8, .c (.own (51))), (10, .c (.own (57))), (11, .c (.own (63))), (12, .c (.int .i64 ((x : Int))))], [(700, some (.box [.orig 700 0 (.ints .u8 (code)), .int .i64 (b), .int .u64 (k)])), (51, some (.rows 0 46 2 .i64 ((tabR t.length (shW t m g lb w)).take x ++ (tabR t.length (cbF t m g)).drop x))), (57, some (.ints 2 .i64 (lb))), (63, some (.ints 2 .i64 (w)))]⟩) (fun x => match x with | (x, g, lb, w, b, k) => x ≤ t.length ∧ tabB t = true ∧ shiftB (t.length : Int) m g = true ∧ lbOk t.length lb ∧ shiftB ((t.length * t.length : Nat) : Int) m w = true ∧ 0 ≤ b ∧ b ≤ (code.length : Int) ∧ shF code t m a h = shE code t.length m (tabR t.length (shW t m g lb w), b, k)) (fun x => match x with | (x, g, lb, w, b, k) => t.length - x) (fun x => match x with | (x, g, lb, w, b, k) => fun b_ => match b_ with | 4 => some (Ann.mk ((Nat)) (fun y => ⟨[(0, .c (.ptr 700 0)), (2, .c (.int .i64 (m))), (7, .c (.int .i64 ((t.length : Int)))), (8, .c (.own (51))), (10, .c (.own (57))), (11, .c (.own (63))), (12, .c (.int .i64 ((x : Int)))), (13, .c (.row 51 0 (Int.toNat (x : Int)))), (14, .c (.int .i64 ((y : Int))))], [(700, some (.box [.orig 700 0 (.ints .u8 (code)), .int .i64 (b), .int .u64 (k)])), (51, some (.rows 0 46 2 .i64 ((tabR t.length (shW t m g lb w)).take x ++ ((tab t.length (shW t m g lb w x)).take y ++ (tab t.length (cbF t m g x)).drop y) :: (tabR t.length (cbF t m g)).drop (x + 1)))), (57, some (.ints 2 .i64 (lb))), (63, some (.ints 2 .i64 (w)))]⟩) (fun y => y ≤ t.length ∧ x < t.length) (fun y => t.length - y) (fun _ => noAnn)) | _ => none))
  | _ => none
def l14Shape_G : List (Nat × Ctr) := [(85, ⟨[(0, 0)], l01Next_ct⟩), (60, ⟨[(0, 0)], l01Pick_ct⟩), (93, ⟨[], l01Table_ct⟩), (65, ⟨[], l01In_ct⟩), (142, ⟨[(0, 0)], l14DrawList_ct⟩), (143, ⟨[], l14Bound_ct⟩), (144, ⟨[], l01Rows_ct⟩), (145, ⟨[], l01Orbits_ct⟩)]
def l14Shape_V (code : List Int) (a : Int) (h : Int) (t : List (List Int)) (m : Int) : Prop :=
  (((roomR t) ∧
 (True)) ∧
 (BrP (!tabB t)
 ((∃ x0 : Nat × List (List Int) × Int × Int, (((Prod.fst x0 ≤ List.length t) ∧
 ((List.length (Prod.fst x0.2) = Prod.fst x0) ∧
 (((0 : Int) ≤ Prod.fst x0.2.2) ∧
 ((Prod.fst x0.2.2 ≤ (↑(List.length code) : Int)) ∧
 (shF code t m a h = shR (drwS code m (List.length t) (List.length t - Prod.fst x0) (Prod.fst x0.2, Prod.fst x0.2.2, Prod.snd x0.2.2))))))) ∧
 ((m = m) ∧
 (((↑(List.length t) : Int) = (↑(List.length t) : Int)) ∧
 (((0 : Int) = (↑x0.1 : Int)) ∧
 ((code = code) ∧
 ((a = x0.2.2.1) ∧
 ((h = x0.2.2.2) ∧
 ([] = x0.2.1))))))))) ∧
 (∀ x1 : Nat × List (List Int) × Int × Int, (((Prod.fst x1 ≤ List.length t) ∧
 ((List.length (Prod.fst x1.2) = Prod.fst x1) ∧
 (((0 : Int) ≤ Prod.fst x1.2.2) ∧
 ((Prod.fst x1.2.2 ≤ (↑(List.length code) : Int)) ∧
 (shF code t m a h = shR (drwS code m (List.length t) (List.length t - Prod.fst x1) (Prod.fst x1.2, Prod.fst x1.2.2, Prod.snd x1.2.2))))))) →
 (BrP (Decidable.decide ((↑x1.1 : Int) < (↑(List.length t) : Int)))
 ((((bytesB code) ∧
 (((0 : Int) ≤ x1.2.2.1) ∧
 ((x1.2.2.1 ≤ (↑(List.length code) : Int)) ∧
 ((List.length code ≤ (4096 : Nat)) ∧
 (((↑(List.length t) : Int) ≤ (1000000 : Int)) ∧
 ((-1000000 : Int) ≤ (↑(List.length t) : Int))))))) ∧
 ((code = code) ∧
 (True))) ∧
 ((room (List.length x1.2.1 + List.length [Prod.fst (lsS code m (Int.toNat (↑(List.length t) : Int)) ([], x1.2.2.1, x1.2.2.2))])) ∧
 ((InR ((↑x1.1 : Int) + (1 : Int))) ∧
 (∃ x2 : Nat × List (List Int) × Int × Int, (((Prod.fst x2 ≤ List.length t) ∧
 ((List.length (Prod.fst x2.2) = Prod.fst x2) ∧
 (((0 : Int) ≤ Prod.fst x2.2.2) ∧
 ((Prod.fst x2.2.2 ≤ (↑(List.length code) : Int)) ∧
 (shF code t m a h = shR (drwS code m (List.length t) (List.length t - Prod.fst x2) (Prod.fst x2.2, Prod.fst x2.2.2, Prod.snd x2.2.2))))))) ∧
 ((List.length t - Prod.fst x2 < List.length t - Prod.fst x1) ∧
 ((m = m) ∧
 (((↑(List.length t) : Int) = (↑(List.length t) : Int)) ∧
 (((↑x1.1 : Int) + (1 : Int) = (↑x2.1 : Int)) ∧
 ((code = code) ∧
 ((Prod.fst (Prod.snd (lsS code m (Int.toNat (↑(List.length t) : Int)) ([], x1.2.2.1, x1.2.2.2))) = x2.2.2.1) ∧
 ((Prod.snd (Prod.snd (lsS code m (Int.toNat (↑(List.length t) : Int)) ([], x1.2.2.1, x1.2.2.2))) = x2.2.2.2) ∧
 (x1.2.1 ++ [Prod.fst (lsS code m (Int.toNat (↑(List.length t) : Int)) ([], x1.2.2.1, x1.2.2.2))] = x2.2.1)))))))))))))
 ((((0 : Nat) = Prod.fst (Prod.snd (shF code t m a h))) ∧
 ((List.length x1.2.1 = List.length (Prod.fst (shF code t m a h)) - Prod.fst (Prod.snd (shF code t m a h))) ∧
 (x1.2.1 = Prod.fst (shF code t m a h)))) ∧
 (((code = code) ∧
 ((x1.2.2.1 = Prod.fst (Prod.snd (Prod.snd (shF code t m a h)))) ∧
 ((x1.2.2.2 = Prod.snd (Prod.snd (Prod.snd (shF code t m a h)))) ∧
 (True)))) ∧
 (True)))))))
 (((True) ∧
 (True)) ∧
 (BrP (!Decidable.decide ((1 : Int) ≤ m ∧ m ≤ (12 : Int)))
 ((∃ x3 : Nat × List (List Int) × Int × Int, (((Prod.fst x3 ≤ List.length t) ∧
 ((List.length (Prod.fst x3.2) = Prod.fst x3) ∧
 (((0 : Int) ≤ Prod.fst x3.2.2) ∧
 ((Prod.fst x3.2.2 ≤ (↑(List.length code) : Int)) ∧
 (shF code t m a h = shR (drwS code m (List.length t) (List.length t - Prod.fst x3) (Prod.fst x3.2, Prod.fst x3.2.2, Prod.snd x3.2.2))))))) ∧
 ((m = m) ∧
 (((↑(List.length t) : Int) = (↑(List.length t) : Int)) ∧
 (((0 : Int) = (↑x3.1 : Int)) ∧
 ((code = code) ∧
 ((a = x3.2.2.1) ∧
 ((h = x3.2.2.2) ∧
 ([] = x3.2.1))))))))) ∧
 (∀ x4 : Nat × List (List Int) × Int × Int, (((Prod.fst x4 ≤ List.length t) ∧
 ((List.length (Prod.fst x4.2) = Prod.fst x4) ∧
 (((0 : Int) ≤ Prod.fst x4.2.2) ∧
 ((Prod.fst x4.2.2 ≤ (↑(List.length code) : Int)) ∧
 (shF code t m a h = shR (drwS code m (List.length t) (List.length t - Prod.fst x4) (Prod.fst x4.2, Prod.fst x4.2.2, Prod.snd x4.2.2))))))) →
 (BrP (Decidable.decide ((↑x4.1 : Int) < (↑(List.length t) : Int)))
 ((((bytesB code) ∧
 (((0 : Int) ≤ x4.2.2.1) ∧
 ((x4.2.2.1 ≤ (↑(List.length code) : Int)) ∧
 ((List.length code ≤ (4096 : Nat)) ∧
 (((↑(List.length t) : Int) ≤ (1000000 : Int)) ∧
 ((-1000000 : Int) ≤ (↑(List.length t) : Int))))))) ∧
 ((code = code) ∧
 (True))) ∧
 ((room (List.length x4.2.1 + List.length [Prod.fst (lsS code m (Int.toNat (↑(List.length t) : Int)) ([], x4.2.2.1, x4.2.2.2))])) ∧
 ((InR ((↑x4.1 : Int) + (1 : Int))) ∧
 (∃ x5 : Nat × List (List Int) × Int × Int, (((Prod.fst x5 ≤ List.length t) ∧
 ((List.length (Prod.fst x5.2) = Prod.fst x5) ∧
 (((0 : Int) ≤ Prod.fst x5.2.2) ∧
 ((Prod.fst x5.2.2 ≤ (↑(List.length code) : Int)) ∧
 (shF code t m a h = shR (drwS code m (List.length t) (List.length t - Prod.fst x5) (Prod.fst x5.2, Prod.fst x5.2.2, Prod.snd x5.2.2))))))) ∧
 ((List.length t - Prod.fst x5 < List.length t - Prod.fst x4) ∧
 ((m = m) ∧
 (((↑(List.length t) : Int) = (↑(List.length t) : Int)) ∧
 (((↑x4.1 : Int) + (1 : Int) = (↑x5.1 : Int)) ∧
 ((code = code) ∧
 ((Prod.fst (Prod.snd (lsS code m (Int.toNat (↑(List.length t) : Int)) ([], x4.2.2.1, x4.2.2.2))) = x5.2.2.1) ∧
 ((Prod.snd (Prod.snd (lsS code m (Int.toNat (↑(List.length t) : Int)) ([], x4.2.2.1, x4.2.2.2))) = x5.2.2.2) ∧
 (x4.2.1 ++ [Prod.fst (lsS code m (Int.toNat (↑(List.length t) : Int)) ([], x4.2.2.1, x4.2.2.2))] = x5.2.1)))))))))))))
 ((((0 : Nat) = Prod.fst (Prod.snd (shF code t m a h))) ∧
 ((List.length x4.2.1 = List.length (Prod.fst (shF code t m a h)) - Prod.fst (Prod.snd (shF code t m a h))) ∧
 (x4.2.1 = Prod.fst (shF code t m a h)))) ∧
 (((code = code) ∧
 ((x4.2.2.1 = Prod.fst (Prod.snd (Prod.snd (shF code t m a h)))) ∧
 ((x4.2.2.2 = Prod.snd (Prod.snd (Prod.snd (shF code t m a h)))) ∧
 (True)))) ∧
 (True)))))))
 ((((bytesB code) ∧
 (((0 : Int) ≤ a) ∧
 (a ≤ (1099511627776 : Int)))) ∧
 ((code = code) ∧
 (True))) ∧
 (BrP (nxV code a h (5 : Int) == (0 : Int))
 ((∃ x6 : Nat × List (List Int) × Int × Int, (((Prod.fst x6 ≤ List.length t) ∧
 ((List.length (Prod.fst x6.2) = Prod.fst x6) ∧
 (((0 : Int) ≤ Prod.fst x6.2.2) ∧
 ((Prod.fst x6.2.2 ≤ (↑(List.length code) : Int)) ∧
 (shF code t m a h = shR (drwS code m (List.length t) (List.length t - Prod.fst x6) (Prod.fst x6.2, Prod.fst x6.2.2, Prod.snd x6.2.2))))))) ∧
 ((m = m) ∧
 (((↑(List.length t) : Int) = (↑(List.length t) : Int)) ∧
 (((0 : Int) = (↑x6.1 : Int)) ∧
 ((code = code) ∧
 ((nxA (List.length code) a (5 : Int) = x6.2.2.1) ∧
 ((nxH h (5 : Int) = x6.2.2.2) ∧
 ([] = x6.2.1))))))))) ∧
 (∀ x7 : Nat × List (List Int) × Int × Int, (((Prod.fst x7 ≤ List.length t) ∧
 ((List.length (Prod.fst x7.2) = Prod.fst x7) ∧
 (((0 : Int) ≤ Prod.fst x7.2.2) ∧
 ((Prod.fst x7.2.2 ≤ (↑(List.length code) : Int)) ∧
 (shF code t m a h = shR (drwS code m (List.length t) (List.length t - Prod.fst x7) (Prod.fst x7.2, Prod.fst x7.2.2, Prod.snd x7.2.2))))))) →
 (BrP (Decidable.decide ((↑x7.1 : Int) < (↑(List.length t) : Int)))
 ((((bytesB code) ∧
 (((0 : Int) ≤ x7.2.2.1) ∧
 ((x7.2.2.1 ≤ (↑(List.length code) : Int)) ∧
 ((List.length code ≤ (4096 : Nat)) ∧
 (((↑(List.length t) : Int) ≤ (1000000 : Int)) ∧
 ((-1000000 : Int) ≤ (↑(List.length t) : Int))))))) ∧
 ((code = code) ∧
 (True))) ∧
 ((room (List.length x7.2.1 + List.length [Prod.fst (lsS code m (Int.toNat (↑(List.length t) : Int)) ([], x7.2.2.1, x7.2.2.2))])) ∧
 ((InR ((↑x7.1 : Int) + (1 : Int))) ∧
 (∃ x8 : Nat × List (List Int) × Int × Int, (((Prod.fst x8 ≤ List.length t) ∧
 ((List.length (Prod.fst x8.2) = Prod.fst x8) ∧
 (((0 : Int) ≤ Prod.fst x8.2.2) ∧
 ((Prod.fst x8.2.2 ≤ (↑(List.length code) : Int)) ∧
 (shF code t m a h = shR (drwS code m (List.length t) (List.length t - Prod.fst x8) (Prod.fst x8.2, Prod.fst x8.2.2, Prod.snd x8.2.2))))))) ∧
 ((List.length t - Prod.fst x8 < List.length t - Prod.fst x7) ∧
 ((m = m) ∧
 (((↑(List.length t) : Int) = (↑(List.length t) : Int)) ∧
 (((↑x7.1 : Int) + (1 : Int) = (↑x8.1 : Int)) ∧
 ((code = code) ∧
 ((Prod.fst (Prod.snd (lsS code m (Int.toNat (↑(List.length t) : Int)) ([], x7.2.2.1, x7.2.2.2))) = x8.2.2.1) ∧
 ((Prod.snd (Prod.snd (lsS code m (Int.toNat (↑(List.length t) : Int)) ([], x7.2.2.1, x7.2.2.2))) = x8.2.2.2) ∧
 (x7.2.1 ++ [Prod.fst (lsS code m (Int.toNat (↑(List.length t) : Int)) ([], x7.2.2.1, x7.2.2.2))] = x8.2.1)))))))))))))
 ((((0 : Nat) = Prod.fst (Prod.snd (shF code t m a h))) ∧
 ((List.length x7.2.1 = List.length (Prod.fst (shF code t m a h)) - Prod.fst (Prod.snd (shF code t m a h))) ∧
 (x7.2.1 = Prod.fst (shF code t m a h)))) ∧
 (((code = code) ∧
 ((x7.2.2.1 = Prod.fst (Prod.snd (Prod.snd (shF code t m a h)))) ∧
 ((x7.2.2.2 = Prod.snd (Prod.snd (Prod.snd (shF code t m a h)))) ∧
 (True)))) ∧
 (True)))))))
 ((((bytesB code) ∧
 (((0 : Int) ≤ nxA (List.length code) a (5 : Int)) ∧
 ((nxA (List.length code) a (5 : Int) ≤ (↑(List.length code) : Int)) ∧
 ((List.length code ≤ (4096 : Nat)) ∧
 (((↑(List.length t) : Int) ≤ (1000000 : Int)) ∧
 ((-1000000 : Int) ≤ (↑(List.length t) : Int))))))) ∧
 ((code = code) ∧
 (True))) ∧
 ((((tabB t = Bool.true) ∧
 (shiftB (↑(List.length t) : Int) m (Prod.fst (lsS code m (Int.toNat (↑(List.length t) : Int)) ([], nxA (List.length code) a (5 : Int), nxH h (5 : Int)))) = Bool.true)) ∧
 (True)) ∧
 (((tabB t = Bool.true) ∧
 (True)) ∧
 (BrP (List.all t permB)
 ((((tabB t = Bool.true) ∧
 ((↑(List.length t) : Int) = (↑(List.length t) : Int))) ∧
 (True)) ∧
 ((InR ((↑(List.length t) : Int) * (↑(List.length t) : Int))) ∧
 ((((bytesB code) ∧
 (((0 : Int) ≤ Prod.fst (Prod.snd (lsS code m (Int.toNat (↑(List.length t) : Int)) ([], nxA (List.length code) a (5 : Int), nxH h (5 : Int))))) ∧
 ((Prod.fst (Prod.snd (lsS code m (Int.toNat (↑(List.length t) : Int)) ([], nxA (List.length code) a (5 : Int), nxH h (5 : Int)))) ≤ (↑(List.length code) : Int)) ∧
 ((List.length code ≤ (4096 : Nat)) ∧
 (((↑(List.length t) : Int) * (↑(List.length t) : Int) ≤ (1000000 : Int)) ∧
 ((-1000000 : Int) ≤ (↑(List.length t) : Int) * (↑(List.length t) : Int))))))) ∧
 ((code = code) ∧
 (True))) ∧
 ((∃ x9 : Nat × List Int × List Int × List Int × Int × Int, (((Prod.fst x9 ≤ List.length t) ∧
 ((tabB t = Bool.true) ∧
 ((shiftB (↑(List.length t) : Int) m (Prod.fst x9.2) = Bool.true) ∧
 ((lbOk (List.length t) (Prod.fst x9.2.2)) ∧
 ((shiftB (↑(List.length t * List.length t) : Int) m (Prod.fst x9.2.2.2) = Bool.true) ∧
 (((0 : Int) ≤ Prod.fst x9.2.2.2.2) ∧
 ((Prod.fst x9.2.2.2.2 ≤ (↑(List.length code) : Int)) ∧
 (shF code t m a h = shE code (↑(List.length t) : Int) m (tabR (List.length t) (shW t m (Prod.fst x9.2) (Prod.fst x9.2.2) (Prod.fst x9.2.2.2)), Prod.fst x9.2.2.2.2, Prod.snd x9.2.2.2.2))))))))) ∧
 ((m = m) ∧
 (((↑(List.length t) : Int) = (↑(List.length t) : Int)) ∧
 (((0 : Int) = (↑x9.1 : Int)) ∧
 ((code = code) ∧
 ((Prod.fst (Prod.snd (lsS code m (Int.toNat ((↑(List.length t) : Int) * (↑(List.length t) : Int))) ([], Prod.fst (Prod.snd (lsS code m (Int.toNat (↑(List.length t) : Int)) ([], nxA (List.length code) a (5 : Int), nxH h (5 : Int)))), Prod.snd (Prod.snd (lsS code m (Int.toNat (↑(List.length t) : Int)) ([], nxA (List.length code) a (5 : Int), nxH h (5 : Int))))))) = x9.2.2.2.2.1) ∧
 ((Prod.snd (Prod.snd (lsS code m (Int.toNat ((↑(List.length t) : Int) * (↑(List.length t) : Int))) ([], Prod.fst (Prod.snd (lsS code m (Int.toNat (↑(List.length t) : Int)) ([], nxA (List.length code) a (5 : Int), nxH h (5 : Int)))), Prod.snd (Prod.snd (lsS code m (Int.toNat (↑(List.length t) : Int)) ([], nxA (List.length code) a (5 : Int), nxH h (5 : Int))))))) = x9.2.2.2.2.2) ∧
 ((tabR (List.length t) (cbF t m (Prod.fst (lsS code m (Int.toNat (↑(List.length t) : Int)) ([], nxA (List.length code) a (5 : Int), nxH h (5 : Int))))) = List.take x9.1 (tabR (List.length t) (shW t m x9.2.1 x9.2.2.1 x9.2.2.2.1)) ++ List.drop x9.1 (tabR (List.length t) (cbF t m x9.2.1))) ∧
 ((Prod.fst (obN t (List.length t)) = x9.2.2.1) ∧
 (Prod.fst (lsS code m (Int.toNat ((↑(List.length t) : Int) * (↑(List.length t) : Int))) ([], Prod.fst (Prod.snd (lsS code m (Int.toNat (↑(List.length t) : Int)) ([], nxA (List.length code) a (5 : Int), nxH h (5 : Int)))), Prod.snd (Prod.snd (lsS code m (Int.toNat (↑(List.length t) : Int)) ([], nxA (List.length code) a (5 : Int), nxH h (5 : Int)))))) = x9.2.2.2.1))))))))))) ∧
 (∀ x10 : Nat × List Int × List Int × List Int × Int × Int, (((Prod.fst x10 ≤ List.length t) ∧
 ((tabB t = Bool.true) ∧
 ((shiftB (↑(List.length t) : Int) m (Prod.fst x10.2) = Bool.true) ∧
 ((lbOk (List.length t) (Prod.fst x10.2.2)) ∧
 ((shiftB (↑(List.length t * List.length t) : Int) m (Prod.fst x10.2.2.2) = Bool.true) ∧
 (((0 : Int) ≤ Prod.fst x10.2.2.2.2) ∧
 ((Prod.fst x10.2.2.2.2 ≤ (↑(List.length code) : Int)) ∧
 (shF code t m a h = shE code (↑(List.length t) : Int) m (tabR (List.length t) (shW t m (Prod.fst x10.2) (Prod.fst x10.2.2) (Prod.fst x10.2.2.2)), Prod.fst x10.2.2.2.2, Prod.snd x10.2.2.2.2))))))))) →
 (BrP (Decidable.decide ((↑x10.1 : Int) < (↑(List.length t) : Int)))
 ((inB (↑x10.1 : Int) (List.length (List.take x10.1 (tabR (List.length t) (shW t m x10.2.1 x10.2.2.1 x10.2.2.2.1)) ++ List.drop x10.1 (tabR (List.length t) (cbF t m x10.2.1))))) ∧
 ((∃ x11 : Nat, (((x11 ≤ List.length t) ∧
 (x10.1 < List.length t)) ∧
 ((m = m) ∧
 (((↑(List.length t) : Int) = (↑(List.length t) : Int)) ∧
 (((↑x10.1 : Int) = (↑x10.1 : Int)) ∧
 ((Int.toNat (↑x10.1 : Int) = Int.toNat (↑x10.1 : Int)) ∧
 (((0 : Int) = (↑x11 : Int)) ∧
 ((code = code) ∧
 ((x10.2.2.2.2.1 = x10.2.2.2.2.1) ∧
 ((x10.2.2.2.2.2 = x10.2.2.2.2.2) ∧
 ((List.take x10.1 (tabR (List.length t) (shW t m x10.2.1 x10.2.2.1 x10.2.2.2.1)) ++ List.drop x10.1 (tabR (List.length t) (cbF t m x10.2.1)) = List.take x10.1 (tabR (List.length t) (shW t m x10.2.1 x10.2.2.1 x10.2.2.2.1)) ++ (List.take x11 (tab (List.length t) (shW t m x10.2.1 x10.2.2.1 x10.2.2.2.1 x10.1)) ++ List.drop x11 (tab (List.length t) (cbF t m x10.2.1 x10.1))) :: List.drop (x10.1 + (1 : Nat)) (tabR (List.length t) (cbF t m x10.2.1))) ∧
 ((x10.2.2.1 = x10.2.2.1) ∧
 (x10.2.2.2.1 = x10.2.2.2.1))))))))))))) ∧
 (∀ x12 : Nat, (((x12 ≤ List.length t) ∧
 (x10.1 < List.length t)) →
 (BrP (Decidable.decide ((↑x12 : Int) < (↑(List.length t) : Int)))
 (BrP (Decidable.decide ((0 : Int) < (↑(List.length x10.2.2.1) : Int)))
 ((inB (↑x12 : Int) (List.length (List.getD (List.take x10.1 (tabR (List.length t) (shW t m x10.2.1 x10.2.2.1 x10.2.2.2.1)) ++ (List.take x12 (tab (List.length t) (shW t m x10.2.1 x10.2.2.1 x10.2.2.2.1 x10.1)) ++ List.drop x12 (tab (List.length t) (cbF t m x10.2.1 x10.1))) :: List.drop (x10.1 + (1 : Nat)) (tabR (List.length t) (cbF t m x10.2.1))) (Int.toNat (↑x10.1 : Int)) []))) ∧
 ((inB (↑x10.1 : Int) (List.length x10.2.2.1)) ∧
 ((InR (List.getD x10.2.2.1 (Int.toNat (↑x10.1 : Int)) (0 : Int) * (↑(List.length t) : Int))) ∧
 ((inB (↑x12 : Int) (List.length x10.2.2.1)) ∧
 ((InR (List.getD x10.2.2.1 (Int.toNat (↑x10.1 : Int)) (0 : Int) * (↑(List.length t) : Int) + List.getD x10.2.2.1 (Int.toNat (↑x12 : Int)) (0 : Int))) ∧
 ((inB (List.getD x10.2.2.1 (Int.toNat (↑x10.1 : Int)) (0 : Int) * (↑(List.length t) : Int) + List.getD x10.2.2.1 (Int.toNat (↑x12 : Int)) (0 : Int)) (List.length x10.2.2.2.1)) ∧
 ((InR (List.getD (List.getD (List.take x10.1 (tabR (List.length t) (shW t m x10.2.1 x10.2.2.1 x10.2.2.2.1)) ++ (List.take x12 (tab (List.length t) (shW t m x10.2.1 x10.2.2.1 x10.2.2.2.1 x10.1)) ++ List.drop x12 (tab (List.length t) (cbF t m x10.2.1 x10.1))) :: List.drop (x10.1 + (1 : Nat)) (tabR (List.length t) (cbF t m x10.2.1))) (Int.toNat (↑x10.1 : Int)) []) (Int.toNat (↑x12 : Int)) (0 : Int) + List.getD x10.2.2.2.1 (Int.toNat (List.getD x10.2.2.1 (Int.toNat (↑x10.1 : Int)) (0 : Int) * (↑(List.length t) : Int) + List.getD x10.2.2.1 (Int.toNat (↑x12 : Int)) (0 : Int))) (0 : Int))) ∧
 ((m ≠ (0 : Int)) ∧
 ((inB (↑x12 : Int) (List.length (List.getD (List.take x10.1 (tabR (List.length t) (shW t m x10.2.1 x10.2.2.1 x10.2.2.2.1)) ++ (List.take x12 (tab (List.length t) (shW t m x10.2.1 x10.2.2.1 x10.2.2.2.1 x10.1)) ++ List.drop x12 (tab (List.length t) (cbF t m x10.2.1 x10.1))) :: List.drop (x10.1 + (1 : Nat)) (tabR (List.length t) (cbF t m x10.2.1))) (Int.toNat (↑x10.1 : Int)) []))) ∧
 ((InR ((↑x12 : Int) + (1 : Int))) ∧
 (∃ x13 : Nat, (((x13 ≤ List.length t) ∧
 (x10.1 < List.length t)) ∧
 ((List.length t - x13 < List.length t - x12) ∧
 ((m = m) ∧
 (((↑(List.length t) : Int) = (↑(List.length t) : Int)) ∧
 (((↑x10.1 : Int) = (↑x10.1 : Int)) ∧
 ((Int.toNat (↑x10.1 : Int) = Int.toNat (↑x10.1 : Int)) ∧
 (((↑x12 : Int) + (1 : Int) = (↑x13 : Int)) ∧
 ((code = code) ∧
 ((x10.2.2.2.2.1 = x10.2.2.2.2.1) ∧
 ((x10.2.2.2.2.2 = x10.2.2.2.2.2) ∧
 ((List.set (List.take x10.1 (tabR (List.length t) (shW t m x10.2.1 x10.2.2.1 x10.2.2.2.1)) ++ (List.take x12 (tab (List.length t) (shW t m x10.2.1 x10.2.2.1 x10.2.2.2.1 x10.1)) ++ List.drop x12 (tab (List.length t) (cbF t m x10.2.1 x10.1))) :: List.drop (x10.1 + (1 : Nat)) (tabR (List.length t) (cbF t m x10.2.1))) (Int.toNat (↑x10.1 : Int)) (List.set (List.getD (List.take x10.1 (tabR (List.length t) (shW t m x10.2.1 x10.2.2.1 x10.2.2.2.1)) ++ (List.take x12 (tab (List.length t) (shW t m x10.2.1 x10.2.2.1 x10.2.2.2.1 x10.1)) ++ List.drop x12 (tab (List.length t) (cbF t m x10.2.1 x10.1))) :: List.drop (x10.1 + (1 : Nat)) (tabR (List.length t) (cbF t m x10.2.1))) (Int.toNat (↑x10.1 : Int)) []) (Int.toNat (↑x12 : Int)) (Int.tmod (List.getD (List.getD (List.take x10.1 (tabR (List.length t) (shW t m x10.2.1 x10.2.2.1 x10.2.2.2.1)) ++ (List.take x12 (tab (List.length t) (shW t m x10.2.1 x10.2.2.1 x10.2.2.2.1 x10.1)) ++ List.drop x12 (tab (List.length t) (cbF t m x10.2.1 x10.1))) :: List.drop (x10.1 + (1 : Nat)) (tabR (List.length t) (cbF t m x10.2.1))) (Int.toNat (↑x10.1 : Int)) []) (Int.toNat (↑x12 : Int)) (0 : Int) + List.getD x10.2.2.2.1 (Int.toNat (List.getD x10.2.2.1 (Int.toNat (↑x10.1 : Int)) (0 : Int) * (↑(List.length t) : Int) + List.getD x10.2.2.1 (Int.toNat (↑x12 : Int)) (0 : Int))) (0 : Int)) m)) = List.take x10.1 (tabR (List.length t) (shW t m x10.2.1 x10.2.2.1 x10.2.2.2.1)) ++ (List.take x13 (tab (List.length t) (shW t m x10.2.1 x10.2.2.1 x10.2.2.2.1 x10.1)) ++ List.drop x13 (tab (List.length t) (cbF t m x10.2.1 x10.1))) :: List.drop (x10.1 + (1 : Nat)) (tabR (List.length t) (cbF t m x10.2.1))) ∧
 ((x10.2.2.1 = x10.2.2.1) ∧
 (x10.2.2.2.1 = x10.2.2.2.1))))))))))))))))))))))))
 ((InR ((↑x12 : Int) + (1 : Int))) ∧
 (∃ x14 : Nat, (((x14 ≤ List.length t) ∧
 (x10.1 < List.length t)) ∧
 ((List.length t - x14 < List.length t - x12) ∧
 ((m = m) ∧
 (((↑(List.length t) : Int) = (↑(List.length t) : Int)) ∧
 (((↑x10.1 : Int) = (↑x10.1 : Int)) ∧
 ((Int.toNat (↑x10.1 : Int) = Int.toNat (↑x10.1 : Int)) ∧
 (((↑x12 : Int) + (1 : Int) = (↑x14 : Int)) ∧
 ((code = code) ∧
 ((x10.2.2.2.2.1 = x10.2.2.2.2.1) ∧
 ((x10.2.2.2.2.2 = x10.2.2.2.2.2) ∧
 ((List.take x10.1 (tabR (List.length t) (shW t m x10.2.1 x10.2.2.1 x10.2.2.2.1)) ++ (List.take x12 (tab (List.length t) (shW t m x10.2.1 x10.2.2.1 x10.2.2.2.1 x10.1)) ++ List.drop x12 (tab (List.length t) (cbF t m x10.2.1 x10.1))) :: List.drop (x10.1 + (1 : Nat)) (tabR (List.length t) (cbF t m x10.2.1)) = List.take x10.1 (tabR (List.length t) (shW t m x10.2.1 x10.2.2.1 x10.2.2.2.1)) ++ (List.take x14 (tab (List.length t) (shW t m x10.2.1 x10.2.2.1 x10.2.2.2.1 x10.1)) ++ List.drop x14 (tab (List.length t) (cbF t m x10.2.1 x10.1))) :: List.drop (x10.1 + (1 : Nat)) (tabR (List.length t) (cbF t m x10.2.1))) ∧
 ((x10.2.2.1 = x10.2.2.1) ∧
 (x10.2.2.2.1 = x10.2.2.2.1))))))))))))))))
 ((InR ((↑x10.1 : Int) + (1 : Int))) ∧
 (∃ x15 : Nat × List Int × List Int × List Int × Int × Int, (((Prod.fst x15 ≤ List.length t) ∧
 ((tabB t = Bool.true) ∧
 ((shiftB (↑(List.length t) : Int) m (Prod.fst x15.2) = Bool.true) ∧
 ((lbOk (List.length t) (Prod.fst x15.2.2)) ∧
 ((shiftB (↑(List.length t * List.length t) : Int) m (Prod.fst x15.2.2.2) = Bool.true) ∧
 (((0 : Int) ≤ Prod.fst x15.2.2.2.2) ∧
 ((Prod.fst x15.2.2.2.2 ≤ (↑(List.length code) : Int)) ∧
 (shF code t m a h = shE code (↑(List.length t) : Int) m (tabR (List.length t) (shW t m (Prod.fst x15.2) (Prod.fst x15.2.2) (Prod.fst x15.2.2.2)), Prod.fst x15.2.2.2.2, Prod.snd x15.2.2.2.2))))))))) ∧
 ((List.length t - Prod.fst x15 < List.length t - Prod.fst x10) ∧
 ((m = m) ∧
 (((↑(List.length t) : Int) = (↑(List.length t) : Int)) ∧
 (((↑x10.1 : Int) + (1 : Int) = (↑x15.1 : Int)) ∧
 ((code = code) ∧
 ((x10.2.2.2.2.1 = x15.2.2.2.2.1) ∧
 ((x10.2.2.2.2.2 = x15.2.2.2.2.2) ∧
 ((List.take x10.1 (tabR (List.length t) (shW t m x10.2.1 x10.2.2.1 x10.2.2.2.1)) ++ (List.take x12 (tab (List.length t) (shW t m x10.2.1 x10.2.2.1 x10.2.2.2.1 x10.1)) ++ List.drop x12 (tab (List.length t) (cbF t m x10.2.1 x10.1))) :: List.drop (x10.1 + (1 : Nat)) (tabR (List.length t) (cbF t m x10.2.1)) = List.take x15.1 (tabR (List.length t) (shW t m x15.2.1 x15.2.2.1 x15.2.2.2.1)) ++ List.drop x15.1 (tabR (List.length t) (cbF t m x15.2.1))) ∧
 ((x10.2.2.1 = x15.2.2.1) ∧
 (x10.2.2.2.1 = x15.2.2.2.1))))))))))))))))))
 ((((bytesB code) ∧
 (((0 : Int) ≤ x10.2.2.2.2.1) ∧
 (x10.2.2.2.2.1 ≤ (1099511627776 : Int)))) ∧
 ((code = code) ∧
 (True))) ∧
 (BrP (nxV code x10.2.2.2.2.1 x10.2.2.2.2.2 (12 : Int) == (0 : Int))
 ((((bytesB code) ∧
 (((0 : Int) ≤ nxA (List.length code) x10.2.2.2.2.1 (12 : Int)) ∧
 (nxA (List.length code) x10.2.2.2.2.1 (12 : Int) ≤ (1099511627776 : Int)))) ∧
 ((code = code) ∧
 (True))) ∧
 ((inB (nxV code (nxA (List.length code) x10.2.2.2.2.1 (12 : Int)) (nxH x10.2.2.2.2.2 (12 : Int)) (↑(List.length t) : Int)) (List.length (List.take x10.1 (tabR (List.length t) (shW t m x10.2.1 x10.2.2.1 x10.2.2.2.1)) ++ List.drop x10.1 (tabR (List.length t) (cbF t m x10.2.1))))) ∧
 ((((bytesB code) ∧
 (((0 : Int) ≤ nxA (List.length code) (nxA (List.length code) x10.2.2.2.2.1 (12 : Int)) (↑(List.length t) : Int)) ∧
 (nxA (List.length code) (nxA (List.length code) x10.2.2.2.2.1 (12 : Int)) (↑(List.length t) : Int) ≤ (1099511627776 : Int)))) ∧
 ((code = code) ∧
 (True))) ∧
 ((((bytesB code) ∧
 (((0 : Int) ≤ nxA (List.length code) (nxA (List.length code) (nxA (List.length code) x10.2.2.2.2.1 (12 : Int)) (↑(List.length t) : Int)) (↑(List.length t) : Int)) ∧
 (nxA (List.length code) (nxA (List.length code) (nxA (List.length code) x10.2.2.2.2.1 (12 : Int)) (↑(List.length t) : Int)) (↑(List.length t) : Int) ≤ (1099511627776 : Int)))) ∧
 ((code = code) ∧
 (True))) ∧
 ((inB (nxV code (nxA (List.length code) (nxA (List.length code) x10.2.2.2.2.1 (12 : Int)) (↑(List.length t) : Int)) (nxH (nxH x10.2.2.2.2.2 (12 : Int)) (↑(List.length t) : Int)) (↑(List.length t) : Int)) (List.length (List.getD (List.take x10.1 (tabR (List.length t) (shW t m x10.2.1 x10.2.2.1 x10.2.2.2.1)) ++ List.drop x10.1 (tabR (List.length t) (cbF t m x10.2.1))) (Int.toNat (nxV code (nxA (List.length code) x10.2.2.2.2.1 (12 : Int)) (nxH x10.2.2.2.2.2 (12 : Int)) (↑(List.length t) : Int))) []))) ∧
 ((((0 : Nat) = Prod.fst (Prod.snd (shF code t m a h))) ∧
 ((List.length (List.set (List.take x10.1 (tabR (List.length t) (shW t m x10.2.1 x10.2.2.1 x10.2.2.2.1)) ++ List.drop x10.1 (tabR (List.length t) (cbF t m x10.2.1))) (Int.toNat (nxV code (nxA (List.length code) x10.2.2.2.2.1 (12 : Int)) (nxH x10.2.2.2.2.2 (12 : Int)) (↑(List.length t) : Int))) (List.set (List.getD (List.take x10.1 (tabR (List.length t) (shW t m x10.2.1 x10.2.2.1 x10.2.2.2.1)) ++ List.drop x10.1 (tabR (List.length t) (cbF t m x10.2.1))) (Int.toNat (nxV code (nxA (List.length code) x10.2.2.2.2.1 (12 : Int)) (nxH x10.2.2.2.2.2 (12 : Int)) (↑(List.length t) : Int))) []) (Int.toNat (nxV code (nxA (List.length code) (nxA (List.length code) x10.2.2.2.2.1 (12 : Int)) (↑(List.length t) : Int)) (nxH (nxH x10.2.2.2.2.2 (12 : Int)) (↑(List.length t) : Int)) (↑(List.length t) : Int))) (nxV code (nxA (List.length code) (nxA (List.length code) (nxA (List.length code) x10.2.2.2.2.1 (12 : Int)) (↑(List.length t) : Int)) (↑(List.length t) : Int)) (nxH (nxH (nxH x10.2.2.2.2.2 (12 : Int)) (↑(List.length t) : Int)) (↑(List.length t) : Int)) m))) = List.length (Prod.fst (shF code t m a h)) - Prod.fst (Prod.snd (shF code t m a h))) ∧
 (List.set (List.take x10.1 (tabR (List.length t) (shW t m x10.2.1 x10.2.2.1 x10.2.2.2.1)) ++ List.drop x10.1 (tabR (List.length t) (cbF t m x10.2.1))) (Int.toNat (nxV code (nxA (List.length code) x10.2.2.2.2.1 (12 : Int)) (nxH x10.2.2.2.2.2 (12 : Int)) (↑(List.length t) : Int))) (List.set (List.getD (List.take x10.1 (tabR (List.length t) (shW t m x10.2.1 x10.2.2.1 x10.2.2.2.1)) ++ List.drop x10.1 (tabR (List.length t) (cbF t m x10.2.1))) (Int.toNat (nxV code (nxA (List.length code) x10.2.2.2.2.1 (12 : Int)) (nxH x10.2.2.2.2.2 (12 : Int)) (↑(List.length t) : Int))) []) (Int.toNat (nxV code (nxA (List.length code) (nxA (List.length code) x10.2.2.2.2.1 (12 : Int)) (↑(List.length t) : Int)) (nxH (nxH x10.2.2.2.2.2 (12 : Int)) (↑(List.length t) : Int)) (↑(List.length t) : Int))) (nxV code (nxA (List.length code) (nxA (List.length code) (nxA (List.length code) x10.2.2.2.2.1 (12 : Int)) (↑(List.length t) : Int)) (↑(List.length t) : Int)) (nxH (nxH (nxH x10.2.2.2.2.2 (12 : Int)) (↑(List.length t) : Int)) (↑(List.length t) : Int)) m)) = Prod.fst (shF code t m a h)))) ∧
 (((code = code) ∧
 ((nxA (List.length code) (nxA (List.length code) (nxA (List.length code) (nxA (List.length code) x10.2.2.2.2.1 (12 : Int)) (↑(List.length t) : Int)) (↑(List.length t) : Int)) m = Prod.fst (Prod.snd (Prod.snd (shF code t m a h)))) ∧
 ((nxH (nxH (nxH (nxH x10.2.2.2.2.2 (12 : Int)) (↑(List.length t) : Int)) (↑(List.length t) : Int)) m = Prod.snd (Prod.snd (Prod.snd (shF code t m a h)))) ∧
 (True)))) ∧
 (True))))))))
 (BrP (nxV code x10.2.2.2.2.1 x10.2.2.2.2.2 (12 : Int) == (1 : Int))
 ((inB (0 : Int) (List.length (List.take x10.1 (tabR (List.length t) (shW t m x10.2.1 x10.2.2.1 x10.2.2.2.1)) ++ List.drop x10.1 (tabR (List.length t) (cbF t m x10.2.1))))) ∧
 ((((bytesB code) ∧
 (((0 : Int) ≤ nxA (List.length code) x10.2.2.2.2.1 (12 : Int)) ∧
 ((nxA (List.length code) x10.2.2.2.2.1 (12 : Int) ≤ (1099511627776 : Int)) ∧
 (((1 : Nat) ≤ List.length [(-1 : Int), m]) ∧
 (List.length [(-1 : Int), m] ≤ (100 : Nat)))))) ∧
 ((code = code) ∧
 (True))) ∧
 ((inB (0 : Int) (List.length (List.getD (List.take x10.1 (tabR (List.length t) (shW t m x10.2.1 x10.2.2.1 x10.2.2.2.1)) ++ List.drop x10.1 (tabR (List.length t) (cbF t m x10.2.1))) (0 : Nat) []))) ∧
 ((((0 : Nat) = Prod.fst (Prod.snd (shF code t m a h))) ∧
 ((List.length (List.set (List.take x10.1 (tabR (List.length t) (shW t m x10.2.1 x10.2.2.1 x10.2.2.2.1)) ++ List.drop x10.1 (tabR (List.length t) (cbF t m x10.2.1))) (0 : Nat) (List.set (List.getD (List.take x10.1 (tabR (List.length t) (shW t m x10.2.1 x10.2.2.1 x10.2.2.2.1)) ++ List.drop x10.1 (tabR (List.length t) (cbF t m x10.2.1))) (0 : Nat) []) (0 : Nat) (List.getD [(-1 : Int), m] (Int.toNat (nxV code (nxA (List.length code) x10.2.2.2.2.1 (12 : Int)) (nxH x10.2.2.2.2.2 (12 : Int)) (↑(List.length [(-1 : Int), m]) : Int))) (0 : Int)))) = List.length (Prod.fst (shF code t m a h)) - Prod.fst (Prod.snd (shF code t m a h))) ∧
 (List.set (List.take x10.1 (tabR (List.length t) (shW t m x10.2.1 x10.2.2.1 x10.2.2.2.1)) ++ List.drop x10.1 (tabR (List.length t) (cbF t m x10.2.1))) (0 : Nat) (List.set (List.getD (List.take x10.1 (tabR (List.length t) (shW t m x10.2.1 x10.2.2.1 x10.2.2.2.1)) ++ List.drop x10.1 (tabR (List.length t) (cbF t m x10.2.1))) (0 : Nat) []) (0 : Nat) (List.getD [(-1 : Int), m] (Int.toNat (nxV code (nxA (List.length code) x10.2.2.2.2.1 (12 : Int)) (nxH x10.2.2.2.2.2 (12 : Int)) (↑(List.length [(-1 : Int), m]) : Int))) (0 : Int))) = Prod.fst (shF code t m a h)))) ∧
 (((code = code) ∧
 ((nxA (List.length code) (nxA (List.length code) x10.2.2.2.2.1 (12 : Int)) (↑(List.length [(-1 : Int), m]) : Int) = Prod.fst (Prod.snd (Prod.snd (shF code t m a h)))) ∧
 ((nxH (nxH x10.2.2.2.2.2 (12 : Int)) (↑(List.length [(-1 : Int), m]) : Int) = Prod.snd (Prod.snd (Prod.snd (shF code t m a h)))) ∧
 (True)))) ∧
 (True))))))
 (BrP (nxV code x10.2.2.2.2.1 x10.2.2.2.2.2 (12 : Int) == (2 : Int))
 ((bdsOk (List.length (List.take x10.1 (tabR (List.length t) (shW t m x10.2.1 x10.2.2.1 x10.2.2.2.1)) ++ List.drop x10.1 (tabR (List.length t) (cbF t m x10.2.1)))) (Option.some (1 : Int)) Option.none) ∧
 ((((1 : Nat) = Prod.fst (Prod.snd (shF code t m a h))) ∧
 ((List.length (List.take x10.1 (tabR (List.length t) (shW t m x10.2.1 x10.2.2.1 x10.2.2.2.1)) ++ List.drop x10.1 (tabR (List.length t) (cbF t m x10.2.1))) - Int.toNat (1 : Int) = List.length (Prod.fst (shF code t m a h)) - Prod.fst (Prod.snd (shF code t m a h))) ∧
 (List.take x10.1 (tabR (List.length t) (shW t m x10.2.1 x10.2.2.1 x10.2.2.2.1)) ++ List.drop x10.1 (tabR (List.length t) (cbF t m x10.2.1)) = Prod.fst (shF code t m a h)))) ∧
 (((code = code) ∧
 ((nxA (List.length code) x10.2.2.2.2.1 (12 : Int) = Prod.fst (Prod.snd (Prod.snd (shF code t m a h)))) ∧
 ((nxH x10.2.2.2.2.2 (12 : Int) = Prod.snd (Prod.snd (Prod.snd (shF code t m a h)))) ∧
 (True)))) ∧
 (True))))
 ((((0 : Nat) = Prod.fst (Prod.snd (shF code t m a h))) ∧
 ((List.length (List.take x10.1 (tabR (List.length t) (shW t m x10.2.1 x10.2.2.1 x10.2.2.2.1)) ++ List.drop x10.1 (tabR (List.length t) (cbF t m x10.2.1))) = List.length (Prod.fst (shF code t m a h)) - Prod.fst (Prod.snd (shF code t m a h))) ∧
 (List.take x10.1 (tabR (List.length t) (shW t m x10.2.1 x10.2.2.1 x10.2.2.2.1)) ++ List.drop x10.1 (tabR (List.length t) (cbF t m x10.2.1)) = Prod.fst (shF code t m a h)))) ∧
 (((code = code) ∧
 ((nxA (List.length code) x10.2.2.2.2.1 (12 : Int) = Prod.fst (Prod.snd (Prod.snd (shF code t m a h)))) ∧
 ((nxH x10.2.2.2.2.2 (12 : Int) = Prod.snd (Prod.snd (Prod.snd (shF code t m a h)))) ∧
 (True)))) ∧
 (True))))))))))))))
 ((InR ((↑(List.length t) : Int) * (↑(List.length t) : Int))) ∧
 ((((bytesB code) ∧
 (((0 : Int) ≤ Prod.fst (Prod.snd (lsS code m (Int.toNat (↑(List.length t) : Int)) ([], nxA (List.length code) a (5 : Int), nxH h (5 : Int))))) ∧
 ((Prod.fst (Prod.snd (lsS code m (Int.toNat (↑(List.length t) : Int)) ([], nxA (List.length code) a (5 : Int), nxH h (5 : Int)))) ≤ (↑(List.length code) : Int)) ∧
 ((List.length code ≤ (4096 : Nat)) ∧
 (((↑(List.length t) : Int) * (↑(List.length t) : Int) ≤ (1000000 : Int)) ∧
 ((-1000000 : Int) ≤ (↑(List.length t) : Int) * (↑(List.length t) : Int))))))) ∧
 ((code = code) ∧
 (True))) ∧
 ((∃ x16 : Nat × List Int × List Int × List Int × Int × Int, (((Prod.fst x16 ≤ List.length t) ∧
 ((tabB t = Bool.true) ∧
 ((shiftB (↑(List.length t) : Int) m (Prod.fst x16.2) = Bool.true) ∧
 ((lbOk (List.length t) (Prod.fst x16.2.2)) ∧
 ((shiftB (↑(List.length t * List.length t) : Int) m (Prod.fst x16.2.2.2) = Bool.true) ∧
 (((0 : Int) ≤ Prod.fst x16.2.2.2.2) ∧
 ((Prod.fst x16.2.2.2.2 ≤ (↑(List.length code) : Int)) ∧
 (shF code t m a h = shE code (↑(List.length t) : Int) m (tabR (List.length t) (shW t m (Prod.fst x16.2) (Prod.fst x16.2.2) (Prod.fst x16.2.2.2)), Prod.fst x16.2.2.2.2, Prod.snd x16.2.2.2.2))))))))) ∧
 ((m = m) ∧
 (((↑(List.length t) : Int) = (↑(List.length t) : Int)) ∧
 (((0 : Int) = (↑x16.1 : Int)) ∧
 ((code = code) ∧
 ((Prod.fst (Prod.snd (lsS code m (Int.toNat ((↑(List.length t) : Int) * (↑(List.length t) : Int))) ([], Prod.fst (Prod.snd (lsS code m (Int.toNat (↑(List.length t) : Int)) ([], nxA (List.length code) a (5 : Int), nxH h (5 : Int)))), Prod.snd (Prod.snd (lsS code m (Int.toNat (↑(List.length t) : Int)) ([], nxA (List.length code) a (5 : Int), nxH h (5 : Int))))))) = x16.2.2.2.2.1) ∧
 ((Prod.snd (Prod.snd (lsS code m (Int.toNat ((↑(List.length t) : Int) * (↑(List.length t) : Int))) ([], Prod.fst (Prod.snd (lsS code m (Int.toNat (↑(List.length t) : Int)) ([], nxA (List.length code) a (5 : Int), nxH h (5 : Int)))), Prod.snd (Prod.snd (lsS code m (Int.toNat (↑(List.length t) : Int)) ([], nxA (List.length code) a (5 : Int), nxH h (5 : Int))))))) = x16.2.2.2.2.2) ∧
 ((tabR (List.length t) (cbF t m (Prod.fst (lsS code m (Int.toNat (↑(List.length t) : Int)) ([], nxA (List.length code) a (5 : Int), nxH h (5 : Int))))) = List.take x16.1 (tabR (List.length t) (shW t m x16.2.1 x16.2.2.1 x16.2.2.2.1)) ++ List.drop x16.1 (tabR (List.length t) (cbF t m x16.2.1))) ∧
 (([] = x16.2.2.1) ∧
 (Prod.fst (lsS code m (Int.toNat ((↑(List.length t) : Int) * (↑(List.length t) : Int))) ([], Prod.fst (Prod.snd (lsS code m (Int.toNat (↑(List.length t) : Int)) ([], nxA (List.length code) a (5 : Int), nxH h (5 : Int)))), Prod.snd (Prod.snd (lsS code m (Int.toNat (↑(List.length t) : Int)) ([], nxA (List.length code) a (5 : Int), nxH h (5 : Int)))))) = x16.2.2.2.1))))))))))) ∧
 (∀ x17 : Nat × List Int × List Int × List Int × Int × Int, (((Prod.fst x17 ≤ List.length t) ∧
 ((tabB t = Bool.true) ∧
 ((shiftB (↑(List.length t) : Int) m (Prod.fst x17.2) = Bool.true) ∧
 ((lbOk (List.length t) (Prod.fst x17.2.2)) ∧
 ((shiftB (↑(List.length t * List.length t) : Int) m (Prod.fst x17.2.2.2) = Bool.true) ∧
 (((0 : Int) ≤ Prod.fst x17.2.2.2.2) ∧
 ((Prod.fst x17.2.2.2.2 ≤ (↑(List.length code) : Int)) ∧
 (shF code t m a h = shE code (↑(List.length t) : Int) m (tabR (List.length t) (shW t m (Prod.fst x17.2) (Prod.fst x17.2.2) (Prod.fst x17.2.2.2)), Prod.fst x17.2.2.2.2, Prod.snd x17.2.2.2.2))))))))) →
 (BrP (Decidable.decide ((↑x17.1 : Int) < (↑(List.length t) : Int)))
 ((inB (↑x17.1 : Int) (List.length (List.take x17.1 (tabR (List.length t) (shW t m x17.2.1 x17.2.2.1 x17.2.2.2.1)) ++ List.drop x17.1 (tabR (List.length t) (cbF t m x17.2.1))))) ∧
 ((∃ x18 : Nat, (((x18 ≤ List.length t) ∧
 (x17.1 < List.length t)) ∧
 ((m = m) ∧
 (((↑(List.length t) : Int) = (↑(List.length t) : Int)) ∧
 (((↑x17.1 : Int) = (↑x17.1 : Int)) ∧
 ((Int.toNat (↑x17.1 : Int) = Int.toNat (↑x17.1 : Int)) ∧
 (((0 : Int) = (↑x18 : Int)) ∧
 ((code = code) ∧
 ((x17.2.2.2.2.1 = x17.2.2.2.2.1) ∧
 ((x17.2.2.2.2.2 = x17.2.2.2.2.2) ∧
 ((List.take x17.1 (tabR (List.length t) (shW t m x17.2.1 x17.2.2.1 x17.2.2.2.1)) ++ List.drop x17.1 (tabR (List.length t) (cbF t m x17.2.1)) = List.take x17.1 (tabR (List.length t) (shW t m x17.2.1 x17.2.2.1 x17.2.2.2.1)) ++ (List.take x18 (tab (List.length t) (shW t m x17.2.1 x17.2.2.1 x17.2.2.2.1 x17.1)) ++ List.drop x18 (tab (List.length t) (cbF t m x17.2.1 x17.1))) :: List.drop (x17.1 + (1 : Nat)) (tabR (List.length t) (cbF t m x17.2.1))) ∧
 ((x17.2.2.1 = x17.2.2.1) ∧
 (x17.2.2.2.1 = x17.2.2.2.1))))))))))))) ∧
 (∀ x19 : Nat, (((x19 ≤ List.length t) ∧
 (x17.1 < List.length t)) →
 (BrP (Decidable.decide ((↑x19 : Int) < (↑(List.length t) : Int)))
 (BrP (Decidable.decide ((0 : Int) < (↑(List.length x17.2.2.1) : Int)))
 ((inB (↑x19 : Int) (List.length (List.getD (List.take x17.1 (tabR (List.length t) (shW t m x17.2.1 x17.2.2.1 x17.2.2.2.1)) ++ (List.take x19 (tab (List.length t) (shW t m x17.2.1 x17.2.2.1 x17.2.2.2.1 x17.1)) ++ List.drop x19 (tab (List.length t) (cbF t m x17.2.1 x17.1))) :: List.drop (x17.1 + (1 : Nat)) (tabR (List.length t) (cbF t m x17.2.1))) (Int.toNat (↑x17.1 : Int)) []))) ∧
 ((inB (↑x17.1 : Int) (List.length x17.2.2.1)) ∧
 ((InR (List.getD x17.2.2.1 (Int.toNat (↑x17.1 : Int)) (0 : Int) * (↑(List.length t) : Int))) ∧
 ((inB (↑x19 : Int) (List.length x17.2.2.1)) ∧
 ((InR (List.getD x17.2.2.1 (Int.toNat (↑x17.1 : Int)) (0 : Int) * (↑(List.length t) : Int) + List.getD x17.2.2.1 (Int.toNat (↑x19 : Int)) (0 : Int))) ∧
 ((inB (List.getD x17.2.2.1 (Int.toNat (↑x17.1 : Int)) (0 : Int) * (↑(List.length t) : Int) + List.getD x17.2.2.1 (Int.toNat (↑x19 : Int)) (0 : Int)) (List.length x17.2.2.2.1)) ∧
 ((InR (List.getD (List.getD (List.take x17.1 (tabR (List.length t) (shW t m x17.2.1 x17.2.2.1 x17.2.2.2.1)) ++ (List.take x19 (tab (List.length t) (shW t m x17.2.1 x17.2.2.1 x17.2.2.2.1 x17.1)) ++ List.drop x19 (tab (List.length t) (cbF t m x17.2.1 x17.1))) :: List.drop (x17.1 + (1 : Nat)) (tabR (List.length t) (cbF t m x17.2.1))) (Int.toNat (↑x17.1 : Int)) []) (Int.toNat (↑x19 : Int)) (0 : Int) + List.getD x17.2.2.2.1 (Int.toNat (List.getD x17.2.2.1 (Int.toNat (↑x17.1 : Int)) (0 : Int) * (↑(List.length t) : Int) + List.getD x17.2.2.1 (Int.toNat (↑x19 : Int)) (0 : Int))) (0 : Int))) ∧
 ((m ≠ (0 : Int)) ∧
 ((inB (↑x19 : Int) (List.length (List.getD (List.take x17.1 (tabR (List.length t) (shW t m x17.2.1 x17.2.2.1 x17.2.2.2.1)) ++ (List.take x19 (tab (List.length t) (shW t m x17.2.1 x17.2.2.1 x17.2.2.2.1 x17.1)) ++ List.drop x19 (tab (List.length t) (cbF t m x17.2.1 x17.1))) :: List.drop (x17.1 + (1 : Nat)) (tabR (List.length t) (cbF t m x17.2.1))) (Int.toNat (↑x17.1 : Int)) []))) ∧
 ((InR ((↑x19 : Int) + (1 : Int))) ∧
 (∃ x20 : Nat, (((x20 ≤ List.length t) ∧
 (x17.1 < List.length t)) ∧
 ((List.length t - x20 < List.length t - x19) ∧
 ((m = m) ∧
 (((↑(List.length t) : Int) = (↑(List.length t) : Int)) ∧
 (((↑x17.1 : Int) = (↑x17.1 : Int)) ∧
 ((Int.toNat (↑x17.1 : Int) = Int.toNat (↑x17.1 : Int)) ∧
 (((↑x19 : Int) + (1 : Int) = (↑x20 : Int)) ∧
 ((code = code) ∧
 ((x17.2.2.2.2.1 = x17.2.2.2.2.1) ∧
 ((x17.2.2.2.2.2 = x17.2.2.2.2.2) ∧
 ((List.set (List.take x17.1 (tabR (List.length t) (shW t m x17.2.1 x17.2.2.1 x17.2.2.2.1)) ++ (List.take x19 (tab (List.length t) (shW t m x17.2.1 x17.2.2.1 x17.2.2.2.1 x17.1)) ++ List.drop x19 (tab (List.length t) (cbF t m x17.2.1 x17.1))) :: List.drop (x17.1 + (1 : Nat)) (tabR (List.length t) (cbF t m x17.2.1))) (Int.toNat (↑x17.1 : Int)) (List.set (List.getD (List.take x17.1 (tabR (List.length t) (shW t m x17.2.1 x17.2.2.1 x17.2.2.2.1)) ++ (List.take x19 (tab (List.length t) (shW t m x17.2.1 x17.2.2.1 x17.2.2.2.1 x17.1)) ++ List.drop x19 (tab (List.length t) (cbF t m x17.2.1 x17.1))) :: List.drop (x17.1 + (1 : Nat)) (tabR (List.length t) (cbF t m x17.2.1))) (Int.toNat (↑x17.1 : Int)) []) (Int.toNat (↑x19 : Int)) (Int.tmod (List.getD (List.getD (List.take x17.1 (tabR (List.length t) (shW t m x17.2.1 x17.2.2.1 x17.2.2.2.1)) ++ (List.take x19 (tab (List.length t) (shW t m x17.2.1 x17.2.2.1 x17.2.2.2.1 x17.1)) ++ List.drop x19 (tab (List.length t) (cbF t m x17.2.1 x17.1))) :: List.drop (x17.1 + (1 : Nat)) (tabR (List.length t) (cbF t m x17.2.1))) (Int.toNat (↑x17.1 : Int)) []) (Int.toNat (↑x19 : Int)) (0 : Int) + List.getD x17.2.2.2.1 (Int.toNat (List.getD x17.2.2.1 (Int.toNat (↑x17.1 : Int)) (0 : Int) * (↑(List.length t) : Int) + List.getD x17.2.2.1 (Int.toNat (↑x19 : Int)) (0 : Int))) (0 : Int)) m)) = List.take x17.1 (tabR (List.length t) (shW t m x17.2.1 x17.2.2.1 x17.2.2.2.1)) ++ (List.take x20 (tab (List.length t) (shW t m x17.2.1 x17.2.2.1 x17.2.2.2.1 x17.1)) ++ List.drop x20 (tab (List.length t) (cbF t m x17.2.1 x17.1))) :: List.drop (x17.1 + (1 : Nat)) (tabR (List.length t) (cbF t m x17.2.1))) ∧
 ((x17.2.2.1 = x17.2.2.1) ∧
 (x17.2.2.2.1 = x17.2.2.2.1))))))))))))))))))))))))
 ((InR ((↑x19 : Int) + (1 : Int))) ∧
 (∃ x21 : Nat, (((x21 ≤ List.length t) ∧
 (x17.1 < List.length t)) ∧
 ((List.length t - x21 < List.length t - x19) ∧
 ((m = m) ∧
 (((↑(List.length t) : Int) = (↑(List.length t) : Int)) ∧
 (((↑x17.1 : Int) = (↑x17.1 : Int)) ∧
 ((Int.toNat (↑x17.1 : Int) = Int.toNat (↑x17.1 : Int)) ∧
 (((↑x19 : Int) + (1 : Int) = (↑x21 : Int)) ∧
 ((code = code) ∧
 ((x17.2.2.2.2.1 = x17.2.2.2.2.1) ∧
 ((x17.2.2.2.2.2 = x17.2.2.2.2.2) ∧
 ((List.take x17.1 (tabR (List.length t) (shW t m x17.2.1 x17.2.2.1 x17.2.2.2.1)) ++ (List.take x19 (tab (List.length t) (shW t m x17.2.1 x17.2.2.1 x17.2.2.2.1 x17.1)) ++ List.drop x19 (tab (List.length t) (cbF t m x17.2.1 x17.1))) :: List.drop (x17.1 + (1 : Nat)) (tabR (List.length t) (cbF t m x17.2.1)) = List.take x17.1 (tabR (List.length t) (shW t m x17.2.1 x17.2.2.1 x17.2.2.2.1)) ++ (List.take x21 (tab (List.length t) (shW t m x17.2.1 x17.2.2.1 x17.2.2.2.1 x17.1)) ++ List.drop x21 (tab (List.length t) (cbF t m x17.2.1 x17.1))) :: List.drop (x17.1 + (1 : Nat)) (tabR (List.length t) (cbF t m x17.2.1))) ∧
 ((x17.2.2.1 = x17.2.2.1) ∧
 (x17.2.2.2.1 = x17.2.2.2.1))))))))))))))))
 ((InR ((↑x17.1 : Int) + (1 : Int))) ∧
 (∃ x22 : Nat × List Int × List Int × List Int × Int × Int, (((Prod.fst x22 ≤ List.length t) ∧
 ((tabB t = Bool.true) ∧
 ((shiftB (↑(List.length t) : Int) m (Prod.fst x22.2) = Bool.true) ∧
 ((lbOk (List.length t) (Prod.fst x22.2.2)) ∧
 ((shiftB (↑(List.length t * List.length t) : Int) m (Prod.fst x22.2.2.2) = Bool.true) ∧
 (((0 : Int) ≤ Prod.fst x22.2.2.2.2) ∧
 ((Prod.fst x22.2.2.2.2 ≤ (↑(List.length code) : Int)) ∧
 (shF code t m a h = shE code (↑(List.length t) : Int) m (tabR (List.length t) (shW t m (Prod.fst x22.2) (Prod.fst x22.2.2) (Prod.fst x22.2.2.2)), Prod.fst x22.2.2.2.2, Prod.snd x22.2.2.2.2))))))))) ∧
 ((List.length t - Prod.fst x22 < List.length t - Prod.fst x17) ∧
 ((m = m) ∧
 (((↑(List.length t) : Int) = (↑(List.length t) : Int)) ∧
 (((↑x17.1 : Int) + (1 : Int) = (↑x22.1 : Int)) ∧
 ((code = code) ∧
 ((x17.2.2.2.2.1 = x22.2.2.2.2.1) ∧
 ((x17.2.2.2.2.2 = x22.2.2.2.2.2) ∧
 ((List.take x17.1 (tabR (List.length t) (shW t m x17.2.1 x17.2.2.1 x17.2.2.2.1)) ++ (List.take x19 (tab (List.length t) (shW t m x17.2.1 x17.2.2.1 x17.2.2.2.1 x17.1)) ++ List.drop x19 (tab (List.length t) (cbF t m x17.2.1 x17.1))) :: List.drop (x17.1 + (1 : Nat)) (tabR (List.length t) (cbF t m x17.2.1)) = List.take x22.1 (tabR (List.length t) (shW t m x22.2.1 x22.2.2.1 x22.2.2.2.1)) ++ List.drop x22.1 (tabR (List.length t) (cbF t m x22.2.1))) ∧
 ((x17.2.2.1 = x22.2.2.1) ∧
 (x17.2.2.2.1 = x22.2.2.2.1))))))))))))))))))
 ((((bytesB code) ∧
 (((0 : Int) ≤ x17.2.2.2.2.1) ∧
 (x17.2.2.2.2.1 ≤ (1099511627776 : Int)))) ∧
 ((code = code) ∧
 (True))) ∧
 (BrP (nxV code x17.2.2.2.2.1 x17.2.2.2.2.2 (12 : Int) == (0 : Int))
 ((((bytesB code) ∧
 (((0 : Int) ≤ nxA (List.length code) x17.2.2.2.2.1 (12 : Int)) ∧
 (nxA (List.length code) x17.2.2.2.2.1 (12 : Int) ≤ (1099511627776 : Int)))) ∧
 ((code = code) ∧
 (True))) ∧
 ((inB (nxV code (nxA (List.length code) x17.2.2.2.2.1 (12 : Int)) (nxH x17.2.2.2.2.2 (12 : Int)) (↑(List.length t) : Int)) (List.length (List.take x17.1 (tabR (List.length t) (shW t m x17.2.1 x17.2.2.1 x17.2.2.2.1)) ++ List.drop x17.1 (tabR (List.length t) (cbF t m x17.2.1))))) ∧
 ((((bytesB code) ∧
 (((0 : Int) ≤ nxA (List.length code) (nxA (List.length code) x17.2.2.2.2.1 (12 : Int)) (↑(List.length t) : Int)) ∧
 (nxA (List.length code) (nxA (List.length code) x17.2.2.2.2.1 (12 : Int)) (↑(List.length t) : Int) ≤ (1099511627776 : Int)))) ∧
 ((code = code) ∧
 (True))) ∧
 ((((bytesB code) ∧
 (((0 : Int) ≤ nxA (List.length code) (nxA (List.length code) (nxA (List.length code) x17.2.2.2.2.1 (12 : Int)) (↑(List.length t) : Int)) (↑(List.length t) : Int)) ∧
 (nxA (List.length code) (nxA (List.length code) (nxA (List.length code) x17.2.2.2.2.1 (12 : Int)) (↑(List.length t) : Int)) (↑(List.length t) : Int) ≤ (1099511627776 : Int)))) ∧
 ((code = code) ∧
 (True))) ∧
 ((inB (nxV code (nxA (List.length code) (nxA (List.length code) x17.2.2.2.2.1 (12 : Int)) (↑(List.length t) : Int)) (nxH (nxH x17.2.2.2.2.2 (12 : Int)) (↑(List.length t) : Int)) (↑(List.length t) : Int)) (List.length (List.getD (List.take x17.1 (tabR (List.length t) (shW t m x17.2.1 x17.2.2.1 x17.2.2.2.1)) ++ List.drop x17.1 (tabR (List.length t) (cbF t m x17.2.1))) (Int.toNat (nxV code (nxA (List.length code) x17.2.2.2.2.1 (12 : Int)) (nxH x17.2.2.2.2.2 (12 : Int)) (↑(List.length t) : Int))) []))) ∧
 ((((0 : Nat) = Prod.fst (Prod.snd (shF code t m a h))) ∧
 ((List.length (List.set (List.take x17.1 (tabR (List.length t) (shW t m x17.2.1 x17.2.2.1 x17.2.2.2.1)) ++ List.drop x17.1 (tabR (List.length t) (cbF t m x17.2.1))) (Int.toNat (nxV code (nxA (List.length code) x17.2.2.2.2.1 (12 : Int)) (nxH x17.2.2.2.2.2 (12 : Int)) (↑(List.length t) : Int))) (List.set (List.getD (List.take x17.1 (tabR (List.length t) (shW t m x17.2.1 x17.2.2.1 x17.2.2.2.1)) ++ List.drop x17.1 (tabR (List.length t) (cbF t m x17.2.1))) (Int.toNat (nxV code (nxA (List.length code) x17.2.2.2.2.1 (12 : Int)) (nxH x17.2.2.2.2.2 (12 : Int)) (↑(List.length t) : Int))) []) (Int.toNat (nxV code (nxA (List.length code) (nxA (List.length code) x17.2.2.2.2.1 (12 : Int)) (↑(List.length t) : Int)) (nxH (nxH x17.2.2.2.2.2 (12 : Int)) (↑(List.length t) : Int)) (↑(List.length t) : Int))) (nxV code (nxA (List.length code) (nxA (List.length code) (nxA (List.length code) x17.2.2.2.2.1 (12 : Int)) (↑(List.length t) : Int)) (↑(List.length t) : Int)) (nxH (nxH (nxH x17.2.2.2.2.2 (12 : Int)) (↑(List.length t) : Int)) (↑(List.length t) : Int)) m))) = List.length (Prod.fst (shF code t m a h)) - Prod.fst (Prod.snd (shF code t m a h))) ∧
 (List.set (List.take x17.1 (tabR (List.length t) (shW t m x17.2.1 x17.2.2.1 x17.2.2.2.1)) ++ List.drop x17.1 (tabR (List.length t) (cbF t m x17.2.1))) (Int.toNat (nxV code (nxA (List.length code) x17.2.2.2.2.1 (12 : Int)) (nxH x17.2.2.2.2.2 (12 : Int)) (↑(List.length t) : Int))) (List.set (List.getD (List.take x17.1 (tabR (List.length t) (shW t m x17.2.1 x17.2.2.1 x17.2.2.2.1)) ++ List.drop x17.1 (tabR (List.length t) (cbF t m x17.2.1))) (Int.toNat (nxV code (nxA (List.length code) x17.2.2.2.2.1 (12 : Int)) (nxH x17.2.2.2.2.2 (12 : Int)) (↑(List.length t) : Int))) []) (Int.toNat (nxV code (nxA (List.length code) (nxA (List.length code) x17.2.2.2.2.1 (12 : Int)) (↑(List.length t) : Int)) (nxH (nxH x17.2.2.2.2.2 (12 : Int)) (↑(List.length t) : Int)) (↑(List.length t) : Int))) (nxV code (nxA (List.length code) (nxA (List.length code) (nxA (List.length code) x17.2.2.2.2.1 (12 : Int)) (↑(List.length t) : Int)) (↑(List.length t) : Int)) (nxH (nxH (nxH x17.2.2.2.2.2 (12 : Int)) (↑(List.length t) : Int)) (↑(List.length t) : Int)) m)) = Prod.fst (shF code t m a h)))) ∧
 (((code = code) ∧
 ((nxA (List.length code) (nxA (List.length code) (nxA (List.length code) (nxA (List.length code) x17.2.2.2.2.1 (12 : Int)) (↑(List.length t) : Int)) (↑(List.length t) : Int)) m = Prod.fst (Prod.snd (Prod.snd (shF code t m a h)))) ∧
 ((nxH (nxH (nxH (nxH x17.2.2.2.2.2 (12 : Int)) (↑(List.length t) : Int)) (↑(List.length t) : Int)) m = Prod.snd (Prod.snd (Prod.snd (shF code t m a h)))) ∧
 (True)))) ∧
 (True))))))))
 (BrP (nxV code x17.2.2.2.2.1 x17.2.2.2.2.2 (12 : Int) == (1 : Int))
 ((inB (0 : Int) (List.length (List.take x17.1 (tabR (List.length t) (shW t m x17.2.1 x17.2.2.1 x17.2.2.2.1)) ++ List.drop x17.1 (tabR (List.length t) (cbF t m x17.2.1))))) ∧
 ((((bytesB code) ∧
 (((0 : Int) ≤ nxA (List.length code) x17.2.2.2.2.1 (12 : Int)) ∧
 ((nxA (List.length code) x17.2.2.2.2.1 (12 : Int) ≤ (1099511627776 : Int)) ∧
 (((1 : Nat) ≤ List.length [(-1 : Int), m]) ∧
 (List.length [(-1 : Int), m] ≤ (100 : Nat)))))) ∧
 ((code = code) ∧
 (True))) ∧
 ((inB (0 : Int) (List.length (List.getD (List.take x17.1 (tabR (List.length t) (shW t m x17.2.1 x17.2.2.1 x17.2.2.2.1)) ++ List.drop x17.1 (tabR (List.length t) (cbF t m x17.2.1))) (0 : Nat) []))) ∧
 ((((0 : Nat) = Prod.fst (Prod.snd (shF code t m a h))) ∧
 ((List.length (List.set (List.take x17.1 (tabR (List.length t) (shW t m x17.2.1 x17.2.2.1 x17.2.2.2.1)) ++ List.drop x17.1 (tabR (List.length t) (cbF t m x17.2.1))) (0 : Nat) (List.set (List.getD (List.take x17.1 (tabR (List.length t) (shW t m x17.2.1 x17.2.2.1 x17.2.2.2.1)) ++ List.drop x17.1 (tabR (List.length t) (cbF t m x17.2.1))) (0 : Nat) []) (0 : Nat) (List.getD [(-1 : Int), m] (Int.toNat (nxV code (nxA (List.length code) x17.2.2.2.2.1 (12 : Int)) (nxH x17.2.2.2.2.2 (12 : Int)) (↑(List.length [(-1 : Int), m]) : Int))) (0 : Int)))) = List.length (Prod.fst (shF code t m a h)) - Prod.fst (Prod.snd (shF code t m a h))) ∧
 (List.set (List.take x17.1 (tabR (List.length t) (shW t m x17.2.1 x17.2.2.1 x17.2.2.2.1)) ++ List.drop x17.1 (tabR (List.length t) (cbF t m x17.2.1))) (0 : Nat) (List.set (List.getD (List.take x17.1 (tabR (List.length t) (shW t m x17.2.1 x17.2.2.1 x17.2.2.2.1)) ++ List.drop x17.1 (tabR (List.length t) (cbF t m x17.2.1))) (0 : Nat) []) (0 : Nat) (List.getD [(-1 : Int), m] (Int.toNat (nxV code (nxA (List.length code) x17.2.2.2.2.1 (12 : Int)) (nxH x17.2.2.2.2.2 (12 : Int)) (↑(List.length [(-1 : Int), m]) : Int))) (0 : Int))) = Prod.fst (shF code t m a h)))) ∧
 (((code = code) ∧
 ((nxA (List.length code) (nxA (List.length code) x17.2.2.2.2.1 (12 : Int)) (↑(List.length [(-1 : Int), m]) : Int) = Prod.fst (Prod.snd (Prod.snd (shF code t m a h)))) ∧
 ((nxH (nxH x17.2.2.2.2.2 (12 : Int)) (↑(List.length [(-1 : Int), m]) : Int) = Prod.snd (Prod.snd (Prod.snd (shF code t m a h)))) ∧
 (True)))) ∧
 (True))))))
 (BrP (nxV code x17.2.2.2.2.1 x17.2.2.2.2.2 (12 : Int) == (2 : Int))
 ((bdsOk (List.length (List.take x17.1 (tabR (List.length t) (shW t m x17.2.1 x17.2.2.1 x17.2.2.2.1)) ++ List.drop x17.1 (tabR (List.length t) (cbF t m x17.2.1)))) (Option.some (1 : Int)) Option.none) ∧
 ((((1 : Nat) = Prod.fst (Prod.snd (shF code t m a h))) ∧
 ((List.length (List.take x17.1 (tabR (List.length t) (shW t m x17.2.1 x17.2.2.1 x17.2.2.2.1)) ++ List.drop x17.1 (tabR (List.length t) (cbF t m x17.2.1))) - Int.toNat (1 : Int) = List.length (Prod.fst (shF code t m a h)) - Prod.fst (Prod.snd (shF code t m a h))) ∧
 (List.take x17.1 (tabR (List.length t) (shW t m x17.2.1 x17.2.2.1 x17.2.2.2.1)) ++ List.drop x17.1 (tabR (List.length t) (cbF t m x17.2.1)) = Prod.fst (shF code t m a h)))) ∧
 (((code = code) ∧
 ((nxA (List.length code) x17.2.2.2.2.1 (12 : Int) = Prod.fst (Prod.snd (Prod.snd (shF code t m a h)))) ∧
 ((nxH x17.2.2.2.2.2 (12 : Int) = Prod.snd (Prod.snd (Prod.snd (shF code t m a h)))) ∧
 (True)))) ∧
 (True))))
 ((((0 : Nat) = Prod.fst (Prod.snd (shF code t m a h))) ∧
 ((List.length (List.take x17.1 (tabR (List.length t) (shW t m x17.2.1 x17.2.2.1 x17.2.2.2.1)) ++ List.drop x17.1 (tabR (List.length t) (cbF t m x17.2.1))) = List.length (Prod.fst (shF code t m a h)) - Prod.fst (Prod.snd (shF code t m a h))) ∧
 (List.take x17.1 (tabR (List.length t) (shW t m x17.2.1 x17.2.2.1 x17.2.2.2.1)) ++ List.drop x17.1 (tabR (List.length t) (cbF t m x17.2.1)) = Prod.fst (shF code t m a h)))) ∧
 (((code = code) ∧
 ((nxA (List.length code) x17.2.2.2.2.1 (12 : Int) = Prod.fst (Prod.snd (Prod.snd (shF code t m a h)))) ∧
 ((nxH x17.2.2.2.2.2 (12 : Int) = Prod.snd (Prod.snd (Prod.snd (shF code t m a h)))) ∧
 (True)))) ∧
 (True)))))))))))))))))))))))
theorem l14Shape_vc (code : List Int) (a : Int) (h : Int) (t : List (List Int)) (m : Int) : runF Try.prog (gam l14Shape_G) noWr (l14Shape_ann code a h t m) Try.f117 (bodyOf Try.f117) [(0, 0)] [.box [.ints .u8 (code), .int .i64 (a), .int .u64 (h)], .c (.rows .i64 (t)), .c (.int .i64 (m))] (l14Shape_p code a h t m) = l14Shape_V code a h t m := by kernel_rfl
set_option maxHeartbeats 1000000 in
theorem l14Shape_ok (code : List Int) (a : Int) (h : Int) (t : List (List Int)) (m : Int) (hpre : (l14Shape_p code a h t m).pre) : l14Shape_V code a h t m := by
  simp only [l14Shape_p, l14Shape_V, BrP_iff, true_and, and_true, decide_eq_true_eq, decide_eq_false_iff_not, bne_iff_ne, beq_iff_eq, bne_eq_false_iff_eq, beq_eq_false_iff_ne, Bool.not_eq_true, Bool.not_eq_false, Bool.not_true, Bool.not_false, Bool.not_eq_eq_eq_not, Int.toNat_natCast, List.length_append, List.length_take, List.length_replicate, List.length_set, List.length_map, List.length_drop, List.length_nil, List.length_cons, markL_length, inB, InR, room, bdsOk] at hpre ⊢
  obtain ⟨hb, hc, h0, h1, hn, hr, m1, m2⟩ := hpre
  refine (fun w => ⟨hr, fun ht => ⟨⟨(0, [], a, h), ?_⟩, w⟩, fun ht => ⟨fun hm => ⟨⟨(0, [], a, h), ?_⟩, w⟩, fun hm => ⟨⟨hb, h0, by omega⟩, fun z => ⟨⟨(0, [], nxA code.length a 5, nxH h 5), ?_⟩, w⟩, fun z => ?_⟩⟩⟩) ?_
  · rintro ⟨i, l, b, g⟩ ⟨q1, q2, q3, q4, q5⟩
    dsimp only at q1 q2 q3 q4 q5 ⊢
    have D := drL_len (code := code) (m := m) t.length ([], b, g) q3 q4
    refine ⟨fun hl => ⟨⟨hb, q3, q4, hc, by omega, by omega⟩, by omega, by omega, (i + 1, l ++ [(lsS code m t.length ([], b, g)).1], (lsS code m t.length ([], b, g)).2.1, (lsS code m t.length ([], b, g)).2.2), ?_⟩, fun hl => ?_⟩
    · dsimp only
      refine ⟨⟨by omega, by rw [List.length_append]; show l.length + 1 = _; omega, D.2.1, D.2.2, ?_⟩, by omega, by omega, rfl, rfl, rfl⟩
      rw [q5, show t.length - i = (t.length - (i + 1)) + 1 by omega]; rfl
    · rw [q5, show t.length - i = 0 by omega]; exact ⟨⟨rfl, rfl, rfl⟩, rfl, rfl⟩
  · exact ⟨⟨Nat.zero_le _, rfl, h0, h1, by rw [shF, if_neg (by simp [ht])]; rfl⟩, rfl, rfl, rfl, rfl⟩
  · exact ⟨⟨Nat.zero_le _, rfl, h0, h1, by rw [shF, if_neg (fun e => hm e.2)]; rfl⟩, rfl, rfl, rfl, rfl⟩
  · have s := nxA_in (n := 5) h0 h1
    exact ⟨⟨Nat.zero_le _, rfl, s.1, s.2, by rw [shF, if_pos ⟨ht, hm⟩, if_pos z]; rfl⟩, rfl, rfl, rfl, rfl⟩
  have s := nxA_in (n := 5) h0 h1
  have hF : shF code t m a h = shE code t.length m (shB code t m (nxA code.length a 5) (nxH h 5)) := by rw [shF, if_pos ⟨ht, hm⟩, if_neg z]
  obtain ⟨n1, n2, tt⟩ := tabB_of ht
  have sq := sq_le n2
  have G := drL_len (code := code) (m := m) t.length ([], nxA code.length a 5, nxH h 5) s.1 s.2
  have G2 := drL_in hb hm.1 t.length ([], nxA code.length a 5, nxH h 5) (fun x hx => (List.not_mem_nil hx).elim)
  have hG : shiftB (t.length : Int) m (lsS code m t.length ([], nxA code.length a 5, nxH h 5)).1 = true := sh_mk hm (by rw [G.1]; simp) G2
  have W := drL_len (code := code) (m := m) (t.length * t.length) ([], (lsS code m t.length ([], nxA code.length a 5, nxH h 5)).2) G.2.1 G.2.2
  have W2 := drL_in hb hm.1 (t.length * t.length) ([], (lsS code m t.length ([], nxA code.length a 5, nxH h 5)).2) (fun x hx => (List.not_mem_nil hx).elim)
  have hW : shiftB ((t.length * t.length : Nat) : Int) m (lsS code m (t.length * t.length) ([], (lsS code m t.length ([], nxA code.length a 5, nxH h 5)).2)).1 = true := sh_mk hm (by rw [W.1]; simp) W2
  have L := shL_ok ht
  have sb : shB code t m (nxA code.length a 5) (nxH h 5) = (tabR t.length (shW t m (lsS code m t.length ([], nxA code.length a 5, nxH h 5)).1 (shL t) (lsS code m (t.length * t.length) ([], (lsS code m t.length ([], nxA code.length a 5, nxH h 5)).2)).1), (lsS code m (t.length * t.length) ([], (lsS code m t.length ([], nxA code.length a 5, nxH h 5)).2)).2) := rfl
  have e : ((t.length : Int) * (t.length : Int)) = ((t.length * t.length : Nat) : Int) := by simp
  simp only [e, Int.toNat_natCast]
  refine (fun wk => ⟨⟨hb, s.1, s.2, hc, by omega, by omega⟩, ⟨ht, hG⟩, ht, fun pz => ⟨ht, ⟨by omega, by omega⟩, ⟨hb, G.2.1, G.2.2, hc, by omega, by omega⟩, ⟨(0, (lsS code m t.length ([], nxA code.length a 5, nxH h 5)).1, (obN t t.length).1, (lsS code m (t.length * t.length) ([], (lsS code m t.length ([], nxA code.length a 5, nxH h 5)).2)).1, (lsS code m (t.length * t.length) ([], (lsS code m t.length ([], nxA code.length a 5, nxH h 5)).2)).2), ?_⟩, wk⟩, fun pz => ⟨⟨by omega, by omega⟩, ⟨hb, G.2.1, G.2.2, hc, by omega, by omega⟩, ⟨(0, (lsS code m t.length ([], nxA code.length a 5, nxH h 5)).1, [], (lsS code m (t.length * t.length) ([], (lsS code m t.length ([], nxA code.length a 5, nxH h 5)).2)).1, (lsS code m (t.length * t.length) ([], (lsS code m t.length ([], nxA code.length a 5, nxH h 5)).2)).2), ?_⟩, wk⟩⟩) ?_
  · rintro ⟨x, g, lb, w, b, k⟩ ⟨q1, _, hg, hlb, hw, q3, q4, q5⟩
    dsimp only at q1 hg hlb hw q3 q4 q5 ⊢
    have g' := shiftB_of hg
    have w' := shiftB_of hw
    have hW : (tabR t.length (shW t m g lb w)).length = t.length := tabR_length _ _
    have hC : (tabR t.length (cbF t m g)).length = t.length := tabR_length _ _
    have hl : ((tabR t.length (shW t m g lb w)).take x).length = x := by rw [List.length_take]; omega
    have r1 : (tab t.length (shW t m g lb w x)).length = t.length := tab_length _ _
    have r2 : (tab t.length (cbF t m g x)).length = t.length := tab_length _ _
    refine ⟨fun h1 => ⟨by omega, ⟨0, ⟨Nat.zero_le _, by omega⟩, rfl, ?_⟩, fun y ⟨hy, _⟩ => ⟨fun h2 => ⟨fun h3 => ?_, fun h3 => ?_⟩, fun h2 => ?_⟩⟩, fun h1 => ?_⟩
    · rw [drop_cons' (tabR t.length (cbF t m g)) [] x (by omega), tabR_getD _ _ _ (by omega)]; rfl
    · rw [at_getD _ _ _ _ _ hl, at_set _ _ _ _ _ hl]
      have hx : x < t.length := by omega
      have hy : y < t.length := by omega
      have rl : (List.take y (tab t.length (shW t m g lb w x)) ++ List.drop y (tab t.length (cbF t m g x))).length = t.length := by
        rw [List.length_append, List.length_take, List.length_drop]; omega
      have rg := mix_get (tab t.length (shW t m g lb w x)) (tab t.length (cbF t m g x)) y (by omega) (by omega)
      rw [tab_getD _ _ _ hy] at rg
      have cb := cb_in ht hg x y hx hy
      have cv : 0 ≤ cbF t m g x y ∧ cbF t m g x y ≤ m - 1 := tmod_in (by omega) (by omega)
      have lq : lb.length = t.length ∧ ∀ q, q < t.length → 0 ≤ lb.getD q 0 ∧ lb.getD q 0 ≤ (t.length : Int) - 1 := by
        rcases hlb with e | e
        · rw [e] at h3; simp at h3
        · exact e
      have lx := lq.2 x hx
      have ly := lq.2 y hy
      have p1 := Int.mul_nonneg lx.1 (show (0 : Int) ≤ (t.length : Int) by omega)
      have p2 := Int.mul_le_mul_of_nonneg_right lx.2 (show (0 : Int) ≤ (t.length : Int) by omega)
      rw [Int.sub_mul, e, Int.one_mul] at p2
      have wl := w'.2.2.1
      have wv := w'.2.2.2 (lb.getD x 0 * (t.length : Int) + lb.getD y 0).toNat (by omega)
      have st := mix_set (tab t.length (shW t m g lb w x)) (tab t.length (cbF t m g x)) y (by omega) (by omega)
      rw [tab_getD _ _ _ hy] at st
      rw [rg]
      have sv : shW t m g lb w x y = (cbF t m g x y + w.getD (lb.getD x 0 * (t.length : Int) + lb.getD y 0).toNat 0).tmod m := by rw [shW, if_pos (by omega)]
      rw [← sv, st, rl]
      exact ⟨by omega, by omega, by omega, by omega, by omega, by omega, by omega, by omega, by omega, by omega, y + 1, ⟨by omega, hx⟩, by omega, by omega, rfl⟩
    · have hy : y < t.length := by omega
      refine ⟨by omega, y + 1, ⟨by omega, by omega⟩, by omega, by omega, ?_⟩
      rw [← take_snoc (tab t.length (shW t m g lb w x)) 0 y (by omega), tab_getD _ _ _ hy, shW, if_neg (by omega), drop_cons' (tab t.length (cbF t m g x)) 0 y (by omega), tab_getD _ _ _ hy, List.append_assoc]; rfl
    · refine ⟨by omega, (x + 1, g, lb, w, b, k), ?_⟩
      dsimp only
      refine ⟨⟨by omega, ht, hg, hlb, hw, q3, q4, q5⟩, by omega, by omega, rfl, rfl, ?_, rfl, rfl⟩
      rw [← take_snoc (tabR t.length (shW t m g lb w)) [] x (by omega), tabR_getD _ _ _ (by omega), show (tab t.length (shW t m g lb w x)).take y = tab t.length (shW t m g lb w x) from List.take_of_length_le (by omega), show (tab t.length (cbF t m g x)).drop y = [] from List.drop_of_length_le (by omega), List.append_nil, List.append_assoc]; rfl
    · have eF : List.take x (tabR t.length (shW t m g lb w)) ++ List.drop x (tabR t.length (cbF t m g)) = tabR t.length (shW t m g lb w) := by
        rw [List.take_of_length_le (by omega), List.drop_of_length_le (by omega), List.append_nil]
      simp only [eF]
      have v1 := nxV_in hb (nxA code.length b 12) (nxH k 12) (n := (t.length : Int)) (by omega)
      have s1 := nxA_in (n := 12) q3 q4
      have s2 := nxA_in (n := (t.length : Int)) s1.1 s1.2
      have s3 := nxA_in (n := (t.length : Int)) s2.1 s2.2
      have v2 := nxV_in hb (nxA code.length (nxA code.length b 12) (t.length : Int)) (nxH (nxH k 12) (t.length : Int)) (n := (t.length : Int)) (by omega)
      have rw0 : ∀ i, i < t.length → ((tabR t.length (shW t m g lb w)).getD i []).length = t.length := fun i hi => by rw [tabR_getD _ _ _ hi, tab_length]
      refine ⟨⟨hb, q3, by omega⟩, fun z => ?_, fun z => ⟨fun z1 => ?_, fun z1 => ⟨fun z2 => ?_, fun z2 => ?_⟩⟩⟩
      · rw [q5, shE0 z]
        have r0 := rw0 (nxV code (nxA code.length b 12) (nxH k 12) (t.length : Int)).toNat (by omega)
        exact ⟨⟨hb, s1.1, by omega⟩, by omega, ⟨hb, s2.1, by omega⟩, ⟨hb, s3.1, by omega⟩, by omega, ⟨rfl, by dsimp only; rw [List.length_set]; omega, rfl⟩, rfl, rfl⟩
      · rw [q5, shE1 z z1]
        have r0 := rw0 0 (by omega)
        exact ⟨by omega, ⟨hb, s1.1, by omega, by omega, by omega⟩, by omega, ⟨rfl, by dsimp only; rw [List.length_set]; omega, rfl⟩, rfl, rfl⟩
      · rw [q5, shE2 z z1 z2]
        exact ⟨by omega, ⟨rfl, by dsimp only; omega, rfl⟩, rfl, rfl⟩
      · rw [q5, shE3 z z1 z2]
        exact ⟨⟨rfl, by dsimp only; omega, rfl⟩, rfl, rfl⟩
  · have eL : shL t = (obN t t.length).1 := if_pos pz
    exact ⟨⟨Nat.zero_le _, ht, hG, eL ▸ L, hW, W.2.1, W.2.2, by rw [hF, sb, eL]⟩, rfl, rfl, rfl, rfl, rfl, rfl⟩
  · have eL : shL t = [] := if_neg (by simp [pz])
    exact ⟨⟨Nat.zero_le _, ht, hG, .inl rfl, hW, W.2.1, W.2.2, by rw [hF, sb, eL]⟩, rfl, rfl, rfl, rfl, rfl, rfl⟩
theorem l14Shape_fits : Fits Try.prog 117 ⟨[(0, 0)], l14Shape_ct⟩ := by
  refine fits_fn (Γ := gam l14Shape_G) (gok_cons l01Next_fits (gok_cons l01Pick_fits (gok_cons l01Table_fits (gok_cons l01In_fits (gok_cons l14DrawList_fits (gok_cons l14Bound_fits (gok_cons l01Rows_fits (gok_cons l01Orbits_fits gok_nil)))))))) Try.func117 (by kernel_rfl) (by kernel_rfl) (by kernel_rfl) fun ds p h hp => ?_
  unfold l14Shape_ct at h
  split at h
  · cases h
    exact ⟨noWr, l14Shape_ann _ _ _ _ _ , by rw [l14Shape_vc]; exact l14Shape_ok _ _ _ _ _  hp⟩
  · cases h

end Go.Sx
