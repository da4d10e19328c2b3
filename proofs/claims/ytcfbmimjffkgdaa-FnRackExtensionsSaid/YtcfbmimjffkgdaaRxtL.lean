/- RxtL -/
import Derived.Test.YtcfbmimjffkgdaaShpP
import Derived.Test.YtcfbmimjffkgdaaRxtP
import Derived.Test.YtcfbmimjffkgdaaQb
open Go Go.Proofs
namespace Go.Sx
set_option linter.unusedSimpArgs false
set_option linter.unusedVariables false

def likeRows5_p (a : List (List Int)) (b : List (List Int)) : Post := ⟨roomR a, .c (.bool (decide (a = b))), []⟩
def likeRows5_ct : List AD → Option Post
  | [.c (.rows .i64 (a)), .c (.rows .i64 (b))] => some (likeRows5_p a b)
  | _ => none
def likeRows5_ann (a : List (List Int)) (b : List (List Int)) : Nat → Option Ann
  | 0 => some (Ann.mk ((Nat)) (fun i => ⟨[(0, .c (.ro (.rows .i64 (a)))), (1, .c (.ro (.rows .i64 (b)))), (5, .c (.int .i64 ((i : Int))))], []⟩) (fun i => i ≤ a.length ∧ a.length = b.length ∧ a.take i = b.take i) (fun i => a.length - i) (fun _ => noAnn))
  | _ => none
def likeRows5_G : List (Nat × Ctr) := [(31, ⟨[], likeInts_ct⟩)]
def likeRows5_V (a : List (List Int)) (b : List (List Int)) : Prop :=
  (BrP ((↑(List.length a) : Int) != (↑(List.length b) : Int))
 ((Bool.false = Decidable.decide (a = b)) ∧
 (True))
 ((∃ x0 : Nat, (((x0 ≤ List.length a) ∧
 ((List.length a = List.length b) ∧
 (List.take x0 a = List.take x0 b))) ∧
 ((a = a) ∧
 ((b = b) ∧
 ((0 : Int) = (↑x0 : Int)))))) ∧
 (∀ x1 : Nat, (((x1 ≤ List.length a) ∧
 ((List.length a = List.length b) ∧
 (List.take x1 a = List.take x1 b))) →
 (BrP (Decidable.decide ((↑x1 : Int) < (↑(List.length a) : Int)))
 ((inB (↑x1 : Int) (List.length a)) ∧
 ((inB (↑x1 : Int) (List.length b)) ∧
 (((room (List.length (List.getD a (Int.toNat (↑x1 : Int)) []))) ∧
 (True)) ∧
 (BrP (!Decidable.decide (List.getD a (Int.toNat (↑x1 : Int)) [] = List.getD b (Int.toNat (↑x1 : Int)) []))
 ((Bool.false = Decidable.decide (a = b)) ∧
 (True))
 ((InR ((↑x1 : Int) + (1 : Int))) ∧
 (∃ x2 : Nat, (((x2 ≤ List.length a) ∧
 ((List.length a = List.length b) ∧
 (List.take x2 a = List.take x2 b))) ∧
 ((List.length a - x2 < List.length a - x1) ∧
 ((a = a) ∧
 ((b = b) ∧
 ((↑x1 : Int) + (1 : Int) = (↑x2 : Int))))))))))))
 ((Bool.true = Decidable.decide (a = b)) ∧
 (True)))))))
theorem likeRows5_vc (a : List (List Int)) (b : List (List Int)) : runF Try.prog (gam likeRows5_G) noWr (likeRows5_ann a b) Try.f25 (bodyOf Try.f25) [] [.c (.rows .i64 (a)), .c (.rows .i64 (b))] (likeRows5_p a b) = likeRows5_V a b := by kernel_rfl
theorem likeRows5_ok (a : List (List Int)) (b : List (List Int)) (hpre : (likeRows5_p a b).pre) : likeRows5_V a b := by
  simp only [likeRows5_p, likeRows5_V, BrP_iff, true_and, and_true, decide_eq_true_eq, decide_eq_false_iff_not, bne_iff_ne, beq_iff_eq, bne_eq_false_iff_eq, beq_eq_false_iff_ne, Bool.not_eq_true, Bool.not_eq_false, Bool.not_true, Bool.not_false, Bool.not_eq_eq_eq_not, Int.toNat_natCast, List.length_append, List.length_take, List.length_replicate, List.length_set, List.length_map, List.length_drop, List.length_nil, List.length_cons, markL_length, inB, InR, room, bdsOk] at hpre ⊢
  have h0 := hpre.1
  refine ⟨fun h => ?_, fun h => ⟨⟨0, ⟨by omega, by omega, rfl⟩, by simp⟩, fun i hi => ⟨fun h1 => ⟨by omega, by omega, roomR_get hpre i (by omega), fun h2 => ?_, fun h2 => ⟨by omega, i + 1, ⟨by omega, hi.2.1, ?_⟩, by omega, by omega⟩⟩, fun h1 => ?_⟩⟩⟩
  · exact (decide_eq_false fun e => h (by rw [e])).symm
  · exact (decide_eq_false fun e => h2 (by rw [e])).symm
  · exact (take_eq_step a b [] i (by omega) (by omega) hi.2.2).2 h2
  · refine (decide_eq_true ?_).symm
    have := hi.2.2
    rwa [List.take_of_length_le (by omega), List.take_of_length_le (by omega)] at this
theorem likeRows5_fits : Fits Try.prog 25 ⟨[], likeRows5_ct⟩ := by
  refine fits_fn (Γ := gam likeRows5_G) (gok_cons likeInts_fits gok_nil) Try.func25 (by kernel_rfl) (by kernel_rfl) (by kernel_rfl) fun ds p h hp => ?_
  unfold likeRows5_ct at h
  split at h
  · cases h
    exact ⟨noWr, likeRows5_ann _ _ , by rw [likeRows5_vc]; exact likeRows5_ok _ _  hp⟩
  · cases h

def iqC (t : List (List Int)) : Bool × Int := if rackB t = true then (qdB t, 0) else (false, 1)

def iIsQ_p (t : List (List Int)) : Post := ⟨roomR t, .tup [.inl (.bool ((iqC t).1)), .inl (.int .i64 ((iqC t).2))], []⟩
def iIsQ_ct : List AD → Option Post
  | [.agg [.rows .i64 (t)]] => some (iIsQ_p t)
  | _ => none
def iIsQ_G : List (Nat × Ctr) := [(26, ⟨[], IsRack_ct⟩), (76, ⟨[], kinkOf_ct⟩), (75, ⟨[], isIdentity_ct⟩)]
def iIsQ_V (t : List (List Int)) : Prop :=
  (((roomR t) ∧
 (True)) ∧
 (BrP (!rackB t)
 (((Bool.false = Prod.fst (iqC t)) ∧
 (((1 : Int) = Prod.snd (iqC t)) ∧
 (True))) ∧
 (True))
 (((tabB t = Bool.true) ∧
 (True)) ∧
 (((room (List.length (kkL t))) ∧
 (True)) ∧
 (((incB (kkL t) = Prod.fst (iqC t)) ∧
 (((0 : Int) = Prod.snd (iqC t)) ∧
 (True))) ∧
 (True))))))
theorem iIsQ_vc (t : List (List Int)) : runF Try.prog (gam iIsQ_G) noWr noAnn Try.f27 (bodyOf Try.f27) [] [.agg [.rows .i64 (t)]] (iIsQ_p t) = iIsQ_V t := by kernel_rfl
theorem iIsQ_ok (t : List (List Int)) (hpre : (iIsQ_p t).pre) : iIsQ_V t := by
  simp only [iIsQ_p, iIsQ_V, BrP_iff, true_and, and_true, decide_eq_true_eq, decide_eq_false_iff_not, bne_iff_ne, beq_iff_eq, bne_eq_false_iff_eq, beq_eq_false_iff_ne, Bool.not_eq_true, Bool.not_eq_false, Bool.not_true, Bool.not_false, Bool.not_eq_eq_eq_not, Int.toNat_natCast, List.length_append, List.length_take, List.length_replicate, List.length_set, List.length_map, List.length_drop, List.length_nil, List.length_cons, markL_length, inB, InR, room, bdsOk] at hpre ⊢
  refine ⟨hpre, fun h => ?_, fun h => ?_⟩
  · simp [iqC, h]
  · have ht := rackB_tab h
    have n2 := (tabB_of ht).2.1
    have e := kk_inc ht
    rw [e]
    refine ⟨ht, by rw [kkL, tab_length]; omega, ?_⟩
    simp [iqC, h]
theorem iIsQ_fits : Fits Try.prog 27 ⟨[], iIsQ_ct⟩ := by
  refine fits_fn (Γ := gam iIsQ_G) (gok_cons IsRack_fits (gok_cons kinkOf_fits (gok_cons isIdentity_fits gok_nil))) Try.func27 (by kernel_rfl) (by kernel_rfl) (by kernel_rfl) fun ds p h hp => ?_
  unfold iIsQ_ct at h
  split at h
  · cases h
    exact ⟨noWr, noAnn, by rw [iIsQ_vc]; exact iIsQ_ok _  hp⟩
  · cases h

def moD (code : List Int) (a h n : Int) : Int × Int × Int :=
  let a1 := nxA code.length a 20
  let h1 := nxH h 20
  if nxV code a h 20 = 0 then ([0, 13, -1, 12].getD (nxV code a1 h1 4).toNat 0, nxA code.length a1 4, nxH h1 4)
  else if n < 1 ∨ 6 < n then (1 + nxV code a1 h1 4, nxA code.length a1 4, nxH h1 4)
  else (1 + nxV code a1 h1 ((12 : Int).tdiv n), nxA code.length a1 ((12 : Int).tdiv n), nxH h1 ((12 : Int).tdiv n))

theorem moD_in {code : List Int} (hb : bytesB code) {a h n : Int} (h0 : 0 ≤ a) (h1 : a ≤ (code.length : Int)) (hn : 0 ≤ n) : -1 ≤ (moD code a h n).1 ∧ (moD code a h n).1 ≤ 13 ∧ 0 ≤ (moD code a h n).2.1 ∧ (moD code a h n).2.1 ≤ (code.length : Int) := by
  have s := nxA_in (n := 20) h0 h1
  have s4 := nxA_in (n := 4) s.1 s.2
  unfold moD
  dsimp only
  split
  · have v := nxV_in hb (nxA code.length a 20) (nxH h 20) (n := 4) (by omega)
    have : (nxV code (nxA code.length a 20) (nxH h 20) 4).toNat < 4 := by omega
    have g : ∀ i : Nat, i < 4 → -1 ≤ [(0 : Int), 13, -1, 12].getD i 0 ∧ [(0 : Int), 13, -1, 12].getD i 0 ≤ 13 := by decide
    exact ⟨(g _ this).1, (g _ this).2, s4⟩
  · split
    · have v := nxV_in hb (nxA code.length a 20) (nxH h 20) (n := 4) (by omega)
      exact ⟨by show -1 ≤ 1 + _; omega, by show 1 + _ ≤ (13 : Int); omega, s4⟩
    · rename_i hh
      have d1 : 1 ≤ (12 : Int).tdiv n ∧ (12 : Int).tdiv n ≤ 12 := by
        have : n = 1 ∨ n = 2 ∨ n = 3 ∨ n = 4 ∨ n = 5 ∨ n = 6 := by omega
        rcases this with e | e | e | e | e | e <;> subst e <;> decide
      have v := nxV_in hb (nxA code.length a 20) (nxH h 20) (n := (12 : Int).tdiv n) d1.1
      exact ⟨by show -1 ≤ 1 + _; omega, by show 1 + _ ≤ (13 : Int); omega, nxA_in s.1 s.2⟩

def l14Modulus_p (code : List Int) (a : Int) (h : Int) (n : Int) : Post := ⟨bytesB code ∧ 0 ≤ a ∧ a ≤ (code.length : Int) ∧ code.length ≤ 4096 ∧ 0 ≤ n ∧ n ≤ 12, .c (.int .i64 ((moD code a h n).1)), [.bx [.ints .u8 (code), .int .i64 ((moD code a h n).2.1), .int .u64 ((moD code a h n).2.2)]]⟩
def l14Modulus_ct : List AD → Option Post
  | [.box [.ints .u8 (code), .int .i64 (a), .int .u64 (h)], .c (.int .i64 (n))] => some (l14Modulus_p code a h n)
  | _ => none
def l14Modulus_G : List (Nat × Ctr) := [(85, ⟨[(0, 0)], l01Next_ct⟩), (60, ⟨[(0, 0)], l01Pick_ct⟩)]
def l14Modulus_V (code : List Int) (a : Int) (h : Int) (n : Int) : Prop :=
  ((((bytesB code) ∧
 (((0 : Int) ≤ a) ∧
 (a ≤ (1099511627776 : Int)))) ∧
 ((code = code) ∧
 (True))) ∧
 (BrP (nxV code a h (20 : Int) == (0 : Int))
 ((((bytesB code) ∧
 (((0 : Int) ≤ nxA (List.length code) a (20 : Int)) ∧
 ((nxA (List.length code) a (20 : Int) ≤ (1099511627776 : Int)) ∧
 (((1 : Nat) ≤ List.length [(0 : Int), (13 : Int), (-1 : Int), (12 : Int)]) ∧
 (List.length [(0 : Int), (13 : Int), (-1 : Int), (12 : Int)] ≤ (100 : Nat)))))) ∧
 ((code = code) ∧
 (True))) ∧
 ((List.getD [(0 : Int), (13 : Int), (-1 : Int), (12 : Int)] (Int.toNat (nxV code (nxA (List.length code) a (20 : Int)) (nxH h (20 : Int)) (↑(List.length [(0 : Int), (13 : Int), (-1 : Int), (12 : Int)]) : Int))) (0 : Int) = Prod.fst (moD code a h n)) ∧
 (((code = code) ∧
 ((nxA (List.length code) (nxA (List.length code) a (20 : Int)) (↑(List.length [(0 : Int), (13 : Int), (-1 : Int), (12 : Int)]) : Int) = Prod.fst (Prod.snd (moD code a h n))) ∧
 ((nxH (nxH h (20 : Int)) (↑(List.length [(0 : Int), (13 : Int), (-1 : Int), (12 : Int)]) : Int) = Prod.snd (Prod.snd (moD code a h n))) ∧
 (True)))) ∧
 (True))))
 (BrP (Decidable.decide (n < (1 : Int)))
 ((((bytesB code) ∧
 (((0 : Int) ≤ nxA (List.length code) a (20 : Int)) ∧
 (nxA (List.length code) a (20 : Int) ≤ (1099511627776 : Int)))) ∧
 ((code = code) ∧
 (True))) ∧
 ((InR ((1 : Int) + nxV code (nxA (List.length code) a (20 : Int)) (nxH h (20 : Int)) (4 : Int))) ∧
 (((1 : Int) + nxV code (nxA (List.length code) a (20 : Int)) (nxH h (20 : Int)) (4 : Int) = Prod.fst (moD code a h n)) ∧
 (((code = code) ∧
 ((nxA (List.length code) (nxA (List.length code) a (20 : Int)) (4 : Int) = Prod.fst (Prod.snd (moD code a h n))) ∧
 ((nxH (nxH h (20 : Int)) (4 : Int) = Prod.snd (Prod.snd (moD code a h n))) ∧
 (True)))) ∧
 (True)))))
 (BrP (Decidable.decide ((6 : Int) < n))
 ((((bytesB code) ∧
 (((0 : Int) ≤ nxA (List.length code) a (20 : Int)) ∧
 (nxA (List.length code) a (20 : Int) ≤ (1099511627776 : Int)))) ∧
 ((code = code) ∧
 (True))) ∧
 ((InR ((1 : Int) + nxV code (nxA (List.length code) a (20 : Int)) (nxH h (20 : Int)) (4 : Int))) ∧
 (((1 : Int) + nxV code (nxA (List.length code) a (20 : Int)) (nxH h (20 : Int)) (4 : Int) = Prod.fst (moD code a h n)) ∧
 (((code = code) ∧
 ((nxA (List.length code) (nxA (List.length code) a (20 : Int)) (4 : Int) = Prod.fst (Prod.snd (moD code a h n))) ∧
 ((nxH (nxH h (20 : Int)) (4 : Int) = Prod.snd (Prod.snd (moD code a h n))) ∧
 (True)))) ∧
 (True)))))
 (((n ≠ (0 : Int)) ∧
 (InR (Int.tdiv (12 : Int) n))) ∧
 ((((bytesB code) ∧
 (((0 : Int) ≤ nxA (List.length code) a (20 : Int)) ∧
 (nxA (List.length code) a (20 : Int) ≤ (1099511627776 : Int)))) ∧
 ((code = code) ∧
 (True))) ∧
 ((InR ((1 : Int) + nxV code (nxA (List.length code) a (20 : Int)) (nxH h (20 : Int)) (Int.tdiv (12 : Int) n))) ∧
 (((1 : Int) + nxV code (nxA (List.length code) a (20 : Int)) (nxH h (20 : Int)) (Int.tdiv (12 : Int) n) = Prod.fst (moD code a h n)) ∧
 (((code = code) ∧
 ((nxA (List.length code) (nxA (List.length code) a (20 : Int)) (Int.tdiv (12 : Int) n) = Prod.fst (Prod.snd (moD code a h n))) ∧
 ((nxH (nxH h (20 : Int)) (Int.tdiv (12 : Int) n) = Prod.snd (Prod.snd (moD code a h n))) ∧
 (True)))) ∧
 (True))))))))))
theorem l14Modulus_vc (code : List Int) (a : Int) (h : Int) (n : Int) : runF Try.prog (gam l14Modulus_G) noWr noAnn Try.f116 (bodyOf Try.f116) [(0, 0)] [.box [.ints .u8 (code), .int .i64 (a), .int .u64 (h)], .c (.int .i64 (n))] (l14Modulus_p code a h n) = l14Modulus_V code a h n := by kernel_rfl
theorem l14Modulus_ok (code : List Int) (a : Int) (h : Int) (n : Int) (hpre : (l14Modulus_p code a h n).pre) : l14Modulus_V code a h n := by
  simp only [l14Modulus_p, l14Modulus_V, BrP_iff, true_and, and_true, decide_eq_true_eq, decide_eq_false_iff_not, bne_iff_ne, beq_iff_eq, bne_eq_false_iff_eq, beq_eq_false_iff_ne, Bool.not_eq_true, Bool.not_eq_false, Bool.not_true, Bool.not_false, Bool.not_eq_eq_eq_not, Int.toNat_natCast, List.length_append, List.length_take, List.length_replicate, List.length_set, List.length_map, List.length_drop, List.length_nil, List.length_cons, markL_length, inB, InR, room, bdsOk] at hpre ⊢
  obtain ⟨hb, h0, h1, hc, n0, n1⟩ := hpre
  have s := nxA_in (n := 20) h0 h1
  refine ⟨⟨hb, by omega, by omega⟩, fun z => ?_, fun z => ⟨fun y => ?_, fun y => ⟨fun y2 => ?_, fun y2 => ?_⟩⟩⟩
  · have e : moD code a h n = ([0, 13, -1, 12].getD (nxV code (nxA code.length a 20) (nxH h 20) 4).toNat 0, nxA code.length (nxA code.length a 20) 4, nxH (nxH h 20) 4) := if_pos z
    rw [e]
    exact ⟨⟨hb, s.1, by omega, by omega, by omega⟩, rfl, rfl, rfl⟩
  · have e : moD code a h n = (1 + nxV code (nxA code.length a 20) (nxH h 20) 4, nxA code.length (nxA code.length a 20) 4, nxH (nxH h 20) 4) := (if_neg z).trans (if_pos (.inl y))
    have v := nxV_in hb (nxA code.length a 20) (nxH h 20) (n := 4) (by omega)
    rw [e]
    exact ⟨⟨hb, s.1, by omega⟩, by omega, rfl, rfl, rfl⟩
  · have e : moD code a h n = (1 + nxV code (nxA code.length a 20) (nxH h 20) 4, nxA code.length (nxA code.length a 20) 4, nxH (nxH h 20) 4) := (if_neg z).trans (if_pos (.inr y2))
    have v := nxV_in hb (nxA code.length a 20) (nxH h 20) (n := 4) (by omega)
    rw [e]
    exact ⟨⟨hb, s.1, by omega⟩, by omega, rfl, rfl, rfl⟩
  · have e : moD code a h n = (1 + nxV code (nxA code.length a 20) (nxH h 20) ((12 : Int).tdiv n), nxA code.length (nxA code.length a 20) ((12 : Int).tdiv n), nxH (nxH h 20) ((12 : Int).tdiv n)) := (if_neg z).trans (if_neg (by omega))
    have d1 : 1 ≤ (12 : Int).tdiv n ∧ (12 : Int).tdiv n ≤ 12 := by
      have : n = 1 ∨ n = 2 ∨ n = 3 ∨ n = 4 ∨ n = 5 ∨ n = 6 := by omega
      rcases this with e | e | e | e | e | e <;> subst e <;> decide
    have v := nxV_in hb (nxA code.length a 20) (nxH h 20) (n := (12 : Int).tdiv n) d1.1
    rw [e]
    exact ⟨⟨by omega, by omega, by omega⟩, ⟨hb, s.1, by omega⟩, by omega, rfl, rfl, rfl⟩
theorem l14Modulus_fits : Fits Try.prog 116 ⟨[(0, 0)], l14Modulus_ct⟩ := by
  refine fits_fn (Γ := gam l14Modulus_G) (gok_cons l01Next_fits (gok_cons l01Pick_fits gok_nil)) Try.func116 (by kernel_rfl) (by kernel_rfl) (by kernel_rfl) fun ds p h hp => ?_
  unfold l14Modulus_ct at h
  split at h
  · cases h
    exact ⟨noWr, noAnn, by rw [l14Modulus_vc]; exact l14Modulus_ok _ _ _ _  hp⟩
  · cases h

def xY (code : List Int) : Dy := drY code 0 (frH code code.length) 6
def xN (code : List Int) : Nat := (xY code).1.length - (xY code).2.1
def xM (code : List Int) : Int × Int × Int := moD code (xY code).2.2.1 (xY code).2.2.2 (xN code : Int)
theorem xY_ok {code : List Int} (hb : bytesB code) : okY code (xY code) := drY_ok hb (by omega) (by omega) (by omega) (by omega)
def xS (code : List Int) : Dy := shF code (yT (xY code)) (xM code).1 (xM code).2.1 (xM code).2.2
def xK (code : List Int) : Nat := (xS code).1.length - (xS code).2.1

def DrawIsRC_p (code : List Int) : Post := ⟨bytesB code ∧ code.length ≤ 4096, .tup [.inr [.cut ((xY code).2.1) (xN code) 46 2 .i64 ((xY code).1)], .inl (.int .i64 ((xM code).1)), .inl (.cut ((xS code).2.1) (xK code) 46 2 .i64 ((xS code).1))], []⟩
def DrawIsRC_ct : List AD → Option Post
  | [.c (.ints .u8 (code))] => some (DrawIsRC_p code)
  | _ => none
def DrawIsRC_G : List (Nat × Ctr) := [(58, ⟨[], l01From_ct⟩), (59, ⟨[(0, 0)], l03DrawAny_ct⟩), (116, ⟨[(0, 0)], l14Modulus_ct⟩), (117, ⟨[(0, 0)], l14Shape_ct⟩)]
def DrawIsRC_V (code : List Int) : Prop :=
  ((((bytesB code) ∧
 (List.length code ≤ (4096 : Nat))) ∧
 (True)) ∧
 ((((bytesB code) ∧
 ((List.length code ≤ (4096 : Nat)) ∧
 (((0 : Int) ≤ (0 : Int)) ∧
 (((0 : Int) ≤ (↑(List.length code) : Int)) ∧
 (((1 : Int) ≤ (6 : Int)) ∧
 ((6 : Int) ≤ (6 : Int))))))) ∧
 ((code = code) ∧
 (True))) ∧
 ((((bytesB code) ∧
 (((0 : Int) ≤ Prod.fst (Prod.snd (Prod.snd (drY code (0 : Int) (frH code (List.length code)) (6 : Int))))) ∧
 ((Prod.fst (Prod.snd (Prod.snd (drY code (0 : Int) (frH code (List.length code)) (6 : Int)))) ≤ (↑(List.length code) : Int)) ∧
 ((List.length code ≤ (4096 : Nat)) ∧
 (((0 : Int) ≤ (↑(List.length (Prod.fst (drY code (0 : Int) (frH code (List.length code)) (6 : Int))) - Prod.fst (Prod.snd (drY code (0 : Int) (frH code (List.length code)) (6 : Int)))) : Int)) ∧
 ((↑(List.length (Prod.fst (drY code (0 : Int) (frH code (List.length code)) (6 : Int))) - Prod.fst (Prod.snd (drY code (0 : Int) (frH code (List.length code)) (6 : Int)))) : Int) ≤ (12 : Int))))))) ∧
 ((code = code) ∧
 (True))) ∧
 ((((bytesB code) ∧
 ((List.length code ≤ (4096 : Nat)) ∧
 (((0 : Int) ≤ Prod.fst (Prod.snd (moD code (Prod.fst (Prod.snd (Prod.snd (drY code (0 : Int) (frH code (List.length code)) (6 : Int))))) (Prod.snd (Prod.snd (Prod.snd (drY code (0 : Int) (frH code (List.length code)) (6 : Int))))) (↑(List.length (Prod.fst (drY code (0 : Int) (frH code (List.length code)) (6 : Int))) - Prod.fst (Prod.snd (drY code (0 : Int) (frH code (List.length code)) (6 : Int)))) : Int)))) ∧
 ((Prod.fst (Prod.snd (moD code (Prod.fst (Prod.snd (Prod.snd (drY code (0 : Int) (frH code (List.length code)) (6 : Int))))) (Prod.snd (Prod.snd (Prod.snd (drY code (0 : Int) (frH code (List.length code)) (6 : Int))))) (↑(List.length (Prod.fst (drY code (0 : Int) (frH code (List.length code)) (6 : Int))) - Prod.fst (Prod.snd (drY code (0 : Int) (frH code (List.length code)) (6 : Int)))) : Int))) ≤ (↑(List.length code) : Int)) ∧
 ((List.length (List.take (List.length (Prod.fst (drY code (0 : Int) (frH code (List.length code)) (6 : Int))) - Prod.fst (Prod.snd (drY code (0 : Int) (frH code (List.length code)) (6 : Int)))) (List.drop (Prod.fst (Prod.snd (drY code (0 : Int) (frH code (List.length code)) (6 : Int)))) (Prod.fst (drY code (0 : Int) (frH code (List.length code)) (6 : Int))))) ≤ (12 : Nat)) ∧
 ((roomR (List.take (List.length (Prod.fst (drY code (0 : Int) (frH code (List.length code)) (6 : Int))) - Prod.fst (Prod.snd (drY code (0 : Int) (frH code (List.length code)) (6 : Int)))) (List.drop (Prod.fst (Prod.snd (drY code (0 : Int) (frH code (List.length code)) (6 : Int)))) (Prod.fst (drY code (0 : Int) (frH code (List.length code)) (6 : Int)))))) ∧
 (((-1000 : Int) ≤ Prod.fst (moD code (Prod.fst (Prod.snd (Prod.snd (drY code (0 : Int) (frH code (List.length code)) (6 : Int))))) (Prod.snd (Prod.snd (Prod.snd (drY code (0 : Int) (frH code (List.length code)) (6 : Int))))) (↑(List.length (Prod.fst (drY code (0 : Int) (frH code (List.length code)) (6 : Int))) - Prod.fst (Prod.snd (drY code (0 : Int) (frH code (List.length code)) (6 : Int)))) : Int))) ∧
 (Prod.fst (moD code (Prod.fst (Prod.snd (Prod.snd (drY code (0 : Int) (frH code (List.length code)) (6 : Int))))) (Prod.snd (Prod.snd (Prod.snd (drY code (0 : Int) (frH code (List.length code)) (6 : Int))))) (↑(List.length (Prod.fst (drY code (0 : Int) (frH code (List.length code)) (6 : Int))) - Prod.fst (Prod.snd (drY code (0 : Int) (frH code (List.length code)) (6 : Int)))) : Int)) ≤ (1000 : Int))))))))) ∧
 ((code = code) ∧
 (True))) ∧
 (((((Prod.fst (Prod.snd (drY code (0 : Int) (frH code (List.length code)) (6 : Int))) = Prod.fst (Prod.snd (xY code))) ∧
 ((List.length (Prod.fst (drY code (0 : Int) (frH code (List.length code)) (6 : Int))) - Prod.fst (Prod.snd (drY code (0 : Int) (frH code (List.length code)) (6 : Int))) = xN code) ∧
 (Prod.fst (drY code (0 : Int) (frH code (List.length code)) (6 : Int)) = Prod.fst (xY code)))) ∧
 (True)) ∧
 ((Prod.fst (moD code (Prod.fst (Prod.snd (Prod.snd (drY code (0 : Int) (frH code (List.length code)) (6 : Int))))) (Prod.snd (Prod.snd (Prod.snd (drY code (0 : Int) (frH code (List.length code)) (6 : Int))))) (↑(List.length (Prod.fst (drY code (0 : Int) (frH code (List.length code)) (6 : Int))) - Prod.fst (Prod.snd (drY code (0 : Int) (frH code (List.length code)) (6 : Int)))) : Int)) = Prod.fst (xM code)) ∧
 (((Prod.fst (Prod.snd (shF code (List.take (List.length (Prod.fst (drY code (0 : Int) (frH code (List.length code)) (6 : Int))) - Prod.fst (Prod.snd (drY code (0 : Int) (frH code (List.length code)) (6 : Int)))) (List.drop (Prod.fst (Prod.snd (drY code (0 : Int) (frH code (List.length code)) (6 : Int)))) (Prod.fst (drY code (0 : Int) (frH code (List.length code)) (6 : Int))))) (Prod.fst (moD code (Prod.fst (Prod.snd (Prod.snd (drY code (0 : Int) (frH code (List.length code)) (6 : Int))))) (Prod.snd (Prod.snd (Prod.snd (drY code (0 : Int) (frH code (List.length code)) (6 : Int))))) (↑(List.length (Prod.fst (drY code (0 : Int) (frH code (List.length code)) (6 : Int))) - Prod.fst (Prod.snd (drY code (0 : Int) (frH code (List.length code)) (6 : Int)))) : Int))) (Prod.fst (Prod.snd (moD code (Prod.fst (Prod.snd (Prod.snd (drY code (0 : Int) (frH code (List.length code)) (6 : Int))))) (Prod.snd (Prod.snd (Prod.snd (drY code (0 : Int) (frH code (List.length code)) (6 : Int))))) (↑(List.length (Prod.fst (drY code (0 : Int) (frH code (List.length code)) (6 : Int))) - Prod.fst (Prod.snd (drY code (0 : Int) (frH code (List.length code)) (6 : Int)))) : Int)))) (Prod.snd (Prod.snd (moD code (Prod.fst (Prod.snd (Prod.snd (drY code (0 : Int) (frH code (List.length code)) (6 : Int))))) (Prod.snd (Prod.snd (Prod.snd (drY code (0 : Int) (frH code (List.length code)) (6 : Int))))) (↑(List.length (Prod.fst (drY code (0 : Int) (frH code (List.length code)) (6 : Int))) - Prod.fst (Prod.snd (drY code (0 : Int) (frH code (List.length code)) (6 : Int)))) : Int)))))) = Prod.fst (Prod.snd (xS code))) ∧
 ((List.length (Prod.fst (shF code (List.take (List.length (Prod.fst (drY code (0 : Int) (frH code (List.length code)) (6 : Int))) - Prod.fst (Prod.snd (drY code (0 : Int) (frH code (List.length code)) (6 : Int)))) (List.drop (Prod.fst (Prod.snd (drY code (0 : Int) (frH code (List.length code)) (6 : Int)))) (Prod.fst (drY code (0 : Int) (frH code (List.length code)) (6 : Int))))) (Prod.fst (moD code (Prod.fst (Prod.snd (Prod.snd (drY code (0 : Int) (frH code (List.length code)) (6 : Int))))) (Prod.snd (Prod.snd (Prod.snd (drY code (0 : Int) (frH code (List.length code)) (6 : Int))))) (↑(List.length (Prod.fst (drY code (0 : Int) (frH code (List.length code)) (6 : Int))) - Prod.fst (Prod.snd (drY code (0 : Int) (frH code (List.length code)) (6 : Int)))) : Int))) (Prod.fst (Prod.snd (moD code (Prod.fst (Prod.snd (Prod.snd (drY code (0 : Int) (frH code (List.length code)) (6 : Int))))) (Prod.snd (Prod.snd (Prod.snd (drY code (0 : Int) (frH code (List.length code)) (6 : Int))))) (↑(List.length (Prod.fst (drY code (0 : Int) (frH code (List.length code)) (6 : Int))) - Prod.fst (Prod.snd (drY code (0 : Int) (frH code (List.length code)) (6 : Int)))) : Int)))) (Prod.snd (Prod.snd (moD code (Prod.fst (Prod.snd (Prod.snd (drY code (0 : Int) (frH code (List.length code)) (6 : Int))))) (Prod.snd (Prod.snd (Prod.snd (drY code (0 : Int) (frH code (List.length code)) (6 : Int))))) (↑(List.length (Prod.fst (drY code (0 : Int) (frH code (List.length code)) (6 : Int))) - Prod.fst (Prod.snd (drY code (0 : Int) (frH code (List.length code)) (6 : Int)))) : Int)))))) - Prod.fst (Prod.snd (shF code (List.take (List.length (Prod.fst (drY code (0 : Int) (frH code (List.length code)) (6 : Int))) - Prod.fst (Prod.snd (drY code (0 : Int) (frH code (List.length code)) (6 : Int)))) (List.drop (Prod.fst (Prod.snd (drY code (0 : Int) (frH code (List.length code)) (6 : Int)))) (Prod.fst (drY code (0 : Int) (frH code (List.length code)) (6 : Int))))) (Prod.fst (moD code (Prod.fst (Prod.snd (Prod.snd (drY code (0 : Int) (frH code (List.length code)) (6 : Int))))) (Prod.snd (Prod.snd (Prod.snd (drY code (0 : Int) (frH code (List.length code)) (6 : Int))))) (↑(List.length (Prod.fst (drY code (0 : Int) (frH code (List.length code)) (6 : Int))) - Prod.fst (Prod.snd (drY code (0 : Int) (frH code (List.length code)) (6 : Int)))) : Int))) (Prod.fst (Prod.snd (moD code (Prod.fst (Prod.snd (Prod.snd (drY code (0 : Int) (frH code (List.length code)) (6 : Int))))) (Prod.snd (Prod.snd (Prod.snd (drY code (0 : Int) (frH code (List.length code)) (6 : Int))))) (↑(List.length (Prod.fst (drY code (0 : Int) (frH code (List.length code)) (6 : Int))) - Prod.fst (Prod.snd (drY code (0 : Int) (frH code (List.length code)) (6 : Int)))) : Int)))) (Prod.snd (Prod.snd (moD code (Prod.fst (Prod.snd (Prod.snd (drY code (0 : Int) (frH code (List.length code)) (6 : Int))))) (Prod.snd (Prod.snd (Prod.snd (drY code (0 : Int) (frH code (List.length code)) (6 : Int))))) (↑(List.length (Prod.fst (drY code (0 : Int) (frH code (List.length code)) (6 : Int))) - Prod.fst (Prod.snd (drY code (0 : Int) (frH code (List.length code)) (6 : Int)))) : Int)))))) = xK code) ∧
 (Prod.fst (shF code (List.take (List.length (Prod.fst (drY code (0 : Int) (frH code (List.length code)) (6 : Int))) - Prod.fst (Prod.snd (drY code (0 : Int) (frH code (List.length code)) (6 : Int)))) (List.drop (Prod.fst (Prod.snd (drY code (0 : Int) (frH code (List.length code)) (6 : Int)))) (Prod.fst (drY code (0 : Int) (frH code (List.length code)) (6 : Int))))) (Prod.fst (moD code (Prod.fst (Prod.snd (Prod.snd (drY code (0 : Int) (frH code (List.length code)) (6 : Int))))) (Prod.snd (Prod.snd (Prod.snd (drY code (0 : Int) (frH code (List.length code)) (6 : Int))))) (↑(List.length (Prod.fst (drY code (0 : Int) (frH code (List.length code)) (6 : Int))) - Prod.fst (Prod.snd (drY code (0 : Int) (frH code (List.length code)) (6 : Int)))) : Int))) (Prod.fst (Prod.snd (moD code (Prod.fst (Prod.snd (Prod.snd (drY code (0 : Int) (frH code (List.length code)) (6 : Int))))) (Prod.snd (Prod.snd (Prod.snd (drY code (0 : Int) (frH code (List.length code)) (6 : Int))))) (↑(List.length (Prod.fst (drY code (0 : Int) (frH code (List.length code)) (6 : Int))) - Prod.fst (Prod.snd (drY code (0 : Int) (frH code (List.length code)) (6 : Int)))) : Int)))) (Prod.snd (Prod.snd (moD code (Prod.fst (Prod.snd (Prod.snd (drY code (0 : Int) (frH code (List.length code)) (6 : Int))))) (Prod.snd (Prod.snd (Prod.snd (drY code (0 : Int) (frH code (List.length code)) (6 : Int))))) (↑(List.length (Prod.fst (drY code (0 : Int) (frH code (List.length code)) (6 : Int))) - Prod.fst (Prod.snd (drY code (0 : Int) (frH code (List.length code)) (6 : Int)))) : Int))))) = Prod.fst (xS code)))) ∧
 (True)))) ∧
 (True))))))
theorem DrawIsRC_vc (code : List Int) : runF Try.prog (gam DrawIsRC_G) noWr noAnn Try.f67 (bodyOf Try.f67) [] [.c (.ints .u8 (code))] (DrawIsRC_p code) = DrawIsRC_V code := by kernel_rfl
theorem DrawIsRC_ok (code : List Int) (hpre : (DrawIsRC_p code).pre) : DrawIsRC_V code := by
  simp only [DrawIsRC_p, DrawIsRC_V, BrP_iff, true_and, and_true, decide_eq_true_eq, decide_eq_false_iff_not, bne_iff_ne, beq_iff_eq, bne_eq_false_iff_eq, beq_eq_false_iff_ne, Bool.not_eq_true, Bool.not_eq_false, Bool.not_true, Bool.not_false, Bool.not_eq_eq_eq_not, Int.toNat_natCast, List.length_append, List.length_take, List.length_replicate, List.length_set, List.length_map, List.length_drop, List.length_nil, List.length_cons, markL_length, inB, InR, room, bdsOk] at hpre ⊢
  obtain ⟨hb, hc⟩ := hpre
  have eY : drY code 0 (frH code code.length) 6 = xY code := rfl
  simp only [eY]
  have eN : (xY code).1.length - (xY code).2.1 = xN code := rfl
  simp only [eN]
  have eT : List.take (xN code) (List.drop (xY code).2.1 (xY code).1) = yT (xY code) := rfl
  simp only [eT]
  have eM : moD code (xY code).2.2.1 (xY code).2.2.2 (xN code : Int) = xM code := rfl
  simp only [eM]
  have eS : shF code (yT (xY code)) (xM code).1 (xM code).2.1 (xM code).2.2 = xS code := rfl
  simp only [eS]
  have K := xY_ok hb
  obtain ⟨k1, k2, k3, k4, k5, k6⟩ := K
  have n : xN code ≤ 6 := by unfold xN; omega
  have M := moD_in hb (h := (xY code).2.2.2) (n := (xN code : Int)) k5 k6 (by omega)
  rw [eM] at M
  exact ⟨⟨hb, hc⟩, ⟨hb, hc, by omega, by omega, by omega, by omega⟩, ⟨hb, k5, k6, hc, by omega, by omega⟩, ⟨hb, hc, M.2.2.1, M.2.2.2, by omega, yT_room ⟨k1, k2, k3, k4, k5, k6⟩, by omega, by omega⟩, ⟨trivial, trivial, trivial⟩, trivial, trivial, rfl, trivial⟩
theorem DrawIsRC_fits : Fits Try.prog 67 ⟨[], DrawIsRC_ct⟩ := by
  refine fits_fn (Γ := gam DrawIsRC_G) (gok_cons l01From_fits (gok_cons l03DrawAny_fits (gok_cons l14Modulus_fits (gok_cons l14Shape_fits gok_nil)))) Try.func67 (by kernel_rfl) (by kernel_rfl) (by kernel_rfl) fun ds p h hp => ?_
  unfold DrawIsRC_ct at h
  split at h
  · cases h
    exact ⟨noWr, noAnn, by rw [DrawIsRC_vc]; exact DrawIsRC_ok _  hp⟩
  · cases h

def DrawExtR_p (code : List Int) : Post := ⟨bytesB code ∧ code.length ≤ 4096, .tup [.inr [.cut ((xY code).2.1) (xN code) 46 2 .i64 ((xY code).1)], .inl (.int .i64 ((xM code).1)), .inl (.cut ((xS code).2.1) (xK code) 46 2 .i64 ((xS code).1))], []⟩
def DrawExtR_ct : List AD → Option Post
  | [.c (.ints .u8 (code))] => some (DrawExtR_p code)
  | _ => none
def DrawExtR_G : List (Nat × Ctr) := [(67, ⟨[], DrawIsRC_ct⟩)]
def DrawExtR_V (code : List Int) : Prop :=
  ((((bytesB code) ∧
 (List.length code ≤ (4096 : Nat))) ∧
 (True)) ∧
 (((((Prod.fst (Prod.snd (xY code)) = Prod.fst (Prod.snd (xY code))) ∧
 ((xN code = xN code) ∧
 (Prod.fst (xY code) = Prod.fst (xY code)))) ∧
 (True)) ∧
 ((Prod.fst (xM code) = Prod.fst (xM code)) ∧
 (((Prod.fst (Prod.snd (xS code)) = Prod.fst (Prod.snd (xS code))) ∧
 ((xK code = xK code) ∧
 (Prod.fst (xS code) = Prod.fst (xS code)))) ∧
 (True)))) ∧
 (True)))
theorem DrawExtR_vc (code : List Int) : runF Try.prog (gam DrawExtR_G) noWr noAnn Try.f20 (bodyOf Try.f20) [] [.c (.ints .u8 (code))] (DrawExtR_p code) = DrawExtR_V code := by kernel_rfl
theorem DrawExtR_ok (code : List Int) (hpre : (DrawExtR_p code).pre) : DrawExtR_V code := by
  simp only [DrawExtR_p, DrawExtR_V, BrP_iff, true_and, and_true, decide_eq_true_eq, decide_eq_false_iff_not, bne_iff_ne, beq_iff_eq, bne_eq_false_iff_eq, beq_eq_false_iff_ne, Bool.not_eq_true, Bool.not_eq_false, Bool.not_true, Bool.not_false, Bool.not_eq_eq_eq_not, Int.toNat_natCast, List.length_append, List.length_take, List.length_replicate, List.length_set, List.length_map, List.length_drop, List.length_nil, List.length_cons, markL_length, inB, InR, room, bdsOk] at hpre ⊢
  exact hpre
theorem DrawExtR_fits : Fits Try.prog 20 ⟨[], DrawExtR_ct⟩ := by
  refine fits_fn (Γ := gam DrawExtR_G) (gok_cons DrawIsRC_fits gok_nil) Try.func20 (by kernel_rfl) (by kernel_rfl) (by kernel_rfl) fun ds p h hp => ?_
  unfold DrawExtR_ct at h
  split at h
  · cases h
    exact ⟨noWr, noAnn, by rw [DrawExtR_vc]; exact DrawExtR_ok _  hp⟩
  · cases h

def xT (code : List Int) : List (List Int) := yT (xY code)
def xG (code : List Int) : List (List Int) := yT (xS code)

theorem drwS_ok {code : List Int} {m : Int} {n : Nat} : ∀ (j : Nat) (s : Ds), (∀ r ∈ s.1, r.length ≤ 12) → n ≤ 12 → 0 ≤ s.2.1 → s.2.1 ≤ (code.length : Int) → (drwS code m n j s).1.length = s.1.length + j ∧ ∀ r ∈ (drwS code m n j s).1, r.length ≤ 12
  | 0, s, h, _, _, _ => ⟨rfl, h⟩
  | j + 1, s, h, hn, h0, h1 => by
    have D := drL_len (code := code) (m := m) n ([], s.2.1, s.2.2) h0 h1
    have := drwS_ok (code := code) (m := m) (n := n) j (s.1 ++ [(lsS code m n ([], s.2.1, s.2.2)).1], (lsS code m n ([], s.2.1, s.2.2)).2) (fun r hr => by
      rcases List.mem_append.1 hr with hr | hr
      · exact h r hr
      · rw [List.mem_singleton.1 hr, D.1]; show 0 + n ≤ 12; omega) hn D.2.1 D.2.2
    rw [List.length_append] at this
    refine ⟨?_, this.2⟩
    have e := this.1
    show (drwS code m n j _).1.length = _
    rw [e]; show s.1.length + 1 + j = _; omega

theorem set_rows {F : List (List Int)} {i j : Nat} {v : Int} (h : ∀ r ∈ F, r.length ≤ 12) : ∀ r ∈ F.set i ((F.getD i []).set j v), r.length ≤ 12 := fun r hr => by
  rcases List.mem_or_eq_of_mem_set hr with hr | rfl
  · exact h r hr
  · rw [List.length_set]
    by_cases e : i < F.length
    · rw [getD_lt F [] i e]; exact h _ (List.getElem_mem e)
    · rw [List.getD_eq_getElem?_getD, List.getElem?_eq_none (by omega)]; simp

theorem shE_ok {code : List Int} {n m b k : Int} {F : List (List Int)} (h : ∀ r ∈ F, r.length ≤ 12) (hl : F.length ≤ 12) : (shE code n m (F, b, k)).1.length ≤ 12 ∧ ∀ r ∈ (shE code n m (F, b, k)).1, r.length ≤ 12 := by
  by_cases z : nxV code b k 12 = 0
  · rw [shE0 z]; exact ⟨by rw [List.length_set]; exact hl, set_rows h⟩
  · by_cases z1 : nxV code b k 12 = 1
    · rw [shE1 z z1]; exact ⟨by rw [List.length_set]; exact hl, set_rows h⟩
    · by_cases z2 : nxV code b k 12 = 2
      · rw [shE2 z z1 z2]; exact ⟨hl, h⟩
      · rw [shE3 z z1 z2]; exact ⟨hl, h⟩

theorem shF_ok {code : List Int} {t : List (List Int)} {m a h : Int} (hn : t.length ≤ 12) (h0 : 0 ≤ a) (h1 : a ≤ (code.length : Int)) : (shF code t m a h).1.length ≤ 12 ∧ ∀ r ∈ (shF code t m a h).1, r.length ≤ 12 := by
  have s := nxA_in (n := 5) h0 h1
  unfold shF
  split
  · split
    · have D := drwS_ok (code := code) (m := m) (n := t.length) t.length ([], nxA code.length a 5, nxH h 5) (fun r hr => (List.not_mem_nil hr).elim) hn s.1 s.2
      exact ⟨by show (drwS _ _ _ _ _).1.length ≤ 12; rw [D.1]; show 0 + t.length ≤ 12; omega, D.2⟩
    · refine shE_ok (fun r hr => ?_) (by rw [tabR_length]; exact hn)
      simp only [tabR, List.mem_map] at hr
      obtain ⟨i, _, rfl⟩ := hr
      rw [tab_length]; exact hn
  · have D := drwS_ok (code := code) (m := m) (n := t.length) t.length ([], a, h) (fun r hr => (List.not_mem_nil hr).elim) hn h0 h1
    exact ⟨by show (drwS _ _ _ _ _).1.length ≤ 12; rw [D.1]; show 0 + t.length ≤ 12; omega, D.2⟩

theorem xG_room {code : List Int} (hb : bytesB code) : roomR (xG code) := by
  obtain ⟨k1, k2, k3, k4, k5, k6⟩ := xY_ok hb
  have M := moD_in hb (h := (xY code).2.2.2) (n := (xN code : Int)) k5 k6 (by omega)
  have T := yT_length (xY code)
  have S := shF_ok (code := code) (t := yT (xY code)) (m := (xM code).1) (a := (xM code).2.1) (h := (xM code).2.2) (by omega) M.2.2.1 M.2.2.2
  have e : shF code (yT (xY code)) (xM code).1 (xM code).2.1 (xM code).2.2 = xS code := rfl
  rw [e] at S
  refine ⟨by rw [xG, yT_length]; omega, fun r hr => ?_⟩
  have := S.2 r (List.mem_of_mem_drop (List.mem_of_mem_take hr))
  omega

theorem rx_a {t f : List (List Int)} {m : Int} (h : (rcC t m f).2 ≠ 0) : (exC t m f).2 = (rcC t m f).2 := by
  unfold rcC at h ⊢
  unfold exC
  split
  · rename_i hr
    rw [if_pos hr] at h
    split
    · rename_i hm; rw [if_pos hm] at h; exact absurd rfl h
    · rfl
  · rfl

theorem rx_b {t f : List (List Int)} {m : Int} (h : (rcC t m f).2 = 0) : rackB t = true ∧ matB (t.length : Int) m f = true ∧ (rcC t m f).1 = (rcF t m f).isNone ∧ (12 < (t.length : Int) * m → (exC t m f).2 = 3) ∧
    (¬ 12 < (t.length : Int) * m → exC t m f = if (rcF t m f).isNone = true then (exR t m f, 0) else ([], 5)) := by
  unfold rcC at h ⊢
  split at h
  · rename_i hr
    split at h
    · rename_i hm
      refine ⟨hr, hm, ?_, fun k => ?_, fun k => ?_⟩
      · rw [if_pos hr, if_pos hm]
      · rw [exC, if_pos hr, if_pos hm, if_pos k]
      · rw [exC, if_pos hr, if_pos hm, if_neg k]
    · cases h
  · cases h

def lRxt_p (code : List Int) : Post := ⟨bytesB code, .c (.bool (true)), []⟩
def lRxt_ct : List AD → Option Post
  | [.c (.ints .u8 (code))] => some (lRxt_p code)
  | _ => none
def lRxt_ann (code : List Int) : Nat → Option Ann
  | 0 => some (Ann.mk ((Nat)) (fun a => ⟨[(3, .c (.ptr 3 0)), (4, .c (.int .i64 ((xM code).1))), (5, .c (.ro (.rows .i64 (xG code)))), (6, .c (.ptr 6 0)), (7, .c (.int .i64 ((exC (xT code) (xM code).1 (xG code)).2))), (10, .c (.bool ((rcC (xT code) (xM code).1 (xG code)).1))), (14, .c (.int .i64 (((xT code).length : Int)))), (15, .c (.own (100))), (16, .c (.int .i64 ((a : Int))))], [(3, some (.box [.ro (.rows .i64 (xT code))])), (6, some (.box [.ro (.rows .i64 ((exC (xT code) (xM code).1 (xG code)).1))])), (100, some (.rows 0 46 2 .i64 ((exR (xT code) (xM code).1 (xG code)).take a)))]⟩) (fun a => (a : Int) ≤ ((xT code).length : Int) * (xM code).1 ∧ (rcC (xT code) (xM code).1 (xG code)).2 = 0 ∧ ((xT code).length : Int) * (xM code).1 ≤ 12) (fun a => (((xT code).length : Int) * (xM code).1).toNat - a) (fun a => fun b_ => match b_ with | 2 => some (Ann.mk ((Nat)) (fun b => ⟨[(3, .c (.ptr 3 0)), (4, .c (.int .i64 ((xM code).1))), (5, .c (.ro (.rows .i64 (xG code)))), (6, .c (.ptr 6 0)), (7, .c (.int .i64 ((exC (xT code) (xM code).1 (xG code)).2))), (10, .c (.bool ((rcC (xT code) (xM code).1 (xG code)).1))), (14, .c (.int .i64 (((xT code).length : Int)))), (15, .c (.own (100))), (16, .c (.int .i64 ((a : Int)))), (17, .c (.own (108))), (18, .c (.int .i64 ((b : Int))))], [(3, some (.box [.ro (.rows .i64 (xT code))])), (6, some (.box [.ro (.rows .i64 ((exC (xT code) (xM code).1 (xG code)).1))])), (100, some (.rows 0 46 2 .i64 ((exR (xT code) (xM code).1 (xG code)).take a))), (108, some (.ints 2 .i64 ((tab (((xT code).length : Int) * (xM code).1).toNat fun b => exI (xT code) (xM code).1 (xG code) (a : Int) (b : Int)).take b)))]⟩) (fun b => (b : Int) ≤ ((xT code).length : Int) * (xM code).1 ∧ (a : Int) < ((xT code).length : Int) * (xM code).1) (fun b => (((xT code).length : Int) * (xM code).1).toNat - b) (fun _ => noAnn)) | _ => none))
  | 4 => some (Ann.mk ((Nat)) (fun x => ⟨[(3, .c (.ptr 3 0)), (4, .c (.int .i64 ((xM code).1))), (5, .c (.ro (.rows .i64 (xG code)))), (6, .c (.ptr 6 0)), (7, .c (.int .i64 ((exC (xT code) (xM code).1 (xG code)).2))), (10, .c (.bool ((rcC (xT code) (xM code).1 (xG code)).1))), (14, .c (.int .i64 (((xT code).length : Int)))), (15, .c (.ro (.rows .i64 (exR (xT code) (xM code).1 (xG code))))), (19, .c (.bool ((iqC (xT code)).1))), (20, .c (.int .i64 ((iqC (xT code)).2))), (21, .c (.bool ((iqC (exC (xT code) (xM code).1 (xG code)).1).1))), (22, .c (.int .i64 ((iqC (exC (xT code) (xM code).1 (xG code)).1).2))), (23, .c (.bool ((List.range x).all fun x => decide (en (xG code) x x = 0)))), (24, .c (.int .i64 ((x : Int))))], [(3, some (.box [.ro (.rows .i64 (xT code))])), (6, some (.box [.ro (.rows .i64 ((exC (xT code) (xM code).1 (xG code)).1))]))]⟩) (fun x => x ≤ (xT code).length ∧ (rcC (xT code) (xM code).1 (xG code)).2 = 0 ∧ ((xT code).length : Int) * (xM code).1 ≤ 12 ∧ (rcC (xT code) (xM code).1 (xG code)).1 = true) (fun x => (xT code).length - x) (fun _ => noAnn))
  | _ => none
def lRxt_G : List (Nat × Ctr) := [(16, ⟨[], big_ct⟩), (20, ⟨[], DrawExtR_ct⟩), (21, ⟨[], iExt_ct⟩), (22, ⟨[], sExt_ct⟩), (23, ⟨[], iIsRC_ct⟩), (24, ⟨[], sIsRC_ct⟩), (25, ⟨[], likeRows5_ct⟩), (26, ⟨[], IsRack_ct⟩), (27, ⟨[], iIsQ_ct⟩)]
def lRxt_V (code : List Int) : Prop :=
  (((True) ∧
 (True)) ∧
 (BrP (Decidable.decide ((4096 : Int) < (↑(List.length code) : Int)))
 ((Bool.true = Bool.true) ∧
 (True))
 ((((bytesB code) ∧
 (List.length code ≤ (4096 : Nat))) ∧
 (True)) ∧
 ((((roomR (List.take (xN code) (List.drop (Prod.fst (Prod.snd (xY code))) (Prod.fst (xY code))))) ∧
 (roomR (List.take (xK code) (List.drop (Prod.fst (Prod.snd (xS code))) (Prod.fst (xS code)))))) ∧
 (True)) ∧
 ((((roomR (List.take (xN code) (List.drop (Prod.fst (Prod.snd (xY code))) (Prod.fst (xY code))))) ∧
 (roomR (List.take (xK code) (List.drop (Prod.fst (Prod.snd (xS code))) (Prod.fst (xS code)))))) ∧
 (True)) ∧
 ((((roomR (List.take (xN code) (List.drop (Prod.fst (Prod.snd (xY code))) (Prod.fst (xY code))))) ∧
 (roomR (List.take (xK code) (List.drop (Prod.fst (Prod.snd (xS code))) (Prod.fst (xS code)))))) ∧
 (True)) ∧
 ((((roomR (List.take (xN code) (List.drop (Prod.fst (Prod.snd (xY code))) (Prod.fst (xY code))))) ∧
 (roomR (List.take (xK code) (List.drop (Prod.fst (Prod.snd (xS code))) (Prod.fst (xS code)))))) ∧
 (True)) ∧
 (BrP (Prod.snd (exC (List.take (xN code) (List.drop (Prod.fst (Prod.snd (xY code))) (Prod.fst (xY code)))) (Prod.fst (xM code)) (List.take (xK code) (List.drop (Prod.fst (Prod.snd (xS code))) (Prod.fst (xS code))))) != Prod.snd (exC (List.take (xN code) (List.drop (Prod.fst (Prod.snd (xY code))) (Prod.fst (xY code)))) (Prod.fst (xM code)) (List.take (xK code) (List.drop (Prod.fst (Prod.snd (xS code))) (Prod.fst (xS code))))))
 ((Bool.false = Bool.true) ∧
 (True))
 (BrP (Prod.snd (rcC (List.take (xN code) (List.drop (Prod.fst (Prod.snd (xY code))) (Prod.fst (xY code)))) (Prod.fst (xM code)) (List.take (xK code) (List.drop (Prod.fst (Prod.snd (xS code))) (Prod.fst (xS code))))) != Prod.snd (rcC (List.take (xN code) (List.drop (Prod.fst (Prod.snd (xY code))) (Prod.fst (xY code)))) (Prod.fst (xM code)) (List.take (xK code) (List.drop (Prod.fst (Prod.snd (xS code))) (Prod.fst (xS code))))))
 ((Bool.false = Bool.true) ∧
 (True))
 (BrP (!Prod.fst (rcC (List.take (xN code) (List.drop (Prod.fst (Prod.snd (xY code))) (Prod.fst (xY code)))) (Prod.fst (xM code)) (List.take (xK code) (List.drop (Prod.fst (Prod.snd (xS code))) (Prod.fst (xS code))))) == Prod.fst (rcC (List.take (xN code) (List.drop (Prod.fst (Prod.snd (xY code))) (Prod.fst (xY code)))) (Prod.fst (xM code)) (List.take (xK code) (List.drop (Prod.fst (Prod.snd (xS code))) (Prod.fst (xS code))))))
 ((Bool.false = Bool.true) ∧
 (True))
 (((roomR (Prod.fst (exC (List.take (xN code) (List.drop (Prod.fst (Prod.snd (xY code))) (Prod.fst (xY code)))) (Prod.fst (xM code)) (List.take (xK code) (List.drop (Prod.fst (Prod.snd (xS code))) (Prod.fst (xS code))))))) ∧
 (True)) ∧
 (BrP (!Decidable.decide (Prod.fst (exC (List.take (xN code) (List.drop (Prod.fst (Prod.snd (xY code))) (Prod.fst (xY code)))) (Prod.fst (xM code)) (List.take (xK code) (List.drop (Prod.fst (Prod.snd (xS code))) (Prod.fst (xS code))))) = Prod.fst (exC (List.take (xN code) (List.drop (Prod.fst (Prod.snd (xY code))) (Prod.fst (xY code)))) (Prod.fst (xM code)) (List.take (xK code) (List.drop (Prod.fst (Prod.snd (xS code))) (Prod.fst (xS code)))))))
 ((Bool.false = Bool.true) ∧
 (True))
 (BrP (Prod.snd (rcC (List.take (xN code) (List.drop (Prod.fst (Prod.snd (xY code))) (Prod.fst (xY code)))) (Prod.fst (xM code)) (List.take (xK code) (List.drop (Prod.fst (Prod.snd (xS code))) (Prod.fst (xS code))))) != (0 : Int))
 (((Prod.snd (exC (List.take (xN code) (List.drop (Prod.fst (Prod.snd (xY code))) (Prod.fst (xY code)))) (Prod.fst (xM code)) (List.take (xK code) (List.drop (Prod.fst (Prod.snd (xS code))) (Prod.fst (xS code))))) == Prod.snd (rcC (List.take (xN code) (List.drop (Prod.fst (Prod.snd (xY code))) (Prod.fst (xY code)))) (Prod.fst (xM code)) (List.take (xK code) (List.drop (Prod.fst (Prod.snd (xS code))) (Prod.fst (xS code)))))) = Bool.true) ∧
 (True))
 ((InR ((↑(xN code) : Int) * Prod.fst (xM code))) ∧
 (BrP (Decidable.decide ((12 : Int) < (↑(xN code) : Int) * Prod.fst (xM code)))
 (((Prod.snd (exC (List.take (xN code) (List.drop (Prod.fst (Prod.snd (xY code))) (Prod.fst (xY code)))) (Prod.fst (xM code)) (List.take (xK code) (List.drop (Prod.fst (Prod.snd (xS code))) (Prod.fst (xS code))))) == (3 : Int)) = Bool.true) ∧
 (True))
 (BrP (!Prod.fst (rcC (List.take (xN code) (List.drop (Prod.fst (Prod.snd (xY code))) (Prod.fst (xY code)))) (Prod.fst (xM code)) (List.take (xK code) (List.drop (Prod.fst (Prod.snd (xS code))) (Prod.fst (xS code))))) == (Prod.snd (exC (List.take (xN code) (List.drop (Prod.fst (Prod.snd (xY code))) (Prod.fst (xY code)))) (Prod.fst (xM code)) (List.take (xK code) (List.drop (Prod.fst (Prod.snd (xS code))) (Prod.fst (xS code))))) == (0 : Int)))
 ((Bool.false = Bool.true) ∧
 (True))
 ((∃ x0 : Nat, ((((↑x0 : Int) ≤ (↑(List.length (xT code)) : Int) * Prod.fst (xM code)) ∧
 ((Prod.snd (rcC (xT code) (Prod.fst (xM code)) (xG code)) = (0 : Int)) ∧
 ((↑(List.length (xT code)) : Int) * Prod.fst (xM code) ≤ (12 : Int)))) ∧
 ((Prod.fst (xM code) = Prod.fst (xM code)) ∧
 ((List.take (xK code) (List.drop (Prod.fst (Prod.snd (xS code))) (Prod.fst (xS code))) = xG code) ∧
 ((Prod.snd (exC (List.take (xN code) (List.drop (Prod.fst (Prod.snd (xY code))) (Prod.fst (xY code)))) (Prod.fst (xM code)) (List.take (xK code) (List.drop (Prod.fst (Prod.snd (xS code))) (Prod.fst (xS code))))) = Prod.snd (exC (xT code) (Prod.fst (xM code)) (xG code))) ∧
 ((Prod.fst (rcC (List.take (xN code) (List.drop (Prod.fst (Prod.snd (xY code))) (Prod.fst (xY code)))) (Prod.fst (xM code)) (List.take (xK code) (List.drop (Prod.fst (Prod.snd (xS code))) (Prod.fst (xS code))))) = Prod.fst (rcC (xT code) (Prod.fst (xM code)) (xG code))) ∧
 (((↑(xN code) : Int) = (↑(List.length (xT code)) : Int)) ∧
 (((0 : Int) = (↑x0 : Int)) ∧
 ((List.take (xN code) (List.drop (Prod.fst (Prod.snd (xY code))) (Prod.fst (xY code))) = xT code) ∧
 ((Prod.fst (exC (List.take (xN code) (List.drop (Prod.fst (Prod.snd (xY code))) (Prod.fst (xY code)))) (Prod.fst (xM code)) (List.take (xK code) (List.drop (Prod.fst (Prod.snd (xS code))) (Prod.fst (xS code))))) = Prod.fst (exC (xT code) (Prod.fst (xM code)) (xG code))) ∧
 ([] = List.take x0 (exR (xT code) (Prod.fst (xM code)) (xG code))))))))))))) ∧
 (∀ x1 : Nat, ((((↑x1 : Int) ≤ (↑(List.length (xT code)) : Int) * Prod.fst (xM code)) ∧
 ((Prod.snd (rcC (xT code) (Prod.fst (xM code)) (xG code)) = (0 : Int)) ∧
 ((↑(List.length (xT code)) : Int) * Prod.fst (xM code) ≤ (12 : Int)))) →
 ((InR ((↑(List.length (xT code)) : Int) * Prod.fst (xM code))) ∧
 (BrP (Decidable.decide ((↑x1 : Int) < (↑(List.length (xT code)) : Int) * Prod.fst (xM code)))
 ((∃ x2 : Nat, ((((↑x2 : Int) ≤ (↑(List.length (xT code)) : Int) * Prod.fst (xM code)) ∧
 ((↑x1 : Int) < (↑(List.length (xT code)) : Int) * Prod.fst (xM code))) ∧
 ((Prod.fst (xM code) = Prod.fst (xM code)) ∧
 ((xG code = xG code) ∧
 ((Prod.snd (exC (xT code) (Prod.fst (xM code)) (xG code)) = Prod.snd (exC (xT code) (Prod.fst (xM code)) (xG code))) ∧
 ((Prod.fst (rcC (xT code) (Prod.fst (xM code)) (xG code)) = Prod.fst (rcC (xT code) (Prod.fst (xM code)) (xG code))) ∧
 (((↑(List.length (xT code)) : Int) = (↑(List.length (xT code)) : Int)) ∧
 (((↑x1 : Int) = (↑x1 : Int)) ∧
 (((0 : Int) = (↑x2 : Int)) ∧
 ((xT code = xT code) ∧
 ((Prod.fst (exC (xT code) (Prod.fst (xM code)) (xG code)) = Prod.fst (exC (xT code) (Prod.fst (xM code)) (xG code))) ∧
 ((List.take x1 (exR (xT code) (Prod.fst (xM code)) (xG code)) = List.take x1 (exR (xT code) (Prod.fst (xM code)) (xG code))) ∧
 ([] = List.take x2 (tab (Int.toNat ((↑(List.length (xT code)) : Int) * Prod.fst (xM code))) fun (b : Nat) => exI (xT code) (Prod.fst (xM code)) (xG code) (↑x1 : Int) (↑b : Int))))))))))))))) ∧
 (∀ x3 : Nat, ((((↑x3 : Int) ≤ (↑(List.length (xT code)) : Int) * Prod.fst (xM code)) ∧
 ((↑x1 : Int) < (↑(List.length (xT code)) : Int) * Prod.fst (xM code))) →
 ((InR ((↑(List.length (xT code)) : Int) * Prod.fst (xM code))) ∧
 (BrP (Decidable.decide ((↑x3 : Int) < (↑(List.length (xT code)) : Int) * Prod.fst (xM code)))
 (((Prod.fst (xM code) ≠ (0 : Int)) ∧
 (InR (Int.tdiv (↑x1 : Int) (Prod.fst (xM code))))) ∧
 ((inB (Int.tdiv (↑x1 : Int) (Prod.fst (xM code))) (List.length (xT code))) ∧
 (((Prod.fst (xM code) ≠ (0 : Int)) ∧
 (InR (Int.tdiv (↑x3 : Int) (Prod.fst (xM code))))) ∧
 ((inB (Int.tdiv (↑x3 : Int) (Prod.fst (xM code))) (List.length (List.getD (xT code) (Int.toNat (Int.tdiv (↑x1 : Int) (Prod.fst (xM code)))) []))) ∧
 ((InR (List.getD (List.getD (xT code) (Int.toNat (Int.tdiv (↑x1 : Int) (Prod.fst (xM code)))) []) (Int.toNat (Int.tdiv (↑x3 : Int) (Prod.fst (xM code)))) (0 : Int) * Prod.fst (xM code))) ∧
 ((Prod.fst (xM code) ≠ (0 : Int)) ∧
 (((Prod.fst (xM code) ≠ (0 : Int)) ∧
 (InR (Int.tdiv (↑x1 : Int) (Prod.fst (xM code))))) ∧
 ((inB (Int.tdiv (↑x1 : Int) (Prod.fst (xM code))) (List.length (xG code))) ∧
 (((Prod.fst (xM code) ≠ (0 : Int)) ∧
 (InR (Int.tdiv (↑x3 : Int) (Prod.fst (xM code))))) ∧
 ((inB (Int.tdiv (↑x3 : Int) (Prod.fst (xM code))) (List.length (List.getD (xG code) (Int.toNat (Int.tdiv (↑x1 : Int) (Prod.fst (xM code)))) []))) ∧
 ((InR (Int.tmod (↑x3 : Int) (Prod.fst (xM code)) + List.getD (List.getD (xG code) (Int.toNat (Int.tdiv (↑x1 : Int) (Prod.fst (xM code)))) []) (Int.toNat (Int.tdiv (↑x3 : Int) (Prod.fst (xM code)))) (0 : Int))) ∧
 ((Prod.fst (xM code) ≠ (0 : Int)) ∧
 ((InR (List.getD (List.getD (xT code) (Int.toNat (Int.tdiv (↑x1 : Int) (Prod.fst (xM code)))) []) (Int.toNat (Int.tdiv (↑x3 : Int) (Prod.fst (xM code)))) (0 : Int) * Prod.fst (xM code) + Int.tmod (Int.tmod (↑x3 : Int) (Prod.fst (xM code)) + List.getD (List.getD (xG code) (Int.toNat (Int.tdiv (↑x1 : Int) (Prod.fst (xM code)))) []) (Int.toNat (Int.tdiv (↑x3 : Int) (Prod.fst (xM code)))) (0 : Int)) (Prod.fst (xM code)))) ∧
 ((room (List.length (List.take x3 (tab (Int.toNat ((↑(List.length (xT code)) : Int) * Prod.fst (xM code))) fun (b : Nat) => exI (xT code) (Prod.fst (xM code)) (xG code) (↑x1 : Int) (↑b : Int))) + List.length [List.getD (List.getD (xT code) (Int.toNat (Int.tdiv (↑x1 : Int) (Prod.fst (xM code)))) []) (Int.toNat (Int.tdiv (↑x3 : Int) (Prod.fst (xM code)))) (0 : Int) * Prod.fst (xM code) + Int.tmod (Int.tmod (↑x3 : Int) (Prod.fst (xM code)) + List.getD (List.getD (xG code) (Int.toNat (Int.tdiv (↑x1 : Int) (Prod.fst (xM code)))) []) (Int.toNat (Int.tdiv (↑x3 : Int) (Prod.fst (xM code)))) (0 : Int)) (Prod.fst (xM code))])) ∧
 ((InR ((↑x3 : Int) + (1 : Int))) ∧
 (∃ x4 : Nat, ((((↑x4 : Int) ≤ (↑(List.length (xT code)) : Int) * Prod.fst (xM code)) ∧
 ((↑x1 : Int) < (↑(List.length (xT code)) : Int) * Prod.fst (xM code))) ∧
 ((Int.toNat ((↑(List.length (xT code)) : Int) * Prod.fst (xM code)) - x4 < Int.toNat ((↑(List.length (xT code)) : Int) * Prod.fst (xM code)) - x3) ∧
 ((Prod.fst (xM code) = Prod.fst (xM code)) ∧
 ((xG code = xG code) ∧
 ((Prod.snd (exC (xT code) (Prod.fst (xM code)) (xG code)) = Prod.snd (exC (xT code) (Prod.fst (xM code)) (xG code))) ∧
 ((Prod.fst (rcC (xT code) (Prod.fst (xM code)) (xG code)) = Prod.fst (rcC (xT code) (Prod.fst (xM code)) (xG code))) ∧
 (((↑(List.length (xT code)) : Int) = (↑(List.length (xT code)) : Int)) ∧
 (((↑x1 : Int) = (↑x1 : Int)) ∧
 (((↑x3 : Int) + (1 : Int) = (↑x4 : Int)) ∧
 ((xT code = xT code) ∧
 ((Prod.fst (exC (xT code) (Prod.fst (xM code)) (xG code)) = Prod.fst (exC (xT code) (Prod.fst (xM code)) (xG code))) ∧
 ((List.take x1 (exR (xT code) (Prod.fst (xM code)) (xG code)) = List.take x1 (exR (xT code) (Prod.fst (xM code)) (xG code))) ∧
 (List.take x3 (tab (Int.toNat ((↑(List.length (xT code)) : Int) * Prod.fst (xM code))) fun (b : Nat) => exI (xT code) (Prod.fst (xM code)) (xG code) (↑x1 : Int) (↑b : Int)) ++ [List.getD (List.getD (xT code) (Int.toNat (Int.tdiv (↑x1 : Int) (Prod.fst (xM code)))) []) (Int.toNat (Int.tdiv (↑x3 : Int) (Prod.fst (xM code)))) (0 : Int) * Prod.fst (xM code) + Int.tmod (Int.tmod (↑x3 : Int) (Prod.fst (xM code)) + List.getD (List.getD (xG code) (Int.toNat (Int.tdiv (↑x1 : Int) (Prod.fst (xM code)))) []) (Int.toNat (Int.tdiv (↑x3 : Int) (Prod.fst (xM code)))) (0 : Int)) (Prod.fst (xM code))] = List.take x4 (tab (Int.toNat ((↑(List.length (xT code)) : Int) * Prod.fst (xM code))) fun (b : Nat) => exI (xT code) (Prod.fst (xM code)) (xG code) (↑x1 : Int) (↑b : Int)))))))))))))))))))))))))))))))
 ((room (List.length (List.take x1 (exR (xT code) (Prod.fst (xM code)) (xG code))) + List.length [List.take x3 (tab (Int.toNat ((↑(List.length (xT code)) : Int) * Prod.fst (xM code))) fun (b : Nat) => exI (xT code) (Prod.fst (xM code)) (xG code) (↑x1 : Int) (↑b : Int))])) ∧
 ((InR ((↑x1 : Int) + (1 : Int))) ∧
 (∃ x5 : Nat, ((((↑x5 : Int) ≤ (↑(List.length (xT code)) : Int) * Prod.fst (xM code)) ∧
 ((Prod.snd (rcC (xT code) (Prod.fst (xM code)) (xG code)) = (0 : Int)) ∧
 ((↑(List.length (xT code)) : Int) * Prod.fst (xM code) ≤ (12 : Int)))) ∧
 ((Int.toNat ((↑(List.length (xT code)) : Int) * Prod.fst (xM code)) - x5 < Int.toNat ((↑(List.length (xT code)) : Int) * Prod.fst (xM code)) - x1) ∧
 ((Prod.fst (xM code) = Prod.fst (xM code)) ∧
 ((xG code = xG code) ∧
 ((Prod.snd (exC (xT code) (Prod.fst (xM code)) (xG code)) = Prod.snd (exC (xT code) (Prod.fst (xM code)) (xG code))) ∧
 ((Prod.fst (rcC (xT code) (Prod.fst (xM code)) (xG code)) = Prod.fst (rcC (xT code) (Prod.fst (xM code)) (xG code))) ∧
 (((↑(List.length (xT code)) : Int) = (↑(List.length (xT code)) : Int)) ∧
 (((↑x1 : Int) + (1 : Int) = (↑x5 : Int)) ∧
 ((xT code = xT code) ∧
 ((Prod.fst (exC (xT code) (Prod.fst (xM code)) (xG code)) = Prod.fst (exC (xT code) (Prod.fst (xM code)) (xG code))) ∧
 (List.take x1 (exR (xT code) (Prod.fst (xM code)) (xG code)) ++ [List.take x3 (tab (Int.toNat ((↑(List.length (xT code)) : Int) * Prod.fst (xM code))) fun (b : Nat) => exI (xT code) (Prod.fst (xM code)) (xG code) (↑x1 : Int) (↑b : Int))] = List.take x5 (exR (xT code) (Prod.fst (xM code)) (xG code)))))))))))))))))))))
 (((roomR (List.take x1 (exR (xT code) (Prod.fst (xM code)) (xG code)))) ∧
 (True)) ∧
 (BrP (!rackB (List.take x1 (exR (xT code) (Prod.fst (xM code)) (xG code))) == Prod.fst (rcC (xT code) (Prod.fst (xM code)) (xG code)))
 ((Bool.false = Bool.true) ∧
 (True))
 (BrP (!Prod.fst (rcC (xT code) (Prod.fst (xM code)) (xG code)))
 (((Prod.snd (exC (xT code) (Prod.fst (xM code)) (xG code)) == (5 : Int)) = Bool.true) ∧
 (True))
 (((roomR (xT code)) ∧
 (True)) ∧
 (((roomR (Prod.fst (exC (xT code) (Prod.fst (xM code)) (xG code)))) ∧
 (True)) ∧
 ((∃ x6 : Nat, (((x6 ≤ List.length (xT code)) ∧
 ((Prod.snd (rcC (xT code) (Prod.fst (xM code)) (xG code)) = (0 : Int)) ∧
 (((↑(List.length (xT code)) : Int) * Prod.fst (xM code) ≤ (12 : Int)) ∧
 (Prod.fst (rcC (xT code) (Prod.fst (xM code)) (xG code)) = Bool.true)))) ∧
 ((Prod.fst (xM code) = Prod.fst (xM code)) ∧
 ((xG code = xG code) ∧
 ((Prod.snd (exC (xT code) (Prod.fst (xM code)) (xG code)) = Prod.snd (exC (xT code) (Prod.fst (xM code)) (xG code))) ∧
 ((Prod.fst (rcC (xT code) (Prod.fst (xM code)) (xG code)) = Prod.fst (rcC (xT code) (Prod.fst (xM code)) (xG code))) ∧
 (((↑(List.length (xT code)) : Int) = (↑(List.length (xT code)) : Int)) ∧
 ((List.take x1 (exR (xT code) (Prod.fst (xM code)) (xG code)) = exR (xT code) (Prod.fst (xM code)) (xG code)) ∧
 ((Prod.fst (iqC (xT code)) = Prod.fst (iqC (xT code))) ∧
 ((Prod.snd (iqC (xT code)) = Prod.snd (iqC (xT code))) ∧
 ((Prod.fst (iqC (Prod.fst (exC (xT code) (Prod.fst (xM code)) (xG code)))) = Prod.fst (iqC (Prod.fst (exC (xT code) (Prod.fst (xM code)) (xG code))))) ∧
 ((Prod.snd (iqC (Prod.fst (exC (xT code) (Prod.fst (xM code)) (xG code)))) = Prod.snd (iqC (Prod.fst (exC (xT code) (Prod.fst (xM code)) (xG code))))) ∧
 ((Bool.true = List.all (List.range x6) fun (x : Nat) => Decidable.decide (en (xG code) x x = (0 : Int))) ∧
 (((0 : Int) = (↑x6 : Int)) ∧
 ((xT code = xT code) ∧
 (Prod.fst (exC (xT code) (Prod.fst (xM code)) (xG code)) = Prod.fst (exC (xT code) (Prod.fst (xM code)) (xG code)))))))))))))))))) ∧
 (∀ x7 : Nat, (((x7 ≤ List.length (xT code)) ∧
 ((Prod.snd (rcC (xT code) (Prod.fst (xM code)) (xG code)) = (0 : Int)) ∧
 (((↑(List.length (xT code)) : Int) * Prod.fst (xM code) ≤ (12 : Int)) ∧
 (Prod.fst (rcC (xT code) (Prod.fst (xM code)) (xG code)) = Bool.true)))) →
 (BrP (Decidable.decide ((↑x7 : Int) < (↑(List.length (xT code)) : Int)))
 (BrP (List.all (List.range x7) fun (x : Nat) => Decidable.decide (en (xG code) x x = (0 : Int)))
 ((inB (↑x7 : Int) (List.length (xG code))) ∧
 ((inB (↑x7 : Int) (List.length (List.getD (xG code) (Int.toNat (↑x7 : Int)) []))) ∧
 ((InR ((↑x7 : Int) + (1 : Int))) ∧
 (∃ x8 : Nat, (((x8 ≤ List.length (xT code)) ∧
 ((Prod.snd (rcC (xT code) (Prod.fst (xM code)) (xG code)) = (0 : Int)) ∧
 (((↑(List.length (xT code)) : Int) * Prod.fst (xM code) ≤ (12 : Int)) ∧
 (Prod.fst (rcC (xT code) (Prod.fst (xM code)) (xG code)) = Bool.true)))) ∧
 ((List.length (xT code) - x8 < List.length (xT code) - x7) ∧
 ((Prod.fst (xM code) = Prod.fst (xM code)) ∧
 ((xG code = xG code) ∧
 ((Prod.snd (exC (xT code) (Prod.fst (xM code)) (xG code)) = Prod.snd (exC (xT code) (Prod.fst (xM code)) (xG code))) ∧
 ((Prod.fst (rcC (xT code) (Prod.fst (xM code)) (xG code)) = Prod.fst (rcC (xT code) (Prod.fst (xM code)) (xG code))) ∧
 (((↑(List.length (xT code)) : Int) = (↑(List.length (xT code)) : Int)) ∧
 ((exR (xT code) (Prod.fst (xM code)) (xG code) = exR (xT code) (Prod.fst (xM code)) (xG code)) ∧
 ((Prod.fst (iqC (xT code)) = Prod.fst (iqC (xT code))) ∧
 ((Prod.snd (iqC (xT code)) = Prod.snd (iqC (xT code))) ∧
 ((Prod.fst (iqC (Prod.fst (exC (xT code) (Prod.fst (xM code)) (xG code)))) = Prod.fst (iqC (Prod.fst (exC (xT code) (Prod.fst (xM code)) (xG code))))) ∧
 ((Prod.snd (iqC (Prod.fst (exC (xT code) (Prod.fst (xM code)) (xG code)))) = Prod.snd (iqC (Prod.fst (exC (xT code) (Prod.fst (xM code)) (xG code))))) ∧
 (((List.getD (List.getD (xG code) (Int.toNat (↑x7 : Int)) []) (Int.toNat (↑x7 : Int)) (0 : Int) == (0 : Int)) = List.all (List.range x8) fun (x : Nat) => Decidable.decide (en (xG code) x x = (0 : Int))) ∧
 (((↑x7 : Int) + (1 : Int) = (↑x8 : Int)) ∧
 ((xT code = xT code) ∧
 (Prod.fst (exC (xT code) (Prod.fst (xM code)) (xG code)) = Prod.fst (exC (xT code) (Prod.fst (xM code)) (xG code))))))))))))))))))))))
 ((InR ((↑x7 : Int) + (1 : Int))) ∧
 (∃ x9 : Nat, (((x9 ≤ List.length (xT code)) ∧
 ((Prod.snd (rcC (xT code) (Prod.fst (xM code)) (xG code)) = (0 : Int)) ∧
 (((↑(List.length (xT code)) : Int) * Prod.fst (xM code) ≤ (12 : Int)) ∧
 (Prod.fst (rcC (xT code) (Prod.fst (xM code)) (xG code)) = Bool.true)))) ∧
 ((List.length (xT code) - x9 < List.length (xT code) - x7) ∧
 ((Prod.fst (xM code) = Prod.fst (xM code)) ∧
 ((xG code = xG code) ∧
 ((Prod.snd (exC (xT code) (Prod.fst (xM code)) (xG code)) = Prod.snd (exC (xT code) (Prod.fst (xM code)) (xG code))) ∧
 ((Prod.fst (rcC (xT code) (Prod.fst (xM code)) (xG code)) = Prod.fst (rcC (xT code) (Prod.fst (xM code)) (xG code))) ∧
 (((↑(List.length (xT code)) : Int) = (↑(List.length (xT code)) : Int)) ∧
 ((exR (xT code) (Prod.fst (xM code)) (xG code) = exR (xT code) (Prod.fst (xM code)) (xG code)) ∧
 ((Prod.fst (iqC (xT code)) = Prod.fst (iqC (xT code))) ∧
 ((Prod.snd (iqC (xT code)) = Prod.snd (iqC (xT code))) ∧
 ((Prod.fst (iqC (Prod.fst (exC (xT code) (Prod.fst (xM code)) (xG code)))) = Prod.fst (iqC (Prod.fst (exC (xT code) (Prod.fst (xM code)) (xG code))))) ∧
 ((Prod.snd (iqC (Prod.fst (exC (xT code) (Prod.fst (xM code)) (xG code)))) = Prod.snd (iqC (Prod.fst (exC (xT code) (Prod.fst (xM code)) (xG code))))) ∧
 ((Bool.false = List.all (List.range x9) fun (x : Nat) => Decidable.decide (en (xG code) x x = (0 : Int))) ∧
 (((↑x7 : Int) + (1 : Int) = (↑x9 : Int)) ∧
 ((xT code = xT code) ∧
 (Prod.fst (exC (xT code) (Prod.fst (xM code)) (xG code)) = Prod.fst (exC (xT code) (Prod.fst (xM code)) (xG code)))))))))))))))))))))
 (BrP (Prod.snd (iqC (xT code)) == (0 : Int))
 (BrP (Prod.snd (iqC (Prod.fst (exC (xT code) (Prod.fst (xM code)) (xG code)))) == (0 : Int))
 (((roomR (Prod.fst (exC (xT code) (Prod.fst (xM code)) (xG code)))) ∧
 (True)) ∧
 (BrP (Decidable.decide (Prod.fst (exC (xT code) (Prod.fst (xM code)) (xG code)) = exR (xT code) (Prod.fst (xM code)) (xG code)))
 (BrP (Prod.fst (iqC (xT code)))
 (((Prod.fst (iqC (Prod.fst (exC (xT code) (Prod.fst (xM code)) (xG code)))) == List.all (List.range x7) fun (x : Nat) => Decidable.decide (en (xG code) x x = (0 : Int))) = Bool.true) ∧
 (True))
 (((Prod.fst (iqC (Prod.fst (exC (xT code) (Prod.fst (xM code)) (xG code)))) == Bool.false) = Bool.true) ∧
 (True)))
 ((Bool.false = Bool.true) ∧
 (True))))
 ((Bool.false = Bool.true) ∧
 (True)))
 ((Bool.false = Bool.true) ∧
 (True)))))))))))))))))))))))))))))))))
theorem lRxt_vc (code : List Int) : runF Try.prog (gam lRxt_G) noWr (lRxt_ann code) Try.f5 (bodyOf Try.f5) [] [.c (.ints .u8 (code))] (lRxt_p code) = lRxt_V code := by kernel_rfl
theorem lRxt_ok (code : List Int) (hpre : (lRxt_p code).pre) : lRxt_V code := by
  simp only [lRxt_p, lRxt_V, BrP_iff, true_and, and_true, decide_eq_true_eq, decide_eq_false_iff_not, bne_iff_ne, beq_iff_eq, bne_eq_false_iff_eq, beq_eq_false_iff_ne, Bool.not_eq_true, Bool.not_eq_false, Bool.not_true, Bool.not_false, Bool.not_eq_eq_eq_not, Int.toNat_natCast, List.length_append, List.length_take, List.length_replicate, List.length_set, List.length_map, List.length_drop, List.length_nil, List.length_cons, markL_length, inB, InR, room, bdsOk] at hpre ⊢
  have eT : List.take (xN code) (List.drop (xY code).2.1 (xY code).1) = xT code := rfl
  have eG : List.take (xK code) (List.drop (xS code).2.1 (xS code).1) = xG code := rfl
  simp only [eT, eG]
  refine ⟨fun _ => trivial, fun hc => ?_⟩
  have hT : roomR (xT code) := yT_room (xY_ok hpre)
  have hG := xG_room hpre
  have hN : (xN code : Int) = ((xT code).length : Int) := by rw [xT, yT_length]; rfl
  rw [hN]
  generalize xT code = t at hT ⊢
  generalize xG code = f at hG ⊢
  generalize (xM code).1 = m
  have er := (exC_room t m f).1
  refine ⟨⟨hpre, by omega⟩, ⟨hT, hG⟩, ⟨hT, hG⟩, ⟨hT, hG⟩, ⟨hT, hG⟩, fun h => absurd rfl h, fun _ => ⟨fun h => absurd rfl h, fun _ => ⟨fun h => absurd rfl h, fun _ => ⟨er, fun h => absurd trivial h, fun _ => ⟨fun z => rx_a z, fun z => ?_⟩⟩⟩⟩⟩
  obtain ⟨hr, hm, r1, r2, r3⟩ := rx_b z
  have ht := rackB_tab hr
  obtain ⟨nm0, nm1⟩ := nm_in ht hm
  obtain ⟨n1, n2, _⟩ := tabB_of ht
  refine ⟨by omega, r2, fun k => ?_⟩
  have r3 := r3 k
  have RK := ex_rack hr hm (by omega)
  have QD := ex_quandle ht hm
  have ex2 : ((exC t m f).2 == 0) = (rcF t m f).isNone := by
    rw [r3]
    cases (rcF t m f).isNone <;> rfl
  rw [ex2, r1]
  have lE : (exR t m f).length = ((t.length : Int) * m).toNat := tabR_length _ _
  refine ⟨fun h => absurd rfl h, fun _ => ⟨⟨0, ⟨by omega, z, by omega⟩, trivial, trivial, trivial, rfl, rfl, trivial, trivial, by simp⟩, fun a ⟨ha, _, hk⟩ => ⟨by omega, fun hl => ⟨⟨0, ⟨by omega, hl⟩, rfl, by simp⟩, fun b ⟨hb, _⟩ => ⟨by omega, fun hl2 => ?_, fun hl2 => ?_⟩⟩, fun hl => ?_⟩⟩⟩
  · have q := ex_in ht hm (x := (a : Int)) (y := (b : Int)) (by omega) hl (by omega) hl2
    have lr : (tab ((t.length : Int) * m).toNat fun b => exI t m f (a : Int) (b : Int)).length = ((t.length : Int) * m).toNat := tab_length _ _
    refine ⟨by omega, by omega, by omega, by omega, by omega, by omega, by omega, by omega, by omega, by omega, by omega, by omega, by omega, by omega, by omega, b + 1, ⟨by omega, hl⟩, by omega, by omega, ?_⟩
    rw [← take_snoc _ 0 b (by omega), tab_getD _ _ _ (by omega)]; rfl
  · have lr : (tab ((t.length : Int) * m).toNat fun b => exI t m f (a : Int) (b : Int)).length = ((t.length : Int) * m).toNat := tab_length _ _
    refine ⟨by omega, by omega, a + 1, ⟨by omega, z, by omega⟩, by omega, by omega, ?_⟩
    rw [← take_snoc (exR t m f) [] a (by omega), show (exR t m f).getD a [] = tab ((t.length : Int) * m).toNat fun b => exI t m f (a : Int) (b : Int) from tabR_getD _ _ _ (by omega), show List.take b (tab ((t.length : Int) * m).toNat fun b => exI t m f (a : Int) (b : Int)) = _ from List.take_of_length_le (by omega)]
  · have ea : List.take a (exR t m f) = exR t m f := List.take_of_length_le (by omega)
    rw [ea, RK]
    refine ⟨tabR_room _ _ (by omega), fun h => absurd rfl h, fun _ => ⟨fun h => ?_, fun h => ?_⟩⟩
    · rw [r3, h]; rfl
    have e0 : exC t m f = (exR t m f, 0) := by rw [r3, if_pos h]
    have q1 : iqC t = (qdB t, 0) := if_pos hr
    have q2 : iqC (exR t m f) = (qdB (exR t m f), 0) := if_pos (RK.trans h)
    refine ⟨hT, er, ⟨0, ⟨Nat.zero_le _, z, by omega, h⟩, rfl, rfl, rfl⟩, fun x ⟨hx, _⟩ => ⟨fun hl => ⟨fun al => ?_, fun al => ?_⟩, fun hl => ?_⟩⟩
    · have mf := matB_of hm
      have row := mf.2.2.2 x (by omega)
      refine ⟨by omega, by omega, by omega, x + 1, ⟨by omega, z, by omega, h⟩, by omega, ?_, by omega⟩
      rw [List.range_succ, List.all_append, al, Bool.true_and, List.all_cons, List.all_nil, Bool.and_true]
      rfl
    · refine ⟨by omega, x + 1, ⟨by omega, z, by omega, h⟩, by omega, ?_, by omega⟩
      rw [List.range_succ, List.all_append, al, Bool.false_and]
    · rw [e0, q1, q2]
      have ed : ((List.range x).all fun x => decide (en f x x = 0)) = dgZ t f := by rw [show x = t.length by omega]; rfl
      rw [ed, QD]
      refine ⟨fun _ => ⟨fun _ => ⟨e0 ▸ er, fun _ => ⟨fun y => ?_, fun y => ?_⟩, fun h => absurd rfl h⟩, fun h => absurd rfl h⟩, fun h => absurd rfl h⟩
      · show (qdB t && dgZ t f) = dgZ t f
        rw [show qdB t = true from y, Bool.true_and]
      · show (qdB t && dgZ t f) = false
        rw [show qdB t = false from y, Bool.false_and]
theorem lRxt_fits : Fits Try.prog 5 ⟨[], lRxt_ct⟩ := by
  refine fits_fn (Γ := gam lRxt_G) (gok_cons big_fits (gok_cons DrawExtR_fits (gok_cons iExt_fits (gok_cons sExt_fits (gok_cons iIsRC_fits (gok_cons sIsRC_fits (gok_cons likeRows5_fits (gok_cons IsRack_fits (gok_cons iIsQ_fits gok_nil))))))))) Try.func5 (by kernel_rfl) (by kernel_rfl) (by kernel_rfl) fun ds p h hp => ?_
  unfold lRxt_ct at h
  split at h
  · cases h
    exact ⟨noWr, lRxt_ann _ , by rw [lRxt_vc]; exact lRxt_ok _  hp⟩
  · cases h

end Go.Sx
