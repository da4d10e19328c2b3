/- Contracts on the way of QuotientBrace. -/
import Derived.Test.YtaipacgkkjkjdaaQuot
import Derived.Test.YtaipacgkkjkjdaaIdsL
open Go Go.Proofs
namespace Go.Sx
set_option linter.unusedSimpArgs false
set_option linter.unusedVariables false

def quotientBrace_p (a : List (List Int)) (c : List (List Int)) (s : Int) : Post := ⟨setOk a s ∧ tabB c = true ∧ c.length = a.length, .agg [.rows 25 2 .i64 (quo a (csL a s)), .rows 25 2 .i64 (quo c (csL a s))], []⟩
def quotientBrace_ct : List AD → Option Post
  | [.agg [.rows .i64 (a), .rows .i64 (c)], .c (.int .i64 (s))] => some (quotientBrace_p a c s)
  | _ => none
def quotientBrace_G : List (Nat × Ctr) := [(89, ⟨[], cosets_ct⟩), (90, ⟨[], quotientTable_ct⟩)]
def quotientBrace_V (a : List (List Int)) (c : List (List Int)) (s : Int) : Prop :=
  (((Go.Sx.setOk a s) ∧
  (True)) ∧
  ((((Go.Sx.tabB a = Bool.true) ∧
  (List.length (Go.Sx.csL a s) = List.length a)) ∧
  (True)) ∧
  ((((Go.Sx.tabB c = Bool.true) ∧
  (List.length (Go.Sx.csL a s) = List.length c)) ∧
  (True)) ∧
  (((Go.Sx.quo a (Go.Sx.csL a s) = Go.Sx.quo a (Go.Sx.csL a s)) ∧
  ((Go.Sx.quo c (Go.Sx.csL a s) = Go.Sx.quo c (Go.Sx.csL a s)) ∧
  (True))) ∧
  (True)))))
theorem quotientBrace_vc (a : List (List Int)) (c : List (List Int)) (s : Int) : runF Try.prog (gam quotientBrace_G) noWr noAnn Try.f53 (bodyOf Try.f53) [] [.agg [.rows .i64 (a), .rows .i64 (c)], .c (.int .i64 (s))] (quotientBrace_p a c s) = quotientBrace_V a c s := by kernel_rfl
theorem quotientBrace_ok (a : List (List Int)) (c : List (List Int)) (s : Int) (hpre : (quotientBrace_p a c s).pre) : quotientBrace_V a c s := by
  simp only [quotientBrace_p, quotientBrace_V, BrP_iff, true_and, and_true, decide_eq_true_eq, decide_eq_false_iff_not, bne_iff_ne, beq_iff_eq, bne_eq_false_iff_eq, beq_eq_false_iff_ne, Bool.not_eq_true, Bool.not_eq_false, Bool.not_true, Bool.not_false, Bool.not_eq_eq_eq_not, Int.toNat_natCast, List.length_append, List.length_take, List.length_replicate, List.length_set, List.length_map, List.length_drop, List.length_nil, List.length_cons, markL_length, inB, InR, room, bdsOk] at hpre ⊢
  obtain ⟨h1, h2, h3⟩ := hpre
  have e := csL_length a s
  exact ⟨h1, ⟨h1.1, e⟩, h2, by omega⟩
theorem quotientBrace_fits : Fits Try.prog 53 ⟨[], quotientBrace_ct⟩ := by
  refine fits_fn (Γ := gam quotientBrace_G) (gok_cons cosets_fits (gok_cons quotientTable_fits gok_nil)) Try.func53 (by kernel_rfl) (by kernel_rfl) (by kernel_rfl) fun ds p h hp => ?_
  unfold quotientBrace_ct at h
  split at h
  · cases h
    exact ⟨noWr, noAnn, by rw [quotientBrace_vc]; exact quotientBrace_ok _ _ _  hp⟩
  · cases h

def l12Quotient_p (a : List (List Int)) (c : List (List Int)) (s : Int) : Post := ⟨setOk a s ∧ tabB c = true ∧ c.length = a.length, .agg [.rows 25 2 .i64 (quo a (csL a s)), .rows 25 2 .i64 (quo c (csL a s))], []⟩
def l12Quotient_ct : List AD → Option Post
  | [.agg [.rows .i64 (a), .rows .i64 (c)], .c (.int .i64 (s))] => some (l12Quotient_p a c s)
  | _ => none
def l12Quotient_G : List (Nat × Ctr) := [(83, ⟨[], l10Cosets_ct⟩), (84, ⟨[], l04Quotient_ct⟩)]
def l12Quotient_V (a : List (List Int)) (c : List (List Int)) (s : Int) : Prop :=
  (((Go.Sx.setOk a s) ∧
  (True)) ∧
  ((((Go.Sx.tabB a = Bool.true) ∧
  ((List.length (Go.Sx.csL a s) = List.length a) ∧
  (Go.Sx.numB (Go.Sx.csL a s)))) ∧
  (True)) ∧
  ((((Go.Sx.tabB c = Bool.true) ∧
  ((List.length (Go.Sx.csL a s) = List.length c) ∧
  (Go.Sx.numB (Go.Sx.csL a s)))) ∧
  (True)) ∧
  (((Go.Sx.quo a (Go.Sx.csL a s) = Go.Sx.quo a (Go.Sx.csL a s)) ∧
  ((Go.Sx.quo c (Go.Sx.csL a s) = Go.Sx.quo c (Go.Sx.csL a s)) ∧
  (True))) ∧
  (True)))))
theorem l12Quotient_vc (a : List (List Int)) (c : List (List Int)) (s : Int) : runF Try.prog (gam l12Quotient_G) noWr noAnn Try.f50 (bodyOf Try.f50) [] [.agg [.rows .i64 (a), .rows .i64 (c)], .c (.int .i64 (s))] (l12Quotient_p a c s) = l12Quotient_V a c s := by kernel_rfl
theorem l12Quotient_ok (a : List (List Int)) (c : List (List Int)) (s : Int) (hpre : (l12Quotient_p a c s).pre) : l12Quotient_V a c s := by
  simp only [l12Quotient_p, l12Quotient_V, BrP_iff, true_and, and_true, decide_eq_true_eq, decide_eq_false_iff_not, bne_iff_ne, beq_iff_eq, bne_eq_false_iff_eq, beq_eq_false_iff_ne, Bool.not_eq_true, Bool.not_eq_false, Bool.not_true, Bool.not_false, Bool.not_eq_eq_eq_not, Int.toNat_natCast, List.length_append, List.length_take, List.length_replicate, List.length_set, List.length_map, List.length_drop, List.length_nil, List.length_cons, markL_length, inB, InR, room, bdsOk] at hpre ⊢
  obtain ⟨h1, h2, h3⟩ := hpre
  have e := csL_length a s
  have n : numB (csL a s) := nb_num _
  exact ⟨h1, ⟨h1.1, e, n⟩, h2, by omega, n⟩
theorem l12Quotient_fits : Fits Try.prog 50 ⟨[], l12Quotient_ct⟩ := by
  refine fits_fn (Γ := gam l12Quotient_G) (gok_cons l10Cosets_fits (gok_cons l04Quotient_fits gok_nil)) Try.func50 (by kernel_rfl) (by kernel_rfl) (by kernel_rfl) fun ds p h hp => ?_
  unfold l12Quotient_ct at h
  split at h
  · cases h
    exact ⟨noWr, noAnn, by rw [l12Quotient_vc]; exact l12Quotient_ok _ _ _  hp⟩
  · cases h

def stC (a c : List (List Int)) (s : Int) : Int := if brcB a c = true then (if 0 ≤ s ∧ s ≤ 1 * 2 ^ a.length - 1 then 0 else 2) else 1

def checkBraceSet_p (a : List (List Int)) (c : List (List Int)) (s : Int) : Post := ⟨roomR a ∧ roomR c, .c (.int .i64 (stC a c s)), []⟩
def checkBraceSet_ct : List AD → Option Post
  | [.agg [.rows .i64 (a), .rows .i64 (c)], .c (.int .i64 (s))] => some (checkBraceSet_p a c s)
  | _ => none
def checkBraceSet_G : List (Nat × Ctr) := [(51, ⟨[], IsBrace_ct⟩), (101, ⟨[], within_ct⟩)]
def checkBraceSet_V (a : List (List Int)) (c : List (List Int)) (s : Int) : Prop :=
  ((((Go.Sx.roomR a) ∧
  (Go.Sx.roomR c)) ∧
  (True)) ∧
  (BrP (!Go.Sx.brcB a c)
    (((1 : Int) = Go.Sx.stC a c s) ∧
    (True))
    (((((0 : Int) ≤ (↑(List.length a) : Int)) ∧
    ((↑(List.length a) : Int) ≤ (62 : Int))) ∧
    (Go.Sx.InR ((1 : Int) * (2 : Int) ^ Int.toNat (↑(List.length a) : Int)))) ∧
    ((Go.Sx.InR ((1 : Int) * (2 : Int) ^ Int.toNat (↑(List.length a) : Int) - (1 : Int))) ∧
    (((True) ∧
    (True)) ∧
    (BrP (!Decidable.decide ((0 : Int) ≤ s ∧ s ≤ (1 : Int) * (2 : Int) ^ Int.toNat (↑(List.length a) : Int) - (1 : Int)))
      (((2 : Int) = Go.Sx.stC a c s) ∧
      (True))
      (((0 : Int) = Go.Sx.stC a c s) ∧
      (True))))))))
theorem checkBraceSet_vc (a : List (List Int)) (c : List (List Int)) (s : Int) : runF Try.prog (gam checkBraceSet_G) noWr noAnn Try.f60 (bodyOf Try.f60) [] [.agg [.rows .i64 (a), .rows .i64 (c)], .c (.int .i64 (s))] (checkBraceSet_p a c s) = checkBraceSet_V a c s := by kernel_rfl
theorem checkBraceSet_ok (a : List (List Int)) (c : List (List Int)) (s : Int) (hpre : (checkBraceSet_p a c s).pre) : checkBraceSet_V a c s := by
  simp only [checkBraceSet_p, checkBraceSet_V, BrP_iff, true_and, and_true, decide_eq_true_eq, decide_eq_false_iff_not, bne_iff_ne, beq_iff_eq, bne_eq_false_iff_eq, beq_eq_false_iff_ne, Bool.not_eq_true, Bool.not_eq_false, Bool.not_true, Bool.not_false, Bool.not_eq_eq_eq_not, Int.toNat_natCast, List.length_append, List.length_take, List.length_replicate, List.length_set, List.length_map, List.length_drop, List.length_nil, List.length_cons, markL_length, inB, InR, room, bdsOk] at hpre ⊢
  refine ⟨hpre, fun h => by rw [stC, if_neg (by rw [h]; decide)], fun h => ?_⟩
  have n2 := (tabB_of (grp_tab (brcB_of h).1)).2.1
  have pn : (1 * (2 : Int) ^ a.length) = ((2 ^ a.length : Nat) : Int) := by rw [Int.one_mul, Int.natCast_pow]; rfl
  have p12 := pow_12 n2
  have pp := Int.natCast_nonneg (2 ^ a.length)
  have e : stC a c s = if 0 ≤ s ∧ s ≤ 1 * 2 ^ a.length - 1 then 0 else 2 := by rw [stC, if_pos h]
  rw [e]
  refine ⟨⟨by omega, by rw [pn]; omega, by rw [pn]; omega⟩, ⟨by rw [pn]; omega, by rw [pn]; omega⟩, fun h2 => by rw [if_neg h2], fun h2 => by rw [if_pos h2]⟩
theorem checkBraceSet_fits : Fits Try.prog 60 ⟨[], checkBraceSet_ct⟩ := by
  refine fits_fn (Γ := gam checkBraceSet_G) (gok_cons IsBrace_fits (gok_cons within_fits gok_nil)) Try.func60 (by kernel_rfl) (by kernel_rfl) (by kernel_rfl) fun ds p h hp => ?_
  unfold checkBraceSet_ct at h
  split at h
  · cases h
    exact ⟨noWr, noAnn, by rw [checkBraceSet_vc]; exact checkBraceSet_ok _ _ _  hp⟩
  · cases h

def l12Code_p (a : List (List Int)) (c : List (List Int)) (s : Int) : Post := ⟨roomR a ∧ roomR c, .c (.int .i64 (stC a c s)), []⟩
def l12Code_ct : List AD → Option Post
  | [.agg [.rows .i64 (a), .rows .i64 (c)], .c (.int .i64 (s))] => some (l12Code_p a c s)
  | _ => none
def l12Code_G : List (Nat × Ctr) := [(48, ⟨[], l11Is_ct⟩), (68, ⟨[], l01In_ct⟩)]
def l12Code_V (a : List (List Int)) (c : List (List Int)) (s : Int) : Prop :=
  ((((Go.Sx.roomR a) ∧
  (Go.Sx.roomR c)) ∧
  (True)) ∧
  (BrP (!Go.Sx.brcB a c)
    (((1 : Int) = Go.Sx.stC a c s) ∧
    (True))
    (((((0 : Int) ≤ Go.IntKind.wrap Go.IntKind.u64 (↑(List.length a) : Int)) ∧
    (Go.IntKind.wrap Go.IntKind.u64 (↑(List.length a) : Int) ≤ (62 : Int))) ∧
    (Go.Sx.InR ((1 : Int) * (2 : Int) ^ Int.toNat (Go.IntKind.wrap Go.IntKind.u64 (↑(List.length a) : Int))))) ∧
    ((Go.Sx.InR ((1 : Int) * (2 : Int) ^ Int.toNat (Go.IntKind.wrap Go.IntKind.u64 (↑(List.length a) : Int)) - (1 : Int))) ∧
    (((True) ∧
    (True)) ∧
    (BrP (!Decidable.decide ((0 : Int) ≤ s ∧ s ≤ (1 : Int) * (2 : Int) ^ Int.toNat (Go.IntKind.wrap Go.IntKind.u64 (↑(List.length a) : Int)) - (1 : Int)))
      (((2 : Int) = Go.Sx.stC a c s) ∧
      (True))
      (((0 : Int) = Go.Sx.stC a c s) ∧
      (True))))))))
theorem l12Code_vc (a : List (List Int)) (c : List (List Int)) (s : Int) : runF Try.prog (gam l12Code_G) noWr noAnn Try.f58 (bodyOf Try.f58) [] [.agg [.rows .i64 (a), .rows .i64 (c)], .c (.int .i64 (s))] (l12Code_p a c s) = l12Code_V a c s := by kernel_rfl
theorem l12Code_ok (a : List (List Int)) (c : List (List Int)) (s : Int) (hpre : (l12Code_p a c s).pre) : l12Code_V a c s := by
  simp only [l12Code_p, l12Code_V, BrP_iff, true_and, and_true, decide_eq_true_eq, decide_eq_false_iff_not, bne_iff_ne, beq_iff_eq, bne_eq_false_iff_eq, beq_eq_false_iff_ne, Bool.not_eq_true, Bool.not_eq_false, Bool.not_true, Bool.not_false, Bool.not_eq_eq_eq_not, Int.toNat_natCast, List.length_append, List.length_take, List.length_replicate, List.length_set, List.length_map, List.length_drop, List.length_nil, List.length_cons, markL_length, inB, InR, room, bdsOk] at hpre ⊢
  refine ⟨hpre, fun h => by rw [stC, if_neg (by rw [h]; decide)], fun h => ?_⟩
  have n2 := (tabB_of (grp_tab (brcB_of h).1)).2.1
  have pn : (1 * (2 : Int) ^ a.length) = ((2 ^ a.length : Nat) : Int) := by rw [Int.one_mul, Int.natCast_pow]; rfl
  have p12 := pow_12 n2
  have pp := Int.natCast_nonneg (2 ^ a.length)
  have wn : IntKind.u64.wrap (a.length : Int) = (a.length : Int) := wu64 (by omega)
  have e : stC a c s = if 0 ≤ s ∧ s ≤ 1 * 2 ^ a.length - 1 then 0 else 2 := by rw [stC, if_pos h]
  rw [e, wn, Int.toNat_natCast]
  refine ⟨⟨by omega, by rw [pn]; omega, by rw [pn]; omega⟩, ⟨by rw [pn]; omega, by rw [pn]; omega⟩, fun h2 => by rw [if_neg h2], fun h2 => by rw [if_pos h2]⟩
theorem l12Code_fits : Fits Try.prog 58 ⟨[], l12Code_ct⟩ := by
  refine fits_fn (Γ := gam l12Code_G) (gok_cons l11Is_fits (gok_cons l01In_fits gok_nil)) Try.func58 (by kernel_rfl) (by kernel_rfl) (by kernel_rfl) fun ds p h hp => ?_
  unfold l12Code_ct at h
  split at h
  · cases h
    exact ⟨noWr, noAnn, by rw [l12Code_vc]; exact l12Code_ok _ _ _  hp⟩
  · cases h

def qbrC (a c : List (List Int)) (s : Int) : (List (List Int) × List (List Int)) × Int :=
  if stC a c s = 0 then (if idB a c s = true then ((quo a (csL a s), quo c (csL a s)), 0) else (([], []), 5)) else (([], []), stC a c s)

theorem stC_ok {a c : List (List Int)} {s : Int} (h : stC a c s = 0) : twoG a c ∧ setOk a s := by
  unfold stC at h
  split at h
  · rename_i hb
    split at h
    · rename_i hs
      have g : twoG a c := ⟨(brcB_of hb).1, (brcB_of hb).2.1, (brcB_of hb).2.2.1⟩
      have pn : (1 * (2 : Int) ^ a.length) = ((2 ^ a.length : Nat) : Int) := by rw [Int.one_mul, Int.natCast_pow]; rfl
      rw [pn] at hs
      exact ⟨g, grp_tab g.1, hs.1, by omega⟩
    · omega
  · omega

theorem quo_room (t : List (List Int)) (cl : List Int) (h : cl.length ≤ 12) : roomR (quo t cl) ∧ (quo t cl).length ≤ 1048576 ∧ sumL (quo t cl) ≤ 1048576 := by
  have fl := foN_len cl cl.length
  exact ⟨tabR_room _ _ (by omega), by rw [quo, tabR_length]; omega, Nat.le_trans (tabR_sum _ _ (by omega)) (by omega)⟩

theorem qbrC_room (a c : List (List Int)) (s : Int) : (roomR (qbrC a c s).1.1 ∧ (qbrC a c s).1.1.length ≤ 1048576 ∧ sumL (qbrC a c s).1.1 ≤ 1048576) ∧ roomR (qbrC a c s).1.2 ∧ (qbrC a c s).1.2.length ≤ 1048576 ∧ sumL (qbrC a c s).1.2 ≤ 1048576 := by
  have nil : roomR ([] : List (List Int)) ∧ ([] : List (List Int)).length ≤ 1048576 ∧ sumL ([] : List (List Int)) ≤ 1048576 := ⟨⟨by simp, by simp⟩, by simp, by simp [sumL]⟩
  unfold qbrC
  split
  · rename_i h
    have n2 := (tabB_of (stC_ok h).2.1).2.1
    split
    · exact ⟨quo_room a _ (by rw [csL_length]; exact n2), quo_room c _ (by rw [csL_length]; exact n2)⟩
    · exact ⟨nil, nil⟩
  · exact ⟨nil, nil⟩

def iQuo_p (a : List (List Int)) (c : List (List Int)) (s : Int) : Post := ⟨roomR a ∧ roomR c, .tup [.inr [.rows 25 2 .i64 ((qbrC a c s).1.1), .rows 25 2 .i64 ((qbrC a c s).1.2)], .inl (.int .i64 ((qbrC a c s).2))], []⟩
def iQuo_ct : List AD → Option Post
  | [.agg [.rows .i64 (a), .rows .i64 (c)], .c (.int .i64 (s))] => some (iQuo_p a c s)
  | _ => none
def iQuo_G : List (Nat × Ctr) := [(60, ⟨[], checkBraceSet_ct⟩), (62, ⟨[], lambdaTable_ct⟩), (61, ⟨[], isIdeal_ct⟩), (53, ⟨[], quotientBrace_ct⟩)]
def iQuo_V (a : List (List Int)) (c : List (List Int)) (s : Int) : Prop :=
  ((((Go.Sx.roomR a) ∧
  (Go.Sx.roomR c)) ∧
  (True)) ∧
  (BrP (Go.Sx.stC a c s != (0 : Int))
    (((([] = Prod.fst (Prod.fst (Go.Sx.qbrC a c s))) ∧
    (([] = Prod.snd (Prod.fst (Go.Sx.qbrC a c s))) ∧
    (True))) ∧
    ((Go.Sx.stC a c s = Prod.snd (Go.Sx.qbrC a c s)) ∧
    (True))) ∧
    (True))
    (((Go.Sx.twoG a c) ∧
    (True)) ∧
    ((((Go.Sx.twoG a c) ∧
    ((Go.Sx.lamT a c = Go.Sx.lamT a c) ∧
    (Go.Sx.setOk a s))) ∧
    (True)) ∧
    (BrP (!Go.Sx.idB a c s)
      (((([] = Prod.fst (Prod.fst (Go.Sx.qbrC a c s))) ∧
      (([] = Prod.snd (Prod.fst (Go.Sx.qbrC a c s))) ∧
      (True))) ∧
      (((5 : Int) = Prod.snd (Go.Sx.qbrC a c s)) ∧
      (True))) ∧
      (True))
      ((((Go.Sx.setOk a s) ∧
      ((Go.Sx.tabB c = Bool.true) ∧
      (List.length c = List.length a))) ∧
      (True)) ∧
      ((((Go.Sx.quo a (Go.Sx.csL a s) = Prod.fst (Prod.fst (Go.Sx.qbrC a c s))) ∧
      ((Go.Sx.quo c (Go.Sx.csL a s) = Prod.snd (Prod.fst (Go.Sx.qbrC a c s))) ∧
      (True))) ∧
      (((0 : Int) = Prod.snd (Go.Sx.qbrC a c s)) ∧
      (True))) ∧
      (True))))))))
theorem iQuo_vc (a : List (List Int)) (c : List (List Int)) (s : Int) : runF Try.prog (gam iQuo_G) noWr noAnn Try.f32 (bodyOf Try.f32) [] [.agg [.rows .i64 (a), .rows .i64 (c)], .c (.int .i64 (s))] (iQuo_p a c s) = iQuo_V a c s := by kernel_rfl
theorem iQuo_ok (a : List (List Int)) (c : List (List Int)) (s : Int) (hpre : (iQuo_p a c s).pre) : iQuo_V a c s := by
  simp only [iQuo_p, iQuo_V, BrP_iff, true_and, and_true, decide_eq_true_eq, decide_eq_false_iff_not, bne_iff_ne, beq_iff_eq, bne_eq_false_iff_eq, beq_eq_false_iff_ne, Bool.not_eq_true, Bool.not_eq_false, Bool.not_true, Bool.not_false, Bool.not_eq_eq_eq_not, Int.toNat_natCast, List.length_append, List.length_take, List.length_replicate, List.length_set, List.length_map, List.length_drop, List.length_nil, List.length_cons, markL_length, inB, InR, room, bdsOk] at hpre ⊢
  refine ⟨hpre, fun h => by rw [qbrC, if_neg h]; exact ⟨⟨rfl, rfl⟩, rfl⟩, fun h => ?_⟩
  obtain ⟨g, so⟩ := stC_ok h
  have e : qbrC a c s = if idB a c s = true then ((quo a (csL a s), quo c (csL a s)), 0) else (([], []), 5) := by rw [qbrC, if_pos h]
  rw [e]
  refine ⟨g, ⟨g, so⟩, fun h2 => by rw [if_neg (by rw [h2]; decide)]; exact ⟨⟨rfl, rfl⟩, rfl⟩, fun h2 => ⟨⟨so, grp_tab g.2.1, g.2.2.symm⟩, by rw [if_pos h2]; exact ⟨⟨rfl, rfl⟩, rfl⟩⟩⟩
theorem iQuo_fits : Fits Try.prog 32 ⟨[], iQuo_ct⟩ := by
  refine fits_fn (Γ := gam iQuo_G) (gok_cons checkBraceSet_fits (gok_cons lambdaTable_fits (gok_cons isIdeal_fits (gok_cons quotientBrace_fits gok_nil)))) Try.func32 (by kernel_rfl) (by kernel_rfl) (by kernel_rfl) fun ds p h hp => ?_
  unfold iQuo_ct at h
  split at h
  · cases h
    exact ⟨noWr, noAnn, by rw [iQuo_vc]; exact iQuo_ok _ _ _  hp⟩
  · cases h

def sQuo_p (a : List (List Int)) (c : List (List Int)) (s : Int) : Post := ⟨roomR a ∧ roomR c, .tup [.inr [.rows 25 2 .i64 ((qbrC a c s).1.1), .rows 25 2 .i64 ((qbrC a c s).1.2)], .inl (.int .i64 ((qbrC a c s).2))], []⟩
def sQuo_ct : List AD → Option Post
  | [.agg [.rows .i64 (a), .rows .i64 (c)], .c (.int .i64 (s))] => some (sQuo_p a c s)
  | _ => none
def sQuo_G : List (Nat × Ctr) := [(58, ⟨[], l12Code_ct⟩), (59, ⟨[], l12Ideal_ct⟩), (50, ⟨[], l12Quotient_ct⟩)]
def sQuo_V (a : List (List Int)) (c : List (List Int)) (s : Int) : Prop :=
  ((((Go.Sx.roomR a) ∧
  (Go.Sx.roomR c)) ∧
  (True)) ∧
  (BrP (Go.Sx.stC a c s != (0 : Int))
    (((([] = Prod.fst (Prod.fst (Go.Sx.qbrC a c s))) ∧
    (([] = Prod.snd (Prod.fst (Go.Sx.qbrC a c s))) ∧
    (True))) ∧
    ((Go.Sx.stC a c s = Prod.snd (Go.Sx.qbrC a c s)) ∧
    (True))) ∧
    (True))
    ((((Go.Sx.twoG a c) ∧
    (Go.Sx.setOk a s)) ∧
    (True)) ∧
    (BrP (!Go.Sx.idB a c s)
      (((([] = Prod.fst (Prod.fst (Go.Sx.qbrC a c s))) ∧
      (([] = Prod.snd (Prod.fst (Go.Sx.qbrC a c s))) ∧
      (True))) ∧
      (((5 : Int) = Prod.snd (Go.Sx.qbrC a c s)) ∧
      (True))) ∧
      (True))
      ((((Go.Sx.setOk a s) ∧
      ((Go.Sx.tabB c = Bool.true) ∧
      (List.length c = List.length a))) ∧
      (True)) ∧
      ((((Go.Sx.quo a (Go.Sx.csL a s) = Prod.fst (Prod.fst (Go.Sx.qbrC a c s))) ∧
      ((Go.Sx.quo c (Go.Sx.csL a s) = Prod.snd (Prod.fst (Go.Sx.qbrC a c s))) ∧
      (True))) ∧
      (((0 : Int) = Prod.snd (Go.Sx.qbrC a c s)) ∧
      (True))) ∧
      (True)))))))
theorem sQuo_vc (a : List (List Int)) (c : List (List Int)) (s : Int) : runF Try.prog (gam sQuo_G) noWr noAnn Try.f31 (bodyOf Try.f31) [] [.agg [.rows .i64 (a), .rows .i64 (c)], .c (.int .i64 (s))] (sQuo_p a c s) = sQuo_V a c s := by kernel_rfl
theorem sQuo_ok (a : List (List Int)) (c : List (List Int)) (s : Int) (hpre : (sQuo_p a c s).pre) : sQuo_V a c s := by
  simp only [sQuo_p, sQuo_V, BrP_iff, true_and, and_true, decide_eq_true_eq, decide_eq_false_iff_not, bne_iff_ne, beq_iff_eq, bne_eq_false_iff_eq, beq_eq_false_iff_ne, Bool.not_eq_true, Bool.not_eq_false, Bool.not_true, Bool.not_false, Bool.not_eq_eq_eq_not, Int.toNat_natCast, List.length_append, List.length_take, List.length_replicate, List.length_set, List.length_map, List.length_drop, List.length_nil, List.length_cons, markL_length, inB, InR, room, bdsOk] at hpre ⊢
  refine ⟨hpre, fun h => by rw [qbrC, if_neg h]; exact ⟨⟨rfl, rfl⟩, rfl⟩, fun h => ?_⟩
  obtain ⟨g, so⟩ := stC_ok h
  have e : qbrC a c s = if idB a c s = true then ((quo a (csL a s), quo c (csL a s)), 0) else (([], []), 5) := by rw [qbrC, if_pos h]
  rw [e]
  refine ⟨⟨g, so⟩, fun h2 => by rw [if_neg (by rw [h2]; decide)]; exact ⟨⟨rfl, rfl⟩, rfl⟩, fun h2 => ⟨⟨so, grp_tab g.2.1, g.2.2.symm⟩, by rw [if_pos h2]; exact ⟨⟨rfl, rfl⟩, rfl⟩⟩⟩
theorem sQuo_fits : Fits Try.prog 31 ⟨[], sQuo_ct⟩ := by
  refine fits_fn (Γ := gam sQuo_G) (gok_cons l12Code_fits (gok_cons l12Ideal_fits (gok_cons l12Quotient_fits gok_nil))) Try.func31 (by kernel_rfl) (by kernel_rfl) (by kernel_rfl) fun ds p h hp => ?_
  unfold sQuo_ct at h
  split at h
  · cases h
    exact ⟨noWr, noAnn, by rw [sQuo_vc]; exact sQuo_ok _ _ _  hp⟩
  · cases h

def heldBrace_p (a : List (List Int)) (c : List (List Int)) (k : Int) : Post := ⟨a.length ≤ 1048576 ∧ sumL a ≤ 1048576 ∧ c.length ≤ 1048576 ∧ sumL c ≤ 1048576 ∧ 0 ≤ k ∧ k ≤ 1000000000, .c (.int .i64 (if a = markR a k ∧ c = markR c (k + (sumL a : Int)) then k + (sumL a : Int) + (sumL c : Int) else -1)), []⟩
def heldBrace_ct : List AD → Option Post
  | [.agg [.rows .i64 (a), .rows .i64 (c)], .c (.int .i64 (k))] => some (heldBrace_p a c k)
  | _ => none
def heldBrace_G : List (Nat × Ctr) := [(63, ⟨[], heldInt64SS_ct⟩)]
def heldBrace_V (a : List (List Int)) (c : List (List Int)) (k : Int) : Prop :=
  ((((List.length a ≤ (1048576 : Nat)) ∧
  ((Go.Sx.sumL a ≤ (1048576 : Nat)) ∧
  (((0 : Int) ≤ k) ∧
  (k ≤ (1073741824 : Int))))) ∧
  (True)) ∧
  (BrP (Decidable.decide ((if a = Go.Sx.markR a k then k + (↑(Go.Sx.sumL a) : Int) else (-1 : Int)) < (0 : Int)))
    (((-1 : Int) = if a = Go.Sx.markR a k ∧ c = Go.Sx.markR c (k + (↑(Go.Sx.sumL a) : Int)) then k + (↑(Go.Sx.sumL a) : Int) + (↑(Go.Sx.sumL c) : Int) else (-1 : Int)) ∧
    (True))
    ((((List.length c ≤ (1048576 : Nat)) ∧
    ((Go.Sx.sumL c ≤ (1048576 : Nat)) ∧
    (((0 : Int) ≤ if a = Go.Sx.markR a k then k + (↑(Go.Sx.sumL a) : Int) else (-1 : Int)) ∧
    ((if a = Go.Sx.markR a k then k + (↑(Go.Sx.sumL a) : Int) else (-1 : Int)) ≤ (1073741824 : Int))))) ∧
    (True)) ∧
    (BrP (Decidable.decide ((if c = Go.Sx.markR c (if a = Go.Sx.markR a k then k + (↑(Go.Sx.sumL a) : Int) else (-1 : Int)) then (if a = Go.Sx.markR a k then k + (↑(Go.Sx.sumL a) : Int) else (-1 : Int)) + (↑(Go.Sx.sumL c) : Int) else (-1 : Int)) < (0 : Int)))
      (((-1 : Int) = if a = Go.Sx.markR a k ∧ c = Go.Sx.markR c (k + (↑(Go.Sx.sumL a) : Int)) then k + (↑(Go.Sx.sumL a) : Int) + (↑(Go.Sx.sumL c) : Int) else (-1 : Int)) ∧
      (True))
      (((if c = Go.Sx.markR c (if a = Go.Sx.markR a k then k + (↑(Go.Sx.sumL a) : Int) else (-1 : Int)) then (if a = Go.Sx.markR a k then k + (↑(Go.Sx.sumL a) : Int) else (-1 : Int)) + (↑(Go.Sx.sumL c) : Int) else (-1 : Int)) = if a = Go.Sx.markR a k ∧ c = Go.Sx.markR c (k + (↑(Go.Sx.sumL a) : Int)) then k + (↑(Go.Sx.sumL a) : Int) + (↑(Go.Sx.sumL c) : Int) else (-1 : Int)) ∧
      (True))))))
theorem heldBrace_vc (a : List (List Int)) (c : List (List Int)) (k : Int) : runF Try.prog (gam heldBrace_G) noWr noAnn Try.f33 (bodyOf Try.f33) [] [.agg [.rows .i64 (a), .rows .i64 (c)], .c (.int .i64 (k))] (heldBrace_p a c k) = heldBrace_V a c k := by kernel_rfl
theorem heldBrace_ok (a : List (List Int)) (c : List (List Int)) (k : Int) (hpre : (heldBrace_p a c k).pre) : heldBrace_V a c k := by
  simp only [heldBrace_p, heldBrace_V, BrP_iff, true_and, and_true, decide_eq_true_eq, decide_eq_false_iff_not, bne_iff_ne, beq_iff_eq, bne_eq_false_iff_eq, beq_eq_false_iff_ne, Bool.not_eq_true, Bool.not_eq_false, Bool.not_true, Bool.not_false, Bool.not_eq_eq_eq_not, Int.toNat_natCast, List.length_append, List.length_take, List.length_replicate, List.length_set, List.length_map, List.length_drop, List.length_nil, List.length_cons, markL_length, inB, InR, room, bdsOk] at hpre ⊢
  obtain ⟨a1, a2, c1, c2, k1, k2⟩ := hpre
  by_cases e1 : a = markR a k
  · rw [if_pos e1]
    refine ⟨⟨a1, a2, k1, by omega⟩, fun h => by omega, fun h => ⟨⟨c1, c2, by omega, by omega⟩, fun h2 => ?_, fun h2 => ?_⟩⟩
    · by_cases e2 : c = markR c (k + (sumL a : Int))
      · rw [if_pos e2] at h2; omega
      · rw [if_neg fun e => e2 e.2]
    · by_cases e2 : c = markR c (k + (sumL a : Int))
      · rw [if_pos e2, if_pos ⟨e1, e2⟩]
      · rw [if_neg e2] at h2; omega
  · rw [if_neg e1]
    exact ⟨⟨a1, a2, k1, by omega⟩, fun _ => by rw [if_neg fun e => e1 e.1], fun h => by omega⟩
theorem heldBrace_fits : Fits Try.prog 33 ⟨[], heldBrace_ct⟩ := by
  refine fits_fn (Γ := gam heldBrace_G) (gok_cons heldInt64SS_fits gok_nil) Try.func33 (by kernel_rfl) (by kernel_rfl) (by kernel_rfl) fun ds p h hp => ?_
  unfold heldBrace_ct at h
  split at h
  · cases h
    exact ⟨noWr, noAnn, by rw [heldBrace_vc]; exact heldBrace_ok _ _ _  hp⟩
  · cases h

def lQuo_p (a : List (List Int)) (c : List (List Int)) (s : Int) : Post := ⟨((a.length : Int) ≤ 9223372036854775807 ∧ (∀ r ∈ a, (r.length : Int) ≤ 9223372036854775807)) ∧ ((c.length : Int) ≤ 9223372036854775807 ∧ (∀ r ∈ c, (r.length : Int) ≤ 9223372036854775807)), .c (.bool (true)), []⟩
def lQuo_ct : List AD → Option Post
  | [.agg [.rows .i64 (a), .rows .i64 (c)], .c (.int .i64 (s))] => some (lQuo_p a c s)
  | _ => none
def lQuo_G : List (Nat × Ctr) := [(21, ⟨[], szBrace_ct⟩), (23, ⟨[], toBrace_ct⟩), (25, ⟨[], eqBrace_ct⟩), (28, ⟨[(0, 0), (0, 1)], markBrace_ct⟩), (33, ⟨[], heldBrace_ct⟩), (31, ⟨[], sQuo_ct⟩), (32, ⟨[], iQuo_ct⟩)]
def lQuo_V (a : List (List Int)) (c : List (List Int)) (s : Int) : Prop :=
  ((((((↑(List.length a) : Int) ≤ (9223372036854775807 : Int)) ∧
  (∀ (r : List Int), r ∈ a → (↑(List.length r) : Int) ≤ (9223372036854775807 : Int))) ∧
  ((((↑(List.length c) : Int) ≤ (9223372036854775807 : Int)) ∧
  (∀ (r : List Int), r ∈ c → (↑(List.length r) : Int) ≤ (9223372036854775807 : Int))) ∧
  (((0 : Int) ≤ (1048576 : Int)) ∧
  ((1048576 : Int) ≤ (1099511627776 : Int))))) ∧
  (True)) ∧
  (BrP (Decidable.decide (Go.Sx.szB a c (1048576 : Int) < (0 : Int)))
    ((Bool.true = Bool.true) ∧
    (True))
    ((((Go.Sx.roomR a) ∧
    (Go.Sx.roomR c)) ∧
    (True)) ∧
    ((((Go.Sx.roomR a) ∧
    (Go.Sx.roomR c)) ∧
    (True)) ∧
    ((((Go.Sx.roomR a) ∧
    (Go.Sx.roomR c)) ∧
    (True)) ∧
    ((((Go.Sx.roomR a) ∧
    (Go.Sx.roomR c)) ∧
    (True)) ∧
    ((((Go.Sx.roomR (Prod.fst (Prod.fst (Go.Sx.qbrC a c s)))) ∧
    (Go.Sx.roomR (Prod.snd (Prod.fst (Go.Sx.qbrC a c s))))) ∧
    (True)) ∧
    (BrP (!Decidable.decide (Prod.fst (Prod.fst (Go.Sx.qbrC a c s)) = Prod.fst (Prod.fst (Go.Sx.qbrC a c s)) ∧ Prod.snd (Prod.fst (Go.Sx.qbrC a c s)) = Prod.snd (Prod.fst (Go.Sx.qbrC a c s))))
      ((Bool.false = Bool.true) ∧
      (True))
      (BrP (Prod.snd (Go.Sx.qbrC a c s) != Prod.snd (Go.Sx.qbrC a c s))
        ((Bool.false = Bool.true) ∧
        (True))
        ((((Go.Sx.roomR a) ∧
        (Go.Sx.roomR c)) ∧
        (True)) ∧
        ((((Go.Sx.roomR a) ∧
        (Go.Sx.roomR c)) ∧
        (True)) ∧
        (BrP (!Decidable.decide (a = a ∧ c = c))
          ((Bool.false = Bool.true) ∧
          (True))
          ((((List.length a ≤ (1048576 : Nat)) ∧
          ((Go.Sx.sumL a ≤ (1048576 : Nat)) ∧
          ((List.length c ≤ (1048576 : Nat)) ∧
          ((Go.Sx.sumL c ≤ (1048576 : Nat)) ∧
          (((0 : Int) ≤ (1 : Int)) ∧
          ((1 : Int) ≤ (1000000000 : Int))))))) ∧
          ((List.map List.length (Go.Sx.markR a (1 : Int)) = List.map List.length a) ∧
          ((List.map List.length (Go.Sx.markR c ((1 : Int) + (↑(Go.Sx.sumL a) : Int))) = List.map List.length c) ∧
          (True)))) ∧
          (BrP (Decidable.decide ((1 : Int) + (↑(Go.Sx.sumL a) : Int) + (↑(Go.Sx.sumL c) : Int) < (0 : Int)))
            ((Bool.false = Bool.true) ∧
            (True))
            ((((Go.Sx.roomR (Prod.fst (Prod.fst (Go.Sx.qbrC a c s)))) ∧
            (Go.Sx.roomR (Prod.snd (Prod.fst (Go.Sx.qbrC a c s))))) ∧
            (True)) ∧
            (BrP (!Decidable.decide (Prod.fst (Prod.fst (Go.Sx.qbrC a c s)) = Prod.fst (Prod.fst (Go.Sx.qbrC a c s)) ∧ Prod.snd (Prod.fst (Go.Sx.qbrC a c s)) = Prod.snd (Prod.fst (Go.Sx.qbrC a c s))))
              ((Bool.false = Bool.true) ∧
              (True))
              (BrP (Prod.snd (Go.Sx.qbrC a c s) != Prod.snd (Go.Sx.qbrC a c s))
                ((Bool.false = Bool.true) ∧
                (True))
                ((((List.length (Prod.fst (Prod.fst (Go.Sx.qbrC a c s))) ≤ (1048576 : Nat)) ∧
                ((Go.Sx.sumL (Prod.fst (Prod.fst (Go.Sx.qbrC a c s))) ≤ (1048576 : Nat)) ∧
                ((List.length (Prod.snd (Prod.fst (Go.Sx.qbrC a c s))) ≤ (1048576 : Nat)) ∧
                ((Go.Sx.sumL (Prod.snd (Prod.fst (Go.Sx.qbrC a c s))) ≤ (1048576 : Nat)) ∧
                (((0 : Int) ≤ (1 : Int)) ∧
                ((1 : Int) ≤ (1000000000 : Int))))))) ∧
                ((List.map List.length (Go.Sx.markR (Prod.fst (Prod.fst (Go.Sx.qbrC a c s))) (1 : Int)) = List.map List.length (Prod.fst (Prod.fst (Go.Sx.qbrC a c s)))) ∧
                ((List.map List.length (Go.Sx.markR (Prod.snd (Prod.fst (Go.Sx.qbrC a c s))) ((1 : Int) + (↑(Go.Sx.sumL (Prod.fst (Prod.fst (Go.Sx.qbrC a c s)))) : Int))) = List.map List.length (Prod.snd (Prod.fst (Go.Sx.qbrC a c s)))) ∧
                (True)))) ∧
                ((((List.length (Go.Sx.markR (Prod.fst (Prod.fst (Go.Sx.qbrC a c s))) (1 : Int)) ≤ (1048576 : Nat)) ∧
                ((Go.Sx.sumL (Go.Sx.markR (Prod.fst (Prod.fst (Go.Sx.qbrC a c s))) (1 : Int)) ≤ (1048576 : Nat)) ∧
                ((List.length (Go.Sx.markR (Prod.snd (Prod.fst (Go.Sx.qbrC a c s))) ((1 : Int) + (↑(Go.Sx.sumL (Prod.fst (Prod.fst (Go.Sx.qbrC a c s)))) : Int))) ≤ (1048576 : Nat)) ∧
                ((Go.Sx.sumL (Go.Sx.markR (Prod.snd (Prod.fst (Go.Sx.qbrC a c s))) ((1 : Int) + (↑(Go.Sx.sumL (Prod.fst (Prod.fst (Go.Sx.qbrC a c s)))) : Int))) ≤ (1048576 : Nat)) ∧
                (((0 : Int) ≤ (1 : Int)) ∧
                ((1 : Int) ≤ (1000000000 : Int))))))) ∧
                (True)) ∧
                (BrP (Decidable.decide ((if Go.Sx.markR (Prod.fst (Prod.fst (Go.Sx.qbrC a c s))) (1 : Int) = Go.Sx.markR (Go.Sx.markR (Prod.fst (Prod.fst (Go.Sx.qbrC a c s))) (1 : Int)) (1 : Int) ∧ Go.Sx.markR (Prod.snd (Prod.fst (Go.Sx.qbrC a c s))) ((1 : Int) + (↑(Go.Sx.sumL (Prod.fst (Prod.fst (Go.Sx.qbrC a c s)))) : Int)) = Go.Sx.markR (Go.Sx.markR (Prod.snd (Prod.fst (Go.Sx.qbrC a c s))) ((1 : Int) + (↑(Go.Sx.sumL (Prod.fst (Prod.fst (Go.Sx.qbrC a c s)))) : Int))) ((1 : Int) + (↑(Go.Sx.sumL (Go.Sx.markR (Prod.fst (Prod.fst (Go.Sx.qbrC a c s))) (1 : Int))) : Int)) then (1 : Int) + (↑(Go.Sx.sumL (Go.Sx.markR (Prod.fst (Prod.fst (Go.Sx.qbrC a c s))) (1 : Int))) : Int) + (↑(Go.Sx.sumL (Go.Sx.markR (Prod.snd (Prod.fst (Go.Sx.qbrC a c s))) ((1 : Int) + (↑(Go.Sx.sumL (Prod.fst (Prod.fst (Go.Sx.qbrC a c s)))) : Int)))) : Int) else (-1 : Int)) < (0 : Int)))
                  ((Bool.false = Bool.true) ∧
                  (True))
                  (BrP ((if Go.Sx.markR (Prod.fst (Prod.fst (Go.Sx.qbrC a c s))) (1 : Int) = Go.Sx.markR (Go.Sx.markR (Prod.fst (Prod.fst (Go.Sx.qbrC a c s))) (1 : Int)) (1 : Int) ∧ Go.Sx.markR (Prod.snd (Prod.fst (Go.Sx.qbrC a c s))) ((1 : Int) + (↑(Go.Sx.sumL (Prod.fst (Prod.fst (Go.Sx.qbrC a c s)))) : Int)) = Go.Sx.markR (Go.Sx.markR (Prod.snd (Prod.fst (Go.Sx.qbrC a c s))) ((1 : Int) + (↑(Go.Sx.sumL (Prod.fst (Prod.fst (Go.Sx.qbrC a c s)))) : Int))) ((1 : Int) + (↑(Go.Sx.sumL (Go.Sx.markR (Prod.fst (Prod.fst (Go.Sx.qbrC a c s))) (1 : Int))) : Int)) then (1 : Int) + (↑(Go.Sx.sumL (Go.Sx.markR (Prod.fst (Prod.fst (Go.Sx.qbrC a c s))) (1 : Int))) : Int) + (↑(Go.Sx.sumL (Go.Sx.markR (Prod.snd (Prod.fst (Go.Sx.qbrC a c s))) ((1 : Int) + (↑(Go.Sx.sumL (Prod.fst (Prod.fst (Go.Sx.qbrC a c s)))) : Int)))) : Int) else (-1 : Int)) != (1 : Int) + (↑(Go.Sx.sumL (Prod.fst (Prod.fst (Go.Sx.qbrC a c s)))) : Int) + (↑(Go.Sx.sumL (Prod.snd (Prod.fst (Go.Sx.qbrC a c s)))) : Int))
                    ((Bool.false = Bool.true) ∧
                    (True))
                    ((((Go.Sx.roomR a) ∧
                    (Go.Sx.roomR c)) ∧
                    (True)) ∧
                    ((((Go.Sx.roomR a) ∧
                    (Go.Sx.roomR c)) ∧
                    (True)) ∧
                    ((((Go.Sx.roomR (Prod.fst (Prod.fst (Go.Sx.qbrC a c s)))) ∧
                    (Go.Sx.roomR (Prod.snd (Prod.fst (Go.Sx.qbrC a c s))))) ∧
                    (True)) ∧
                    (BrP (!Decidable.decide (Prod.fst (Prod.fst (Go.Sx.qbrC a c s)) = Prod.fst (Prod.fst (Go.Sx.qbrC a c s)) ∧ Prod.snd (Prod.fst (Go.Sx.qbrC a c s)) = Prod.snd (Prod.fst (Go.Sx.qbrC a c s))))
                      ((Bool.false = Bool.true) ∧
                      (True))
                      (BrP (Prod.snd (Go.Sx.qbrC a c s) != Prod.snd (Go.Sx.qbrC a c s))
                        ((Bool.false = Bool.true) ∧
                        (True))
                        ((((List.length (Go.Sx.markR (Prod.fst (Prod.fst (Go.Sx.qbrC a c s))) (1 : Int)) ≤ (1048576 : Nat)) ∧
                        ((Go.Sx.sumL (Go.Sx.markR (Prod.fst (Prod.fst (Go.Sx.qbrC a c s))) (1 : Int)) ≤ (1048576 : Nat)) ∧
                        ((List.length (Go.Sx.markR (Prod.snd (Prod.fst (Go.Sx.qbrC a c s))) ((1 : Int) + (↑(Go.Sx.sumL (Prod.fst (Prod.fst (Go.Sx.qbrC a c s)))) : Int))) ≤ (1048576 : Nat)) ∧
                        ((Go.Sx.sumL (Go.Sx.markR (Prod.snd (Prod.fst (Go.Sx.qbrC a c s))) ((1 : Int) + (↑(Go.Sx.sumL (Prod.fst (Prod.fst (Go.Sx.qbrC a c s)))) : Int))) ≤ (1048576 : Nat)) ∧
                        (((0 : Int) ≤ (1 : Int)) ∧
                        ((1 : Int) ≤ (1000000000 : Int))))))) ∧
                        (True)) ∧
                        (BrP (Decidable.decide ((if Go.Sx.markR (Prod.fst (Prod.fst (Go.Sx.qbrC a c s))) (1 : Int) = Go.Sx.markR (Go.Sx.markR (Prod.fst (Prod.fst (Go.Sx.qbrC a c s))) (1 : Int)) (1 : Int) ∧ Go.Sx.markR (Prod.snd (Prod.fst (Go.Sx.qbrC a c s))) ((1 : Int) + (↑(Go.Sx.sumL (Prod.fst (Prod.fst (Go.Sx.qbrC a c s)))) : Int)) = Go.Sx.markR (Go.Sx.markR (Prod.snd (Prod.fst (Go.Sx.qbrC a c s))) ((1 : Int) + (↑(Go.Sx.sumL (Prod.fst (Prod.fst (Go.Sx.qbrC a c s)))) : Int))) ((1 : Int) + (↑(Go.Sx.sumL (Go.Sx.markR (Prod.fst (Prod.fst (Go.Sx.qbrC a c s))) (1 : Int))) : Int)) then (1 : Int) + (↑(Go.Sx.sumL (Go.Sx.markR (Prod.fst (Prod.fst (Go.Sx.qbrC a c s))) (1 : Int))) : Int) + (↑(Go.Sx.sumL (Go.Sx.markR (Prod.snd (Prod.fst (Go.Sx.qbrC a c s))) ((1 : Int) + (↑(Go.Sx.sumL (Prod.fst (Prod.fst (Go.Sx.qbrC a c s)))) : Int)))) : Int) else (-1 : Int)) < (0 : Int)))
                          ((Bool.false = Bool.true) ∧
                          (True))
                          (BrP ((if Go.Sx.markR (Prod.fst (Prod.fst (Go.Sx.qbrC a c s))) (1 : Int) = Go.Sx.markR (Go.Sx.markR (Prod.fst (Prod.fst (Go.Sx.qbrC a c s))) (1 : Int)) (1 : Int) ∧ Go.Sx.markR (Prod.snd (Prod.fst (Go.Sx.qbrC a c s))) ((1 : Int) + (↑(Go.Sx.sumL (Prod.fst (Prod.fst (Go.Sx.qbrC a c s)))) : Int)) = Go.Sx.markR (Go.Sx.markR (Prod.snd (Prod.fst (Go.Sx.qbrC a c s))) ((1 : Int) + (↑(Go.Sx.sumL (Prod.fst (Prod.fst (Go.Sx.qbrC a c s)))) : Int))) ((1 : Int) + (↑(Go.Sx.sumL (Go.Sx.markR (Prod.fst (Prod.fst (Go.Sx.qbrC a c s))) (1 : Int))) : Int)) then (1 : Int) + (↑(Go.Sx.sumL (Go.Sx.markR (Prod.fst (Prod.fst (Go.Sx.qbrC a c s))) (1 : Int))) : Int) + (↑(Go.Sx.sumL (Go.Sx.markR (Prod.snd (Prod.fst (Go.Sx.qbrC a c s))) ((1 : Int) + (↑(Go.Sx.sumL (Prod.fst (Prod.fst (Go.Sx.qbrC a c s)))) : Int)))) : Int) else (-1 : Int)) != (1 : Int) + (↑(Go.Sx.sumL (Prod.fst (Prod.fst (Go.Sx.qbrC a c s)))) : Int) + (↑(Go.Sx.sumL (Prod.snd (Prod.fst (Go.Sx.qbrC a c s)))) : Int))
                            ((Bool.false = Bool.true) ∧
                            (True))
                            ((Bool.true = Bool.true) ∧
                            (True)))))))))))))))))))))))))))))))
theorem lQuo_vc (a : List (List Int)) (c : List (List Int)) (s : Int) : runF Try.prog (gam lQuo_G) noWr noAnn Try.f8 (bodyOf Try.f8) [] [.agg [.rows .i64 (a), .rows .i64 (c)], .c (.int .i64 (s))] (lQuo_p a c s) = lQuo_V a c s := by kernel_rfl
theorem lQuo_ok (a : List (List Int)) (c : List (List Int)) (s : Int) (hpre : (lQuo_p a c s).pre) : lQuo_V a c s := by
  simp only [lQuo_p, lQuo_V, BrP_iff, true_and, and_true, decide_eq_true_eq, decide_eq_false_iff_not, bne_iff_ne, beq_iff_eq, bne_eq_false_iff_eq, beq_eq_false_iff_ne, Bool.not_eq_true, Bool.not_eq_false, Bool.not_true, Bool.not_false, Bool.not_eq_eq_eq_not, Int.toNat_natCast, List.length_append, List.length_take, List.length_replicate, List.length_set, List.length_map, List.length_drop, List.length_nil, List.length_cons, markL_length, inB, InR, room, bdsOk] at hpre ⊢
  obtain ⟨⟨a1, a2⟩, b1, b2⟩ := hpre
  refine ⟨⟨⟨a1, a2⟩, ⟨b1, b2⟩, by omega, by omega⟩, fun _ => trivial, fun h => ?_⟩
  obtain ⟨e1, e2, e3, d1, d2, d3⟩ := szB_of h
  obtain ⟨⟨x1, x2, x3⟩, y1, y2, y3⟩ := qbrC_room a c s
  have c5 : ¬ (1 + (sumL a : Int) + (sumL c : Int) < 0) := by omega
  have c6 : ¬ (1 + (sumL (qbrC a c s).1.1 : Int) + (sumL (qbrC a c s).1.2 : Int) < 0) := by omega
  simp [e1, e2, e3, d1, d2, d3, x1, x2, x3, y1, y2, y3, c5, c6, markR_length, markR_lens, markR_sum, markR_mark]
theorem lQuo_fits : Fits Try.prog 8 ⟨[], lQuo_ct⟩ := by
  refine fits_fn (Γ := gam lQuo_G) (gok_cons szBrace_fits (gok_cons toBrace_fits (gok_cons eqBrace_fits (gok_cons markBrace_fits (gok_cons heldBrace_fits (gok_cons sQuo_fits (gok_cons iQuo_fits gok_nil))))))) Try.func8 (by kernel_rfl) (by kernel_rfl) (by kernel_rfl) fun ds p h hp => ?_
  unfold lQuo_ct at h
  split at h
  · cases h
    exact ⟨noWr, noAnn, by rw [lQuo_vc]; exact lQuo_ok _ _ _  hp⟩
  · cases h

end Go.Sx

