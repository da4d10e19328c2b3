/- RchL -/
import Derived.Test.YtcfbmimjffkgdaaRchP
import Derived.Test.YtcfbmimjffkgdaaQb
import Derived.Test.YtcfbmimjffkgdaaDrawI
open Go Go.Proofs
namespace Go.Sx
set_option linter.unusedSimpArgs false
set_option linter.unusedVariables false

def l03KinkS_p (t : List (List Int)) : Post := ⟨tabB t = true, .c (.ints 2 .i64 (kkL t)), []⟩
def l03KinkS_ct : List AD → Option Post
  | [.agg [.rows .i64 (t)]] => some (l03KinkS_p t)
  | _ => none
def l03KinkS_ann (t : List (List Int)) : Nat → Option Ann
  | 0 => some (Ann.mk ((Nat)) (fun i => ⟨[(1, .c (.ptr 1 0)), (3, .c (.own (5))), (4, .c (.int .i64 ((i : Int))))], [(1, some (.box [.ro (.rows .i64 (t))])), (5, some (.ints 2 .i64 ((kkL t).take i)))]⟩) (fun i => i ≤ t.length) (fun i => t.length - i) (fun _ => noAnn))
  | _ => none
def l03KinkS_G : List (Nat × Ctr) := []
def l03KinkS_V (t : List (List Int)) : Prop :=
  ((∃ x0 : Nat, ((x0 ≤ List.length t) ∧
 (((0 : Int) = (↑x0 : Int)) ∧
 ((t = t) ∧
 ([] = List.take x0 (kkL t)))))) ∧
 (∀ x1 : Nat, ((x1 ≤ List.length t) →
 (BrP (Decidable.decide ((↑x1 : Int) < (↑(List.length t) : Int)))
 ((inB (↑x1 : Int) (List.length t)) ∧
 ((inB (↑x1 : Int) (List.length (List.getD t (Int.toNat (↑x1 : Int)) []))) ∧
 ((room (List.length (List.take x1 (kkL t)) + List.length [List.getD (List.getD t (Int.toNat (↑x1 : Int)) []) (Int.toNat (↑x1 : Int)) (0 : Int)])) ∧
 ((InR ((↑x1 : Int) + (1 : Int))) ∧
 (∃ x2 : Nat, ((x2 ≤ List.length t) ∧
 ((List.length t - x2 < List.length t - x1) ∧
 (((↑x1 : Int) + (1 : Int) = (↑x2 : Int)) ∧
 ((t = t) ∧
 (List.take x1 (kkL t) ++ [List.getD (List.getD t (Int.toNat (↑x1 : Int)) []) (Int.toNat (↑x1 : Int)) (0 : Int)] = List.take x2 (kkL t)))))))))))
 ((List.take x1 (kkL t) = kkL t) ∧
 (True))))))
theorem l03KinkS_vc (t : List (List Int)) : runF Try.prog (gam l03KinkS_G) noWr (l03KinkS_ann t) Try.f129 (bodyOf Try.f129) [] [.agg [.rows .i64 (t)]] (l03KinkS_p t) = l03KinkS_V t := by kernel_rfl
theorem l03KinkS_ok (t : List (List Int)) (hpre : (l03KinkS_p t).pre) : l03KinkS_V t := by
  simp only [l03KinkS_p, l03KinkS_V, BrP_iff, true_and, and_true, decide_eq_true_eq, decide_eq_false_iff_not, bne_iff_ne, beq_iff_eq, bne_eq_false_iff_eq, beq_eq_false_iff_ne, Bool.not_eq_true, Bool.not_eq_false, Bool.not_true, Bool.not_false, Bool.not_eq_eq_eq_not, Int.toNat_natCast, List.length_append, List.length_take, List.length_replicate, List.length_set, List.length_map, List.length_drop, List.length_nil, List.length_cons, markL_length, inB, InR, room, bdsOk] at hpre ⊢
  obtain ⟨n1, n2, ht⟩ := tabB_of hpre
  have hl : (kkL t).length = t.length := tab_length _ _
  refine ⟨⟨0, by omega, rfl, rfl⟩, fun i hi => ⟨fun h => ?_, fun h => ?_⟩⟩
  · have r := ht i (by omega)
    have e : (t.getD i []).getD i 0 = (kkL t).getD i 0 := (tab_getD _ (fun x => en t x x) i (by omega)).symm
    refine ⟨by omega, by omega, by omega, by omega, i + 1, by omega, by omega, by omega, ?_⟩
    rw [e, take_snoc _ 0 i (by omega)]
  · rw [List.take_of_length_le (by omega)]
theorem l03KinkS_fits : Fits Try.prog 129 ⟨[], l03KinkS_ct⟩ := by
  refine fits_fn (Γ := gam l03KinkS_G) gok_nil Try.func129 (by kernel_rfl) (by kernel_rfl) (by kernel_rfl) fun ds p h hp => ?_
  unfold l03KinkS_ct at h
  split at h
  · cases h
    exact ⟨noWr, l03KinkS_ann _ , by rw [l03KinkS_vc]; exact l03KinkS_ok _  hp⟩
  · cases h

def qoF (t : List (List Int)) : List (List Int) := t.map fun r => thL r (bkL (kkL t))
def qoC (t : List (List Int)) : List (List Int) × Int := if rackB t = true then (qoF t, 0) else ([], 1)

theorem kk_in {t : List (List Int)} (ht : tabB t = true) : inQ (kkL t).length (kkL t) := fun i hi => by
  obtain ⟨n1, n2, tt⟩ := tabB_of ht
  have hl : (kkL t).length = t.length := tab_length _ _
  rw [hl] at hi ⊢
  have := (tt i hi).2 i hi
  rw [kkL, tab_getD _ _ _ hi, en]
  omega

def QuandleOfS_p (t : List (List Int)) : Post := ⟨roomR t, .tup [.inr [.rows 46 2 .i64 ((qoC t).1)], .inl (.int .i64 ((qoC t).2))], []⟩
def QuandleOfS_ct : List AD → Option Post
  | [.agg [.rows .i64 (t)]] => some (QuandleOfS_p t)
  | _ => none
def QuandleOfS_ann (t : List (List Int)) : Nat → Option Ann
  | 0 => some (Ann.mk ((Nat)) (fun i => ⟨[(1, .c (.ptr 1 0)), (2, .c (.ptr 2 0)), (4, .c (.own (13))), (5, .c (.ptr 5 0)), (6, .c (.int .i64 ((i : Int))))], [(1, some (.box [.ro (.rows .i64 (t))])), (2, some (.box [.nil])), (13, some (.ints 2 .i64 (bkL (kkL t)))), (5, some (.box [.own (100)])), (100, some (.rows 0 46 2 .i64 ((qoF t).take i)))]⟩) (fun i => i ≤ t.length ∧ rackB t = true) (fun i => t.length - i) (fun _ => noAnn))
  | _ => none
def QuandleOfS_G : List (Nat × Ctr) := [(41, ⟨[], l03Is_ct⟩), (129, ⟨[], l03KinkS_ct⟩), (128, ⟨[], l01BackG_ct⟩), (130, ⟨[], l01ThenG_ct⟩)]
def QuandleOfS_V (t : List (List Int)) : Prop :=
  (((roomR t) ∧
 (True)) ∧
 (BrP (!rackB t)
 (((([] = Prod.fst (qoC t)) ∧
 (True)) ∧
 (((1 : Int) = Prod.snd (qoC t)) ∧
 (True))) ∧
 (True))
 (((tabB t = Bool.true) ∧
 (True)) ∧
 ((((room (List.length (kkL t))) ∧
 (inQ (List.length (kkL t)) (kkL t))) ∧
 (True)) ∧
 ((∃ x0 : Nat, (((x0 ≤ List.length t) ∧
 (rackB t = Bool.true)) ∧
 (((0 : Int) = (↑x0 : Int)) ∧
 ((t = t) ∧
 ((bkL (kkL t) = bkL (kkL t)) ∧
 (List.take x0 (qoF t) = [])))))) ∧
 (∀ x1 : Nat, (((x1 ≤ List.length t) ∧
 (rackB t = Bool.true)) →
 (BrP (Decidable.decide ((↑x1 : Int) < (↑(List.length t) : Int)))
 ((inB (↑x1 : Int) (List.length t)) ∧
 ((((room (List.length (List.getD t (Int.toNat (↑x1 : Int)) []))) ∧
 (inQ (List.length (bkL (kkL t))) (List.getD t (Int.toNat (↑x1 : Int)) []))) ∧
 (True)) ∧
 ((room (List.length (List.take x1 (qoF t)) + List.length [thL (List.getD t (Int.toNat (↑x1 : Int)) []) (bkL (kkL t))])) ∧
 ((InR ((↑x1 : Int) + (1 : Int))) ∧
 (∃ x2 : Nat, (((x2 ≤ List.length t) ∧
 (rackB t = Bool.true)) ∧
 ((List.length t - x2 < List.length t - x1) ∧
 (((↑x1 : Int) + (1 : Int) = (↑x2 : Int)) ∧
 ((t = t) ∧
 ((bkL (kkL t) = bkL (kkL t)) ∧
 (List.take x1 (qoF t) ++ [thL (List.getD t (Int.toNat (↑x1 : Int)) []) (bkL (kkL t))] = List.take x2 (qoF t))))))))))))
 ((((List.take x1 (qoF t) = Prod.fst (qoC t)) ∧
 (True)) ∧
 (((0 : Int) = Prod.snd (qoC t)) ∧
 (True))) ∧
 (True))))))))))
theorem QuandleOfS_vc (t : List (List Int)) : runF Try.prog (gam QuandleOfS_G) noWr (QuandleOfS_ann t) Try.f86 (bodyOf Try.f86) [] [.agg [.rows .i64 (t)]] (QuandleOfS_p t) = QuandleOfS_V t := by kernel_rfl
theorem QuandleOfS_ok (t : List (List Int)) (hpre : (QuandleOfS_p t).pre) : QuandleOfS_V t := by
  simp only [QuandleOfS_p, QuandleOfS_V, BrP_iff, true_and, and_true, decide_eq_true_eq, decide_eq_false_iff_not, bne_iff_ne, beq_iff_eq, bne_eq_false_iff_eq, beq_eq_false_iff_ne, Bool.not_eq_true, Bool.not_eq_false, Bool.not_true, Bool.not_false, Bool.not_eq_eq_eq_not, Int.toNat_natCast, List.length_append, List.length_take, List.length_replicate, List.length_set, List.length_map, List.length_drop, List.length_nil, List.length_cons, markL_length, inB, InR, room, bdsOk] at hpre ⊢
  refine ⟨hpre, fun h => ?_, fun h => ?_⟩
  · simp [qoC, h]
  have ht := rackB_tab h
  obtain ⟨n1, n2, tt⟩ := tabB_of ht
  have hl : (kkL t).length = t.length := tab_length _ _
  have bl : (bkL (kkL t)).length = t.length := (bkN_length _ _).trans hl
  have ql : (qoF t).length = t.length := by simp [qoF]
  refine ⟨ht, ⟨by omega, kk_in ht⟩, ⟨0, ⟨by omega, h⟩, rfl, rfl⟩, fun i ⟨hi, _⟩ => ⟨fun h2 => ?_, fun h2 => ?_⟩⟩
  · have r := tt i (by omega)
    refine ⟨by omega, ⟨by omega, fun q hq => ?_⟩, by omega, by omega, i + 1, ⟨by omega, h⟩, by omega, by omega, ?_⟩
    · have := r.2 q (by omega)
      rw [bl]; omega
    · rw [← take_snoc (qoF t) [] i (by omega)]
      congr 2
      rw [getD_lt (qoF t) [] i (by omega), getD_lt t [] i (by omega)]
      simp [qoF]
  · rw [List.take_of_length_le (by omega)]
    simp [qoC, h]
theorem QuandleOfS_fits : Fits Try.prog 86 ⟨[], QuandleOfS_ct⟩ := by
  refine fits_fn (Γ := gam QuandleOfS_G) (gok_cons l03Is_fits (gok_cons l03KinkS_fits (gok_cons l01BackG_fits (gok_cons l01ThenG_fits gok_nil)))) Try.func86 (by kernel_rfl) (by kernel_rfl) (by kernel_rfl) fun ds p h hp => ?_
  unfold QuandleOfS_ct at h
  split at h
  · cases h
    exact ⟨noWr, QuandleOfS_ann _ , by rw [QuandleOfS_vc]; exact QuandleOfS_ok _  hp⟩
  · cases h

def smW (l : List Int) : Nat → Int
  | 0 => 0
  | i + 1 => smW l i + l.getD i 0

def sum_p (l : List Int) : Post := ⟨l.length ≤ 1000 ∧ (∀ i, i < l.length → 0 ≤ l.getD i 0 ∧ l.getD i 0 ≤ 1000), .c (.int .i64 (smW l l.length)), []⟩
def sum_ct : List AD → Option Post
  | [.c (.ints .i64 (l))] => some (sum_p l)
  | _ => none
def sum_ann (l : List Int) : Nat → Option Ann
  | 0 => some (Ann.mk ((Nat)) (fun i => ⟨[(0, .c (.ro (.ints .i64 (l)))), (3, .c (.int .i64 (smW l i))), (4, .c (.int .i64 ((i : Int))))], []⟩) (fun i => i ≤ l.length ∧ 0 ≤ smW l i ∧ smW l i ≤ 1000 * (i : Int)) (fun i => l.length - i) (fun _ => noAnn))
  | _ => none
def sum_G : List (Nat × Ctr) := []
def sum_V (l : List Int) : Prop :=
  ((∃ x0 : Nat, (((x0 ≤ List.length l) ∧
 (((0 : Int) ≤ smW l x0) ∧
 (smW l x0 ≤ (1000 : Int) * (↑x0 : Int)))) ∧
 ((l = l) ∧
 (((0 : Int) = smW l x0) ∧
 ((0 : Int) = (↑x0 : Int)))))) ∧
 (∀ x1 : Nat, (((x1 ≤ List.length l) ∧
 (((0 : Int) ≤ smW l x1) ∧
 (smW l x1 ≤ (1000 : Int) * (↑x1 : Int)))) →
 (BrP (Decidable.decide ((↑x1 : Int) < (↑(List.length l) : Int)))
 ((inB (↑x1 : Int) (List.length l)) ∧
 ((InR (smW l x1 + List.getD l (Int.toNat (↑x1 : Int)) (0 : Int))) ∧
 ((InR ((↑x1 : Int) + (1 : Int))) ∧
 (∃ x2 : Nat, (((x2 ≤ List.length l) ∧
 (((0 : Int) ≤ smW l x2) ∧
 (smW l x2 ≤ (1000 : Int) * (↑x2 : Int)))) ∧
 ((List.length l - x2 < List.length l - x1) ∧
 ((l = l) ∧
 ((smW l x1 + List.getD l (Int.toNat (↑x1 : Int)) (0 : Int) = smW l x2) ∧
 ((↑x1 : Int) + (1 : Int) = (↑x2 : Int))))))))))
 ((smW l x1 = smW l (List.length l)) ∧
 (True))))))
theorem sum_vc (l : List Int) : runF Try.prog (gam sum_G) noWr (sum_ann l) Try.f35 (bodyOf Try.f35) [] [.c (.ints .i64 (l))] (sum_p l) = sum_V l := by kernel_rfl
theorem sum_ok (l : List Int) (hpre : (sum_p l).pre) : sum_V l := by
  simp only [sum_p, sum_V, BrP_iff, true_and, and_true, decide_eq_true_eq, decide_eq_false_iff_not, bne_iff_ne, beq_iff_eq, bne_eq_false_iff_eq, beq_eq_false_iff_ne, Bool.not_eq_true, Bool.not_eq_false, Bool.not_true, Bool.not_false, Bool.not_eq_eq_eq_not, Int.toNat_natCast, List.length_append, List.length_take, List.length_replicate, List.length_set, List.length_map, List.length_drop, List.length_nil, List.length_cons, markL_length, inB, InR, room, bdsOk] at hpre ⊢
  obtain ⟨h1, h2⟩ := hpre
  refine ⟨⟨0, ⟨by omega, by simp [smW], by simp [smW]⟩, rfl, rfl⟩, fun i ⟨hi, s1, s2⟩ => ⟨fun h => ?_, fun h => ?_⟩⟩
  · have v := h2 i (by omega)
    have e : smW l (i + 1) = smW l i + l.getD i 0 := rfl
    exact ⟨by omega, by omega, by omega, i + 1, ⟨by omega, by omega, by omega⟩, by omega, rfl, by omega⟩
  · rw [show i = l.length by omega]
theorem sum_fits : Fits Try.prog 35 ⟨[], sum_ct⟩ := by
  refine fits_fn (Γ := gam sum_G) gok_nil Try.func35 (by kernel_rfl) (by kernel_rfl) (by kernel_rfl) fun ds p h hp => ?_
  unfold sum_ct at h
  split at h
  · cases h
    exact ⟨noWr, sum_ann _ , by rw [sum_vc]; exact sum_ok _  hp⟩
  · cases h

def wY (code : List Int) : Dy := drY code 0 (frH code code.length) 6
theorem wY_ok {code : List Int} (hb : bytesB code) : okY code (wY code) := drY_ok hb (by omega) (by omega) (by omega) (by omega)
def wN (code : List Int) : Nat := (wY code).1.length - (wY code).2.1
def wT (code : List Int) : List (List Int) := yT (wY code)
def wP (code : List Int) : Int × Int × Int := primeD code (wY code).2.2.1 (wY code).2.2.2
def wK (code : List Int) : Int × Int × Int := degD code (wP code).2.1 (wP code).2.2 (wN code : Int) 512
def wC (code : List Int) : List Int := (chainD code (wK code).2.1 (wK code).2.2 (wN code : Int) (wP code).1 (wK code).1).1

def DrawRB_p (code : List Int) : Post := ⟨bytesB code ∧ code.length ≤ 4096, .tup [.inr [.ro (.rows .i64 (wT code))], .inl (.int .i64 ((wP code).1)), .inl (.int .i64 ((wK code).1)), .inl (.ints 2 .i64 (wC code))], []⟩
def DrawRB_ct : List AD → Option Post
  | [.c (.ints .u8 (code))] => some (DrawRB_p code)
  | _ => none
def DrawRB_G : List (Nat × Ctr) := [(58, ⟨[], l01From_ct⟩), (59, ⟨[(0, 0)], l03DrawAny_ct⟩), (77, ⟨[(0, 0)], l15DrawPrime_ct⟩), (78, ⟨[(0, 0)], l15Degree_ct⟩), (79, ⟨[(0, 0)], l15DrawChain_ct⟩)]
def DrawRB_V (code : List Int) : Prop :=
  ((((bytesB code) ∧
 (List.length code ≤ (4096 : Nat))) ∧
 (True)) ∧
 ((((bytesB code) ∧
 ((List.length code ≤ (4096 : Nat)) ∧
 (((0 : Int) ≤ (0 : Int)) ∧
 (((0 : Int) ≤ (↑(List.length code) : Int)) ∧
 (((1 : Int) ≤ (6 : Int)) ∧
 ((6 : Int) ≤ (6 : Int))))))) ∧
 ((code = code) ∧
 (True))) ∧
 ((((bytesB code) ∧
 (((0 : Int) ≤ Prod.fst (Prod.snd (Prod.snd (wY code)))) ∧
 ((Prod.fst (Prod.snd (Prod.snd (wY code))) ≤ (↑(List.length code) : Int)) ∧
 (List.length code ≤ (4096 : Nat))))) ∧
 ((code = code) ∧
 (True))) ∧
 ((((bytesB code) ∧
 (((0 : Int) ≤ Prod.fst (Prod.snd (wP code))) ∧
 ((Prod.fst (Prod.snd (wP code)) ≤ (↑(List.length code) : Int)) ∧
 ((List.length code ≤ (4096 : Nat)) ∧
 (((0 : Int) ≤ (↑(wN code) : Int)) ∧
 ((↑(wN code) : Int) ≤ (12 : Int))))))) ∧
 ((code = code) ∧
 (True))) ∧
 ((((bytesB code) ∧
 (((0 : Int) ≤ Prod.fst (Prod.snd (wK code))) ∧
 ((Prod.fst (Prod.snd (wK code)) ≤ (↑(List.length code) : Int)) ∧
 ((List.length code ≤ (4096 : Nat)) ∧
 (((0 : Int) ≤ (↑(wN code) : Int)) ∧
 ((↑(wN code) : Int) ≤ (12 : Int))))))) ∧
 ((code = code) ∧
 (True))) ∧
 ((((List.take (wN code) (List.drop (Prod.fst (Prod.snd (wY code))) (Prod.fst (wY code))) = wT code) ∧
 (True)) ∧
 ((Prod.fst (wP code) = Prod.fst (wP code)) ∧
 ((Prod.fst (wK code) = Prod.fst (wK code)) ∧
 ((Prod.fst (chainD code (Prod.fst (Prod.snd (wK code))) (Prod.snd (Prod.snd (wK code))) (↑(wN code) : Int) (Prod.fst (wP code)) (Prod.fst (wK code))) = wC code) ∧
 (True))))) ∧
 (True)))))))
theorem DrawRB_vc (code : List Int) : runF Try.prog (gam DrawRB_G) noWr noAnn Try.f28 (bodyOf Try.f28) [] [.c (.ints .u8 (code))] (DrawRB_p code) = DrawRB_V code := by kernel_rfl
theorem DrawRB_ok (code : List Int) (hpre : (DrawRB_p code).pre) : DrawRB_V code := by
  simp only [DrawRB_p, DrawRB_V, BrP_iff, true_and, and_true, decide_eq_true_eq, decide_eq_false_iff_not, bne_iff_ne, beq_iff_eq, bne_eq_false_iff_eq, beq_eq_false_iff_ne, Bool.not_eq_true, Bool.not_eq_false, Bool.not_true, Bool.not_false, Bool.not_eq_eq_eq_not, Int.toNat_natCast, List.length_append, List.length_take, List.length_replicate, List.length_set, List.length_map, List.length_drop, List.length_nil, List.length_cons, markL_length, inB, InR, room, bdsOk] at hpre ⊢
  obtain ⟨hb, hc⟩ := hpre
  have eY : drY code 0 (frH code code.length) 6 = wY code := rfl
  try simp only [eY]
  have eN : (wY code).1.length - (wY code).2.1 = wN code := rfl
  try simp only [eN]
  have eT : List.take (wN code) (List.drop (wY code).2.1 (wY code).1) = wT code := rfl
  try simp only [eT]
  have eP : primeD code (wY code).2.2.1 (wY code).2.2.2 = wP code := rfl
  try simp only [eP]
  have eK : degD code (wP code).2.1 (wP code).2.2 (wN code : Int) 512 = wK code := rfl
  try simp only [eK]
  have eC : (chainD code (wK code).2.1 (wK code).2.2 (wN code : Int) (wP code).1 (wK code).1).1 = wC code := rfl
  simp only [eC]
  obtain ⟨k1, k2, k3, k4, k5, k6⟩ := wY_ok hb
  have n : wN code ≤ 6 := by unfold wN; omega
  have P := primeD_in (h := (wY code).2.2.2) k5 k6
  rw [eP] at P
  have D := (degD_in hb (h := (wP code).2.2) (n := (wN code : Int)) (most := 512) P.1 P.2).2
  rw [eK] at D
  exact ⟨⟨hb, hc⟩, ⟨hb, hc, by omega, by omega, by omega, by omega⟩, ⟨hb, k5, k6, hc⟩, ⟨hb, P.1, P.2, hc, by omega, by omega⟩, ⟨hb, D.1, D.2, hc, by omega, by omega⟩, trivial, trivial⟩
theorem DrawRB_fits : Fits Try.prog 28 ⟨[], DrawRB_ct⟩ := by
  refine fits_fn (Γ := gam DrawRB_G) (gok_cons l01From_fits (gok_cons l03DrawAny_fits (gok_cons l15DrawPrime_fits (gok_cons l15Degree_fits (gok_cons l15DrawChain_fits gok_nil))))) Try.func28 (by kernel_rfl) (by kernel_rfl) (by kernel_rfl) fun ds p h hp => ?_
  unfold DrawRB_ct at h
  split at h
  · cases h
    exact ⟨noWr, noAnn, by rw [DrawRB_vc]; exact DrawRB_ok _  hp⟩
  · cases h

def vA (code : List Int) : Int × Int := if rackB (wT code) = true then (nxA code.length (wY code).2.2.1 4, nxH (wY code).2.2.2 4) else ((wY code).2.2.1, (wY code).2.2.2)
def vT (code : List Int) : List (List Int) := if rackB (wT code) = true then (if 0 < nxV code (wY code).2.2.1 (wY code).2.2.2 4 then qoF (wT code) else wT code) else wT code
def vP (code : List Int) : Int × Int × Int := primeD code (vA code).1 (vA code).2
def vK (code : List Int) : Int × Int × Int := degD code (vP code).2.1 (vP code).2.2 ((vT code).length : Int) 512
def vC (code : List Int) : List Int := (chainD code (vK code).2.1 (vK code).2.2 ((vT code).length : Int) (vP code).1 (vK code).1).1

def DrawQB_p (code : List Int) : Post := ⟨bytesB code ∧ code.length ≤ 4096, .tup [.inr [.ro (.rows .i64 (vT code))], .inl (.int .i64 ((vP code).1)), .inl (.int .i64 ((vK code).1)), .inl (.ints 2 .i64 (vC code))], []⟩
def DrawQB_ct : List AD → Option Post
  | [.c (.ints .u8 (code))] => some (DrawQB_p code)
  | _ => none
def DrawQB_G : List (Nat × Ctr) := [(58, ⟨[], l01From_ct⟩), (59, ⟨[(0, 0)], l03DrawAny_ct⟩), (41, ⟨[], l03Is_ct⟩), (85, ⟨[(0, 0)], l01Next_ct⟩), (86, ⟨[], QuandleOfS_ct⟩), (77, ⟨[(0, 0)], l15DrawPrime_ct⟩), (78, ⟨[(0, 0)], l15Degree_ct⟩), (79, ⟨[(0, 0)], l15DrawChain_ct⟩)]
def DrawQB_V (code : List Int) : Prop :=
  ((((bytesB code) ∧
 (List.length code ≤ (4096 : Nat))) ∧
 (True)) ∧
 ((((bytesB code) ∧
 ((List.length code ≤ (4096 : Nat)) ∧
 (((0 : Int) ≤ (0 : Int)) ∧
 (((0 : Int) ≤ (↑(List.length code) : Int)) ∧
 (((1 : Int) ≤ (6 : Int)) ∧
 ((6 : Int) ≤ (6 : Int))))))) ∧
 ((code = code) ∧
 (True))) ∧
 (((roomR (wT code)) ∧
 (True)) ∧
 (BrP (rackB (wT code))
 ((((bytesB code) ∧
 (((0 : Int) ≤ Prod.fst (Prod.snd (Prod.snd (wY code)))) ∧
 (Prod.fst (Prod.snd (Prod.snd (wY code))) ≤ (1099511627776 : Int)))) ∧
 ((code = code) ∧
 (True))) ∧
 (BrP (Decidable.decide ((0 : Int) < nxV code (Prod.fst (Prod.snd (Prod.snd (wY code)))) (Prod.snd (Prod.snd (Prod.snd (wY code)))) (4 : Int)))
 (((roomR (wT code)) ∧
 (True)) ∧
 ((((bytesB code) ∧
 (((0 : Int) ≤ nxA (List.length code) (Prod.fst (Prod.snd (Prod.snd (wY code)))) (4 : Int)) ∧
 ((nxA (List.length code) (Prod.fst (Prod.snd (Prod.snd (wY code)))) (4 : Int) ≤ (↑(List.length code) : Int)) ∧
 (List.length code ≤ (4096 : Nat))))) ∧
 ((code = code) ∧
 (True))) ∧
 ((((bytesB code) ∧
 (((0 : Int) ≤ Prod.fst (Prod.snd (primeD code (nxA (List.length code) (Prod.fst (Prod.snd (Prod.snd (wY code)))) (4 : Int)) (nxH (Prod.snd (Prod.snd (Prod.snd (wY code)))) (4 : Int))))) ∧
 ((Prod.fst (Prod.snd (primeD code (nxA (List.length code) (Prod.fst (Prod.snd (Prod.snd (wY code)))) (4 : Int)) (nxH (Prod.snd (Prod.snd (Prod.snd (wY code)))) (4 : Int)))) ≤ (↑(List.length code) : Int)) ∧
 ((List.length code ≤ (4096 : Nat)) ∧
 (((0 : Int) ≤ (↑(List.length (Prod.fst (qoC (wT code)))) : Int)) ∧
 ((↑(List.length (Prod.fst (qoC (wT code)))) : Int) ≤ (12 : Int))))))) ∧
 ((code = code) ∧
 (True))) ∧
 ((((bytesB code) ∧
 (((0 : Int) ≤ Prod.fst (Prod.snd (degD code (Prod.fst (Prod.snd (primeD code (nxA (List.length code) (Prod.fst (Prod.snd (Prod.snd (wY code)))) (4 : Int)) (nxH (Prod.snd (Prod.snd (Prod.snd (wY code)))) (4 : Int))))) (Prod.snd (Prod.snd (primeD code (nxA (List.length code) (Prod.fst (Prod.snd (Prod.snd (wY code)))) (4 : Int)) (nxH (Prod.snd (Prod.snd (Prod.snd (wY code)))) (4 : Int))))) (↑(List.length (Prod.fst (qoC (wT code)))) : Int) (512 : Int)))) ∧
 ((Prod.fst (Prod.snd (degD code (Prod.fst (Prod.snd (primeD code (nxA (List.length code) (Prod.fst (Prod.snd (Prod.snd (wY code)))) (4 : Int)) (nxH (Prod.snd (Prod.snd (Prod.snd (wY code)))) (4 : Int))))) (Prod.snd (Prod.snd (primeD code (nxA (List.length code) (Prod.fst (Prod.snd (Prod.snd (wY code)))) (4 : Int)) (nxH (Prod.snd (Prod.snd (Prod.snd (wY code)))) (4 : Int))))) (↑(List.length (Prod.fst (qoC (wT code)))) : Int) (512 : Int))) ≤ (↑(List.length code) : Int)) ∧
 ((List.length code ≤ (4096 : Nat)) ∧
 (((0 : Int) ≤ (↑(List.length (Prod.fst (qoC (wT code)))) : Int)) ∧
 ((↑(List.length (Prod.fst (qoC (wT code)))) : Int) ≤ (12 : Int))))))) ∧
 ((code = code) ∧
 (True))) ∧
 ((((Prod.fst (qoC (wT code)) = vT code) ∧
 (True)) ∧
 ((Prod.fst (primeD code (nxA (List.length code) (Prod.fst (Prod.snd (Prod.snd (wY code)))) (4 : Int)) (nxH (Prod.snd (Prod.snd (Prod.snd (wY code)))) (4 : Int))) = Prod.fst (vP code)) ∧
 ((Prod.fst (degD code (Prod.fst (Prod.snd (primeD code (nxA (List.length code) (Prod.fst (Prod.snd (Prod.snd (wY code)))) (4 : Int)) (nxH (Prod.snd (Prod.snd (Prod.snd (wY code)))) (4 : Int))))) (Prod.snd (Prod.snd (primeD code (nxA (List.length code) (Prod.fst (Prod.snd (Prod.snd (wY code)))) (4 : Int)) (nxH (Prod.snd (Prod.snd (Prod.snd (wY code)))) (4 : Int))))) (↑(List.length (Prod.fst (qoC (wT code)))) : Int) (512 : Int)) = Prod.fst (vK code)) ∧
 ((Prod.fst (chainD code (Prod.fst (Prod.snd (degD code (Prod.fst (Prod.snd (primeD code (nxA (List.length code) (Prod.fst (Prod.snd (Prod.snd (wY code)))) (4 : Int)) (nxH (Prod.snd (Prod.snd (Prod.snd (wY code)))) (4 : Int))))) (Prod.snd (Prod.snd (primeD code (nxA (List.length code) (Prod.fst (Prod.snd (Prod.snd (wY code)))) (4 : Int)) (nxH (Prod.snd (Prod.snd (Prod.snd (wY code)))) (4 : Int))))) (↑(List.length (Prod.fst (qoC (wT code)))) : Int) (512 : Int)))) (Prod.snd (Prod.snd (degD code (Prod.fst (Prod.snd (primeD code (nxA (List.length code) (Prod.fst (Prod.snd (Prod.snd (wY code)))) (4 : Int)) (nxH (Prod.snd (Prod.snd (Prod.snd (wY code)))) (4 : Int))))) (Prod.snd (Prod.snd (primeD code (nxA (List.length code) (Prod.fst (Prod.snd (Prod.snd (wY code)))) (4 : Int)) (nxH (Prod.snd (Prod.snd (Prod.snd (wY code)))) (4 : Int))))) (↑(List.length (Prod.fst (qoC (wT code)))) : Int) (512 : Int)))) (↑(List.length (Prod.fst (qoC (wT code)))) : Int) (Prod.fst (primeD code (nxA (List.length code) (Prod.fst (Prod.snd (Prod.snd (wY code)))) (4 : Int)) (nxH (Prod.snd (Prod.snd (Prod.snd (wY code)))) (4 : Int)))) (Prod.fst (degD code (Prod.fst (Prod.snd (primeD code (nxA (List.length code) (Prod.fst (Prod.snd (Prod.snd (wY code)))) (4 : Int)) (nxH (Prod.snd (Prod.snd (Prod.snd (wY code)))) (4 : Int))))) (Prod.snd (Prod.snd (primeD code (nxA (List.length code) (Prod.fst (Prod.snd (Prod.snd (wY code)))) (4 : Int)) (nxH (Prod.snd (Prod.snd (Prod.snd (wY code)))) (4 : Int))))) (↑(List.length (Prod.fst (qoC (wT code)))) : Int) (512 : Int)))) = vC code) ∧
 (True))))) ∧
 (True))))))
 ((((bytesB code) ∧
 (((0 : Int) ≤ nxA (List.length code) (Prod.fst (Prod.snd (Prod.snd (wY code)))) (4 : Int)) ∧
 ((nxA (List.length code) (Prod.fst (Prod.snd (Prod.snd (wY code)))) (4 : Int) ≤ (↑(List.length code) : Int)) ∧
 (List.length code ≤ (4096 : Nat))))) ∧
 ((code = code) ∧
 (True))) ∧
 ((((bytesB code) ∧
 (((0 : Int) ≤ Prod.fst (Prod.snd (primeD code (nxA (List.length code) (Prod.fst (Prod.snd (Prod.snd (wY code)))) (4 : Int)) (nxH (Prod.snd (Prod.snd (Prod.snd (wY code)))) (4 : Int))))) ∧
 ((Prod.fst (Prod.snd (primeD code (nxA (List.length code) (Prod.fst (Prod.snd (Prod.snd (wY code)))) (4 : Int)) (nxH (Prod.snd (Prod.snd (Prod.snd (wY code)))) (4 : Int)))) ≤ (↑(List.length code) : Int)) ∧
 ((List.length code ≤ (4096 : Nat)) ∧
 (((0 : Int) ≤ (↑(wN code) : Int)) ∧
 ((↑(wN code) : Int) ≤ (12 : Int))))))) ∧
 ((code = code) ∧
 (True))) ∧
 ((((bytesB code) ∧
 (((0 : Int) ≤ Prod.fst (Prod.snd (degD code (Prod.fst (Prod.snd (primeD code (nxA (List.length code) (Prod.fst (Prod.snd (Prod.snd (wY code)))) (4 : Int)) (nxH (Prod.snd (Prod.snd (Prod.snd (wY code)))) (4 : Int))))) (Prod.snd (Prod.snd (primeD code (nxA (List.length code) (Prod.fst (Prod.snd (Prod.snd (wY code)))) (4 : Int)) (nxH (Prod.snd (Prod.snd (Prod.snd (wY code)))) (4 : Int))))) (↑(wN code) : Int) (512 : Int)))) ∧
 ((Prod.fst (Prod.snd (degD code (Prod.fst (Prod.snd (primeD code (nxA (List.length code) (Prod.fst (Prod.snd (Prod.snd (wY code)))) (4 : Int)) (nxH (Prod.snd (Prod.snd (Prod.snd (wY code)))) (4 : Int))))) (Prod.snd (Prod.snd (primeD code (nxA (List.length code) (Prod.fst (Prod.snd (Prod.snd (wY code)))) (4 : Int)) (nxH (Prod.snd (Prod.snd (Prod.snd (wY code)))) (4 : Int))))) (↑(wN code) : Int) (512 : Int))) ≤ (↑(List.length code) : Int)) ∧
 ((List.length code ≤ (4096 : Nat)) ∧
 (((0 : Int) ≤ (↑(wN code) : Int)) ∧
 ((↑(wN code) : Int) ≤ (12 : Int))))))) ∧
 ((code = code) ∧
 (True))) ∧
 ((((List.take (wN code) (List.drop (Prod.fst (Prod.snd (wY code))) (Prod.fst (wY code))) = vT code) ∧
 (True)) ∧
 ((Prod.fst (primeD code (nxA (List.length code) (Prod.fst (Prod.snd (Prod.snd (wY code)))) (4 : Int)) (nxH (Prod.snd (Prod.snd (Prod.snd (wY code)))) (4 : Int))) = Prod.fst (vP code)) ∧
 ((Prod.fst (degD code (Prod.fst (Prod.snd (primeD code (nxA (List.length code) (Prod.fst (Prod.snd (Prod.snd (wY code)))) (4 : Int)) (nxH (Prod.snd (Prod.snd (Prod.snd (wY code)))) (4 : Int))))) (Prod.snd (Prod.snd (primeD code (nxA (List.length code) (Prod.fst (Prod.snd (Prod.snd (wY code)))) (4 : Int)) (nxH (Prod.snd (Prod.snd (Prod.snd (wY code)))) (4 : Int))))) (↑(wN code) : Int) (512 : Int)) = Prod.fst (vK code)) ∧
 ((Prod.fst (chainD code (Prod.fst (Prod.snd (degD code (Prod.fst (Prod.snd (primeD code (nxA (List.length code) (Prod.fst (Prod.snd (Prod.snd (wY code)))) (4 : Int)) (nxH (Prod.snd (Prod.snd (Prod.snd (wY code)))) (4 : Int))))) (Prod.snd (Prod.snd (primeD code (nxA (List.length code) (Prod.fst (Prod.snd (Prod.snd (wY code)))) (4 : Int)) (nxH (Prod.snd (Prod.snd (Prod.snd (wY code)))) (4 : Int))))) (↑(wN code) : Int) (512 : Int)))) (Prod.snd (Prod.snd (degD code (Prod.fst (Prod.snd (primeD code (nxA (List.length code) (Prod.fst (Prod.snd (Prod.snd (wY code)))) (4 : Int)) (nxH (Prod.snd (Prod.snd (Prod.snd (wY code)))) (4 : Int))))) (Prod.snd (Prod.snd (primeD code (nxA (List.length code) (Prod.fst (Prod.snd (Prod.snd (wY code)))) (4 : Int)) (nxH (Prod.snd (Prod.snd (Prod.snd (wY code)))) (4 : Int))))) (↑(wN code) : Int) (512 : Int)))) (↑(wN code) : Int) (Prod.fst (primeD code (nxA (List.length code) (Prod.fst (Prod.snd (Prod.snd (wY code)))) (4 : Int)) (nxH (Prod.snd (Prod.snd (Prod.snd (wY code)))) (4 : Int)))) (Prod.fst (degD code (Prod.fst (Prod.snd (primeD code (nxA (List.length code) (Prod.fst (Prod.snd (Prod.snd (wY code)))) (4 : Int)) (nxH (Prod.snd (Prod.snd (Prod.snd (wY code)))) (4 : Int))))) (Prod.snd (Prod.snd (primeD code (nxA (List.length code) (Prod.fst (Prod.snd (Prod.snd (wY code)))) (4 : Int)) (nxH (Prod.snd (Prod.snd (Prod.snd (wY code)))) (4 : Int))))) (↑(wN code) : Int) (512 : Int)))) = vC code) ∧
 (True))))) ∧
 (True)))))))
 ((((bytesB code) ∧
 (((0 : Int) ≤ Prod.fst (Prod.snd (Prod.snd (wY code)))) ∧
 ((Prod.fst (Prod.snd (Prod.snd (wY code))) ≤ (↑(List.length code) : Int)) ∧
 (List.length code ≤ (4096 : Nat))))) ∧
 ((code = code) ∧
 (True))) ∧
 ((((bytesB code) ∧
 (((0 : Int) ≤ Prod.fst (Prod.snd (primeD code (Prod.fst (Prod.snd (Prod.snd (wY code)))) (Prod.snd (Prod.snd (Prod.snd (wY code))))))) ∧
 ((Prod.fst (Prod.snd (primeD code (Prod.fst (Prod.snd (Prod.snd (wY code)))) (Prod.snd (Prod.snd (Prod.snd (wY code)))))) ≤ (↑(List.length code) : Int)) ∧
 ((List.length code ≤ (4096 : Nat)) ∧
 (((0 : Int) ≤ (↑(wN code) : Int)) ∧
 ((↑(wN code) : Int) ≤ (12 : Int))))))) ∧
 ((code = code) ∧
 (True))) ∧
 ((((bytesB code) ∧
 (((0 : Int) ≤ Prod.fst (Prod.snd (degD code (Prod.fst (Prod.snd (primeD code (Prod.fst (Prod.snd (Prod.snd (wY code)))) (Prod.snd (Prod.snd (Prod.snd (wY code))))))) (Prod.snd (Prod.snd (primeD code (Prod.fst (Prod.snd (Prod.snd (wY code)))) (Prod.snd (Prod.snd (Prod.snd (wY code))))))) (↑(wN code) : Int) (512 : Int)))) ∧
 ((Prod.fst (Prod.snd (degD code (Prod.fst (Prod.snd (primeD code (Prod.fst (Prod.snd (Prod.snd (wY code)))) (Prod.snd (Prod.snd (Prod.snd (wY code))))))) (Prod.snd (Prod.snd (primeD code (Prod.fst (Prod.snd (Prod.snd (wY code)))) (Prod.snd (Prod.snd (Prod.snd (wY code))))))) (↑(wN code) : Int) (512 : Int))) ≤ (↑(List.length code) : Int)) ∧
 ((List.length code ≤ (4096 : Nat)) ∧
 (((0 : Int) ≤ (↑(wN code) : Int)) ∧
 ((↑(wN code) : Int) ≤ (12 : Int))))))) ∧
 ((code = code) ∧
 (True))) ∧
 ((((List.take (wN code) (List.drop (Prod.fst (Prod.snd (wY code))) (Prod.fst (wY code))) = vT code) ∧
 (True)) ∧
 ((Prod.fst (primeD code (Prod.fst (Prod.snd (Prod.snd (wY code)))) (Prod.snd (Prod.snd (Prod.snd (wY code))))) = Prod.fst (vP code)) ∧
 ((Prod.fst (degD code (Prod.fst (Prod.snd (primeD code (Prod.fst (Prod.snd (Prod.snd (wY code)))) (Prod.snd (Prod.snd (Prod.snd (wY code))))))) (Prod.snd (Prod.snd (primeD code (Prod.fst (Prod.snd (Prod.snd (wY code)))) (Prod.snd (Prod.snd (Prod.snd (wY code))))))) (↑(wN code) : Int) (512 : Int)) = Prod.fst (vK code)) ∧
 ((Prod.fst (chainD code (Prod.fst (Prod.snd (degD code (Prod.fst (Prod.snd (primeD code (Prod.fst (Prod.snd (Prod.snd (wY code)))) (Prod.snd (Prod.snd (Prod.snd (wY code))))))) (Prod.snd (Prod.snd (primeD code (Prod.fst (Prod.snd (Prod.snd (wY code)))) (Prod.snd (Prod.snd (Prod.snd (wY code))))))) (↑(wN code) : Int) (512 : Int)))) (Prod.snd (Prod.snd (degD code (Prod.fst (Prod.snd (primeD code (Prod.fst (Prod.snd (Prod.snd (wY code)))) (Prod.snd (Prod.snd (Prod.snd (wY code))))))) (Prod.snd (Prod.snd (primeD code (Prod.fst (Prod.snd (Prod.snd (wY code)))) (Prod.snd (Prod.snd (Prod.snd (wY code))))))) (↑(wN code) : Int) (512 : Int)))) (↑(wN code) : Int) (Prod.fst (primeD code (Prod.fst (Prod.snd (Prod.snd (wY code)))) (Prod.snd (Prod.snd (Prod.snd (wY code)))))) (Prod.fst (degD code (Prod.fst (Prod.snd (primeD code (Prod.fst (Prod.snd (Prod.snd (wY code)))) (Prod.snd (Prod.snd (Prod.snd (wY code))))))) (Prod.snd (Prod.snd (primeD code (Prod.fst (Prod.snd (Prod.snd (wY code)))) (Prod.snd (Prod.snd (Prod.snd (wY code))))))) (↑(wN code) : Int) (512 : Int)))) = vC code) ∧
 (True))))) ∧
 (True)))))))))
theorem DrawQB_vc (code : List Int) : runF Try.prog (gam DrawQB_G) noWr noAnn Try.f36 (bodyOf Try.f36) [] [.c (.ints .u8 (code))] (DrawQB_p code) = DrawQB_V code := by kernel_rfl
theorem DrawQB_ok (code : List Int) (hpre : (DrawQB_p code).pre) : DrawQB_V code := by
  simp only [DrawQB_p, DrawQB_V, BrP_iff, true_and, and_true, decide_eq_true_eq, decide_eq_false_iff_not, bne_iff_ne, beq_iff_eq, bne_eq_false_iff_eq, beq_eq_false_iff_ne, Bool.not_eq_true, Bool.not_eq_false, Bool.not_true, Bool.not_false, Bool.not_eq_eq_eq_not, Int.toNat_natCast, List.length_append, List.length_take, List.length_replicate, List.length_set, List.length_map, List.length_drop, List.length_nil, List.length_cons, markL_length, inB, InR, room, bdsOk] at hpre ⊢
  obtain ⟨hb, hc⟩ := hpre
  have eY : drY code 0 (frH code code.length) 6 = wY code := rfl
  try simp only [eY]
  have eN : (wY code).1.length - (wY code).2.1 = wN code := rfl
  try simp only [eN]
  have eT : List.take (wN code) (List.drop (wY code).2.1 (wY code).1) = wT code := rfl
  try simp only [eT]
  have K := wY_ok hb
  have T : roomR (wT code) := yT_room K
  obtain ⟨k1, k2, k3, k4, k5, k6⟩ := K
  have n : wN code ≤ 6 := by unfold wN; omega
  have nT : wN code = (wT code).length := by rw [wT, yT_length]; rfl
  have s := nxA_in (n := 4) k5 k6
  refine ⟨⟨hb, hc⟩, ⟨hb, hc, by omega, by omega, by omega, by omega⟩, T, fun h => ⟨⟨hb, k5, by omega⟩, fun z => ?_, fun z => ?_⟩, fun h => ?_⟩
  · have e1 : vA code = (nxA code.length (wY code).2.2.1 4, nxH (wY code).2.2.2 4) := if_pos h
    have e2 : vT code = qoF (wT code) := (if_pos h).trans (if_pos z)
    have e3 : (qoC (wT code)).1 = qoF (wT code) := by simp [qoC, h]
    have lq : (qoF (wT code)).length = (wT code).length := by simp [qoF]
    have lv : (vT code).length = (wT code).length := by rw [e2, lq]
    simp only [e3, ← e2]
    have eP : primeD code (nxA code.length (wY code).2.2.1 4) (nxH (wY code).2.2.2 4) = vP code := by rw [vP, e1]
    have P := primeD_in (code := code) (a := nxA code.length (wY code).2.2.1 4) (h := nxH (wY code).2.2.2 4) s.1 s.2
    rw [eP] at P
    have D := (degD_in hb (h := (vP code).2.2) (n := ((vT code).length : Int)) (most := 512) P.1 P.2).2
    have eK : degD code (vP code).2.1 (vP code).2.2 ((vT code).length : Int) 512 = vK code := rfl
    rw [eK] at D
    have eC : (chainD code (vK code).2.1 (vK code).2.2 ((vT code).length : Int) (vP code).1 (vK code).1).1 = vC code := rfl
    try simp only [eP, eK, eC]
    exact ⟨T, ⟨hb, s.1, s.2, hc⟩, ⟨hb, P.1, P.2, hc, by omega, by omega⟩, ⟨hb, D.1, D.2, hc, by omega, by omega⟩, trivial, trivial, trivial, trivial⟩
  · have e1 : vA code = (nxA code.length (wY code).2.2.1 4, nxH (wY code).2.2.2 4) := if_pos h
    have e2 : vT code = wT code := (if_pos h).trans (if_neg z)
    have lv : (vT code).length = (wT code).length := by rw [e2]
    simp only [nT, ← e2]
    have eP : primeD code (nxA code.length (wY code).2.2.1 4) (nxH (wY code).2.2.2 4) = vP code := by rw [vP, e1]
    have P := primeD_in (code := code) (a := nxA code.length (wY code).2.2.1 4) (h := nxH (wY code).2.2.2 4) s.1 s.2
    rw [eP] at P
    have D := (degD_in hb (h := (vP code).2.2) (n := ((vT code).length : Int)) (most := 512) P.1 P.2).2
    have eK : degD code (vP code).2.1 (vP code).2.2 ((vT code).length : Int) 512 = vK code := rfl
    rw [eK] at D
    have eC : (chainD code (vK code).2.1 (vK code).2.2 ((vT code).length : Int) (vP code).1 (vK code).1).1 = vC code := rfl
    try simp only [eP, eK, eC]
    exact ⟨⟨hb, s.1, s.2, hc⟩, ⟨hb, P.1, P.2, hc, by omega, by omega⟩, ⟨hb, D.1, D.2, hc, by omega, by omega⟩, trivial, trivial, trivial, trivial⟩
  · have h' : ¬ rackB (wT code) = true := by simp [h]
    have e1 : vA code = ((wY code).2.2.1, (wY code).2.2.2) := if_neg h'
    have e2 : vT code = wT code := if_neg h'
    have lv : (vT code).length = (wT code).length := by rw [e2]
    simp only [nT, ← e2]
    have eP : primeD code (wY code).2.2.1 (wY code).2.2.2 = vP code := by rw [vP, e1]
    have P := primeD_in (code := code) (a := (wY code).2.2.1) (h := (wY code).2.2.2) k5 k6
    rw [eP] at P
    have D := (degD_in hb (h := (vP code).2.2) (n := ((vT code).length : Int)) (most := 512) P.1 P.2).2
    have eK : degD code (vP code).2.1 (vP code).2.2 ((vT code).length : Int) 512 = vK code := rfl
    rw [eK] at D
    have eC : (chainD code (vK code).2.1 (vK code).2.2 ((vT code).length : Int) (vP code).1 (vK code).1).1 = vC code := rfl
    try simp only [eP, eK, eC]
    exact ⟨⟨hb, k5, k6, hc⟩, ⟨hb, P.1, P.2, hc, by omega, by omega⟩, ⟨hb, D.1, D.2, hc, by omega, by omega⟩, trivial, trivial, trivial, trivial⟩
theorem DrawQB_fits : Fits Try.prog 36 ⟨[], DrawQB_ct⟩ := by
  refine fits_fn (Γ := gam DrawQB_G) (gok_cons l01From_fits (gok_cons l03DrawAny_fits (gok_cons l03Is_fits (gok_cons l01Next_fits (gok_cons QuandleOfS_fits (gok_cons l15DrawPrime_fits (gok_cons l15Degree_fits (gok_cons l15DrawChain_fits gok_nil)))))))) Try.func36 (by kernel_rfl) (by kernel_rfl) (by kernel_rfl) fun ds p h hp => ?_
  unfold DrawQB_ct at h
  split at h
  · cases h
    exact ⟨noWr, noAnn, by rw [DrawQB_vc]; exact DrawQB_ok _  hp⟩
  · cases h

/-- The chains of the first part: another one, a number, both mixed. -/
def oL (code : List Int) (p : Int) (n : Nat) : List Int × Int × Int := lsS code p n ([], 0, rlH code 820 code.length)
def oA (code : List Int) (p : Int) (n : Nat) : Int := nxV code (oL code p n).2.1 (oL code p n).2.2 p
def mxL (p a : Int) (c o : List Int) : List Int := tab c.length fun i => (a * c.getD i 0 + o.getD i 0).tmod p

/-- Are two neighbours among the first h equal? -/
def flP (x : List Int) (h : Nat) : Bool := (List.range (h - 1)).any fun m => decide (x.getD (m + 1) 0 = x.getD m 0)

def wB (code : List Int) : List Int × Int := rbC (wT code) (wP code).1 (wK code).1 (wC code)
def vQ (code : List Int) : List Int × Int := qbC (vT code) (vP code).1 (vK code).1 (vC code)

theorem rL_in {code : List Int} (hb : bytesB code) {m : Int} (hm : 1 ≤ m) : ∀ (j : Nat) (s : List Int × Int × Int), (∀ x ∈ s.1, 0 ≤ x ∧ x ≤ m - 1) → ∀ x ∈ (lsS code m j s).1, 0 ≤ x ∧ x ≤ m - 1
  | 0, s, h => h
  | j + 1, s, h => by
    have v := nxV_in hb s.2.1 s.2.2 hm
    refine rL_in hb hm j (s.1 ++ [nxV code s.2.1 s.2.2 m], nxA code.length s.2.1 m, nxH s.2.2 m) fun x hx => ?_
    rcases List.mem_append.1 hx with hx | hx
    · exact h x hx
    · rw [List.mem_singleton.1 hx]; exact v

theorem rL_len {code : List Int} {m : Int} : ∀ (j : Nat) (s : List Int × Int × Int), 0 ≤ s.2.1 → s.2.1 ≤ (code.length : Int) → (lsS code m j s).1.length = s.1.length + j ∧ 0 ≤ (lsS code m j s).2.1 ∧ (lsS code m j s).2.1 ≤ (code.length : Int)
  | 0, s, h0, h1 => ⟨rfl, h0, h1⟩
  | j + 1, s, h0, h1 => by
    have a := nxA_in (n := m) h0 h1
    have := rL_len (code := code) (m := m) j (s.1 ++ [nxV code s.2.1 s.2.2 m], nxA code.length s.2.1 m, nxH s.2.2 m) a.1 a.2
    rw [List.length_append] at this
    refine ⟨?_, this.2⟩
    have e := this.1
    show (lsS code m j _).1.length = _
    rw [e]; show s.1.length + 1 + j = _; omega

/-- A boundary without an error, and the other way round. -/
theorem rb_of {t : List (List Int)} {p k : Int} {c : List Int} (h : (rbC t p k c).2 = 0) : rackB t = true ∧ primeB p = true ∧ degB t.length k = true ∧ rwP p (t.length ^ k.toNat) c ∧ 1 ≤ k ∧ rbC t p k c = (bdF t p k.toNat c c.length, 0) := by
  have hc : chC t p k c = 0 := by
    unfold rbC at h
    split at h
    · assumption
    · exact h
  have hk : k ≠ 0 := fun e => by rw [rbC, if_pos hc, if_pos e] at h; cases h
  obtain ⟨h1, h2, h3, h4, _⟩ := chC_ok hc
  obtain ⟨g1, g2, _⟩ := chB_of h4
  have d := degB_of h3
  exact ⟨h1, h2, h3, ⟨g1, g2⟩, by omega, by rw [rbC, if_pos hc, if_neg hk]⟩

theorem rb_to {t : List (List Int)} {p k : Int} {c : List Int} (h1 : rackB t = true) (h2 : primeB p = true) (h3 : degB t.length k = true) (h4 : rwP p (t.length ^ k.toNat) c) (h5 : 1 ≤ k) : rbC t p k c = (bdF t p k.toNat c c.length, 0) := by
  have b : chB t p k c = true := by
    simp only [chB, Bool.and_eq_true, decide_eq_true_eq]
    exact ⟨by rw [h4.1, Int.natCast_pow], inP_allW h4.2⟩
  have hc : chC t p k c = 0 := by simp [chC, h1, dgB, h2, h3, b]
  rw [rbC, if_pos hc, if_neg (by omega)]

theorem deg_le {n : Nat} {k : Int} (h1 : 1 ≤ n) (h : degB n k = true) (hk : 2 ≤ k) : degB n (k - 1) = true := by
  obtain ⟨a, b, c⟩ := degB_of h
  simp only [degB, Bool.and_eq_true, decide_eq_true_eq]
  refine ⟨by omega, ?_⟩
  have e : k.toNat = (k - 1).toNat + 1 := by omega
  rw [← Int.natCast_pow] at c ⊢
  have m := Nat.pow_le_pow_right h1 (show (k - 1).toNat ≤ k.toNat by omega)
  omega

theorem smW_zero {l : List Int} (h : ∀ i, i < l.length → l.getD i 0 = 0) : ∀ i, i ≤ l.length → smW l i = 0
  | 0, _ => rfl
  | i + 1, hi => by rw [smW, smW_zero h i (by omega), h i (by omega)]; rfl

theorem mx_rw {p a : Int} {c o : List Int} {N : Nat} (hp : 1 ≤ p) (ha : 0 ≤ a) (hc : rwP p N c) (ho : rwP p N o) : rwP p N (mxL p a c o) := by
  refine ⟨by rw [mxL, tab_length]; exact hc.1, fun q hq => ?_⟩
  rw [mxL, tab_length] at hq
  rw [mxL, tab_getD _ _ _ hq]
  have x := hc.2 q hq
  have y := ho.2 q (by rw [ho.1, ← hc.1]; exact hq)
  have m := Int.mul_nonneg ha x.1
  exact tmod_in (by omega) hp

/-- Boundaries are linear. -/
theorem bd_mix {t : List (List Int)} {p a : Int} {K N : Nat} {c o : List Int} (hp : 2 ≤ p) (ha : 0 ≤ a) (hc : rwP p N c) (ho : rwP p N o) {q : Nat} (hq : q < t.length ^ (K - 1)) :
    (a * (bdF t p K c c.length).getD q 0 + (bdF t p K o o.length).getD q 0).tmod p = (bdF t p K (mxL p a c o) (mxL p a c o).length).getD q 0 := by
  have M := mx_rw (by omega) ha hc ho
  obtain ⟨a1, a2⟩ := bd_lin (t := t) hp (K := K) hc.2 c.length (Nat.le_refl _)
  obtain ⟨b1, b2⟩ := bd_lin (t := t) hp (K := K) ho.2 o.length (Nat.le_refl _)
  obtain ⟨m1, m2⟩ := bd_lin (t := t) hp (K := K) M.2 (mxL p a c o).length (Nat.le_refl _)
  have x := a1.2 q (by rw [a1.1]; exact hq)
  have y := b1.2 q (by rw [b1.1]; exact hq)
  have z := m1.2 q (by rw [m1.1]; exact hq)
  have A := a2 q hq
  have B := b2 q hq
  have Z := m2 q hq
  rw [hc.1] at A
  rw [ho.1] at B
  rw [M.1] at Z
  have e : p ∣ sm (fun j => (mxL p a c o).getD j 0 * (btF t p K j).getD q 0) N - (a * sm (fun j => c.getD j 0 * (btF t p K j).getD q 0) N + sm (fun j => o.getD j 0 * (btF t p K j).getD q 0) N) := by
    rw [← sm_mul, ← sm_add]
    refine sm_mod _ _ _ fun j hj => ?_
    have xj := hc.2 j (by rw [hc.1]; exact hj)
    have yj := ho.2 j (by rw [ho.1]; exact hj)
    have mj := Int.mul_nonneg ha xj.1
    rw [mxL, tab_getD _ _ _ (by rw [hc.1]; exact hj), ← Int.mul_assoc, ← Int.add_mul, ← Int.sub_mul]
    refine Int.dvd_mul_of_dvd_left ?_
    rw [Int.tmod_eq_emod_of_nonneg (by omega)]
    have d := Int.emod_add_mul_ediv (a * c.getD j 0 + o.getD j 0) p
    exact ⟨-((a * c.getD j 0 + o.getD j 0) / p), by rw [Int.mul_neg]; omega⟩
  rw [hc.1, ho.1, M.1]
  rw [hc.1] at x
  rw [ho.1] at y
  rw [M.1] at z
  have m := Int.mul_nonneg ha x.1
  have tm := tmod_in (a := a * (bdF t p K c N).getD q 0 + (bdF t p K o N).getD q 0) (m := p) (by omega) (by omega)
  refine mod_eq tm z ?_
  rw [Int.tmod_eq_emod_of_nonneg (by omega)]
  have d := Int.emod_add_mul_ediv (a * (bdF t p K c N).getD q 0 + (bdF t p K o N).getD q 0) p
  have A' : p ∣ a * ((bdF t p K c N).getD q 0 - sm (fun j => c.getD j 0 * (btF t p K j).getD q 0) N) := Int.dvd_mul_of_dvd_right A
  have D : p ∣ p * ((a * (bdF t p K c N).getD q 0 + (bdF t p K o N).getD q 0) / p) := ⟨_, rfl⟩
  have W := Int.dvd_sub (Int.dvd_sub (Int.dvd_sub (Int.dvd_add A' B) Z) e) D
  refine (show ∀ a b : Int, a = b → p ∣ a → p ∣ b from fun a b e h => e ▸ h) _ _ ?_ W
  rw [Int.mul_sub]
  omega

theorem wC_len {code : List Int} (hb : bytesB code) : (wC code).length ≤ 1000 := by
  obtain ⟨k1, k2, k3, k4, k5, k6⟩ := wY_ok hb
  have P : 0 ≤ (wP code).2.1 ∧ (wP code).2.1 ≤ (code.length : Int) := primeD_in (h := (wY code).2.2.2) k5 k6
  have D := (degD_in hb (h := (wP code).2.2) (n := (wN code : Int)) (most := 512) P.1 P.2).2
  have C := chainD_in (code := code) (h := (wK code).2.2) (n := (wN code : Int)) (p := (wP code).1) (k := (wK code).1) (a := (wK code).2.1) D.1 D.2
  unfold wC
  omega

theorem vT_ok {code : List Int} (hb : bytesB code) : roomR (vT code) ∧ (vT code).length ≤ 6 := by
  have K := wY_ok hb
  have T : roomR (wT code) := yT_room K
  have n : (wT code).length ≤ 6 := by have := K.2.1; rw [wT, yT_length]; omega
  unfold vT
  split
  · split
    · refine ⟨⟨by simp [qoF]; omega, fun r hr => ?_⟩, by simp [qoF]; omega⟩
      simp only [qoF, List.mem_map] at hr
      obtain ⟨r0, h0, rfl⟩ := hr
      rw [thL, List.length_map]
      exact T.2 r0 h0
    · exact ⟨T, n⟩
  · exact ⟨T, n⟩

theorem vC_len {code : List Int} (hb : bytesB code) : (vC code).length ≤ 1000 := by
  obtain ⟨k1, k2, k3, k4, k5, k6⟩ := wY_ok hb
  have s := nxA_in (n := 4) k5 k6
  have A : 0 ≤ (vA code).1 ∧ (vA code).1 ≤ (code.length : Int) := by
    unfold vA
    split
    · exact s
    · exact ⟨k5, k6⟩
  have P : 0 ≤ (vP code).2.1 ∧ (vP code).2.1 ≤ (code.length : Int) := primeD_in (h := (vA code).2) A.1 A.2
  have D := (degD_in hb (h := (vP code).2.2) (n := ((vT code).length : Int)) (most := 512) P.1 P.2).2
  have C := chainD_in (code := code) (h := (vK code).2.2) (n := ((vT code).length : Int)) (p := (vP code).1) (k := (vK code).1) (a := (vK code).2.1) D.1 D.2
  unfold vC
  omega

theorem qb_of {t : List (List Int)} {p k : Int} {c : List Int} (h : (qbC t p k c).2 = 0) : (rbC t p k c).2 = 0 ∧ qdB t = true := by
  unfold qbC at h
  split at h
  · rename_i h1
    split at h
    · rename_i h2; exact ⟨h1, h2⟩
    · cases h
  · exact absurd h (by assumption)

theorem qb_to {t : List (List Int)} {p k : Int} {c : List Int} (h1 : rackB t = true) (h2 : primeB p = true) (h3 : degB t.length k = true) (h4 : rwP p (t.length ^ k.toNat) c) (h5 : 1 ≤ k) (hq : qdB t = true) :
    qbC t p k c = (clrN t.length (k - 1) (bdF t p k.toNat c c.length) (bdF t p k.toNat c c.length).length, 0) := by
  have e := rb_to h1 h2 h3 h4 h5
  rw [qbC, e, if_pos rfl, if_pos hq]

theorem clr_rw {p n k : Int} {c : List Int} {N : Nat} (hp : 1 ≤ p) (hc : rwP p N c) (i : Nat) : rwP p N (clrN n k c i) := by
  refine ⟨by rw [clrN_length]; exact hc.1, fun q hq => ?_⟩
  rw [clrN_length] at hq
  have := hc.2 q hq
  rw [clrN, tab_getD _ _ _ hq]
  split <;> omega

/-- The second part ends with 0. -/
theorem qq_zero {t : List (List Int)} {p k : Int} {c : List Int} (h1 : rackB t = true) (h2 : primeB p = true) (h3 : degB t.length k = true) (h4 : rwP p (t.length ^ k.toNat) c) (h5 : 2 ≤ k) (hq : qdB t = true) :
    (qbC t p k c).2 = 0 ∧ (qbC t p k c).1.length ≤ 512 ∧ (qbC t p (k - 1) (qbC t p k c).1).2 = 0 ∧ (qbC t p (k - 1) (qbC t p k c).1).1.length ≤ 512 ∧ ∀ i, i < (qbC t p (k - 1) (qbC t p k c).1).1.length → (qbC t p (k - 1) (qbC t p k c).1).1.getD i 0 = 0 := by
  obtain ⟨p2, p7⟩ := primeB_le h2
  have ht := rackB_tab h1
  have n1 := (tabB_of ht).1
  have hr := h1
  simp only [rackB, Bool.and_eq_true] at hr
  have hq0 := rk_none.1 hr.2
  have hid : ∀ a, a < t.length → en t a a = (a : Int) := fun a ha => by
    have := List.all_eq_true.1 hq a (by simpa using ha)
    simpa using this
  obtain ⟨K, eK⟩ : ∃ K, k.toNat = K + 2 := ⟨k.toNat - 2, by omega⟩
  have d1 := deg_le n1 h3 h5
  obtain ⟨_, _, g1⟩ := degB_of d1
  have eK1 : (k - 1).toNat = K + 1 := by omega
  rw [eK1, ← Int.natCast_pow] at g1
  have pw : t.length ^ K ≤ t.length ^ (K + 1) := Nat.pow_le_pow_right n1 (by omega)
  have e := qb_to h1 h2 h3 h4 (by omega) hq
  rw [eK] at e h4
  have b1 := (bd_lin (t := t) p2 (K := K + 2) h4.2 c.length (Nat.le_refl _)).1
  rw [show K + 2 - 1 = K + 1 by omega] at b1
  have ek : k - 1 = (K : Int) + 1 := by omega
  have F := clr_rw (n := (t.length : Int)) (k := k - 1) (by omega) b1 (bdF t p (K + 2) c c.length).length
  have e2 := qb_to h1 h2 d1 (by rw [eK1]; exact F) (by omega) hq
  rw [eK1] at e2
  have b2 := (bd_lin (t := t) p2 (K := K + 1) F.2 _ (Nat.le_refl _)).1
  rw [show K + 1 - 1 = K by omega] at b2
  rw [e]
  dsimp only
  rw [e2]
  have l1 := F.1
  have l2 := b2.1
  refine ⟨rfl, by omega, rfl, by show (clrN _ _ _ _).length ≤ 512; rw [clrN_length]; omega, fun r hr' => ?_⟩
  dsimp only at hr' ⊢
  rw [clrN_length] at hr'
  rw [clrN, tab_getD _ _ _ hr']
  by_cases f : flB (digN (t.length : Int) (k - 1 - 1).toNat (r : Int)) = true
  · rw [if_pos ⟨hr', f⟩]
  · rw [if_neg (fun x => f x.2)]
    have eK2 : (k - 1 - 1).toNat = K := by omega
    rw [eK2] at f
    rw [ek]
    refine bd_bd_q ht hq0 hid p2 h4 rfl (by omega) (by simpa using f)

theorem flP_step (x : List Int) {h : Nat} (h1 : 1 ≤ h) : flP x (h + 1) = (flP x h || decide (x.getD h 0 = x.getD (h - 1) 0)) := by
  obtain ⟨m, rfl⟩ : ∃ m, h = m + 1 := ⟨h - 1, by omega⟩
  simp only [flP, Nat.add_sub_cancel]
  rw [List.range_succ, List.any_append]
  simp

theorem flP_all (x : List Int) : flP x x.length = flB x := by
  unfold flP flB
  rw [List.not_all_eq_any_not]
  congr 1
  funext m
  simp

def lRch_p (code : List Int) : Post := ⟨bytesB code, .c (.bool (true)), []⟩
def lRch_ct : List AD → Option Post
  | [.c (.ints .u8 (code))] => some (lRch_p code)
  | _ => none
def lRch_ann (code : List Int) : Nat → Option Ann
  | 0 => some (Ann.mk ((Nat)) (fun i => ⟨[(0, .c (.ro (.ints .u8 (code)))), (3, .c (.ptr 3 0)), (4, .c (.int .i64 ((wP code).1))), (5, .c (.int .i64 ((wK code).1))), (6, .c (.ro (.ints .i64 (wC code)))), (7, .c (.ro (.ints .i64 ((wB code).1)))), (12, .c (.ro (.ints .i64 ((oL code (wP code).1 (wC code).length).1)))), (13, .c (.int .i64 (oA code (wP code).1 (wC code).length))), (14, .c (.own (86))), (15, .c (.int .i64 ((i : Int))))], [(3, some (.box [.ro (.rows .i64 (wT code))])), (86, some (.ints 2 .i64 ((mxL (wP code).1 (oA code (wP code).1 (wC code).length) (wC code) (oL code (wP code).1 (wC code).length).1).take i)))]⟩) (fun i => i ≤ (wC code).length ∧ (wB code).2 = 0) (fun i => (wC code).length - i) (fun _ => noAnn))
  | 2 => some (Ann.mk ((Nat)) (fun i => ⟨[(0, .c (.ro (.ints .u8 (code)))), (3, .c (.ptr 3 0)), (4, .c (.int .i64 ((wP code).1))), (5, .c (.int .i64 ((wK code).1))), (7, .c (.ro (.ints .i64 ((wB code).1)))), (13, .c (.int .i64 (oA code (wP code).1 (wC code).length))), (16, .c (.ro (.ints .i64 ((rbC (wT code) (wP code).1 (wK code).1 (oL code (wP code).1 (wC code).length).1).1)))), (18, .c (.ro (.ints .i64 ((rbC (wT code) (wP code).1 (wK code).1 (mxL (wP code).1 (oA code (wP code).1 (wC code).length) (wC code) (oL code (wP code).1 (wC code).length).1)).1)))), (20, .c (.int .i64 ((i : Int))))], [(3, some (.box [.ro (.rows .i64 (wT code))]))]⟩) (fun i => i ≤ (wB code).1.length ∧ (wB code).2 = 0) (fun i => (wB code).1.length - i) (fun _ => noAnn))
  | 4 => some (Ann.mk ((Nat)) (fun i => ⟨[(23, .c (.ptr 23 0)), (24, .c (.int .i64 ((vP code).1))), (25, .c (.int .i64 ((vK code).1))), (31, .c (.own (227))), (32, .c (.int .i64 ((i : Int))))], [(23, some (.box [.ro (.rows .i64 (vT code))])), (227, some (.ints 2 .i64 (clrN ((vT code).length : Int) (vK code).1 (vC code) i)))]⟩) (fun i => i ≤ (vC code).length ∧ (vQ code).2 = 0 ∧ 2 ≤ (vK code).1) (fun i => (vC code).length - i) (fun i => fun b_ => match b_ with | 6 => some (Ann.mk ((Nat)) (fun h => ⟨[(23, .c (.ptr 23 0)), (24, .c (.int .i64 ((vP code).1))), (25, .c (.int .i64 ((vK code).1))), (31, .c (.own (227))), (32, .c (.int .i64 ((i : Int)))), (33, .c (.own (240))), (35, .c (.int .i64 ((h : Int))))], [(23, some (.box [.ro (.rows .i64 (vT code))])), (227, some (.ints 2 .i64 (if flP ((tupC ((vT code).length : Int) (vK code).1 (i : Int)).1) h = true then (clrN ((vT code).length : Int) (vK code).1 (vC code) i).set i 0 else clrN ((vT code).length : Int) (vK code).1 (vC code) i))), (240, some (.ints 2 .i64 ((tupC ((vT code).length : Int) (vK code).1 (i : Int)).1)))]⟩) (fun h => 1 ≤ h ∧ h ≤ ((tupC ((vT code).length : Int) (vK code).1 (i : Int)).1).length ∧ i < (vC code).length) (fun h => ((tupC ((vT code).length : Int) (vK code).1 (i : Int)).1).length - h) (fun _ => noAnn)) | _ => none))
  | _ => none
def lRch_G : List (Nat × Ctr) := [(16, ⟨[], big_ct⟩), (28, ⟨[], DrawRB_ct⟩), (29, ⟨[], iRB_ct⟩), (30, ⟨[], sRB_ct⟩), (31, ⟨[], likeInts_ct⟩), (32, ⟨[], roll_ct⟩), (33, ⟨[(0, 0)], list5_ct⟩), (34, ⟨[(0, 0)], below_ct⟩), (35, ⟨[], sum_ct⟩), (36, ⟨[], DrawQB_ct⟩), (37, ⟨[], iQB_ct⟩), (38, ⟨[], sQB_ct⟩), (39, ⟨[], iTupleAt_ct⟩)]
def lRch_V (code : List Int) : Prop :=
  (((True) ∧
 (True)) ∧
 (BrP (Decidable.decide ((4096 : Int) < (↑(List.length code) : Int)))
 ((Bool.true = Bool.true) ∧
 (True))
 ((((bytesB code) ∧
 (List.length code ≤ (4096 : Nat))) ∧
 (True)) ∧
 ((((roomR (wT code)) ∧
 (List.length (wC code) ≤ (1099511627776 : Nat))) ∧
 (True)) ∧
 ((((roomR (wT code)) ∧
 (List.length (wC code) ≤ (1099511627776 : Nat))) ∧
 (True)) ∧
 (BrP (Prod.snd (rbC (wT code) (Prod.fst (wP code)) (Prod.fst (wK code)) (wC code)) != Prod.snd (rbC (wT code) (Prod.fst (wP code)) (Prod.fst (wK code)) (wC code)))
 ((Bool.false = Bool.true) ∧
 (True))
 (((room (List.length (Prod.fst (rbC (wT code) (Prod.fst (wP code)) (Prod.fst (wK code)) (wC code))))) ∧
 (True)) ∧
 (BrP (!Decidable.decide (Prod.fst (rbC (wT code) (Prod.fst (wP code)) (Prod.fst (wK code)) (wC code)) = Prod.fst (rbC (wT code) (Prod.fst (wP code)) (Prod.fst (wK code)) (wC code))))
 ((Bool.false = Bool.true) ∧
 (True))
 (BrP (Prod.snd (rbC (wT code) (Prod.fst (wP code)) (Prod.fst (wK code)) (wC code)) == (0 : Int))
 ((((bytesB code) ∧
 (List.length code ≤ (4096 : Nat))) ∧
 (True)) ∧
 ((((bytesB code) ∧
 (((0 : Int) ≤ (0 : Int)) ∧
 (((0 : Int) ≤ (↑(List.length code) : Int)) ∧
 ((List.length code ≤ (4096 : Nat)) ∧
 (((↑(List.length (wC code)) : Int) ≤ (1000000 : Int)) ∧
 ((1 : Int) ≤ Prod.fst (wP code))))))) ∧
 ((code = code) ∧
 (True))) ∧
 ((((bytesB code) ∧
 (((0 : Int) ≤ Prod.fst (Prod.snd (lsS code (Prod.fst (wP code)) (Int.toNat (↑(List.length (wC code)) : Int)) ([], (0 : Int), rlH code (820 : Int) (List.length code))))) ∧
 (Prod.fst (Prod.snd (lsS code (Prod.fst (wP code)) (Int.toNat (↑(List.length (wC code)) : Int)) ([], (0 : Int), rlH code (820 : Int) (List.length code)))) ≤ (1099511627776 : Int)))) ∧
 ((code = code) ∧
 (True))) ∧
 ((∃ x0 : Nat, (((x0 ≤ List.length (wC code)) ∧
 (Prod.snd (wB code) = (0 : Int))) ∧
 ((code = code) ∧
 ((Prod.fst (wP code) = Prod.fst (wP code)) ∧
 ((Prod.fst (wK code) = Prod.fst (wK code)) ∧
 ((wC code = wC code) ∧
 ((Prod.fst (rbC (wT code) (Prod.fst (wP code)) (Prod.fst (wK code)) (wC code)) = Prod.fst (wB code)) ∧
 ((Prod.fst (lsS code (Prod.fst (wP code)) (Int.toNat (↑(List.length (wC code)) : Int)) ([], (0 : Int), rlH code (820 : Int) (List.length code))) = Prod.fst (oL code (Prod.fst (wP code)) (List.length (wC code)))) ∧
 ((nxV code (Prod.fst (Prod.snd (lsS code (Prod.fst (wP code)) (Int.toNat (↑(List.length (wC code)) : Int)) ([], (0 : Int), rlH code (820 : Int) (List.length code))))) (Prod.snd (Prod.snd (lsS code (Prod.fst (wP code)) (Int.toNat (↑(List.length (wC code)) : Int)) ([], (0 : Int), rlH code (820 : Int) (List.length code))))) (Prod.fst (wP code)) = oA code (Prod.fst (wP code)) (List.length (wC code))) ∧
 (((0 : Int) = (↑x0 : Int)) ∧
 ((wT code = wT code) ∧
 ([] = List.take x0 (mxL (Prod.fst (wP code)) (oA code (Prod.fst (wP code)) (List.length (wC code))) (wC code) (Prod.fst (oL code (Prod.fst (wP code)) (List.length (wC code))))))))))))))))) ∧
 (∀ x1 : Nat, (((x1 ≤ List.length (wC code)) ∧
 (Prod.snd (wB code) = (0 : Int))) →
 (BrP (Decidable.decide ((↑x1 : Int) < (↑(List.length (wC code)) : Int)))
 ((inB (↑x1 : Int) (List.length (wC code))) ∧
 ((InR (oA code (Prod.fst (wP code)) (List.length (wC code)) * List.getD (wC code) (Int.toNat (↑x1 : Int)) (0 : Int))) ∧
 ((inB (↑x1 : Int) (List.length (Prod.fst (oL code (Prod.fst (wP code)) (List.length (wC code)))))) ∧
 ((InR (oA code (Prod.fst (wP code)) (List.length (wC code)) * List.getD (wC code) (Int.toNat (↑x1 : Int)) (0 : Int) + List.getD (Prod.fst (oL code (Prod.fst (wP code)) (List.length (wC code)))) (Int.toNat (↑x1 : Int)) (0 : Int))) ∧
 ((Prod.fst (wP code) ≠ (0 : Int)) ∧
 ((room (List.length (List.take x1 (mxL (Prod.fst (wP code)) (oA code (Prod.fst (wP code)) (List.length (wC code))) (wC code) (Prod.fst (oL code (Prod.fst (wP code)) (List.length (wC code)))))) + List.length [Int.tmod (oA code (Prod.fst (wP code)) (List.length (wC code)) * List.getD (wC code) (Int.toNat (↑x1 : Int)) (0 : Int) + List.getD (Prod.fst (oL code (Prod.fst (wP code)) (List.length (wC code)))) (Int.toNat (↑x1 : Int)) (0 : Int)) (Prod.fst (wP code))])) ∧
 ((InR ((↑x1 : Int) + (1 : Int))) ∧
 (∃ x2 : Nat, (((x2 ≤ List.length (wC code)) ∧
 (Prod.snd (wB code) = (0 : Int))) ∧
 ((List.length (wC code) - x2 < List.length (wC code) - x1) ∧
 ((code = code) ∧
 ((Prod.fst (wP code) = Prod.fst (wP code)) ∧
 ((Prod.fst (wK code) = Prod.fst (wK code)) ∧
 ((wC code = wC code) ∧
 ((Prod.fst (wB code) = Prod.fst (wB code)) ∧
 ((Prod.fst (oL code (Prod.fst (wP code)) (List.length (wC code))) = Prod.fst (oL code (Prod.fst (wP code)) (List.length (wC code)))) ∧
 ((oA code (Prod.fst (wP code)) (List.length (wC code)) = oA code (Prod.fst (wP code)) (List.length (wC code))) ∧
 (((↑x1 : Int) + (1 : Int) = (↑x2 : Int)) ∧
 ((wT code = wT code) ∧
 (List.take x1 (mxL (Prod.fst (wP code)) (oA code (Prod.fst (wP code)) (List.length (wC code))) (wC code) (Prod.fst (oL code (Prod.fst (wP code)) (List.length (wC code))))) ++ [Int.tmod (oA code (Prod.fst (wP code)) (List.length (wC code)) * List.getD (wC code) (Int.toNat (↑x1 : Int)) (0 : Int) + List.getD (Prod.fst (oL code (Prod.fst (wP code)) (List.length (wC code)))) (Int.toNat (↑x1 : Int)) (0 : Int)) (Prod.fst (wP code))] = List.take x2 (mxL (Prod.fst (wP code)) (oA code (Prod.fst (wP code)) (List.length (wC code))) (wC code) (Prod.fst (oL code (Prod.fst (wP code)) (List.length (wC code)))))))))))))))))))))))))
 ((((roomR (wT code)) ∧
 (List.length (Prod.fst (oL code (Prod.fst (wP code)) (List.length (wC code)))) ≤ (1099511627776 : Nat))) ∧
 (True)) ∧
 ((((roomR (wT code)) ∧
 (List.length (List.take x1 (mxL (Prod.fst (wP code)) (oA code (Prod.fst (wP code)) (List.length (wC code))) (wC code) (Prod.fst (oL code (Prod.fst (wP code)) (List.length (wC code)))))) ≤ (1099511627776 : Nat))) ∧
 (True)) ∧
 (BrP (Prod.snd (rbC (wT code) (Prod.fst (wP code)) (Prod.fst (wK code)) (Prod.fst (oL code (Prod.fst (wP code)) (List.length (wC code))))) != (0 : Int))
 ((Bool.false = Bool.true) ∧
 (True))
 (BrP (Prod.snd (rbC (wT code) (Prod.fst (wP code)) (Prod.fst (wK code)) (List.take x1 (mxL (Prod.fst (wP code)) (oA code (Prod.fst (wP code)) (List.length (wC code))) (wC code) (Prod.fst (oL code (Prod.fst (wP code)) (List.length (wC code))))))) != (0 : Int))
 ((Bool.false = Bool.true) ∧
 (True))
 (BrP ((↑(List.length (Prod.fst (rbC (wT code) (Prod.fst (wP code)) (Prod.fst (wK code)) (Prod.fst (oL code (Prod.fst (wP code)) (List.length (wC code))))))) : Int) != (↑(List.length (Prod.fst (wB code))) : Int))
 ((Bool.false = Bool.true) ∧
 (True))
 (BrP ((↑(List.length (Prod.fst (rbC (wT code) (Prod.fst (wP code)) (Prod.fst (wK code)) (List.take x1 (mxL (Prod.fst (wP code)) (oA code (Prod.fst (wP code)) (List.length (wC code))) (wC code) (Prod.fst (oL code (Prod.fst (wP code)) (List.length (wC code))))))))) : Int) != (↑(List.length (Prod.fst (wB code))) : Int))
 ((Bool.false = Bool.true) ∧
 (True))
 ((∃ x3 : Nat, (((x3 ≤ List.length (Prod.fst (wB code))) ∧
 (Prod.snd (wB code) = (0 : Int))) ∧
 ((code = code) ∧
 ((Prod.fst (wP code) = Prod.fst (wP code)) ∧
 ((Prod.fst (wK code) = Prod.fst (wK code)) ∧
 ((Prod.fst (wB code) = Prod.fst (wB code)) ∧
 ((oA code (Prod.fst (wP code)) (List.length (wC code)) = oA code (Prod.fst (wP code)) (List.length (wC code))) ∧
 ((Prod.fst (rbC (wT code) (Prod.fst (wP code)) (Prod.fst (wK code)) (Prod.fst (oL code (Prod.fst (wP code)) (List.length (wC code))))) = Prod.fst (rbC (wT code) (Prod.fst (wP code)) (Prod.fst (wK code)) (Prod.fst (oL code (Prod.fst (wP code)) (List.length (wC code)))))) ∧
 ((Prod.fst (rbC (wT code) (Prod.fst (wP code)) (Prod.fst (wK code)) (List.take x1 (mxL (Prod.fst (wP code)) (oA code (Prod.fst (wP code)) (List.length (wC code))) (wC code) (Prod.fst (oL code (Prod.fst (wP code)) (List.length (wC code))))))) = Prod.fst (rbC (wT code) (Prod.fst (wP code)) (Prod.fst (wK code)) (mxL (Prod.fst (wP code)) (oA code (Prod.fst (wP code)) (List.length (wC code))) (wC code) (Prod.fst (oL code (Prod.fst (wP code)) (List.length (wC code))))))) ∧
 (((0 : Int) = (↑x3 : Int)) ∧
 (wT code = wT code))))))))))) ∧
 (∀ x4 : Nat, (((x4 ≤ List.length (Prod.fst (wB code))) ∧
 (Prod.snd (wB code) = (0 : Int))) →
 (BrP (Decidable.decide ((↑x4 : Int) < (↑(List.length (Prod.fst (wB code))) : Int)))
 ((inB (↑x4 : Int) (List.length (Prod.fst (wB code)))) ∧
 ((InR (oA code (Prod.fst (wP code)) (List.length (wC code)) * List.getD (Prod.fst (wB code)) (Int.toNat (↑x4 : Int)) (0 : Int))) ∧
 ((inB (↑x4 : Int) (List.length (Prod.fst (rbC (wT code) (Prod.fst (wP code)) (Prod.fst (wK code)) (Prod.fst (oL code (Prod.fst (wP code)) (List.length (wC code)))))))) ∧
 ((InR (oA code (Prod.fst (wP code)) (List.length (wC code)) * List.getD (Prod.fst (wB code)) (Int.toNat (↑x4 : Int)) (0 : Int) + List.getD (Prod.fst (rbC (wT code) (Prod.fst (wP code)) (Prod.fst (wK code)) (Prod.fst (oL code (Prod.fst (wP code)) (List.length (wC code)))))) (Int.toNat (↑x4 : Int)) (0 : Int))) ∧
 ((Prod.fst (wP code) ≠ (0 : Int)) ∧
 ((inB (↑x4 : Int) (List.length (Prod.fst (rbC (wT code) (Prod.fst (wP code)) (Prod.fst (wK code)) (mxL (Prod.fst (wP code)) (oA code (Prod.fst (wP code)) (List.length (wC code))) (wC code) (Prod.fst (oL code (Prod.fst (wP code)) (List.length (wC code))))))))) ∧
 (BrP (Int.tmod (oA code (Prod.fst (wP code)) (List.length (wC code)) * List.getD (Prod.fst (wB code)) (Int.toNat (↑x4 : Int)) (0 : Int) + List.getD (Prod.fst (rbC (wT code) (Prod.fst (wP code)) (Prod.fst (wK code)) (Prod.fst (oL code (Prod.fst (wP code)) (List.length (wC code)))))) (Int.toNat (↑x4 : Int)) (0 : Int)) (Prod.fst (wP code)) != List.getD (Prod.fst (rbC (wT code) (Prod.fst (wP code)) (Prod.fst (wK code)) (mxL (Prod.fst (wP code)) (oA code (Prod.fst (wP code)) (List.length (wC code))) (wC code) (Prod.fst (oL code (Prod.fst (wP code)) (List.length (wC code))))))) (Int.toNat (↑x4 : Int)) (0 : Int))
 ((Bool.false = Bool.true) ∧
 (True))
 ((InR ((↑x4 : Int) + (1 : Int))) ∧
 (∃ x5 : Nat, (((x5 ≤ List.length (Prod.fst (wB code))) ∧
 (Prod.snd (wB code) = (0 : Int))) ∧
 ((List.length (Prod.fst (wB code)) - x5 < List.length (Prod.fst (wB code)) - x4) ∧
 ((code = code) ∧
 ((Prod.fst (wP code) = Prod.fst (wP code)) ∧
 ((Prod.fst (wK code) = Prod.fst (wK code)) ∧
 ((Prod.fst (wB code) = Prod.fst (wB code)) ∧
 ((oA code (Prod.fst (wP code)) (List.length (wC code)) = oA code (Prod.fst (wP code)) (List.length (wC code))) ∧
 ((Prod.fst (rbC (wT code) (Prod.fst (wP code)) (Prod.fst (wK code)) (Prod.fst (oL code (Prod.fst (wP code)) (List.length (wC code))))) = Prod.fst (rbC (wT code) (Prod.fst (wP code)) (Prod.fst (wK code)) (Prod.fst (oL code (Prod.fst (wP code)) (List.length (wC code)))))) ∧
 ((Prod.fst (rbC (wT code) (Prod.fst (wP code)) (Prod.fst (wK code)) (mxL (Prod.fst (wP code)) (oA code (Prod.fst (wP code)) (List.length (wC code))) (wC code) (Prod.fst (oL code (Prod.fst (wP code)) (List.length (wC code)))))) = Prod.fst (rbC (wT code) (Prod.fst (wP code)) (Prod.fst (wK code)) (mxL (Prod.fst (wP code)) (oA code (Prod.fst (wP code)) (List.length (wC code))) (wC code) (Prod.fst (oL code (Prod.fst (wP code)) (List.length (wC code))))))) ∧
 (((↑x4 : Int) + (1 : Int) = (↑x5 : Int)) ∧
 (wT code = wT code))))))))))))))))))))
 (BrP (Decidable.decide ((1 : Int) < Prod.fst (wK code)))
 ((InR (Prod.fst (wK code) - (1 : Int))) ∧
 ((((roomR (wT code)) ∧
 (List.length (Prod.fst (wB code)) ≤ (1099511627776 : Nat))) ∧
 (True)) ∧
 (BrP (Prod.snd (rbC (wT code) (Prod.fst (wP code)) (Prod.fst (wK code) - (1 : Int)) (Prod.fst (wB code))) != (0 : Int))
 ((Bool.false = Bool.true) ∧
 (True))
 ((((List.length (Prod.fst (rbC (wT code) (Prod.fst (wP code)) (Prod.fst (wK code) - (1 : Int)) (Prod.fst (wB code)))) ≤ (1000 : Nat)) ∧
 (∀ (i : Nat), i < List.length (Prod.fst (rbC (wT code) (Prod.fst (wP code)) (Prod.fst (wK code) - (1 : Int)) (Prod.fst (wB code)))) → (0 : Int) ≤ List.getD (Prod.fst (rbC (wT code) (Prod.fst (wP code)) (Prod.fst (wK code) - (1 : Int)) (Prod.fst (wB code)))) i (0 : Int) ∧ List.getD (Prod.fst (rbC (wT code) (Prod.fst (wP code)) (Prod.fst (wK code) - (1 : Int)) (Prod.fst (wB code)))) i (0 : Int) ≤ (1000 : Int))) ∧
 (True)) ∧
 (BrP (smW (Prod.fst (rbC (wT code) (Prod.fst (wP code)) (Prod.fst (wK code) - (1 : Int)) (Prod.fst (wB code)))) (List.length (Prod.fst (rbC (wT code) (Prod.fst (wP code)) (Prod.fst (wK code) - (1 : Int)) (Prod.fst (wB code))))) != (0 : Int))
 ((Bool.false = Bool.true) ∧
 (True))
 ((((bytesB code) ∧
 (List.length code ≤ (4096 : Nat))) ∧
 (True)) ∧
 ((((roomR (vT code)) ∧
 (List.length (vC code) ≤ (1099511627776 : Nat))) ∧
 (True)) ∧
 ((((roomR (vT code)) ∧
 (List.length (vC code) ≤ (1099511627776 : Nat))) ∧
 (True)) ∧
 (BrP (Prod.snd (qbC (vT code) (Prod.fst (vP code)) (Prod.fst (vK code)) (vC code)) != Prod.snd (qbC (vT code) (Prod.fst (vP code)) (Prod.fst (vK code)) (vC code)))
 ((Bool.false = Bool.true) ∧
 (True))
 (((room (List.length (Prod.fst (qbC (vT code) (Prod.fst (vP code)) (Prod.fst (vK code)) (vC code))))) ∧
 (True)) ∧
 (BrP (!Decidable.decide (Prod.fst (qbC (vT code) (Prod.fst (vP code)) (Prod.fst (vK code)) (vC code)) = Prod.fst (qbC (vT code) (Prod.fst (vP code)) (Prod.fst (vK code)) (vC code))))
 ((Bool.false = Bool.true) ∧
 (True))
 (BrP (Prod.snd (qbC (vT code) (Prod.fst (vP code)) (Prod.fst (vK code)) (vC code)) != (0 : Int))
 ((Bool.true = Bool.true) ∧
 (True))
 (BrP (Decidable.decide (Prod.fst (vK code) < (2 : Int)))
 ((Bool.true = Bool.true) ∧
 (True))
 ((room (List.length ([] : List Int) + List.length (vC code))) ∧
 ((∃ x6 : Nat, (((x6 ≤ List.length (vC code)) ∧
 ((Prod.snd (vQ code) = (0 : Int)) ∧
 ((2 : Int) ≤ Prod.fst (vK code)))) ∧
 ((Prod.fst (vP code) = Prod.fst (vP code)) ∧
 ((Prod.fst (vK code) = Prod.fst (vK code)) ∧
 (((0 : Int) = (↑x6 : Int)) ∧
 ((vT code = vT code) ∧
 ([] ++ vC code = clrN (↑(List.length (vT code)) : Int) (Prod.fst (vK code)) (vC code) x6))))))) ∧
 (∀ x7 : Nat, (((x7 ≤ List.length (vC code)) ∧
 ((Prod.snd (vQ code) = (0 : Int)) ∧
 ((2 : Int) ≤ Prod.fst (vK code)))) →
 (BrP (Decidable.decide ((↑x7 : Int) < (↑(List.length (clrN (↑(List.length (vT code)) : Int) (Prod.fst (vK code)) (vC code) x7)) : Int)))
 (((True) ∧
 (True)) ∧
 (BrP (Prod.snd (tupC (↑(List.length (vT code)) : Int) (Prod.fst (vK code)) (↑x7 : Int)) != (0 : Int))
 ((Bool.false = Bool.true) ∧
 (True))
 ((∃ x8 : Nat, ((((1 : Nat) ≤ x8) ∧
 ((x8 ≤ List.length (Prod.fst (tupC (↑(List.length (vT code)) : Int) (Prod.fst (vK code)) (↑x7 : Int)))) ∧
 (x7 < List.length (vC code)))) ∧
 ((Prod.fst (vP code) = Prod.fst (vP code)) ∧
 ((Prod.fst (vK code) = Prod.fst (vK code)) ∧
 (((↑x7 : Int) = (↑x7 : Int)) ∧
 (((1 : Int) = (↑x8 : Int)) ∧
 ((vT code = vT code) ∧
 ((clrN (↑(List.length (vT code)) : Int) (Prod.fst (vK code)) (vC code) x7 = if flP (Prod.fst (tupC (↑(List.length (vT code)) : Int) (Prod.fst (vK code)) (↑x7 : Int))) x8 = Bool.true then List.set (clrN (↑(List.length (vT code)) : Int) (Prod.fst (vK code)) (vC code) x7) x7 (0 : Int) else clrN (↑(List.length (vT code)) : Int) (Prod.fst (vK code)) (vC code) x7) ∧
 (Prod.fst (tupC (↑(List.length (vT code)) : Int) (Prod.fst (vK code)) (↑x7 : Int)) = Prod.fst (tupC (↑(List.length (vT code)) : Int) (Prod.fst (vK code)) (↑x7 : Int))))))))))) ∧
 (∀ x9 : Nat, ((((1 : Nat) ≤ x9) ∧
 ((x9 ≤ List.length (Prod.fst (tupC (↑(List.length (vT code)) : Int) (Prod.fst (vK code)) (↑x7 : Int)))) ∧
 (x7 < List.length (vC code)))) →
 (BrP (Decidable.decide ((↑x9 : Int) < (↑(List.length (Prod.fst (tupC (↑(List.length (vT code)) : Int) (Prod.fst (vK code)) (↑x7 : Int)))) : Int)))
 ((inB (↑x9 : Int) (List.length (Prod.fst (tupC (↑(List.length (vT code)) : Int) (Prod.fst (vK code)) (↑x7 : Int))))) ∧
 ((InR ((↑x9 : Int) - (1 : Int))) ∧
 ((inB ((↑x9 : Int) - (1 : Int)) (List.length (Prod.fst (tupC (↑(List.length (vT code)) : Int) (Prod.fst (vK code)) (↑x7 : Int))))) ∧
 (BrP (List.getD (Prod.fst (tupC (↑(List.length (vT code)) : Int) (Prod.fst (vK code)) (↑x7 : Int))) (Int.toNat (↑x9 : Int)) (0 : Int) == List.getD (Prod.fst (tupC (↑(List.length (vT code)) : Int) (Prod.fst (vK code)) (↑x7 : Int))) (Int.toNat ((↑x9 : Int) - (1 : Int))) (0 : Int))
 ((inB (↑x7 : Int) (List.length (if flP (Prod.fst (tupC (↑(List.length (vT code)) : Int) (Prod.fst (vK code)) (↑x7 : Int))) x9 = Bool.true then List.set (clrN (↑(List.length (vT code)) : Int) (Prod.fst (vK code)) (vC code) x7) x7 (0 : Int) else clrN (↑(List.length (vT code)) : Int) (Prod.fst (vK code)) (vC code) x7))) ∧
 ((InR ((↑x9 : Int) + (1 : Int))) ∧
 (∃ x10 : Nat, ((((1 : Nat) ≤ x10) ∧
 ((x10 ≤ List.length (Prod.fst (tupC (↑(List.length (vT code)) : Int) (Prod.fst (vK code)) (↑x7 : Int)))) ∧
 (x7 < List.length (vC code)))) ∧
 ((List.length (Prod.fst (tupC (↑(List.length (vT code)) : Int) (Prod.fst (vK code)) (↑x7 : Int))) - x10 < List.length (Prod.fst (tupC (↑(List.length (vT code)) : Int) (Prod.fst (vK code)) (↑x7 : Int))) - x9) ∧
 ((Prod.fst (vP code) = Prod.fst (vP code)) ∧
 ((Prod.fst (vK code) = Prod.fst (vK code)) ∧
 (((↑x7 : Int) = (↑x7 : Int)) ∧
 (((↑x9 : Int) + (1 : Int) = (↑x10 : Int)) ∧
 ((vT code = vT code) ∧
 ((List.set (if flP (Prod.fst (tupC (↑(List.length (vT code)) : Int) (Prod.fst (vK code)) (↑x7 : Int))) x9 = Bool.true then List.set (clrN (↑(List.length (vT code)) : Int) (Prod.fst (vK code)) (vC code) x7) x7 (0 : Int) else clrN (↑(List.length (vT code)) : Int) (Prod.fst (vK code)) (vC code) x7) (Int.toNat (↑x7 : Int)) (0 : Int) = if flP (Prod.fst (tupC (↑(List.length (vT code)) : Int) (Prod.fst (vK code)) (↑x7 : Int))) x10 = Bool.true then List.set (clrN (↑(List.length (vT code)) : Int) (Prod.fst (vK code)) (vC code) x7) x7 (0 : Int) else clrN (↑(List.length (vT code)) : Int) (Prod.fst (vK code)) (vC code) x7) ∧
 (Prod.fst (tupC (↑(List.length (vT code)) : Int) (Prod.fst (vK code)) (↑x7 : Int)) = Prod.fst (tupC (↑(List.length (vT code)) : Int) (Prod.fst (vK code)) (↑x7 : Int))))))))))))))
 ((InR ((↑x9 : Int) + (1 : Int))) ∧
 (∃ x11 : Nat, ((((1 : Nat) ≤ x11) ∧
 ((x11 ≤ List.length (Prod.fst (tupC (↑(List.length (vT code)) : Int) (Prod.fst (vK code)) (↑x7 : Int)))) ∧
 (x7 < List.length (vC code)))) ∧
 ((List.length (Prod.fst (tupC (↑(List.length (vT code)) : Int) (Prod.fst (vK code)) (↑x7 : Int))) - x11 < List.length (Prod.fst (tupC (↑(List.length (vT code)) : Int) (Prod.fst (vK code)) (↑x7 : Int))) - x9) ∧
 ((Prod.fst (vP code) = Prod.fst (vP code)) ∧
 ((Prod.fst (vK code) = Prod.fst (vK code)) ∧
 (((↑x7 : Int) = (↑x7 : Int)) ∧
 (((↑x9 : Int) + (1 : Int) = (↑x11 : Int)) ∧
 ((vT code = vT code) ∧
 (((if flP (Prod.fst (tupC (↑(List.length (vT code)) : Int) (Prod.fst (vK code)) (↑x7 : Int))) x9 = Bool.true then List.set (clrN (↑(List.length (vT code)) : Int) (Prod.fst (vK code)) (vC code) x7) x7 (0 : Int) else clrN (↑(List.length (vT code)) : Int) (Prod.fst (vK code)) (vC code) x7) = if flP (Prod.fst (tupC (↑(List.length (vT code)) : Int) (Prod.fst (vK code)) (↑x7 : Int))) x11 = Bool.true then List.set (clrN (↑(List.length (vT code)) : Int) (Prod.fst (vK code)) (vC code) x7) x7 (0 : Int) else clrN (↑(List.length (vT code)) : Int) (Prod.fst (vK code)) (vC code) x7) ∧
 (Prod.fst (tupC (↑(List.length (vT code)) : Int) (Prod.fst (vK code)) (↑x7 : Int)) = Prod.fst (tupC (↑(List.length (vT code)) : Int) (Prod.fst (vK code)) (↑x7 : Int)))))))))))))))))
 ((InR ((↑x7 : Int) + (1 : Int))) ∧
 (∃ x12 : Nat, (((x12 ≤ List.length (vC code)) ∧
 ((Prod.snd (vQ code) = (0 : Int)) ∧
 ((2 : Int) ≤ Prod.fst (vK code)))) ∧
 ((List.length (vC code) - x12 < List.length (vC code) - x7) ∧
 ((Prod.fst (vP code) = Prod.fst (vP code)) ∧
 ((Prod.fst (vK code) = Prod.fst (vK code)) ∧
 (((↑x7 : Int) + (1 : Int) = (↑x12 : Int)) ∧
 ((vT code = vT code) ∧
 ((if flP (Prod.fst (tupC (↑(List.length (vT code)) : Int) (Prod.fst (vK code)) (↑x7 : Int))) x9 = Bool.true then List.set (clrN (↑(List.length (vT code)) : Int) (Prod.fst (vK code)) (vC code) x7) x7 (0 : Int) else clrN (↑(List.length (vT code)) : Int) (Prod.fst (vK code)) (vC code) x7) = clrN (↑(List.length (vT code)) : Int) (Prod.fst (vK code)) (vC code) x12)))))))))))))))
 ((((roomR (vT code)) ∧
 (List.length (clrN (↑(List.length (vT code)) : Int) (Prod.fst (vK code)) (vC code) x7) ≤ (1099511627776 : Nat))) ∧
 (True)) ∧
 ((InR (Prod.fst (vK code) - (1 : Int))) ∧
 ((((roomR (vT code)) ∧
 (List.length (Prod.fst (qbC (vT code) (Prod.fst (vP code)) (Prod.fst (vK code)) (clrN (↑(List.length (vT code)) : Int) (Prod.fst (vK code)) (vC code) x7))) ≤ (1099511627776 : Nat))) ∧
 (True)) ∧
 (BrP (Prod.snd (qbC (vT code) (Prod.fst (vP code)) (Prod.fst (vK code)) (clrN (↑(List.length (vT code)) : Int) (Prod.fst (vK code)) (vC code) x7)) == (0 : Int))
 (BrP (Prod.snd (qbC (vT code) (Prod.fst (vP code)) (Prod.fst (vK code) - (1 : Int)) (Prod.fst (qbC (vT code) (Prod.fst (vP code)) (Prod.fst (vK code)) (clrN (↑(List.length (vT code)) : Int) (Prod.fst (vK code)) (vC code) x7)))) == (0 : Int))
 ((((List.length (Prod.fst (qbC (vT code) (Prod.fst (vP code)) (Prod.fst (vK code) - (1 : Int)) (Prod.fst (qbC (vT code) (Prod.fst (vP code)) (Prod.fst (vK code)) (clrN (↑(List.length (vT code)) : Int) (Prod.fst (vK code)) (vC code) x7))))) ≤ (1000 : Nat)) ∧
 (∀ (i : Nat), i < List.length (Prod.fst (qbC (vT code) (Prod.fst (vP code)) (Prod.fst (vK code) - (1 : Int)) (Prod.fst (qbC (vT code) (Prod.fst (vP code)) (Prod.fst (vK code)) (clrN (↑(List.length (vT code)) : Int) (Prod.fst (vK code)) (vC code) x7))))) → (0 : Int) ≤ List.getD (Prod.fst (qbC (vT code) (Prod.fst (vP code)) (Prod.fst (vK code) - (1 : Int)) (Prod.fst (qbC (vT code) (Prod.fst (vP code)) (Prod.fst (vK code)) (clrN (↑(List.length (vT code)) : Int) (Prod.fst (vK code)) (vC code) x7))))) i (0 : Int) ∧ List.getD (Prod.fst (qbC (vT code) (Prod.fst (vP code)) (Prod.fst (vK code) - (1 : Int)) (Prod.fst (qbC (vT code) (Prod.fst (vP code)) (Prod.fst (vK code)) (clrN (↑(List.length (vT code)) : Int) (Prod.fst (vK code)) (vC code) x7))))) i (0 : Int) ≤ (1000 : Int))) ∧
 (True)) ∧
 (((smW (Prod.fst (qbC (vT code) (Prod.fst (vP code)) (Prod.fst (vK code) - (1 : Int)) (Prod.fst (qbC (vT code) (Prod.fst (vP code)) (Prod.fst (vK code)) (clrN (↑(List.length (vT code)) : Int) (Prod.fst (vK code)) (vC code) x7))))) (List.length (Prod.fst (qbC (vT code) (Prod.fst (vP code)) (Prod.fst (vK code) - (1 : Int)) (Prod.fst (qbC (vT code) (Prod.fst (vP code)) (Prod.fst (vK code)) (clrN (↑(List.length (vT code)) : Int) (Prod.fst (vK code)) (vC code) x7)))))) == (0 : Int)) = Bool.true) ∧
 (True)))
 ((Bool.false = Bool.true) ∧
 (True)))
 ((Bool.false = Bool.true) ∧
 (True))))))))))))))))))))))))
 ((((bytesB code) ∧
 (List.length code ≤ (4096 : Nat))) ∧
 (True)) ∧
 ((((roomR (vT code)) ∧
 (List.length (vC code) ≤ (1099511627776 : Nat))) ∧
 (True)) ∧
 ((((roomR (vT code)) ∧
 (List.length (vC code) ≤ (1099511627776 : Nat))) ∧
 (True)) ∧
 (BrP (Prod.snd (qbC (vT code) (Prod.fst (vP code)) (Prod.fst (vK code)) (vC code)) != Prod.snd (qbC (vT code) (Prod.fst (vP code)) (Prod.fst (vK code)) (vC code)))
 ((Bool.false = Bool.true) ∧
 (True))
 (((room (List.length (Prod.fst (qbC (vT code) (Prod.fst (vP code)) (Prod.fst (vK code)) (vC code))))) ∧
 (True)) ∧
 (BrP (!Decidable.decide (Prod.fst (qbC (vT code) (Prod.fst (vP code)) (Prod.fst (vK code)) (vC code)) = Prod.fst (qbC (vT code) (Prod.fst (vP code)) (Prod.fst (vK code)) (vC code))))
 ((Bool.false = Bool.true) ∧
 (True))
 (BrP (Prod.snd (qbC (vT code) (Prod.fst (vP code)) (Prod.fst (vK code)) (vC code)) != (0 : Int))
 ((Bool.true = Bool.true) ∧
 (True))
 (BrP (Decidable.decide (Prod.fst (vK code) < (2 : Int)))
 ((Bool.true = Bool.true) ∧
 (True))
 ((room (List.length ([] : List Int) + List.length (vC code))) ∧
 ((∃ x13 : Nat, (((x13 ≤ List.length (vC code)) ∧
 ((Prod.snd (vQ code) = (0 : Int)) ∧
 ((2 : Int) ≤ Prod.fst (vK code)))) ∧
 ((Prod.fst (vP code) = Prod.fst (vP code)) ∧
 ((Prod.fst (vK code) = Prod.fst (vK code)) ∧
 (((0 : Int) = (↑x13 : Int)) ∧
 ((vT code = vT code) ∧
 ([] ++ vC code = clrN (↑(List.length (vT code)) : Int) (Prod.fst (vK code)) (vC code) x13))))))) ∧
 (∀ x14 : Nat, (((x14 ≤ List.length (vC code)) ∧
 ((Prod.snd (vQ code) = (0 : Int)) ∧
 ((2 : Int) ≤ Prod.fst (vK code)))) →
 (BrP (Decidable.decide ((↑x14 : Int) < (↑(List.length (clrN (↑(List.length (vT code)) : Int) (Prod.fst (vK code)) (vC code) x14)) : Int)))
 (((True) ∧
 (True)) ∧
 (BrP (Prod.snd (tupC (↑(List.length (vT code)) : Int) (Prod.fst (vK code)) (↑x14 : Int)) != (0 : Int))
 ((Bool.false = Bool.true) ∧
 (True))
 ((∃ x15 : Nat, ((((1 : Nat) ≤ x15) ∧
 ((x15 ≤ List.length (Prod.fst (tupC (↑(List.length (vT code)) : Int) (Prod.fst (vK code)) (↑x14 : Int)))) ∧
 (x14 < List.length (vC code)))) ∧
 ((Prod.fst (vP code) = Prod.fst (vP code)) ∧
 ((Prod.fst (vK code) = Prod.fst (vK code)) ∧
 (((↑x14 : Int) = (↑x14 : Int)) ∧
 (((1 : Int) = (↑x15 : Int)) ∧
 ((vT code = vT code) ∧
 ((clrN (↑(List.length (vT code)) : Int) (Prod.fst (vK code)) (vC code) x14 = if flP (Prod.fst (tupC (↑(List.length (vT code)) : Int) (Prod.fst (vK code)) (↑x14 : Int))) x15 = Bool.true then List.set (clrN (↑(List.length (vT code)) : Int) (Prod.fst (vK code)) (vC code) x14) x14 (0 : Int) else clrN (↑(List.length (vT code)) : Int) (Prod.fst (vK code)) (vC code) x14) ∧
 (Prod.fst (tupC (↑(List.length (vT code)) : Int) (Prod.fst (vK code)) (↑x14 : Int)) = Prod.fst (tupC (↑(List.length (vT code)) : Int) (Prod.fst (vK code)) (↑x14 : Int))))))))))) ∧
 (∀ x16 : Nat, ((((1 : Nat) ≤ x16) ∧
 ((x16 ≤ List.length (Prod.fst (tupC (↑(List.length (vT code)) : Int) (Prod.fst (vK code)) (↑x14 : Int)))) ∧
 (x14 < List.length (vC code)))) →
 (BrP (Decidable.decide ((↑x16 : Int) < (↑(List.length (Prod.fst (tupC (↑(List.length (vT code)) : Int) (Prod.fst (vK code)) (↑x14 : Int)))) : Int)))
 ((inB (↑x16 : Int) (List.length (Prod.fst (tupC (↑(List.length (vT code)) : Int) (Prod.fst (vK code)) (↑x14 : Int))))) ∧
 ((InR ((↑x16 : Int) - (1 : Int))) ∧
 ((inB ((↑x16 : Int) - (1 : Int)) (List.length (Prod.fst (tupC (↑(List.length (vT code)) : Int) (Prod.fst (vK code)) (↑x14 : Int))))) ∧
 (BrP (List.getD (Prod.fst (tupC (↑(List.length (vT code)) : Int) (Prod.fst (vK code)) (↑x14 : Int))) (Int.toNat (↑x16 : Int)) (0 : Int) == List.getD (Prod.fst (tupC (↑(List.length (vT code)) : Int) (Prod.fst (vK code)) (↑x14 : Int))) (Int.toNat ((↑x16 : Int) - (1 : Int))) (0 : Int))
 ((inB (↑x14 : Int) (List.length (if flP (Prod.fst (tupC (↑(List.length (vT code)) : Int) (Prod.fst (vK code)) (↑x14 : Int))) x16 = Bool.true then List.set (clrN (↑(List.length (vT code)) : Int) (Prod.fst (vK code)) (vC code) x14) x14 (0 : Int) else clrN (↑(List.length (vT code)) : Int) (Prod.fst (vK code)) (vC code) x14))) ∧
 ((InR ((↑x16 : Int) + (1 : Int))) ∧
 (∃ x17 : Nat, ((((1 : Nat) ≤ x17) ∧
 ((x17 ≤ List.length (Prod.fst (tupC (↑(List.length (vT code)) : Int) (Prod.fst (vK code)) (↑x14 : Int)))) ∧
 (x14 < List.length (vC code)))) ∧
 ((List.length (Prod.fst (tupC (↑(List.length (vT code)) : Int) (Prod.fst (vK code)) (↑x14 : Int))) - x17 < List.length (Prod.fst (tupC (↑(List.length (vT code)) : Int) (Prod.fst (vK code)) (↑x14 : Int))) - x16) ∧
 ((Prod.fst (vP code) = Prod.fst (vP code)) ∧
 ((Prod.fst (vK code) = Prod.fst (vK code)) ∧
 (((↑x14 : Int) = (↑x14 : Int)) ∧
 (((↑x16 : Int) + (1 : Int) = (↑x17 : Int)) ∧
 ((vT code = vT code) ∧
 ((List.set (if flP (Prod.fst (tupC (↑(List.length (vT code)) : Int) (Prod.fst (vK code)) (↑x14 : Int))) x16 = Bool.true then List.set (clrN (↑(List.length (vT code)) : Int) (Prod.fst (vK code)) (vC code) x14) x14 (0 : Int) else clrN (↑(List.length (vT code)) : Int) (Prod.fst (vK code)) (vC code) x14) (Int.toNat (↑x14 : Int)) (0 : Int) = if flP (Prod.fst (tupC (↑(List.length (vT code)) : Int) (Prod.fst (vK code)) (↑x14 : Int))) x17 = Bool.true then List.set (clrN (↑(List.length (vT code)) : Int) (Prod.fst (vK code)) (vC code) x14) x14 (0 : Int) else clrN (↑(List.length (vT code)) : Int) (Prod.fst (vK code)) (vC code) x14) ∧
 (Prod.fst (tupC (↑(List.length (vT code)) : Int) (Prod.fst (vK code)) (↑x14 : Int)) = Prod.fst (tupC (↑(List.length (vT code)) : Int) (Prod.fst (vK code)) (↑x14 : Int))))))))))))))
 ((InR ((↑x16 : Int) + (1 : Int))) ∧
 (∃ x18 : Nat, ((((1 : Nat) ≤ x18) ∧
 ((x18 ≤ List.length (Prod.fst (tupC (↑(List.length (vT code)) : Int) (Prod.fst (vK code)) (↑x14 : Int)))) ∧
 (x14 < List.length (vC code)))) ∧
 ((List.length (Prod.fst (tupC (↑(List.length (vT code)) : Int) (Prod.fst (vK code)) (↑x14 : Int))) - x18 < List.length (Prod.fst (tupC (↑(List.length (vT code)) : Int) (Prod.fst (vK code)) (↑x14 : Int))) - x16) ∧
 ((Prod.fst (vP code) = Prod.fst (vP code)) ∧
 ((Prod.fst (vK code) = Prod.fst (vK code)) ∧
 (((↑x14 : Int) = (↑x14 : Int)) ∧
 (((↑x16 : Int) + (1 : Int) = (↑x18 : Int)) ∧
 ((vT code = vT code) ∧
 (((if flP (Prod.fst (tupC (↑(List.length (vT code)) : Int) (Prod.fst (vK code)) (↑x14 : Int))) x16 = Bool.true then List.set (clrN (↑(List.length (vT code)) : Int) (Prod.fst (vK code)) (vC code) x14) x14 (0 : Int) else clrN (↑(List.length (vT code)) : Int) (Prod.fst (vK code)) (vC code) x14) = if flP (Prod.fst (tupC (↑(List.length (vT code)) : Int) (Prod.fst (vK code)) (↑x14 : Int))) x18 = Bool.true then List.set (clrN (↑(List.length (vT code)) : Int) (Prod.fst (vK code)) (vC code) x14) x14 (0 : Int) else clrN (↑(List.length (vT code)) : Int) (Prod.fst (vK code)) (vC code) x14) ∧
 (Prod.fst (tupC (↑(List.length (vT code)) : Int) (Prod.fst (vK code)) (↑x14 : Int)) = Prod.fst (tupC (↑(List.length (vT code)) : Int) (Prod.fst (vK code)) (↑x14 : Int)))))))))))))))))
 ((InR ((↑x14 : Int) + (1 : Int))) ∧
 (∃ x19 : Nat, (((x19 ≤ List.length (vC code)) ∧
 ((Prod.snd (vQ code) = (0 : Int)) ∧
 ((2 : Int) ≤ Prod.fst (vK code)))) ∧
 ((List.length (vC code) - x19 < List.length (vC code) - x14) ∧
 ((Prod.fst (vP code) = Prod.fst (vP code)) ∧
 ((Prod.fst (vK code) = Prod.fst (vK code)) ∧
 (((↑x14 : Int) + (1 : Int) = (↑x19 : Int)) ∧
 ((vT code = vT code) ∧
 ((if flP (Prod.fst (tupC (↑(List.length (vT code)) : Int) (Prod.fst (vK code)) (↑x14 : Int))) x16 = Bool.true then List.set (clrN (↑(List.length (vT code)) : Int) (Prod.fst (vK code)) (vC code) x14) x14 (0 : Int) else clrN (↑(List.length (vT code)) : Int) (Prod.fst (vK code)) (vC code) x14) = clrN (↑(List.length (vT code)) : Int) (Prod.fst (vK code)) (vC code) x19)))))))))))))))
 ((((roomR (vT code)) ∧
 (List.length (clrN (↑(List.length (vT code)) : Int) (Prod.fst (vK code)) (vC code) x14) ≤ (1099511627776 : Nat))) ∧
 (True)) ∧
 ((InR (Prod.fst (vK code) - (1 : Int))) ∧
 ((((roomR (vT code)) ∧
 (List.length (Prod.fst (qbC (vT code) (Prod.fst (vP code)) (Prod.fst (vK code)) (clrN (↑(List.length (vT code)) : Int) (Prod.fst (vK code)) (vC code) x14))) ≤ (1099511627776 : Nat))) ∧
 (True)) ∧
 (BrP (Prod.snd (qbC (vT code) (Prod.fst (vP code)) (Prod.fst (vK code)) (clrN (↑(List.length (vT code)) : Int) (Prod.fst (vK code)) (vC code) x14)) == (0 : Int))
 (BrP (Prod.snd (qbC (vT code) (Prod.fst (vP code)) (Prod.fst (vK code) - (1 : Int)) (Prod.fst (qbC (vT code) (Prod.fst (vP code)) (Prod.fst (vK code)) (clrN (↑(List.length (vT code)) : Int) (Prod.fst (vK code)) (vC code) x14)))) == (0 : Int))
 ((((List.length (Prod.fst (qbC (vT code) (Prod.fst (vP code)) (Prod.fst (vK code) - (1 : Int)) (Prod.fst (qbC (vT code) (Prod.fst (vP code)) (Prod.fst (vK code)) (clrN (↑(List.length (vT code)) : Int) (Prod.fst (vK code)) (vC code) x14))))) ≤ (1000 : Nat)) ∧
 (∀ (i : Nat), i < List.length (Prod.fst (qbC (vT code) (Prod.fst (vP code)) (Prod.fst (vK code) - (1 : Int)) (Prod.fst (qbC (vT code) (Prod.fst (vP code)) (Prod.fst (vK code)) (clrN (↑(List.length (vT code)) : Int) (Prod.fst (vK code)) (vC code) x14))))) → (0 : Int) ≤ List.getD (Prod.fst (qbC (vT code) (Prod.fst (vP code)) (Prod.fst (vK code) - (1 : Int)) (Prod.fst (qbC (vT code) (Prod.fst (vP code)) (Prod.fst (vK code)) (clrN (↑(List.length (vT code)) : Int) (Prod.fst (vK code)) (vC code) x14))))) i (0 : Int) ∧ List.getD (Prod.fst (qbC (vT code) (Prod.fst (vP code)) (Prod.fst (vK code) - (1 : Int)) (Prod.fst (qbC (vT code) (Prod.fst (vP code)) (Prod.fst (vK code)) (clrN (↑(List.length (vT code)) : Int) (Prod.fst (vK code)) (vC code) x14))))) i (0 : Int) ≤ (1000 : Int))) ∧
 (True)) ∧
 (((smW (Prod.fst (qbC (vT code) (Prod.fst (vP code)) (Prod.fst (vK code) - (1 : Int)) (Prod.fst (qbC (vT code) (Prod.fst (vP code)) (Prod.fst (vK code)) (clrN (↑(List.length (vT code)) : Int) (Prod.fst (vK code)) (vC code) x14))))) (List.length (Prod.fst (qbC (vT code) (Prod.fst (vP code)) (Prod.fst (vK code) - (1 : Int)) (Prod.fst (qbC (vT code) (Prod.fst (vP code)) (Prod.fst (vK code)) (clrN (↑(List.length (vT code)) : Int) (Prod.fst (vK code)) (vC code) x14)))))) == (0 : Int)) = Bool.true) ∧
 (True)))
 ((Bool.false = Bool.true) ∧
 (True)))
 ((Bool.false = Bool.true) ∧
 (True)))))))))))))))))))))))))))))))))))))
 ((((bytesB code) ∧
 (List.length code ≤ (4096 : Nat))) ∧
 (True)) ∧
 ((((roomR (vT code)) ∧
 (List.length (vC code) ≤ (1099511627776 : Nat))) ∧
 (True)) ∧
 ((((roomR (vT code)) ∧
 (List.length (vC code) ≤ (1099511627776 : Nat))) ∧
 (True)) ∧
 (BrP (Prod.snd (qbC (vT code) (Prod.fst (vP code)) (Prod.fst (vK code)) (vC code)) != Prod.snd (qbC (vT code) (Prod.fst (vP code)) (Prod.fst (vK code)) (vC code)))
 ((Bool.false = Bool.true) ∧
 (True))
 (((room (List.length (Prod.fst (qbC (vT code) (Prod.fst (vP code)) (Prod.fst (vK code)) (vC code))))) ∧
 (True)) ∧
 (BrP (!Decidable.decide (Prod.fst (qbC (vT code) (Prod.fst (vP code)) (Prod.fst (vK code)) (vC code)) = Prod.fst (qbC (vT code) (Prod.fst (vP code)) (Prod.fst (vK code)) (vC code))))
 ((Bool.false = Bool.true) ∧
 (True))
 (BrP (Prod.snd (qbC (vT code) (Prod.fst (vP code)) (Prod.fst (vK code)) (vC code)) != (0 : Int))
 ((Bool.true = Bool.true) ∧
 (True))
 (BrP (Decidable.decide (Prod.fst (vK code) < (2 : Int)))
 ((Bool.true = Bool.true) ∧
 (True))
 ((room (List.length ([] : List Int) + List.length (vC code))) ∧
 ((∃ x20 : Nat, (((x20 ≤ List.length (vC code)) ∧
 ((Prod.snd (vQ code) = (0 : Int)) ∧
 ((2 : Int) ≤ Prod.fst (vK code)))) ∧
 ((Prod.fst (vP code) = Prod.fst (vP code)) ∧
 ((Prod.fst (vK code) = Prod.fst (vK code)) ∧
 (((0 : Int) = (↑x20 : Int)) ∧
 ((vT code = vT code) ∧
 ([] ++ vC code = clrN (↑(List.length (vT code)) : Int) (Prod.fst (vK code)) (vC code) x20))))))) ∧
 (∀ x21 : Nat, (((x21 ≤ List.length (vC code)) ∧
 ((Prod.snd (vQ code) = (0 : Int)) ∧
 ((2 : Int) ≤ Prod.fst (vK code)))) →
 (BrP (Decidable.decide ((↑x21 : Int) < (↑(List.length (clrN (↑(List.length (vT code)) : Int) (Prod.fst (vK code)) (vC code) x21)) : Int)))
 (((True) ∧
 (True)) ∧
 (BrP (Prod.snd (tupC (↑(List.length (vT code)) : Int) (Prod.fst (vK code)) (↑x21 : Int)) != (0 : Int))
 ((Bool.false = Bool.true) ∧
 (True))
 ((∃ x22 : Nat, ((((1 : Nat) ≤ x22) ∧
 ((x22 ≤ List.length (Prod.fst (tupC (↑(List.length (vT code)) : Int) (Prod.fst (vK code)) (↑x21 : Int)))) ∧
 (x21 < List.length (vC code)))) ∧
 ((Prod.fst (vP code) = Prod.fst (vP code)) ∧
 ((Prod.fst (vK code) = Prod.fst (vK code)) ∧
 (((↑x21 : Int) = (↑x21 : Int)) ∧
 (((1 : Int) = (↑x22 : Int)) ∧
 ((vT code = vT code) ∧
 ((clrN (↑(List.length (vT code)) : Int) (Prod.fst (vK code)) (vC code) x21 = if flP (Prod.fst (tupC (↑(List.length (vT code)) : Int) (Prod.fst (vK code)) (↑x21 : Int))) x22 = Bool.true then List.set (clrN (↑(List.length (vT code)) : Int) (Prod.fst (vK code)) (vC code) x21) x21 (0 : Int) else clrN (↑(List.length (vT code)) : Int) (Prod.fst (vK code)) (vC code) x21) ∧
 (Prod.fst (tupC (↑(List.length (vT code)) : Int) (Prod.fst (vK code)) (↑x21 : Int)) = Prod.fst (tupC (↑(List.length (vT code)) : Int) (Prod.fst (vK code)) (↑x21 : Int))))))))))) ∧
 (∀ x23 : Nat, ((((1 : Nat) ≤ x23) ∧
 ((x23 ≤ List.length (Prod.fst (tupC (↑(List.length (vT code)) : Int) (Prod.fst (vK code)) (↑x21 : Int)))) ∧
 (x21 < List.length (vC code)))) →
 (BrP (Decidable.decide ((↑x23 : Int) < (↑(List.length (Prod.fst (tupC (↑(List.length (vT code)) : Int) (Prod.fst (vK code)) (↑x21 : Int)))) : Int)))
 ((inB (↑x23 : Int) (List.length (Prod.fst (tupC (↑(List.length (vT code)) : Int) (Prod.fst (vK code)) (↑x21 : Int))))) ∧
 ((InR ((↑x23 : Int) - (1 : Int))) ∧
 ((inB ((↑x23 : Int) - (1 : Int)) (List.length (Prod.fst (tupC (↑(List.length (vT code)) : Int) (Prod.fst (vK code)) (↑x21 : Int))))) ∧
 (BrP (List.getD (Prod.fst (tupC (↑(List.length (vT code)) : Int) (Prod.fst (vK code)) (↑x21 : Int))) (Int.toNat (↑x23 : Int)) (0 : Int) == List.getD (Prod.fst (tupC (↑(List.length (vT code)) : Int) (Prod.fst (vK code)) (↑x21 : Int))) (Int.toNat ((↑x23 : Int) - (1 : Int))) (0 : Int))
 ((inB (↑x21 : Int) (List.length (if flP (Prod.fst (tupC (↑(List.length (vT code)) : Int) (Prod.fst (vK code)) (↑x21 : Int))) x23 = Bool.true then List.set (clrN (↑(List.length (vT code)) : Int) (Prod.fst (vK code)) (vC code) x21) x21 (0 : Int) else clrN (↑(List.length (vT code)) : Int) (Prod.fst (vK code)) (vC code) x21))) ∧
 ((InR ((↑x23 : Int) + (1 : Int))) ∧
 (∃ x24 : Nat, ((((1 : Nat) ≤ x24) ∧
 ((x24 ≤ List.length (Prod.fst (tupC (↑(List.length (vT code)) : Int) (Prod.fst (vK code)) (↑x21 : Int)))) ∧
 (x21 < List.length (vC code)))) ∧
 ((List.length (Prod.fst (tupC (↑(List.length (vT code)) : Int) (Prod.fst (vK code)) (↑x21 : Int))) - x24 < List.length (Prod.fst (tupC (↑(List.length (vT code)) : Int) (Prod.fst (vK code)) (↑x21 : Int))) - x23) ∧
 ((Prod.fst (vP code) = Prod.fst (vP code)) ∧
 ((Prod.fst (vK code) = Prod.fst (vK code)) ∧
 (((↑x21 : Int) = (↑x21 : Int)) ∧
 (((↑x23 : Int) + (1 : Int) = (↑x24 : Int)) ∧
 ((vT code = vT code) ∧
 ((List.set (if flP (Prod.fst (tupC (↑(List.length (vT code)) : Int) (Prod.fst (vK code)) (↑x21 : Int))) x23 = Bool.true then List.set (clrN (↑(List.length (vT code)) : Int) (Prod.fst (vK code)) (vC code) x21) x21 (0 : Int) else clrN (↑(List.length (vT code)) : Int) (Prod.fst (vK code)) (vC code) x21) (Int.toNat (↑x21 : Int)) (0 : Int) = if flP (Prod.fst (tupC (↑(List.length (vT code)) : Int) (Prod.fst (vK code)) (↑x21 : Int))) x24 = Bool.true then List.set (clrN (↑(List.length (vT code)) : Int) (Prod.fst (vK code)) (vC code) x21) x21 (0 : Int) else clrN (↑(List.length (vT code)) : Int) (Prod.fst (vK code)) (vC code) x21) ∧
 (Prod.fst (tupC (↑(List.length (vT code)) : Int) (Prod.fst (vK code)) (↑x21 : Int)) = Prod.fst (tupC (↑(List.length (vT code)) : Int) (Prod.fst (vK code)) (↑x21 : Int))))))))))))))
 ((InR ((↑x23 : Int) + (1 : Int))) ∧
 (∃ x25 : Nat, ((((1 : Nat) ≤ x25) ∧
 ((x25 ≤ List.length (Prod.fst (tupC (↑(List.length (vT code)) : Int) (Prod.fst (vK code)) (↑x21 : Int)))) ∧
 (x21 < List.length (vC code)))) ∧
 ((List.length (Prod.fst (tupC (↑(List.length (vT code)) : Int) (Prod.fst (vK code)) (↑x21 : Int))) - x25 < List.length (Prod.fst (tupC (↑(List.length (vT code)) : Int) (Prod.fst (vK code)) (↑x21 : Int))) - x23) ∧
 ((Prod.fst (vP code) = Prod.fst (vP code)) ∧
 ((Prod.fst (vK code) = Prod.fst (vK code)) ∧
 (((↑x21 : Int) = (↑x21 : Int)) ∧
 (((↑x23 : Int) + (1 : Int) = (↑x25 : Int)) ∧
 ((vT code = vT code) ∧
 (((if flP (Prod.fst (tupC (↑(List.length (vT code)) : Int) (Prod.fst (vK code)) (↑x21 : Int))) x23 = Bool.true then List.set (clrN (↑(List.length (vT code)) : Int) (Prod.fst (vK code)) (vC code) x21) x21 (0 : Int) else clrN (↑(List.length (vT code)) : Int) (Prod.fst (vK code)) (vC code) x21) = if flP (Prod.fst (tupC (↑(List.length (vT code)) : Int) (Prod.fst (vK code)) (↑x21 : Int))) x25 = Bool.true then List.set (clrN (↑(List.length (vT code)) : Int) (Prod.fst (vK code)) (vC code) x21) x21 (0 : Int) else clrN (↑(List.length (vT code)) : Int) (Prod.fst (vK code)) (vC code) x21) ∧
 (Prod.fst (tupC (↑(List.length (vT code)) : Int) (Prod.fst (vK code)) (↑x21 : Int)) = Prod.fst (tupC (↑(List.length (vT code)) : Int) (Prod.fst (vK code)) (↑x21 : Int)))))))))))))))))
 ((InR ((↑x21 : Int) + (1 : Int))) ∧
 (∃ x26 : Nat, (((x26 ≤ List.length (vC code)) ∧
 ((Prod.snd (vQ code) = (0 : Int)) ∧
 ((2 : Int) ≤ Prod.fst (vK code)))) ∧
 ((List.length (vC code) - x26 < List.length (vC code) - x21) ∧
 ((Prod.fst (vP code) = Prod.fst (vP code)) ∧
 ((Prod.fst (vK code) = Prod.fst (vK code)) ∧
 (((↑x21 : Int) + (1 : Int) = (↑x26 : Int)) ∧
 ((vT code = vT code) ∧
 ((if flP (Prod.fst (tupC (↑(List.length (vT code)) : Int) (Prod.fst (vK code)) (↑x21 : Int))) x23 = Bool.true then List.set (clrN (↑(List.length (vT code)) : Int) (Prod.fst (vK code)) (vC code) x21) x21 (0 : Int) else clrN (↑(List.length (vT code)) : Int) (Prod.fst (vK code)) (vC code) x21) = clrN (↑(List.length (vT code)) : Int) (Prod.fst (vK code)) (vC code) x26)))))))))))))))
 ((((roomR (vT code)) ∧
 (List.length (clrN (↑(List.length (vT code)) : Int) (Prod.fst (vK code)) (vC code) x21) ≤ (1099511627776 : Nat))) ∧
 (True)) ∧
 ((InR (Prod.fst (vK code) - (1 : Int))) ∧
 ((((roomR (vT code)) ∧
 (List.length (Prod.fst (qbC (vT code) (Prod.fst (vP code)) (Prod.fst (vK code)) (clrN (↑(List.length (vT code)) : Int) (Prod.fst (vK code)) (vC code) x21))) ≤ (1099511627776 : Nat))) ∧
 (True)) ∧
 (BrP (Prod.snd (qbC (vT code) (Prod.fst (vP code)) (Prod.fst (vK code)) (clrN (↑(List.length (vT code)) : Int) (Prod.fst (vK code)) (vC code) x21)) == (0 : Int))
 (BrP (Prod.snd (qbC (vT code) (Prod.fst (vP code)) (Prod.fst (vK code) - (1 : Int)) (Prod.fst (qbC (vT code) (Prod.fst (vP code)) (Prod.fst (vK code)) (clrN (↑(List.length (vT code)) : Int) (Prod.fst (vK code)) (vC code) x21)))) == (0 : Int))
 ((((List.length (Prod.fst (qbC (vT code) (Prod.fst (vP code)) (Prod.fst (vK code) - (1 : Int)) (Prod.fst (qbC (vT code) (Prod.fst (vP code)) (Prod.fst (vK code)) (clrN (↑(List.length (vT code)) : Int) (Prod.fst (vK code)) (vC code) x21))))) ≤ (1000 : Nat)) ∧
 (∀ (i : Nat), i < List.length (Prod.fst (qbC (vT code) (Prod.fst (vP code)) (Prod.fst (vK code) - (1 : Int)) (Prod.fst (qbC (vT code) (Prod.fst (vP code)) (Prod.fst (vK code)) (clrN (↑(List.length (vT code)) : Int) (Prod.fst (vK code)) (vC code) x21))))) → (0 : Int) ≤ List.getD (Prod.fst (qbC (vT code) (Prod.fst (vP code)) (Prod.fst (vK code) - (1 : Int)) (Prod.fst (qbC (vT code) (Prod.fst (vP code)) (Prod.fst (vK code)) (clrN (↑(List.length (vT code)) : Int) (Prod.fst (vK code)) (vC code) x21))))) i (0 : Int) ∧ List.getD (Prod.fst (qbC (vT code) (Prod.fst (vP code)) (Prod.fst (vK code) - (1 : Int)) (Prod.fst (qbC (vT code) (Prod.fst (vP code)) (Prod.fst (vK code)) (clrN (↑(List.length (vT code)) : Int) (Prod.fst (vK code)) (vC code) x21))))) i (0 : Int) ≤ (1000 : Int))) ∧
 (True)) ∧
 (((smW (Prod.fst (qbC (vT code) (Prod.fst (vP code)) (Prod.fst (vK code) - (1 : Int)) (Prod.fst (qbC (vT code) (Prod.fst (vP code)) (Prod.fst (vK code)) (clrN (↑(List.length (vT code)) : Int) (Prod.fst (vK code)) (vC code) x21))))) (List.length (Prod.fst (qbC (vT code) (Prod.fst (vP code)) (Prod.fst (vK code) - (1 : Int)) (Prod.fst (qbC (vT code) (Prod.fst (vP code)) (Prod.fst (vK code)) (clrN (↑(List.length (vT code)) : Int) (Prod.fst (vK code)) (vC code) x21)))))) == (0 : Int)) = Bool.true) ∧
 (True)))
 ((Bool.false = Bool.true) ∧
 (True)))
 ((Bool.false = Bool.true) ∧
 (True))))))))))))))))))))))))))))
theorem lRch_vc (code : List Int) : runF Try.prog (gam lRch_G) noWr (lRch_ann code) Try.f6 (bodyOf Try.f6) [] [.c (.ints .u8 (code))] (lRch_p code) = lRch_V code := by kernel_rfl
set_option maxHeartbeats 1000000 in
theorem lRch_ok (code : List Int) (hpre : (lRch_p code).pre) : lRch_V code := by
  simp only [lRch_p, lRch_V, BrP_iff, true_and, and_true, decide_eq_true_eq, decide_eq_false_iff_not, bne_iff_ne, beq_iff_eq, bne_eq_false_iff_eq, beq_eq_false_iff_ne, Bool.not_eq_true, Bool.not_eq_false, Bool.not_true, Bool.not_false, Bool.not_eq_eq_eq_not, Int.toNat_natCast, List.length_append, List.length_take, List.length_replicate, List.length_set, List.length_map, List.length_drop, List.length_nil, List.length_cons, markL_length, inB, InR, room, bdsOk] at hpre ⊢
  have eB : rbC (wT code) (wP code).1 (wK code).1 (wC code) = wB code := rfl
  have eO : lsS code (wP code).1 (wC code).length ([], 0, rlH code 820 code.length) = oL code (wP code).1 (wC code).length := rfl
  have eA : nxV code (oL code (wP code).1 (wC code).length).2.1 (oL code (wP code).1 (wC code).length).2.2 (wP code).1 = oA code (wP code).1 (wC code).length := rfl
  have eQ : qbC (vT code) (vP code).1 (vK code).1 (vC code) = vQ code := rfl
  simp only [eB, eO, eA, eQ]
  refine ⟨fun _ => trivial, fun hc => ?_⟩
  have T : roomR (wT code) := yT_room (wY_ok hpre)
  have cl := wC_len hpre
  have vt := vT_ok hpre
  have vl := vC_len hpre
  have bl : (wB code).1.length ≤ 512 := rbC_len _ _ _ _
  have ql : (vQ code).1.length ≤ 1000 := Nat.le_trans (qbC_len _ _ _ _) (by omega)
  have hB : wB code = rbC (wT code) (wP code).1 (wK code).1 (wC code) := rfl
  have hQ : vQ code = qbC (vT code) (vP code).1 (vK code).1 (vC code) := rfl
  generalize wB code = B at *
  generalize vQ code = Q at *
  generalize wT code = t at *
  generalize wC code = c at *
  generalize (wP code).1 = p at *
  generalize (wK code).1 = k at *
  generalize vT code = t' at *
  generalize vC code = c' at *
  generalize (vP code).1 = p' at *
  generalize (vK code).1 = j at *
  refine (fun w => ⟨⟨hpre, by omega⟩, ⟨T, by omega⟩, ⟨T, by omega⟩, fun h => absurd rfl h, fun _ => ⟨by omega, fun h => absurd trivial h, fun _ => ⟨fun hB0 => ?_, fun _ => w⟩⟩⟩) ?_
  · -- the second part
    refine ⟨⟨hpre, by omega⟩, ⟨vt.1, by omega⟩, ⟨vt.1, by omega⟩, fun h => absurd rfl h, fun _ => ⟨by omega, fun h => absurd trivial h, fun _ => ⟨fun _ => trivial, fun z => ⟨fun _ => trivial, fun hj => ?_⟩⟩⟩⟩
    have z0 := z
    rw [hQ] at z0
    obtain ⟨q1, q2⟩ := qb_of z0
    obtain ⟨r1, r2, r3, r4, r5, _⟩ := rb_of q1
    obtain ⟨p2, p7⟩ := primeB_le r2
    have n1 := tabB_of (rackB_tab r1)
    obtain ⟨dj1, dj2, _⟩ := degB_of r3
    have c1 := r4.1
    have ci : (c'.length : Int) = (t'.length : Int) ^ j.toNat := by rw [c1, Int.natCast_pow]
    refine ⟨by omega, ⟨0, ⟨Nat.zero_le _, z, by omega⟩, rfl, by rw [clrN_zero]; rfl⟩, fun i ⟨hi, _, hj2⟩ => ⟨fun hl => ?_, fun hl => ?_⟩⟩
    · rw [clrN_length] at hl
      have tv : tupC (t'.length : Int) j (i : Int) = (digN (t'.length : Int) j.toNat (i : Int), 0) := by
        have o : tupOk (t'.length : Int) j (i : Int) = true := by
          simp only [tupOk, Bool.and_eq_true, decide_eq_true_eq]
          exact ⟨by omega, r3, by omega, by omega⟩
        rw [tupC, if_pos o]
      rw [tv]
      have dl := digN_length (t'.length : Int) j.toNat (i : Int)
      have cy := clrN_yes (n := (t'.length : Int)) (k := j) (c := c') (i := i)
      have cn := clrN_no (n := (t'.length : Int)) (k := j) (c := c') (i := i)
      have cL := clrN_length (t'.length : Int) j c' i
      dsimp only
      generalize digN (t'.length : Int) j.toNat (i : Int) = x at *
      generalize clrN (t'.length : Int) j c' i = C at *
      refine ⟨fun h => absurd rfl h, fun _ => ⟨⟨1, ⟨by omega, by omega, by omega⟩, rfl, by rw [if_neg (by simp [flP])]⟩, fun h ⟨h1, h2, h3⟩ => ⟨fun hl2 => ?_, fun hl2 => ?_⟩⟩⟩
      · have e : ((h : Int) - 1).toNat = h - 1 := by omega
        rw [e]
        have lf : (if flP x h = true then C.set i 0 else C).length = C.length := by split <;> simp
        refine ⟨by omega, by omega, by omega, fun y => ⟨by omega, by omega, h + 1, ⟨by omega, by omega, h3⟩, by omega, by omega, ?_⟩, fun y => ⟨by omega, h + 1, ⟨by omega, by omega, h3⟩, by omega, by omega, ?_⟩⟩
        · rw [flP_step x h1, decide_eq_true y, Bool.or_true, if_pos rfl]
          split
          · rw [List.set_set]
          · rfl
        · rw [flP_step x h1, decide_eq_false y, Bool.or_false]
      · refine ⟨by omega, i + 1, ⟨by omega, z, hj2⟩, by omega, by omega, ?_⟩
        rw [show h = x.length by omega, flP_all]
        by_cases f : flB x = true
        · rw [if_pos f]; exact cy f
        · rw [if_neg f]; exact cn (by simpa using f)
    · rw [clrN_length] at hl
      have ei : i = c'.length := by omega
      subst ei
      have F := clr_rw (n := (t'.length : Int)) (k := j) (by omega) r4 c'.length
      obtain ⟨z1, z2, z3, z4, z5⟩ := qq_zero r1 r2 r3 F (by omega) q2
      have cL := clrN_length (t'.length : Int) j c' c'.length
      refine ⟨⟨vt.1, by omega⟩, by omega, ⟨vt.1, by omega⟩, fun _ => ⟨fun _ => ⟨⟨by omega, fun q hq => ?_⟩, smW_zero z5 _ (Nat.le_refl _)⟩, fun h => absurd z3 h⟩, fun h => absurd z1 h⟩
      have := z5 q hq
      omega
  · have h0 := hB0
    rw [hB] at h0
    obtain ⟨r1, r2, r3, r4, r5, r6⟩ := rb_of h0
    obtain ⟨p2, p7⟩ := primeB_le r2
    have ht := rackB_tab r1
    have n1 := (tabB_of ht).1
    have c1 := r4.1
    have D := rL_len (code := code) (m := p) c.length ([], 0, rlH code 820 code.length) (by show (0 : Int) ≤ 0; omega) (by show (0 : Int) ≤ _; omega)
    have D2 := rL_in hpre (m := p) (by omega) c.length ([], 0, rlH code 820 code.length) (fun x hx => (List.not_mem_nil hx).elim)
    have eO : lsS code p c.length ([], 0, rlH code 820 code.length) = oL code p c.length := rfl
    rw [eO] at D D2
    have A := nxV_in hpre (oL code p c.length).2.1 (oL code p c.length).2.2 (n := p) (by omega)
    have eA : nxV code (oL code p c.length).2.1 (oL code p c.length).2.2 p = oA code p c.length := rfl
    rw [eA] at A
    generalize oA code p c.length = a at *
    have D1 : (oL code p c.length).1.length = c.length := by rw [D.1]; simp
    have ow : rwP p (t.length ^ k.toNat) (oL code p c.length).1 := ⟨by rw [D1, c1], fun q hq => D2 _ (getD_mem _ 0 q hq)⟩
    refine ⟨⟨hpre, by omega⟩, ⟨hpre, by omega, by omega, by omega, by omega, by omega⟩, ⟨hpre, D.2.1, by omega⟩, ⟨0, ⟨Nat.zero_le _, hB0⟩, trivial, trivial, trivial, rfl, by simp⟩, ?_⟩
    generalize (oL code p c.length).1 = o at *
    have M := mx_rw (a := a) (by omega) A.1 r4 ow
    have m1 := M.1
    rintro i ⟨hi, _⟩
    refine ⟨fun hl => ?_, fun hl => ?_⟩
    · have x := r4.2 i (by omega)
      have y := ow.2 i (by omega)
      have m := mul_le36 (x := a) (y := c.getD i 0) (by omega) (by omega)
      have g : (mxL p a c o).getD i 0 = (a * c.getD i 0 + o.getD i 0).tmod p := tab_getD _ _ _ (by omega)
      refine ⟨by omega, by omega, by omega, by omega, by omega, by omega, by omega, i + 1, ⟨by omega, hB0⟩, by omega, by omega, ?_⟩
      rw [← take_snoc (mxL p a c o) 0 i (by omega), g]
    · have em : List.take i (mxL p a c o) = mxL p a c o := List.take_of_length_le (by omega)
      have e2 := rb_to r1 r2 r3 ow r5
      have e3 := rb_to r1 r2 r3 M r5
      have l1 := bdF_length t p k.toNat c c.length
      have l2 := bdF_length t p k.toNat o o.length
      have l3 := bdF_length t p k.toNat (mxL p a c o) (mxL p a c o).length
      have bw := (bd_lin (t := t) p2 (K := k.toNat) r4.2 c.length (Nat.le_refl _)).1
      have sw := (bd_lin (t := t) p2 (K := k.toNat) ow.2 o.length (Nat.le_refl _)).1
      have eB := hB.trans r6
      rw [em, e2, e3, eB]
      rw [eB] at bl
      dsimp only at bl ⊢
      refine ⟨⟨T, by omega⟩, ⟨T, by omega⟩, fun h => absurd rfl h, fun _ => ⟨fun h => absurd rfl h, fun _ => ⟨fun h => absurd (by omega) h, fun _ => ⟨fun h => absurd (by omega) h, fun _ => ⟨⟨0, ⟨Nat.zero_le _, rfl⟩, rfl, rfl⟩, fun q ⟨hq, _⟩ => ⟨fun hl2 => ?_, fun hl2 => ?_⟩⟩⟩⟩⟩⟩
      · have x := bw.2 q (by omega)
        have y := sw.2 q (by omega)
        have m := mul_le36 (x := a) (y := (bdF t p k.toNat c c.length).getD q 0) (by omega) (by omega)
        have lin := bd_mix (t := t) (K := k.toNat) p2 A.1 r4 ow (q := q) (by omega)
        exact ⟨by omega, by omega, by omega, by omega, by omega, by omega, fun h => absurd lin h, fun _ => ⟨by omega, q + 1, ⟨by omega, rfl⟩, by omega, by omega⟩⟩
      · refine ⟨fun hk => ?_, fun _ => w⟩
        have d1 := deg_le n1 r3 (by omega)
        obtain ⟨dk1, dk2, _⟩ := degB_of r3
        have hr := r1
        simp only [rackB, Bool.and_eq_true] at hr
        have hq0 := rk_none.1 hr.2
        obtain ⟨K, eK⟩ : ∃ K, k.toNat = K + 2 := ⟨k.toNat - 2, by omega⟩
        have eK1 : (k - 1).toNat = K + 1 := by omega
        rw [eK] at r4 bw l1 bl ⊢
        rw [show K + 2 - 1 = K + 1 by omega] at bw l1
        have e4 := rb_to r1 r2 d1 (c := bdF t p (K + 2) c c.length) (by rw [eK1]; exact bw) (by omega)
        rw [eK1] at e4
        have l4 := bdF_length t p (K + 1) (bdF t p (K + 2) c c.length) (bdF t p (K + 2) c c.length).length
        rw [show K + 1 - 1 = K by omega] at l4
        have pw : t.length ^ K ≤ t.length ^ (K + 1) := Nat.pow_le_pow_right n1 (by omega)
        have zz : ∀ r, r < (bdF t p (K + 1) (bdF t p (K + 2) c c.length) (bdF t p (K + 2) c c.length).length).length → (bdF t p (K + 1) (bdF t p (K + 2) c c.length) (bdF t p (K + 2) c c.length).length).getD r 0 = 0 := fun r hr' => bd_bd ht hq0 p2 r4 (by rw [← l4]; exact hr')
        rw [e4]
        dsimp only
        exact ⟨by omega, ⟨T, by omega⟩, fun h => absurd rfl h, fun _ => ⟨⟨by omega, fun i hi => by have := zz i hi; omega⟩, fun h => absurd (smW_zero zz _ (Nat.le_refl _)) h, fun _ => w⟩⟩
theorem lRch_fits : Fits Try.prog 6 ⟨[], lRch_ct⟩ := by
  refine fits_fn (Γ := gam lRch_G) (gok_cons big_fits (gok_cons DrawRB_fits (gok_cons iRB_fits (gok_cons sRB_fits (gok_cons likeInts_fits (gok_cons roll_fits (gok_cons list5_fits (gok_cons below_fits (gok_cons sum_fits (gok_cons DrawQB_fits (gok_cons iQB_fits (gok_cons sQB_fits (gok_cons iTupleAt_fits gok_nil))))))))))))) Try.func6 (by kernel_rfl) (by kernel_rfl) (by kernel_rfl) fun ds p h hp => ?_
  unfold lRch_ct at h
  split at h
  · cases h
    exact ⟨noWr, lRch_ann _ , by rw [lRch_vc]; exact lRch_ok _  hp⟩
  · cases h

end Go.Sx
