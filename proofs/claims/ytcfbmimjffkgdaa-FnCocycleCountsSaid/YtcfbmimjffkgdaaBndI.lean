/- BndI -/
import Derived.Test.YtcfbmimjffkgdaaDel
import Derived.Test.YtcfbmimjffkgdaaOwn
open Go Go.Proofs
namespace Go.Sx
set_option linter.unusedSimpArgs false
set_option linter.unusedVariables false

def Clone_p (l : List Int) : Post := ⟨l.length ≠ 0 ∧ room l.length, .c (.ints 2 .i64 (l)), []⟩
def Clone_ct : List AD → Option Post
  | [.c (.ints .i64 (l))] => some (Clone_p l)
  | _ => none
def Clone_G : List (Nat × Ctr) := []
def Clone_V (l : List Int) : Prop :=
  ((FC.len (FC.ints IntKind.i64 l) ≠ (0 : Nat)) ∧
 ((room (List.length ([] : List Int) + List.length l)) ∧
 (([] ++ l = l) ∧
 (True))))
theorem Clone_vc (l : List Int) : runF Try.prog (gam Clone_G) noWr noAnn Try.f106 (bodyOf Try.f106) [] [.c (.ints .i64 (l))] (Clone_p l) = Clone_V l := by kernel_rfl
theorem Clone_ok (l : List Int) (hpre : (Clone_p l).pre) : Clone_V l := by
  simp only [Clone_p, Clone_V, BrP_iff, true_and, and_true, decide_eq_true_eq, decide_eq_false_iff_not, bne_iff_ne, beq_iff_eq, bne_eq_false_iff_eq, beq_eq_false_iff_ne, Bool.not_eq_true, Bool.not_eq_false, Bool.not_true, Bool.not_false, Bool.not_eq_eq_eq_not, Int.toNat_natCast, List.length_append, List.length_take, List.length_replicate, List.length_set, List.length_map, List.length_drop, List.length_nil, List.length_cons, markL_length, inB, InR, room, bdsOk] at hpre ⊢
  obtain ⟨a, b⟩ := hpre
  exact ⟨a, by omega, rfl⟩
theorem Clone_fits : Fits Try.prog 106 ⟨[], Clone_ct⟩ := by
  refine fits_fn (Γ := gam Clone_G) gok_nil Try.func106 (by kernel_rfl) (by kernel_rfl) (by kernel_rfl) fun ds p h hp => ?_
  unfold Clone_ct at h
  split at h
  · cases h
    exact ⟨noWr, noAnn, by rw [Clone_vc]; exact Clone_ok _  hp⟩
  · cases h

def numberOf_p (n : Int) (x : List Int) : Post := ⟨1 ≤ n ∧ inT n.toNat x ∧ n ^ x.length ≤ 512 ∧ x.length ≤ 1000, .c (.int .i64 (plc n x)), []⟩
def numberOf_ct : List AD → Option Post
  | [.c (.int .i64 (n)), .c (.ints .i64 (x))] => some (numberOf_p n x)
  | _ => none
def numberOf_ann (n : Int) (x : List Int) : Nat → Option Ann
  | 0 => some (Ann.mk ((Nat)) (fun i => ⟨[(0, .c (.int .i64 (n))), (5, .c (.int .i64 (plc n (x.take i)))), (8, .c (.ro (.ints .i64 (x)))), (9, .c (.int .i64 ((x.length : Int)))), (10, .c (.int .i64 ((i : Int))))], []⟩) (fun i => i ≤ x.length) (fun i => x.length - i) (fun _ => noAnn))
  | _ => none
def numberOf_G : List (Nat × Ctr) := []
def numberOf_V (n : Int) (x : List Int) : Prop :=
  ((∃ x0 : Nat, ((x0 ≤ List.length x) ∧
 ((n = n) ∧
 (((0 : Int) = plc n (List.take x0 x)) ∧
 ((x = x) ∧
 (((↑(List.length x) : Int) = (↑(List.length x) : Int)) ∧
 ((0 : Int) = (↑x0 : Int)))))))) ∧
 (∀ x1 : Nat, ((x1 ≤ List.length x) →
 (BrP (Decidable.decide ((↑x1 : Int) < (↑(List.length x) : Int)))
 ((inB (↑x1 : Int) (List.length x)) ∧
 ((InR (plc n (List.take x1 x) * n)) ∧
 ((InR (plc n (List.take x1 x) * n + List.getD x (Int.toNat (↑x1 : Int)) (0 : Int))) ∧
 ((InR ((↑x1 : Int) + (1 : Int))) ∧
 (∃ x2 : Nat, ((x2 ≤ List.length x) ∧
 ((List.length x - x2 < List.length x - x1) ∧
 ((n = n) ∧
 ((plc n (List.take x1 x) * n + List.getD x (Int.toNat (↑x1 : Int)) (0 : Int) = plc n (List.take x2 x)) ∧
 ((x = x) ∧
 (((↑(List.length x) : Int) = (↑(List.length x) : Int)) ∧
 ((↑x1 : Int) + (1 : Int) = (↑x2 : Int)))))))))))))
 ((plc n (List.take x1 x) = plc n x) ∧
 (True))))))
theorem numberOf_vc (n : Int) (x : List Int) : runF Try.prog (gam numberOf_G) noWr (numberOf_ann n x) Try.f139 (bodyOf Try.f139) [] [.c (.int .i64 (n)), .c (.ints .i64 (x))] (numberOf_p n x) = numberOf_V n x := by kernel_rfl
theorem numberOf_ok (n : Int) (x : List Int) (hpre : (numberOf_p n x).pre) : numberOf_V n x := by
  simp only [numberOf_p, numberOf_V, BrP_iff, true_and, and_true, decide_eq_true_eq, decide_eq_false_iff_not, bne_iff_ne, beq_iff_eq, bne_eq_false_iff_eq, beq_eq_false_iff_ne, Bool.not_eq_true, Bool.not_eq_false, Bool.not_true, Bool.not_false, Bool.not_eq_eq_eq_not, Int.toNat_natCast, List.length_append, List.length_take, List.length_replicate, List.length_set, List.length_map, List.length_drop, List.length_nil, List.length_cons, markL_length, inB, InR, room, bdsOk] at hpre ⊢
  obtain ⟨hn, hx, hp, hl⟩ := hpre
  obtain ⟨m, rfl⟩ : ∃ m : Nat, n = (m : Int) := ⟨n.toNat, by omega⟩
  rw [Int.toNat_natCast] at hx
  refine ⟨⟨0, by omega, rfl, rfl⟩, fun i hi => ⟨fun h => ?_, fun h => by rw [List.take_of_length_le (by omega)]⟩⟩
  have a := plc_le (by omega) hx i (by omega)
  have b := plc_le (by omega) hx (i + 1) (by omega)
  have c := hx i (by omega)
  have d := pow_le (n := (m : Int)) (by omega) (show i + 1 ≤ x.length by omega)
  have e := plc_step m x i (by omega)
  have f := Int.mul_nonneg a.1 (show (0 : Int) ≤ m by omega)
  exact ⟨by omega, by omega, by omega, by omega, i + 1, by omega, by omega, e.symm, by omega⟩
theorem numberOf_fits : Fits Try.prog 139 ⟨[], numberOf_ct⟩ := by
  refine fits_fn (Γ := gam numberOf_G) gok_nil Try.func139 (by kernel_rfl) (by kernel_rfl) (by kernel_rfl) fun ds p h hp => ?_
  unfold numberOf_ct at h
  split at h
  · cases h
    exact ⟨noWr, numberOf_ann _ _ , by rw [numberOf_vc]; exact numberOf_ok _ _  hp⟩
  · cases h



/-- A table, a prime, a tuple whose boundary is taken. -/
def bdOk (t : List (List Int)) (p : Int) (x : List Int) : Prop := tabB t = true ∧ 2 ≤ p ∧ p ≤ 7 ∧ inT t.length x ∧ (t.length : Int) ^ (x.length - 1) ≤ 512 ∧ x.length ≤ 1000

def addBoundary_p (t : List (List Int)) (p : Int) (x : List Int) (times : Int) (c : List Int) : Post := ⟨bdOk t p x ∧ 0 ≤ times ∧ times ≤ p - 1 ∧ inP p c ∧ c.length = t.length ^ (x.length - 1), .tup [], [.ints 2 .i64 (adF t p x times c x.length)]⟩
def addBoundary_ct : List AD → Option Post
  | [.c (.rows .i64 (t)), .c (.int .i64 (p)), .c (.ints .i64 (x)), .c (.int .i64 (times)), .c (.ints .i64 (c))] => some (addBoundary_p t p x times c)
  | _ => none
def addBoundary_ann (t : List (List Int)) (p : Int) (x : List Int) (times : Int) (c : List Int) : Nat → Option Ann
  | 0 => some (Ann.mk ((Nat)) (fun i => ⟨[(0, .c (.ro (.rows .i64 (t)))), (1, .c (.int .i64 (p))), (2, .c (.ro (.ints .i64 (x)))), (4, .c (.own (764))), (10, .c (.int .i64 ((t.length : Int)))), (11, .c (.int .i64 (sgI p times i))), (21, .c (.ro (.ints .i64 (x)))), (22, .c (.int .i64 ((x.length : Int)))), (23, .c (.int .i64 ((i : Int))))], [(764, some (.ints 2 .i64 (adF t p x times c i)))]⟩) (fun i => i ≤ x.length) (fun i => x.length - i) (fun i => fun b_ => match b_ with | 2 => some (Ann.mk ((Nat)) (fun k => ⟨[(0, .c (.ro (.rows .i64 (t)))), (1, .c (.int .i64 (p))), (2, .c (.ro (.ints .i64 (x)))), (4, .c (.own (764))), (10, .c (.int .i64 ((t.length : Int)))), (11, .c (.int .i64 (sgI p times (i + 1)))), (21, .c (.ro (.ints .i64 (x)))), (22, .c (.int .i64 ((x.length : Int)))), (23, .c (.int .i64 ((i : Int)))), (12, .c (.int .i64 ((i : Int)))), (13, .c (.int .i64 (x.getD i 0))), (14, .c (.own (38))), (15, .c (.int .i64 (plc t.length (wo i x)))), (16, .c (.int .i64 ((k : Int))))], [(764, some (.ints 2 .i64 (adF t p x times c i))), (38, some (.ints 2 .i64 (mvk t (x.getD i 0) i k (wo i x))))]⟩) (fun k => i ≤ k ∧ k ≤ x.length - 1 ∧ i < x.length) (fun k => x.length - k) (fun _ => noAnn)) | _ => none))
  | _ => none
def addBoundary_G : List (Nat × Ctr) := [(106, ⟨[], Clone_ct⟩), (138, ⟨[(0,99),(0,99)], sDelete_ct⟩), (139, ⟨[], numberOf_ct⟩)]
def addBoundary_V (t : List (List Int)) (p : Int) (x : List Int) (times : Int) (c : List Int) : Prop :=
  ((∃ x0 : Nat, ((x0 ≤ List.length x) ∧
 ((t = t) ∧
 ((p = p) ∧
 ((x = x) ∧
 (((↑(List.length t) : Int) = (↑(List.length t) : Int)) ∧
 ((times = sgI p times x0) ∧
 ((x = x) ∧
 (((↑(List.length x) : Int) = (↑(List.length x) : Int)) ∧
 (((0 : Int) = (↑x0 : Int)) ∧
 (c = adF t p x times c x0))))))))))) ∧
 (∀ x1 : Nat, ((x1 ≤ List.length x) →
 (BrP (Decidable.decide ((↑x1 : Int) < (↑(List.length x) : Int)))
 ((inB (↑x1 : Int) (List.length x)) ∧
 ((InR (p - sgI p times x1)) ∧
 ((p ≠ (0 : Int)) ∧
 ((((List.length x ≠ (0 : Nat)) ∧
 (room (List.length x))) ∧
 (True)) ∧
 ((InR ((↑x1 : Int) + (1 : Int))) ∧
 ((((0 : Int) ≤ (↑x1 : Int)) ∧
 (((↑x1 : Int) < (↑x1 : Int) + (1 : Int)) ∧
 ((↑x1 : Int) + (1 : Int) ≤ (↑(List.length x) : Int)))) ∧
 (((((1 : Int) ≤ (↑(List.length t) : Int)) ∧
 ((inT (Int.toNat (↑(List.length t) : Int)) (List.take (Int.toNat (↑x1 : Int)) x ++ List.drop (Int.toNat ((↑x1 : Int) + (1 : Int))) x)) ∧
 (((↑(List.length t) : Int) ^ List.length (List.take (Int.toNat (↑x1 : Int)) x ++ List.drop (Int.toNat ((↑x1 : Int) + (1 : Int))) x) ≤ (512 : Int)) ∧
 (List.length (List.take (Int.toNat (↑x1 : Int)) x ++ List.drop (Int.toNat ((↑x1 : Int) + (1 : Int))) x) ≤ (1000 : Nat))))) ∧
 (True)) ∧
 ((∃ x2 : Nat, (((x1 ≤ x2) ∧
 ((x2 ≤ List.length x - (1 : Nat)) ∧
 (x1 < List.length x))) ∧
 ((t = t) ∧
 ((p = p) ∧
 ((x = x) ∧
 (((↑(List.length t) : Int) = (↑(List.length t) : Int)) ∧
 ((Int.tmod (p - sgI p times x1) p = sgI p times (x1 + (1 : Nat))) ∧
 ((x = x) ∧
 (((↑(List.length x) : Int) = (↑(List.length x) : Int)) ∧
 (((↑x1 : Int) = (↑x1 : Int)) ∧
 (((↑x1 : Int) = (↑x1 : Int)) ∧
 ((List.getD x (Int.toNat (↑x1 : Int)) (0 : Int) = List.getD x x1 (0 : Int)) ∧
 ((plc (↑(List.length t) : Int) (List.take (Int.toNat (↑x1 : Int)) x ++ List.drop (Int.toNat ((↑x1 : Int) + (1 : Int))) x) = plc (↑(List.length t) : Int) (wo x1 x)) ∧
 (((↑x1 : Int) = (↑x2 : Int)) ∧
 ((adF t p x times c x1 = adF t p x times c x1) ∧
 (List.take (Int.toNat (↑x1 : Int)) x ++ List.drop (Int.toNat ((↑x1 : Int) + (1 : Int))) x = mvk t (List.getD x x1 (0 : Int)) x1 x2 (wo x1 x))))))))))))))))) ∧
 (∀ x3 : Nat, (((x1 ≤ x3) ∧
 ((x3 ≤ List.length x - (1 : Nat)) ∧
 (x1 < List.length x))) →
 (BrP (Decidable.decide ((↑x3 : Int) < (↑(List.length (mvk t (List.getD x x1 (0 : Int)) x1 x3 (wo x1 x))) : Int)))
 ((inB (List.getD x x1 (0 : Int)) (List.length t)) ∧
 ((inB (↑x3 : Int) (List.length (mvk t (List.getD x x1 (0 : Int)) x1 x3 (wo x1 x)))) ∧
 ((inB (List.getD (mvk t (List.getD x x1 (0 : Int)) x1 x3 (wo x1 x)) (Int.toNat (↑x3 : Int)) (0 : Int)) (List.length (List.getD t (Int.toNat (List.getD x x1 (0 : Int))) []))) ∧
 ((inB (↑x3 : Int) (List.length (mvk t (List.getD x x1 (0 : Int)) x1 x3 (wo x1 x)))) ∧
 ((InR ((↑x3 : Int) + (1 : Int))) ∧
 (∃ x4 : Nat, (((x1 ≤ x4) ∧
 ((x4 ≤ List.length x - (1 : Nat)) ∧
 (x1 < List.length x))) ∧
 ((List.length x - x4 < List.length x - x3) ∧
 ((t = t) ∧
 ((p = p) ∧
 ((x = x) ∧
 (((↑(List.length t) : Int) = (↑(List.length t) : Int)) ∧
 ((sgI p times (x1 + (1 : Nat)) = sgI p times (x1 + (1 : Nat))) ∧
 ((x = x) ∧
 (((↑(List.length x) : Int) = (↑(List.length x) : Int)) ∧
 (((↑x1 : Int) = (↑x1 : Int)) ∧
 (((↑x1 : Int) = (↑x1 : Int)) ∧
 ((List.getD x x1 (0 : Int) = List.getD x x1 (0 : Int)) ∧
 ((plc (↑(List.length t) : Int) (wo x1 x) = plc (↑(List.length t) : Int) (wo x1 x)) ∧
 (((↑x3 : Int) + (1 : Int) = (↑x4 : Int)) ∧
 ((adF t p x times c x1 = adF t p x times c x1) ∧
 (List.set (mvk t (List.getD x x1 (0 : Int)) x1 x3 (wo x1 x)) (Int.toNat (↑x3 : Int)) (List.getD (List.getD t (Int.toNat (List.getD x x1 (0 : Int))) []) (Int.toNat (List.getD (mvk t (List.getD x x1 (0 : Int)) x1 x3 (wo x1 x)) (Int.toNat (↑x3 : Int)) (0 : Int))) (0 : Int)) = mvk t (List.getD x x1 (0 : Int)) x1 x4 (wo x1 x)))))))))))))))))))))))
 (((((1 : Int) ≤ (↑(List.length t) : Int)) ∧
 ((inT (Int.toNat (↑(List.length t) : Int)) (mvk t (List.getD x x1 (0 : Int)) x1 x3 (wo x1 x))) ∧
 (((↑(List.length t) : Int) ^ List.length (mvk t (List.getD x x1 (0 : Int)) x1 x3 (wo x1 x)) ≤ (512 : Int)) ∧
 (List.length (mvk t (List.getD x x1 (0 : Int)) x1 x3 (wo x1 x)) ≤ (1000 : Nat))))) ∧
 (True)) ∧
 ((inB (plc (↑(List.length t) : Int) (wo x1 x)) (List.length (adF t p x times c x1))) ∧
 ((InR (List.getD (adF t p x times c x1) (Int.toNat (plc (↑(List.length t) : Int) (wo x1 x))) (0 : Int) + sgI p times (x1 + (1 : Nat)))) ∧
 ((p ≠ (0 : Int)) ∧
 ((inB (plc (↑(List.length t) : Int) (wo x1 x)) (List.length (adF t p x times c x1))) ∧
 ((inB (plc (↑(List.length t) : Int) (mvk t (List.getD x x1 (0 : Int)) x1 x3 (wo x1 x))) (List.length (List.set (adF t p x times c x1) (Int.toNat (plc (↑(List.length t) : Int) (wo x1 x))) (Int.tmod (List.getD (adF t p x times c x1) (Int.toNat (plc (↑(List.length t) : Int) (wo x1 x))) (0 : Int) + sgI p times (x1 + (1 : Nat))) p)))) ∧
 ((InR (List.getD (List.set (adF t p x times c x1) (Int.toNat (plc (↑(List.length t) : Int) (wo x1 x))) (Int.tmod (List.getD (adF t p x times c x1) (Int.toNat (plc (↑(List.length t) : Int) (wo x1 x))) (0 : Int) + sgI p times (x1 + (1 : Nat))) p)) (Int.toNat (plc (↑(List.length t) : Int) (mvk t (List.getD x x1 (0 : Int)) x1 x3 (wo x1 x)))) (0 : Int) + p)) ∧
 ((InR (List.getD (List.set (adF t p x times c x1) (Int.toNat (plc (↑(List.length t) : Int) (wo x1 x))) (Int.tmod (List.getD (adF t p x times c x1) (Int.toNat (plc (↑(List.length t) : Int) (wo x1 x))) (0 : Int) + sgI p times (x1 + (1 : Nat))) p)) (Int.toNat (plc (↑(List.length t) : Int) (mvk t (List.getD x x1 (0 : Int)) x1 x3 (wo x1 x)))) (0 : Int) + p - sgI p times (x1 + (1 : Nat)))) ∧
 ((p ≠ (0 : Int)) ∧
 ((inB (plc (↑(List.length t) : Int) (mvk t (List.getD x x1 (0 : Int)) x1 x3 (wo x1 x))) (List.length (List.set (adF t p x times c x1) (Int.toNat (plc (↑(List.length t) : Int) (wo x1 x))) (Int.tmod (List.getD (adF t p x times c x1) (Int.toNat (plc (↑(List.length t) : Int) (wo x1 x))) (0 : Int) + sgI p times (x1 + (1 : Nat))) p)))) ∧
 ((InR ((↑x1 : Int) + (1 : Int))) ∧
 (∃ x5 : Nat, ((x5 ≤ List.length x) ∧
 ((List.length x - x5 < List.length x - x1) ∧
 ((t = t) ∧
 ((p = p) ∧
 ((x = x) ∧
 (((↑(List.length t) : Int) = (↑(List.length t) : Int)) ∧
 ((sgI p times (x1 + (1 : Nat)) = sgI p times x5) ∧
 ((x = x) ∧
 (((↑(List.length x) : Int) = (↑(List.length x) : Int)) ∧
 (((↑x1 : Int) + (1 : Int) = (↑x5 : Int)) ∧
 (List.set (List.set (adF t p x times c x1) (Int.toNat (plc (↑(List.length t) : Int) (wo x1 x))) (Int.tmod (List.getD (adF t p x times c x1) (Int.toNat (plc (↑(List.length t) : Int) (wo x1 x))) (0 : Int) + sgI p times (x1 + (1 : Nat))) p)) (Int.toNat (plc (↑(List.length t) : Int) (mvk t (List.getD x x1 (0 : Int)) x1 x3 (wo x1 x)))) (Int.tmod (List.getD (List.set (adF t p x times c x1) (Int.toNat (plc (↑(List.length t) : Int) (wo x1 x))) (Int.tmod (List.getD (adF t p x times c x1) (Int.toNat (plc (↑(List.length t) : Int) (wo x1 x))) (0 : Int) + sgI p times (x1 + (1 : Nat))) p)) (Int.toNat (plc (↑(List.length t) : Int) (mvk t (List.getD x x1 (0 : Int)) x1 x3 (wo x1 x)))) (0 : Int) + p - sgI p times (x1 + (1 : Nat))) p) = adF t p x times c x5))))))))))))))))))))))))))))))))))
 ((True) ∧
 ((adF t p x times c x1 = adF t p x times c (List.length x)) ∧
 (True)))))))
theorem addBoundary_vc (t : List (List Int)) (p : Int) (x : List Int) (times : Int) (c : List Int) : runF Try.prog (gam addBoundary_G) noWr (addBoundary_ann t p x times c) Try.f113 (bodyOf Try.f113) [(4, 0)] [.c (.rows .i64 (t)), .c (.int .i64 (p)), .c (.ints .i64 (x)), .c (.int .i64 (times)), .c (.ints .i64 (c))] (addBoundary_p t p x times c) = addBoundary_V t p x times c := by kernel_rfl
theorem addBoundary_ok (t : List (List Int)) (p : Int) (x : List Int) (times : Int) (c : List Int) (hpre : (addBoundary_p t p x times c).pre) : addBoundary_V t p x times c := by
  simp only [addBoundary_p, addBoundary_V, BrP_iff, true_and, and_true, decide_eq_true_eq, decide_eq_false_iff_not, bne_iff_ne, beq_iff_eq, bne_eq_false_iff_eq, beq_eq_false_iff_ne, Bool.not_eq_true, Bool.not_eq_false, Bool.not_true, Bool.not_false, Bool.not_eq_eq_eq_not, Int.toNat_natCast, List.length_append, List.length_take, List.length_replicate, List.length_set, List.length_map, List.length_drop, List.length_nil, List.length_cons, markL_length, inB, InR, room, bdsOk] at hpre ⊢
  obtain ⟨⟨h1, p1, p2, hx, hN, hl⟩, t1, t2, hc, hcl⟩ := hpre
  obtain ⟨n1, n2, ht⟩ := tabB_of h1
  have hcN : (c.length : Int) = (t.length : Int) ^ (x.length - 1) := by rw [hcl, Int.natCast_pow]
  refine ⟨⟨0, by omega, rfl, rfl, rfl⟩, fun i hi => ⟨fun h => ?_, fun h => by rw [show i = x.length by omega]⟩⟩
  have hi' : i < x.length := by omega
  have s1 := sgI_in (p := p) (by omega) ⟨t1, t2⟩ i
  have s2 := sgI_in (p := p) (by omega) ⟨t1, t2⟩ (i + 1)
  have hw := wo_in hx hi'
  have hwl := wo_length i x hi'
  have ew : List.take i x ++ List.drop ((i : Int) + 1).toNat x = wo i x := by rw [show ((i : Int) + 1).toNat = i + 1 by omega]; rfl
  have ev : min i x.length + (x.length - ((i : Int) + 1).toNat) = x.length - 1 := by omega
  have xi := hx i hi'
  have A := plc_all n1 hw
  rw [hwl] at A
  rw [ew, ev]
  refine ⟨by omega, by omega, by omega, ⟨by omega, by omega⟩, by omega, by omega, ⟨by omega, hw, hN, by omega⟩, ⟨i, by omega, rfl, rfl, rfl, (mvk_none _ _ _ _).symm⟩, fun k ⟨hk1, hk2, _⟩ => ⟨fun h3 => ?_, fun h3 => ?_⟩⟩
  · rw [mvk_length, hwl] at h3
    have v := mvk_in h1 hw (c := x.getD i 0) (by omega) i k k (by rw [mvk_length, hwl]; omega)
    have hat := mvk_at t (x.getD i 0) i k (wo i x) (by omega)
    have r := (ht (x.getD i 0).toNat (by omega)).1
    rw [mvk_length, hwl]
    refine ⟨by omega, by omega, by omega, by omega, by omega, k + 1, by omega, by omega, by omega, ?_⟩
    rw [hat]
    exact mvk_step t (x.getD i 0) i k (wo i x) hk1
  · rw [mvk_length, hwl] at h3
    have ek : k = x.length - 1 := by omega
    subst ek
    have hb := mvk_in h1 hw (c := x.getD i 0) (by omega) i (x.length - 1)
    have B := plc_all n1 hb
    rw [mvk_length, hwl] at B
    have hal := adF_length t p x times c i
    have hai := adF_in t (p := p) (by omega) x ⟨t1, t2⟩ hc i
    have va := hai (plc t.length (wo i x)).toNat (by omega)
    have vb := hai (plc t.length (mvk t (x.getD i 0) i (x.length - 1) (wo i x))).toNat (by omega)
    have vc : 0 ≤ ((adF t p x times c i).set (plc t.length (wo i x)).toNat (((adF t p x times c i).getD (plc t.length (wo i x)).toNat 0 + sgI p times (i + 1)).tmod p)).getD (plc t.length (mvk t (x.getD i 0) i (x.length - 1) (wo i x))).toNat 0 ∧ ((adF t p x times c i).set (plc t.length (wo i x)).toNat (((adF t p x times c i).getD (plc t.length (wo i x)).toNat 0 + sgI p times (i + 1)).tmod p)).getD (plc t.length (mvk t (x.getD i 0) i (x.length - 1) (wo i x))).toNat 0 ≤ p - 1 := by
      rw [getD_set _ _ _ _ (by omega)]
      split
      · exact tmod_in (by omega) (by omega)
      · exact vb
    rw [mvk_length, hwl]
    refine ⟨⟨by omega, hb, hN, by omega⟩, by omega, by omega, by omega, by omega, by omega, by omega, by omega, by omega, by omega, by omega, i + 1, by omega, by omega, rfl, by omega, rfl⟩
theorem addBoundary_fits : Fits Try.prog 113 ⟨[(4, 0)], addBoundary_ct⟩ := by
  refine fits_fn (Γ := gam addBoundary_G) (gok_cons Clone_fits (gok_cons sDelete_fits (gok_cons numberOf_fits gok_nil))) Try.func113 (by kernel_rfl) (by kernel_rfl) (by kernel_rfl) fun ds p h hp => ?_
  unfold addBoundary_ct at h
  split at h
  · cases h
    exact ⟨noWr, addBoundary_ann _ _ _ _ _ , by rw [addBoundary_vc]; exact addBoundary_ok _ _ _ _ _  hp⟩
  · cases h



/-- The boundary of a chain of degree k, up to i. -/
def bdF (t : List (List Int)) (p : Int) (k : Nat) (c : List Int) : Nat → List Int
  | 0 => List.replicate (t.length ^ (k - 1)) 0
  | i + 1 => if c.getD i 0 = 0 then bdF t p k c i else stF p (c.getD i 0) (ptF t p (digN t.length k i) k) (bdF t p k c i)

end Go.Sx
