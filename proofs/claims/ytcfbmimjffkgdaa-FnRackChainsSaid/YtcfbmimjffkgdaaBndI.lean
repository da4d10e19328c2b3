/- BndI -/
import Derived.Test.YtcfbmimjffkgdaaDel
import Derived.Test.YtcfbmimjffkgdaaOwn
open Go Go.Proofs
namespace Go.Sx
set_option linter.unusedSimpArgs false
set_option linter.unusedVariables false

def Clone_p (l : List Int) : Post := ⟨l.length ≠ 0 ∧ room l.length, .c (.ints 2 .i64 (l)), []⟩
def Clone_ct : List AD → Option Post
  | [.c (.ints .i64 (l))] => some (Clone_p l)
  | _ => none
def Clone_G : List (Nat × Ctr) := []
def Clone_V (l : List Int) : Prop :=
  ((FC.len (FC.ints IntKind.i64 l) ≠ (0 : Nat)) ∧
 ((room (List.length ([] : List Int) + List.length l)) ∧
 (([] ++ l = l) ∧
 (True))))
theorem Clone_vc (l : List Int) : runF Try.prog (gam Clone_G) noWr noAnn Try.f106 (bodyOf Try.f106) [] [.c (.ints .i64 (l))] (Clone_p l) = Clone_V l := by kernel_rfl
theorem Clone_ok (l : List Int) (hpre : (Clone_p l).pre) : Clone_V l := by
  simp only [Clone_p, Clone_V, BrP_iff, true_and, and_true, decide_eq_true_eq, decide_eq_false_iff_not, bne_iff_ne, beq_iff_eq, bne_eq_false_iff_eq, beq_eq_false_iff_ne, Bool.not_eq_true, Bool.not_eq_false, Bool.not_true, Bool.not_false, Bool.not_eq_eq_eq_not, Int.toNat_natCast, List.length_append, List.length_take, List.length_replicate, List.length_set, List.length_map, List.length_drop, List.length_nil, List.length_cons, markL_length, inB, InR, room, bdsOk] at hpre ⊢
  obtain ⟨a, b⟩ := hpre
  exact ⟨a, by omega, rfl⟩
theorem Clone_fits : Fits Try.prog 106 ⟨[], Clone_ct⟩ := by
  refine fits_fn (Γ := gam Clone_G) gok_nil Try.func106 (by kernel_rfl) (by kernel_rfl) (by kernel_rfl) fun ds p h hp => ?_
  unfold Clone_ct at h
  split at h
  · cases h
    exact ⟨noWr, noAnn, by rw [Clone_vc]; exact Clone_ok _  hp⟩
  · cases h

def numberOf_p (n : Int) (x : List Int) : Post := ⟨1 ≤ n ∧ inT n.toNat x ∧ n ^ x.length ≤ 512 ∧ x.length ≤ 1000, .c (.int .i64 (plc n x)), []⟩
def numberOf_ct : List AD → Option Post
  | [.c (.int .i64 (n)), .c (.ints .i64 (x))] => some (numberOf_p n x)
  | _ => none
def numberOf_ann (n : Int) (x : List Int) : Nat → Option Ann
  | 0 => some (Ann.mk ((Nat)) (fun i => ⟨[(0, .c (.int .i64 (n))), (5, .c (.int .i64 (plc n (x.take i)))), (8, .c (.ro (.ints .i64 (x)))), (9, .c (.int .i64 ((x.length : Int)))), (10, .c (.int .i64 ((i : Int))))], []⟩) (fun i => i ≤ x.length) (fun i => x.length - i) (fun _ => noAnn))
  | _ => none
def numberOf_G : List (Nat × Ctr) := []
def numberOf_V (n : Int) (x : List Int) : Prop :=
  ((∃ x0 : Nat, ((x0 ≤ List.length x) ∧
 ((n = n) ∧
 (((0 : Int) = plc n (List.take x0 x)) ∧
 ((x = x) ∧
 (((↑(List.length x) : Int) = (↑(List.length x) : Int)) ∧
 ((0 : Int) = (↑x0 : Int)))))))) ∧
 (∀ x1 : Nat, ((x1 ≤ List.length x) →
 (BrP (Decidable.decide ((↑x1 : Int) < (↑(List.length x) : Int)))
 ((inB (↑x1 : Int) (List.length x)) ∧
 ((InR (plc n (List.take x1 x) * n)) ∧
 ((InR (plc n (List.take x1 x) * n + List.getD x (Int.toNat (↑x1 : Int)) (0 : Int))) ∧
 ((InR ((↑x1 : Int) + (1 : Int))) ∧
 (∃ x2 : Nat, ((x2 ≤ List.length x) ∧
 ((List.length x - x2 < List.length x - x1) ∧
 ((n = n) ∧
 ((plc n (List.take x1 x) * n + List.getD x (Int.toNat (↑x1 : Int)) (0 : Int) = plc n (List.take x2 x)) ∧
 ((x = x) ∧
 (((↑(List.length x) : Int) = (↑(List.length x) : Int)) ∧
 ((↑x1 : Int) + (1 : Int) = (↑x2 : Int)))))))))))))
 ((plc n (List.take x1 x) = plc n x) ∧
 (True))))))
theorem numberOf_vc (n : Int) (x : List Int) : runF Try.prog (gam numberOf_G) noWr (numberOf_ann n x) Try.f139 (bodyOf Try.f139) [] [.c (.int .i64 (n)), .c (.ints .i64 (x))] (numberOf_p n x) = numberOf_V n x := by kernel_rfl
theorem numberOf_ok (n : Int) (x : List Int) (hpre : (numberOf_p n x).pre) : numberOf_V n x := by
  simp only [numberOf_p, numberOf_V, BrP_iff, true_and, and_true, decide_eq_true_eq, decide_eq_false_iff_not, bne_iff_ne, beq_iff_eq, bne_eq_false_iff_eq, beq_eq_false_iff_ne, Bool.not_eq_true, Bool.not_eq_false, Bool.not_true, Bool.not_false, Bool.not_eq_eq_eq_not, Int.toNat_natCast, List.length_append, List.length_take, List.length_replicate, List.length_set, List.length_map, List.length_drop, List.length_nil, List.length_cons, markL_length, inB, InR, room, bdsOk] at hpre ⊢
  obtain ⟨hn, hx, hp, hl⟩ := hpre
  obtain ⟨m, rfl⟩ : ∃ m : Nat, n = (m : Int) := ⟨n.toNat, by omega⟩
  rw [Int.toNat_natCast] at hx
  refine ⟨⟨0, by omega, rfl, rfl⟩, fun i hi => ⟨fun h => ?_, fun h => by rw [List.take_of_length_le (by omega)]⟩⟩
  have a := plc_le (by omega) hx i (by omega)
  have b := plc_le (by omega) hx (i + 1) (by omega)
  have c := hx i (by omega)
  have d := pow_le (n := (m : Int)) (by omega) (show i + 1 ≤ x.length by omega)
  have e := plc_step m x i (by omega)
  have f := Int.mul_nonneg a.1 (show (0 : Int) ≤ m by omega)
  exact ⟨by omega, by omega, by omega, by omega, i + 1, by omega, by omega, e.symm, by omega⟩
theorem numberOf_fits : Fits Try.prog 139 ⟨[], numberOf_ct⟩ := by
  refine fits_fn (Γ := gam numberOf_G) gok_nil Try.func139 (by kernel_rfl) (by kernel_rfl) (by kernel_rfl) fun ds p h hp => ?_
  unfold numberOf_ct at h
  split at h
  · cases h
    exact ⟨noWr, numberOf_ann _ _ , by rw [numberOf_vc]; exact numberOf_ok _ _  hp⟩
  · cases h

def l15Place_p (n : Int) (x : List Int) : Post := ⟨1 ≤ n ∧ inT n.toNat x ∧ n ^ x.length ≤ 512 ∧ x.length ≤ 1000, .c (.int .i64 (plc n x)), []⟩
def l15Place_ct : List AD → Option Post
  | [.c (.int .i64 (n)), .c (.ints .i64 (x))] => some (l15Place_p n x)
  | _ => none
def l15Place_ann (n : Int) (x : List Int) : Nat → Option Ann
  | 0 => some (Ann.mk ((Nat)) (fun i => ⟨[(0, .c (.int .i64 (n))), (5, .c (.int .i64 (plc n (x.take i)))), (1, .c (.ro (.ints .i64 (x)))), (6, .c (.int .i64 ((i : Int))))], []⟩) (fun i => i ≤ x.length) (fun i => x.length - i) (fun _ => noAnn))
  | _ => none
def l15Place_G : List (Nat × Ctr) := []
def l15Place_V (n : Int) (x : List Int) : Prop :=
  ((∃ x0 : Nat, ((x0 ≤ List.length x) ∧
 ((n = n) ∧
 (((0 : Int) = plc n (List.take x0 x)) ∧
 ((x = x) ∧
 ((0 : Int) = (↑x0 : Int))))))) ∧
 (∀ x1 : Nat, ((x1 ≤ List.length x) →
 (BrP (Decidable.decide ((↑x1 : Int) < (↑(List.length x) : Int)))
 ((InR (plc n (List.take x1 x) * n)) ∧
 ((inB (↑x1 : Int) (List.length x)) ∧
 ((InR (plc n (List.take x1 x) * n + List.getD x (Int.toNat (↑x1 : Int)) (0 : Int))) ∧
 ((InR ((↑x1 : Int) + (1 : Int))) ∧
 (∃ x2 : Nat, ((x2 ≤ List.length x) ∧
 ((List.length x - x2 < List.length x - x1) ∧
 ((n = n) ∧
 ((plc n (List.take x1 x) * n + List.getD x (Int.toNat (↑x1 : Int)) (0 : Int) = plc n (List.take x2 x)) ∧
 ((x = x) ∧
 ((↑x1 : Int) + (1 : Int) = (↑x2 : Int))))))))))))
 ((plc n (List.take x1 x) = plc n x) ∧
 (True))))))
theorem l15Place_vc (n : Int) (x : List Int) : runF Try.prog (gam l15Place_G) noWr (l15Place_ann n x) Try.f98 (bodyOf Try.f98) [] [.c (.int .i64 (n)), .c (.ints .i64 (x))] (l15Place_p n x) = l15Place_V n x := by kernel_rfl
theorem l15Place_ok (n : Int) (x : List Int) (hpre : (l15Place_p n x).pre) : l15Place_V n x := by
  simp only [l15Place_p, l15Place_V, BrP_iff, true_and, and_true, decide_eq_true_eq, decide_eq_false_iff_not, bne_iff_ne, beq_iff_eq, bne_eq_false_iff_eq, beq_eq_false_iff_ne, Bool.not_eq_true, Bool.not_eq_false, Bool.not_true, Bool.not_false, Bool.not_eq_eq_eq_not, Int.toNat_natCast, List.length_append, List.length_take, List.length_replicate, List.length_set, List.length_map, List.length_drop, List.length_nil, List.length_cons, markL_length, inB, InR, room, bdsOk] at hpre ⊢
  obtain ⟨hn, hx, hp, hl⟩ := hpre
  obtain ⟨m, rfl⟩ : ∃ m : Nat, n = (m : Int) := ⟨n.toNat, by omega⟩
  rw [Int.toNat_natCast] at hx
  refine ⟨⟨0, by omega, rfl, rfl⟩, fun i hi => ⟨fun h => ?_, fun h => by rw [List.take_of_length_le (by omega)]⟩⟩
  have a := plc_le (by omega) hx i (by omega)
  have b := plc_le (by omega) hx (i + 1) (by omega)
  have c := hx i (by omega)
  have d := pow_le (n := (m : Int)) (by omega) (show i + 1 ≤ x.length by omega)
  have e := plc_step m x i (by omega)
  have f := Int.mul_nonneg a.1 (show (0 : Int) ≤ m by omega)
  exact ⟨by omega, by omega, by omega, by omega, i + 1, by omega, by omega, e.symm, by omega⟩
theorem l15Place_fits : Fits Try.prog 98 ⟨[], l15Place_ct⟩ := by
  refine fits_fn (Γ := gam l15Place_G) gok_nil Try.func98 (by kernel_rfl) (by kernel_rfl) (by kernel_rfl) fun ds p h hp => ?_
  unfold l15Place_ct at h
  split at h
  · cases h
    exact ⟨noWr, l15Place_ann _ _ , by rw [l15Place_vc]; exact l15Place_ok _ _  hp⟩
  · cases h

/-- A table, a prime, a tuple whose boundary is taken. -/
def bdOk (t : List (List Int)) (p : Int) (x : List Int) : Prop := tabB t = true ∧ 2 ≤ p ∧ p ≤ 7 ∧ inT t.length x ∧ (t.length : Int) ^ (x.length - 1) ≤ 512 ∧ x.length ≤ 1000

def addBoundary_p (t : List (List Int)) (p : Int) (x : List Int) (times : Int) (c : List Int) : Post := ⟨bdOk t p x ∧ 0 ≤ times ∧ times ≤ p - 1 ∧ inP p c ∧ c.length = t.length ^ (x.length - 1), .tup [], [.ints 2 .i64 (adF t p x times c x.length)]⟩
def addBoundary_ct : List AD → Option Post
  | [.c (.rows .i64 (t)), .c (.int .i64 (p)), .c (.ints .i64 (x)), .c (.int .i64 (times)), .c (.ints .i64 (c))] => some (addBoundary_p t p x times c)
  | _ => none
def addBoundary_ann (t : List (List Int)) (p : Int) (x : List Int) (times : Int) (c : List Int) : Nat → Option Ann
  | 0 => some (Ann.mk ((Nat)) (fun i => ⟨[(0, .c (.ro (.rows .i64 (t)))), (1, .c (.int .i64 (p))), (2, .c (.ro (.ints .i64 (x)))), (4, .c (.own (764))), (10, .c (.int .i64 ((t.length : Int)))), (11, .c (.int .i64 (sgI p times i))), (21, .c (.ro (.ints .i64 (x)))), (22, .c (.int .i64 ((x.length : Int)))), (23, .c (.int .i64 ((i : Int))))], [(764, some (.ints 2 .i64 (adF t p x times c i)))]⟩) (fun i => i ≤ x.length) (fun i => x.length - i) (fun i => fun b_ => match b_ with | 2 => some (Ann.mk ((Nat)) (fun k => ⟨[(0, .c (.ro (.rows .i64 (t)))), (1, .c (.int .i64 (p))), (2, .c (.ro (.ints .i64 (x)))), (4, .c (.own (764))), (10, .c (.int .i64 ((t.length : Int)))), (11, .c (.int .i64 (sgI p times (i + 1)))), (21, .c (.ro (.ints .i64 (x)))), (22, .c (.int .i64 ((x.length : Int)))), (23, .c (.int .i64 ((i : Int)))), (12, .c (.int .i64 ((i : Int)))), (13, .c (.int .i64 (x.getD i 0))), (14, .c (.own (38))), (15, .c (.int .i64 (plc t.length (wo i x)))), (16, .c (.int .i64 ((k : Int))))], [(764, some (.ints 2 .i64 (adF t p x times c i))), (38, some (.ints 2 .i64 (mvk t (x.getD i 0) i k (wo i x))))]⟩) (fun k => i ≤ k ∧ k ≤ x.length - 1 ∧ i < x.length) (fun k => x.length - k) (fun _ => noAnn)) | _ => none))
  | _ => none
def addBoundary_G : List (Nat × Ctr) := [(106, ⟨[], Clone_ct⟩), (138, ⟨[(0,99),(0,99)], sDelete_ct⟩), (139, ⟨[], numberOf_ct⟩)]
def addBoundary_V (t : List (List Int)) (p : Int) (x : List Int) (times : Int) (c : List Int) : Prop :=
  ((∃ x0 : Nat, ((x0 ≤ List.length x) ∧
 ((t = t) ∧
 ((p = p) ∧
 ((x = x) ∧
 (((↑(List.length t) : Int) = (↑(List.length t) : Int)) ∧
 ((times = sgI p times x0) ∧
 ((x = x) ∧
 (((↑(List.length x) : Int) = (↑(List.length x) : Int)) ∧
 (((0 : Int) = (↑x0 : Int)) ∧
 (c = adF t p x times c x0))))))))))) ∧
 (∀ x1 : Nat, ((x1 ≤ List.length x) →
 (BrP (Decidable.decide ((↑x1 : Int) < (↑(List.length x) : Int)))
 ((inB (↑x1 : Int) (List.length x)) ∧
 ((InR (p - sgI p times x1)) ∧
 ((p ≠ (0 : Int)) ∧
 ((((List.length x ≠ (0 : Nat)) ∧
 (room (List.length x))) ∧
 (True)) ∧
 ((InR ((↑x1 : Int) + (1 : Int))) ∧
 ((((0 : Int) ≤ (↑x1 : Int)) ∧
 (((↑x1 : Int) < (↑x1 : Int) + (1 : Int)) ∧
 ((↑x1 : Int) + (1 : Int) ≤ (↑(List.length x) : Int)))) ∧
 (((((1 : Int) ≤ (↑(List.length t) : Int)) ∧
 ((inT (Int.toNat (↑(List.length t) : Int)) (List.take (Int.toNat (↑x1 : Int)) x ++ List.drop (Int.toNat ((↑x1 : Int) + (1 : Int))) x)) ∧
 (((↑(List.length t) : Int) ^ List.length (List.take (Int.toNat (↑x1 : Int)) x ++ List.drop (Int.toNat ((↑x1 : Int) + (1 : Int))) x) ≤ (512 : Int)) ∧
 (List.length (List.take (Int.toNat (↑x1 : Int)) x ++ List.drop (Int.toNat ((↑x1 : Int) + (1 : Int))) x) ≤ (1000 : Nat))))) ∧
 (True)) ∧
 ((∃ x2 : Nat, (((x1 ≤ x2) ∧
 ((x2 ≤ List.length x - (1 : Nat)) ∧
 (x1 < List.length x))) ∧
 ((t = t) ∧
 ((p = p) ∧
 ((x = x) ∧
 (((↑(List.length t) : Int) = (↑(List.length t) : Int)) ∧
 ((Int.tmod (p - sgI p times x1) p = sgI p times (x1 + (1 : Nat))) ∧
 ((x = x) ∧
 (((↑(List.length x) : Int) = (↑(List.length x) : Int)) ∧
 (((↑x1 : Int) = (↑x1 : Int)) ∧
 (((↑x1 : Int) = (↑x1 : Int)) ∧
 ((List.getD x (Int.toNat (↑x1 : Int)) (0 : Int) = List.getD x x1 (0 : Int)) ∧
 ((plc (↑(List.length t) : Int) (List.take (Int.toNat (↑x1 : Int)) x ++ List.drop (Int.toNat ((↑x1 : Int) + (1 : Int))) x) = plc (↑(List.length t) : Int) (wo x1 x)) ∧
 (((↑x1 : Int) = (↑x2 : Int)) ∧
 ((adF t p x times c x1 = adF t p x times c x1) ∧
 (List.take (Int.toNat (↑x1 : Int)) x ++ List.drop (Int.toNat ((↑x1 : Int) + (1 : Int))) x = mvk t (List.getD x x1 (0 : Int)) x1 x2 (wo x1 x))))))))))))))))) ∧
 (∀ x3 : Nat, (((x1 ≤ x3) ∧
 ((x3 ≤ List.length x - (1 : Nat)) ∧
 (x1 < List.length x))) →
 (BrP (Decidable.decide ((↑x3 : Int) < (↑(List.length (mvk t (List.getD x x1 (0 : Int)) x1 x3 (wo x1 x))) : Int)))
 ((inB (List.getD x x1 (0 : Int)) (List.length t)) ∧
 ((inB (↑x3 : Int) (List.length (mvk t (List.getD x x1 (0 : Int)) x1 x3 (wo x1 x)))) ∧
 ((inB (List.getD (mvk t (List.getD x x1 (0 : Int)) x1 x3 (wo x1 x)) (Int.toNat (↑x3 : Int)) (0 : Int)) (List.length (List.getD t (Int.toNat (List.getD x x1 (0 : Int))) []))) ∧
 ((inB (↑x3 : Int) (List.length (mvk t (List.getD x x1 (0 : Int)) x1 x3 (wo x1 x)))) ∧
 ((InR ((↑x3 : Int) + (1 : Int))) ∧
 (∃ x4 : Nat, (((x1 ≤ x4) ∧
 ((x4 ≤ List.length x - (1 : Nat)) ∧
 (x1 < List.length x))) ∧
 ((List.length x - x4 < List.length x - x3) ∧
 ((t = t) ∧
 ((p = p) ∧
 ((x = x) ∧
 (((↑(List.length t) : Int) = (↑(List.length t) : Int)) ∧
 ((sgI p times (x1 + (1 : Nat)) = sgI p times (x1 + (1 : Nat))) ∧
 ((x = x) ∧
 (((↑(List.length x) : Int) = (↑(List.length x) : Int)) ∧
 (((↑x1 : Int) = (↑x1 : Int)) ∧
 (((↑x1 : Int) = (↑x1 : Int)) ∧
 ((List.getD x x1 (0 : Int) = List.getD x x1 (0 : Int)) ∧
 ((plc (↑(List.length t) : Int) (wo x1 x) = plc (↑(List.length t) : Int) (wo x1 x)) ∧
 (((↑x3 : Int) + (1 : Int) = (↑x4 : Int)) ∧
 ((adF t p x times c x1 = adF t p x times c x1) ∧
 (List.set (mvk t (List.getD x x1 (0 : Int)) x1 x3 (wo x1 x)) (Int.toNat (↑x3 : Int)) (List.getD (List.getD t (Int.toNat (List.getD x x1 (0 : Int))) []) (Int.toNat (List.getD (mvk t (List.getD x x1 (0 : Int)) x1 x3 (wo x1 x)) (Int.toNat (↑x3 : Int)) (0 : Int))) (0 : Int)) = mvk t (List.getD x x1 (0 : Int)) x1 x4 (wo x1 x)))))))))))))))))))))))
 (((((1 : Int) ≤ (↑(List.length t) : Int)) ∧
 ((inT (Int.toNat (↑(List.length t) : Int)) (mvk t (List.getD x x1 (0 : Int)) x1 x3 (wo x1 x))) ∧
 (((↑(List.length t) : Int) ^ List.length (mvk t (List.getD x x1 (0 : Int)) x1 x3 (wo x1 x)) ≤ (512 : Int)) ∧
 (List.length (mvk t (List.getD x x1 (0 : Int)) x1 x3 (wo x1 x)) ≤ (1000 : Nat))))) ∧
 (True)) ∧
 ((inB (plc (↑(List.length t) : Int) (wo x1 x)) (List.length (adF t p x times c x1))) ∧
 ((InR (List.getD (adF t p x times c x1) (Int.toNat (plc (↑(List.length t) : Int) (wo x1 x))) (0 : Int) + sgI p times (x1 + (1 : Nat)))) ∧
 ((p ≠ (0 : Int)) ∧
 ((inB (plc (↑(List.length t) : Int) (wo x1 x)) (List.length (adF t p x times c x1))) ∧
 ((inB (plc (↑(List.length t) : Int) (mvk t (List.getD x x1 (0 : Int)) x1 x3 (wo x1 x))) (List.length (List.set (adF t p x times c x1) (Int.toNat (plc (↑(List.length t) : Int) (wo x1 x))) (Int.tmod (List.getD (adF t p x times c x1) (Int.toNat (plc (↑(List.length t) : Int) (wo x1 x))) (0 : Int) + sgI p times (x1 + (1 : Nat))) p)))) ∧
 ((InR (List.getD (List.set (adF t p x times c x1) (Int.toNat (plc (↑(List.length t) : Int) (wo x1 x))) (Int.tmod (List.getD (adF t p x times c x1) (Int.toNat (plc (↑(List.length t) : Int) (wo x1 x))) (0 : Int) + sgI p times (x1 + (1 : Nat))) p)) (Int.toNat (plc (↑(List.length t) : Int) (mvk t (List.getD x x1 (0 : Int)) x1 x3 (wo x1 x)))) (0 : Int) + p)) ∧
 ((InR (List.getD (List.set (adF t p x times c x1) (Int.toNat (plc (↑(List.length t) : Int) (wo x1 x))) (Int.tmod (List.getD (adF t p x times c x1) (Int.toNat (plc (↑(List.length t) : Int) (wo x1 x))) (0 : Int) + sgI p times (x1 + (1 : Nat))) p)) (Int.toNat (plc (↑(List.length t) : Int) (mvk t (List.getD x x1 (0 : Int)) x1 x3 (wo x1 x)))) (0 : Int) + p - sgI p times (x1 + (1 : Nat)))) ∧
 ((p ≠ (0 : Int)) ∧
 ((inB (plc (↑(List.length t) : Int) (mvk t (List.getD x x1 (0 : Int)) x1 x3 (wo x1 x))) (List.length (List.set (adF t p x times c x1) (Int.toNat (plc (↑(List.length t) : Int) (wo x1 x))) (Int.tmod (List.getD (adF t p x times c x1) (Int.toNat (plc (↑(List.length t) : Int) (wo x1 x))) (0 : Int) + sgI p times (x1 + (1 : Nat))) p)))) ∧
 ((InR ((↑x1 : Int) + (1 : Int))) ∧
 (∃ x5 : Nat, ((x5 ≤ List.length x) ∧
 ((List.length x - x5 < List.length x - x1) ∧
 ((t = t) ∧
 ((p = p) ∧
 ((x = x) ∧
 (((↑(List.length t) : Int) = (↑(List.length t) : Int)) ∧
 ((sgI p times (x1 + (1 : Nat)) = sgI p times x5) ∧
 ((x = x) ∧
 (((↑(List.length x) : Int) = (↑(List.length x) : Int)) ∧
 (((↑x1 : Int) + (1 : Int) = (↑x5 : Int)) ∧
 (List.set (List.set (adF t p x times c x1) (Int.toNat (plc (↑(List.length t) : Int) (wo x1 x))) (Int.tmod (List.getD (adF t p x times c x1) (Int.toNat (plc (↑(List.length t) : Int) (wo x1 x))) (0 : Int) + sgI p times (x1 + (1 : Nat))) p)) (Int.toNat (plc (↑(List.length t) : Int) (mvk t (List.getD x x1 (0 : Int)) x1 x3 (wo x1 x)))) (Int.tmod (List.getD (List.set (adF t p x times c x1) (Int.toNat (plc (↑(List.length t) : Int) (wo x1 x))) (Int.tmod (List.getD (adF t p x times c x1) (Int.toNat (plc (↑(List.length t) : Int) (wo x1 x))) (0 : Int) + sgI p times (x1 + (1 : Nat))) p)) (Int.toNat (plc (↑(List.length t) : Int) (mvk t (List.getD x x1 (0 : Int)) x1 x3 (wo x1 x)))) (0 : Int) + p - sgI p times (x1 + (1 : Nat))) p) = adF t p x times c x5))))))))))))))))))))))))))))))))))
 ((True) ∧
 ((adF t p x times c x1 = adF t p x times c (List.length x)) ∧
 (True)))))))
theorem addBoundary_vc (t : List (List Int)) (p : Int) (x : List Int) (times : Int) (c : List Int) : runF Try.prog (gam addBoundary_G) noWr (addBoundary_ann t p x times c) Try.f113 (bodyOf Try.f113) [(4, 0)] [.c (.rows .i64 (t)), .c (.int .i64 (p)), .c (.ints .i64 (x)), .c (.int .i64 (times)), .c (.ints .i64 (c))] (addBoundary_p t p x times c) = addBoundary_V t p x times c := by kernel_rfl
theorem addBoundary_ok (t : List (List Int)) (p : Int) (x : List Int) (times : Int) (c : List Int) (hpre : (addBoundary_p t p x times c).pre) : addBoundary_V t p x times c := by
  simp only [addBoundary_p, addBoundary_V, BrP_iff, true_and, and_true, decide_eq_true_eq, decide_eq_false_iff_not, bne_iff_ne, beq_iff_eq, bne_eq_false_iff_eq, beq_eq_false_iff_ne, Bool.not_eq_true, Bool.not_eq_false, Bool.not_true, Bool.not_false, Bool.not_eq_eq_eq_not, Int.toNat_natCast, List.length_append, List.length_take, List.length_replicate, List.length_set, List.length_map, List.length_drop, List.length_nil, List.length_cons, markL_length, inB, InR, room, bdsOk] at hpre ⊢
  obtain ⟨⟨h1, p1, p2, hx, hN, hl⟩, t1, t2, hc, hcl⟩ := hpre
  obtain ⟨n1, n2, ht⟩ := tabB_of h1
  have hcN : (c.length : Int) = (t.length : Int) ^ (x.length - 1) := by rw [hcl, Int.natCast_pow]
  refine ⟨⟨0, by omega, rfl, rfl, rfl⟩, fun i hi => ⟨fun h => ?_, fun h => by rw [show i = x.length by omega]⟩⟩
  have hi' : i < x.length := by omega
  have s1 := sgI_in (p := p) (by omega) ⟨t1, t2⟩ i
  have s2 := sgI_in (p := p) (by omega) ⟨t1, t2⟩ (i + 1)
  have hw := wo_in hx hi'
  have hwl := wo_length i x hi'
  have ew : List.take i x ++ List.drop ((i : Int) + 1).toNat x = wo i x := by rw [show ((i : Int) + 1).toNat = i + 1 by omega]; rfl
  have ev : min i x.length + (x.length - ((i : Int) + 1).toNat) = x.length - 1 := by omega
  have xi := hx i hi'
  have A := plc_all n1 hw
  rw [hwl] at A
  rw [ew, ev]
  refine ⟨by omega, by omega, by omega, ⟨by omega, by omega⟩, by omega, by omega, ⟨by omega, hw, hN, by omega⟩, ⟨i, by omega, rfl, rfl, rfl, (mvk_none _ _ _ _).symm⟩, fun k ⟨hk1, hk2, _⟩ => ⟨fun h3 => ?_, fun h3 => ?_⟩⟩
  · rw [mvk_length, hwl] at h3
    have v := mvk_in h1 hw (c := x.getD i 0) (by omega) i k k (by rw [mvk_length, hwl]; omega)
    have hat := mvk_at t (x.getD i 0) i k (wo i x) (by omega)
    have r := (ht (x.getD i 0).toNat (by omega)).1
    rw [mvk_length, hwl]
    refine ⟨by omega, by omega, by omega, by omega, by omega, k + 1, by omega, by omega, by omega, ?_⟩
    rw [hat]
    exact mvk_step t (x.getD i 0) i k (wo i x) hk1
  · rw [mvk_length, hwl] at h3
    have ek : k = x.length - 1 := by omega
    subst ek
    have hb := mvk_in h1 hw (c := x.getD i 0) (by omega) i (x.length - 1)
    have B := plc_all n1 hb
    rw [mvk_length, hwl] at B
    have hal := adF_length t p x times c i
    have hai := adF_in t (p := p) (by omega) x ⟨t1, t2⟩ hc i
    have va := hai (plc t.length (wo i x)).toNat (by omega)
    have vb := hai (plc t.length (mvk t (x.getD i 0) i (x.length - 1) (wo i x))).toNat (by omega)
    have vc : 0 ≤ ((adF t p x times c i).set (plc t.length (wo i x)).toNat (((adF t p x times c i).getD (plc t.length (wo i x)).toNat 0 + sgI p times (i + 1)).tmod p)).getD (plc t.length (mvk t (x.getD i 0) i (x.length - 1) (wo i x))).toNat 0 ∧ ((adF t p x times c i).set (plc t.length (wo i x)).toNat (((adF t p x times c i).getD (plc t.length (wo i x)).toNat 0 + sgI p times (i + 1)).tmod p)).getD (plc t.length (mvk t (x.getD i 0) i (x.length - 1) (wo i x))).toNat 0 ≤ p - 1 := by
      rw [getD_set _ _ _ _ (by omega)]
      split
      · exact tmod_in (by omega) (by omega)
      · exact vb
    rw [mvk_length, hwl]
    refine ⟨⟨by omega, hb, hN, by omega⟩, by omega, by omega, by omega, by omega, by omega, by omega, by omega, by omega, by omega, by omega, i + 1, by omega, by omega, rfl, by omega, rfl⟩
theorem addBoundary_fits : Fits Try.prog 113 ⟨[(4, 0)], addBoundary_ct⟩ := by
  refine fits_fn (Γ := gam addBoundary_G) (gok_cons Clone_fits (gok_cons sDelete_fits (gok_cons numberOf_fits gok_nil))) Try.func113 (by kernel_rfl) (by kernel_rfl) (by kernel_rfl) fun ds p h hp => ?_
  unfold addBoundary_ct at h
  split at h
  · cases h
    exact ⟨noWr, addBoundary_ann _ _ _ _ _ , by rw [addBoundary_vc]; exact addBoundary_ok _ _ _ _ _  hp⟩
  · cases h

def l15Tuples_p (t : List (List Int)) (p : Int) (x : List Int) : Post := ⟨bdOk t p x ∧ 1 ≤ x.length, .c (.ints 2 .i64 (ptF t p x x.length)), []⟩
def l15Tuples_ct : List AD → Option Post
  | [.c (.rows .i64 (t)), .c (.int .i64 (p)), .c (.ints .i64 (x))] => some (l15Tuples_p t p x)
  | _ => none
def l15Tuples_ann (t : List (List Int)) (p : Int) (x : List Int) : Nat → Option Ann
  | 0 => some (Ann.mk ((Nat)) (fun i => ⟨[(0, .c (.ro (.rows .i64 (t)))), (1, .c (.int .i64 (p))), (2, .c (.ro (.ints .i64 (x)))), (7, .c (.int .i64 ((t.length : Int)))), (8, .c (.own (23))), (9, .c (.int .i64 ((i : Int))))], [(23, some (.ints 2 .i64 (ptF t p x i)))]⟩) (fun i => i ≤ x.length) (fun i => x.length - i) (fun i => fun b_ => match b_ with | 2 => some (Ann.mk ((Nat)) (fun k => ⟨[(0, .c (.ro (.rows .i64 (t)))), (1, .c (.int .i64 (p))), (2, .c (.ro (.ints .i64 (x)))), (7, .c (.int .i64 ((t.length : Int)))), (8, .c (.own (23))), (9, .c (.int .i64 ((i : Int)))), (10, .c (.own (38))), (11, .c (.own (40))), (12, .c (.int .i64 ((k : Int))))], [(23, some (.ints 2 .i64 (ptF t p x i))), (38, some (.ints 2 .i64 (wo i x))), (40, some (.ints 2 .i64 (mvk t (x.getD i 0) i k (wo i x))))]⟩) (fun k => i ≤ k ∧ k ≤ x.length - 1 ∧ i < x.length) (fun k => x.length - k) (fun _ => noAnn)) | _ => none))
  | _ => none
def l15Tuples_G : List (Nat × Ctr) := [(96, ⟨[], l15Power_ct⟩), (97, ⟨[], l01Own_ct⟩), (98, ⟨[], l15Place_ct⟩)]
def l15Tuples_V (t : List (List Int)) (p : Int) (x : List Int) : Prop :=
  ((InR ((↑(List.length x) : Int) - (1 : Int))) ∧
 (((((1 : Int) ≤ (↑(List.length t) : Int)) ∧
 (((↑(List.length t) : Int) ≤ (12 : Int)) ∧
 (((0 : Int) ≤ (↑(List.length x) : Int) - (1 : Int)) ∧
 ((↑(List.length x) : Int) - (1 : Int) ≤ (1000 : Int))))) ∧
 (True)) ∧
 ((((0 : Int) ≤ if (↑(List.length t) : Int) ^ Int.toNat ((↑(List.length x) : Int) - (1 : Int)) ≤ (512 : Int) then (↑(List.length t) : Int) ^ Int.toNat ((↑(List.length x) : Int) - (1 : Int)) else (513 : Int)) ∧
 (((if (↑(List.length t) : Int) ^ Int.toNat ((↑(List.length x) : Int) - (1 : Int)) ≤ (512 : Int) then (↑(List.length t) : Int) ^ Int.toNat ((↑(List.length x) : Int) - (1 : Int)) else (513 : Int)) ≤ if (↑(List.length t) : Int) ^ Int.toNat ((↑(List.length x) : Int) - (1 : Int)) ≤ (512 : Int) then (↑(List.length t) : Int) ^ Int.toNat ((↑(List.length x) : Int) - (1 : Int)) else (513 : Int)) ∧
 (room (Int.toNat (if (↑(List.length t) : Int) ^ Int.toNat ((↑(List.length x) : Int) - (1 : Int)) ≤ (512 : Int) then (↑(List.length t) : Int) ^ Int.toNat ((↑(List.length x) : Int) - (1 : Int)) else (513 : Int)))))) ∧
 ((∃ x0 : Nat, ((x0 ≤ List.length x) ∧
 ((t = t) ∧
 ((p = p) ∧
 ((x = x) ∧
 (((↑(List.length t) : Int) = (↑(List.length t) : Int)) ∧
 (((0 : Int) = (↑x0 : Int)) ∧
 (List.replicate (Int.toNat (if (↑(List.length t) : Int) ^ Int.toNat ((↑(List.length x) : Int) - (1 : Int)) ≤ (512 : Int) then (↑(List.length t) : Int) ^ Int.toNat ((↑(List.length x) : Int) - (1 : Int)) else (513 : Int))) (0 : Int) = ptF t p x x0)))))))) ∧
 (∀ x1 : Nat, ((x1 ≤ List.length x) →
 (BrP (Decidable.decide ((↑x1 : Int) < (↑(List.length x) : Int)))
 ((bdsOk (List.length x) Option.none (Option.some (↑x1 : Int))) ∧
 (((room (List.length (cutL x Option.none (Option.some (↑x1 : Int))))) ∧
 (True)) ∧
 ((InR ((↑x1 : Int) + (1 : Int))) ∧
 ((bdsOk (List.length x) (Option.some ((↑x1 : Int) + (1 : Int))) Option.none) ∧
 ((room (List.length (cutL x Option.none (Option.some (↑x1 : Int))) + List.length (cutL x (Option.some ((↑x1 : Int) + (1 : Int))) Option.none))) ∧
 (((room (List.length (cutL x Option.none (Option.some (↑x1 : Int)) ++ cutL x (Option.some ((↑x1 : Int) + (1 : Int))) Option.none))) ∧
 (True)) ∧
 ((∃ x2 : Nat, (((x1 ≤ x2) ∧
 ((x2 ≤ List.length x - (1 : Nat)) ∧
 (x1 < List.length x))) ∧
 ((t = t) ∧
 ((p = p) ∧
 ((x = x) ∧
 (((↑(List.length t) : Int) = (↑(List.length t) : Int)) ∧
 (((↑x1 : Int) = (↑x1 : Int)) ∧
 (((↑x1 : Int) = (↑x2 : Int)) ∧
 ((ptF t p x x1 = ptF t p x x1) ∧
 ((cutL x Option.none (Option.some (↑x1 : Int)) ++ cutL x (Option.some ((↑x1 : Int) + (1 : Int))) Option.none = wo x1 x) ∧
 (cutL x Option.none (Option.some (↑x1 : Int)) ++ cutL x (Option.some ((↑x1 : Int) + (1 : Int))) Option.none = mvk t (List.getD x x1 (0 : Int)) x1 x2 (wo x1 x)))))))))))) ∧
 (∀ x3 : Nat, (((x1 ≤ x3) ∧
 ((x3 ≤ List.length x - (1 : Nat)) ∧
 (x1 < List.length x))) →
 (BrP (Decidable.decide ((↑x3 : Int) < (↑(List.length (mvk t (List.getD x x1 (0 : Int)) x1 x3 (wo x1 x))) : Int)))
 ((inB (↑x1 : Int) (List.length x)) ∧
 ((inB (List.getD x (Int.toNat (↑x1 : Int)) (0 : Int)) (List.length t)) ∧
 ((inB (↑x3 : Int) (List.length (mvk t (List.getD x x1 (0 : Int)) x1 x3 (wo x1 x)))) ∧
 ((inB (List.getD (mvk t (List.getD x x1 (0 : Int)) x1 x3 (wo x1 x)) (Int.toNat (↑x3 : Int)) (0 : Int)) (List.length (List.getD t (Int.toNat (List.getD x (Int.toNat (↑x1 : Int)) (0 : Int))) []))) ∧
 ((inB (↑x3 : Int) (List.length (mvk t (List.getD x x1 (0 : Int)) x1 x3 (wo x1 x)))) ∧
 ((InR ((↑x3 : Int) + (1 : Int))) ∧
 (∃ x4 : Nat, (((x1 ≤ x4) ∧
 ((x4 ≤ List.length x - (1 : Nat)) ∧
 (x1 < List.length x))) ∧
 ((List.length x - x4 < List.length x - x3) ∧
 ((t = t) ∧
 ((p = p) ∧
 ((x = x) ∧
 (((↑(List.length t) : Int) = (↑(List.length t) : Int)) ∧
 (((↑x1 : Int) = (↑x1 : Int)) ∧
 (((↑x3 : Int) + (1 : Int) = (↑x4 : Int)) ∧
 ((ptF t p x x1 = ptF t p x x1) ∧
 ((wo x1 x = wo x1 x) ∧
 (List.set (mvk t (List.getD x x1 (0 : Int)) x1 x3 (wo x1 x)) (Int.toNat (↑x3 : Int)) (List.getD (List.getD t (Int.toNat (List.getD x (Int.toNat (↑x1 : Int)) (0 : Int))) []) (Int.toNat (List.getD (mvk t (List.getD x x1 (0 : Int)) x1 x3 (wo x1 x)) (Int.toNat (↑x3 : Int)) (0 : Int))) (0 : Int)) = mvk t (List.getD x x1 (0 : Int)) x1 x4 (wo x1 x)))))))))))))))))))
 (((2 : Int) ≠ (0 : Int)) ∧
 (BrP (Int.tmod (↑x1 : Int) (2 : Int) == (0 : Int))
 ((InR (p - (1 : Int))) ∧
 (((((1 : Int) ≤ (↑(List.length t) : Int)) ∧
 ((inT (Int.toNat (↑(List.length t) : Int)) (wo x1 x)) ∧
 (((↑(List.length t) : Int) ^ List.length (wo x1 x) ≤ (512 : Int)) ∧
 (List.length (wo x1 x) ≤ (1000 : Nat))))) ∧
 (True)) ∧
 (((((1 : Int) ≤ (↑(List.length t) : Int)) ∧
 ((inT (Int.toNat (↑(List.length t) : Int)) (mvk t (List.getD x x1 (0 : Int)) x1 x3 (wo x1 x))) ∧
 (((↑(List.length t) : Int) ^ List.length (mvk t (List.getD x x1 (0 : Int)) x1 x3 (wo x1 x)) ≤ (512 : Int)) ∧
 (List.length (mvk t (List.getD x x1 (0 : Int)) x1 x3 (wo x1 x)) ≤ (1000 : Nat))))) ∧
 (True)) ∧
 ((inB (plc (↑(List.length t) : Int) (wo x1 x)) (List.length (ptF t p x x1))) ∧
 ((InR (List.getD (ptF t p x x1) (Int.toNat (plc (↑(List.length t) : Int) (wo x1 x))) (0 : Int) + (p - (1 : Int)))) ∧
 ((p ≠ (0 : Int)) ∧
 ((inB (plc (↑(List.length t) : Int) (wo x1 x)) (List.length (ptF t p x x1))) ∧
 ((inB (plc (↑(List.length t) : Int) (mvk t (List.getD x x1 (0 : Int)) x1 x3 (wo x1 x))) (List.length (List.set (ptF t p x x1) (Int.toNat (plc (↑(List.length t) : Int) (wo x1 x))) (Int.tmod (List.getD (ptF t p x x1) (Int.toNat (plc (↑(List.length t) : Int) (wo x1 x))) (0 : Int) + (p - (1 : Int))) p)))) ∧
 ((InR (List.getD (List.set (ptF t p x x1) (Int.toNat (plc (↑(List.length t) : Int) (wo x1 x))) (Int.tmod (List.getD (ptF t p x x1) (Int.toNat (plc (↑(List.length t) : Int) (wo x1 x))) (0 : Int) + (p - (1 : Int))) p)) (Int.toNat (plc (↑(List.length t) : Int) (mvk t (List.getD x x1 (0 : Int)) x1 x3 (wo x1 x)))) (0 : Int) + p)) ∧
 ((InR (List.getD (List.set (ptF t p x x1) (Int.toNat (plc (↑(List.length t) : Int) (wo x1 x))) (Int.tmod (List.getD (ptF t p x x1) (Int.toNat (plc (↑(List.length t) : Int) (wo x1 x))) (0 : Int) + (p - (1 : Int))) p)) (Int.toNat (plc (↑(List.length t) : Int) (mvk t (List.getD x x1 (0 : Int)) x1 x3 (wo x1 x)))) (0 : Int) + p - (p - (1 : Int)))) ∧
 ((p ≠ (0 : Int)) ∧
 ((inB (plc (↑(List.length t) : Int) (mvk t (List.getD x x1 (0 : Int)) x1 x3 (wo x1 x))) (List.length (List.set (ptF t p x x1) (Int.toNat (plc (↑(List.length t) : Int) (wo x1 x))) (Int.tmod (List.getD (ptF t p x x1) (Int.toNat (plc (↑(List.length t) : Int) (wo x1 x))) (0 : Int) + (p - (1 : Int))) p)))) ∧
 ((InR ((↑x1 : Int) + (1 : Int))) ∧
 (∃ x5 : Nat, ((x5 ≤ List.length x) ∧
 ((List.length x - x5 < List.length x - x1) ∧
 ((t = t) ∧
 ((p = p) ∧
 ((x = x) ∧
 (((↑(List.length t) : Int) = (↑(List.length t) : Int)) ∧
 (((↑x1 : Int) + (1 : Int) = (↑x5 : Int)) ∧
 (List.set (List.set (ptF t p x x1) (Int.toNat (plc (↑(List.length t) : Int) (wo x1 x))) (Int.tmod (List.getD (ptF t p x x1) (Int.toNat (plc (↑(List.length t) : Int) (wo x1 x))) (0 : Int) + (p - (1 : Int))) p)) (Int.toNat (plc (↑(List.length t) : Int) (mvk t (List.getD x x1 (0 : Int)) x1 x3 (wo x1 x)))) (Int.tmod (List.getD (List.set (ptF t p x x1) (Int.toNat (plc (↑(List.length t) : Int) (wo x1 x))) (Int.tmod (List.getD (ptF t p x x1) (Int.toNat (plc (↑(List.length t) : Int) (wo x1 x))) (0 : Int) + (p - (1 : Int))) p)) (Int.toNat (plc (↑(List.length t) : Int) (mvk t (List.getD x x1 (0 : Int)) x1 x3 (wo x1 x)))) (0 : Int) + p - (p - (1 : Int))) p) = ptF t p x x5))))))))))))))))))))))
 (((((1 : Int) ≤ (↑(List.length t) : Int)) ∧
 ((inT (Int.toNat (↑(List.length t) : Int)) (wo x1 x)) ∧
 (((↑(List.length t) : Int) ^ List.length (wo x1 x) ≤ (512 : Int)) ∧
 (List.length (wo x1 x) ≤ (1000 : Nat))))) ∧
 (True)) ∧
 (((((1 : Int) ≤ (↑(List.length t) : Int)) ∧
 ((inT (Int.toNat (↑(List.length t) : Int)) (mvk t (List.getD x x1 (0 : Int)) x1 x3 (wo x1 x))) ∧
 (((↑(List.length t) : Int) ^ List.length (mvk t (List.getD x x1 (0 : Int)) x1 x3 (wo x1 x)) ≤ (512 : Int)) ∧
 (List.length (mvk t (List.getD x x1 (0 : Int)) x1 x3 (wo x1 x)) ≤ (1000 : Nat))))) ∧
 (True)) ∧
 ((inB (plc (↑(List.length t) : Int) (wo x1 x)) (List.length (ptF t p x x1))) ∧
 ((InR (List.getD (ptF t p x x1) (Int.toNat (plc (↑(List.length t) : Int) (wo x1 x))) (0 : Int) + (1 : Int))) ∧
 ((p ≠ (0 : Int)) ∧
 ((inB (plc (↑(List.length t) : Int) (wo x1 x)) (List.length (ptF t p x x1))) ∧
 ((inB (plc (↑(List.length t) : Int) (mvk t (List.getD x x1 (0 : Int)) x1 x3 (wo x1 x))) (List.length (List.set (ptF t p x x1) (Int.toNat (plc (↑(List.length t) : Int) (wo x1 x))) (Int.tmod (List.getD (ptF t p x x1) (Int.toNat (plc (↑(List.length t) : Int) (wo x1 x))) (0 : Int) + (1 : Int)) p)))) ∧
 ((InR (List.getD (List.set (ptF t p x x1) (Int.toNat (plc (↑(List.length t) : Int) (wo x1 x))) (Int.tmod (List.getD (ptF t p x x1) (Int.toNat (plc (↑(List.length t) : Int) (wo x1 x))) (0 : Int) + (1 : Int)) p)) (Int.toNat (plc (↑(List.length t) : Int) (mvk t (List.getD x x1 (0 : Int)) x1 x3 (wo x1 x)))) (0 : Int) + p)) ∧
 ((InR (List.getD (List.set (ptF t p x x1) (Int.toNat (plc (↑(List.length t) : Int) (wo x1 x))) (Int.tmod (List.getD (ptF t p x x1) (Int.toNat (plc (↑(List.length t) : Int) (wo x1 x))) (0 : Int) + (1 : Int)) p)) (Int.toNat (plc (↑(List.length t) : Int) (mvk t (List.getD x x1 (0 : Int)) x1 x3 (wo x1 x)))) (0 : Int) + p - (1 : Int))) ∧
 ((p ≠ (0 : Int)) ∧
 ((inB (plc (↑(List.length t) : Int) (mvk t (List.getD x x1 (0 : Int)) x1 x3 (wo x1 x))) (List.length (List.set (ptF t p x x1) (Int.toNat (plc (↑(List.length t) : Int) (wo x1 x))) (Int.tmod (List.getD (ptF t p x x1) (Int.toNat (plc (↑(List.length t) : Int) (wo x1 x))) (0 : Int) + (1 : Int)) p)))) ∧
 ((InR ((↑x1 : Int) + (1 : Int))) ∧
 (∃ x6 : Nat, ((x6 ≤ List.length x) ∧
 ((List.length x - x6 < List.length x - x1) ∧
 ((t = t) ∧
 ((p = p) ∧
 ((x = x) ∧
 (((↑(List.length t) : Int) = (↑(List.length t) : Int)) ∧
 (((↑x1 : Int) + (1 : Int) = (↑x6 : Int)) ∧
 (List.set (List.set (ptF t p x x1) (Int.toNat (plc (↑(List.length t) : Int) (wo x1 x))) (Int.tmod (List.getD (ptF t p x x1) (Int.toNat (plc (↑(List.length t) : Int) (wo x1 x))) (0 : Int) + (1 : Int)) p)) (Int.toNat (plc (↑(List.length t) : Int) (mvk t (List.getD x x1 (0 : Int)) x1 x3 (wo x1 x)))) (Int.tmod (List.getD (List.set (ptF t p x x1) (Int.toNat (plc (↑(List.length t) : Int) (wo x1 x))) (Int.tmod (List.getD (ptF t p x x1) (Int.toNat (plc (↑(List.length t) : Int) (wo x1 x))) (0 : Int) + (1 : Int)) p)) (Int.toNat (plc (↑(List.length t) : Int) (mvk t (List.getD x x1 (0 : Int)) x1 x3 (wo x1 x)))) (0 : Int) + p - (1 : Int)) p) = ptF t p x x6)))))))))))))))))))))))))))))))))
 ((ptF t p x x1 = ptF t p x (List.length x)) ∧
 (True)))))))))
theorem l15Tuples_vc (t : List (List Int)) (p : Int) (x : List Int) : runF Try.prog (gam l15Tuples_G) noWr (l15Tuples_ann t p x) Try.f44 (bodyOf Try.f44) [] [.c (.rows .i64 (t)), .c (.int .i64 (p)), .c (.ints .i64 (x))] (l15Tuples_p t p x) = l15Tuples_V t p x := by kernel_rfl
theorem l15Tuples_ok (t : List (List Int)) (p : Int) (x : List Int) (hpre : (l15Tuples_p t p x).pre) : l15Tuples_V t p x := by
  simp only [l15Tuples_p, l15Tuples_V, BrP_iff, true_and, and_true, decide_eq_true_eq, decide_eq_false_iff_not, bne_iff_ne, beq_iff_eq, bne_eq_false_iff_eq, beq_eq_false_iff_ne, Bool.not_eq_true, Bool.not_eq_false, Bool.not_true, Bool.not_false, Bool.not_eq_eq_eq_not, Int.toNat_natCast, List.length_append, List.length_take, List.length_replicate, List.length_set, List.length_map, List.length_drop, List.length_nil, List.length_cons, markL_length, inB, InR, room, bdsOk] at hpre ⊢
  obtain ⟨⟨h1, p1, p2, hx, hN, hl⟩, hx1⟩ := hpre
  obtain ⟨n1, n2, ht⟩ := tabB_of h1
  have et : ((x.length : Int) - 1).toNat = x.length - 1 := by omega
  have eN : (t.length : Int) ^ (x.length - 1) = ((t.length ^ (x.length - 1) : Nat) : Int) := (Int.natCast_pow _ _).symm
  rw [et, if_pos hN]
  refine ⟨by omega, by omega, ⟨by rw [eN]; omega, by omega, by rw [eN] at hN ⊢; omega⟩, ⟨0, by omega, rfl, by rw [eN, Int.toNat_natCast]; rfl⟩, fun i hi => ⟨fun h => ?_, fun h => by rw [show i = x.length by omega]⟩⟩
  have hi' : i < x.length := by omega
  have hw := wo_in hx hi'
  have hwl := wo_length i x hi'
  have c1 : cutL x none (some (i : Int)) = x.take i := by simp [cutL]
  have c2 : cutL x (some ((i : Int) + 1)) none = x.drop (i + 1) := by simp only [cutL]; rw [show ((i : Int) + 1).toNat = i + 1 by omega]
  have ew : x.take i ++ x.drop (i + 1) = wo i x := rfl
  have xi := hx i hi'
  have A := plc_all n1 hw
  rw [hwl] at A
  rw [c1, c2, ew]
  have cl1 : (x.take i).length = i := by simp; omega
  have cl2 : (x.drop (i + 1)).length = x.length - (i + 1) := by simp
  rw [cl1, cl2]
  refine ⟨by omega, by omega, by omega, by omega, by omega, by omega, ⟨i, by omega, rfl, rfl, (mvk_none _ _ _ _).symm⟩, fun k ⟨hk1, hk2, _⟩ => ⟨fun h3 => ?_, fun h3 => ?_⟩⟩
  · rw [mvk_length, hwl] at h3
    have v := mvk_in h1 hw (c := x.getD i 0) (by omega) i k k (by rw [mvk_length, hwl]; omega)
    have hat := mvk_at t (x.getD i 0) i k (wo i x) (by omega)
    have r := (ht (x.getD i 0).toNat (by omega)).1
    rw [mvk_length, hwl]
    refine ⟨by omega, by omega, by omega, by omega, by omega, by omega, k + 1, by omega, by omega, by omega, ?_⟩
    rw [hat]
    exact mvk_step t (x.getD i 0) i k (wo i x) hk1
  · rw [mvk_length, hwl] at h3
    have ek : k = x.length - 1 := by omega
    subst ek
    have hb := mvk_in h1 hw (c := x.getD i 0) (by omega) i (x.length - 1)
    have B := plc_all n1 hb
    rw [mvk_length, hwl] at B
    have hal := ptF_length t p x i
    have hai := ptF_in t p1 x i
    rw [eN] at A B
    have va := hai (plc t.length (wo i x)).toNat (by omega)
    have vb := hai (plc t.length (mvk t (x.getD i 0) i (x.length - 1) (wo i x))).toNat (by omega)
    have vc : ∀ s, 0 ≤ s → s ≤ p - 1 → 0 ≤ ((ptF t p x i).set (plc t.length (wo i x)).toNat (((ptF t p x i).getD (plc t.length (wo i x)).toNat 0 + s).tmod p)).getD (plc t.length (mvk t (x.getD i 0) i (x.length - 1) (wo i x))).toNat 0 ∧ ((ptF t p x i).set (plc t.length (wo i x)).toNat (((ptF t p x i).getD (plc t.length (wo i x)).toNat 0 + s).tmod p)).getD (plc t.length (mvk t (x.getD i 0) i (x.length - 1) (wo i x))).toNat 0 ≤ p - 1 := fun s s1 s2 => by
      rw [getD_set _ _ _ _ (by omega)]
      split
      · exact tmod_in (by omega) (by omega)
      · exact vb
    have em : ((i : Int)).tmod 2 = ((i % 2 : Nat) : Int) := by rw [Int.tmod_eq_emod_of_nonneg (by omega)]; omega
    rw [mvk_length, hwl, em]
    refine ⟨by omega, fun h4 => ?_, fun h4 => ?_⟩
    · have es : sgS p i = p - 1 := if_pos (by omega)
      have v := vc (p - 1) (by omega) (by omega)
      refine ⟨by omega, ⟨by omega, hw, hN, by omega⟩, ⟨by omega, hb, hN, by omega⟩, by omega, by omega, by omega, by omega, by omega, by omega, by omega, by omega, by omega, by omega, i + 1, by omega, by omega, by omega, ?_⟩
      rw [ptF, es]; rfl
    · have es : sgS p i = 1 := if_neg (by omega)
      have v := vc 1 (by omega) (by omega)
      refine ⟨⟨by omega, hw, hN, by omega⟩, ⟨by omega, hb, hN, by omega⟩, by omega, by omega, by omega, by omega, by omega, by omega, by omega, by omega, by omega, by omega, i + 1, by omega, by omega, by omega, ?_⟩
      rw [ptF, es]; rfl
theorem l15Tuples_fits : Fits Try.prog 44 ⟨[], l15Tuples_ct⟩ := by
  refine fits_fn (Γ := gam l15Tuples_G) (gok_cons l15Power_fits (gok_cons l01Own_fits (gok_cons l15Place_fits gok_nil))) Try.func44 (by kernel_rfl) (by kernel_rfl) (by kernel_rfl) fun ds p h hp => ?_
  unfold l15Tuples_ct at h
  split at h
  · cases h
    exact ⟨noWr, l15Tuples_ann _ _ _ , by rw [l15Tuples_vc]; exact l15Tuples_ok _ _ _  hp⟩
  · cases h

/-- The boundary of a chain of degree k, up to i. -/
def bdF (t : List (List Int)) (p : Int) (k : Nat) (c : List Int) : Nat → List Int
  | 0 => List.replicate (t.length ^ (k - 1)) 0
  | i + 1 => if c.getD i 0 = 0 then bdF t p k c i else stF p (c.getD i 0) (ptF t p (digN t.length k i) k) (bdF t p k c i)

end Go.Sx
