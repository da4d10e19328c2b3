/- BndI -/
import Derived.Test.YtbppifmljnnogaaGreatOwn
open Go Go.Proofs
namespace Go.Sx
set_option linter.unusedSimpArgs false
set_option linter.unusedVariables false
def Clone_p (l : List Int) : Post := ⟨l.length ≠ 0 ∧ room l.length, .c (.ints 2 .i64 (l)), []⟩
def Clone_ct : List AD → Option Post
  | [.c (.ints .i64 (l))] => some (Clone_p l)
  | _ => none
def Clone_G : List (Nat × Ctr) := []
def Clone_V (l : List Int) : Prop :=
 ((FC.len (FC.ints IntKind.i64 l) ≠ (0:Nat))∧((room (([] : List Int).length + l.length))∧(([] ++ l = l)∧True)))
theorem Clone_vc (l : List Int) : runF Tryz.prog (gam Clone_G) noWr noAnn Tryz.f124 (bodyOf Tryz.f124) [] [.c (.ints .i64 (l))] (Clone_p l) = Clone_V l := by kernel_rfl
theorem Clone_ok (l : List Int) (hpre : (Clone_p l).pre) : Clone_V l := by
  simp only [Clone_p, Clone_V, BrP_iff, u1, u2, u3, u4, u5, u6, u7, u8, u9, v1, v2, v3, v4, v5, v6, v7, v8, v9, w1, w2, w3, w4, markL_length, inB, InR, room, bdsOk] at hpre ⊢
  obtain ⟨a, b⟩ := hpre
  exact ⟨a, by omega, rfl⟩
theorem Clone_fits : Fits Tryz.prog 124 ⟨[], Clone_ct⟩ := by
  refine ffn (Γ := gam Clone_G) gok_nil Tryz.func124 fun ds p h hp => ?_
  unfold Clone_ct at h
  split at h
  · cases h
    exact ⟨noWr, noAnn, by rw [Clone_vc]; exact Clone_ok _  hp⟩
  · cases h
def numberOf_p (n : Int) (x : List Int) : Post := ⟨1 ≤ n ∧ inT n.toNat x ∧ n ^ x.length ≤ 512 ∧ x.length ≤ 1000, .c (.int .i64 (plc n x)), []⟩
def numberOf_ct : List AD → Option Post
  | [.c (.int .i64 (n)), .c (.ints .i64 (x))] => some (numberOf_p n x)
  | _ => none
def numberOf_ann (n : Int) (x : List Int) : Nat → Option Ann
  | 0 => some (Ann.mk ((Nat)) (fun i => ⟨[(0, .c (.int .i64 (n))), (5, .c (.int .i64 (plc n (x.take i)))), (8, .c (.ro (.ints .i64 (x)))), (9, .c (.int .i64 ((x.length : Int)))), (10, .c (.int .i64 ((i : Int))))], []⟩) (fun i => i ≤ x.length) (fun i => x.length - i) (fun _ => noAnn))
  | _ => none
def numberOf_G : List (Nat × Ctr) := []
def numberOf_V (n : Int) (x : List Int) : Prop :=
 ((∃ x0 : Nat, ((x0 ≤ x.length)∧((n = n)∧(((0:Int) = plc n (List.take x0 x))∧((x = x)∧(((↑(x.length):Int) = (↑(x.length):Int))∧((0:Int) = (↑x0:Int))))))))∧(∀ x1 : Nat, ((x1 ≤ x.length) → (BrP (decide ((↑x1:Int) < (↑(x.length):Int))) ((inB (↑x1:Int) (x.length))∧((InR (plc n (List.take x1 x) * n))∧((InR (plc n (List.take x1 x) * n + x.getD ((↑x1:Int).toNat) (0:Int)))∧((InR ((↑x1:Int) + (1:Int)))∧(∃ x2 : Nat, ((x2 ≤ x.length)∧((x.length - x2 < x.length - x1)∧((n = n)∧((plc n (List.take x1 x) * n + x.getD ((↑x1:Int).toNat) (0:Int) = plc n (List.take x2 x))∧((x = x)∧(((↑(x.length):Int) = (↑(x.length):Int))∧((↑x1:Int) + (1:Int) = (↑x2:Int))))))))))))) ((plc n (List.take x1 x) = plc n x)∧True)))))
theorem numberOf_vc (n : Int) (x : List Int) : runF Tryz.prog (gam numberOf_G) noWr (numberOf_ann n x) Tryz.f125 (bodyOf Tryz.f125) [] [.c (.int .i64 (n)), .c (.ints .i64 (x))] (numberOf_p n x) = numberOf_V n x := by kernel_rfl
theorem numberOf_ok (n : Int) (x : List Int) (hpre : (numberOf_p n x).pre) : numberOf_V n x := by
  simp only [numberOf_p, numberOf_V, BrP_iff, u1, u2, u3, u4, u5, u6, u7, u8, u9, v1, v2, v3, v4, v5, v6, v7, v8, v9, w1, w2, w3, w4, markL_length, inB, InR, room, bdsOk] at hpre ⊢
  obtain ⟨hn, hx, hp, hl⟩ := hpre
  obtain ⟨m, rfl⟩ : ∃ m : Nat, n = (m : Int) := ⟨n.toNat, by omega⟩
  rw [Int.toNat_natCast] at hx
  refine ⟨⟨0, by omega, rfl, rfl⟩, fun i hi => ⟨fun h => ?_, fun h => by rw [List.take_of_length_le (by omega)]⟩⟩
  have a := plc_le (by omega) hx i (by omega)
  have b := plc_le (by omega) hx (i + 1) (by omega)
  have c := hx i (by omega)
  have d := pow_le (n := (m : Int)) (by omega) (show i + 1 ≤ x.length by omega)
  have e := plc_step m x i (by omega)
  have f := Int.mul_nonneg a.1 (show (0 : Int) ≤ m by omega)
  exact ⟨by omega, by omega, by omega, by omega, i + 1, by omega, by omega, e.symm, by omega⟩
theorem numberOf_fits : Fits Tryz.prog 125 ⟨[], numberOf_ct⟩ := by
  refine ffn (Γ := gam numberOf_G) gok_nil Tryz.func125 fun ds p h hp => ?_
  unfold numberOf_ct at h
  split at h
  · cases h
    exact ⟨noWr, numberOf_ann _ _ , by rw [numberOf_vc]; exact numberOf_ok _ _  hp⟩
  · cases h
def l15Place_p (n : Int) (x : List Int) : Post := ⟨1 ≤ n ∧ inT n.toNat x ∧ n ^ x.length ≤ 512 ∧ x.length ≤ 1000, .c (.int .i64 (plc n x)), []⟩
def l15Place_ct : List AD → Option Post
  | [.c (.int .i64 (n)), .c (.ints .i64 (x))] => some (l15Place_p n x)
  | _ => none
def l15Place_ann (n : Int) (x : List Int) : Nat → Option Ann
  | 0 => some (Ann.mk ((Nat)) (fun i => ⟨[(0, .c (.int .i64 (n))), (5, .c (.int .i64 (plc n (x.take i)))), (1, .c (.ro (.ints .i64 (x)))), (6, .c (.int .i64 ((i : Int))))], []⟩) (fun i => i ≤ x.length) (fun i => x.length - i) (fun _ => noAnn))
  | _ => none
def l15Place_G : List (Nat × Ctr) := []
def l15Place_V (n : Int) (x : List Int) : Prop :=
 ((∃ x0 : Nat, ((x0 ≤ x.length)∧((n = n)∧(((0:Int) = plc n (List.take x0 x))∧((x = x)∧((0:Int) = (↑x0:Int)))))))∧(∀ x1 : Nat, ((x1 ≤ x.length) → (BrP (decide ((↑x1:Int) < (↑(x.length):Int))) ((InR (plc n (List.take x1 x) * n))∧((inB (↑x1:Int) (x.length))∧((InR (plc n (List.take x1 x) * n + x.getD ((↑x1:Int).toNat) (0:Int)))∧((InR ((↑x1:Int) + (1:Int)))∧(∃ x2 : Nat, ((x2 ≤ x.length)∧((x.length - x2 < x.length - x1)∧((n = n)∧((plc n (List.take x1 x) * n + x.getD ((↑x1:Int).toNat) (0:Int) = plc n (List.take x2 x))∧((x = x)∧((↑x1:Int) + (1:Int) = (↑x2:Int)))))))))))) ((plc n (List.take x1 x) = plc n x)∧True)))))
theorem l15Place_vc (n : Int) (x : List Int) : runF Tryz.prog (gam l15Place_G) noWr (l15Place_ann n x) Tryz.f133 (bodyOf Tryz.f133) [] [.c (.int .i64 (n)), .c (.ints .i64 (x))] (l15Place_p n x) = l15Place_V n x := by kernel_rfl
theorem l15Place_ok (n : Int) (x : List Int) (hpre : (l15Place_p n x).pre) : l15Place_V n x := by
  simp only [l15Place_p, l15Place_V, BrP_iff, u1, u2, u3, u4, u5, u6, u7, u8, u9, v1, v2, v3, v4, v5, v6, v7, v8, v9, w1, w2, w3, w4, markL_length, inB, InR, room, bdsOk] at hpre ⊢
  obtain ⟨hn, hx, hp, hl⟩ := hpre
  obtain ⟨m, rfl⟩ : ∃ m : Nat, n = (m : Int) := ⟨n.toNat, by omega⟩
  rw [Int.toNat_natCast] at hx
  refine ⟨⟨0, by omega, rfl, rfl⟩, fun i hi => ⟨fun h => ?_, fun h => by rw [List.take_of_length_le (by omega)]⟩⟩
  have a := plc_le (by omega) hx i (by omega)
  have b := plc_le (by omega) hx (i + 1) (by omega)
  have c := hx i (by omega)
  have d := pow_le (n := (m : Int)) (by omega) (show i + 1 ≤ x.length by omega)
  have e := plc_step m x i (by omega)
  have f := Int.mul_nonneg a.1 (show (0 : Int) ≤ m by omega)
  exact ⟨by omega, by omega, by omega, by omega, i + 1, by omega, by omega, e.symm, by omega⟩
theorem l15Place_fits : Fits Tryz.prog 133 ⟨[], l15Place_ct⟩ := by
  refine ffn (Γ := gam l15Place_G) gok_nil Tryz.func133 fun ds p h hp => ?_
  unfold l15Place_ct at h
  split at h
  · cases h
    exact ⟨noWr, l15Place_ann _ _ , by rw [l15Place_vc]; exact l15Place_ok _ _  hp⟩
  · cases h
def bdOk (t : List (List Int)) (p : Int) (x : List Int) : Prop := tabB t = true ∧ 2 ≤ p ∧ p ≤ 7 ∧ inT t.length x ∧ (t.length : Int) ^ (x.length - 1) ≤ 512 ∧ x.length ≤ 1000
def addBoundary_p (t : List (List Int)) (p : Int) (x : List Int) (times : Int) (c : List Int) : Post := ⟨bdOk t p x ∧ 0 ≤ times ∧ times ≤ p - 1 ∧ inP p c ∧ c.length = t.length ^ (x.length - 1), .tup [], [.ints 2 .i64 (adF t p x times c x.length)]⟩
def addBoundary_ct : List AD → Option Post
  | [.c (.rows .i64 (t)), .c (.int .i64 (p)), .c (.ints .i64 (x)), .c (.int .i64 (times)), .c (.ints .i64 (c))] => some (addBoundary_p t p x times c)
  | _ => none
def addBoundary_ann (t : List (List Int)) (p : Int) (x : List Int) (times : Int) (c : List Int) : Nat → Option Ann
  | 0 => some (Ann.mk ((Nat)) (fun i => ⟨[(0, .c (.ro (.rows .i64 (t)))), (1, .c (.int .i64 (p))), (2, .c (.ro (.ints .i64 (x)))), (4, .c (.own (764))), (10, .c (.int .i64 ((t.length : Int)))), (11, .c (.int .i64 (sgI p times i))), (21, .c (.ro (.ints .i64 (x)))), (22, .c (.int .i64 ((x.length : Int)))), (23, .c (.int .i64 ((i : Int))))], [(764, some (.ints 2 .i64 (adF t p x times c i)))]⟩) (fun i => i ≤ x.length) (fun i => x.length - i) (fun i => fun b_ => match b_ with | 2 => some (Ann.mk ((Nat)) (fun k => ⟨[(0, .c (.ro (.rows .i64 (t)))), (1, .c (.int .i64 (p))), (2, .c (.ro (.ints .i64 (x)))), (4, .c (.own (764))), (10, .c (.int .i64 ((t.length : Int)))), (11, .c (.int .i64 (sgI p times (i + 1)))), (21, .c (.ro (.ints .i64 (x)))), (22, .c (.int .i64 ((x.length : Int)))), (23, .c (.int .i64 ((i : Int)))), (12, .c (.int .i64 ((i : Int)))), (13, .c (.int .i64 (x.getD i 0))), (14, .c (.own (38))), (15, .c (.int .i64 (plc t.length (wo i x)))), (16, .c (.int .i64 ((k : Int))))], [(764, some (.ints 2 .i64 (adF t p x times c i))), (38, some (.ints 2 .i64 (mvk t (x.getD i 0) i k (wo i x))))]⟩) (fun k => i ≤ k ∧ k ≤ x.length - 1 ∧ i < x.length) (fun k => x.length - k) (fun _ => noAnn)) | _ => none))
  | _ => none
def addBoundary_G : List (Nat × Ctr) := [(124, ⟨[], Clone_ct⟩), (123, ⟨[(0,99),(0,99)], sDelete_ct⟩), (125, ⟨[], numberOf_ct⟩)]
def addBoundary_c1 (t : List (List Int)) (p : Int) (x : List Int) (times : Int) (c : List Int) (x0 : Nat) := (List.set (adF t p x times c x0) ((plc (↑(t.length):Int) (wo x0 x)).toNat) (Int.tmod ((adF t p x times c x0).getD ((plc (↑(t.length):Int) (wo x0 x)).toNat) (0:Int) + sgI p times (x0 + (1:Nat))) p))
def addBoundary_V (t : List (List Int)) (p : Int) (x : List Int) (times : Int) (c : List Int) : Prop :=
 ((∃ x0 : Nat, ((x0 ≤ x.length)∧((t = t)∧((p = p)∧((x = x)∧(((↑(t.length):Int) = (↑(t.length):Int))∧((times = sgI p times x0)∧((x = x)∧(((↑(x.length):Int) = (↑(x.length):Int))∧(((0:Int) = (↑x0:Int))∧(c = adF t p x times c x0)))))))))))∧(∀ x1 : Nat, ((x1 ≤ x.length) → (BrP (decide ((↑x1:Int) < (↑(x.length):Int))) ((inB (↑x1:Int) (x.length))∧((InR (p - sgI p times x1))∧((p ≠ (0:Int))∧((((x.length ≠ (0:Nat))∧(room (x.length)))∧True)∧((InR ((↑x1:Int) + (1:Int)))∧((((0:Int) ≤ (↑x1:Int))∧(((↑x1:Int) < (↑x1:Int) + (1:Int))∧((↑x1:Int) + (1:Int) ≤ (↑(x.length):Int))))∧(((((1:Int) ≤ (↑(t.length):Int))∧((inT ((↑(t.length):Int).toNat) (List.take ((↑x1:Int).toNat) x ++ List.drop (((↑x1:Int) + (1:Int)).toNat) x))∧(((↑(t.length):Int) ^ (List.take ((↑x1:Int).toNat) x ++ List.drop (((↑x1:Int) + (1:Int)).toNat) x).length ≤ (512:Int))∧((List.take ((↑x1:Int).toNat) x ++ List.drop (((↑x1:Int) + (1:Int)).toNat) x).length ≤ (1000:Nat)))))∧True)∧((∃ x2 : Nat, (((x1 ≤ x2)∧((x2 ≤ x.length - (1:Nat))∧(x1 < x.length)))∧((t = t)∧((p = p)∧((x = x)∧(((↑(t.length):Int) = (↑(t.length):Int))∧((Int.tmod (p - sgI p times x1) p = sgI p times (x1 + (1:Nat)))∧((x = x)∧(((↑(x.length):Int) = (↑(x.length):Int))∧(((↑x1:Int) = (↑x1:Int))∧(((↑x1:Int) = (↑x1:Int))∧((x.getD ((↑x1:Int).toNat) (0:Int) = x.getD x1 (0:Int))∧((plc (↑(t.length):Int) (List.take ((↑x1:Int).toNat) x ++ List.drop (((↑x1:Int) + (1:Int)).toNat) x) = plc (↑(t.length):Int) (wo x1 x))∧(((↑x1:Int) = (↑x2:Int)) ∧
 ((adF t p x times c x1 = adF t p x times c x1)∧(List.take ((↑x1:Int).toNat) x ++ List.drop (((↑x1:Int) + (1:Int)).toNat) x = mvk t (x.getD x1 (0:Int)) x1 x2 (wo x1 x)))))))))))))))))∧(∀ x3 : Nat, (((x1 ≤ x3)∧((x3 ≤ x.length - (1:Nat))∧(x1 < x.length))) → (BrP (decide ((↑x3:Int) < (↑((mvk t (x.getD x1 (0:Int)) x1 x3 (wo x1 x)).length):Int))) ((inB (x.getD x1 (0:Int)) (t.length))∧((inB (↑x3:Int) ((mvk t (x.getD x1 (0:Int)) x1 x3 (wo x1 x)).length))∧((inB ((mvk t (List.getD x x1 (0:Int)) x1 x3 (wo x1 x)).getD ((↑x3:Int).toNat) (0:Int)) ((t.getD ((x.getD x1 (0:Int)).toNat) []).length))∧((inB (↑x3:Int) ((mvk t (x.getD x1 (0:Int)) x1 x3 (wo x1 x)).length))∧((InR ((↑x3:Int) + (1:Int)))∧(∃ x4 : Nat, (((x1 ≤ x4)∧((x4 ≤ x.length - (1:Nat))∧(x1 < x.length)))∧((x.length - x4 < x.length - x3)∧((t = t)∧((p = p)∧((x = x)∧(((↑(t.length):Int) = (↑(t.length):Int))∧((sgI p times (x1 + (1:Nat)) = sgI p times (x1 + (1:Nat)))∧((x = x)∧(((↑(x.length):Int) = (↑(x.length):Int))∧(((↑x1:Int) = (↑x1:Int))∧(((↑x1:Int) = (↑x1:Int))∧((x.getD x1 (0:Int) = x.getD x1 (0:Int))∧((plc (↑(t.length):Int) (wo x1 x) = plc (↑(t.length):Int) (wo x1 x))∧(((↑x3:Int) + (1:Int) = (↑x4:Int))∧((adF t p x times c x1 = adF t p x times c x1) ∧
 (List.set (mvk t (x.getD x1 (0:Int)) x1 x3 (wo x1 x)) ((↑x3:Int).toNat) ((List.getD t ((List.getD x x1 (0:Int)).toNat) []).getD (((mvk t (List.getD x x1 (0:Int)) x1 x3 (wo x1 x)).getD ((↑x3:Int).toNat) (0:Int)).toNat) (0:Int)) = mvk t (x.getD x1 (0:Int)) x1 x4 (wo x1 x))))))))))))))))))))))) (((((1:Int) ≤ (↑(t.length):Int))∧((inT ((↑(t.length):Int).toNat) (mvk t (x.getD x1 (0:Int)) x1 x3 (wo x1 x)))∧(((↑(t.length):Int) ^ (mvk t (x.getD x1 (0:Int)) x1 x3 (wo x1 x)).length ≤ (512:Int))∧((mvk t (x.getD x1 (0:Int)) x1 x3 (wo x1 x)).length ≤ (1000:Nat)))))∧True)∧((inB (plc (↑(t.length):Int) (wo x1 x)) ((adF t p x times c x1).length))∧((InR ((adF t p x times c x1).getD ((plc (↑(t.length):Int) (wo x1 x)).toNat) (0:Int) + sgI p times (x1 + (1:Nat))))∧((p ≠ (0:Int))∧((inB (plc (↑(t.length):Int) (wo x1 x)) ((adF t p x times c x1).length))∧((inB (plc (↑(t.length):Int) (mvk t (x.getD x1 (0:Int)) x1 x3 (wo x1 x))) ((addBoundary_c1 t p x times c x1).length))∧((InR ((addBoundary_c1 t p x times c x1).getD ((plc (↑(t.length):Int) (mvk t (x.getD x1 (0:Int)) x1 x3 (wo x1 x))).toNat) (0:Int) + p))∧((InR ((addBoundary_c1 t p x times c x1).getD ((plc (↑(t.length):Int) (mvk t (x.getD x1 (0:Int)) x1 x3 (wo x1 x))).toNat) (0:Int) + p - sgI p times (x1 + (1:Nat))))∧((p ≠ (0:Int))∧((inB (plc (↑(t.length):Int) (mvk t (x.getD x1 (0:Int)) x1 x3 (wo x1 x))) ((addBoundary_c1 t p x times c x1).length))∧((InR ((↑x1:Int) + (1:Int)))∧(∃ x5 : Nat, ((x5 ≤ x.length)∧((x.length - x5 < x.length - x1)∧((t = t) ∧
 ((p = p)∧((x = x)∧(((↑(t.length):Int) = (↑(t.length):Int))∧((sgI p times (x1 + (1:Nat)) = sgI p times x5)∧((x = x)∧(((↑(x.length):Int) = (↑(x.length):Int))∧(((↑x1:Int) + (1:Int) = (↑x5:Int))∧(List.set (addBoundary_c1 t p x times c x1) ((plc (↑(t.length):Int) (mvk t (x.getD x1 (0:Int)) x1 x3 (wo x1 x))).toNat) (Int.tmod ((addBoundary_c1 t p x times c x1).getD ((plc (↑(t.length):Int) (mvk t (x.getD x1 (0:Int)) x1 x3 (wo x1 x))).toNat) (0:Int) + p - sgI p times (x1 + (1:Nat))) p) = adF t p x times c x5)))))))))))))))))))))))))))))))))) (True∧((adF t p x times c x1 = adF t p x times c (x.length))∧True))))))
theorem addBoundary_vc (t : List (List Int)) (p : Int) (x : List Int) (times : Int) (c : List Int) : runF Tryz.prog (gam addBoundary_G) noWr (addBoundary_ann t p x times c) Tryz.f90 (bodyOf Tryz.f90) [(4, 0)] [.c (.rows .i64 (t)), .c (.int .i64 (p)), .c (.ints .i64 (x)), .c (.int .i64 (times)), .c (.ints .i64 (c))] (addBoundary_p t p x times c) = addBoundary_V t p x times c := by kernel_rfl
theorem addBoundary_ok (t : List (List Int)) (p : Int) (x : List Int) (times : Int) (c : List Int) (hpre : (addBoundary_p t p x times c).pre) : addBoundary_V t p x times c := by
  simp only [addBoundary_p, addBoundary_V, addBoundary_c1, BrP_iff, u1, u2, u3, u4, u5, u6, u7, u8, u9, v1, v2, v3, v4, v5, v6, v7, v8, v9, w1, w2, w3, w4, markL_length, inB, InR, room, bdsOk] at hpre ⊢
  obtain ⟨⟨h1, p1, p2, hx, hN, hl⟩, t1, t2, hc, hcl⟩ := hpre
  obtain ⟨n1, n2, ht⟩ := tabB_of h1
  have hcN : (c.length : Int) = (t.length : Int) ^ (x.length - 1) := by rw [hcl, Int.natCast_pow]
  refine ⟨⟨0, by omega, rfl, rfl, rfl⟩, fun i hi => ⟨fun h => ?_, fun h => by rw [show i = x.length by omega]⟩⟩
  have hi' : i < x.length := by omega
  have s1 := sgI_in (p := p) (by omega) ⟨t1, t2⟩ i
  have s2 := sgI_in (p := p) (by omega) ⟨t1, t2⟩ (i + 1)
  have hw := wo_in hx hi'
  have hwl := wo_length i x hi'
  have ew : List.take i x ++ List.drop ((i : Int) + 1).toNat x = wo i x := by rw [show ((i : Int) + 1).toNat = i + 1 by omega]; rfl
  have ev : min i x.length + (x.length - ((i : Int) + 1).toNat) = x.length - 1 := by omega
  have xi := hx i hi'
  have A := plc_all n1 hw
  rw [hwl] at A
  rw [ew, ev]
  refine ⟨by omega, by omega, by omega, ⟨by omega, by omega⟩, by omega, by omega, ⟨by omega, hw, hN, by omega⟩, ⟨i, by omega, rfl, rfl, rfl, (mvk_none _ _ _ _).symm⟩, fun k ⟨hk1, hk2, _⟩ => ⟨fun h3 => ?_, fun h3 => ?_⟩⟩
  · rw [mvk_length, hwl] at h3
    have v := mvk_in h1 hw (c := x.getD i 0) (by omega) i k k (by rw [mvk_length, hwl]; omega)
    have hat := mvk_at t (x.getD i 0) i k (wo i x) (by omega)
    have r := (ht (x.getD i 0).toNat (by omega)).1
    rw [mvk_length, hwl]
    refine ⟨by omega, by omega, by omega, by omega, by omega, k + 1, by omega, by omega, by omega, ?_⟩
    rw [hat]
    exact mvk_step t (x.getD i 0) i k (wo i x) hk1
  · rw [mvk_length, hwl] at h3
    have ek : k = x.length - 1 := by omega
    subst ek
    have hb := mvk_in h1 hw (c := x.getD i 0) (by omega) i (x.length - 1)
    have B := plc_all n1 hb
    rw [mvk_length, hwl] at B
    have hal := adF_length t p x times c i
    have hai := adF_in t (p := p) (by omega) x ⟨t1, t2⟩ hc i
    have va := hai (plc t.length (wo i x)).toNat (by omega)
    have vb := hai (plc t.length (mvk t (x.getD i 0) i (x.length - 1) (wo i x))).toNat (by omega)
    have vc : 0 ≤ ((adF t p x times c i).set (plc t.length (wo i x)).toNat (((adF t p x times c i).getD (plc t.length (wo i x)).toNat 0 + sgI p times (i + 1)).tmod p)).getD (plc t.length (mvk t (x.getD i 0) i (x.length - 1) (wo i x))).toNat 0 ∧ ((adF t p x times c i).set (plc t.length (wo i x)).toNat (((adF t p x times c i).getD (plc t.length (wo i x)).toNat 0 + sgI p times (i + 1)).tmod p)).getD (plc t.length (mvk t (x.getD i 0) i (x.length - 1) (wo i x))).toNat 0 ≤ p - 1 := by
      rw [getD_set _ _ _ _ (by omega)]
      split
      · exact tmod_in (by omega) (by omega)
      · exact vb
    rw [mvk_length, hwl]
    refine ⟨⟨by omega, hb, hN, by omega⟩, by omega, by omega, by omega, by omega, by omega, by omega, by omega, by omega, by omega, by omega, i + 1, by omega, by omega, rfl, by omega, rfl⟩
theorem addBoundary_fits : Fits Tryz.prog 90 ⟨[(4, 0)], addBoundary_ct⟩ := by
  refine ffn (Γ := gam addBoundary_G) (gok_cons Clone_fits (gok_cons sDelete_fits (gok_cons numberOf_fits gok_nil))) Tryz.func90 fun ds p h hp => ?_
  unfold addBoundary_ct at h
  split at h
  · cases h
    exact ⟨noWr, addBoundary_ann _ _ _ _ _ , by rw [addBoundary_vc]; exact addBoundary_ok _ _ _ _ _  hp⟩
  · cases h
def l15Tuples_p (t : List (List Int)) (p : Int) (x : List Int) : Post := ⟨bdOk t p x ∧ 1 ≤ x.length, .c (.ints 2 .i64 (ptF t p x x.length)), []⟩
def l15Tuples_ct : List AD → Option Post
  | [.c (.rows .i64 (t)), .c (.int .i64 (p)), .c (.ints .i64 (x))] => some (l15Tuples_p t p x)
  | _ => none
def l15Tuples_ann (t : List (List Int)) (p : Int) (x : List Int) : Nat → Option Ann
  | 0 => some (Ann.mk ((Nat)) (fun i => ⟨[(0, .c (.ro (.rows .i64 (t)))), (1, .c (.int .i64 (p))), (2, .c (.ro (.ints .i64 (x)))), (7, .c (.int .i64 ((t.length : Int)))), (8, .c (.own (23))), (9, .c (.int .i64 ((i : Int))))], [(23, some (.ints 2 .i64 (ptF t p x i)))]⟩) (fun i => i ≤ x.length) (fun i => x.length - i) (fun i => fun b_ => match b_ with | 2 => some (Ann.mk ((Nat)) (fun k => ⟨[(0, .c (.ro (.rows .i64 (t)))), (1, .c (.int .i64 (p))), (2, .c (.ro (.ints .i64 (x)))), (7, .c (.int .i64 ((t.length : Int)))), (8, .c (.own (23))), (9, .c (.int .i64 ((i : Int)))), (10, .c (.own (38))), (11, .c (.own (40))), (12, .c (.int .i64 ((k : Int))))], [(23, some (.ints 2 .i64 (ptF t p x i))), (38, some (.ints 2 .i64 (wo i x))), (40, some (.ints 2 .i64 (mvk t (x.getD i 0) i k (wo i x))))]⟩) (fun k => i ≤ k ∧ k ≤ x.length - 1 ∧ i < x.length) (fun k => x.length - k) (fun _ => noAnn)) | _ => none))
  | _ => none
def l15Tuples_G : List (Nat × Ctr) := [(44, ⟨[], l15Power_ct⟩), (117, ⟨[], l01Own_ct⟩), (133, ⟨[], l15Place_ct⟩)]
def l15Tuples_c1 (t : List (List Int)) (p : Int) (x : List Int) (x0 : Nat) := (List.set (ptF t p x x0) ((plc (↑(t.length):Int) (wo x0 x)).toNat) (Int.tmod ((ptF t p x x0).getD ((plc (↑(t.length):Int) (wo x0 x)).toNat) (0:Int) + (p - (1:Int))) p))
def l15Tuples_c2 (t : List (List Int)) (p : Int) (x : List Int) (x0 : Nat) := (List.set (ptF t p x x0) ((plc (↑(t.length):Int) (wo x0 x)).toNat) (Int.tmod ((ptF t p x x0).getD ((plc (↑(t.length):Int) (wo x0 x)).toNat) (0:Int) + (1:Int)) p))
def l15Tuples_c3 (t : List (List Int)) (x : List Int) (x0 : Nat) (x1 : Nat) := (plc (↑(t.length):Int) (mvk t (x.getD x0 (0:Int)) x0 x1 (wo x0 x)))
def l15Tuples_V (t : List (List Int)) (p : Int) (x : List Int) : Prop :=
 ((InR ((↑(x.length):Int) - (1:Int)))∧(((((1:Int) ≤ (↑(t.length):Int))∧(((↑(t.length):Int) ≤ (12:Int))∧(((0:Int) ≤ (↑(x.length):Int) - (1:Int))∧((↑(x.length):Int) - (1:Int) ≤ (1000:Int)))))∧True)∧((((0:Int) ≤ if (↑(t.length):Int) ^ ((↑(x.length):Int) - (1:Int)).toNat ≤ (512:Int) then (↑(t.length):Int) ^ ((↑(x.length):Int) - (1:Int)).toNat else (513:Int))∧(((if (↑(t.length):Int) ^ ((↑(x.length):Int) - (1:Int)).toNat ≤ (512:Int) then (↑(t.length):Int) ^ ((↑(x.length):Int) - (1:Int)).toNat else (513:Int)) ≤ if (↑(t.length):Int) ^ ((↑(x.length):Int) - (1:Int)).toNat ≤ (512:Int) then (↑(t.length):Int) ^ ((↑(x.length):Int) - (1:Int)).toNat else (513:Int))∧(room ((if (↑(t.length):Int) ^ ((↑(x.length):Int) - (1:Int)).toNat ≤ (512:Int) then (↑(t.length):Int) ^ ((↑(x.length):Int) - (1:Int)).toNat else (513:Int)).toNat))))∧((∃ x0 : Nat, ((x0 ≤ x.length)∧((t = t)∧((p = p)∧((x = x)∧(((↑(t.length):Int) = (↑(t.length):Int))∧(((0:Int) = (↑x0:Int))∧(List.replicate ((if (↑(t.length):Int) ^ ((↑(x.length):Int) - (1:Int)).toNat ≤ (512:Int) then (↑(t.length):Int) ^ ((↑(x.length):Int) - (1:Int)).toNat else (513:Int)).toNat) (0:Int) = ptF t p x x0))))))))∧(∀ x1 : Nat, ((x1 ≤ x.length) → (BrP (decide ((↑x1:Int) < (↑(x.length):Int))) ((bdsOk (x.length) Option.none (Option.some (↑x1:Int)))∧(((room ((cutL x Option.none (Option.some (↑x1:Int))).length))∧True)∧((InR ((↑x1:Int) + (1:Int)))∧((bdsOk (x.length) (Option.some ((↑x1:Int) + (1:Int))) Option.none) ∧
 ((room ((cutL x Option.none (Option.some (↑x1:Int))).length + (cutL x (Option.some ((↑x1:Int) + (1:Int))) Option.none).length))∧(((room ((cutL x Option.none (Option.some (↑x1:Int)) ++ cutL x (Option.some ((↑x1:Int) + (1:Int))) Option.none).length))∧True)∧((∃ x2 : Nat, (((x1 ≤ x2)∧((x2 ≤ x.length - (1:Nat))∧(x1 < x.length)))∧((t = t)∧((p = p)∧((x = x)∧(((↑(t.length):Int) = (↑(t.length):Int))∧(((↑x1:Int) = (↑x1:Int))∧(((↑x1:Int) = (↑x2:Int))∧((ptF t p x x1 = ptF t p x x1)∧((cutL x Option.none (Option.some (↑x1:Int)) ++ cutL x (Option.some ((↑x1:Int) + (1:Int))) Option.none = wo x1 x)∧(cutL x Option.none (Option.some (↑x1:Int)) ++ cutL x (Option.some ((↑x1:Int) + (1:Int))) Option.none = mvk t (x.getD x1 (0:Int)) x1 x2 (wo x1 x))))))))))))∧(∀ x3 : Nat, (((x1 ≤ x3)∧((x3 ≤ x.length - (1:Nat))∧(x1 < x.length))) → (BrP (decide ((↑x3:Int) < (↑((mvk t (x.getD x1 (0:Int)) x1 x3 (wo x1 x)).length):Int))) ((inB (↑x1:Int) (x.length))∧((inB (x.getD ((↑x1:Int).toNat) (0:Int)) (t.length))∧((inB (↑x3:Int) ((mvk t (x.getD x1 (0:Int)) x1 x3 (wo x1 x)).length))∧((inB ((mvk t (List.getD x x1 (0:Int)) x1 x3 (wo x1 x)).getD ((↑x3:Int).toNat) (0:Int)) ((t.getD ((x.getD ((↑x1:Int).toNat) (0:Int)).toNat) []).length))∧((inB (↑x3:Int) ((mvk t (x.getD x1 (0:Int)) x1 x3 (wo x1 x)).length))∧((InR ((↑x3:Int) + (1:Int)))∧(∃ x4 : Nat, (((x1 ≤ x4)∧((x4 ≤ x.length - (1:Nat))∧(x1 < x.length)))∧((x.length - x4 < x.length - x3)∧((t = t)∧((p = p)∧((x = x)∧(((↑(t.length):Int) = (↑(t.length):Int)) ∧
 (((↑x1:Int) = (↑x1:Int))∧(((↑x3:Int) + (1:Int) = (↑x4:Int))∧((ptF t p x x1 = ptF t p x x1)∧((wo x1 x = wo x1 x)∧(List.set (mvk t (x.getD x1 (0:Int)) x1 x3 (wo x1 x)) ((↑x3:Int).toNat) ((List.getD t ((List.getD x ((↑x1:Int).toNat) (0:Int)).toNat) []).getD (((mvk t (List.getD x x1 (0:Int)) x1 x3 (wo x1 x)).getD ((↑x3:Int).toNat) (0:Int)).toNat) (0:Int)) = mvk t (x.getD x1 (0:Int)) x1 x4 (wo x1 x))))))))))))))))))) (((2:Int) ≠ (0:Int))∧(BrP (Int.tmod (↑x1:Int) (2:Int) == (0:Int)) ((InR (p - (1:Int)))∧(((((1:Int) ≤ (↑(t.length):Int))∧((inT ((↑(t.length):Int).toNat) (wo x1 x))∧(((↑(t.length):Int) ^ (wo x1 x).length ≤ (512:Int))∧((wo x1 x).length ≤ (1000:Nat)))))∧True)∧(((((1:Int) ≤ (↑(t.length):Int))∧((inT ((↑(t.length):Int).toNat) (mvk t (x.getD x1 (0:Int)) x1 x3 (wo x1 x)))∧(((↑(t.length):Int) ^ (mvk t (x.getD x1 (0:Int)) x1 x3 (wo x1 x)).length ≤ (512:Int))∧((mvk t (x.getD x1 (0:Int)) x1 x3 (wo x1 x)).length ≤ (1000:Nat)))))∧True)∧((inB (plc (↑(t.length):Int) (wo x1 x)) ((ptF t p x x1).length))∧((InR ((ptF t p x x1).getD ((plc (↑(t.length):Int) (wo x1 x)).toNat) (0:Int) + (p - (1:Int))))∧((p ≠ (0:Int))∧((inB (plc (↑(t.length):Int) (wo x1 x)) ((ptF t p x x1).length))∧((inB (l15Tuples_c3 t x x1 x3) ((l15Tuples_c1 t p x x1).length))∧((InR ((l15Tuples_c1 t p x x1).getD ((l15Tuples_c3 t x x1 x3).toNat) (0:Int) + p))∧((InR ((l15Tuples_c1 t p x x1).getD ((l15Tuples_c3 t x x1 x3).toNat) (0:Int) + p - (p - (1:Int))))∧((p ≠ (0:Int)) ∧
 ((inB (l15Tuples_c3 t x x1 x3) ((l15Tuples_c1 t p x x1).length))∧((InR ((↑x1:Int) + (1:Int)))∧(∃ x5 : Nat, ((x5 ≤ x.length)∧((x.length - x5 < x.length - x1)∧((t = t)∧((p = p)∧((x = x)∧(((↑(t.length):Int) = (↑(t.length):Int))∧(((↑x1:Int) + (1:Int) = (↑x5:Int))∧(List.set (l15Tuples_c1 t p x x1) ((l15Tuples_c3 t x x1 x3).toNat) (Int.tmod ((l15Tuples_c1 t p x x1).getD ((l15Tuples_c3 t x x1 x3).toNat) (0:Int) + p - (p - (1:Int))) p) = ptF t p x x5)))))))))))))))))))))) (((((1:Int) ≤ (↑(t.length):Int))∧((inT ((↑(t.length):Int).toNat) (wo x1 x))∧(((↑(t.length):Int) ^ (wo x1 x).length ≤ (512:Int))∧((wo x1 x).length ≤ (1000:Nat)))))∧True)∧(((((1:Int) ≤ (↑(t.length):Int))∧((inT ((↑(t.length):Int).toNat) (mvk t (x.getD x1 (0:Int)) x1 x3 (wo x1 x)))∧(((↑(t.length):Int) ^ (mvk t (x.getD x1 (0:Int)) x1 x3 (wo x1 x)).length ≤ (512:Int))∧((mvk t (x.getD x1 (0:Int)) x1 x3 (wo x1 x)).length ≤ (1000:Nat)))))∧True)∧((inB (plc (↑(t.length):Int) (wo x1 x)) ((ptF t p x x1).length))∧((InR ((ptF t p x x1).getD ((plc (↑(t.length):Int) (wo x1 x)).toNat) (0:Int) + (1:Int)))∧((p ≠ (0:Int))∧((inB (plc (↑(t.length):Int) (wo x1 x)) ((ptF t p x x1).length))∧((inB (l15Tuples_c3 t x x1 x3) ((l15Tuples_c2 t p x x1).length))∧((InR ((l15Tuples_c2 t p x x1).getD ((l15Tuples_c3 t x x1 x3).toNat) (0:Int) + p))∧((InR ((l15Tuples_c2 t p x x1).getD ((l15Tuples_c3 t x x1 x3).toNat) (0:Int) + p - (1:Int)))∧((p ≠ (0:Int))∧((inB (l15Tuples_c3 t x x1 x3) ((l15Tuples_c2 t p x x1).length))∧((InR ((↑x1:Int) + (1:Int))) ∧
 (∃ x6 : Nat, ((x6 ≤ x.length)∧((x.length - x6 < x.length - x1)∧((t = t)∧((p = p)∧((x = x)∧(((↑(t.length):Int) = (↑(t.length):Int))∧(((↑x1:Int) + (1:Int) = (↑x6:Int))∧(List.set (l15Tuples_c2 t p x x1) ((l15Tuples_c3 t x x1 x3).toNat) (Int.tmod ((l15Tuples_c2 t p x x1).getD ((l15Tuples_c3 t x x1 x3).toNat) (0:Int) + p - (1:Int)) p) = ptF t p x x6))))))))))))))))))))))))))))))))) ((ptF t p x x1 = ptF t p x (x.length))∧True))))))))
theorem l15Tuples_vc (t : List (List Int)) (p : Int) (x : List Int) : runF Tryz.prog (gam l15Tuples_G) noWr (l15Tuples_ann t p x) Tryz.f94 (bodyOf Tryz.f94) [] [.c (.rows .i64 (t)), .c (.int .i64 (p)), .c (.ints .i64 (x))] (l15Tuples_p t p x) = l15Tuples_V t p x := by kernel_rfl
theorem l15Tuples_ok (t : List (List Int)) (p : Int) (x : List Int) (hpre : (l15Tuples_p t p x).pre) : l15Tuples_V t p x := by
  simp only [l15Tuples_p, l15Tuples_V, l15Tuples_c1, l15Tuples_c2, l15Tuples_c3, BrP_iff, u1, u2, u3, u4, u5, u6, u7, u8, u9, v1, v2, v3, v4, v5, v6, v7, v8, v9, w1, w2, w3, w4, markL_length, inB, InR, room, bdsOk] at hpre ⊢
  obtain ⟨⟨h1, p1, p2, hx, hN, hl⟩, hx1⟩ := hpre
  obtain ⟨n1, n2, ht⟩ := tabB_of h1
  have et : ((x.length : Int) - 1).toNat = x.length - 1 := by omega
  have eN : (t.length : Int) ^ (x.length - 1) = ((t.length ^ (x.length - 1) : Nat) : Int) := (Int.natCast_pow _ _).symm
  rw [et, if_pos hN]
  refine ⟨by omega, by omega, ⟨by rw [eN]; omega, by omega, by rw [eN] at hN ⊢; omega⟩, ⟨0, by omega, rfl, by rw [eN, Int.toNat_natCast]; rfl⟩, fun i hi => ⟨fun h => ?_, fun h => by rw [show i = x.length by omega]⟩⟩
  have hi' : i < x.length := by omega
  have hw := wo_in hx hi'
  have hwl := wo_length i x hi'
  have c1 : cutL x none (some (i : Int)) = x.take i := by simp [cutL]
  have c2 : cutL x (some ((i : Int) + 1)) none = x.drop (i + 1) := by simp only [cutL]; rw [show ((i : Int) + 1).toNat = i + 1 by omega]
  have ew : x.take i ++ x.drop (i + 1) = wo i x := rfl
  have xi := hx i hi'
  have A := plc_all n1 hw
  rw [hwl] at A
  rw [c1, c2, ew]
  have cl1 : (x.take i).length = i := by simp; omega
  have cl2 : (x.drop (i + 1)).length = x.length - (i + 1) := by simp
  rw [cl1, cl2]
  refine ⟨by omega, by omega, by omega, by omega, by omega, by omega, ⟨i, by omega, rfl, rfl, (mvk_none _ _ _ _).symm⟩, fun k ⟨hk1, hk2, _⟩ => ⟨fun h3 => ?_, fun h3 => ?_⟩⟩
  · rw [mvk_length, hwl] at h3
    have v := mvk_in h1 hw (c := x.getD i 0) (by omega) i k k (by rw [mvk_length, hwl]; omega)
    have hat := mvk_at t (x.getD i 0) i k (wo i x) (by omega)
    have r := (ht (x.getD i 0).toNat (by omega)).1
    rw [mvk_length, hwl]
    refine ⟨by omega, by omega, by omega, by omega, by omega, by omega, k + 1, by omega, by omega, by omega, ?_⟩
    rw [hat]
    exact mvk_step t (x.getD i 0) i k (wo i x) hk1
  · rw [mvk_length, hwl] at h3
    have ek : k = x.length - 1 := by omega
    subst ek
    have hb := mvk_in h1 hw (c := x.getD i 0) (by omega) i (x.length - 1)
    have B := plc_all n1 hb
    rw [mvk_length, hwl] at B
    have hal := ptF_length t p x i
    have hai := ptF_in t p1 x i
    rw [eN] at A B
    have va := hai (plc t.length (wo i x)).toNat (by omega)
    have vb := hai (plc t.length (mvk t (x.getD i 0) i (x.length - 1) (wo i x))).toNat (by omega)
    have vc : ∀ s, 0 ≤ s → s ≤ p - 1 → 0 ≤ ((ptF t p x i).set (plc t.length (wo i x)).toNat (((ptF t p x i).getD (plc t.length (wo i x)).toNat 0 + s).tmod p)).getD (plc t.length (mvk t (x.getD i 0) i (x.length - 1) (wo i x))).toNat 0 ∧ ((ptF t p x i).set (plc t.length (wo i x)).toNat (((ptF t p x i).getD (plc t.length (wo i x)).toNat 0 + s).tmod p)).getD (plc t.length (mvk t (x.getD i 0) i (x.length - 1) (wo i x))).toNat 0 ≤ p - 1 := fun s s1 s2 => by
      rw [getD_set _ _ _ _ (by omega)]
      split
      · exact tmod_in (by omega) (by omega)
      · exact vb
    have em : ((i : Int)).tmod 2 = ((i % 2 : Nat) : Int) := by rw [Int.tmod_eq_emod_of_nonneg (by omega)]; omega
    rw [mvk_length, hwl, em]
    refine ⟨by omega, fun h4 => ?_, fun h4 => ?_⟩
    · have es : sgS p i = p - 1 := if_pos (by omega)
      have v := vc (p - 1) (by omega) (by omega)
      refine ⟨by omega, ⟨by omega, hw, hN, by omega⟩, ⟨by omega, hb, hN, by omega⟩, by omega, by omega, by omega, by omega, by omega, by omega, by omega, by omega, by omega, by omega, i + 1, by omega, by omega, by omega, ?_⟩
      rw [ptF, es]; rfl
    · have es : sgS p i = 1 := if_neg (by omega)
      have v := vc 1 (by omega) (by omega)
      refine ⟨⟨by omega, hw, hN, by omega⟩, ⟨by omega, hb, hN, by omega⟩, by omega, by omega, by omega, by omega, by omega, by omega, by omega, by omega, by omega, by omega, i + 1, by omega, by omega, by omega, ?_⟩
      rw [ptF, es]; rfl
theorem l15Tuples_fits : Fits Tryz.prog 94 ⟨[], l15Tuples_ct⟩ := by
  refine ffn (Γ := gam l15Tuples_G) (gok_cons l15Power_fits (gok_cons l01Own_fits (gok_cons l15Place_fits gok_nil))) Tryz.func94 fun ds p h hp => ?_
  unfold l15Tuples_ct at h
  split at h
  · cases h
    exact ⟨noWr, l15Tuples_ann _ _ _ , by rw [l15Tuples_vc]; exact l15Tuples_ok _ _ _  hp⟩
  · cases h
end Go.Sx
