/- Ext Rb Inc Qb -/
import Derived.Test.YtcfbmimjffkgdaaRackC
import Derived.Test.YtcfbmimjffkgdaaBndC
import Derived.Test.YtcfbmimjffkgdaaCoc
import Derived.Test.YtcfbmimjffkgdaaBase
section
open Go Go.Proofs
namespace Go.Sx
set_option linter.unusedSimpArgs false
set_option linter.unusedVariables false



theorem div_in {a n m : Int} (hm : 1 ≤ m) (h0 : 0 ≤ a) (h : a < n * m) : 0 ≤ a.tdiv m ∧ a.tdiv m < n ∧ 0 ≤ a.tmod m ∧ a.tmod m ≤ m - 1 := by
  have e1 : a.tdiv m = a / m := Int.tdiv_eq_ediv_of_nonneg h0
  rw [e1]
  have q := tmod_in h0 hm
  exact ⟨Int.ediv_nonneg h0 (by omega), Int.ediv_lt_of_lt_mul (by omega) h, q.1, q.2⟩

def exI (t : List (List Int)) (m : Int) (f : List (List Int)) (x y : Int) : Int := (t.getD (x.tdiv m).toNat []).getD (y.tdiv m).toNat 0 * m + (y.tmod m + (f.getD (x.tdiv m).toNat []).getD (y.tdiv m).toNat 0).tmod m

def exR (t : List (List Int)) (m : Int) (f : List (List Int)) : List (List Int) := tabR ((t.length : Int) * m).toNat fun x y => exI t m f (x : Int) (y : Int)

/-- What an entry of an extension needs. -/
theorem ex_in {t : List (List Int)} {m : Int} {f : List (List Int)} (h1 : tabB t = true) (h2 : matB (t.length : Int) m f = true) {x y : Int} (hx : 0 ≤ x) (hx2 : x < (t.length : Int) * m) (hy : 0 ≤ y) (hy2 : y < (t.length : Int) * m) :
    1 ≤ m ∧ m ≤ 12 ∧ (f.length : Int) = (t.length : Int) ∧ 0 ≤ x.tdiv m ∧ x.tdiv m < (t.length : Int) ∧ 0 ≤ y.tdiv m ∧ y.tdiv m < (t.length : Int) ∧ 0 ≤ y.tmod m ∧ y.tmod m ≤ m - 1 ∧
    (t.getD (x.tdiv m).toNat []).length = t.length ∧ (f.getD (x.tdiv m).toNat []).length = t.length ∧
    0 ≤ (f.getD (x.tdiv m).toNat []).getD (y.tdiv m).toNat 0 ∧ (f.getD (x.tdiv m).toNat []).getD (y.tdiv m).toNat 0 ≤ m - 1 ∧
    0 ≤ (t.getD (x.tdiv m).toNat []).getD (y.tdiv m).toNat 0 * m ∧ (t.getD (x.tdiv m).toNat []).getD (y.tdiv m).toNat 0 * m ≤ 144 ∧
    0 ≤ (y.tmod m + (f.getD (x.tdiv m).toNat []).getD (y.tdiv m).toNat 0).tmod m ∧ (y.tmod m + (f.getD (x.tdiv m).toNat []).getD (y.tdiv m).toNat 0).tmod m ≤ m - 1 := by
  obtain ⟨n1, n2, ht⟩ := tabB_of h1
  obtain ⟨m1, m2, m3, hf⟩ := matB_of h2
  obtain ⟨a1, a2, _, _⟩ := div_in m1 hx hx2
  obtain ⟨b1, b2, b3, b4⟩ := div_in m1 hy hy2
  have c := ht (x.tdiv m).toNat (by omega)
  have d := c.2 (y.tdiv m).toNat (by omega)
  have e := hf (x.tdiv m).toNat (by omega)
  have g := e.2 (y.tdiv m).toNat (by omega)
  have p1 := Int.mul_nonneg d.1 (show 0 ≤ m by omega)
  have p2 := Int.mul_le_mul (show (t.getD (x.tdiv m).toNat []).getD (y.tdiv m).toNat 0 ≤ 12 by omega) m2 (by omega) (by omega)
  have q := tmod_in (a := y.tmod m + (f.getD (x.tdiv m).toNat []).getD (y.tdiv m).toNat 0) (by omega) m1
  exact ⟨m1, m2, m3, a1, a2, b1, b2, b3, b4, c.1, by omega, g.1, g.2, p1, by omega, q.1, q.2⟩

theorem nm_in {t : List (List Int)} {m : Int} {f : List (List Int)} (h1 : tabB t = true) (h2 : matB (t.length : Int) m f = true) : 0 ≤ (t.length : Int) * m ∧ (t.length : Int) * m ≤ 144 := by
  have ht := tabB_of h1
  obtain ⟨m1, m2, _⟩ := matB_of h2
  have p1 := Int.mul_nonneg (show 0 ≤ (t.length : Int) by omega) (show 0 ≤ m by omega)
  have p2 := Int.mul_le_mul (show (t.length : Int) ≤ 12 by omega) m2 (by omega) (by omega)
  omega

def extension1_p (x : Int) (y : Int) (t : List (List Int)) (b : Int) (m : Int) (f : List (List Int)) : Post := ⟨tabB t = true ∧ matB (t.length : Int) m f = true ∧ b = m ∧ 0 ≤ x ∧ x < (t.length : Int) * m ∧ 0 ≤ y ∧ y < (t.length : Int) * m, .c (.int .i64 (exI t m f x y)), []⟩
def extension1_ct : List AD → Option Post
  | [.c (.int .i64 (x)), .c (.int .i64 (y)), .box [.rows .i64 (t)], .box [.int .i64 (b)], .box [.int .i64 (m)], .box [.rows .i64 (f)]] => some (extension1_p x y t b m f)
  | _ => none
def extension1_G : List (Nat × Ctr) := []
def extension1_V (x : Int) (y : Int) (t : List (List Int)) (b : Int) (m : Int) (f : List (List Int)) : Prop :=
  (((b ≠ (0 : Int)) ∧
 (InR (Int.tdiv x b))) ∧
 ((inB (Int.tdiv x b) (List.length t)) ∧
 (((b ≠ (0 : Int)) ∧
 (InR (Int.tdiv y b))) ∧
 ((inB (Int.tdiv y b) (List.length (List.getD t (Int.toNat (Int.tdiv x b)) []))) ∧
 ((InR (List.getD (List.getD t (Int.toNat (Int.tdiv x b)) []) (Int.toNat (Int.tdiv y b)) (0 : Int) * m)) ∧
 ((b ≠ (0 : Int)) ∧
 (((b ≠ (0 : Int)) ∧
 (InR (Int.tdiv x b))) ∧
 ((inB (Int.tdiv x b) (List.length f)) ∧
 (((b ≠ (0 : Int)) ∧
 (InR (Int.tdiv y b))) ∧
 ((inB (Int.tdiv y b) (List.length (List.getD f (Int.toNat (Int.tdiv x b)) []))) ∧
 ((InR (Int.tmod y b + List.getD (List.getD f (Int.toNat (Int.tdiv x b)) []) (Int.toNat (Int.tdiv y b)) (0 : Int))) ∧
 ((m ≠ (0 : Int)) ∧
 ((InR (List.getD (List.getD t (Int.toNat (Int.tdiv x b)) []) (Int.toNat (Int.tdiv y b)) (0 : Int) * m + Int.tmod (Int.tmod y b + List.getD (List.getD f (Int.toNat (Int.tdiv x b)) []) (Int.toNat (Int.tdiv y b)) (0 : Int)) m)) ∧
 ((List.getD (List.getD t (Int.toNat (Int.tdiv x b)) []) (Int.toNat (Int.tdiv y b)) (0 : Int) * m + Int.tmod (Int.tmod y b + List.getD (List.getD f (Int.toNat (Int.tdiv x b)) []) (Int.toNat (Int.tdiv y b)) (0 : Int)) m = exI t m f x y) ∧
 (True)))))))))))))))
theorem extension1_vc (x : Int) (y : Int) (t : List (List Int)) (b : Int) (m : Int) (f : List (List Int)) : runF Try.prog (gam extension1_G) noWr noAnn Try.f121 (bodyOf Try.f121) [] [.c (.int .i64 (x)), .c (.int .i64 (y)), .box [.rows .i64 (t)], .box [.int .i64 (b)], .box [.int .i64 (m)], .box [.rows .i64 (f)]] (extension1_p x y t b m f) = extension1_V x y t b m f := by kernel_rfl
theorem extension1_ok (x : Int) (y : Int) (t : List (List Int)) (b : Int) (m : Int) (f : List (List Int)) (hpre : (extension1_p x y t b m f).pre) : extension1_V x y t b m f := by
  simp only [extension1_p, extension1_V, BrP_iff, true_and, and_true, decide_eq_true_eq, decide_eq_false_iff_not, bne_iff_ne, beq_iff_eq, bne_eq_false_iff_eq, beq_eq_false_iff_ne, Bool.not_eq_true, Bool.not_eq_false, Bool.not_true, Bool.not_false, Bool.not_eq_eq_eq_not, Int.toNat_natCast, List.length_append, List.length_take, List.length_replicate, List.length_set, List.length_map, List.length_drop, List.length_nil, List.length_cons, markL_length, inB, InR, room, bdsOk] at hpre ⊢
  obtain ⟨h1, h2, rfl, hx, hx2, hy, hy2⟩ := hpre
  have q := ex_in h1 h2 hx hx2 hy hy2
  have ht := tabB_of h1
  exact ⟨by omega, by omega, by omega, by omega, by omega, by omega, by omega, by omega, by omega, by omega, by omega, by omega, by omega, rfl⟩
theorem extension1_fits : Fits Try.prog 121 ⟨[], extension1_ct⟩ := by
  refine fits_fn (Γ := gam extension1_G) gok_nil Try.func121 (by kernel_rfl) (by kernel_rfl) (by kernel_rfl) fun ds p h hp => ?_
  unfold extension1_ct at h
  split at h
  · cases h
    exact ⟨noWr, noAnn, by rw [extension1_vc]; exact extension1_ok _ _ _ _ _ _  hp⟩
  · cases h

def extension_p (t : List (List Int)) (m : Int) (f : List (List Int)) : Post := ⟨tabB t = true ∧ matB (t.length : Int) m f = true, .c (.rows 46 2 .i64 (exR t m f)), []⟩
def extension_ct : List AD → Option Post
  | [.c (.rows .i64 (t)), .c (.int .i64 (m)), .c (.rows .i64 (f))] => some (extension_p t m f)
  | _ => none
def extension_G : List (Nat × Ctr) := [(62, ⟨[], tableBy_ct⟩), (121, ⟨[], extension1_ct⟩)]
def extension_V (t : List (List Int)) (m : Int) (f : List (List Int)) : Prop :=
  ((InR ((↑(List.length t) : Int) * m)) ∧
 (((((0 : Int) ≤ (↑(List.length t) : Int) * m) ∧
 (((↑(List.length t) : Int) * m ≤ (144 : Int)) ∧
 (∀ (x y : Int), (0 : Int) ≤ x → x < (↑(List.length t) : Int) * m → (0 : Int) ≤ y → y < (↑(List.length t) : Int) * m → ctQI (extension1_ct [AD.c (FC.int IntKind.i64 x), AD.c (FC.int IntKind.i64 y), AD.box [FC.rows IntKind.i64 t], AD.box [FC.int IntKind.i64 m], AD.box [FC.int IntKind.i64 m], AD.box [FC.rows IntKind.i64 f]])))) ∧
 (True)) ∧
 (((tabR (Int.toNat ((↑(List.length t) : Int) * m)) fun (x y : Nat) => ctI (extension1_ct [AD.c (FC.int IntKind.i64 (↑x : Int)), AD.c (FC.int IntKind.i64 (↑y : Int)), AD.box [FC.rows IntKind.i64 t], AD.box [FC.int IntKind.i64 m], AD.box [FC.int IntKind.i64 m], AD.box [FC.rows IntKind.i64 f]])) = exR t m f) ∧
 (True))))
theorem extension_vc (t : List (List Int)) (m : Int) (f : List (List Int)) : runF Try.prog (gam extension_G) noWr noAnn Try.f69 (bodyOf Try.f69) [] [.c (.rows .i64 (t)), .c (.int .i64 (m)), .c (.rows .i64 (f))] (extension_p t m f) = extension_V t m f := by kernel_rfl
theorem extension_ok (t : List (List Int)) (m : Int) (f : List (List Int)) (hpre : (extension_p t m f).pre) : extension_V t m f := by
  simp only [extension_p, extension_V, BrP_iff, true_and, and_true, decide_eq_true_eq, decide_eq_false_iff_not, bne_iff_ne, beq_iff_eq, bne_eq_false_iff_eq, beq_eq_false_iff_ne, Bool.not_eq_true, Bool.not_eq_false, Bool.not_true, Bool.not_false, Bool.not_eq_eq_eq_not, Int.toNat_natCast, List.length_append, List.length_take, List.length_replicate, List.length_set, List.length_map, List.length_drop, List.length_nil, List.length_cons, markL_length, inB, InR, room, bdsOk] at hpre ⊢
  obtain ⟨h1, h2⟩ := hpre
  have hb := nm_in h1 h2
  exact ⟨by omega, ⟨by omega, by omega, fun x y a b c d => ⟨h1, h2, rfl, a, b, c, d⟩⟩, tabR_ext fun x y hx hy => rfl⟩
theorem extension_fits : Fits Try.prog 69 ⟨[], extension_ct⟩ := by
  refine fits_fn (Γ := gam extension_G) (gok_cons tableBy_fits (gok_cons extension1_fits gok_nil)) Try.func69 (by kernel_rfl) (by kernel_rfl) (by kernel_rfl) fun ds p h hp => ?_
  unfold extension_ct at h
  split at h
  · cases h
    exact ⟨noWr, noAnn, by rw [extension_vc]; exact extension_ok _ _ _  hp⟩
  · cases h

def l14Extend_p (t : List (List Int)) (m : Int) (f : List (List Int)) : Post := ⟨tabB t = true ∧ matB (t.length : Int) m f = true, .c (.rows 46 2 .i64 (exR t m f)), []⟩
def l14Extend_ct : List AD → Option Post
  | [.c (.rows .i64 (t)), .c (.int .i64 (m)), .c (.rows .i64 (f))] => some (l14Extend_p t m f)
  | _ => none
def l14Extend_ann (t : List (List Int)) (m : Int) (f : List (List Int)) : Nat → Option Ann
  | 0 => some (Ann.mk ((Nat)) (fun i => ⟨[(0, .c (.ro (.rows .i64 (t)))), (1, .c (.int .i64 (m))), (2, .c (.ro (.rows .i64 (f)))), (7, .c (.int .i64 ((t.length : Int)))), (8, .c (.own (16))), (9, .c (.int .i64 ((i : Int))))], [(16, some (.rows 0 46 2 .i64 ((exR t m f).take i)))]⟩) (fun i => (i : Int) ≤ (t.length : Int) * m) (fun i => ((t.length : Int) * m).toNat - i) (fun i => fun b_ => match b_ with | 2 => some (Ann.mk ((Nat)) (fun j => ⟨[(0, .c (.ro (.rows .i64 (t)))), (1, .c (.int .i64 (m))), (2, .c (.ro (.rows .i64 (f)))), (7, .c (.int .i64 ((t.length : Int)))), (8, .c (.own (16))), (9, .c (.int .i64 ((i : Int)))), (10, .c (.own (24))), (11, .c (.int .i64 ((j : Int))))], [(16, some (.rows 0 46 2 .i64 ((exR t m f).take i))), (24, some (.ints 2 .i64 ((tab ((t.length : Int) * m).toNat fun y => exI t m f (i : Int) (y : Int)).take j)))]⟩) (fun j => (j : Int) ≤ (t.length : Int) * m ∧ (i : Int) < (t.length : Int) * m) (fun j => ((t.length : Int) * m).toNat - j) (fun _ => noAnn)) | _ => none))
  | _ => none
def l14Extend_G : List (Nat × Ctr) := []
def l14Extend_V (t : List (List Int)) (m : Int) (f : List (List Int)) : Prop :=
  ((∃ x0 : Nat, (((↑x0 : Int) ≤ (↑(List.length t) : Int) * m) ∧
 ((t = t) ∧
 ((m = m) ∧
 ((f = f) ∧
 (((↑(List.length t) : Int) = (↑(List.length t) : Int)) ∧
 (((0 : Int) = (↑x0 : Int)) ∧
 ([] = List.take x0 (exR t m f))))))))) ∧
 (∀ x1 : Nat, (((↑x1 : Int) ≤ (↑(List.length t) : Int) * m) →
 ((InR ((↑(List.length t) : Int) * m)) ∧
 (BrP (Decidable.decide ((↑x1 : Int) < (↑(List.length t) : Int) * m))
 ((∃ x2 : Nat, ((((↑x2 : Int) ≤ (↑(List.length t) : Int) * m) ∧
 ((↑x1 : Int) < (↑(List.length t) : Int) * m)) ∧
 ((t = t) ∧
 ((m = m) ∧
 ((f = f) ∧
 (((↑(List.length t) : Int) = (↑(List.length t) : Int)) ∧
 (((↑x1 : Int) = (↑x1 : Int)) ∧
 (((0 : Int) = (↑x2 : Int)) ∧
 ((List.take x1 (exR t m f) = List.take x1 (exR t m f)) ∧
 ([] = List.take x2 (tab (Int.toNat ((↑(List.length t) : Int) * m)) fun (y : Nat) => exI t m f (↑x1 : Int) (↑y : Int)))))))))))) ∧
 (∀ x3 : Nat, ((((↑x3 : Int) ≤ (↑(List.length t) : Int) * m) ∧
 ((↑x1 : Int) < (↑(List.length t) : Int) * m)) →
 ((InR ((↑(List.length t) : Int) * m)) ∧
 (BrP (Decidable.decide ((↑x3 : Int) < (↑(List.length t) : Int) * m))
 (((m ≠ (0 : Int)) ∧
 (InR (Int.tdiv (↑x1 : Int) m))) ∧
 (((m ≠ (0 : Int)) ∧
 (InR (Int.tdiv (↑x3 : Int) m))) ∧
 ((inB (Int.tdiv (↑x1 : Int) m) (List.length t)) ∧
 ((inB (Int.tdiv (↑x3 : Int) m) (List.length (List.getD t (Int.toNat (Int.tdiv (↑x1 : Int) m)) []))) ∧
 ((InR (List.getD (List.getD t (Int.toNat (Int.tdiv (↑x1 : Int) m)) []) (Int.toNat (Int.tdiv (↑x3 : Int) m)) (0 : Int) * m)) ∧
 ((m ≠ (0 : Int)) ∧
 ((inB (Int.tdiv (↑x1 : Int) m) (List.length f)) ∧
 ((inB (Int.tdiv (↑x3 : Int) m) (List.length (List.getD f (Int.toNat (Int.tdiv (↑x1 : Int) m)) []))) ∧
 ((InR (Int.tmod (↑x3 : Int) m + List.getD (List.getD f (Int.toNat (Int.tdiv (↑x1 : Int) m)) []) (Int.toNat (Int.tdiv (↑x3 : Int) m)) (0 : Int))) ∧
 ((m ≠ (0 : Int)) ∧
 ((InR (List.getD (List.getD t (Int.toNat (Int.tdiv (↑x1 : Int) m)) []) (Int.toNat (Int.tdiv (↑x3 : Int) m)) (0 : Int) * m + Int.tmod (Int.tmod (↑x3 : Int) m + List.getD (List.getD f (Int.toNat (Int.tdiv (↑x1 : Int) m)) []) (Int.toNat (Int.tdiv (↑x3 : Int) m)) (0 : Int)) m)) ∧
 ((room (List.length (List.take x3 (tab (Int.toNat ((↑(List.length t) : Int) * m)) fun (y : Nat) => exI t m f (↑x1 : Int) (↑y : Int))) + List.length [List.getD (List.getD t (Int.toNat (Int.tdiv (↑x1 : Int) m)) []) (Int.toNat (Int.tdiv (↑x3 : Int) m)) (0 : Int) * m + Int.tmod (Int.tmod (↑x3 : Int) m + List.getD (List.getD f (Int.toNat (Int.tdiv (↑x1 : Int) m)) []) (Int.toNat (Int.tdiv (↑x3 : Int) m)) (0 : Int)) m])) ∧
 ((InR ((↑x3 : Int) + (1 : Int))) ∧
 (∃ x4 : Nat, ((((↑x4 : Int) ≤ (↑(List.length t) : Int) * m) ∧
 ((↑x1 : Int) < (↑(List.length t) : Int) * m)) ∧
 ((Int.toNat ((↑(List.length t) : Int) * m) - x4 < Int.toNat ((↑(List.length t) : Int) * m) - x3) ∧
 ((t = t) ∧
 ((m = m) ∧
 ((f = f) ∧
 (((↑(List.length t) : Int) = (↑(List.length t) : Int)) ∧
 (((↑x1 : Int) = (↑x1 : Int)) ∧
 (((↑x3 : Int) + (1 : Int) = (↑x4 : Int)) ∧
 ((List.take x1 (exR t m f) = List.take x1 (exR t m f)) ∧
 (List.take x3 (tab (Int.toNat ((↑(List.length t) : Int) * m)) fun (y : Nat) => exI t m f (↑x1 : Int) (↑y : Int)) ++ [List.getD (List.getD t (Int.toNat (Int.tdiv (↑x1 : Int) m)) []) (Int.toNat (Int.tdiv (↑x3 : Int) m)) (0 : Int) * m + Int.tmod (Int.tmod (↑x3 : Int) m + List.getD (List.getD f (Int.toNat (Int.tdiv (↑x1 : Int) m)) []) (Int.toNat (Int.tdiv (↑x3 : Int) m)) (0 : Int)) m] = List.take x4 (tab (Int.toNat ((↑(List.length t) : Int) * m)) fun (y : Nat) => exI t m f (↑x1 : Int) (↑y : Int))))))))))))))))))))))))))
 ((room (List.length (List.take x1 (exR t m f)) + List.length [List.take x3 (tab (Int.toNat ((↑(List.length t) : Int) * m)) fun (y : Nat) => exI t m f (↑x1 : Int) (↑y : Int))])) ∧
 ((InR ((↑x1 : Int) + (1 : Int))) ∧
 (∃ x5 : Nat, (((↑x5 : Int) ≤ (↑(List.length t) : Int) * m) ∧
 ((Int.toNat ((↑(List.length t) : Int) * m) - x5 < Int.toNat ((↑(List.length t) : Int) * m) - x1) ∧
 ((t = t) ∧
 ((m = m) ∧
 ((f = f) ∧
 (((↑(List.length t) : Int) = (↑(List.length t) : Int)) ∧
 (((↑x1 : Int) + (1 : Int) = (↑x5 : Int)) ∧
 (List.take x1 (exR t m f) ++ [List.take x3 (tab (Int.toNat ((↑(List.length t) : Int) * m)) fun (y : Nat) => exI t m f (↑x1 : Int) (↑y : Int))] = List.take x5 (exR t m f)))))))))))))))))
 ((List.take x1 (exR t m f) = exR t m f) ∧
 (True)))))))
theorem l14Extend_vc (t : List (List Int)) (m : Int) (f : List (List Int)) : runF Try.prog (gam l14Extend_G) noWr (l14Extend_ann t m f) Try.f70 (bodyOf Try.f70) [] [.c (.rows .i64 (t)), .c (.int .i64 (m)), .c (.rows .i64 (f))] (l14Extend_p t m f) = l14Extend_V t m f := by kernel_rfl
theorem l14Extend_ok (t : List (List Int)) (m : Int) (f : List (List Int)) (hpre : (l14Extend_p t m f).pre) : l14Extend_V t m f := by
  simp only [l14Extend_p, l14Extend_V, BrP_iff, true_and, and_true, decide_eq_true_eq, decide_eq_false_iff_not, bne_iff_ne, beq_iff_eq, bne_eq_false_iff_eq, beq_eq_false_iff_ne, Bool.not_eq_true, Bool.not_eq_false, Bool.not_true, Bool.not_false, Bool.not_eq_eq_eq_not, Int.toNat_natCast, List.length_append, List.length_take, List.length_replicate, List.length_set, List.length_map, List.length_drop, List.length_nil, List.length_cons, markL_length, inB, InR, room, bdsOk] at hpre ⊢
  obtain ⟨h1, h2⟩ := hpre
  have hb := nm_in h1 h2
  have ht := tabB_of h1
  have hT : (exR t m f).length = ((t.length : Int) * m).toNat := tabR_length _ _
  have hr : ∀ i : Nat, (tab ((t.length : Int) * m).toNat fun y => exI t m f (i : Int) (y : Int)).length = ((t.length : Int) * m).toNat := fun i => tab_length _ _
  refine ⟨⟨0, by omega, rfl, by simp⟩, fun i hi => ⟨by omega, fun h => ⟨⟨0, by omega, rfl, by simp⟩, fun j ⟨hj, _⟩ => ⟨by omega, fun h3 => ?_, fun h3 => ?_⟩⟩, fun h => List.take_of_length_le (by omega)⟩⟩
  · have q := ex_in h1 h2 (show 0 ≤ (i : Int) by omega) h (show 0 ≤ (j : Int) by omega) h3
    have := hr i
    refine ⟨by omega, by omega, by omega, by omega, by omega, by omega, by omega, by omega, by omega, by omega, by omega, by omega, by omega, j + 1, by omega, by omega, by omega, ?_⟩
    rw [← take_snoc _ 0 j (by omega), tab_getD _ _ _ (by omega)]
    rfl
  · refine ⟨by omega, by omega, i + 1, by omega, by omega, by omega, ?_⟩
    have e : (tab ((t.length : Int) * m).toNat fun y => exI t m f (i : Int) (y : Int)).take j = tab ((t.length : Int) * m).toNat fun y => exI t m f (i : Int) (y : Int) := List.take_of_length_le (by rw [hr]; omega)
    rw [← take_snoc (exR t m f) [] i (by omega), e, exR, tabR_getD _ _ _ (by omega)]
theorem l14Extend_fits : Fits Try.prog 70 ⟨[], l14Extend_ct⟩ := by
  refine fits_fn (Γ := gam l14Extend_G) gok_nil Try.func70 (by kernel_rfl) (by kernel_rfl) (by kernel_rfl) fun ds p h hp => ?_
  unfold l14Extend_ct at h
  split at h
  · cases h
    exact ⟨noWr, l14Extend_ann _ _ _ , by rw [l14Extend_vc]; exact l14Extend_ok _ _ _  hp⟩
  · cases h

def exC (t : List (List Int)) (m : Int) (f : List (List Int)) : List (List Int) × Int :=
  if rackB t = true then (if matB (t.length : Int) m f = true then (if 12 < (t.length : Int) * m then ([], 3) else if (rcF t m f).isNone = true then (exR t m f, 0) else ([], 5)) else ([], 2)) else ([], 1)

theorem exC_room (t : List (List Int)) (m : Int) (f : List (List Int)) : roomR (exC t m f).1 ∧ (exC t m f).1.length ≤ 1048576 ∧ sumL (exC t m f).1 ≤ 1048576 := by
  have nil : roomR ([] : List (List Int)) ∧ ([] : List (List Int)).length ≤ 1048576 ∧ sumL ([] : List (List Int)) ≤ 1048576 := ⟨⟨by simp, by simp⟩, by simp, by simp [sumL]⟩
  unfold exC
  split
  · split
    · rename_i hr hm
      have hn := nm_in (rackB_tab hr) hm
      split
      · exact nil
      · split
        · exact ⟨tabR_room _ _ (by omega), by simp only [exR, tabR_length]; omega, Nat.le_trans (tabR_sum _ _ (by omega)) (by omega)⟩
        · exact nil
    · exact nil
  · exact nil

def iExt_p (t : List (List Int)) (m : Int) (f : List (List Int)) : Post := ⟨roomR t ∧ roomR f, .tup [.inr [.rows 46 2 .i64 ((exC t m f).1)], .inl (.int .i64 ((exC t m f).2))], []⟩
def iExt_ct : List AD → Option Post
  | [.agg [.rows .i64 (t)], .c (.int .i64 (m)), .c (.rows .i64 (f))] => some (iExt_p t m f)
  | _ => none
def iExt_G : List (Nat × Ctr) := [(26, ⟨[], IsRack_ct⟩), (68, ⟨[], isMatrix_ct⟩), (64, ⟨[], isRackCocycle_ct⟩), (69, ⟨[], extension_ct⟩)]
def iExt_V (t : List (List Int)) (m : Int) (f : List (List Int)) : Prop :=
  (((roomR t) ∧
 (True)) ∧
 (BrP (!rackB t)
 (((([] = Prod.fst (exC t m f)) ∧
 (True)) ∧
 (((1 : Int) = Prod.snd (exC t m f)) ∧
 (True))) ∧
 (True))
 (((roomR f) ∧
 (True)) ∧
 (BrP (!matB (↑(List.length t) : Int) m f)
 (((([] = Prod.fst (exC t m f)) ∧
 (True)) ∧
 (((2 : Int) = Prod.snd (exC t m f)) ∧
 (True))) ∧
 (True))
 ((InR ((↑(List.length t) : Int) * m)) ∧
 (BrP (Decidable.decide ((12 : Int) < (↑(List.length t) : Int) * m))
 (((([] = Prod.fst (exC t m f)) ∧
 (True)) ∧
 (((3 : Int) = Prod.snd (exC t m f)) ∧
 (True))) ∧
 (True))
 ((((tabB t = Bool.true) ∧
 (matB (↑(List.length t) : Int) m f = Bool.true)) ∧
 (True)) ∧
 (BrP (!Option.isNone (rcF t m f))
 (((([] = Prod.fst (exC t m f)) ∧
 (True)) ∧
 (((5 : Int) = Prod.snd (exC t m f)) ∧
 (True))) ∧
 (True))
 ((((tabB t = Bool.true) ∧
 (matB (↑(List.length t) : Int) m f = Bool.true)) ∧
 (True)) ∧
 ((((exR t m f = Prod.fst (exC t m f)) ∧
 (True)) ∧
 (((0 : Int) = Prod.snd (exC t m f)) ∧
 (True))) ∧
 (True)))))))))))
theorem iExt_vc (t : List (List Int)) (m : Int) (f : List (List Int)) : runF Try.prog (gam iExt_G) noWr noAnn Try.f21 (bodyOf Try.f21) [] [.agg [.rows .i64 (t)], .c (.int .i64 (m)), .c (.rows .i64 (f))] (iExt_p t m f) = iExt_V t m f := by kernel_rfl
theorem iExt_ok (t : List (List Int)) (m : Int) (f : List (List Int)) (hpre : (iExt_p t m f).pre) : iExt_V t m f := by
  simp only [iExt_p, iExt_V, BrP_iff, true_and, and_true, decide_eq_true_eq, decide_eq_false_iff_not, bne_iff_ne, beq_iff_eq, bne_eq_false_iff_eq, beq_eq_false_iff_ne, Bool.not_eq_true, Bool.not_eq_false, Bool.not_true, Bool.not_false, Bool.not_eq_eq_eq_not, Int.toNat_natCast, List.length_append, List.length_take, List.length_replicate, List.length_set, List.length_map, List.length_drop, List.length_nil, List.length_cons, markL_length, inB, InR, room, bdsOk] at hpre ⊢
  refine ⟨hpre.1, fun h => by simp [exC, h], fun hr => ⟨hpre.2, fun h => by simp [exC, hr, h], fun hm => ?_⟩⟩
  have hn := nm_in (rackB_tab hr) hm
  refine ⟨by omega, fun hb => ?_, fun hb => ⟨⟨rackB_tab hr, hm⟩, fun hf => ?_, fun hf => ⟨⟨rackB_tab hr, hm⟩, ?_⟩⟩⟩
  · rw [exC, if_pos hr, if_pos hm, if_pos hb]; exact ⟨rfl, rfl⟩
  · rw [exC, if_pos hr, if_pos hm, if_neg hb, hf]; exact ⟨rfl, rfl⟩
  · rw [exC, if_pos hr, if_pos hm, if_neg hb, hf]; exact ⟨rfl, rfl⟩
theorem iExt_fits : Fits Try.prog 21 ⟨[], iExt_ct⟩ := by
  refine fits_fn (Γ := gam iExt_G) (gok_cons IsRack_fits (gok_cons isMatrix_fits (gok_cons isRackCocycle_fits (gok_cons extension_fits gok_nil)))) Try.func21 (by kernel_rfl) (by kernel_rfl) (by kernel_rfl) fun ds p h hp => ?_
  unfold iExt_ct at h
  split at h
  · cases h
    exact ⟨noWr, noAnn, by rw [iExt_vc]; exact iExt_ok _ _ _  hp⟩
  · cases h

def sExt_p (t : List (List Int)) (m : Int) (f : List (List Int)) : Post := ⟨roomR t ∧ roomR f, .tup [.inr [.rows 46 2 .i64 ((exC t m f).1)], .inl (.int .i64 ((exC t m f).2))], []⟩
def sExt_ct : List AD → Option Post
  | [.agg [.rows .i64 (t)], .c (.int .i64 (m)), .c (.rows .i64 (f))] => some (sExt_p t m f)
  | _ => none
def sExt_G : List (Nat × Ctr) := [(24, ⟨[], sIsRC_ct⟩), (70, ⟨[], l14Extend_ct⟩)]
def sExt_V (t : List (List Int)) (m : Int) (f : List (List Int)) : Prop :=
  ((((roomR t) ∧
 (roomR f)) ∧
 (True)) ∧
 (BrP (Prod.snd (rcC t m f) == (0 : Int))
 ((InR ((↑(List.length t) : Int) * m)) ∧
 (BrP (Decidable.decide ((12 : Int) < (↑(List.length t) : Int) * m))
 (((([] = Prod.fst (exC t m f)) ∧
 (True)) ∧
 (((3 : Int) = Prod.snd (exC t m f)) ∧
 (True))) ∧
 (True))
 (BrP (Prod.snd (rcC t m f) == (0 : Int))
 (BrP (!Prod.fst (rcC t m f))
 (((([] = Prod.fst (exC t m f)) ∧
 (True)) ∧
 (((5 : Int) = Prod.snd (exC t m f)) ∧
 (True))) ∧
 (True))
 (BrP (Prod.snd (rcC t m f) != (0 : Int))
 (((([] = Prod.fst (exC t m f)) ∧
 (True)) ∧
 ((Prod.snd (rcC t m f) = Prod.snd (exC t m f)) ∧
 (True))) ∧
 (True))
 ((((tabB t = Bool.true) ∧
 (matB (↑(List.length t) : Int) m f = Bool.true)) ∧
 (True)) ∧
 ((((exR t m f = Prod.fst (exC t m f)) ∧
 (True)) ∧
 (((0 : Int) = Prod.snd (exC t m f)) ∧
 (True))) ∧
 (True)))))
 (BrP (Prod.snd (rcC t m f) != (0 : Int))
 (((([] = Prod.fst (exC t m f)) ∧
 (True)) ∧
 ((Prod.snd (rcC t m f) = Prod.snd (exC t m f)) ∧
 (True))) ∧
 (True))
 ((((tabB t = Bool.true) ∧
 (matB (↑(List.length t) : Int) m f = Bool.true)) ∧
 (True)) ∧
 ((((exR t m f = Prod.fst (exC t m f)) ∧
 (True)) ∧
 (((0 : Int) = Prod.snd (exC t m f)) ∧
 (True))) ∧
 (True)))))))
 (BrP (Prod.snd (rcC t m f) == (0 : Int))
 (BrP (!Prod.fst (rcC t m f))
 (((([] = Prod.fst (exC t m f)) ∧
 (True)) ∧
 (((5 : Int) = Prod.snd (exC t m f)) ∧
 (True))) ∧
 (True))
 (BrP (Prod.snd (rcC t m f) != (0 : Int))
 (((([] = Prod.fst (exC t m f)) ∧
 (True)) ∧
 ((Prod.snd (rcC t m f) = Prod.snd (exC t m f)) ∧
 (True))) ∧
 (True))
 ((((tabB t = Bool.true) ∧
 (matB (↑(List.length t) : Int) m f = Bool.true)) ∧
 (True)) ∧
 ((((exR t m f = Prod.fst (exC t m f)) ∧
 (True)) ∧
 (((0 : Int) = Prod.snd (exC t m f)) ∧
 (True))) ∧
 (True)))))
 (BrP (Prod.snd (rcC t m f) != (0 : Int))
 (((([] = Prod.fst (exC t m f)) ∧
 (True)) ∧
 ((Prod.snd (rcC t m f) = Prod.snd (exC t m f)) ∧
 (True))) ∧
 (True))
 ((((tabB t = Bool.true) ∧
 (matB (↑(List.length t) : Int) m f = Bool.true)) ∧
 (True)) ∧
 ((((exR t m f = Prod.fst (exC t m f)) ∧
 (True)) ∧
 (((0 : Int) = Prod.snd (exC t m f)) ∧
 (True))) ∧
 (True)))))))
theorem sExt_vc (t : List (List Int)) (m : Int) (f : List (List Int)) : runF Try.prog (gam sExt_G) noWr noAnn Try.f22 (bodyOf Try.f22) [] [.agg [.rows .i64 (t)], .c (.int .i64 (m)), .c (.rows .i64 (f))] (sExt_p t m f) = sExt_V t m f := by kernel_rfl
theorem sExt_ok (t : List (List Int)) (m : Int) (f : List (List Int)) (hpre : (sExt_p t m f).pre) : sExt_V t m f := by
  simp only [sExt_p, sExt_V, BrP_iff, true_and, and_true, decide_eq_true_eq, decide_eq_false_iff_not, bne_iff_ne, beq_iff_eq, bne_eq_false_iff_eq, beq_eq_false_iff_ne, Bool.not_eq_true, Bool.not_eq_false, Bool.not_true, Bool.not_false, Bool.not_eq_eq_eq_not, Int.toNat_natCast, List.length_append, List.length_take, List.length_replicate, List.length_set, List.length_map, List.length_drop, List.length_nil, List.length_cons, markL_length, inB, InR, room, bdsOk] at hpre ⊢
  refine ⟨hpre, ?_⟩
  by_cases hr : rackB t = true
  · by_cases hm : matB (t.length : Int) m f = true
    · have e : rcC t m f = ((rcF t m f).isNone, 0) := by rw [rcC, if_pos hr, if_pos hm]
      have hn := nm_in (rackB_tab hr) hm
      rw [e]
      by_cases hb : 12 < (t.length : Int) * m
      · rw [exC, if_pos hr, if_pos hm, if_pos hb]
        exact ⟨fun _ => ⟨by omega, fun _ => ⟨rfl, rfl⟩, fun h => absurd hb h⟩, fun h => absurd rfl h⟩
      · rw [exC, if_pos hr, if_pos hm, if_neg hb]
        cases hf : (rcF t m f).isNone with
        | false => exact ⟨fun _ => ⟨by omega, fun h => absurd h hb, fun _ => ⟨fun _ => ⟨fun _ => ⟨rfl, rfl⟩, fun h => (by cases h)⟩, fun h => absurd rfl h⟩⟩, fun h => absurd rfl h⟩
        | true => exact ⟨fun _ => ⟨by omega, fun h => absurd h hb, fun _ => ⟨fun _ => ⟨fun h => (by cases h), fun _ => ⟨fun h => absurd rfl h, fun _ => ⟨⟨rackB_tab hr, hm⟩, rfl, rfl⟩⟩⟩, fun h => absurd rfl h⟩⟩, fun h => absurd rfl h⟩
    · have e : rcC t m f = (false, 2) := by rw [rcC, if_pos hr, if_neg hm]
      have x : exC t m f = ([], 2) := by rw [exC, if_pos hr, if_neg hm]
      rw [e, x]
      exact ⟨fun h => absurd h (by simp), fun _ => ⟨fun h => absurd h (by simp), fun _ => ⟨fun _ => ⟨rfl, rfl⟩, fun h => absurd h (by simp)⟩⟩⟩
  · have e : rcC t m f = (false, 1) := by rw [rcC, if_neg hr]
    have x : exC t m f = ([], 1) := by rw [exC, if_neg hr]
    rw [e, x]
    exact ⟨fun h => absurd h (by simp), fun _ => ⟨fun h => absurd h (by simp), fun _ => ⟨fun _ => ⟨rfl, rfl⟩, fun h => absurd h (by simp)⟩⟩⟩
theorem sExt_fits : Fits Try.prog 22 ⟨[], sExt_ct⟩ := by
  refine fits_fn (Γ := gam sExt_G) (gok_cons sIsRC_fits (gok_cons l14Extend_fits gok_nil)) Try.func22 (by kernel_rfl) (by kernel_rfl) (by kernel_rfl) fun ds p h hp => ?_
  unfold sExt_ct at h
  split at h
  · cases h
    exact ⟨noWr, noAnn, by rw [sExt_vc]; exact sExt_ok _ _ _  hp⟩
  · cases h


end Go.Sx
end

section
open Go Go.Proofs
namespace Go.Sx
set_option linter.unusedSimpArgs false
set_option linter.unusedVariables false

/-- A chain of degree k. -/
def cnOk (t : List (List Int)) (p k : Int) (c : List Int) : Prop := tabB t = true ∧ 2 ≤ p ∧ p ≤ 7 ∧ 1 ≤ k ∧ degB t.length k = true ∧ inP p c ∧ c.length = t.length ^ k.toNat

theorem bdF_length (t : List (List Int)) (p : Int) (k : Nat) (c : List Int) : ∀ i, (bdF t p k c i).length = t.length ^ (k - 1)
  | 0 => by simp [bdF]
  | i + 1 => by
    simp only [bdF]
    split
    · exact bdF_length t p k c i
    · rw [stF_length, bdF_length t p k c i]

theorem bdF_in (t : List (List Int)) {p : Int} (hp : 2 ≤ p) (k : Nat) {c : List Int} (hc : inP p c) : ∀ i, i ≤ c.length → inP p (bdF t p k c i)
  | 0, _ => rep_in (by omega) _
  | i + 1, h => by
    have ih := bdF_in t hp k hc i (by omega)
    simp only [bdF]
    split
    · exact ih
    · refine stF_in (by omega) (hc i (by omega)).1 (by rw [bdF_length, ptF_length, digN_length]) (ptF_in t hp _ _) ih

theorem deg_sub {t : List (List Int)} (h1 : tabB t = true) {k : Int} (hk : 1 ≤ k) (hd : degB t.length k = true) : degB t.length (k - 1) = true ∧ (t.length : Int) ^ (k.toNat - 1) ≤ 512 ∧ k ≤ 1000 ∧ (t.length : Int) ^ k.toNat ≤ 512 ∧ (k - 1).toNat = k.toNat - 1 := by
  have d := degB_of hd
  have hn := (tabB_of h1).1
  have := pow_le (n := (t.length : Int)) (by omega) (show k.toNat - 1 ≤ k.toNat by omega)
  have e : (k - 1).toNat = k.toNat - 1 := by omega
  refine ⟨?_, by omega, by omega, by omega, e⟩
  simp only [degB, Bool.and_eq_true, decide_eq_true_eq]
  rw [e]
  omega





/-- The answer of RackBoundary. -/
def rbC (t : List (List Int)) (p k : Int) (c : List Int) : List Int × Int :=
  if chC t p k c = 0 then (if k = 0 then ([], 2) else (bdF t p k.toNat c c.length, 0)) else ([], chC t p k c)

theorem rbC_no {t : List (List Int)} {p k : Int} {c : List Int} {z : Int} (h : chC t p k c = z) (hz : z ≠ 0) : [] = (rbC t p k c).1 ∧ z = (rbC t p k c).2 := by
  rw [rbC, if_neg (by omega)]; exact ⟨rfl, h.symm⟩
theorem rbC_zero {t : List (List Int)} {p k : Int} {c : List Int} (h : chC t p k c = 0) (hk : k = 0) : [] = (rbC t p k c).1 ∧ 2 = (rbC t p k c).2 := by
  rw [rbC, if_pos h, if_pos hk]; exact ⟨rfl, rfl⟩
theorem rbC_yes {t : List (List Int)} {p k : Int} {c : List Int} (h : chC t p k c = 0) (hk : k ≠ 0) : bdF t p k.toNat c c.length = (rbC t p k c).1 ∧ 0 = (rbC t p k c).2 := by
  rw [rbC, if_pos h, if_neg hk]; exact ⟨rfl, rfl⟩

theorem ch_cnOk {t : List (List Int)} {p k : Int} {c : List Int} (h : chC t p k c = 0) (hk : k ≠ 0) : cnOk t p k c := by
  obtain ⟨h1, h2, h3, h4, h5⟩ := chC_ok h
  have hp := primeB_le h2
  have hd := degB_of h3
  obtain ⟨c1, c2, c3⟩ := chB_of h4
  exact ⟨rackB_tab h1, hp.1, hp.2, by omega, h3, c2, c1⟩

theorem rbC_len (t : List (List Int)) (p k : Int) (c : List Int) : (rbC t p k c).1.length ≤ 512 := by
  unfold rbC
  split
  · split
    · simp
    · rename_i h hk
      obtain ⟨h1, p1, p2, hk1, hd, hc, hcl⟩ := ch_cnOk h hk
      have := (deg_sub h1 hk1 hd).2.1
      rw [← Int.natCast_pow] at this
      simp only [bdF_length]
      omega
  · simp






end Go.Sx
end

section
open Go Go.Proofs
namespace Go.Sx
set_option linter.unusedSimpArgs false
set_option linter.unusedVariables false

def unitL (n : Nat) : List Int := tab n fun i => (i : Int)

def rngB (n : Int) (l : List Int) : Prop := ∀ x ∈ l, 0 ≤ x ∧ x < n

theorem rngB_get {n : Int} {l : List Int} (h : rngB n l) (i : Nat) (hi : i < l.length) : 0 ≤ l.getD i 0 ∧ l.getD i 0 < n := h _ (getD_mem l 0 i hi)

theorem rngB_set {n : Int} {l : List Int} (h : rngB n l) {a : Nat} {v : Int} (hv : 0 ≤ v ∧ v < n) : rngB n (l.set a v) := fun x hx => by
  rcases mem_set hx with hx | rfl
  · exact h x hx
  · exact hv

def incB : List Int → Bool
  | x :: y :: r => decide (x < y) && incB (y :: r)
  | _ => true

theorem incB_drop (l : List Int) (i : Nat) (h : i + 1 < l.length) : incB (l.drop i) = (decide (l.getD i 0 < l.getD (i + 1) 0) && incB (l.drop (i + 1))) := by
  rw [drop_cons' l 0 i (by omega), drop_cons' l 0 (i + 1) h]
  rfl

theorem incB_short (l : List Int) (i : Nat) (h : l.length ≤ i + 1) : incB (l.drop i) = true := by
  by_cases hi : i < l.length
  · rw [drop_cons' l 0 i hi, List.drop_of_length_le h]; rfl
  · rw [List.drop_of_length_le (by omega)]; rfl

theorem incB_get {l : List Int} (h : incB l = true) (i : Nat) (hi : i + 1 < l.length) : l.getD i 0 < l.getD (i + 1) 0 := by
  have : ∀ j, j ≤ i → incB (l.drop j) = true := fun j => by
    induction j with
    | zero => intro _; simpa using h
    | succ j ih =>
      intro hj
      have := ih (by omega)
      rw [incB_drop l j (by omega), Bool.and_eq_true] at this
      exact this.2
  have := this i (Nat.le_refl _)
  rw [incB_drop l i hi, Bool.and_eq_true] at this
  exact of_decide_eq_true this.1

/-- Increasing numbers of 0..n-1, n of them, are all in order. -/
theorem inc_unit {l : List Int} (hr : rngB (l.length : Int) l) : incB l = decide (l = unitL l.length) := by
  cases hc : incB l with
  | true =>
    symm
    apply decide_eq_true
    have low : ∀ i, i < l.length → (i : Int) ≤ l.getD i 0 := fun i => by
      induction i with
      | zero => intro hi; exact (rngB_get hr 0 hi).1
      | succ i ih =>
        intro hi
        have h1 := ih (by omega)
        have h2 := incB_get hc i hi
        omega
    have high : ∀ j i, i + j + 1 = l.length → l.getD i 0 ≤ (i : Int) := fun j => by
      induction j with
      | zero =>
        intro i hi
        have := rngB_get hr i (by omega)
        omega
      | succ j ih =>
        intro i hi
        have h1 := ih (i + 1) (by omega)
        have h2 := incB_get hc i (by omega)
        omega
    apply list_ext (by simp [unitL, tab_length])
    intro i hi
    rw [unitL, tab_getD _ _ _ hi]
    have h1 := low i hi
    have h2 := high (l.length - i - 1) i (by omega)
    omega
  | false =>
    symm
    apply decide_eq_false
    intro he
    have : ∀ n i, n - i ≤ n → incB ((unitL n).drop (n - i)) = true := fun n i => by
      induction i with
      | zero => intro _; exact incB_short _ _ (by simp [unitL, tab_length])
      | succ i ih =>
        intro hi
        by_cases hn : i + 1 ≤ n
        · by_cases h1 : i = 0
          · subst h1; exact incB_short _ _ (by simp [unitL, tab_length]; omega)
          · rw [incB_drop _ _ (by simp [unitL, tab_length]; omega), Bool.and_eq_true]
            refine ⟨decide_eq_true ?_, ?_⟩
            · rw [unitL, tab_getD _ _ _ (by omega), tab_getD _ _ _ (by omega)]; omega
            · rw [show n - (i + 1) + 1 = n - i by omega]; exact ih (by omega)
        · have := ih (by omega)
          rwa [show n - (i + 1) = n - i by omega]
    have := this l.length l.length (by omega)
    rw [Nat.sub_self, List.drop_zero, ← he, hc] at this
    cases this

def increasing_p (l : List Int) : Post := ⟨room l.length, .c (.bool (incB l)), []⟩
def increasing_ct : List AD → Option Post
  | [.c (.ints .i64 (l))] => some (increasing_p l)
  | _ => none
def increasing_ann (l : List Int) : Nat → Option Ann
  | 0 => some (Ann.mk ((Nat)) (fun i => ⟨[(0, .c (.ro (.ints .i64 (l)))), (3, .c (.int .i64 ((i : Int) + 1)))], []⟩) (fun i => incB l = incB (l.drop i)) (fun i => l.length - i) (fun _ => noAnn))
  | _ => none
def increasing_G : List (Nat × Ctr) := []
def increasing_V (l : List Int) : Prop :=
  ((∃ x0 : Nat, ((incB l = incB (List.drop x0 l)) ∧
 ((l = l) ∧
 ((1 : Int) = (↑x0 : Int) + (1 : Int))))) ∧
 (∀ x1 : Nat, ((incB l = incB (List.drop x1 l)) →
 (BrP (Decidable.decide ((↑x1 : Int) + (1 : Int) < (↑(List.length l) : Int)))
 ((InR ((↑x1 : Int) + (1 : Int) - (1 : Int))) ∧
 ((inB ((↑x1 : Int) + (1 : Int) - (1 : Int)) (List.length l)) ∧
 ((inB ((↑x1 : Int) + (1 : Int)) (List.length l)) ∧
 (BrP (Decidable.decide (List.getD l (Int.toNat ((↑x1 : Int) + (1 : Int))) (0 : Int) ≤ List.getD l (Int.toNat ((↑x1 : Int) + (1 : Int) - (1 : Int))) (0 : Int)))
 ((Bool.false = incB l) ∧
 (True))
 ((InR ((↑x1 : Int) + (1 : Int) + (1 : Int))) ∧
 (∃ x2 : Nat, ((incB l = incB (List.drop x2 l)) ∧
 ((List.length l - x2 < List.length l - x1) ∧
 ((l = l) ∧
 ((↑x1 : Int) + (1 : Int) + (1 : Int) = (↑x2 : Int) + (1 : Int)))))))))))
 ((Bool.true = incB l) ∧
 (True))))))
theorem increasing_vc (l : List Int) : runF Try.prog (gam increasing_G) noWr (increasing_ann l) Try.f127 (bodyOf Try.f127) [] [.c (.ints .i64 (l))] (increasing_p l) = increasing_V l := by kernel_rfl
theorem increasing_ok (l : List Int) (hpre : (increasing_p l).pre) : increasing_V l := by
  simp only [increasing_p, increasing_V, BrP_iff, true_and, and_true, decide_eq_true_eq, decide_eq_false_iff_not, bne_iff_ne, beq_iff_eq, bne_eq_false_iff_eq, beq_eq_false_iff_ne, Bool.not_eq_true, Bool.not_eq_false, Bool.not_true, Bool.not_false, Bool.not_eq_eq_eq_not, Int.toNat_natCast, List.length_append, List.length_take, List.length_replicate, List.length_set, List.length_map, List.length_drop, List.length_nil, List.length_cons, markL_length, inB, InR, room, bdsOk] at hpre ⊢
  refine ⟨⟨0, rfl, rfl⟩, fun i he => ⟨fun h => ?_, fun h => ?_⟩⟩
  · have hd := incB_drop l i (by omega)
    rw [show ((i : Int) + 1).toNat = i + 1 by omega, show ((i : Int) + 1 - 1).toNat = i by omega]
    refine ⟨by omega, by omega, by omega, fun h1 => ?_, fun h1 => ⟨by omega, i + 1, ?_, by omega, by omega⟩⟩
    · rw [he, hd, decide_eq_false (by omega)]; rfl
    · rw [he, hd, decide_eq_true (by omega)]; rfl
  · rw [he, incB_short l i (by omega)]
theorem increasing_fits : Fits Try.prog 127 ⟨[], increasing_ct⟩ := by
  refine fits_fn (Γ := gam increasing_G) gok_nil Try.func127 (by kernel_rfl) (by kernel_rfl) (by kernel_rfl) fun ds p h hp => ?_
  unfold increasing_ct at h
  split at h
  · cases h
    exact ⟨noWr, increasing_ann _ , by rw [increasing_vc]; exact increasing_ok _  hp⟩
  · cases h

def isIdentity_p (l : List Int) : Post := ⟨room l.length, .c (.bool (incB l)), []⟩
def isIdentity_ct : List AD → Option Post
  | [.c (.ints .i64 (l))] => some (isIdentity_p l)
  | _ => none
def isIdentity_G : List (Nat × Ctr) := [(127, ⟨[], increasing_ct⟩)]
def isIdentity_V (l : List Int) : Prop :=
  (((room (List.length l)) ∧
 (True)) ∧
 ((incB l = incB l) ∧
 (True)))
theorem isIdentity_vc (l : List Int) : runF Try.prog (gam isIdentity_G) noWr noAnn Try.f75 (bodyOf Try.f75) [] [.c (.ints .i64 (l))] (isIdentity_p l) = isIdentity_V l := by kernel_rfl
theorem isIdentity_ok (l : List Int) (hpre : (isIdentity_p l).pre) : isIdentity_V l := by
  simp only [isIdentity_p, isIdentity_V, BrP_iff, true_and, and_true, decide_eq_true_eq, decide_eq_false_iff_not, bne_iff_ne, beq_iff_eq, bne_eq_false_iff_eq, beq_eq_false_iff_ne, Bool.not_eq_true, Bool.not_eq_false, Bool.not_true, Bool.not_false, Bool.not_eq_eq_eq_not, Int.toNat_natCast, List.length_append, List.length_take, List.length_replicate, List.length_set, List.length_map, List.length_drop, List.length_nil, List.length_cons, markL_length, inB, InR, room, bdsOk] at hpre ⊢
  exact hpre
theorem isIdentity_fits : Fits Try.prog 75 ⟨[], isIdentity_ct⟩ := by
  refine fits_fn (Γ := gam isIdentity_G) (gok_cons increasing_fits gok_nil) Try.func75 (by kernel_rfl) (by kernel_rfl) (by kernel_rfl) fun ds p h hp => ?_
  unfold isIdentity_ct at h
  split at h
  · cases h
    exact ⟨noWr, noAnn, by rw [isIdentity_vc]; exact isIdentity_ok _  hp⟩
  · cases h

end Go.Sx
end

section
open Go Go.Proofs
namespace Go.Sx
set_option linter.unusedSimpArgs false
set_option linter.unusedVariables false

/-- Two neighbours are equal. -/
def flB (x : List Int) : Bool := !((List.range (x.length - 1)).all fun i => decide (x.getD (i + 1) 0 ≠ x.getD i 0))





/-- The chain with the coefficients of flat tuples below i replaced by 0. -/
def clrN (n k : Int) (c : List Int) (i : Nat) : List Int := tab c.length fun q => if q < i ∧ flB (digN n k.toNat (q : Int)) = true then 0 else c.getD q 0

theorem clrN_length (n k : Int) (c : List Int) (i : Nat) : (clrN n k c i).length = c.length := tab_length _ _
theorem clrN_zero (n k : Int) (c : List Int) : clrN n k c 0 = c := by
  conv => rhs; rw [eq_tab c]
  exact tab_ext fun q _ => if_neg (by omega)
theorem clrN_yes {n k : Int} {c : List Int} {i : Nat} (h : flB (digN n k.toNat (i : Int)) = true) : (clrN n k c i).set i 0 = clrN n k c (i + 1) := by
  rw [clrN, tab_set]
  refine tab_ext fun q _ => ?_
  by_cases hq : q = i
  · subst hq; rw [if_pos rfl, if_pos ⟨by omega, h⟩]
  · rw [if_neg hq]
    by_cases h2 : q < i ∧ flB (digN n k.toNat (q : Int)) = true
    · rw [if_pos h2, if_pos ⟨by omega, h2.2⟩]
    · rw [if_neg h2, if_neg fun h3 => h2 ⟨by omega, h3.2⟩]
theorem clrN_no {n k : Int} {c : List Int} {i : Nat} (h : flB (digN n k.toNat (i : Int)) = false) : clrN n k c i = clrN n k c (i + 1) := by
  refine tab_ext fun q _ => ?_
  by_cases hq : q = i
  · subst hq; rw [if_neg (by omega), if_neg (by rw [h]; simp)]
  · by_cases h2 : q < i ∧ flB (digN n k.toNat (q : Int)) = true
    · rw [if_pos h2, if_pos ⟨by omega, h2.2⟩]
    · rw [if_neg h2, if_neg fun h3 => h2 ⟨by omega, h3.2⟩]





/-- The kink; is it the identity? -/
def kkL (t : List (List Int)) : List Int := tab t.length fun x => en t x x
def qdB (t : List (List Int)) : Bool := (List.range t.length).all fun x => decide (en t x x = (x : Int))

theorem kk_inc {t : List (List Int)} (h : tabB t = true) : incB (kkL t) = qdB t := by
  obtain ⟨n1, n2, ht⟩ := tabB_of h
  have hl : (kkL t).length = t.length := tab_length _ _
  have hr : rngB ((kkL t).length : Int) (kkL t) := fun x hx => by
    simp only [kkL, tab, List.mem_map, List.mem_range] at hx
    obtain ⟨i, hi, rfl⟩ := hx
    have := (ht i hi).2 i hi
    rw [hl]
    unfold en
    omega
  rw [inc_unit hr, hl, Bool.eq_iff_iff, decide_eq_true_iff, qdB, List.all_eq_true]
  constructor
  · intro e x hx
    rw [List.mem_range] at hx
    refine decide_eq_true ?_
    have : (kkL t).getD x 0 = (unitL t.length).getD x 0 := by rw [e]
    rwa [kkL, unitL, tab_getD _ _ _ hx, tab_getD _ _ _ hx] at this
  · intro e
    exact tab_ext fun x hx => of_decide_eq_true (e x (by simpa using hx))

def kinkOf_p (t : List (List Int)) : Post := ⟨tabB t = true, .c (.ints 2 .i64 (kkL t)), []⟩
def kinkOf_ct : List AD → Option Post
  | [.agg [.rows .i64 (t)]] => some (kinkOf_p t)
  | _ => none
def kinkOf_ann (t : List (List Int)) : Nat → Option Ann
  | 0 => some (Ann.mk ((Nat)) (fun i => ⟨[(1, .c (.ptr 1 0)), (3, .c (.own (8))), (10, .c (.int .i64 ((t.length : Int)))), (11, .c (.int .i64 ((i : Int))))], [(1, some (.box [.ro (.rows .i64 (t))])), (8, some (.ints 2 .i64 ((kkL t).take i ++ List.replicate ((kkL t).length - i) 0)))]⟩) (fun i => i ≤ t.length) (fun i => t.length - i) (fun _ => noAnn))
  | _ => none
def kinkOf_G : List (Nat × Ctr) := []
def kinkOf_V (t : List (List Int)) : Prop :=
  ((((0 : Int) ≤ (↑(List.length t) : Int)) ∧
 (((↑(List.length t) : Int) ≤ (↑(List.length t) : Int)) ∧
 (room (Int.toNat (↑(List.length t) : Int))))) ∧
 ((∃ x0 : Nat, ((x0 ≤ List.length t) ∧
 (((↑(List.length (List.replicate (Int.toNat (↑(List.length t) : Int)) (0 : Int))) : Int) = (↑(List.length t) : Int)) ∧
 (((0 : Int) = (↑x0 : Int)) ∧
 ((t = t) ∧
 (List.replicate (Int.toNat (↑(List.length t) : Int)) (0 : Int) = List.take x0 (kkL t) ++ List.replicate (List.length (kkL t) - x0) (0 : Int))))))) ∧
 (∀ x1 : Nat, ((x1 ≤ List.length t) →
 (BrP (Decidable.decide ((↑x1 : Int) < (↑(List.length t) : Int)))
 ((inB (↑x1 : Int) (List.length t)) ∧
 ((inB (↑x1 : Int) (List.length (List.getD t (Int.toNat (↑x1 : Int)) []))) ∧
 ((inB (↑x1 : Int) (List.length (List.take x1 (kkL t) ++ List.replicate (List.length (kkL t) - x1) (0 : Int)))) ∧
 ((InR ((↑x1 : Int) + (1 : Int))) ∧
 (∃ x2 : Nat, ((x2 ≤ List.length t) ∧
 ((List.length t - x2 < List.length t - x1) ∧
 (((↑(List.length t) : Int) = (↑(List.length t) : Int)) ∧
 (((↑x1 : Int) + (1 : Int) = (↑x2 : Int)) ∧
 ((t = t) ∧
 (List.set (List.take x1 (kkL t) ++ List.replicate (List.length (kkL t) - x1) (0 : Int)) (Int.toNat (↑x1 : Int)) (List.getD (List.getD t (Int.toNat (↑x1 : Int)) []) (Int.toNat (↑x1 : Int)) (0 : Int)) = List.take x2 (kkL t) ++ List.replicate (List.length (kkL t) - x2) (0 : Int))))))))))))
 ((List.take x1 (kkL t) ++ List.replicate (List.length (kkL t) - x1) (0 : Int) = kkL t) ∧
 (True)))))))
theorem kinkOf_vc (t : List (List Int)) : runF Try.prog (gam kinkOf_G) noWr (kinkOf_ann t) Try.f76 (bodyOf Try.f76) [] [.agg [.rows .i64 (t)]] (kinkOf_p t) = kinkOf_V t := by kernel_rfl
theorem kinkOf_ok (t : List (List Int)) (hpre : (kinkOf_p t).pre) : kinkOf_V t := by
  simp only [kinkOf_p, kinkOf_V, BrP_iff, true_and, and_true, decide_eq_true_eq, decide_eq_false_iff_not, bne_iff_ne, beq_iff_eq, bne_eq_false_iff_eq, beq_eq_false_iff_ne, Bool.not_eq_true, Bool.not_eq_false, Bool.not_true, Bool.not_false, Bool.not_eq_eq_eq_not, Int.toNat_natCast, List.length_append, List.length_take, List.length_replicate, List.length_set, List.length_map, List.length_drop, List.length_nil, List.length_cons, markL_length, inB, InR, room, bdsOk] at hpre ⊢
  obtain ⟨n1, n2, ht⟩ := tabB_of hpre
  have hl : (kkL t).length = t.length := tab_length _ _
  rw [hl]
  refine ⟨by omega, ⟨0, by omega, rfl, by simp⟩, fun i hi => ⟨fun h => ?_, fun h => ?_⟩⟩
  · have r := ht i (by omega)
    have e : (t.getD i []).getD i 0 = (kkL t).getD i 0 := (tab_getD _ (fun x => en t x x) i (by omega)).symm
    refine ⟨by omega, by omega, by omega, by omega, i + 1, by omega, by omega, by omega, ?_⟩
    rw [e]
    have := fill_step (kkL t) 0 0 i (by omega)
    rwa [hl] at this
  · rw [List.take_of_length_le (by omega), show t.length - i = 0 by omega]; simp
theorem kinkOf_fits : Fits Try.prog 76 ⟨[], kinkOf_ct⟩ := by
  refine fits_fn (Γ := gam kinkOf_G) gok_nil Try.func76 (by kernel_rfl) (by kernel_rfl) (by kernel_rfl) fun ds p h hp => ?_
  unfold kinkOf_ct at h
  split at h
  · cases h
    exact ⟨noWr, kinkOf_ann _ , by rw [kinkOf_vc]; exact kinkOf_ok _  hp⟩
  · cases h



/-- The answer of QuandleBoundary. -/
def qbC (t : List (List Int)) (p k : Int) (c : List Int) : List Int × Int :=
  if (rbC t p k c).2 = 0 then (if qdB t = true then (clrN t.length (k - 1) (rbC t p k c).1 (rbC t p k c).1.length, 0) else ([], 5)) else ([], (rbC t p k c).2)

theorem qbC_len (t : List (List Int)) (p k : Int) (c : List Int) : (qbC t p k c).1.length ≤ 512 := by
  unfold qbC
  split
  · split
    · simp only [clrN_length]; exact rbC_len t p k c
    · simp
  · simp

theorem qbC_no {t : List (List Int)} {p k : Int} {c : List Int} {z : Int} (h : (rbC t p k c).2 = z) (hz : z ≠ 0) : [] = (qbC t p k c).1 ∧ z = (qbC t p k c).2 := by
  rw [qbC, if_neg (by omega)]; exact ⟨rfl, h.symm⟩
theorem qbC_five {t : List (List Int)} {p k : Int} {c : List Int} (h : (rbC t p k c).2 = 0) (hq : qdB t = false) : [] = (qbC t p k c).1 ∧ 5 = (qbC t p k c).2 := by
  rw [qbC, if_pos h, if_neg (by rw [hq]; decide)]; exact ⟨rfl, rfl⟩
theorem qbC_yes {t : List (List Int)} {p k : Int} {c : List Int} (h : (rbC t p k c).2 = 0) (hq : qdB t = true) : clrN t.length (k - 1) (rbC t p k c).1 (rbC t p k c).1.length = (qbC t p k c).1 ∧ 0 = (qbC t p k c).2 := by
  rw [qbC, if_pos h, if_pos hq]; exact ⟨rfl, rfl⟩

theorem rbC_ok {t : List (List Int)} {p k : Int} {c : List Int} (h : (rbC t p k c).2 = 0) : chC t p k c = 0 ∧ k ≠ 0 := by
  unfold rbC at h
  split at h
  · rename_i e
    split at h
    · cases h
    · rename_i hk; exact ⟨e, hk⟩
  · rename_i e; exact absurd h e






end Go.Sx
end
