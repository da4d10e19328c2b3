/- Contracts on the way of ExtendRack. -/
import Derived.Test.YtclhpegldfcemaaRackC
open Go Go.Proofs
namespace Go.Sx
set_option linter.unusedSimpArgs false
set_option linter.unusedVariables false

def markRack_p (l : List (List Int)) (k : Int) : Post := ⟨l.length ≤ 1048576 ∧ sumL l ≤ 1048576 ∧ 0 ≤ k ∧ k ≤ 1073741824, .c (.int .i64 (k + (sumL l : Int))), [.rows 23 2 .i64 (markR l k)]⟩
def markRack_ct : List AD → Option Post
  | [.agg [.rows .i64 (l)], .c (.int .i64 (k))] => some (markRack_p l k)
  | _ => none
def markRack_G : List (Nat × Ctr) := [(28, ⟨[(0, 0)], markInt64SS_ct⟩)]
def markRack_V (l : List (List Int)) (k : Int) : Prop :=
  ((((List.length l ≤ (1048576 : Nat)) ∧
  ((Go.Sx.sumL l ≤ (1048576 : Nat)) ∧
  (((0 : Int) ≤ k) ∧
  (k ≤ (1073741824 : Int))))) ∧
  ((List.map List.length (Go.Sx.markR l k) = List.map List.length l) ∧
  (True))) ∧
  ((k + (↑(Go.Sx.sumL l) : Int) = k + (↑(Go.Sx.sumL l) : Int)) ∧
  ((Go.Sx.markR l k = Go.Sx.markR l k) ∧
  (True))))
theorem markRack_vc (l : List (List Int)) (k : Int) : runF Try.prog (gam markRack_G) noWr noAnn Try.f50 (bodyOf Try.f50) [(0, 0)] [.agg [.rows .i64 (l)], .c (.int .i64 (k))] (markRack_p l k) = markRack_V l k := by kernel_rfl
theorem markRack_ok (l : List (List Int)) (k : Int) (hpre : (markRack_p l k).pre) : markRack_V l k := by
  simp only [markRack_p, markRack_V, BrP_iff, true_and, and_true, decide_eq_true_eq, decide_eq_false_iff_not, bne_iff_ne, beq_iff_eq, bne_eq_false_iff_eq, beq_eq_false_iff_ne, Bool.not_eq_true, Bool.not_eq_false, Bool.not_true, Bool.not_false, Bool.not_eq_eq_eq_not, Int.toNat_natCast, List.length_append, List.length_take, List.length_replicate, List.length_set, List.length_map, List.length_drop, List.length_nil, List.length_cons, markL_length, inB, InR, room, bdsOk] at hpre ⊢
  exact ⟨hpre, markR_lens l k⟩
theorem markRack_fits : Fits Try.prog 50 ⟨[(0, 0)], markRack_ct⟩ := by
  refine fits_fn (Γ := gam markRack_G) (gok_cons markInt64SS_fits gok_nil) Try.func50 (by kernel_rfl) (by kernel_rfl) (by kernel_rfl) fun ds p h hp => ?_
  unfold markRack_ct at h
  split at h
  · cases h
    exact ⟨noWr, noAnn, by rw [markRack_vc]; exact markRack_ok _ _  hp⟩
  · cases h

theorem div_in {a n m : Int} (hm : 1 ≤ m) (h0 : 0 ≤ a) (h : a < n * m) : 0 ≤ a.tdiv m ∧ a.tdiv m < n ∧ 0 ≤ a.tmod m ∧ a.tmod m ≤ m - 1 := by
  have e1 : a.tdiv m = a / m := Int.tdiv_eq_ediv_of_nonneg h0
  rw [e1]
  have q := tmod_in h0 hm
  exact ⟨Int.ediv_nonneg h0 (by omega), Int.ediv_lt_of_lt_mul (by omega) h, q.1, q.2⟩

def exI (t : List (List Int)) (m : Int) (f : List (List Int)) (x y : Int) : Int := (t.getD (x.tdiv m).toNat []).getD (y.tdiv m).toNat 0 * m + (y.tmod m + (f.getD (x.tdiv m).toNat []).getD (y.tdiv m).toNat 0).tmod m

def exR (t : List (List Int)) (m : Int) (f : List (List Int)) : List (List Int) := tabR ((t.length : Int) * m).toNat fun x y => exI t m f (x : Int) (y : Int)

/-- What an entry of an extension needs. -/
theorem ex_in {t : List (List Int)} {m : Int} {f : List (List Int)} (h1 : tabB t = true) (h2 : matB (t.length : Int) m f = true) {x y : Int} (hx : 0 ≤ x) (hx2 : x < (t.length : Int) * m) (hy : 0 ≤ y) (hy2 : y < (t.length : Int) * m) :
    1 ≤ m ∧ m ≤ 12 ∧ (f.length : Int) = (t.length : Int) ∧ 0 ≤ x.tdiv m ∧ x.tdiv m < (t.length : Int) ∧ 0 ≤ y.tdiv m ∧ y.tdiv m < (t.length : Int) ∧ 0 ≤ y.tmod m ∧ y.tmod m ≤ m - 1 ∧
    (t.getD (x.tdiv m).toNat []).length = t.length ∧ (f.getD (x.tdiv m).toNat []).length = t.length ∧
    0 ≤ (f.getD (x.tdiv m).toNat []).getD (y.tdiv m).toNat 0 ∧ (f.getD (x.tdiv m).toNat []).getD (y.tdiv m).toNat 0 ≤ m - 1 ∧
    0 ≤ (t.getD (x.tdiv m).toNat []).getD (y.tdiv m).toNat 0 * m ∧ (t.getD (x.tdiv m).toNat []).getD (y.tdiv m).toNat 0 * m ≤ 144 ∧
    0 ≤ (y.tmod m + (f.getD (x.tdiv m).toNat []).getD (y.tdiv m).toNat 0).tmod m ∧ (y.tmod m + (f.getD (x.tdiv m).toNat []).getD (y.tdiv m).toNat 0).tmod m ≤ m - 1 := by
  obtain ⟨n1, n2, ht⟩ := tabB_of h1
  obtain ⟨m1, m2, m3, hf⟩ := matB_of h2
  obtain ⟨a1, a2, _, _⟩ := div_in m1 hx hx2
  obtain ⟨b1, b2, b3, b4⟩ := div_in m1 hy hy2
  have c := ht (x.tdiv m).toNat (by omega)
  have d := c.2 (y.tdiv m).toNat (by omega)
  have e := hf (x.tdiv m).toNat (by omega)
  have g := e.2 (y.tdiv m).toNat (by omega)
  have p1 := Int.mul_nonneg d.1 (show 0 ≤ m by omega)
  have p2 := Int.mul_le_mul (show (t.getD (x.tdiv m).toNat []).getD (y.tdiv m).toNat 0 ≤ 12 by omega) m2 (by omega) (by omega)
  have q := tmod_in (a := y.tmod m + (f.getD (x.tdiv m).toNat []).getD (y.tdiv m).toNat 0) (by omega) m1
  exact ⟨m1, m2, m3, a1, a2, b1, b2, b3, b4, c.1, by omega, g.1, g.2, p1, by omega, q.1, q.2⟩

theorem nm_in {t : List (List Int)} {m : Int} {f : List (List Int)} (h1 : tabB t = true) (h2 : matB (t.length : Int) m f = true) : 0 ≤ (t.length : Int) * m ∧ (t.length : Int) * m ≤ 144 := by
  have ht := tabB_of h1
  obtain ⟨m1, m2, _⟩ := matB_of h2
  have p1 := Int.mul_nonneg (show 0 ≤ (t.length : Int) by omega) (show 0 ≤ m by omega)
  have p2 := Int.mul_le_mul (show (t.length : Int) ≤ 12 by omega) m2 (by omega) (by omega)
  omega

def extension1_p (x : Int) (y : Int) (t : List (List Int)) (b : Int) (m : Int) (f : List (List Int)) : Post := ⟨tabB t = true ∧ matB (t.length : Int) m f = true ∧ b = m ∧ 0 ≤ x ∧ x < (t.length : Int) * m ∧ 0 ≤ y ∧ y < (t.length : Int) * m, .c (.int .i64 (exI t m f x y)), []⟩
def extension1_ct : List AD → Option Post
  | [.c (.int .i64 (x)), .c (.int .i64 (y)), .box [.rows .i64 (t)], .box [.int .i64 (b)], .box [.int .i64 (m)], .box [.rows .i64 (f)]] => some (extension1_p x y t b m f)
  | _ => none
def extension1_G : List (Nat × Ctr) := []
def extension1_V (x : Int) (y : Int) (t : List (List Int)) (b : Int) (m : Int) (f : List (List Int)) : Prop :=
  (((b ≠ (0 : Int)) ∧
  (Go.Sx.InR (Int.tdiv x b))) ∧
  ((Go.Sx.inB (Int.tdiv x b) (List.length t)) ∧
  (((b ≠ (0 : Int)) ∧
  (Go.Sx.InR (Int.tdiv y b))) ∧
  ((Go.Sx.inB (Int.tdiv y b) (List.length (List.getD t (Int.toNat (Int.tdiv x b)) []))) ∧
  ((Go.Sx.InR (List.getD (List.getD t (Int.toNat (Int.tdiv x b)) []) (Int.toNat (Int.tdiv y b)) (0 : Int) * m)) ∧
  ((b ≠ (0 : Int)) ∧
  (((b ≠ (0 : Int)) ∧
  (Go.Sx.InR (Int.tdiv x b))) ∧
  ((Go.Sx.inB (Int.tdiv x b) (List.length f)) ∧
  (((b ≠ (0 : Int)) ∧
  (Go.Sx.InR (Int.tdiv y b))) ∧
  ((Go.Sx.inB (Int.tdiv y b) (List.length (List.getD f (Int.toNat (Int.tdiv x b)) []))) ∧
  ((Go.Sx.InR (Int.tmod y b + List.getD (List.getD f (Int.toNat (Int.tdiv x b)) []) (Int.toNat (Int.tdiv y b)) (0 : Int))) ∧
  ((m ≠ (0 : Int)) ∧
  ((Go.Sx.InR (List.getD (List.getD t (Int.toNat (Int.tdiv x b)) []) (Int.toNat (Int.tdiv y b)) (0 : Int) * m + Int.tmod (Int.tmod y b + List.getD (List.getD f (Int.toNat (Int.tdiv x b)) []) (Int.toNat (Int.tdiv y b)) (0 : Int)) m)) ∧
  ((List.getD (List.getD t (Int.toNat (Int.tdiv x b)) []) (Int.toNat (Int.tdiv y b)) (0 : Int) * m + Int.tmod (Int.tmod y b + List.getD (List.getD f (Int.toNat (Int.tdiv x b)) []) (Int.toNat (Int.tdiv y b)) (0 : Int)) m = Go.Sx.exI t m f x y) ∧
  (True)))))))))))))))
theorem extension1_vc (x : Int) (y : Int) (t : List (List Int)) (b : Int) (m : Int) (f : List (List Int)) : runF Try.prog (gam extension1_G) noWr noAnn Try.f191 (bodyOf Try.f191) [] [.c (.int .i64 (x)), .c (.int .i64 (y)), .box [.rows .i64 (t)], .box [.int .i64 (b)], .box [.int .i64 (m)], .box [.rows .i64 (f)]] (extension1_p x y t b m f) = extension1_V x y t b m f := by kernel_rfl
theorem extension1_ok (x : Int) (y : Int) (t : List (List Int)) (b : Int) (m : Int) (f : List (List Int)) (hpre : (extension1_p x y t b m f).pre) : extension1_V x y t b m f := by
  simp only [extension1_p, extension1_V, BrP_iff, true_and, and_true, decide_eq_true_eq, decide_eq_false_iff_not, bne_iff_ne, beq_iff_eq, bne_eq_false_iff_eq, beq_eq_false_iff_ne, Bool.not_eq_true, Bool.not_eq_false, Bool.not_true, Bool.not_false, Bool.not_eq_eq_eq_not, Int.toNat_natCast, List.length_append, List.length_take, List.length_replicate, List.length_set, List.length_map, List.length_drop, List.length_nil, List.length_cons, markL_length, inB, InR, room, bdsOk] at hpre ⊢
  obtain ⟨h1, h2, rfl, hx, hx2, hy, hy2⟩ := hpre
  have q := ex_in h1 h2 hx hx2 hy hy2
  have ht := tabB_of h1
  exact ⟨by omega, by omega, by omega, by omega, by omega, by omega, by omega, by omega, by omega, by omega, by omega, by omega, by omega, rfl⟩
theorem extension1_fits : Fits Try.prog 191 ⟨[], extension1_ct⟩ := by
  refine fits_fn (Γ := gam extension1_G) gok_nil Try.func191 (by kernel_rfl) (by kernel_rfl) (by kernel_rfl) fun ds p h hp => ?_
  unfold extension1_ct at h
  split at h
  · cases h
    exact ⟨noWr, noAnn, by rw [extension1_vc]; exact extension1_ok _ _ _ _ _ _  hp⟩
  · cases h

def extension_p (t : List (List Int)) (m : Int) (f : List (List Int)) : Post := ⟨tabB t = true ∧ matB (t.length : Int) m f = true, .c (.rows 23 2 .i64 (exR t m f)), []⟩
def extension_ct : List AD → Option Post
  | [.c (.rows .i64 (t)), .c (.int .i64 (m)), .c (.rows .i64 (f))] => some (extension_p t m f)
  | _ => none
def extension_G : List (Nat × Ctr) := [(108, ⟨[], tableBy_ct⟩), (191, ⟨[], extension1_ct⟩)]
def extension_V (t : List (List Int)) (m : Int) (f : List (List Int)) : Prop :=
  ((Go.Sx.InR ((↑(List.length t) : Int) * m)) ∧
  (((((0 : Int) ≤ (↑(List.length t) : Int) * m) ∧
  (((↑(List.length t) : Int) * m ≤ (144 : Int)) ∧
  (∀ (x y : Int), (0 : Int) ≤ x → x < (↑(List.length t) : Int) * m → (0 : Int) ≤ y → y < (↑(List.length t) : Int) * m → Go.Sx.ctQI (Go.Sx.extension1_ct [Go.Sx.AD.c (Go.Sx.FC.int Go.IntKind.i64 x), Go.Sx.AD.c (Go.Sx.FC.int Go.IntKind.i64 y), Go.Sx.AD.box [Go.Sx.FC.rows Go.IntKind.i64 t], Go.Sx.AD.box [Go.Sx.FC.int Go.IntKind.i64 m], Go.Sx.AD.box [Go.Sx.FC.int Go.IntKind.i64 m], Go.Sx.AD.box [Go.Sx.FC.rows Go.IntKind.i64 f]])))) ∧
  (True)) ∧
  (((Go.Sx.tabR (Int.toNat ((↑(List.length t) : Int) * m)) fun (x y : Nat) => Go.Sx.ctI (Go.Sx.extension1_ct [Go.Sx.AD.c (Go.Sx.FC.int Go.IntKind.i64 (↑x : Int)), Go.Sx.AD.c (Go.Sx.FC.int Go.IntKind.i64 (↑y : Int)), Go.Sx.AD.box [Go.Sx.FC.rows Go.IntKind.i64 t], Go.Sx.AD.box [Go.Sx.FC.int Go.IntKind.i64 m], Go.Sx.AD.box [Go.Sx.FC.int Go.IntKind.i64 m], Go.Sx.AD.box [Go.Sx.FC.rows Go.IntKind.i64 f]])) = Go.Sx.exR t m f) ∧
  (True))))
theorem extension_vc (t : List (List Int)) (m : Int) (f : List (List Int)) : runF Try.prog (gam extension_G) noWr noAnn Try.f123 (bodyOf Try.f123) [] [.c (.rows .i64 (t)), .c (.int .i64 (m)), .c (.rows .i64 (f))] (extension_p t m f) = extension_V t m f := by kernel_rfl
theorem extension_ok (t : List (List Int)) (m : Int) (f : List (List Int)) (hpre : (extension_p t m f).pre) : extension_V t m f := by
  simp only [extension_p, extension_V, BrP_iff, true_and, and_true, decide_eq_true_eq, decide_eq_false_iff_not, bne_iff_ne, beq_iff_eq, bne_eq_false_iff_eq, beq_eq_false_iff_ne, Bool.not_eq_true, Bool.not_eq_false, Bool.not_true, Bool.not_false, Bool.not_eq_eq_eq_not, Int.toNat_natCast, List.length_append, List.length_take, List.length_replicate, List.length_set, List.length_map, List.length_drop, List.length_nil, List.length_cons, markL_length, inB, InR, room, bdsOk] at hpre ⊢
  obtain ⟨h1, h2⟩ := hpre
  have hb := nm_in h1 h2
  exact ⟨by omega, ⟨by omega, by omega, fun x y a b c d => ⟨h1, h2, rfl, a, b, c, d⟩⟩, tabR_ext fun x y hx hy => rfl⟩
theorem extension_fits : Fits Try.prog 123 ⟨[], extension_ct⟩ := by
  refine fits_fn (Γ := gam extension_G) (gok_cons tableBy_fits (gok_cons extension1_fits gok_nil)) Try.func123 (by kernel_rfl) (by kernel_rfl) (by kernel_rfl) fun ds p h hp => ?_
  unfold extension_ct at h
  split at h
  · cases h
    exact ⟨noWr, noAnn, by rw [extension_vc]; exact extension_ok _ _ _  hp⟩
  · cases h

def l14Extend_p (t : List (List Int)) (m : Int) (f : List (List Int)) : Post := ⟨tabB t = true ∧ matB (t.length : Int) m f = true, .c (.rows 23 2 .i64 (exR t m f)), []⟩
def l14Extend_ct : List AD → Option Post
  | [.c (.rows .i64 (t)), .c (.int .i64 (m)), .c (.rows .i64 (f))] => some (l14Extend_p t m f)
  | _ => none
def l14Extend_ann (t : List (List Int)) (m : Int) (f : List (List Int)) : Nat → Option Ann
  | 0 => some (Ann.mk ((Nat)) (fun i => ⟨[(0, .c (.ro (.rows .i64 (t)))), (1, .c (.int .i64 (m))), (2, .c (.ro (.rows .i64 (f)))), (7, .c (.int .i64 ((t.length : Int)))), (8, .c (.own (16))), (9, .c (.int .i64 ((i : Int))))], [(16, some (.rows 0 23 2 .i64 ((exR t m f).take i)))]⟩) (fun i => (i : Int) ≤ (t.length : Int) * m) (fun i => ((t.length : Int) * m).toNat - i) (fun i => fun b_ => match b_ with | 2 => some (Ann.mk ((Nat)) (fun j => ⟨[(0, .c (.ro (.rows .i64 (t)))), (1, .c (.int .i64 (m))), (2, .c (.ro (.rows .i64 (f)))), (7, .c (.int .i64 ((t.length : Int)))), (8, .c (.own (16))), (9, .c (.int .i64 ((i : Int)))), (10, .c (.own (24))), (11, .c (.int .i64 ((j : Int))))], [(16, some (.rows 0 23 2 .i64 ((exR t m f).take i))), (24, some (.ints 2 .i64 ((tab ((t.length : Int) * m).toNat fun y => exI t m f (i : Int) (y : Int)).take j)))]⟩) (fun j => (j : Int) ≤ (t.length : Int) * m ∧ (i : Int) < (t.length : Int) * m) (fun j => ((t.length : Int) * m).toNat - j) (fun _ => noAnn)) | _ => none))
  | _ => none
def l14Extend_G : List (Nat × Ctr) := []
def l14Extend_V (t : List (List Int)) (m : Int) (f : List (List Int)) : Prop :=
  ((∃ x0 : Nat, (((↑x0 : Int) ≤ (↑(List.length t) : Int) * m) ∧
  ((t = t) ∧
  ((m = m) ∧
  ((f = f) ∧
  (((↑(List.length t) : Int) = (↑(List.length t) : Int)) ∧
  (((0 : Int) = (↑x0 : Int)) ∧
  ([] = List.take x0 (Go.Sx.exR t m f))))))))) ∧
  (∀ x1 : Nat, (((↑x1 : Int) ≤ (↑(List.length t) : Int) * m) →
  ((Go.Sx.InR ((↑(List.length t) : Int) * m)) ∧
  (BrP (Decidable.decide ((↑x1 : Int) < (↑(List.length t) : Int) * m))
    ((∃ x2 : Nat, ((((↑x2 : Int) ≤ (↑(List.length t) : Int) * m) ∧
    ((↑x1 : Int) < (↑(List.length t) : Int) * m)) ∧
    ((t = t) ∧
    ((m = m) ∧
    ((f = f) ∧
    (((↑(List.length t) : Int) = (↑(List.length t) : Int)) ∧
    (((↑x1 : Int) = (↑x1 : Int)) ∧
    (((0 : Int) = (↑x2 : Int)) ∧
    ((List.take x1 (Go.Sx.exR t m f) = List.take x1 (Go.Sx.exR t m f)) ∧
    ([] = List.take x2 (Go.Sx.tab (Int.toNat ((↑(List.length t) : Int) * m)) fun (y : Nat) => Go.Sx.exI t m f (↑x1 : Int) (↑y : Int)))))))))))) ∧
    (∀ x3 : Nat, ((((↑x3 : Int) ≤ (↑(List.length t) : Int) * m) ∧
    ((↑x1 : Int) < (↑(List.length t) : Int) * m)) →
    ((Go.Sx.InR ((↑(List.length t) : Int) * m)) ∧
    (BrP (Decidable.decide ((↑x3 : Int) < (↑(List.length t) : Int) * m))
      (((m ≠ (0 : Int)) ∧
      (Go.Sx.InR (Int.tdiv (↑x1 : Int) m))) ∧
      (((m ≠ (0 : Int)) ∧
      (Go.Sx.InR (Int.tdiv (↑x3 : Int) m))) ∧
      ((Go.Sx.inB (Int.tdiv (↑x1 : Int) m) (List.length t)) ∧
      ((Go.Sx.inB (Int.tdiv (↑x3 : Int) m) (List.length (List.getD t (Int.toNat (Int.tdiv (↑x1 : Int) m)) []))) ∧
      ((Go.Sx.InR (List.getD (List.getD t (Int.toNat (Int.tdiv (↑x1 : Int) m)) []) (Int.toNat (Int.tdiv (↑x3 : Int) m)) (0 : Int) * m)) ∧
      ((m ≠ (0 : Int)) ∧
      ((Go.Sx.inB (Int.tdiv (↑x1 : Int) m) (List.length f)) ∧
      ((Go.Sx.inB (Int.tdiv (↑x3 : Int) m) (List.length (List.getD f (Int.toNat (Int.tdiv (↑x1 : Int) m)) []))) ∧
      ((Go.Sx.InR (Int.tmod (↑x3 : Int) m + List.getD (List.getD f (Int.toNat (Int.tdiv (↑x1 : Int) m)) []) (Int.toNat (Int.tdiv (↑x3 : Int) m)) (0 : Int))) ∧
      ((m ≠ (0 : Int)) ∧
      ((Go.Sx.InR (List.getD (List.getD t (Int.toNat (Int.tdiv (↑x1 : Int) m)) []) (Int.toNat (Int.tdiv (↑x3 : Int) m)) (0 : Int) * m + Int.tmod (Int.tmod (↑x3 : Int) m + List.getD (List.getD f (Int.toNat (Int.tdiv (↑x1 : Int) m)) []) (Int.toNat (Int.tdiv (↑x3 : Int) m)) (0 : Int)) m)) ∧
      ((Go.Sx.room (List.length (List.take x3 (Go.Sx.tab (Int.toNat ((↑(List.length t) : Int) * m)) fun (y : Nat) => Go.Sx.exI t m f (↑x1 : Int) (↑y : Int))) + List.length [List.getD (List.getD t (Int.toNat (Int.tdiv (↑x1 : Int) m)) []) (Int.toNat (Int.tdiv (↑x3 : Int) m)) (0 : Int) * m + Int.tmod (Int.tmod (↑x3 : Int) m + List.getD (List.getD f (Int.toNat (Int.tdiv (↑x1 : Int) m)) []) (Int.toNat (Int.tdiv (↑x3 : Int) m)) (0 : Int)) m])) ∧
      ((Go.Sx.InR ((↑x3 : Int) + (1 : Int))) ∧
      (∃ x4 : Nat, ((((↑x4 : Int) ≤ (↑(List.length t) : Int) * m) ∧
      ((↑x1 : Int) < (↑(List.length t) : Int) * m)) ∧
      ((Int.toNat ((↑(List.length t) : Int) * m) - x4 < Int.toNat ((↑(List.length t) : Int) * m) - x3) ∧
      ((t = t) ∧
      ((m = m) ∧
      ((f = f) ∧
      (((↑(List.length t) : Int) = (↑(List.length t) : Int)) ∧
      (((↑x1 : Int) = (↑x1 : Int)) ∧
      (((↑x3 : Int) + (1 : Int) = (↑x4 : Int)) ∧
      ((List.take x1 (Go.Sx.exR t m f) = List.take x1 (Go.Sx.exR t m f)) ∧
      (List.take x3 (Go.Sx.tab (Int.toNat ((↑(List.length t) : Int) * m)) fun (y : Nat) => Go.Sx.exI t m f (↑x1 : Int) (↑y : Int)) ++ [List.getD (List.getD t (Int.toNat (Int.tdiv (↑x1 : Int) m)) []) (Int.toNat (Int.tdiv (↑x3 : Int) m)) (0 : Int) * m + Int.tmod (Int.tmod (↑x3 : Int) m + List.getD (List.getD f (Int.toNat (Int.tdiv (↑x1 : Int) m)) []) (Int.toNat (Int.tdiv (↑x3 : Int) m)) (0 : Int)) m] = List.take x4 (Go.Sx.tab (Int.toNat ((↑(List.length t) : Int) * m)) fun (y : Nat) => Go.Sx.exI t m f (↑x1 : Int) (↑y : Int))))))))))))))))))))))))))
      ((Go.Sx.room (List.length (List.take x1 (Go.Sx.exR t m f)) + List.length [List.take x3 (Go.Sx.tab (Int.toNat ((↑(List.length t) : Int) * m)) fun (y : Nat) => Go.Sx.exI t m f (↑x1 : Int) (↑y : Int))])) ∧
      ((Go.Sx.InR ((↑x1 : Int) + (1 : Int))) ∧
      (∃ x5 : Nat, (((↑x5 : Int) ≤ (↑(List.length t) : Int) * m) ∧
      ((Int.toNat ((↑(List.length t) : Int) * m) - x5 < Int.toNat ((↑(List.length t) : Int) * m) - x1) ∧
      ((t = t) ∧
      ((m = m) ∧
      ((f = f) ∧
      (((↑(List.length t) : Int) = (↑(List.length t) : Int)) ∧
      (((↑x1 : Int) + (1 : Int) = (↑x5 : Int)) ∧
      (List.take x1 (Go.Sx.exR t m f) ++ [List.take x3 (Go.Sx.tab (Int.toNat ((↑(List.length t) : Int) * m)) fun (y : Nat) => Go.Sx.exI t m f (↑x1 : Int) (↑y : Int))] = List.take x5 (Go.Sx.exR t m f)))))))))))))))))
    ((List.take x1 (Go.Sx.exR t m f) = Go.Sx.exR t m f) ∧
    (True)))))))
theorem l14Extend_vc (t : List (List Int)) (m : Int) (f : List (List Int)) : runF Try.prog (gam l14Extend_G) noWr (l14Extend_ann t m f) Try.f122 (bodyOf Try.f122) [] [.c (.rows .i64 (t)), .c (.int .i64 (m)), .c (.rows .i64 (f))] (l14Extend_p t m f) = l14Extend_V t m f := by kernel_rfl
theorem l14Extend_ok (t : List (List Int)) (m : Int) (f : List (List Int)) (hpre : (l14Extend_p t m f).pre) : l14Extend_V t m f := by
  simp only [l14Extend_p, l14Extend_V, BrP_iff, true_and, and_true, decide_eq_true_eq, decide_eq_false_iff_not, bne_iff_ne, beq_iff_eq, bne_eq_false_iff_eq, beq_eq_false_iff_ne, Bool.not_eq_true, Bool.not_eq_false, Bool.not_true, Bool.not_false, Bool.not_eq_eq_eq_not, Int.toNat_natCast, List.length_append, List.length_take, List.length_replicate, List.length_set, List.length_map, List.length_drop, List.length_nil, List.length_cons, markL_length, inB, InR, room, bdsOk] at hpre ⊢
  obtain ⟨h1, h2⟩ := hpre
  have hb := nm_in h1 h2
  have ht := tabB_of h1
  have hT : (exR t m f).length = ((t.length : Int) * m).toNat := tabR_length _ _
  have hr : ∀ i : Nat, (tab ((t.length : Int) * m).toNat fun y => exI t m f (i : Int) (y : Int)).length = ((t.length : Int) * m).toNat := fun i => tab_length _ _
  refine ⟨⟨0, by omega, rfl, by simp⟩, fun i hi => ⟨by omega, fun h => ⟨⟨0, by omega, rfl, by simp⟩, fun j ⟨hj, _⟩ => ⟨by omega, fun h3 => ?_, fun h3 => ?_⟩⟩, fun h => List.take_of_length_le (by omega)⟩⟩
  · have q := ex_in h1 h2 (show 0 ≤ (i : Int) by omega) h (show 0 ≤ (j : Int) by omega) h3
    have := hr i
    refine ⟨by omega, by omega, by omega, by omega, by omega, by omega, by omega, by omega, by omega, by omega, by omega, by omega, by omega, j + 1, by omega, by omega, by omega, ?_⟩
    rw [← take_snoc _ 0 j (by omega), tab_getD _ _ _ (by omega)]
    rfl
  · refine ⟨by omega, by omega, i + 1, by omega, by omega, by omega, ?_⟩
    have e : (tab ((t.length : Int) * m).toNat fun y => exI t m f (i : Int) (y : Int)).take j = tab ((t.length : Int) * m).toNat fun y => exI t m f (i : Int) (y : Int) := List.take_of_length_le (by rw [hr]; omega)
    rw [← take_snoc (exR t m f) [] i (by omega), e, exR, tabR_getD _ _ _ (by omega)]
theorem l14Extend_fits : Fits Try.prog 122 ⟨[], l14Extend_ct⟩ := by
  refine fits_fn (Γ := gam l14Extend_G) gok_nil Try.func122 (by kernel_rfl) (by kernel_rfl) (by kernel_rfl) fun ds p h hp => ?_
  unfold l14Extend_ct at h
  split at h
  · cases h
    exact ⟨noWr, l14Extend_ann _ _ _ , by rw [l14Extend_vc]; exact l14Extend_ok _ _ _  hp⟩
  · cases h

def exC (t : List (List Int)) (m : Int) (f : List (List Int)) : List (List Int) × Int :=
  if rackB t = true then (if matB (t.length : Int) m f = true then (if 12 < (t.length : Int) * m then ([], 3) else if (rcF t m f).isNone = true then (exR t m f, 0) else ([], 5)) else ([], 2)) else ([], 1)

theorem exC_room (t : List (List Int)) (m : Int) (f : List (List Int)) : roomR (exC t m f).1 ∧ (exC t m f).1.length ≤ 1048576 ∧ sumL (exC t m f).1 ≤ 1048576 := by
  have nil : roomR ([] : List (List Int)) ∧ ([] : List (List Int)).length ≤ 1048576 ∧ sumL ([] : List (List Int)) ≤ 1048576 := ⟨⟨by simp, by simp⟩, by simp, by simp [sumL]⟩
  unfold exC
  split
  · split
    · rename_i hr hm
      have hn := nm_in (rackB_tab hr) hm
      split
      · exact nil
      · split
        · exact ⟨tabR_room _ _ (by omega), by simp only [exR, tabR_length]; omega, Nat.le_trans (tabR_sum _ _ (by omega)) (by omega)⟩
        · exact nil
    · exact nil
  · exact nil

def iExt_p (t : List (List Int)) (m : Int) (f : List (List Int)) : Post := ⟨roomR t ∧ roomR f, .tup [.inr [.rows 23 2 .i64 ((exC t m f).1)], .inl (.int .i64 ((exC t m f).2))], []⟩
def iExt_ct : List AD → Option Post
  | [.agg [.rows .i64 (t)], .c (.int .i64 (m)), .c (.rows .i64 (f))] => some (iExt_p t m f)
  | _ => none
def iExt_G : List (Nat × Ctr) := [(86, ⟨[], IsRack_ct⟩), (107, ⟨[], isMatrix_ct⟩), (112, ⟨[], isRackCocycle_ct⟩), (123, ⟨[], extension_ct⟩)]
def iExt_V (t : List (List Int)) (m : Int) (f : List (List Int)) : Prop :=
  (((Go.Sx.roomR t) ∧
  (True)) ∧
  (BrP (!Go.Sx.rackB t)
    (((([] = Prod.fst (Go.Sx.exC t m f)) ∧
    (True)) ∧
    (((1 : Int) = Prod.snd (Go.Sx.exC t m f)) ∧
    (True))) ∧
    (True))
    (((Go.Sx.roomR f) ∧
    (True)) ∧
    (BrP (!Go.Sx.matB (↑(List.length t) : Int) m f)
      (((([] = Prod.fst (Go.Sx.exC t m f)) ∧
      (True)) ∧
      (((2 : Int) = Prod.snd (Go.Sx.exC t m f)) ∧
      (True))) ∧
      (True))
      ((Go.Sx.InR ((↑(List.length t) : Int) * m)) ∧
      (BrP (Decidable.decide ((12 : Int) < (↑(List.length t) : Int) * m))
        (((([] = Prod.fst (Go.Sx.exC t m f)) ∧
        (True)) ∧
        (((3 : Int) = Prod.snd (Go.Sx.exC t m f)) ∧
        (True))) ∧
        (True))
        ((((Go.Sx.tabB t = Bool.true) ∧
        (Go.Sx.matB (↑(List.length t) : Int) m f = Bool.true)) ∧
        (True)) ∧
        (BrP (!Option.isNone (Go.Sx.rcF t m f))
          (((([] = Prod.fst (Go.Sx.exC t m f)) ∧
          (True)) ∧
          (((5 : Int) = Prod.snd (Go.Sx.exC t m f)) ∧
          (True))) ∧
          (True))
          ((((Go.Sx.tabB t = Bool.true) ∧
          (Go.Sx.matB (↑(List.length t) : Int) m f = Bool.true)) ∧
          (True)) ∧
          ((((Go.Sx.exR t m f = Prod.fst (Go.Sx.exC t m f)) ∧
          (True)) ∧
          (((0 : Int) = Prod.snd (Go.Sx.exC t m f)) ∧
          (True))) ∧
          (True)))))))))))
theorem iExt_vc (t : List (List Int)) (m : Int) (f : List (List Int)) : runF Try.prog (gam iExt_G) noWr noAnn Try.f49 (bodyOf Try.f49) [] [.agg [.rows .i64 (t)], .c (.int .i64 (m)), .c (.rows .i64 (f))] (iExt_p t m f) = iExt_V t m f := by kernel_rfl
theorem iExt_ok (t : List (List Int)) (m : Int) (f : List (List Int)) (hpre : (iExt_p t m f).pre) : iExt_V t m f := by
  simp only [iExt_p, iExt_V, BrP_iff, true_and, and_true, decide_eq_true_eq, decide_eq_false_iff_not, bne_iff_ne, beq_iff_eq, bne_eq_false_iff_eq, beq_eq_false_iff_ne, Bool.not_eq_true, Bool.not_eq_false, Bool.not_true, Bool.not_false, Bool.not_eq_eq_eq_not, Int.toNat_natCast, List.length_append, List.length_take, List.length_replicate, List.length_set, List.length_map, List.length_drop, List.length_nil, List.length_cons, markL_length, inB, InR, room, bdsOk] at hpre ⊢
  refine ⟨hpre.1, fun h => by simp [exC, h], fun hr => ⟨hpre.2, fun h => by simp [exC, hr, h], fun hm => ?_⟩⟩
  have hn := nm_in (rackB_tab hr) hm
  refine ⟨by omega, fun hb => ?_, fun hb => ⟨⟨rackB_tab hr, hm⟩, fun hf => ?_, fun hf => ⟨⟨rackB_tab hr, hm⟩, ?_⟩⟩⟩
  · rw [exC, if_pos hr, if_pos hm, if_pos hb]; exact ⟨rfl, rfl⟩
  · rw [exC, if_pos hr, if_pos hm, if_neg hb, hf]; exact ⟨rfl, rfl⟩
  · rw [exC, if_pos hr, if_pos hm, if_neg hb, hf]; exact ⟨rfl, rfl⟩
theorem iExt_fits : Fits Try.prog 49 ⟨[], iExt_ct⟩ := by
  refine fits_fn (Γ := gam iExt_G) (gok_cons IsRack_fits (gok_cons isMatrix_fits (gok_cons isRackCocycle_fits (gok_cons extension_fits gok_nil)))) Try.func49 (by kernel_rfl) (by kernel_rfl) (by kernel_rfl) fun ds p h hp => ?_
  unfold iExt_ct at h
  split at h
  · cases h
    exact ⟨noWr, noAnn, by rw [iExt_vc]; exact iExt_ok _ _ _  hp⟩
  · cases h

def sExt_p (t : List (List Int)) (m : Int) (f : List (List Int)) : Post := ⟨roomR t ∧ roomR f, .tup [.inr [.rows 23 2 .i64 ((exC t m f).1)], .inl (.int .i64 ((exC t m f).2))], []⟩
def sExt_ct : List AD → Option Post
  | [.agg [.rows .i64 (t)], .c (.int .i64 (m)), .c (.rows .i64 (f))] => some (sExt_p t m f)
  | _ => none
def sExt_G : List (Nat × Ctr) := [(34, ⟨[], sIsRC_ct⟩), (122, ⟨[], l14Extend_ct⟩)]
def sExt_V (t : List (List Int)) (m : Int) (f : List (List Int)) : Prop :=
  ((((Go.Sx.roomR t) ∧
  (Go.Sx.roomR f)) ∧
  (True)) ∧
  (BrP (Prod.snd (Go.Sx.rcC t m f) == (0 : Int))
    ((Go.Sx.InR ((↑(List.length t) : Int) * m)) ∧
    (BrP (Decidable.decide ((12 : Int) < (↑(List.length t) : Int) * m))
      (((([] = Prod.fst (Go.Sx.exC t m f)) ∧
      (True)) ∧
      (((3 : Int) = Prod.snd (Go.Sx.exC t m f)) ∧
      (True))) ∧
      (True))
      (BrP (Prod.snd (Go.Sx.rcC t m f) == (0 : Int))
        (BrP (!Prod.fst (Go.Sx.rcC t m f))
          (((([] = Prod.fst (Go.Sx.exC t m f)) ∧
          (True)) ∧
          (((5 : Int) = Prod.snd (Go.Sx.exC t m f)) ∧
          (True))) ∧
          (True))
          (BrP (Prod.snd (Go.Sx.rcC t m f) != (0 : Int))
            (((([] = Prod.fst (Go.Sx.exC t m f)) ∧
            (True)) ∧
            ((Prod.snd (Go.Sx.rcC t m f) = Prod.snd (Go.Sx.exC t m f)) ∧
            (True))) ∧
            (True))
            ((((Go.Sx.tabB t = Bool.true) ∧
            (Go.Sx.matB (↑(List.length t) : Int) m f = Bool.true)) ∧
            (True)) ∧
            ((((Go.Sx.exR t m f = Prod.fst (Go.Sx.exC t m f)) ∧
            (True)) ∧
            (((0 : Int) = Prod.snd (Go.Sx.exC t m f)) ∧
            (True))) ∧
            (True)))))
        (BrP (Prod.snd (Go.Sx.rcC t m f) != (0 : Int))
          (((([] = Prod.fst (Go.Sx.exC t m f)) ∧
          (True)) ∧
          ((Prod.snd (Go.Sx.rcC t m f) = Prod.snd (Go.Sx.exC t m f)) ∧
          (True))) ∧
          (True))
          ((((Go.Sx.tabB t = Bool.true) ∧
          (Go.Sx.matB (↑(List.length t) : Int) m f = Bool.true)) ∧
          (True)) ∧
          ((((Go.Sx.exR t m f = Prod.fst (Go.Sx.exC t m f)) ∧
          (True)) ∧
          (((0 : Int) = Prod.snd (Go.Sx.exC t m f)) ∧
          (True))) ∧
          (True)))))))
    (BrP (Prod.snd (Go.Sx.rcC t m f) == (0 : Int))
      (BrP (!Prod.fst (Go.Sx.rcC t m f))
        (((([] = Prod.fst (Go.Sx.exC t m f)) ∧
        (True)) ∧
        (((5 : Int) = Prod.snd (Go.Sx.exC t m f)) ∧
        (True))) ∧
        (True))
        (BrP (Prod.snd (Go.Sx.rcC t m f) != (0 : Int))
          (((([] = Prod.fst (Go.Sx.exC t m f)) ∧
          (True)) ∧
          ((Prod.snd (Go.Sx.rcC t m f) = Prod.snd (Go.Sx.exC t m f)) ∧
          (True))) ∧
          (True))
          ((((Go.Sx.tabB t = Bool.true) ∧
          (Go.Sx.matB (↑(List.length t) : Int) m f = Bool.true)) ∧
          (True)) ∧
          ((((Go.Sx.exR t m f = Prod.fst (Go.Sx.exC t m f)) ∧
          (True)) ∧
          (((0 : Int) = Prod.snd (Go.Sx.exC t m f)) ∧
          (True))) ∧
          (True)))))
      (BrP (Prod.snd (Go.Sx.rcC t m f) != (0 : Int))
        (((([] = Prod.fst (Go.Sx.exC t m f)) ∧
        (True)) ∧
        ((Prod.snd (Go.Sx.rcC t m f) = Prod.snd (Go.Sx.exC t m f)) ∧
        (True))) ∧
        (True))
        ((((Go.Sx.tabB t = Bool.true) ∧
        (Go.Sx.matB (↑(List.length t) : Int) m f = Bool.true)) ∧
        (True)) ∧
        ((((Go.Sx.exR t m f = Prod.fst (Go.Sx.exC t m f)) ∧
        (True)) ∧
        (((0 : Int) = Prod.snd (Go.Sx.exC t m f)) ∧
        (True))) ∧
        (True)))))))
theorem sExt_vc (t : List (List Int)) (m : Int) (f : List (List Int)) : runF Try.prog (gam sExt_G) noWr noAnn Try.f48 (bodyOf Try.f48) [] [.agg [.rows .i64 (t)], .c (.int .i64 (m)), .c (.rows .i64 (f))] (sExt_p t m f) = sExt_V t m f := by kernel_rfl
theorem sExt_ok (t : List (List Int)) (m : Int) (f : List (List Int)) (hpre : (sExt_p t m f).pre) : sExt_V t m f := by
  simp only [sExt_p, sExt_V, BrP_iff, true_and, and_true, decide_eq_true_eq, decide_eq_false_iff_not, bne_iff_ne, beq_iff_eq, bne_eq_false_iff_eq, beq_eq_false_iff_ne, Bool.not_eq_true, Bool.not_eq_false, Bool.not_true, Bool.not_false, Bool.not_eq_eq_eq_not, Int.toNat_natCast, List.length_append, List.length_take, List.length_replicate, List.length_set, List.length_map, List.length_drop, List.length_nil, List.length_cons, markL_length, inB, InR, room, bdsOk] at hpre ⊢
  refine ⟨hpre, ?_⟩
  by_cases hr : rackB t = true
  · by_cases hm : matB (t.length : Int) m f = true
    · have e : rcC t m f = ((rcF t m f).isNone, 0) := by rw [rcC, if_pos hr, if_pos hm]
      have hn := nm_in (rackB_tab hr) hm
      rw [e]
      by_cases hb : 12 < (t.length : Int) * m
      · rw [exC, if_pos hr, if_pos hm, if_pos hb]
        exact ⟨fun _ => ⟨by omega, fun _ => ⟨rfl, rfl⟩, fun h => absurd hb h⟩, fun h => absurd rfl h⟩
      · rw [exC, if_pos hr, if_pos hm, if_neg hb]
        cases hf : (rcF t m f).isNone with
        | false => exact ⟨fun _ => ⟨by omega, fun h => absurd h hb, fun _ => ⟨fun _ => ⟨fun _ => ⟨rfl, rfl⟩, fun h => (by cases h)⟩, fun h => absurd rfl h⟩⟩, fun h => absurd rfl h⟩
        | true => exact ⟨fun _ => ⟨by omega, fun h => absurd h hb, fun _ => ⟨fun _ => ⟨fun h => (by cases h), fun _ => ⟨fun h => absurd rfl h, fun _ => ⟨⟨rackB_tab hr, hm⟩, rfl, rfl⟩⟩⟩, fun h => absurd rfl h⟩⟩, fun h => absurd rfl h⟩
    · have e : rcC t m f = (false, 2) := by rw [rcC, if_pos hr, if_neg hm]
      have x : exC t m f = ([], 2) := by rw [exC, if_pos hr, if_neg hm]
      rw [e, x]
      exact ⟨fun h => absurd h (by simp), fun _ => ⟨fun h => absurd h (by simp), fun _ => ⟨fun _ => ⟨rfl, rfl⟩, fun h => absurd h (by simp)⟩⟩⟩
  · have e : rcC t m f = (false, 1) := by rw [rcC, if_neg hr]
    have x : exC t m f = ([], 1) := by rw [exC, if_neg hr]
    rw [e, x]
    exact ⟨fun h => absurd h (by simp), fun _ => ⟨fun h => absurd h (by simp), fun _ => ⟨fun _ => ⟨rfl, rfl⟩, fun h => absurd h (by simp)⟩⟩⟩
theorem sExt_fits : Fits Try.prog 48 ⟨[], sExt_ct⟩ := by
  refine fits_fn (Γ := gam sExt_G) (gok_cons sIsRC_fits (gok_cons l14Extend_fits gok_nil)) Try.func48 (by kernel_rfl) (by kernel_rfl) (by kernel_rfl) fun ds p h hp => ?_
  unfold sExt_ct at h
  split at h
  · cases h
    exact ⟨noWr, noAnn, by rw [sExt_vc]; exact sExt_ok _ _ _  hp⟩
  · cases h

def lExt_p (t : List (List Int)) (m : Int) (f : List (List Int)) : Post := ⟨((t.length : Int) ≤ 9223372036854775807 ∧ (∀ r ∈ t, (r.length : Int) ≤ 9223372036854775807)) ∧ (f.length : Int) ≤ 9223372036854775807 ∧ (∀ r ∈ f, (r.length : Int) ≤ 9223372036854775807), .c (.bool (true)), []⟩
def lExt_ct : List AD → Option Post
  | [.agg [.rows .i64 (t)], .c (.int .i64 (m)), .c (.rows .i64 (f))] => some (lExt_p t m f)
  | _ => none
def lExt_G : List (Nat × Ctr) := [(33, ⟨[], szRack_ct⟩), (21, ⟨[], szInt64SS_ct⟩), (35, ⟨[], toRack_ct⟩), (23, ⟨[], toInt64SS_ct⟩), (37, ⟨[], eqRack_ct⟩), (26, ⟨[], eqInt64SS_ct⟩), (50, ⟨[(0, 0)], markRack_ct⟩), (28, ⟨[(0, 0)], markInt64SS_ct⟩), (51, ⟨[], heldRack_ct⟩), (48, ⟨[], sExt_ct⟩), (49, ⟨[], iExt_ct⟩)]
def lExt_V (t : List (List Int)) (m : Int) (f : List (List Int)) : Prop :=
  (((((↑(List.length t) : Int) ≤ (9223372036854775807 : Int)) ∧
  ((∀ (r : List Int), r ∈ t → (↑(List.length r) : Int) ≤ (9223372036854775807 : Int)) ∧
  (((0 : Int) ≤ (1048576 : Int)) ∧
  ((1048576 : Int) ≤ (1099511627776 : Int))))) ∧
  (True)) ∧
  (BrP (Decidable.decide ((if (1048576 : Int) < (↑(List.length t) : Int) + (↑(Go.Sx.sumL t) : Int) then (-1 : Int) else (1048576 : Int) - (↑(List.length t) : Int) - (↑(Go.Sx.sumL t) : Int)) < (0 : Int)))
    ((Bool.true = Bool.true) ∧
    (True))
    (((((↑(List.length f) : Int) ≤ (9223372036854775807 : Int)) ∧
    ((∀ (r : List Int), r ∈ f → (↑(List.length r) : Int) ≤ (9223372036854775807 : Int)) ∧
    (((0 : Int) ≤ if (1048576 : Int) < (↑(List.length t) : Int) + (↑(Go.Sx.sumL t) : Int) then (-1 : Int) else (1048576 : Int) - (↑(List.length t) : Int) - (↑(Go.Sx.sumL t) : Int)) ∧
    ((if (1048576 : Int) < (↑(List.length t) : Int) + (↑(Go.Sx.sumL t) : Int) then (-1 : Int) else (1048576 : Int) - (↑(List.length t) : Int) - (↑(Go.Sx.sumL t) : Int)) ≤ (1099511627776 : Int))))) ∧
    (True)) ∧
    (BrP (Decidable.decide ((if (if (1048576 : Int) < (↑(List.length t) : Int) + (↑(Go.Sx.sumL t) : Int) then (-1 : Int) else (1048576 : Int) - (↑(List.length t) : Int) - (↑(Go.Sx.sumL t) : Int)) < (↑(List.length f) : Int) + (↑(Go.Sx.sumL f) : Int) then (-1 : Int) else (if (1048576 : Int) < (↑(List.length t) : Int) + (↑(Go.Sx.sumL t) : Int) then (-1 : Int) else (1048576 : Int) - (↑(List.length t) : Int) - (↑(Go.Sx.sumL t) : Int)) - (↑(List.length f) : Int) - (↑(Go.Sx.sumL f) : Int)) < (0 : Int)))
      ((Bool.true = Bool.true) ∧
      (True))
      (((Go.Sx.roomR t) ∧
      (True)) ∧
      (((Go.Sx.roomR f) ∧
      (True)) ∧
      ((((Go.Sx.roomR t) ∧
      (Go.Sx.roomR f)) ∧
      (True)) ∧
      (((Go.Sx.roomR t) ∧
      (True)) ∧
      (((Go.Sx.roomR f) ∧
      (True)) ∧
      ((((Go.Sx.roomR t) ∧
      (Go.Sx.roomR f)) ∧
      (True)) ∧
      (((Go.Sx.roomR (Prod.fst (Go.Sx.exC t m f))) ∧
      (True)) ∧
      (BrP (!Decidable.decide (Prod.fst (Go.Sx.exC t m f) = Prod.fst (Go.Sx.exC t m f)))
        ((Bool.false = Bool.true) ∧
        (True))
        (BrP (Prod.snd (Go.Sx.exC t m f) != Prod.snd (Go.Sx.exC t m f))
          ((Bool.false = Bool.true) ∧
          (True))
          (((Go.Sx.roomR t) ∧
          (True)) ∧
          (((Go.Sx.roomR t) ∧
          (True)) ∧
          (BrP (!Decidable.decide (t = t))
            ((Bool.false = Bool.true) ∧
            (True))
            (((Go.Sx.roomR f) ∧
            (True)) ∧
            (((Go.Sx.roomR f) ∧
            (True)) ∧
            (BrP (!Decidable.decide (f = f))
              ((Bool.false = Bool.true) ∧
              (True))
              ((((List.length t ≤ (1048576 : Nat)) ∧
              ((Go.Sx.sumL t ≤ (1048576 : Nat)) ∧
              (((0 : Int) ≤ (1 : Int)) ∧
              ((1 : Int) ≤ (1073741824 : Int))))) ∧
              ((List.map List.length (Go.Sx.markR t (1 : Int)) = List.map List.length t) ∧
              (True))) ∧
              ((((List.length f ≤ (1048576 : Nat)) ∧
              ((Go.Sx.sumL f ≤ (1048576 : Nat)) ∧
              (((0 : Int) ≤ (1 : Int) + (↑(Go.Sx.sumL t) : Int)) ∧
              ((1 : Int) + (↑(Go.Sx.sumL t) : Int) ≤ (1073741824 : Int))))) ∧
              ((List.map List.length (Go.Sx.markR f ((1 : Int) + (↑(Go.Sx.sumL t) : Int))) = List.map List.length f) ∧
              (True))) ∧
              (BrP (Decidable.decide ((1 : Int) + (↑(Go.Sx.sumL t) : Int) + (↑(Go.Sx.sumL f) : Int) < (0 : Int)))
                ((Bool.false = Bool.true) ∧
                (True))
                (((Go.Sx.roomR (Prod.fst (Go.Sx.exC t m f))) ∧
                (True)) ∧
                (BrP (!Decidable.decide (Prod.fst (Go.Sx.exC t m f) = Prod.fst (Go.Sx.exC t m f)))
                  ((Bool.false = Bool.true) ∧
                  (True))
                  (BrP (Prod.snd (Go.Sx.exC t m f) != Prod.snd (Go.Sx.exC t m f))
                    ((Bool.false = Bool.true) ∧
                    (True))
                    ((((List.length (Prod.fst (Go.Sx.exC t m f)) ≤ (1048576 : Nat)) ∧
                    ((Go.Sx.sumL (Prod.fst (Go.Sx.exC t m f)) ≤ (1048576 : Nat)) ∧
                    (((0 : Int) ≤ (1 : Int)) ∧
                    ((1 : Int) ≤ (1073741824 : Int))))) ∧
                    ((List.map List.length (Go.Sx.markR (Prod.fst (Go.Sx.exC t m f)) (1 : Int)) = List.map List.length (Prod.fst (Go.Sx.exC t m f))) ∧
                    (True))) ∧
                    ((((List.length (Go.Sx.markR (Prod.fst (Go.Sx.exC t m f)) (1 : Int)) ≤ (1048576 : Nat)) ∧
                    ((Go.Sx.sumL (Go.Sx.markR (Prod.fst (Go.Sx.exC t m f)) (1 : Int)) ≤ (1048576 : Nat)) ∧
                    (((0 : Int) ≤ (1 : Int)) ∧
                    ((1 : Int) ≤ (1073741824 : Int))))) ∧
                    (True)) ∧
                    (BrP (Decidable.decide ((if Go.Sx.markR (Prod.fst (Go.Sx.exC t m f)) (1 : Int) = Go.Sx.markR (Go.Sx.markR (Prod.fst (Go.Sx.exC t m f)) (1 : Int)) (1 : Int) then (1 : Int) + (↑(Go.Sx.sumL (Go.Sx.markR (Prod.fst (Go.Sx.exC t m f)) (1 : Int))) : Int) else (-1 : Int)) < (0 : Int)))
                      ((Bool.false = Bool.true) ∧
                      (True))
                      (BrP ((if Go.Sx.markR (Prod.fst (Go.Sx.exC t m f)) (1 : Int) = Go.Sx.markR (Go.Sx.markR (Prod.fst (Go.Sx.exC t m f)) (1 : Int)) (1 : Int) then (1 : Int) + (↑(Go.Sx.sumL (Go.Sx.markR (Prod.fst (Go.Sx.exC t m f)) (1 : Int))) : Int) else (-1 : Int)) != (1 : Int) + (↑(Go.Sx.sumL (Prod.fst (Go.Sx.exC t m f))) : Int))
                        ((Bool.false = Bool.true) ∧
                        (True))
                        (((Go.Sx.roomR t) ∧
                        (True)) ∧
                        (((Go.Sx.roomR f) ∧
                        (True)) ∧
                        ((((Go.Sx.roomR t) ∧
                        (Go.Sx.roomR f)) ∧
                        (True)) ∧
                        (((Go.Sx.roomR (Prod.fst (Go.Sx.exC t m f))) ∧
                        (True)) ∧
                        (BrP (!Decidable.decide (Prod.fst (Go.Sx.exC t m f) = Prod.fst (Go.Sx.exC t m f)))
                          ((Bool.false = Bool.true) ∧
                          (True))
                          (BrP (Prod.snd (Go.Sx.exC t m f) != Prod.snd (Go.Sx.exC t m f))
                            ((Bool.false = Bool.true) ∧
                            (True))
                            ((((List.length (Go.Sx.markR (Prod.fst (Go.Sx.exC t m f)) (1 : Int)) ≤ (1048576 : Nat)) ∧
                            ((Go.Sx.sumL (Go.Sx.markR (Prod.fst (Go.Sx.exC t m f)) (1 : Int)) ≤ (1048576 : Nat)) ∧
                            (((0 : Int) ≤ (1 : Int)) ∧
                            ((1 : Int) ≤ (1073741824 : Int))))) ∧
                            (True)) ∧
                            (BrP (Decidable.decide ((if Go.Sx.markR (Prod.fst (Go.Sx.exC t m f)) (1 : Int) = Go.Sx.markR (Go.Sx.markR (Prod.fst (Go.Sx.exC t m f)) (1 : Int)) (1 : Int) then (1 : Int) + (↑(Go.Sx.sumL (Go.Sx.markR (Prod.fst (Go.Sx.exC t m f)) (1 : Int))) : Int) else (-1 : Int)) < (0 : Int)))
                              ((Bool.false = Bool.true) ∧
                              (True))
                              (BrP ((if Go.Sx.markR (Prod.fst (Go.Sx.exC t m f)) (1 : Int) = Go.Sx.markR (Go.Sx.markR (Prod.fst (Go.Sx.exC t m f)) (1 : Int)) (1 : Int) then (1 : Int) + (↑(Go.Sx.sumL (Go.Sx.markR (Prod.fst (Go.Sx.exC t m f)) (1 : Int))) : Int) else (-1 : Int)) != (1 : Int) + (↑(Go.Sx.sumL (Prod.fst (Go.Sx.exC t m f))) : Int))
                                ((Bool.false = Bool.true) ∧
                                (True))
                                ((Bool.true = Bool.true) ∧
                                (True))))))))))))))))))))))))))))))))))))))))
theorem lExt_vc (t : List (List Int)) (m : Int) (f : List (List Int)) : runF Try.prog (gam lExt_G) noWr noAnn Try.f9 (bodyOf Try.f9) [] [.agg [.rows .i64 (t)], .c (.int .i64 (m)), .c (.rows .i64 (f))] (lExt_p t m f) = lExt_V t m f := by kernel_rfl
theorem lExt_ok (t : List (List Int)) (m : Int) (f : List (List Int)) (hpre : (lExt_p t m f).pre) : lExt_V t m f := by
  simp only [lExt_p, lExt_V, BrP_iff, true_and, and_true, decide_eq_true_eq, decide_eq_false_iff_not, bne_iff_ne, beq_iff_eq, bne_eq_false_iff_eq, beq_eq_false_iff_ne, Bool.not_eq_true, Bool.not_eq_false, Bool.not_true, Bool.not_false, Bool.not_eq_eq_eq_not, Int.toNat_natCast, List.length_append, List.length_take, List.length_replicate, List.length_set, List.length_map, List.length_drop, List.length_nil, List.length_cons, markL_length, inB, InR, room, bdsOk] at hpre ⊢
  obtain ⟨⟨a1, a2⟩, a3, a4⟩ := hpre
  refine ⟨⟨a1, a2, by omega, by omega⟩, fun _ => trivial, fun h => ?_⟩
  obtain ⟨e1, e2, e3⟩ := size_of h
  refine ⟨⟨a3, a4, by omega, by split <;> omega⟩, fun _ => trivial, fun h2 => ?_⟩
  obtain ⟨d1, d2, d3⟩ := size_of h2 (by split <;> omega)
  obtain ⟨c1, c3, c4⟩ := exC_room t m f
  have c5 : ¬ (1 + (sumL t : Int) + (sumL f : Int) < 0) := by omega
  have c6 : ¬ (1 + (sumL (exC t m f).1 : Int) < 0) := by omega
  have c9 : 1 + (sumL t : Int) ≤ 1073741824 := by omega
  have c0 : 0 ≤ 1 + (sumL t : Int) := by omega
  simp [e1, e2, e3, d1, d2, d3, c0, c1, c3, c4, c5, c6, c9, markR_length, markR_lens, markR_sum, markR_mark]
theorem lExt_fits : Fits Try.prog 9 ⟨[], lExt_ct⟩ := by
  refine fits_fn (Γ := gam lExt_G) (gok_cons szRack_fits (gok_cons szInt64SS_fits (gok_cons toRack_fits (gok_cons toInt64SS_fits (gok_cons eqRack_fits (gok_cons eqInt64SS_fits (gok_cons markRack_fits (gok_cons markInt64SS_fits (gok_cons heldRack_fits (gok_cons sExt_fits (gok_cons iExt_fits gok_nil))))))))))) Try.func9 (by kernel_rfl) (by kernel_rfl) (by kernel_rfl) fun ds p h hp => ?_
  unfold lExt_ct at h
  split at h
  · cases h
    exact ⟨noWr, noAnn, by rw [lExt_vc]; exact lExt_ok _ _ _  hp⟩
  · cases h

end Go.Sx

