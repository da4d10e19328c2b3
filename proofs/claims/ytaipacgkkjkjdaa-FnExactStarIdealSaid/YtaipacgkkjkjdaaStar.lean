/- Contracts on the way of StarIdeal. -/
import Derived.Test.YtaipacgkkjkjdaaIdsL
open Go Go.Proofs
namespace Go.Sx
set_option linter.unusedSimpArgs false
set_option linter.unusedVariables false

def starTable1_p (x : Int) (y : Int) (a : List (List Int)) (c : List (List Int)) (l : List (List Int)) (m : List Int) : Post := ⟨twoG a c ∧ l = lamT a c ∧ m = bkL a ∧ 0 ≤ x ∧ x < (a.length : Int) ∧ 0 ≤ y ∧ y < (a.length : Int), .c (.int .i64 (strF a c x.toNat y.toNat)), []⟩
def starTable1_ct : List AD → Option Post
  | [.c (.int .i64 (x)), .c (.int .i64 (y)), .box [.rows .i64 (a), .rows .i64 (c)], .box [.rows .i64 (l)], .box [.ints .i64 (m)]] => some (starTable1_p x y a c l m)
  | _ => none
def starTable1_G : List (Nat × Ctr) := []
def starTable1_V (x : Int) (y : Int) (a : List (List Int)) (c : List (List Int)) (l : List (List Int)) (m : List Int) : Prop :=
  ((Go.Sx.inB x (List.length l)) ∧
  ((Go.Sx.inB y (List.length (List.getD l (Int.toNat x) []))) ∧
  ((Go.Sx.inB (List.getD (List.getD l (Int.toNat x) []) (Int.toNat y) (0 : Int)) (List.length a)) ∧
  ((Go.Sx.inB y (List.length m)) ∧
  ((Go.Sx.inB (List.getD m (Int.toNat y) (0 : Int)) (List.length (List.getD a (Int.toNat (List.getD (List.getD l (Int.toNat x) []) (Int.toNat y) (0 : Int))) []))) ∧
  ((List.getD (List.getD a (Int.toNat (List.getD (List.getD l (Int.toNat x) []) (Int.toNat y) (0 : Int))) []) (Int.toNat (List.getD m (Int.toNat y) (0 : Int))) (0 : Int) = Go.Sx.strF a c (Int.toNat x) (Int.toNat y)) ∧
  (True)))))))
theorem starTable1_vc (x : Int) (y : Int) (a : List (List Int)) (c : List (List Int)) (l : List (List Int)) (m : List Int) : runF Try.prog (gam starTable1_G) noWr noAnn Try.f97 (bodyOf Try.f97) [] [.c (.int .i64 (x)), .c (.int .i64 (y)), .box [.rows .i64 (a), .rows .i64 (c)], .box [.rows .i64 (l)], .box [.ints .i64 (m)]] (starTable1_p x y a c l m) = starTable1_V x y a c l m := by kernel_rfl
theorem starTable1_ok (x : Int) (y : Int) (a : List (List Int)) (c : List (List Int)) (l : List (List Int)) (m : List Int) (hpre : (starTable1_p x y a c l m).pre) : starTable1_V x y a c l m := by
  simp only [starTable1_p, starTable1_V, BrP_iff, true_and, and_true, decide_eq_true_eq, decide_eq_false_iff_not, bne_iff_ne, beq_iff_eq, bne_eq_false_iff_eq, beq_eq_false_iff_ne, Bool.not_eq_true, Bool.not_eq_false, Bool.not_true, Bool.not_false, Bool.not_eq_eq_eq_not, Int.toNat_natCast, List.length_append, List.length_take, List.length_replicate, List.length_set, List.length_map, List.length_drop, List.length_nil, List.length_cons, markL_length, inB, InR, room, bdsOk] at hpre ⊢
  obtain ⟨h, rfl, rfl, x1, x2, y1, y2⟩ := hpre
  obtain ⟨n1, n2, hl, ha, hc, hb⟩ := twoG_in h
  obtain ⟨hL, hl2⟩ := lamT_ok h
  have hbl := bkL_length a
  have R := hl2 x.toNat (by omega)
  have V := R.2 y.toNat (by omega)
  have B := hb y.toNat (by omega)
  have R2 := ha (((lamT a c).getD x.toNat []).getD y.toNat 0).toNat (by omega)
  have e : ((lamT a c).getD x.toNat []).getD y.toNat 0 = lamF a c x.toNat y.toNat := by
    rw [lamT, tabR_getD _ _ _ (by omega), tab_getD _ _ _ (by omega)]
  rw [bkL_getD a y.toNat (by omega)]
  refine ⟨by omega, by omega, by omega, by omega, by omega, ?_⟩
  rw [e]; rfl
theorem starTable1_fits : Fits Try.prog 97 ⟨[], starTable1_ct⟩ := by
  refine fits_fn (Γ := gam starTable1_G) gok_nil Try.func97 (by kernel_rfl) (by kernel_rfl) (by kernel_rfl) fun ds p h hp => ?_
  unfold starTable1_ct at h
  split at h
  · cases h
    exact ⟨noWr, noAnn, by rw [starTable1_vc]; exact starTable1_ok _ _ _ _ _ _  hp⟩
  · cases h

def starTable_p (a : List (List Int)) (c : List (List Int)) : Post := ⟨twoG a c, .c (.rows 25 2 .i64 (tabR a.length (strF a c))), []⟩
def starTable_ct : List AD → Option Post
  | [.agg [.rows .i64 (a), .rows .i64 (c)]] => some (starTable_p a c)
  | _ => none
def starTable_G : List (Nat × Ctr) := [(95, ⟨[], groupInverses_ct⟩), (62, ⟨[], lambdaTable_ct⟩), (96, ⟨[], tableBy_ct⟩), (97, ⟨[], starTable1_ct⟩)]
def starTable_V (a : List (List Int)) (c : List (List Int)) : Prop :=
  (((Go.Sx.tabB a = Bool.true) ∧
  (True)) ∧
  (((Go.Sx.twoG a c) ∧
  (True)) ∧
  (((((0 : Int) ≤ (↑(List.length a) : Int)) ∧
  (((↑(List.length a) : Int) ≤ (144 : Int)) ∧
  (∀ (x y : Int), (0 : Int) ≤ x → x < (↑(List.length a) : Int) → (0 : Int) ≤ y → y < (↑(List.length a) : Int) → Go.Sx.ctQI (Go.Sx.starTable1_ct [Go.Sx.AD.c (Go.Sx.FC.int Go.IntKind.i64 x), Go.Sx.AD.c (Go.Sx.FC.int Go.IntKind.i64 y), Go.Sx.AD.box [Go.Sx.FC.rows Go.IntKind.i64 a, Go.Sx.FC.rows Go.IntKind.i64 c], Go.Sx.AD.box [Go.Sx.FC.rows Go.IntKind.i64 (Go.Sx.lamT a c)], Go.Sx.AD.box [Go.Sx.FC.ints Go.IntKind.i64 (Go.Sx.bkL a)]])))) ∧
  (True)) ∧
  (((Go.Sx.tabR (Int.toNat (↑(List.length a) : Int)) fun (x y : Nat) => Go.Sx.ctI (Go.Sx.starTable1_ct [Go.Sx.AD.c (Go.Sx.FC.int Go.IntKind.i64 (↑x : Int)), Go.Sx.AD.c (Go.Sx.FC.int Go.IntKind.i64 (↑y : Int)), Go.Sx.AD.box [Go.Sx.FC.rows Go.IntKind.i64 a, Go.Sx.FC.rows Go.IntKind.i64 c], Go.Sx.AD.box [Go.Sx.FC.rows Go.IntKind.i64 (Go.Sx.lamT a c)], Go.Sx.AD.box [Go.Sx.FC.ints Go.IntKind.i64 (Go.Sx.bkL a)]])) = Go.Sx.tabR (List.length a) (Go.Sx.strF a c)) ∧
  (True)))))
theorem starTable_vc (a : List (List Int)) (c : List (List Int)) : runF Try.prog (gam starTable_G) noWr noAnn Try.f57 (bodyOf Try.f57) [] [.agg [.rows .i64 (a), .rows .i64 (c)]] (starTable_p a c) = starTable_V a c := by kernel_rfl
theorem starTable_ok (a : List (List Int)) (c : List (List Int)) (hpre : (starTable_p a c).pre) : starTable_V a c := by
  simp only [starTable_p, starTable_V, BrP_iff, true_and, and_true, decide_eq_true_eq, decide_eq_false_iff_not, bne_iff_ne, beq_iff_eq, bne_eq_false_iff_eq, beq_eq_false_iff_ne, Bool.not_eq_true, Bool.not_eq_false, Bool.not_true, Bool.not_false, Bool.not_eq_eq_eq_not, Int.toNat_natCast, List.length_append, List.length_take, List.length_replicate, List.length_set, List.length_map, List.length_drop, List.length_nil, List.length_cons, markL_length, inB, InR, room, bdsOk] at hpre ⊢
  obtain ⟨n1, n2, hl, ha, hc, hb⟩ := twoG_in hpre
  exact ⟨grp_tab hpre.1, hpre, ⟨by omega, by omega, fun x y a1 a2 a3 a4 => ⟨hpre, rfl, rfl, a1, a2, a3, a4⟩⟩, tabR_ext fun x y hx hy => rfl⟩
theorem starTable_fits : Fits Try.prog 57 ⟨[], starTable_ct⟩ := by
  refine fits_fn (Γ := gam starTable_G) (gok_cons groupInverses_fits (gok_cons lambdaTable_fits (gok_cons tableBy_fits (gok_cons starTable1_fits gok_nil)))) Try.func57 (by kernel_rfl) (by kernel_rfl) (by kernel_rfl) fun ds p h hp => ?_
  unfold starTable_ct at h
  split at h
  · cases h
    exact ⟨noWr, noAnn, by rw [starTable_vc]; exact starTable_ok _ _  hp⟩
  · cases h

def l11Star_p (a : List (List Int)) (c : List (List Int)) (x : Int) (y : Int) : Post := ⟨twoG a c ∧ 0 ≤ x ∧ x < (a.length : Int) ∧ 0 ≤ y ∧ y < (a.length : Int), .c (.int .i64 (strF a c x.toNat y.toNat)), []⟩
def l11Star_ct : List AD → Option Post
  | [.agg [.rows .i64 (a), .rows .i64 (c)], .c (.int .i64 (x)), .c (.int .i64 (y))] => some (l11Star_p a c x y)
  | _ => none
def l11Star_G : List (Nat × Ctr) := [(94, ⟨[], l10Back_ct⟩)]
def l11Star_V (a : List (List Int)) (c : List (List Int)) (x : Int) (y : Int) : Prop :=
  ((((Go.Sx.tabB a = Bool.true) ∧
  (((0 : Int) ≤ x) ∧
  (x ≤ (↑(List.length a) : Int) - (1 : Int)))) ∧
  (True)) ∧
  ((Go.Sx.inB (Go.Sx.bk a (Int.toNat x)) (List.length a)) ∧
  ((Go.Sx.inB x (List.length c)) ∧
  ((Go.Sx.inB y (List.length (List.getD c (Int.toNat x) []))) ∧
  ((Go.Sx.inB (List.getD (List.getD c (Int.toNat x) []) (Int.toNat y) (0 : Int)) (List.length (List.getD a (Int.toNat (Go.Sx.bk a (Int.toNat x))) []))) ∧
  ((Go.Sx.inB (List.getD (List.getD a (Int.toNat (Go.Sx.bk a (Int.toNat x))) []) (Int.toNat (List.getD (List.getD c (Int.toNat x) []) (Int.toNat y) (0 : Int))) (0 : Int)) (List.length a)) ∧
  ((((Go.Sx.tabB a = Bool.true) ∧
  (((0 : Int) ≤ y) ∧
  (y ≤ (↑(List.length a) : Int) - (1 : Int)))) ∧
  (True)) ∧
  ((Go.Sx.inB (Go.Sx.bk a (Int.toNat y)) (List.length (List.getD a (Int.toNat (List.getD (List.getD a (Int.toNat (Go.Sx.bk a (Int.toNat x))) []) (Int.toNat (List.getD (List.getD c (Int.toNat x) []) (Int.toNat y) (0 : Int))) (0 : Int))) []))) ∧
  ((List.getD (List.getD a (Int.toNat (List.getD (List.getD a (Int.toNat (Go.Sx.bk a (Int.toNat x))) []) (Int.toNat (List.getD (List.getD c (Int.toNat x) []) (Int.toNat y) (0 : Int))) (0 : Int))) []) (Int.toNat (Go.Sx.bk a (Int.toNat y))) (0 : Int) = Go.Sx.strF a c (Int.toNat x) (Int.toNat y)) ∧
  (True))))))))))
theorem l11Star_vc (a : List (List Int)) (c : List (List Int)) (x : Int) (y : Int) : runF Try.prog (gam l11Star_G) noWr noAnn Try.f56 (bodyOf Try.f56) [] [.agg [.rows .i64 (a), .rows .i64 (c)], .c (.int .i64 (x)), .c (.int .i64 (y))] (l11Star_p a c x y) = l11Star_V a c x y := by kernel_rfl
theorem l11Star_ok (a : List (List Int)) (c : List (List Int)) (x : Int) (y : Int) (hpre : (l11Star_p a c x y).pre) : l11Star_V a c x y := by
  simp only [l11Star_p, l11Star_V, BrP_iff, true_and, and_true, decide_eq_true_eq, decide_eq_false_iff_not, bne_iff_ne, beq_iff_eq, bne_eq_false_iff_eq, beq_eq_false_iff_ne, Bool.not_eq_true, Bool.not_eq_false, Bool.not_true, Bool.not_false, Bool.not_eq_eq_eq_not, Int.toNat_natCast, List.length_append, List.length_take, List.length_replicate, List.length_set, List.length_map, List.length_drop, List.length_nil, List.length_cons, markL_length, inB, InR, room, bdsOk] at hpre ⊢
  obtain ⟨h, x1, x2, y1, y2⟩ := hpre
  obtain ⟨n1, n2, hl, ha, hc, hb⟩ := twoG_in h
  have h1 := grp_tab h.1
  have B := hb x.toNat (by omega)
  have B2 := hb y.toNat (by omega)
  have C := hc x.toNat (by omega)
  have C1 := C.2 y.toNat (by omega)
  have R := ha (bk a x.toNat).toNat (by omega)
  have V := R.2 ((c.getD x.toNat []).getD y.toNat 0).toNat (by omega)
  have R2 := ha ((a.getD (bk a x.toNat).toNat []).getD ((c.getD x.toNat []).getD y.toNat 0).toNat 0).toNat (by omega)
  exact ⟨⟨h1, by omega, by omega⟩, by omega, by omega, by omega, by omega, by omega, ⟨h1, by omega, by omega⟩, by omega, rfl⟩
theorem l11Star_fits : Fits Try.prog 56 ⟨[], l11Star_ct⟩ := by
  refine fits_fn (Γ := gam l11Star_G) (gok_cons l10Back_fits gok_nil) Try.func56 (by kernel_rfl) (by kernel_rfl) (by kernel_rfl) fun ds p h hp => ?_
  unfold l11Star_ct at h
  split at h
  · cases h
    exact ⟨noWr, noAnn, by rw [l11Star_vc]; exact l11Star_ok _ _ _ _  hp⟩
  · cases h

/-- The set of the stars: of row x up to j on top of m; of the rows up to i. -/
def stJ (a c : List (List Int)) (x : Nat) (m : Nat) : Nat → Nat
  | 0 => m
  | j + 1 => stJ a c x m j ||| 2 ^ (strF a c x j).toNat
def stI (a c : List (List Int)) : Nat → Nat
  | 0 => 0
  | i + 1 => stJ a c i (stI a c i) a.length

theorem str_in {a c : List (List Int)} (h : twoG a c) {x y : Nat} (hx : x < a.length) (hy : y < a.length) : 0 ≤ strF a c x y ∧ strF a c x y ≤ (a.length : Int) - 1 := by
  obtain ⟨n1, n2, hl, ha, hc, hb⟩ := twoG_in h
  have L := ((lamT_ok h).2 x hx).2 y hy
  rw [lamT, tabR_getD _ _ _ hx, tab_getD _ _ _ hy] at L
  have B := hb y hy
  exact (ha (lamF a c x y).toNat (by omega)).2 (bk a y).toNat (by omega)

theorem two_lt {v : Int} {n : Nat} (h : 0 ≤ v ∧ v ≤ (n : Int) - 1) : 2 ^ v.toNat < 2 ^ n := Nat.pow_lt_pow_right (by omega) (by omega)

theorem stJ_lt {a c : List (List Int)} (h : twoG a c) {x : Nat} (hx : x < a.length) {m : Nat} (hm : m < 2 ^ a.length) : ∀ j, j ≤ a.length → stJ a c x m j < 2 ^ a.length
  | 0, _ => hm
  | j + 1, hj => Nat.or_lt_two_pow (stJ_lt h hx hm j (by omega)) (two_lt (str_in h hx (by omega)))

theorem stI_lt {a c : List (List Int)} (h : twoG a c) : ∀ i, i ≤ a.length → stI a c i < 2 ^ a.length
  | 0, _ => Nat.two_pow_pos _
  | i + 1, hi => stJ_lt h (by omega) (stI_lt h i (by omega)) _ (Nat.le_refl _)

/-- The least of the sets that have the stars. -/
def lstN (st : Int) (l : List Int) (m0 : Int) : Nat → Int
  | 0 => m0
  | i + 1 => if (((l.getD i 0).toNat &&& st.toNat : Nat) : Int) = st then (((lstN st l m0 i).toNat &&& (l.getD i 0).toNat : Nat) : Int) else lstN st l m0 i

theorem lstN_in {st : Int} {l : List Int} {m0 M : Int} (h : 0 ≤ m0 ∧ m0 ≤ M) : ∀ i, 0 ≤ lstN st l m0 i ∧ lstN st l m0 i ≤ M
  | 0 => h
  | i + 1 => by
    have ih := lstN_in h (st := st) (l := l) i
    simp only [lstN]
    split
    · have : (lstN st l m0 i).toNat &&& (l.getD i 0).toNat ≤ (lstN st l m0 i).toNat := Nat.and_le_left
      omega
    · exact ih

def siV (a c : List (List Int)) : Int := lstN (stI a c a.length : Nat) (odN (idB a c) (2 ^ (a.length - 1))) (1 * 2 ^ a.length - 1) (odN (idB a c) (2 ^ (a.length - 1))).length
def siC (a c : List (List Int)) : Int × Int := if brcB a c = true then (siV a c, 0) else (0, 1)

theorem siC_yes {a c : List (List Int)} (h : brcB a c = true) : lstN (stI a c a.length : Nat) (odN (idB a c) (2 ^ (a.length - 1))) (1 * 2 ^ a.length - 1) (odN (idB a c) (2 ^ (a.length - 1))).length = (siC a c).1 ∧ 0 = (siC a c).2 := by
  rw [siC, if_pos h]; exact ⟨rfl, rfl⟩

theorem lst_yes {S : Nat} {l : List Int} {m0 : Int} {i : Nat} (h : (((l.getD i 0).toNat &&& S : Nat) : Int) = (S : Int)) : (((lstN (S : Int) l m0 i).toNat &&& (l.getD i 0).toNat : Nat) : Int) = lstN (S : Int) l m0 (i + 1) := by
  simp only [lstN, Int.toNat_natCast]
  rw [if_pos h]
theorem lst_no {S : Nat} {l : List Int} {m0 : Int} {i : Nat} (h : (((l.getD i 0).toNat &&& S : Nat) : Int) ≠ (S : Int)) : lstN (S : Int) l m0 i = lstN (S : Int) l m0 (i + 1) := by
  simp only [lstN, Int.toNat_natCast]
  rw [if_neg h]

theorem one_pow (k : Nat) : (1 * (2 : Int) ^ k) = ((2 ^ k : Nat) : Int) := by
  rw [Int.one_mul, Int.natCast_pow]; rfl

def iSI_p (a : List (List Int)) (c : List (List Int)) : Post := ⟨roomR a ∧ roomR c, .tup [.inl (.int .i64 ((siC a c).1)), .inl (.int .i64 ((siC a c).2))], []⟩
def iSI_ct : List AD → Option Post
  | [.agg [.rows .i64 (a), .rows .i64 (c)]] => some (iSI_p a c)
  | _ => none
def iSI_ann (a : List (List Int)) (c : List (List Int)) : Nat → Option Ann
  | 0 => some (Ann.mk ((Nat)) (fun i => ⟨[(1, .c (.ptr 1 0)), (4, .c (.int .i64 (((stI a c i : Nat) : Int)))), (16, .c (.own (16))), (17, .c (.int .i64 ((a.length : Int)))), (18, .c (.int .i64 ((i : Int))))], [(1, some (.box [.ro (.rows .i64 (a)), .ro (.rows .i64 (c))])), (16, some (.rows 0 25 2 .i64 (tabR a.length (strF a c))))]⟩) (fun i => i ≤ a.length ∧ brcB a c = true) (fun i => a.length - i) (fun i => fun b_ => match b_ with | 2 => some (Ann.mk ((Nat)) (fun j => ⟨[(1, .c (.ptr 1 0)), (4, .c (.int .i64 (((stJ a c i (stI a c i) j : Nat) : Int)))), (16, .c (.own (16))), (17, .c (.int .i64 ((a.length : Int)))), (18, .c (.int .i64 ((i : Int)))), (22, .c (.row 16 0 (Int.toNat (i : Int)))), (23, .c (.int .i64 ((a.length : Int)))), (24, .c (.int .i64 ((j : Int))))], [(1, some (.box [.ro (.rows .i64 (a)), .ro (.rows .i64 (c))])), (16, some (.rows 0 25 2 .i64 (tabR a.length (strF a c))))]⟩) (fun j => j ≤ a.length ∧ i < a.length) (fun j => a.length - j) (fun _ => noAnn)) | _ => none))
  | 4 => some (Ann.mk ((Nat)) (fun i => ⟨[(1, .c (.ptr 1 0)), (4, .c (.int .i64 (((stI a c a.length : Nat) : Int)))), (9, .c (.int .i64 (lstN (stI a c a.length : Nat) (odN (idB a c) (2 ^ (a.length - 1))) (1 * 2 ^ a.length - 1) i))), (40, .c (.own (40))), (41, .c (.int .i64 (((odN (idB a c) (2 ^ (a.length - 1))).length : Int)))), (42, .c (.int .i64 ((i : Int))))], [(1, some (.box [.ro (.rows .i64 (a)), .ro (.rows .i64 (c))])), (40, some (.ints 2 .i64 (odN (idB a c) (2 ^ (a.length - 1)))))]⟩) (fun i => i ≤ (odN (idB a c) (2 ^ (a.length - 1))).length) (fun i => (odN (idB a c) (2 ^ (a.length - 1))).length - i) (fun _ => noAnn))
  | _ => none
def iSI_G : List (Nat × Ctr) := [(51, ⟨[], IsBrace_ct⟩), (57, ⟨[], starTable_ct⟩), (55, ⟨[], idealsOf_ct⟩)]
def iSI_V (a : List (List Int)) (c : List (List Int)) : Prop :=
  ((((Go.Sx.roomR a) ∧
  (Go.Sx.roomR c)) ∧
  (True)) ∧
  (BrP (!Go.Sx.brcB a c)
    ((((0 : Int) = Prod.fst (Go.Sx.siC a c)) ∧
    (((1 : Int) = Prod.snd (Go.Sx.siC a c)) ∧
    (True))) ∧
    (True))
    (((Go.Sx.twoG a c) ∧
    (True)) ∧
    ((∃ x0 : Nat, (((x0 ≤ List.length a) ∧
    (Go.Sx.brcB a c = Bool.true)) ∧
    (((0 : Int) = (↑(Go.Sx.stI a c x0) : Int)) ∧
    (((↑(List.length (Go.Sx.tabR (List.length a) (Go.Sx.strF a c))) : Int) = (↑(List.length a) : Int)) ∧
    (((0 : Int) = (↑x0 : Int)) ∧
    ((a = a) ∧
    ((c = c) ∧
    (Go.Sx.tabR (List.length a) (Go.Sx.strF a c) = Go.Sx.tabR (List.length a) (Go.Sx.strF a c))))))))) ∧
    (∀ x1 : Nat, (((x1 ≤ List.length a) ∧
    (Go.Sx.brcB a c = Bool.true)) →
    (BrP (Decidable.decide ((↑x1 : Int) < (↑(List.length a) : Int)))
      ((Go.Sx.inB (↑x1 : Int) (List.length (Go.Sx.tabR (List.length a) (Go.Sx.strF a c)))) ∧
      ((∃ x2 : Nat, (((x2 ≤ List.length a) ∧
      (x1 < List.length a)) ∧
      (((↑(Go.Sx.stI a c x1) : Int) = (↑(Go.Sx.stJ a c x1 (Go.Sx.stI a c x1) x2) : Int)) ∧
      (((↑(List.length a) : Int) = (↑(List.length a) : Int)) ∧
      (((↑x1 : Int) = (↑x1 : Int)) ∧
      ((Int.toNat (↑x1 : Int) = Int.toNat (↑x1 : Int)) ∧
      (((↑(List.length (List.getD (Go.Sx.tabR (List.length a) (Go.Sx.strF a c)) (Int.toNat (↑x1 : Int)) [])) : Int) = (↑(List.length a) : Int)) ∧
      (((0 : Int) = (↑x2 : Int)) ∧
      ((a = a) ∧
      ((c = c) ∧
      (Go.Sx.tabR (List.length a) (Go.Sx.strF a c) = Go.Sx.tabR (List.length a) (Go.Sx.strF a c)))))))))))) ∧
      (∀ x3 : Nat, (((x3 ≤ List.length a) ∧
      (x1 < List.length a)) →
      (BrP (Decidable.decide ((↑x3 : Int) < (↑(List.length a) : Int)))
        ((Go.Sx.inB (↑x3 : Int) (List.length (List.getD (Go.Sx.tabR (List.length a) (Go.Sx.strF a c)) (Int.toNat (↑x1 : Int)) []))) ∧
        (((((0 : Int) ≤ List.getD (List.getD (Go.Sx.tabR (List.length a) (Go.Sx.strF a c)) (Int.toNat (↑x1 : Int)) []) (Int.toNat (↑x3 : Int)) (0 : Int)) ∧
        (List.getD (List.getD (Go.Sx.tabR (List.length a) (Go.Sx.strF a c)) (Int.toNat (↑x1 : Int)) []) (Int.toNat (↑x3 : Int)) (0 : Int) ≤ (62 : Int))) ∧
        (Go.Sx.InR ((1 : Int) * (2 : Int) ^ Int.toNat (List.getD (List.getD (Go.Sx.tabR (List.length a) (Go.Sx.strF a c)) (Int.toNat (↑x1 : Int)) []) (Int.toNat (↑x3 : Int)) (0 : Int))))) ∧
        (((Go.IntKind.i64 = Go.IntKind.i64) ∧
        ((((0 : Int) ≤ (↑(Go.Sx.stJ a c x1 (Go.Sx.stI a c x1) x3) : Int)) ∧
        ((↑(Go.Sx.stJ a c x1 (Go.Sx.stI a c x1) x3) : Int) ≤ (9223372036854775807 : Int))) ∧
        (((0 : Int) ≤ (1 : Int) * (2 : Int) ^ Int.toNat (List.getD (List.getD (Go.Sx.tabR (List.length a) (Go.Sx.strF a c)) (Int.toNat (↑x1 : Int)) []) (Int.toNat (↑x3 : Int)) (0 : Int))) ∧
        ((1 : Int) * (2 : Int) ^ Int.toNat (List.getD (List.getD (Go.Sx.tabR (List.length a) (Go.Sx.strF a c)) (Int.toNat (↑x1 : Int)) []) (Int.toNat (↑x3 : Int)) (0 : Int)) ≤ (9223372036854775807 : Int))))) ∧
        ((Go.Sx.InR ((↑x3 : Int) + (1 : Int))) ∧
        (∃ x4 : Nat, (((x4 ≤ List.length a) ∧
        (x1 < List.length a)) ∧
        ((List.length a - x4 < List.length a - x3) ∧
        (((↑(Int.toNat (↑(Go.Sx.stJ a c x1 (Go.Sx.stI a c x1) x3) : Int) ||| Int.toNat ((1 : Int) * (2 : Int) ^ Int.toNat (List.getD (List.getD (Go.Sx.tabR (List.length a) (Go.Sx.strF a c)) (Int.toNat (↑x1 : Int)) []) (Int.toNat (↑x3 : Int)) (0 : Int)))) : Int) = (↑(Go.Sx.stJ a c x1 (Go.Sx.stI a c x1) x4) : Int)) ∧
        (((↑(List.length a) : Int) = (↑(List.length a) : Int)) ∧
        (((↑x1 : Int) = (↑x1 : Int)) ∧
        ((Int.toNat (↑x1 : Int) = Int.toNat (↑x1 : Int)) ∧
        (((↑(List.length a) : Int) = (↑(List.length a) : Int)) ∧
        (((↑x3 : Int) + (1 : Int) = (↑x4 : Int)) ∧
        ((a = a) ∧
        ((c = c) ∧
        (Go.Sx.tabR (List.length a) (Go.Sx.strF a c) = Go.Sx.tabR (List.length a) (Go.Sx.strF a c)))))))))))))))))
        ((Go.Sx.InR ((↑x1 : Int) + (1 : Int))) ∧
        (∃ x5 : Nat, (((x5 ≤ List.length a) ∧
        (Go.Sx.brcB a c = Bool.true)) ∧
        ((List.length a - x5 < List.length a - x1) ∧
        (((↑(Go.Sx.stJ a c x1 (Go.Sx.stI a c x1) x3) : Int) = (↑(Go.Sx.stI a c x5) : Int)) ∧
        (((↑(List.length a) : Int) = (↑(List.length a) : Int)) ∧
        (((↑x1 : Int) + (1 : Int) = (↑x5 : Int)) ∧
        ((a = a) ∧
        ((c = c) ∧
        (Go.Sx.tabR (List.length a) (Go.Sx.strF a c) = Go.Sx.tabR (List.length a) (Go.Sx.strF a c))))))))))))))))
      (((((0 : Int) ≤ (↑(List.length a) : Int)) ∧
      ((↑(List.length a) : Int) ≤ (62 : Int))) ∧
      (Go.Sx.InR ((1 : Int) * (2 : Int) ^ Int.toNat (↑(List.length a) : Int)))) ∧
      ((Go.Sx.InR ((1 : Int) * (2 : Int) ^ Int.toNat (↑(List.length a) : Int) - (1 : Int))) ∧
      (((Go.Sx.twoG a c) ∧
      (True)) ∧
      ((∃ x6 : Nat, ((x6 ≤ List.length (Go.Sx.odN (Go.Sx.idB a c) ((2 : Nat) ^ (List.length a - (1 : Nat))))) ∧
      (((↑(Go.Sx.stI a c x1) : Int) = (↑(Go.Sx.stI a c (List.length a)) : Int)) ∧
      (((1 : Int) * (2 : Int) ^ Int.toNat (↑(List.length a) : Int) - (1 : Int) = Go.Sx.lstN (↑(Go.Sx.stI a c (List.length a)) : Int) (Go.Sx.odN (Go.Sx.idB a c) ((2 : Nat) ^ (List.length a - (1 : Nat)))) ((1 : Int) * (2 : Int) ^ List.length a - (1 : Int)) x6) ∧
      (((↑(List.length (Go.Sx.odN (Go.Sx.idB a c) ((2 : Nat) ^ (List.length a - (1 : Nat))))) : Int) = (↑(List.length (Go.Sx.odN (Go.Sx.idB a c) ((2 : Nat) ^ (List.length a - (1 : Nat))))) : Int)) ∧
      (((0 : Int) = (↑x6 : Int)) ∧
      ((a = a) ∧
      ((c = c) ∧
      (Go.Sx.odN (Go.Sx.idB a c) ((2 : Nat) ^ (List.length a - (1 : Nat))) = Go.Sx.odN (Go.Sx.idB a c) ((2 : Nat) ^ (List.length a - (1 : Nat)))))))))))) ∧
      (∀ x7 : Nat, ((x7 ≤ List.length (Go.Sx.odN (Go.Sx.idB a c) ((2 : Nat) ^ (List.length a - (1 : Nat))))) →
      (BrP (Decidable.decide ((↑x7 : Int) < (↑(List.length (Go.Sx.odN (Go.Sx.idB a c) ((2 : Nat) ^ (List.length a - (1 : Nat))))) : Int)))
        ((Go.Sx.inB (↑x7 : Int) (List.length (Go.Sx.odN (Go.Sx.idB a c) ((2 : Nat) ^ (List.length a - (1 : Nat)))))) ∧
        (((Go.IntKind.i64 = Go.IntKind.i64) ∧
        ((((0 : Int) ≤ List.getD (Go.Sx.odN (Go.Sx.idB a c) ((2 : Nat) ^ (List.length a - (1 : Nat)))) (Int.toNat (↑x7 : Int)) (0 : Int)) ∧
        (List.getD (Go.Sx.odN (Go.Sx.idB a c) ((2 : Nat) ^ (List.length a - (1 : Nat)))) (Int.toNat (↑x7 : Int)) (0 : Int) ≤ (9223372036854775807 : Int))) ∧
        (((0 : Int) ≤ (↑(Go.Sx.stI a c (List.length a)) : Int)) ∧
        ((↑(Go.Sx.stI a c (List.length a)) : Int) ≤ (9223372036854775807 : Int))))) ∧
        (BrP ((↑(Int.toNat (List.getD (Go.Sx.odN (Go.Sx.idB a c) ((2 : Nat) ^ (List.length a - (1 : Nat)))) (Int.toNat (↑x7 : Int)) (0 : Int)) &&& Int.toNat (↑(Go.Sx.stI a c (List.length a)) : Int)) : Int) == (↑(Go.Sx.stI a c (List.length a)) : Int))
          (((Go.IntKind.i64 = Go.IntKind.i64) ∧
          ((((0 : Int) ≤ Go.Sx.lstN (↑(Go.Sx.stI a c (List.length a)) : Int) (Go.Sx.odN (Go.Sx.idB a c) ((2 : Nat) ^ (List.length a - (1 : Nat)))) ((1 : Int) * (2 : Int) ^ List.length a - (1 : Int)) x7) ∧
          (Go.Sx.lstN (↑(Go.Sx.stI a c (List.length a)) : Int) (Go.Sx.odN (Go.Sx.idB a c) ((2 : Nat) ^ (List.length a - (1 : Nat)))) ((1 : Int) * (2 : Int) ^ List.length a - (1 : Int)) x7 ≤ (9223372036854775807 : Int))) ∧
          (((0 : Int) ≤ List.getD (Go.Sx.odN (Go.Sx.idB a c) ((2 : Nat) ^ (List.length a - (1 : Nat)))) (Int.toNat (↑x7 : Int)) (0 : Int)) ∧
          (List.getD (Go.Sx.odN (Go.Sx.idB a c) ((2 : Nat) ^ (List.length a - (1 : Nat)))) (Int.toNat (↑x7 : Int)) (0 : Int) ≤ (9223372036854775807 : Int))))) ∧
          ((Go.Sx.InR ((↑x7 : Int) + (1 : Int))) ∧
          (∃ x8 : Nat, ((x8 ≤ List.length (Go.Sx.odN (Go.Sx.idB a c) ((2 : Nat) ^ (List.length a - (1 : Nat))))) ∧
          ((List.length (Go.Sx.odN (Go.Sx.idB a c) ((2 : Nat) ^ (List.length a - (1 : Nat)))) - x8 < List.length (Go.Sx.odN (Go.Sx.idB a c) ((2 : Nat) ^ (List.length a - (1 : Nat)))) - x7) ∧
          (((↑(Go.Sx.stI a c (List.length a)) : Int) = (↑(Go.Sx.stI a c (List.length a)) : Int)) ∧
          (((↑(Int.toNat (Go.Sx.lstN (↑(Go.Sx.stI a c (List.length a)) : Int) (Go.Sx.odN (Go.Sx.idB a c) ((2 : Nat) ^ (List.length a - (1 : Nat)))) ((1 : Int) * (2 : Int) ^ List.length a - (1 : Int)) x7) &&& Int.toNat (List.getD (Go.Sx.odN (Go.Sx.idB a c) ((2 : Nat) ^ (List.length a - (1 : Nat)))) (Int.toNat (↑x7 : Int)) (0 : Int))) : Int) = Go.Sx.lstN (↑(Go.Sx.stI a c (List.length a)) : Int) (Go.Sx.odN (Go.Sx.idB a c) ((2 : Nat) ^ (List.length a - (1 : Nat)))) ((1 : Int) * (2 : Int) ^ List.length a - (1 : Int)) x8) ∧
          (((↑(List.length (Go.Sx.odN (Go.Sx.idB a c) ((2 : Nat) ^ (List.length a - (1 : Nat))))) : Int) = (↑(List.length (Go.Sx.odN (Go.Sx.idB a c) ((2 : Nat) ^ (List.length a - (1 : Nat))))) : Int)) ∧
          (((↑x7 : Int) + (1 : Int) = (↑x8 : Int)) ∧
          ((a = a) ∧
          ((c = c) ∧
          (Go.Sx.odN (Go.Sx.idB a c) ((2 : Nat) ^ (List.length a - (1 : Nat))) = Go.Sx.odN (Go.Sx.idB a c) ((2 : Nat) ^ (List.length a - (1 : Nat)))))))))))))))
          ((Go.Sx.InR ((↑x7 : Int) + (1 : Int))) ∧
          (∃ x9 : Nat, ((x9 ≤ List.length (Go.Sx.odN (Go.Sx.idB a c) ((2 : Nat) ^ (List.length a - (1 : Nat))))) ∧
          ((List.length (Go.Sx.odN (Go.Sx.idB a c) ((2 : Nat) ^ (List.length a - (1 : Nat)))) - x9 < List.length (Go.Sx.odN (Go.Sx.idB a c) ((2 : Nat) ^ (List.length a - (1 : Nat)))) - x7) ∧
          (((↑(Go.Sx.stI a c (List.length a)) : Int) = (↑(Go.Sx.stI a c (List.length a)) : Int)) ∧
          ((Go.Sx.lstN (↑(Go.Sx.stI a c (List.length a)) : Int) (Go.Sx.odN (Go.Sx.idB a c) ((2 : Nat) ^ (List.length a - (1 : Nat)))) ((1 : Int) * (2 : Int) ^ List.length a - (1 : Int)) x7 = Go.Sx.lstN (↑(Go.Sx.stI a c (List.length a)) : Int) (Go.Sx.odN (Go.Sx.idB a c) ((2 : Nat) ^ (List.length a - (1 : Nat)))) ((1 : Int) * (2 : Int) ^ List.length a - (1 : Int)) x9) ∧
          (((↑(List.length (Go.Sx.odN (Go.Sx.idB a c) ((2 : Nat) ^ (List.length a - (1 : Nat))))) : Int) = (↑(List.length (Go.Sx.odN (Go.Sx.idB a c) ((2 : Nat) ^ (List.length a - (1 : Nat))))) : Int)) ∧
          (((↑x7 : Int) + (1 : Int) = (↑x9 : Int)) ∧
          ((a = a) ∧
          ((c = c) ∧
          (Go.Sx.odN (Go.Sx.idB a c) ((2 : Nat) ^ (List.length a - (1 : Nat))) = Go.Sx.odN (Go.Sx.idB a c) ((2 : Nat) ^ (List.length a - (1 : Nat)))))))))))))))))
        (((Go.Sx.lstN (↑(Go.Sx.stI a c (List.length a)) : Int) (Go.Sx.odN (Go.Sx.idB a c) ((2 : Nat) ^ (List.length a - (1 : Nat)))) ((1 : Int) * (2 : Int) ^ List.length a - (1 : Int)) x7 = Prod.fst (Go.Sx.siC a c)) ∧
        (((0 : Int) = Prod.snd (Go.Sx.siC a c)) ∧
        (True))) ∧
        (True))))))))))))))))
theorem iSI_vc (a : List (List Int)) (c : List (List Int)) : runF Try.prog (gam iSI_G) noWr (iSI_ann a c) Try.f30 (bodyOf Try.f30) [] [.agg [.rows .i64 (a), .rows .i64 (c)]] (iSI_p a c) = iSI_V a c := by kernel_rfl
theorem iSI_ok (a : List (List Int)) (c : List (List Int)) (hpre : (iSI_p a c).pre) : iSI_V a c := by
  simp only [iSI_p, iSI_V, BrP_iff, true_and, and_true, decide_eq_true_eq, decide_eq_false_iff_not, bne_iff_ne, beq_iff_eq, bne_eq_false_iff_eq, beq_eq_false_iff_ne, Bool.not_eq_true, Bool.not_eq_false, Bool.not_true, Bool.not_false, Bool.not_eq_eq_eq_not, Int.toNat_natCast, List.length_append, List.length_take, List.length_replicate, List.length_set, List.length_map, List.length_drop, List.length_nil, List.length_cons, markL_length, inB, InR, room, bdsOk] at hpre ⊢
  refine ⟨hpre, fun h => by simp [siC, h], fun h => ?_⟩
  have hg : twoG a c := ⟨(brcB_of h).1, (brcB_of h).2.1, (brcB_of h).2.2.1⟩
  obtain ⟨n1, n2, hl, ha, hc, hb⟩ := twoG_in hg
  have hT := tabR_length a.length (strF a c)
  have p12 := pow_12 n2
  have pn : (1 * (2 : Int) ^ a.length) = ((2 ^ a.length : Nat) : Int) := one_pow a.length
  have pp := Nat.two_pow_pos a.length
  have q2 := pow_half_le (n := a.length) (by omega)
  have ol := odN_len (idB a c) (2 ^ (a.length - 1))
  have sl := stI_lt hg a.length (Nat.le_refl _)
  have yes := siC_yes h
  have er : ∀ i, i < a.length → (tabR a.length (strF a c)).getD i [] = tab a.length (strF a c i) := fun i hi => tabR_getD _ _ _ hi
  refine ⟨hg, ⟨0, ⟨by omega, h⟩, rfl, by omega, rfl⟩, fun i ⟨hi, _⟩ => ⟨fun h3 => ?_, fun h3 => ?_⟩⟩
  · rw [er i (by omega), tab_length]
    refine ⟨by omega, ⟨0, by omega, rfl, rfl, rfl⟩, fun j ⟨hj, _⟩ => ⟨fun h4 => ?_, fun h4 => ?_⟩⟩
    · rw [tab_getD _ _ _ (by omega)]
      have v := str_in hg (x := i) (y := j) (by omega) (by omega)
      have t2 := two_lt v
      have t3 := Int.natCast_nonneg (2 ^ (strF a c i j).toNat)
      have sj := stJ_lt hg (x := i) (by omega) (stI_lt hg i (by omega)) j (by omega)
      rw [one_pow, Int.toNat_natCast]
      exact ⟨by omega, ⟨by omega, by omega, by omega⟩, ⟨by omega, by omega, by omega⟩, by omega, j + 1, by omega, by omega, rfl, by omega⟩
    · refine ⟨by omega, i + 1, ⟨by omega, h⟩, by omega, ?_, by omega⟩
      rw [show j = a.length by omega]; rfl
  · have ei : i = a.length := by omega
    rw [ei]
    refine ⟨⟨by omega, by rw [pn]; omega⟩, by rw [pn]; omega, hg, ⟨0, by omega, rfl, by simp only [lstN], rfl⟩, fun k hk => ⟨fun h5 => ?_, fun h5 => ?_⟩⟩
    · obtain ⟨j, hj, ej⟩ := odN_mem (getD_mem (odN (idB a c) (2 ^ (a.length - 1))) 0 k (by omega))
      have iv := lstN_in (st := (stI a c a.length : Nat)) (l := odN (idB a c) (2 ^ (a.length - 1))) (m0 := 1 * 2 ^ a.length - 1) (M := 4096) (by rw [pn]; omega) k
      refine ⟨by omega, ⟨by omega, by omega⟩, fun h6 => ⟨⟨by omega, by omega⟩, by omega, k + 1, by omega, by omega, lst_yes h6, by omega⟩, fun h6 => ⟨by omega, k + 1, by omega, by omega, lst_no h6, by omega⟩⟩
    · rw [show k = (odN (idB a c) (2 ^ (a.length - 1))).length by omega]
      exact yes
theorem iSI_fits : Fits Try.prog 30 ⟨[], iSI_ct⟩ := by
  refine fits_fn (Γ := gam iSI_G) (gok_cons IsBrace_fits (gok_cons starTable_fits (gok_cons idealsOf_fits gok_nil))) Try.func30 (by kernel_rfl) (by kernel_rfl) (by kernel_rfl) fun ds p h hp => ?_
  unfold iSI_ct at h
  split at h
  · cases h
    exact ⟨noWr, iSI_ann _ _ , by rw [iSI_vc]; exact iSI_ok _ _  hp⟩
  · cases h

def sSI_p (a : List (List Int)) (c : List (List Int)) : Post := ⟨roomR a ∧ roomR c, .tup [.inl (.int .i64 ((siC a c).1)), .inl (.int .i64 ((siC a c).2))], []⟩
def sSI_ct : List AD → Option Post
  | [.agg [.rows .i64 (a), .rows .i64 (c)]] => some (sSI_p a c)
  | _ => none
def sSI_ann (a : List (List Int)) (c : List (List Int)) : Nat → Option Ann
  | 0 => some (Ann.mk ((Nat)) (fun i => ⟨[(1, .c (.ptr 1 0)), (4, .c (.int .i64 (((stI a c i : Nat) : Int)))), (5, .c (.int .i64 ((i : Int))))], [(1, some (.box [.ro (.rows .i64 (a)), .ro (.rows .i64 (c))]))]⟩) (fun i => i ≤ a.length ∧ brcB a c = true) (fun i => a.length - i) (fun i => fun b_ => match b_ with | 2 => some (Ann.mk ((Nat)) (fun j => ⟨[(1, .c (.ptr 1 0)), (4, .c (.int .i64 (((stJ a c i (stI a c i) j : Nat) : Int)))), (5, .c (.int .i64 ((i : Int)))), (6, .c (.int .i64 ((j : Int))))], [(1, some (.box [.ro (.rows .i64 (a)), .ro (.rows .i64 (c))]))]⟩) (fun j => j ≤ a.length ∧ i < a.length) (fun j => a.length - j) (fun _ => noAnn)) | _ => none))
  | 4 => some (Ann.mk ((Nat)) (fun i => ⟨[(1, .c (.ptr 1 0)), (4, .c (.int .i64 (((stI a c a.length : Nat) : Int)))), (8, .c (.int .i64 (lstN (stI a c a.length : Nat) (odN (idB a c) (2 ^ (a.length - 1))) (1 * 2 ^ a.length - 1) i))), (7, .c (.own (36))), (9, .c (.int .i64 ((i : Int))))], [(1, some (.box [.ro (.rows .i64 (a)), .ro (.rows .i64 (c))])), (36, some (.ints 2 .i64 (odN (idB a c) (2 ^ (a.length - 1)))))]⟩) (fun i => i ≤ (odN (idB a c) (2 ^ (a.length - 1))).length) (fun i => (odN (idB a c) (2 ^ (a.length - 1))).length - i) (fun _ => noAnn))
  | _ => none
def sSI_G : List (Nat × Ctr) := [(48, ⟨[], l11Is_ct⟩), (56, ⟨[], l11Star_ct⟩), (54, ⟨[], l12Ideals_ct⟩)]
def sSI_V (a : List (List Int)) (c : List (List Int)) : Prop :=
  ((((Go.Sx.roomR a) ∧
  (Go.Sx.roomR c)) ∧
  (True)) ∧
  (BrP (!Go.Sx.brcB a c)
    ((((0 : Int) = Prod.fst (Go.Sx.siC a c)) ∧
    (((1 : Int) = Prod.snd (Go.Sx.siC a c)) ∧
    (True))) ∧
    (True))
    ((∃ x0 : Nat, (((x0 ≤ List.length a) ∧
    (Go.Sx.brcB a c = Bool.true)) ∧
    (((0 : Int) = (↑(Go.Sx.stI a c x0) : Int)) ∧
    (((0 : Int) = (↑x0 : Int)) ∧
    ((a = a) ∧
    (c = c)))))) ∧
    (∀ x1 : Nat, (((x1 ≤ List.length a) ∧
    (Go.Sx.brcB a c = Bool.true)) →
    (BrP (Decidable.decide ((↑x1 : Int) < (↑(List.length a) : Int)))
      ((∃ x2 : Nat, (((x2 ≤ List.length a) ∧
      (x1 < List.length a)) ∧
      (((↑(Go.Sx.stI a c x1) : Int) = (↑(Go.Sx.stJ a c x1 (Go.Sx.stI a c x1) x2) : Int)) ∧
      (((↑x1 : Int) = (↑x1 : Int)) ∧
      (((0 : Int) = (↑x2 : Int)) ∧
      ((a = a) ∧
      (c = c))))))) ∧
      (∀ x3 : Nat, (((x3 ≤ List.length a) ∧
      (x1 < List.length a)) →
      (BrP (Decidable.decide ((↑x3 : Int) < (↑(List.length a) : Int)))
        ((((Go.Sx.twoG a c) ∧
        (((0 : Int) ≤ (↑x1 : Int)) ∧
        (((↑x1 : Int) < (↑(List.length a) : Int)) ∧
        (((0 : Int) ≤ (↑x3 : Int)) ∧
        ((↑x3 : Int) < (↑(List.length a) : Int)))))) ∧
        (True)) ∧
        (((((0 : Int) ≤ Go.IntKind.wrap Go.IntKind.u64 (Go.Sx.strF a c (Int.toNat (↑x1 : Int)) (Int.toNat (↑x3 : Int)))) ∧
        (Go.IntKind.wrap Go.IntKind.u64 (Go.Sx.strF a c (Int.toNat (↑x1 : Int)) (Int.toNat (↑x3 : Int))) ≤ (62 : Int))) ∧
        (Go.Sx.InR ((1 : Int) * (2 : Int) ^ Int.toNat (Go.IntKind.wrap Go.IntKind.u64 (Go.Sx.strF a c (Int.toNat (↑x1 : Int)) (Int.toNat (↑x3 : Int))))))) ∧
        (((Go.IntKind.i64 = Go.IntKind.i64) ∧
        ((((0 : Int) ≤ (↑(Go.Sx.stJ a c x1 (Go.Sx.stI a c x1) x3) : Int)) ∧
        ((↑(Go.Sx.stJ a c x1 (Go.Sx.stI a c x1) x3) : Int) ≤ (9223372036854775807 : Int))) ∧
        (((0 : Int) ≤ (1 : Int) * (2 : Int) ^ Int.toNat (Go.IntKind.wrap Go.IntKind.u64 (Go.Sx.strF a c (Int.toNat (↑x1 : Int)) (Int.toNat (↑x3 : Int))))) ∧
        ((1 : Int) * (2 : Int) ^ Int.toNat (Go.IntKind.wrap Go.IntKind.u64 (Go.Sx.strF a c (Int.toNat (↑x1 : Int)) (Int.toNat (↑x3 : Int)))) ≤ (9223372036854775807 : Int))))) ∧
        ((Go.Sx.InR ((↑x3 : Int) + (1 : Int))) ∧
        (∃ x4 : Nat, (((x4 ≤ List.length a) ∧
        (x1 < List.length a)) ∧
        ((List.length a - x4 < List.length a - x3) ∧
        (((↑(Int.toNat (↑(Go.Sx.stJ a c x1 (Go.Sx.stI a c x1) x3) : Int) ||| Int.toNat ((1 : Int) * (2 : Int) ^ Int.toNat (Go.IntKind.wrap Go.IntKind.u64 (Go.Sx.strF a c (Int.toNat (↑x1 : Int)) (Int.toNat (↑x3 : Int)))))) : Int) = (↑(Go.Sx.stJ a c x1 (Go.Sx.stI a c x1) x4) : Int)) ∧
        (((↑x1 : Int) = (↑x1 : Int)) ∧
        (((↑x3 : Int) + (1 : Int) = (↑x4 : Int)) ∧
        ((a = a) ∧
        (c = c))))))))))))
        ((Go.Sx.InR ((↑x1 : Int) + (1 : Int))) ∧
        (∃ x5 : Nat, (((x5 ≤ List.length a) ∧
        (Go.Sx.brcB a c = Bool.true)) ∧
        ((List.length a - x5 < List.length a - x1) ∧
        (((↑(Go.Sx.stJ a c x1 (Go.Sx.stI a c x1) x3) : Int) = (↑(Go.Sx.stI a c x5) : Int)) ∧
        (((↑x1 : Int) + (1 : Int) = (↑x5 : Int)) ∧
        ((a = a) ∧
        (c = c))))))))))))
      (((Go.Sx.twoG a c) ∧
      (True)) ∧
      (((((0 : Int) ≤ Go.IntKind.wrap Go.IntKind.u64 (↑(List.length a) : Int)) ∧
      (Go.IntKind.wrap Go.IntKind.u64 (↑(List.length a) : Int) ≤ (62 : Int))) ∧
      (Go.Sx.InR ((1 : Int) * (2 : Int) ^ Int.toNat (Go.IntKind.wrap Go.IntKind.u64 (↑(List.length a) : Int))))) ∧
      ((Go.Sx.InR ((1 : Int) * (2 : Int) ^ Int.toNat (Go.IntKind.wrap Go.IntKind.u64 (↑(List.length a) : Int)) - (1 : Int))) ∧
      ((∃ x6 : Nat, ((x6 ≤ List.length (Go.Sx.odN (Go.Sx.idB a c) ((2 : Nat) ^ (List.length a - (1 : Nat))))) ∧
      (((↑(Go.Sx.stI a c x1) : Int) = (↑(Go.Sx.stI a c (List.length a)) : Int)) ∧
      (((1 : Int) * (2 : Int) ^ Int.toNat (Go.IntKind.wrap Go.IntKind.u64 (↑(List.length a) : Int)) - (1 : Int) = Go.Sx.lstN (↑(Go.Sx.stI a c (List.length a)) : Int) (Go.Sx.odN (Go.Sx.idB a c) ((2 : Nat) ^ (List.length a - (1 : Nat)))) ((1 : Int) * (2 : Int) ^ List.length a - (1 : Int)) x6) ∧
      (((0 : Int) = (↑x6 : Int)) ∧
      ((a = a) ∧
      ((c = c) ∧
      (Go.Sx.odN (Go.Sx.idB a c) ((2 : Nat) ^ (List.length a - (1 : Nat))) = Go.Sx.odN (Go.Sx.idB a c) ((2 : Nat) ^ (List.length a - (1 : Nat))))))))))) ∧
      (∀ x7 : Nat, ((x7 ≤ List.length (Go.Sx.odN (Go.Sx.idB a c) ((2 : Nat) ^ (List.length a - (1 : Nat))))) →
      (BrP (Decidable.decide ((↑x7 : Int) < (↑(List.length (Go.Sx.odN (Go.Sx.idB a c) ((2 : Nat) ^ (List.length a - (1 : Nat))))) : Int)))
        ((Go.Sx.inB (↑x7 : Int) (List.length (Go.Sx.odN (Go.Sx.idB a c) ((2 : Nat) ^ (List.length a - (1 : Nat)))))) ∧
        (((Go.IntKind.i64 = Go.IntKind.i64) ∧
        ((((0 : Int) ≤ List.getD (Go.Sx.odN (Go.Sx.idB a c) ((2 : Nat) ^ (List.length a - (1 : Nat)))) (Int.toNat (↑x7 : Int)) (0 : Int)) ∧
        (List.getD (Go.Sx.odN (Go.Sx.idB a c) ((2 : Nat) ^ (List.length a - (1 : Nat)))) (Int.toNat (↑x7 : Int)) (0 : Int) ≤ (9223372036854775807 : Int))) ∧
        (((0 : Int) ≤ (↑(Go.Sx.stI a c (List.length a)) : Int)) ∧
        ((↑(Go.Sx.stI a c (List.length a)) : Int) ≤ (9223372036854775807 : Int))))) ∧
        (BrP ((↑(Int.toNat (List.getD (Go.Sx.odN (Go.Sx.idB a c) ((2 : Nat) ^ (List.length a - (1 : Nat)))) (Int.toNat (↑x7 : Int)) (0 : Int)) &&& Int.toNat (↑(Go.Sx.stI a c (List.length a)) : Int)) : Int) == (↑(Go.Sx.stI a c (List.length a)) : Int))
          ((Go.Sx.inB (↑x7 : Int) (List.length (Go.Sx.odN (Go.Sx.idB a c) ((2 : Nat) ^ (List.length a - (1 : Nat)))))) ∧
          (((Go.IntKind.i64 = Go.IntKind.i64) ∧
          ((((0 : Int) ≤ Go.Sx.lstN (↑(Go.Sx.stI a c (List.length a)) : Int) (Go.Sx.odN (Go.Sx.idB a c) ((2 : Nat) ^ (List.length a - (1 : Nat)))) ((1 : Int) * (2 : Int) ^ List.length a - (1 : Int)) x7) ∧
          (Go.Sx.lstN (↑(Go.Sx.stI a c (List.length a)) : Int) (Go.Sx.odN (Go.Sx.idB a c) ((2 : Nat) ^ (List.length a - (1 : Nat)))) ((1 : Int) * (2 : Int) ^ List.length a - (1 : Int)) x7 ≤ (9223372036854775807 : Int))) ∧
          (((0 : Int) ≤ List.getD (Go.Sx.odN (Go.Sx.idB a c) ((2 : Nat) ^ (List.length a - (1 : Nat)))) (Int.toNat (↑x7 : Int)) (0 : Int)) ∧
          (List.getD (Go.Sx.odN (Go.Sx.idB a c) ((2 : Nat) ^ (List.length a - (1 : Nat)))) (Int.toNat (↑x7 : Int)) (0 : Int) ≤ (9223372036854775807 : Int))))) ∧
          ((Go.Sx.InR ((↑x7 : Int) + (1 : Int))) ∧
          (∃ x8 : Nat, ((x8 ≤ List.length (Go.Sx.odN (Go.Sx.idB a c) ((2 : Nat) ^ (List.length a - (1 : Nat))))) ∧
          ((List.length (Go.Sx.odN (Go.Sx.idB a c) ((2 : Nat) ^ (List.length a - (1 : Nat)))) - x8 < List.length (Go.Sx.odN (Go.Sx.idB a c) ((2 : Nat) ^ (List.length a - (1 : Nat)))) - x7) ∧
          (((↑(Go.Sx.stI a c (List.length a)) : Int) = (↑(Go.Sx.stI a c (List.length a)) : Int)) ∧
          (((↑(Int.toNat (Go.Sx.lstN (↑(Go.Sx.stI a c (List.length a)) : Int) (Go.Sx.odN (Go.Sx.idB a c) ((2 : Nat) ^ (List.length a - (1 : Nat)))) ((1 : Int) * (2 : Int) ^ List.length a - (1 : Int)) x7) &&& Int.toNat (List.getD (Go.Sx.odN (Go.Sx.idB a c) ((2 : Nat) ^ (List.length a - (1 : Nat)))) (Int.toNat (↑x7 : Int)) (0 : Int))) : Int) = Go.Sx.lstN (↑(Go.Sx.stI a c (List.length a)) : Int) (Go.Sx.odN (Go.Sx.idB a c) ((2 : Nat) ^ (List.length a - (1 : Nat)))) ((1 : Int) * (2 : Int) ^ List.length a - (1 : Int)) x8) ∧
          (((↑x7 : Int) + (1 : Int) = (↑x8 : Int)) ∧
          ((a = a) ∧
          ((c = c) ∧
          (Go.Sx.odN (Go.Sx.idB a c) ((2 : Nat) ^ (List.length a - (1 : Nat))) = Go.Sx.odN (Go.Sx.idB a c) ((2 : Nat) ^ (List.length a - (1 : Nat)))))))))))))))
          ((Go.Sx.InR ((↑x7 : Int) + (1 : Int))) ∧
          (∃ x9 : Nat, ((x9 ≤ List.length (Go.Sx.odN (Go.Sx.idB a c) ((2 : Nat) ^ (List.length a - (1 : Nat))))) ∧
          ((List.length (Go.Sx.odN (Go.Sx.idB a c) ((2 : Nat) ^ (List.length a - (1 : Nat)))) - x9 < List.length (Go.Sx.odN (Go.Sx.idB a c) ((2 : Nat) ^ (List.length a - (1 : Nat)))) - x7) ∧
          (((↑(Go.Sx.stI a c (List.length a)) : Int) = (↑(Go.Sx.stI a c (List.length a)) : Int)) ∧
          ((Go.Sx.lstN (↑(Go.Sx.stI a c (List.length a)) : Int) (Go.Sx.odN (Go.Sx.idB a c) ((2 : Nat) ^ (List.length a - (1 : Nat)))) ((1 : Int) * (2 : Int) ^ List.length a - (1 : Int)) x7 = Go.Sx.lstN (↑(Go.Sx.stI a c (List.length a)) : Int) (Go.Sx.odN (Go.Sx.idB a c) ((2 : Nat) ^ (List.length a - (1 : Nat)))) ((1 : Int) * (2 : Int) ^ List.length a - (1 : Int)) x9) ∧
          (((↑x7 : Int) + (1 : Int) = (↑x9 : Int)) ∧
          ((a = a) ∧
          ((c = c) ∧
          (Go.Sx.odN (Go.Sx.idB a c) ((2 : Nat) ^ (List.length a - (1 : Nat))) = Go.Sx.odN (Go.Sx.idB a c) ((2 : Nat) ^ (List.length a - (1 : Nat))))))))))))))))
        (((Go.Sx.lstN (↑(Go.Sx.stI a c (List.length a)) : Int) (Go.Sx.odN (Go.Sx.idB a c) ((2 : Nat) ^ (List.length a - (1 : Nat)))) ((1 : Int) * (2 : Int) ^ List.length a - (1 : Int)) x7 = Prod.fst (Go.Sx.siC a c)) ∧
        (((0 : Int) = Prod.snd (Go.Sx.siC a c)) ∧
        (True))) ∧
        (True)))))))))))))))
theorem sSI_vc (a : List (List Int)) (c : List (List Int)) : runF Try.prog (gam sSI_G) noWr (sSI_ann a c) Try.f29 (bodyOf Try.f29) [] [.agg [.rows .i64 (a), .rows .i64 (c)]] (sSI_p a c) = sSI_V a c := by kernel_rfl
theorem sSI_ok (a : List (List Int)) (c : List (List Int)) (hpre : (sSI_p a c).pre) : sSI_V a c := by
  simp only [sSI_p, sSI_V, BrP_iff, true_and, and_true, decide_eq_true_eq, decide_eq_false_iff_not, bne_iff_ne, beq_iff_eq, bne_eq_false_iff_eq, beq_eq_false_iff_ne, Bool.not_eq_true, Bool.not_eq_false, Bool.not_true, Bool.not_false, Bool.not_eq_eq_eq_not, Int.toNat_natCast, List.length_append, List.length_take, List.length_replicate, List.length_set, List.length_map, List.length_drop, List.length_nil, List.length_cons, markL_length, inB, InR, room, bdsOk] at hpre ⊢
  refine ⟨hpre, fun h => by simp [siC, h], fun h => ?_⟩
  have hg : twoG a c := ⟨(brcB_of h).1, (brcB_of h).2.1, (brcB_of h).2.2.1⟩
  obtain ⟨n1, n2, hl, ha, hc, hb⟩ := twoG_in hg
  have hT := tabR_length a.length (strF a c)
  have p12 := pow_12 n2
  have pn : (1 * (2 : Int) ^ a.length) = ((2 ^ a.length : Nat) : Int) := one_pow a.length
  have pp := Nat.two_pow_pos a.length
  have q2 := pow_half_le (n := a.length) (by omega)
  have ol := odN_len (idB a c) (2 ^ (a.length - 1))
  have sl := stI_lt hg a.length (Nat.le_refl _)
  have yes := siC_yes h
  have wn : IntKind.u64.wrap (a.length : Int) = (a.length : Int) := wu64 (by omega)
  rw [wn, Int.toNat_natCast]
  refine ⟨⟨0, ⟨by omega, h⟩, rfl, rfl⟩, fun i ⟨hi, _⟩ => ⟨fun h3 => ?_, fun h3 => ?_⟩⟩
  · refine ⟨⟨0, by omega, rfl, rfl⟩, fun j ⟨hj, _⟩ => ⟨fun h4 => ?_, fun h4 => ?_⟩⟩
    · have v := str_in hg (x := i) (y := j) (by omega) (by omega)
      have t2 := two_lt v
      have t3 := Int.natCast_nonneg (2 ^ (strF a c i j).toNat)
      have sj := stJ_lt hg (x := i) (by omega) (stI_lt hg i (by omega)) j (by omega)
      rw [wu64 (show 0 ≤ strF a c i j ∧ strF a c i j ≤ 9223372036854775807 by omega), one_pow, Int.toNat_natCast]
      exact ⟨⟨hg, by omega, by omega, by omega, by omega⟩, ⟨by omega, by omega, by omega⟩, ⟨by omega, by omega, by omega⟩, by omega, j + 1, by omega, by omega, rfl, by omega⟩
    · refine ⟨by omega, i + 1, ⟨by omega, h⟩, by omega, ?_, by omega⟩
      rw [show j = a.length by omega]; rfl
  · have ei : i = a.length := by omega
    rw [ei]
    refine ⟨hg, ⟨by omega, by rw [pn]; omega⟩, by rw [pn]; omega, ⟨0, by omega, rfl, by simp only [lstN], rfl⟩, fun k hk => ⟨fun h5 => ?_, fun h5 => ?_⟩⟩
    · obtain ⟨j, hj, ej⟩ := odN_mem (getD_mem (odN (idB a c) (2 ^ (a.length - 1))) 0 k (by omega))
      have iv := lstN_in (st := (stI a c a.length : Nat)) (l := odN (idB a c) (2 ^ (a.length - 1))) (m0 := 1 * 2 ^ a.length - 1) (M := 4096) (by rw [pn]; omega) k
      refine ⟨by omega, ⟨by omega, by omega⟩, fun h6 => ⟨by omega, ⟨by omega, by omega⟩, by omega, k + 1, by omega, by omega, lst_yes h6, by omega⟩, fun h6 => ⟨by omega, k + 1, by omega, by omega, lst_no h6, by omega⟩⟩
    · rw [show k = (odN (idB a c) (2 ^ (a.length - 1))).length by omega]
      exact yes
theorem sSI_fits : Fits Try.prog 29 ⟨[], sSI_ct⟩ := by
  refine fits_fn (Γ := gam sSI_G) (gok_cons l11Is_fits (gok_cons l11Star_fits (gok_cons l12Ideals_fits gok_nil))) Try.func29 (by kernel_rfl) (by kernel_rfl) (by kernel_rfl) fun ds p h hp => ?_
  unfold sSI_ct at h
  split at h
  · cases h
    exact ⟨noWr, sSI_ann _ _ , by rw [sSI_vc]; exact sSI_ok _ _  hp⟩
  · cases h

def lSI_p (a : List (List Int)) (c : List (List Int)) : Post := ⟨((a.length : Int) ≤ 9223372036854775807 ∧ (∀ r ∈ a, (r.length : Int) ≤ 9223372036854775807)) ∧ ((c.length : Int) ≤ 9223372036854775807 ∧ (∀ r ∈ c, (r.length : Int) ≤ 9223372036854775807)), .c (.bool (true)), []⟩
def lSI_ct : List AD → Option Post
  | [.agg [.rows .i64 (a), .rows .i64 (c)]] => some (lSI_p a c)
  | _ => none
def lSI_G : List (Nat × Ctr) := [(21, ⟨[], szBrace_ct⟩), (23, ⟨[], toBrace_ct⟩), (25, ⟨[], eqBrace_ct⟩), (29, ⟨[], sSI_ct⟩), (30, ⟨[], iSI_ct⟩)]
def lSI_V (a : List (List Int)) (c : List (List Int)) : Prop :=
  ((((((↑(List.length a) : Int) ≤ (9223372036854775807 : Int)) ∧
  (∀ (r : List Int), r ∈ a → (↑(List.length r) : Int) ≤ (9223372036854775807 : Int))) ∧
  ((((↑(List.length c) : Int) ≤ (9223372036854775807 : Int)) ∧
  (∀ (r : List Int), r ∈ c → (↑(List.length r) : Int) ≤ (9223372036854775807 : Int))) ∧
  (((0 : Int) ≤ (1048576 : Int)) ∧
  ((1048576 : Int) ≤ (1099511627776 : Int))))) ∧
  (True)) ∧
  (BrP (Decidable.decide (Go.Sx.szB a c (1048576 : Int) < (0 : Int)))
    ((Bool.true = Bool.true) ∧
    (True))
    ((((Go.Sx.roomR a) ∧
    (Go.Sx.roomR c)) ∧
    (True)) ∧
    ((((Go.Sx.roomR a) ∧
    (Go.Sx.roomR c)) ∧
    (True)) ∧
    ((((Go.Sx.roomR a) ∧
    (Go.Sx.roomR c)) ∧
    (True)) ∧
    ((((Go.Sx.roomR a) ∧
    (Go.Sx.roomR c)) ∧
    (True)) ∧
    (BrP (Prod.fst (Go.Sx.siC a c) != Prod.fst (Go.Sx.siC a c))
      ((Bool.false = Bool.true) ∧
      (True))
      (BrP (Prod.snd (Go.Sx.siC a c) != Prod.snd (Go.Sx.siC a c))
        ((Bool.false = Bool.true) ∧
        (True))
        ((((Go.Sx.roomR a) ∧
        (Go.Sx.roomR c)) ∧
        (True)) ∧
        ((((Go.Sx.roomR a) ∧
        (Go.Sx.roomR c)) ∧
        (True)) ∧
        (BrP (!Decidable.decide (a = a ∧ c = c))
          ((Bool.false = Bool.true) ∧
          (True))
          ((Bool.true = Bool.true) ∧
          (True)))))))))))))
theorem lSI_vc (a : List (List Int)) (c : List (List Int)) : runF Try.prog (gam lSI_G) noWr noAnn Try.f7 (bodyOf Try.f7) [] [.agg [.rows .i64 (a), .rows .i64 (c)]] (lSI_p a c) = lSI_V a c := by kernel_rfl
theorem lSI_ok (a : List (List Int)) (c : List (List Int)) (hpre : (lSI_p a c).pre) : lSI_V a c := by
  simp only [lSI_p, lSI_V, BrP_iff, true_and, and_true, decide_eq_true_eq, decide_eq_false_iff_not, bne_iff_ne, beq_iff_eq, bne_eq_false_iff_eq, beq_eq_false_iff_ne, Bool.not_eq_true, Bool.not_eq_false, Bool.not_true, Bool.not_false, Bool.not_eq_eq_eq_not, Int.toNat_natCast, List.length_append, List.length_take, List.length_replicate, List.length_set, List.length_map, List.length_drop, List.length_nil, List.length_cons, markL_length, inB, InR, room, bdsOk] at hpre ⊢
  obtain ⟨⟨a1, a2⟩, b1, b2⟩ := hpre
  refine ⟨⟨⟨a1, a2⟩, ⟨b1, b2⟩, by omega, by omega⟩, fun _ => trivial, fun h => ?_⟩
  obtain ⟨e1, e2, e3, d1, d2, d3⟩ := szB_of h
  simp [e3, d3]
theorem lSI_fits : Fits Try.prog 7 ⟨[], lSI_ct⟩ := by
  refine fits_fn (Γ := gam lSI_G) (gok_cons szBrace_fits (gok_cons toBrace_fits (gok_cons eqBrace_fits (gok_cons sSI_fits (gok_cons iSI_fits gok_nil))))) Try.func7 (by kernel_rfl) (by kernel_rfl) (by kernel_rfl) fun ds p h hp => ?_
  unfold lSI_ct at h
  split at h
  · cases h
    exact ⟨noWr, noAnn, by rw [lSI_vc]; exact lSI_ok _ _  hp⟩
  · cases h

end Go.Sx

