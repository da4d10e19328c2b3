/- Contracts on the way of BraidText. -/
import Derived.Test.YtldbhkpeppgneaaPerm
open Go Go.Proofs
namespace Go.Sx
set_option linter.unusedSimpArgs false
set_option linter.unusedVariables false

/-- A letter's sign. -/
def chI (x : Int) : Int := if 0 < x then 96 + x else 64 - x

def txN (s : Int) (w : List Int) (i : Nat) : List Int := (48 + s) :: 58 :: (w.take i).map chI

theorem txN_len (s : Int) (w : List Int) (i : Nat) : (txN s w i).length ≤ i + 2 := by
  simp only [txN, List.length_cons, List.length_map, List.length_take]
  omega

theorem txN_snoc (s : Int) (w : List Int) (i : Nat) (h : i < w.length) : txN s w (i + 1) = txN s w i ++ [chI (w.getD i 0)] := by
  simp only [txN]
  rw [← take_snoc w 0 i h]
  simp

theorem u8In {n : Int} (h : 0 ≤ n ∧ n ≤ 255) : IntKind.u8.wrap n = n := IntWalk.u8_in n h

def txC (s : Int) (w : List Int) : List UInt8 × Int := if braidB s w = true then (sbytes (txN s w w.length), 0) else ([], 1)

theorem sbytes_append (a b : List Int) : sbytes (a ++ b) = sbytes a ++ sbytes b := by simp [sbytes]
theorem sbytes_length (a : List Int) : (sbytes a).length = a.length := by simp [sbytes]

def l01Dec_p (n : Int) : Post := ⟨0 ≤ n ∧ n ≤ 9, .c (.str (sbytes [48 + n])), []⟩
def l01Dec_ct : List AD → Option Post
  | [.c (.int .i64 (n))] => some (l01Dec_p n)
  | _ => none
def l01Dec_G : List (Nat × Ctr) := []
def l01Dec_V (n : Int) : Prop :=
  (BrP (Decidable.decide (n < (10 : Int)))
    ((Go.Sx.InR ((48 : Int) + n)) ∧
    ((Go.Sx.sbytes [Go.IntKind.wrap Go.IntKind.u8 ((48 : Int) + n)] = Go.Sx.sbytes [(48 : Int) + n]) ∧
    (True)))
    ((((10 : Int) ≠ (0 : Int)) ∧
    (Go.Sx.InR (Int.tdiv n (10 : Int)))) ∧
    (False)))
theorem l01Dec_vc (n : Int) : runF Try.prog (gam l01Dec_G) noWr noAnn Try.f105 (bodyOf Try.f105) [] [.c (.int .i64 (n))] (l01Dec_p n) = l01Dec_V n := by kernel_rfl
theorem l01Dec_ok (n : Int) (hpre : (l01Dec_p n).pre) : l01Dec_V n := by
  simp only [l01Dec_p, l01Dec_V, BrP_iff, true_and, and_true, decide_eq_true_eq, decide_eq_false_iff_not, bne_iff_ne, beq_iff_eq, bne_eq_false_iff_eq, beq_eq_false_iff_ne, Bool.not_eq_true, Bool.not_eq_false, Bool.not_true, Bool.not_false, Bool.not_eq_eq_eq_not, Int.toNat_natCast, List.length_append, List.length_take, List.length_replicate, List.length_set, List.length_map, List.length_drop, List.length_nil, List.length_cons, markL_length, inB, InR, room, bdsOk] at hpre ⊢
  obtain ⟨h1, h2⟩ := hpre
  refine ⟨fun _ => ⟨by omega, ?_⟩, fun h => absurd (show n < 10 by omega) h⟩
  rw [u8In (by omega)]
theorem l01Dec_fits : Fits Try.prog 105 ⟨[], l01Dec_ct⟩ := by
  refine fits_fn (Γ := gam l01Dec_G) gok_nil Try.func105 (by kernel_rfl) (by kernel_rfl) (by kernel_rfl) fun ds p h hp => ?_
  unfold l01Dec_ct at h
  split at h
  · cases h
    exact ⟨noWr, noAnn, by rw [l01Dec_vc]; exact l01Dec_ok _  hp⟩
  · cases h

def l16Text_p (s : Int) (w : List Int) : Post := ⟨braidB s w = true, .c (.str (sbytes (txN s w w.length))), []⟩
def l16Text_ct : List AD → Option Post
  | [.agg [.int .i64 (s), .ints .i64 (w)]] => some (l16Text_p s w)
  | _ => none
def l16Text_ann (s : Int) (w : List Int) : Nat → Option Ann
  | 0 => some (Ann.mk ((Nat)) (fun i => ⟨[(1, .c (.ptr 1 0)), (3, .c (.str (sbytes (txN s w i)))), (4, .c (.int .i64 ((i : Int))))], [(1, some (.box [.int .i64 (s), .ro (.ints .i64 (w))]))]⟩) (fun i => i ≤ w.length) (fun i => w.length - i) (fun _ => noAnn))
  | _ => none
def l16Text_G : List (Nat × Ctr) := [(105, ⟨[], l01Dec_ct⟩), (106, ⟨[], l16Place_ct⟩)]
def l16Text_V (s : Int) (w : List Int) : Prop :=
  (((((0 : Int) ≤ s) ∧
  (s ≤ (9 : Int))) ∧
  (True)) ∧
  ((Go.Sx.room (List.length (Go.Sx.sbytes [(48 : Int) + s]) + List.length (Array.toList (ByteArray.data { data := #[(58 : UInt8)] })))) ∧
  ((∃ x0 : Nat, ((x0 ≤ List.length w) ∧
  ((Go.Sx.sbytes [(48 : Int) + s] ++ Array.toList (ByteArray.data { data := #[(58 : UInt8)] }) = Go.Sx.sbytes (Go.Sx.txN s w x0)) ∧
  (((0 : Int) = (↑x0 : Int)) ∧
  ((s = s) ∧
  (w = w)))))) ∧
  (∀ x1 : Nat, ((x1 ≤ List.length w) →
  (BrP (Decidable.decide ((↑x1 : Int) < (↑(List.length w) : Int)))
    ((Go.Sx.inB (↑x1 : Int) (List.length w)) ∧
    (BrP (Decidable.decide (List.getD w (Int.toNat (↑x1 : Int)) (0 : Int) < (0 : Int)))
      ((Go.Sx.inB (↑x1 : Int) (List.length w)) ∧
      (((((-1000000 : Int) ≤ List.getD w (Int.toNat (↑x1 : Int)) (0 : Int)) ∧
      (List.getD w (Int.toNat (↑x1 : Int)) (0 : Int) ≤ (1000000 : Int))) ∧
      (True)) ∧
      ((Go.Sx.room (List.length (Go.Sx.sbytes (Go.Sx.txN s w x1)) + List.length (Go.Sx.sbytes [Go.IntKind.wrap Go.IntKind.u8 ((65 : Int) + Go.IntKind.wrap Go.IntKind.u8 (Go.Sx.plc (List.getD w (Int.toNat (↑x1 : Int)) (0 : Int))))]))) ∧
      ((Go.Sx.InR ((↑x1 : Int) + (1 : Int))) ∧
      (∃ x2 : Nat, ((x2 ≤ List.length w) ∧
      ((List.length w - x2 < List.length w - x1) ∧
      ((Go.Sx.sbytes (Go.Sx.txN s w x1) ++ Go.Sx.sbytes [Go.IntKind.wrap Go.IntKind.u8 ((65 : Int) + Go.IntKind.wrap Go.IntKind.u8 (Go.Sx.plc (List.getD w (Int.toNat (↑x1 : Int)) (0 : Int))))] = Go.Sx.sbytes (Go.Sx.txN s w x2)) ∧
      (((↑x1 : Int) + (1 : Int) = (↑x2 : Int)) ∧
      ((s = s) ∧
      (w = w)))))))))))
      ((Go.Sx.inB (↑x1 : Int) (List.length w)) ∧
      (((((-1000000 : Int) ≤ List.getD w (Int.toNat (↑x1 : Int)) (0 : Int)) ∧
      (List.getD w (Int.toNat (↑x1 : Int)) (0 : Int) ≤ (1000000 : Int))) ∧
      (True)) ∧
      ((Go.Sx.room (List.length (Go.Sx.sbytes (Go.Sx.txN s w x1)) + List.length (Go.Sx.sbytes [Go.IntKind.wrap Go.IntKind.u8 ((97 : Int) + Go.IntKind.wrap Go.IntKind.u8 (Go.Sx.plc (List.getD w (Int.toNat (↑x1 : Int)) (0 : Int))))]))) ∧
      ((Go.Sx.InR ((↑x1 : Int) + (1 : Int))) ∧
      (∃ x3 : Nat, ((x3 ≤ List.length w) ∧
      ((List.length w - x3 < List.length w - x1) ∧
      ((Go.Sx.sbytes (Go.Sx.txN s w x1) ++ Go.Sx.sbytes [Go.IntKind.wrap Go.IntKind.u8 ((97 : Int) + Go.IntKind.wrap Go.IntKind.u8 (Go.Sx.plc (List.getD w (Int.toNat (↑x1 : Int)) (0 : Int))))] = Go.Sx.sbytes (Go.Sx.txN s w x3)) ∧
      (((↑x1 : Int) + (1 : Int) = (↑x3 : Int)) ∧
      ((s = s) ∧
      (w = w)))))))))))))
    ((Go.Sx.sbytes (Go.Sx.txN s w x1) = Go.Sx.sbytes (Go.Sx.txN s w (List.length w))) ∧
    (True))))))))
theorem l16Text_vc (s : Int) (w : List Int) : runF Try.prog (gam l16Text_G) noWr (l16Text_ann s w) Try.f83 (bodyOf Try.f83) [] [.agg [.int .i64 (s), .ints .i64 (w)]] (l16Text_p s w) = l16Text_V s w := by kernel_rfl
theorem l16Text_ok (s : Int) (w : List Int) (hpre : (l16Text_p s w).pre) : l16Text_V s w := by
  simp only [l16Text_p, l16Text_V, BrP_iff, true_and, and_true, decide_eq_true_eq, decide_eq_false_iff_not, bne_iff_ne, beq_iff_eq, bne_eq_false_iff_eq, beq_eq_false_iff_ne, Bool.not_eq_true, Bool.not_eq_false, Bool.not_true, Bool.not_false, Bool.not_eq_eq_eq_not, Int.toNat_natCast, List.length_append, List.length_take, List.length_replicate, List.length_set, List.length_map, List.length_drop, List.length_nil, List.length_cons, markL_length, inB, InR, room, bdsOk] at hpre ⊢
  have hs := braidB_s hpre
  have hw := braidB_len hpre
  refine ⟨by omega, by simp only [sbytes_length, List.length_cons, List.length_nil]; omega, ⟨0, by omega, rfl, rfl⟩, fun i hi => ⟨fun h => ?_, fun h => by rw [show i = w.length by omega]⟩⟩
  have h1 := braidB_get hpre i (by omega)
  have h2 := plc_in hpre i (by omega)
  have hl := txN_len s w i
  refine ⟨by omega, fun h3 => ⟨by omega, by omega, by simp only [sbytes_length, List.length_cons, List.length_nil]; omega, by omega, i + 1, by omega, by omega, ?_, by omega⟩, fun h3 => ⟨by omega, by omega, by simp only [sbytes_length, List.length_cons, List.length_nil]; omega, by omega, i + 1, by omega, by omega, ?_, by omega⟩⟩
  · rw [txN_snoc s w i (by omega), sbytes_append, u8In (n := plc (w.getD i 0)) (by omega), u8In (by omega)]
    simp only [chI, plc, sgn]
    rw [if_pos h3, if_neg (by omega)]
    rw [show 65 + (w.getD i 0 * -1 - 1) = 64 - w.getD i 0 by omega]
  · rw [txN_snoc s w i (by omega), sbytes_append, u8In (n := plc (w.getD i 0)) (by omega), u8In (by omega)]
    simp only [chI, plc, sgn]
    rw [if_neg h3, if_pos (by omega)]
    rw [show 97 + (w.getD i 0 * 1 - 1) = 96 + w.getD i 0 by omega]
theorem l16Text_fits : Fits Try.prog 83 ⟨[], l16Text_ct⟩ := by
  refine fits_fn (Γ := gam l16Text_G) (gok_cons l01Dec_fits (gok_cons l16Place_fits gok_nil)) Try.func83 (by kernel_rfl) (by kernel_rfl) (by kernel_rfl) fun ds p h hp => ?_
  unfold l16Text_ct at h
  split at h
  · cases h
    exact ⟨noWr, l16Text_ann _ _ , by rw [l16Text_vc]; exact l16Text_ok _ _  hp⟩
  · cases h

def sBraidText_p (s : Int) (w : List Int) : Post := ⟨room w.length, .tup [.inl (.str ((txC s w).1)), .inl (.int .i64 ((txC s w).2))], []⟩
def sBraidText_ct : List AD → Option Post
  | [.agg [.int .i64 (s), .ints .i64 (w)]] => some (sBraidText_p s w)
  | _ => none
def sBraidText_G : List (Nat × Ctr) := [(67, ⟨[], l16Is_ct⟩), (83, ⟨[], l16Text_ct⟩)]
def sBraidText_V (s : Int) (w : List Int) : Prop :=
  (((Go.Sx.room (List.length w)) ∧
  (True)) ∧
  (BrP (!Go.Sx.braidB s w)
    (((Array.toList (ByteArray.data { data := #[] }) = Prod.fst (Go.Sx.txC s w)) ∧
    (((1 : Int) = Prod.snd (Go.Sx.txC s w)) ∧
    (True))) ∧
    (True))
    (((Go.Sx.braidB s w = Bool.true) ∧
    (True)) ∧
    (((Go.Sx.sbytes (Go.Sx.txN s w (List.length w)) = Prod.fst (Go.Sx.txC s w)) ∧
    (((0 : Int) = Prod.snd (Go.Sx.txC s w)) ∧
    (True))) ∧
    (True)))))
theorem sBraidText_vc (s : Int) (w : List Int) : runF Try.prog (gam sBraidText_G) noWr noAnn Try.f39 (bodyOf Try.f39) [] [.agg [.int .i64 (s), .ints .i64 (w)]] (sBraidText_p s w) = sBraidText_V s w := by kernel_rfl
theorem sBraidText_ok (s : Int) (w : List Int) (hpre : (sBraidText_p s w).pre) : sBraidText_V s w := by
  simp only [sBraidText_p, sBraidText_V, BrP_iff, true_and, and_true, decide_eq_true_eq, decide_eq_false_iff_not, bne_iff_ne, beq_iff_eq, bne_eq_false_iff_eq, beq_eq_false_iff_ne, Bool.not_eq_true, Bool.not_eq_false, Bool.not_true, Bool.not_false, Bool.not_eq_eq_eq_not, Int.toNat_natCast, List.length_append, List.length_take, List.length_replicate, List.length_set, List.length_map, List.length_drop, List.length_nil, List.length_cons, markL_length, inB, InR, room, bdsOk] at hpre ⊢
  exact ⟨hpre, fun h => by simp [txC, h], fun h => ⟨h, by simp [txC, h]⟩⟩
theorem sBraidText_fits : Fits Try.prog 39 ⟨[], sBraidText_ct⟩ := by
  refine fits_fn (Γ := gam sBraidText_G) (gok_cons l16Is_fits (gok_cons l16Text_fits gok_nil)) Try.func39 (by kernel_rfl) (by kernel_rfl) (by kernel_rfl) fun ds p h hp => ?_
  unfold sBraidText_ct at h
  split at h
  · cases h
    exact ⟨noWr, noAnn, by rw [sBraidText_vc]; exact sBraidText_ok _ _  hp⟩
  · cases h

def iBraidText_p (s : Int) (w : List Int) : Post := ⟨room w.length, .tup [.inl (.str ((txC s w).1)), .inl (.int .i64 ((txC s w).2))], []⟩
def iBraidText_ct : List AD → Option Post
  | [.agg [.int .i64 (s), .ints .i64 (w)]] => some (iBraidText_p s w)
  | _ => none
def iBraidText_ann (s : Int) (w : List Int) : Nat → Option Ann
  | 0 => some (Ann.mk ((Nat)) (fun i => ⟨[(4, .c (.own (20))), (16, .c (.ro (.ints .i64 (w)))), (17, .c (.int .i64 ((w.length : Int)))), (18, .c (.int .i64 ((i : Int))))], [(20, some (.ints 5 .u8 (txN s w i)))]⟩) (fun i => i ≤ w.length ∧ braidB s w = true) (fun i => w.length - i) (fun _ => noAnn))
  | _ => none
def iBraidText_G : List (Nat × Ctr) := [(25, ⟨[], iIsBraid_ct⟩)]
def iBraidText_V (s : Int) (w : List Int) : Prop :=
  (((Go.Sx.room (List.length w)) ∧
  (True)) ∧
  (BrP (!Go.Sx.braidB s w)
    (((Array.toList (ByteArray.data { data := #[] }) = Prod.fst (Go.Sx.txC s w)) ∧
    (((1 : Int) = Prod.snd (Go.Sx.txC s w)) ∧
    (True))) ∧
    (True))
    ((∃ x0 : Nat, (((x0 ≤ List.length w) ∧
    (Go.Sx.braidB s w = Bool.true)) ∧
    ((w = w) ∧
    (((↑(List.length w) : Int) = (↑(List.length w) : Int)) ∧
    (((0 : Int) = (↑x0 : Int)) ∧
    ([Go.IntKind.wrap Go.IntKind.u8 ((48 : Int) + Go.IntKind.wrap Go.IntKind.u8 s), (58 : Int)] = Go.Sx.txN s w x0)))))) ∧
    (∀ x1 : Nat, (((x1 ≤ List.length w) ∧
    (Go.Sx.braidB s w = Bool.true)) →
    (BrP (Decidable.decide ((↑x1 : Int) < (↑(List.length w) : Int)))
      ((Go.Sx.inB (↑x1 : Int) (List.length w)) ∧
      (BrP (Decidable.decide ((0 : Int) < List.getD w (Int.toNat (↑x1 : Int)) (0 : Int)))
        ((Go.Sx.room (List.length (Go.Sx.txN s w x1) + List.length [Go.IntKind.wrap Go.IntKind.u8 (Go.IntKind.wrap Go.IntKind.u8 ((97 : Int) + Go.IntKind.wrap Go.IntKind.u8 (List.getD w (Int.toNat (↑x1 : Int)) (0 : Int))) - (1 : Int))])) ∧
        ((Go.Sx.InR ((↑x1 : Int) + (1 : Int))) ∧
        (∃ x2 : Nat, (((x2 ≤ List.length w) ∧
        (Go.Sx.braidB s w = Bool.true)) ∧
        ((List.length w - x2 < List.length w - x1) ∧
        ((w = w) ∧
        (((↑(List.length w) : Int) = (↑(List.length w) : Int)) ∧
        (((↑x1 : Int) + (1 : Int) = (↑x2 : Int)) ∧
        (Go.Sx.txN s w x1 ++ [Go.IntKind.wrap Go.IntKind.u8 (Go.IntKind.wrap Go.IntKind.u8 ((97 : Int) + Go.IntKind.wrap Go.IntKind.u8 (List.getD w (Int.toNat (↑x1 : Int)) (0 : Int))) - (1 : Int))] = Go.Sx.txN s w x2)))))))))
        ((Go.Sx.InR (-List.getD w (Int.toNat (↑x1 : Int)) (0 : Int))) ∧
        ((Go.Sx.room (List.length (Go.Sx.txN s w x1) + List.length [Go.IntKind.wrap Go.IntKind.u8 (Go.IntKind.wrap Go.IntKind.u8 ((65 : Int) + Go.IntKind.wrap Go.IntKind.u8 (-List.getD w (Int.toNat (↑x1 : Int)) (0 : Int))) - (1 : Int))])) ∧
        ((Go.Sx.InR ((↑x1 : Int) + (1 : Int))) ∧
        (∃ x3 : Nat, (((x3 ≤ List.length w) ∧
        (Go.Sx.braidB s w = Bool.true)) ∧
        ((List.length w - x3 < List.length w - x1) ∧
        ((w = w) ∧
        (((↑(List.length w) : Int) = (↑(List.length w) : Int)) ∧
        (((↑x1 : Int) + (1 : Int) = (↑x3 : Int)) ∧
        (Go.Sx.txN s w x1 ++ [Go.IntKind.wrap Go.IntKind.u8 (Go.IntKind.wrap Go.IntKind.u8 ((65 : Int) + Go.IntKind.wrap Go.IntKind.u8 (-List.getD w (Int.toNat (↑x1 : Int)) (0 : Int))) - (1 : Int))] = Go.Sx.txN s w x3))))))))))))
      (((Go.Sx.sbytes (Go.Sx.txN s w x1) = Prod.fst (Go.Sx.txC s w)) ∧
      (((0 : Int) = Prod.snd (Go.Sx.txC s w)) ∧
      (True))) ∧
      (True))))))))
theorem iBraidText_vc (s : Int) (w : List Int) : runF Try.prog (gam iBraidText_G) noWr (iBraidText_ann s w) Try.f40 (bodyOf Try.f40) [] [.agg [.int .i64 (s), .ints .i64 (w)]] (iBraidText_p s w) = iBraidText_V s w := by kernel_rfl
theorem iBraidText_ok (s : Int) (w : List Int) (hpre : (iBraidText_p s w).pre) : iBraidText_V s w := by
  simp only [iBraidText_p, iBraidText_V, BrP_iff, true_and, and_true, decide_eq_true_eq, decide_eq_false_iff_not, bne_iff_ne, beq_iff_eq, bne_eq_false_iff_eq, beq_eq_false_iff_ne, Bool.not_eq_true, Bool.not_eq_false, Bool.not_true, Bool.not_false, Bool.not_eq_eq_eq_not, Int.toNat_natCast, List.length_append, List.length_take, List.length_replicate, List.length_set, List.length_map, List.length_drop, List.length_nil, List.length_cons, markL_length, inB, InR, room, bdsOk] at hpre ⊢
  refine ⟨hpre, fun h => by simp [txC, h], fun hb => ?_⟩
  have hs := braidB_s hb
  have hw := braidB_len hb
  refine ⟨⟨0, ⟨by omega, hb⟩, rfl, by rw [u8In (n := s) (by omega), u8In (by omega)]; rfl⟩, fun i ⟨hi, _⟩ => ⟨fun h => ?_, fun h => by rw [show i = w.length by omega]; simp [txC, hb]⟩⟩
  have h1 := braidB_get hb i (by omega)
  have hl := txN_len s w i
  refine ⟨by omega, fun h3 => ⟨by omega, by omega, i + 1, ⟨by omega, hb⟩, by omega, by omega, ?_⟩, fun h3 => ⟨by omega, by omega, by omega, i + 1, ⟨by omega, hb⟩, by omega, by omega, ?_⟩⟩
  · rw [txN_snoc s w i (by omega), u8In (n := w.getD i 0) (by omega), u8In (n := 97 + w.getD i 0) (by omega), u8In (by omega)]
    simp only [chI]
    rw [if_pos h3, show 97 + w.getD i 0 - 1 = 96 + w.getD i 0 by omega]
  · rw [txN_snoc s w i (by omega), u8In (n := -w.getD i 0) (by omega), u8In (n := 65 + -w.getD i 0) (by omega), u8In (by omega)]
    simp only [chI]
    rw [if_neg h3, show 65 + -w.getD i 0 - 1 = 64 - w.getD i 0 by omega]
theorem iBraidText_fits : Fits Try.prog 40 ⟨[], iBraidText_ct⟩ := by
  refine fits_fn (Γ := gam iBraidText_G) (gok_cons iIsBraid_fits gok_nil) Try.func40 (by kernel_rfl) (by kernel_rfl) (by kernel_rfl) fun ds p h hp => ?_
  unfold iBraidText_ct at h
  split at h
  · cases h
    exact ⟨noWr, iBraidText_ann _ _ , by rw [iBraidText_vc]; exact iBraidText_ok _ _  hp⟩
  · cases h

def lBraidText_p (s : Int) (w : List Int) : Post := ⟨(w.length : Int) ≤ 9223372036854775807, .c (.bool (true)), []⟩
def lBraidText_ct : List AD → Option Post
  | [.agg [.int .i64 (s), .ints .i64 (w)]] => some (lBraidText_p s w)
  | _ => none
def lBraidText_G : List (Nat × Ctr) := [(22, ⟨[], szBraid_ct⟩), (24, ⟨[], toBraid_ct⟩), (26, ⟨[], eqBraid_ct⟩), (39, ⟨[], sBraidText_ct⟩), (40, ⟨[], iBraidText_ct⟩)]
def lBraidText_V (s : Int) (w : List Int) : Prop :=
  (((((↑(List.length w) : Int) ≤ (9223372036854775807 : Int)) ∧
  (((0 : Int) ≤ (1048576 : Int)) ∧
  ((1048576 : Int) ≤ (1099511627776 : Int)))) ∧
  (True)) ∧
  (BrP (Decidable.decide ((if (1048576 : Int) < (↑(List.length w) : Int) then (-1 : Int) else (1048576 : Int) - (↑(List.length w) : Int)) < (0 : Int)))
    ((Bool.true = Bool.true) ∧
    (True))
    (((Go.Sx.room (List.length w)) ∧
    (True)) ∧
    (((Go.Sx.room (List.length w)) ∧
    (True)) ∧
    (((Go.Sx.room (List.length w)) ∧
    (True)) ∧
    (((Go.Sx.room (List.length w)) ∧
    (True)) ∧
    (BrP (!Prod.fst (Go.Sx.txC s w) == Prod.fst (Go.Sx.txC s w))
      ((Bool.false = Bool.true) ∧
      (True))
      (BrP (Prod.snd (Go.Sx.txC s w) != Prod.snd (Go.Sx.txC s w))
        ((Bool.false = Bool.true) ∧
        (True))
        (((Go.Sx.room (List.length w)) ∧
        (True)) ∧
        (((Go.Sx.room (List.length w)) ∧
        (True)) ∧
        (BrP (!Decidable.decide (s = s ∧ w = w))
          ((Bool.false = Bool.true) ∧
          (True))
          ((Bool.true = Bool.true) ∧
          (True)))))))))))))
theorem lBraidText_vc (s : Int) (w : List Int) : runF Try.prog (gam lBraidText_G) noWr noAnn Try.f9 (bodyOf Try.f9) [] [.agg [.int .i64 (s), .ints .i64 (w)]] (lBraidText_p s w) = lBraidText_V s w := by kernel_rfl
theorem lBraidText_ok (s : Int) (w : List Int) (hpre : (lBraidText_p s w).pre) : lBraidText_V s w := by
  simp only [lBraidText_p, lBraidText_V, BrP_iff, true_and, and_true, decide_eq_true_eq, decide_eq_false_iff_not, bne_iff_ne, beq_iff_eq, bne_eq_false_iff_eq, beq_eq_false_iff_ne, Bool.not_eq_true, Bool.not_eq_false, Bool.not_true, Bool.not_false, Bool.not_eq_eq_eq_not, Int.toNat_natCast, List.length_append, List.length_take, List.length_replicate, List.length_set, List.length_map, List.length_drop, List.length_nil, List.length_cons, markL_length, inB, InR, room, bdsOk] at hpre ⊢
  refine ⟨⟨hpre, by omega, by omega⟩, fun _ => trivial, fun h => ?_⟩
  have hw : w.length ≤ 1099511627776 := by split at h <;> omega
  simp [hw]
theorem lBraidText_fits : Fits Try.prog 9 ⟨[], lBraidText_ct⟩ := by
  refine fits_fn (Γ := gam lBraidText_G) (gok_cons szBraid_fits (gok_cons toBraid_fits (gok_cons eqBraid_fits (gok_cons sBraidText_fits (gok_cons iBraidText_fits gok_nil))))) Try.func9 (by kernel_rfl) (by kernel_rfl) (by kernel_rfl) fun ds p h hp => ?_
  unfold lBraidText_ct at h
  split at h
  · cases h
    exact ⟨noWr, noAnn, by rw [lBraidText_vc]; exact lBraidText_ok _ _  hp⟩
  · cases h

end Go.Sx

