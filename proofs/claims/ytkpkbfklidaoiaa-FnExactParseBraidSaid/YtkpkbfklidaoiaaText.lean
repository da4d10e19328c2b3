/- Contracts on the way of BraidText. -/
import Derived.Test.YtkpkbfklidaoiaaPerm
open Go Go.Proofs
namespace Go.Sx
set_option linter.unusedSimpArgs false
set_option linter.unusedVariables false

/-- A letter's sign. -/
def chI (x : Int) : Int := if 0 < x then 96 + x else 64 - x

def txN (s : Int) (w : List Int) (i : Nat) : List Int := (48 + s) :: 58 :: (w.take i).map chI

theorem txN_len (s : Int) (w : List Int) (i : Nat) : (txN s w i).length ≤ i + 2 := by
  simp only [txN, List.length_cons, List.length_map, List.length_take]
  omega

theorem txN_snoc (s : Int) (w : List Int) (i : Nat) (h : i < w.length) : txN s w (i + 1) = txN s w i ++ [chI (w.getD i 0)] := by
  simp only [txN]
  rw [← take_snoc w 0 i h]
  simp

theorem u8In {n : Int} (h : 0 ≤ n ∧ n ≤ 255) : IntKind.u8.wrap n = n := IntWalk.u8_in n h

def txC (s : Int) (w : List Int) : List UInt8 × Int := if braidB s w = true then (sbytes (txN s w w.length), 0) else ([], 1)

theorem sbytes_append (a b : List Int) : sbytes (a ++ b) = sbytes a ++ sbytes b := by simp [sbytes]
theorem sbytes_length (a : List Int) : (sbytes a).length = a.length := by simp [sbytes]

def l01Dec_p (n : Int) : Post := ⟨0 ≤ n ∧ n ≤ 9, .c (.str (sbytes [48 + n])), []⟩
def l01Dec_ct : List AD → Option Post
  | [.c (.int .i64 (n))] => some (l01Dec_p n)
  | _ => none
def l01Dec_G : List (Nat × Ctr) := []
def l01Dec_V (n : Int) : Prop :=
  (BrP (Decidable.decide (n < (10 : Int)))
    ((Go.Sx.InR ((48 : Int) + n)) ∧
    ((Go.Sx.sbytes [Go.IntKind.wrap Go.IntKind.u8 ((48 : Int) + n)] = Go.Sx.sbytes [(48 : Int) + n]) ∧
    (True)))
    ((((10 : Int) ≠ (0 : Int)) ∧
    (Go.Sx.InR (Int.tdiv n (10 : Int)))) ∧
    (False)))
theorem l01Dec_vc (n : Int) : runF Try.prog (gam l01Dec_G) noWr noAnn Try.f62 (bodyOf Try.f62) [] [.c (.int .i64 (n))] (l01Dec_p n) = l01Dec_V n := by kernel_rfl
theorem l01Dec_ok (n : Int) (hpre : (l01Dec_p n).pre) : l01Dec_V n := by
  simp only [l01Dec_p, l01Dec_V, BrP_iff, true_and, and_true, decide_eq_true_eq, decide_eq_false_iff_not, bne_iff_ne, beq_iff_eq, bne_eq_false_iff_eq, beq_eq_false_iff_ne, Bool.not_eq_true, Bool.not_eq_false, Bool.not_true, Bool.not_false, Bool.not_eq_eq_eq_not, Int.toNat_natCast, List.length_append, List.length_take, List.length_replicate, List.length_set, List.length_map, List.length_drop, List.length_nil, List.length_cons, markL_length, inB, InR, room, bdsOk] at hpre ⊢
  obtain ⟨h1, h2⟩ := hpre
  refine ⟨fun _ => ⟨by omega, ?_⟩, fun h => absurd (show n < 10 by omega) h⟩
  rw [u8In (by omega)]
theorem l01Dec_fits : Fits Try.prog 62 ⟨[], l01Dec_ct⟩ := by
  refine fits_fn (Γ := gam l01Dec_G) gok_nil Try.func62 (by kernel_rfl) (by kernel_rfl) (by kernel_rfl) fun ds p h hp => ?_
  unfold l01Dec_ct at h
  split at h
  · cases h
    exact ⟨noWr, noAnn, by rw [l01Dec_vc]; exact l01Dec_ok _  hp⟩
  · cases h

def l16Text_p (s : Int) (w : List Int) : Post := ⟨braidB s w = true, .c (.str (sbytes (txN s w w.length))), []⟩
def l16Text_ct : List AD → Option Post
  | [.agg [.int .i64 (s), .ints .i64 (w)]] => some (l16Text_p s w)
  | _ => none
def l16Text_ann (s : Int) (w : List Int) : Nat → Option Ann
  | 0 => some (Ann.mk ((Nat)) (fun i => ⟨[(1, .c (.ptr 1 0)), (3, .c (.str (sbytes (txN s w i)))), (4, .c (.int .i64 ((i : Int))))], [(1, some (.box [.int .i64 (s), .ro (.ints .i64 (w))]))]⟩) (fun i => i ≤ w.length) (fun i => w.length - i) (fun _ => noAnn))
  | _ => none
def l16Text_G : List (Nat × Ctr) := [(62, ⟨[], l01Dec_ct⟩), (63, ⟨[], l16Place_ct⟩)]
def l16Text_V (s : Int) (w : List Int) : Prop :=
  (((((0 : Int) ≤ s) ∧
  (s ≤ (9 : Int))) ∧
  (True)) ∧
  ((Go.Sx.room (List.length (Go.Sx.sbytes [(48 : Int) + s]) + List.length (Array.toList (ByteArray.data { data := #[(58 : UInt8)] })))) ∧
  ((∃ x0 : Nat, ((x0 ≤ List.length w) ∧
  ((Go.Sx.sbytes [(48 : Int) + s] ++ Array.toList (ByteArray.data { data := #[(58 : UInt8)] }) = Go.Sx.sbytes (Go.Sx.txN s w x0)) ∧
  (((0 : Int) = (↑x0 : Int)) ∧
  ((s = s) ∧
  (w = w)))))) ∧
  (∀ x1 : Nat, ((x1 ≤ List.length w) →
  (BrP (Decidable.decide ((↑x1 : Int) < (↑(List.length w) : Int)))
    ((Go.Sx.inB (↑x1 : Int) (List.length w)) ∧
    (BrP (Decidable.decide (List.getD w (Int.toNat (↑x1 : Int)) (0 : Int) < (0 : Int)))
      ((Go.Sx.inB (↑x1 : Int) (List.length w)) ∧
      (((((-1000000 : Int) ≤ List.getD w (Int.toNat (↑x1 : Int)) (0 : Int)) ∧
      (List.getD w (Int.toNat (↑x1 : Int)) (0 : Int) ≤ (1000000 : Int))) ∧
      (True)) ∧
      ((Go.Sx.room (List.length (Go.Sx.sbytes (Go.Sx.txN s w x1)) + List.length (Go.Sx.sbytes [Go.IntKind.wrap Go.IntKind.u8 ((65 : Int) + Go.IntKind.wrap Go.IntKind.u8 (Go.Sx.plc (List.getD w (Int.toNat (↑x1 : Int)) (0 : Int))))]))) ∧
      ((Go.Sx.InR ((↑x1 : Int) + (1 : Int))) ∧
      (∃ x2 : Nat, ((x2 ≤ List.length w) ∧
      ((List.length w - x2 < List.length w - x1) ∧
      ((Go.Sx.sbytes (Go.Sx.txN s w x1) ++ Go.Sx.sbytes [Go.IntKind.wrap Go.IntKind.u8 ((65 : Int) + Go.IntKind.wrap Go.IntKind.u8 (Go.Sx.plc (List.getD w (Int.toNat (↑x1 : Int)) (0 : Int))))] = Go.Sx.sbytes (Go.Sx.txN s w x2)) ∧
      (((↑x1 : Int) + (1 : Int) = (↑x2 : Int)) ∧
      ((s = s) ∧
      (w = w)))))))))))
      ((Go.Sx.inB (↑x1 : Int) (List.length w)) ∧
      (((((-1000000 : Int) ≤ List.getD w (Int.toNat (↑x1 : Int)) (0 : Int)) ∧
      (List.getD w (Int.toNat (↑x1 : Int)) (0 : Int) ≤ (1000000 : Int))) ∧
      (True)) ∧
      ((Go.Sx.room (List.length (Go.Sx.sbytes (Go.Sx.txN s w x1)) + List.length (Go.Sx.sbytes [Go.IntKind.wrap Go.IntKind.u8 ((97 : Int) + Go.IntKind.wrap Go.IntKind.u8 (Go.Sx.plc (List.getD w (Int.toNat (↑x1 : Int)) (0 : Int))))]))) ∧
      ((Go.Sx.InR ((↑x1 : Int) + (1 : Int))) ∧
      (∃ x3 : Nat, ((x3 ≤ List.length w) ∧
      ((List.length w - x3 < List.length w - x1) ∧
      ((Go.Sx.sbytes (Go.Sx.txN s w x1) ++ Go.Sx.sbytes [Go.IntKind.wrap Go.IntKind.u8 ((97 : Int) + Go.IntKind.wrap Go.IntKind.u8 (Go.Sx.plc (List.getD w (Int.toNat (↑x1 : Int)) (0 : Int))))] = Go.Sx.sbytes (Go.Sx.txN s w x3)) ∧
      (((↑x1 : Int) + (1 : Int) = (↑x3 : Int)) ∧
      ((s = s) ∧
      (w = w)))))))))))))
    ((Go.Sx.sbytes (Go.Sx.txN s w x1) = Go.Sx.sbytes (Go.Sx.txN s w (List.length w))) ∧
    (True))))))))
theorem l16Text_vc (s : Int) (w : List Int) : runF Try.prog (gam l16Text_G) noWr (l16Text_ann s w) Try.f32 (bodyOf Try.f32) [] [.agg [.int .i64 (s), .ints .i64 (w)]] (l16Text_p s w) = l16Text_V s w := by kernel_rfl
theorem l16Text_ok (s : Int) (w : List Int) (hpre : (l16Text_p s w).pre) : l16Text_V s w := by
  simp only [l16Text_p, l16Text_V, BrP_iff, true_and, and_true, decide_eq_true_eq, decide_eq_false_iff_not, bne_iff_ne, beq_iff_eq, bne_eq_false_iff_eq, beq_eq_false_iff_ne, Bool.not_eq_true, Bool.not_eq_false, Bool.not_true, Bool.not_false, Bool.not_eq_eq_eq_not, Int.toNat_natCast, List.length_append, List.length_take, List.length_replicate, List.length_set, List.length_map, List.length_drop, List.length_nil, List.length_cons, markL_length, inB, InR, room, bdsOk] at hpre ⊢
  have hs := braidB_s hpre
  have hw := braidB_len hpre
  refine ⟨by omega, by simp only [sbytes_length, List.length_cons, List.length_nil]; omega, ⟨0, by omega, rfl, rfl⟩, fun i hi => ⟨fun h => ?_, fun h => by rw [show i = w.length by omega]⟩⟩
  have h1 := braidB_get hpre i (by omega)
  have h2 := plc_in hpre i (by omega)
  have hl := txN_len s w i
  refine ⟨by omega, fun h3 => ⟨by omega, by omega, by simp only [sbytes_length, List.length_cons, List.length_nil]; omega, by omega, i + 1, by omega, by omega, ?_, by omega⟩, fun h3 => ⟨by omega, by omega, by simp only [sbytes_length, List.length_cons, List.length_nil]; omega, by omega, i + 1, by omega, by omega, ?_, by omega⟩⟩
  · rw [txN_snoc s w i (by omega), sbytes_append, u8In (n := plc (w.getD i 0)) (by omega), u8In (by omega)]
    simp only [chI, plc, sgn]
    rw [if_pos h3, if_neg (by omega)]
    rw [show 65 + (w.getD i 0 * -1 - 1) = 64 - w.getD i 0 by omega]
  · rw [txN_snoc s w i (by omega), sbytes_append, u8In (n := plc (w.getD i 0)) (by omega), u8In (by omega)]
    simp only [chI, plc, sgn]
    rw [if_neg h3, if_pos (by omega)]
    rw [show 97 + (w.getD i 0 * 1 - 1) = 96 + w.getD i 0 by omega]
theorem l16Text_fits : Fits Try.prog 32 ⟨[], l16Text_ct⟩ := by
  refine fits_fn (Γ := gam l16Text_G) (gok_cons l01Dec_fits (gok_cons l16Place_fits gok_nil)) Try.func32 (by kernel_rfl) (by kernel_rfl) (by kernel_rfl) fun ds p h hp => ?_
  unfold l16Text_ct at h
  split at h
  · cases h
    exact ⟨noWr, l16Text_ann _ _ , by rw [l16Text_vc]; exact l16Text_ok _ _  hp⟩
  · cases h




end Go.Sx

