/- ParseBraid: the plain law and the contracts. -/
import Derived.Test.YtkpkbfklidaoiaaText
open Go Go.Proofs
namespace Go.Sx
set_option linter.unusedSimpArgs false
set_option linter.unusedVariables false

/-- A byte, and the bytes of a text as numbers. -/
def byI (c : UInt8) : Int := (c.toNat : Int)

theorem byI_in (c : UInt8) : 0 ≤ byI c ∧ byI c ≤ 255 := by
  have := c.toNat_lt
  unfold byI
  omega

/-- The letter of a byte; 0 for none. -/
def leI (c : Int) : Int := if 97 ≤ c ∧ c ≤ 101 then c - 96 else if 65 ≤ c ∧ c ≤ 69 then 64 - c else 0

def decL (l : List UInt8) : List Int := l.map fun c => leI (byI c)
def allLt (l : List UInt8) : Bool := l.all fun c => decide (leI (byI c) ≠ 0)

theorem chI_leI {c : Int} (h : leI c ≠ 0) : chI (leI c) = c := by
  unfold leI at h ⊢
  unfold chI
  split
  · rw [if_pos (by omega)]; omega
  · split
    · rw [if_neg (by omega)]; omega
    · rename_i h1 h2
      rw [if_neg h1, if_neg h2] at h
      exact absurd rfl h

theorem leI_chI {x : Int} (h0 : x ≠ 0) (h : -5 ≤ x ∧ x ≤ 5) : leI (chI x) = x := by
  unfold leI chI
  split
  · rw [if_pos (by omega)]; omega
  · rw [if_neg (by omega), if_pos (by omega)]; omega

theorem byI_of {n : Int} (h : 0 ≤ n ∧ n ≤ 255) : byI (UInt8.ofNat n.toNat) = n := by
  unfold byI
  rw [UInt8.toNat_ofNat']
  omega

theorem sby_byI (c : UInt8) : UInt8.ofNat (byI c).toNat = c := by
  unfold byI
  rw [Int.toNat_natCast]
  exact UInt8.ofNat_toNat

theorem decL_sb {w : List Int} (h : ∀ x ∈ w, x ≠ 0 ∧ -5 ≤ x ∧ x ≤ 5) : decL (sbytes (w.map chI)) = w ∧ allLt (sbytes (w.map chI)) = true := by
  induction w with
  | nil => exact ⟨rfl, rfl⟩
  | cons x w ih =>
    obtain ⟨h1, h2⟩ := ih fun y hy => h y (List.mem_cons_of_mem _ hy)
    obtain ⟨hx0, hx⟩ := h x (by simp)
    have e : byI (UInt8.ofNat (chI x).toNat) = chI x := byI_of (by unfold chI; split <;> omega)
    have e2 := leI_chI hx0 hx
    constructor
    · show leI (byI (UInt8.ofNat (chI x).toNat)) :: decL (sbytes (w.map chI)) = _
      rw [e, e2, h1]
    · show (decide (leI (byI (UInt8.ofNat (chI x).toNat)) ≠ 0) && allLt (sbytes (w.map chI))) = true
      rw [e, e2, h2]
      simp [hx0]

theorem sb_decL {l : List UInt8} (h : allLt l = true) : sbytes ((decL l).map chI) = l := by
  induction l with
  | nil => rfl
  | cons c l ih =>
    simp only [allLt, List.all_cons, Bool.and_eq_true, decide_eq_true_eq] at h
    show UInt8.ofNat (chI (leI (byI c))).toNat :: sbytes ((decL l).map chI) = _
    rw [chI_leI h.1, sby_byI, ih h.2]

/-- The parts of a text between the bytes b. -/
def spA (b : Int) (cur : List UInt8) : List UInt8 → List (List UInt8)
  | [] => [cur]
  | c :: r => if byI c = b then cur :: spA b [] r else spA b (cur ++ [c]) r

theorem spA_no {b : Int} : ∀ (l cur : List UInt8), (∀ c ∈ l, byI c ≠ b) → spA b cur l = [cur ++ l]
  | [], cur, _ => by simp [spA]
  | c :: r, cur, h => by
    rw [spA, if_neg (h c (by simp)), spA_no r (cur ++ [c]) fun d hd => h d (List.mem_cons_of_mem _ hd)]
    simp

theorem spA_len (b : Int) : ∀ (l cur : List UInt8), 1 ≤ (spA b cur l).length ∧ (spA b cur l).length ≤ l.length + 1
  | [], cur => by simp [spA]
  | c :: r, cur => by
    have h1 := spA_len b r []
    have h2 := spA_len b r (cur ++ [c])
    simp only [spA]
    split
    · simp only [List.length_cons]; omega
    · simp only [List.length_cons]; omega

theorem spA_sum (b : Int) : ∀ (l cur : List UInt8), ((spA b cur l).map List.length).sum ≤ l.length + cur.length
  | [], cur => by simp [spA]
  | c :: r, cur => by
    have h1 := spA_sum b r []
    have h2 := spA_sum b r (cur ++ [c])
    simp only [spA]
    split
    · simp only [List.map_cons, List.sum_cons, List.length_cons, List.length_nil] at h1 ⊢; omega
    · simp only [List.length_append, List.length_cons, List.length_nil] at h2 ⊢; omega

/-- The number with a text; -1 if there is none. -/
def vaA (n : Int) : List UInt8 → Int
  | [] => n
  | c :: r => if byI c < 48 ∨ 57 < byI c then -1 else vaA (n * 10 + (byI c - 48)) r
def valF (l : List UInt8) : Int := if l.length = 0 ∨ 9 < l.length ∨ (1 < l.length ∧ byI (l.getD 0 0) = 48) then -1 else vaA 0 l

/-- The answer. -/
def paB (l : List UInt8) : Bool := decide (2 ≤ l.length) && (decide (byI (l.getD 1 0) = 58) && (allLt (l.drop 2) && braidB (byI (l.getD 0 0) - 48) (decL (l.drop 2))))
def paC (l : List UInt8) : (Int × List Int) × Int := if paB l = true then ((byI (l.getD 0 0) - 48, decL (l.drop 2)), 0) else ((0, []), 6)

theorem paC_no {l : List UInt8} (h : paB l = false) : 0 = (paC l).1.1 ∧ [] = (paC l).1.2 ∧ 6 = (paC l).2 := by
  rw [paC, if_neg (by rw [h]; decide)]; exact ⟨rfl, rfl, rfl⟩
theorem paC_yes {l : List UInt8} (h : paB l = true) : byI (l.getD 0 0) - 48 = (paC l).1.1 ∧ decL (l.drop 2) = (paC l).1.2 ∧ 0 = (paC l).2 := by
  rw [paC, if_pos h]; exact ⟨rfl, rfl, rfl⟩

/-- What the reference asks. -/
theorem pa_of {l p0 p1 : List UInt8} (hb : braidB (valF p0) (decL p1) = true) (ht : sbytes (txN (valF p0) (decL p1) (decL p1).length) = l) :
    paB l = true ∧ valF p0 = byI (l.getD 0 0) - 48 ∧ decL p1 = decL (l.drop 2) := by
  have hs6 := braidB_s hb
  generalize hv : valF p0 = s at *
  generalize hw : decL p1 = w at *
  have hwx : ∀ x ∈ w, x ≠ 0 ∧ -5 ≤ x ∧ x ≤ 5 := fun x hx => by
    obtain ⟨i, hi, rfl⟩ := List.mem_iff_getElem.1 hx
    have := braidB_get hb i hi
    simp [List.getD, hi] at this
    omega
  obtain ⟨d1, d2⟩ := decL_sb hwx
  have e : l = UInt8.ofNat (48 + s).toNat :: UInt8.ofNat 58 :: sbytes (w.map chI) := by
    rw [← ht]
    simp [txN, sbytes]
  have g0 : byI (l.getD 0 0) = 48 + s := by rw [e]; exact byI_of (by omega)
  have g1 : byI (l.getD 1 0) = 58 := by rw [e]; rfl
  have g2 : l.drop 2 = sbytes (w.map chI) := by rw [e]; rfl
  refine ⟨?_, by omega, by rw [g2, d1]⟩
  simp only [paB, Bool.and_eq_true, decide_eq_true_eq]
  rw [g0, g1, g2, d1, d2, show 48 + s - 48 = s by omega]
  exact ⟨by rw [e]; simp, rfl, rfl, hb⟩

theorem pa_to {l : List UInt8} (h : paB l = true) : ∃ p0 p1, spA 58 [] l = [p0, p1] ∧ valF p0 = byI (l.getD 0 0) - 48 ∧ p1 = l.drop 2 ∧ allLt p1 = true ∧ braidB (valF p0) (decL p1) = true ∧ sbytes (txN (valF p0) (decL p1) (decL p1).length) = l := by
  simp only [paB, Bool.and_eq_true, decide_eq_true_eq] at h
  obtain ⟨h1, h2, h3, h4⟩ := h
  have hs6 := braidB_s h4
  match l, h1 with
  | c :: d :: r, _ =>
    have h2 : byI d = 58 := h2
    have h3 : allLt r = true := h3
    have hs6 : 2 ≤ byI c - 48 ∧ byI c - 48 ≤ 6 := hs6
    have hn : ∀ x ∈ r, byI x ≠ 58 := fun x hx hc => by
      have := List.all_eq_true.1 h3 x hx
      rw [hc] at this
      exact absurd this (by decide)
    have hv : valF [c] = byI c - 48 := by
      unfold valF
      rw [if_neg (by simp)]
      simp only [vaA]
      rw [if_neg (by omega)]
      omega
    refine ⟨[c], r, ?_, hv, rfl, h3, by rw [hv]; exact h4, ?_⟩
    · rw [spA, if_neg (by omega), spA, if_pos h2, spA_no r [] hn]; rfl
    · rw [hv]
      simp only [txN, List.take_length]
      show UInt8.ofNat (48 + (byI c - 48)).toNat :: UInt8.ofNat 58 :: sbytes ((decL r).map chI) = _
      rw [sb_decL h3, show 48 + (byI c - 48) = byI c by omega, sby_byI]
      congr 2
      rw [← sby_byI d, h2]; rfl

/-- What the program reads, and whether it is a braid. -/
def paR (l : List UInt8) : (Int × List Int) × Bool :=
  if (decide (2 ≤ l.length) && (decide (byI (l.getD 1 0) = 58) && allLt (l.drop 2))) = true then ((byI (l.getD 0 0) - 48, decL (l.drop 2)), braidB (byI (l.getD 0 0) - 48) (decL (l.drop 2))) else ((0, []), false)

theorem paR_no {l : List UInt8} (h : (decide (2 ≤ l.length) && (decide (byI (l.getD 1 0) = 58) && allLt (l.drop 2))) = false) : 0 = (paR l).1.1 ∧ [] = (paR l).1.2 ∧ false = (paR l).2 := by
  rw [paR, if_neg (by rw [h]; decide)]; exact ⟨rfl, rfl, rfl⟩
theorem paR_yes {l : List UInt8} (h : (decide (2 ≤ l.length) && (decide (byI (l.getD 1 0) = 58) && allLt (l.drop 2))) = true) :
    byI (l.getD 0 0) - 48 = (paR l).1.1 ∧ decL (l.drop 2) = (paR l).1.2 ∧ braidB (byI (l.getD 0 0) - 48) (decL (l.drop 2)) = (paR l).2 := by
  rw [paR, if_pos h]; exact ⟨rfl, rfl, rfl⟩

theorem pow_le10 {i : Nat} (h : i ≤ 9) : (10 : Int) ^ i ≤ 10 ^ 9 := by
  have : i = 0 ∨ i = 1 ∨ i = 2 ∨ i = 3 ∨ i = 4 ∨ i = 5 ∨ i = 6 ∨ i = 7 ∨ i = 8 ∨ i = 9 := by omega
  rcases this with h | h | h | h | h | h | h | h | h | h <;> subst h <;> decide

def l01Split_p (l : List UInt8) (b : Int) : Post := ⟨room (l.length + 1), .c (.strs 9 (spA b [] l)), []⟩
def l01Split_ct : List AD → Option Post
  | [.c (.str (l)), .c (.int .u8 (b))] => some (l01Split_p l b)
  | _ => none
def l01Split_ann (l : List UInt8) (b : Int) : Nat → Option Ann
  | 0 => some (Ann.mk ((Nat) × (Nat) × (List (List UInt8))) (fun x => match x with | (i, q, o) => ⟨[(0, .c (.str (l))), (1, .c (.int .u8 (b))), (5, .c (.own (100))), (6, .c (.int .i64 ((q : Int)))), (7, .c (.int .i64 ((i : Int))))], [(100, some (.strs 9 (o)))]⟩) (fun x => match x with | (i, q, o) => q ≤ i ∧ i ≤ l.length ∧ spA b [] l = o ++ spA b ((l.take i).drop q) (l.drop i) ∧ o.length ≤ i) (fun x => match x with | (i, q, o) => l.length - i) (fun _ => noAnn))
  | _ => none
def l01Split_G : List (Nat × Ctr) := []
def l01Split_V (l : List UInt8) (b : Int) : Prop :=
  ((∃ x0 : Nat × Nat × List (List UInt8), (((Prod.fst x0.2 ≤ Prod.fst x0) ∧
  ((Prod.fst x0 ≤ List.length l) ∧
  ((Go.Sx.spA b [] l = Prod.snd x0.2 ++ Go.Sx.spA b (List.drop (Prod.fst x0.2) (List.take (Prod.fst x0) l)) (List.drop (Prod.fst x0) l)) ∧
  (List.length (Prod.snd x0.2) ≤ Prod.fst x0)))) ∧
  ((l = l) ∧
  ((b = b) ∧
  (((0 : Int) = (↑x0.2.1 : Int)) ∧
  (((0 : Int) = (↑x0.1 : Int)) ∧
  ([] = x0.2.2))))))) ∧
  (∀ x1 : Nat × Nat × List (List UInt8), (((Prod.fst x1.2 ≤ Prod.fst x1) ∧
  ((Prod.fst x1 ≤ List.length l) ∧
  ((Go.Sx.spA b [] l = Prod.snd x1.2 ++ Go.Sx.spA b (List.drop (Prod.fst x1.2) (List.take (Prod.fst x1) l)) (List.drop (Prod.fst x1) l)) ∧
  (List.length (Prod.snd x1.2) ≤ Prod.fst x1)))) →
  (BrP (Decidable.decide ((↑x1.1 : Int) < (↑(List.length l) : Int)))
    ((Go.Sx.inB (↑x1.1 : Int) (List.length l)) ∧
    (BrP ((↑(UInt8.toNat (List.getD l (Int.toNat (↑x1.1 : Int)) (0 : UInt8))) : Int) == b)
      ((Go.Sx.bdsOk (List.length l) (Option.some (↑x1.2.1 : Int)) (Option.some (↑x1.1 : Int))) ∧
      ((Go.Sx.room (List.length x1.2.2 + List.length [Go.Sx.cutL l (Option.some (↑x1.2.1 : Int)) (Option.some (↑x1.1 : Int))])) ∧
      ((Go.Sx.InR ((↑x1.1 : Int) + (1 : Int))) ∧
      ((Go.Sx.InR ((↑x1.1 : Int) + (1 : Int))) ∧
      (∃ x2 : Nat × Nat × List (List UInt8), (((Prod.fst x2.2 ≤ Prod.fst x2) ∧
      ((Prod.fst x2 ≤ List.length l) ∧
      ((Go.Sx.spA b [] l = Prod.snd x2.2 ++ Go.Sx.spA b (List.drop (Prod.fst x2.2) (List.take (Prod.fst x2) l)) (List.drop (Prod.fst x2) l)) ∧
      (List.length (Prod.snd x2.2) ≤ Prod.fst x2)))) ∧
      ((List.length l - Prod.fst x2 < List.length l - Prod.fst x1) ∧
      ((l = l) ∧
      ((b = b) ∧
      (((↑x1.1 : Int) + (1 : Int) = (↑x2.2.1 : Int)) ∧
      (((↑x1.1 : Int) + (1 : Int) = (↑x2.1 : Int)) ∧
      (x1.2.2 ++ [Go.Sx.cutL l (Option.some (↑x1.2.1 : Int)) (Option.some (↑x1.1 : Int))] = x2.2.2))))))))))))
      ((Go.Sx.InR ((↑x1.1 : Int) + (1 : Int))) ∧
      (∃ x3 : Nat × Nat × List (List UInt8), (((Prod.fst x3.2 ≤ Prod.fst x3) ∧
      ((Prod.fst x3 ≤ List.length l) ∧
      ((Go.Sx.spA b [] l = Prod.snd x3.2 ++ Go.Sx.spA b (List.drop (Prod.fst x3.2) (List.take (Prod.fst x3) l)) (List.drop (Prod.fst x3) l)) ∧
      (List.length (Prod.snd x3.2) ≤ Prod.fst x3)))) ∧
      ((List.length l - Prod.fst x3 < List.length l - Prod.fst x1) ∧
      ((l = l) ∧
      ((b = b) ∧
      (((↑x1.2.1 : Int) = (↑x3.2.1 : Int)) ∧
      (((↑x1.1 : Int) + (1 : Int) = (↑x3.1 : Int)) ∧
      (x1.2.2 = x3.2.2)))))))))))
    ((Go.Sx.bdsOk (List.length l) (Option.some (↑x1.2.1 : Int)) Option.none) ∧
    ((Go.Sx.room (List.length x1.2.2 + List.length [Go.Sx.cutL l (Option.some (↑x1.2.1 : Int)) Option.none])) ∧
    ((x1.2.2 ++ [Go.Sx.cutL l (Option.some (↑x1.2.1 : Int)) Option.none] = Go.Sx.spA b [] l) ∧
    (True))))))))
theorem l01Split_vc (l : List UInt8) (b : Int) : runF Try.prog (gam l01Split_G) noWr (l01Split_ann l b) Try.f29 (bodyOf Try.f29) [] [.c (.str (l)), .c (.int .u8 (b))] (l01Split_p l b) = l01Split_V l b := by kernel_rfl
theorem l01Split_ok (l : List UInt8) (b : Int) (hpre : (l01Split_p l b).pre) : l01Split_V l b := by
  simp only [l01Split_p, l01Split_V, BrP_iff, true_and, and_true, decide_eq_true_eq, decide_eq_false_iff_not, bne_iff_ne, beq_iff_eq, bne_eq_false_iff_eq, beq_eq_false_iff_ne, Bool.not_eq_true, Bool.not_eq_false, Bool.not_true, Bool.not_false, Bool.not_eq_eq_eq_not, Int.toNat_natCast, List.length_append, List.length_take, List.length_replicate, List.length_set, List.length_map, List.length_drop, List.length_nil, List.length_cons, markL_length, inB, InR, room, bdsOk] at hpre ⊢
  have eb : ∀ c : UInt8, ((c.toNat : Nat) : Int) = byI c := fun _ => rfl
  simp only [cutL, eb, Int.toNat_natCast]
  refine ⟨⟨(0, 0, []), ⟨by dsimp only; omega, by dsimp only; omega, rfl, by simp⟩, rfl, rfl, rfl⟩, fun ⟨i, q, o⟩ ⟨h1, h2, h3, h4⟩ => ?_⟩
  dsimp only at h1 h2 h3 h4 ⊢
  refine ⟨fun h => ⟨by omega, fun hb => ⟨by omega, by omega, by omega, by omega, (i + 1, i + 1, o ++ [(l.take i).drop q]), ⟨by simp, by omega, ?_, by simp; omega⟩, by dsimp only; omega, rfl, rfl, rfl⟩, fun hb => ⟨by omega, (i + 1, q, o), ⟨by dsimp only; omega, by dsimp only; omega, ?_, by dsimp only; omega⟩, by dsimp only; omega, rfl, rfl, rfl⟩⟩, fun h => ⟨by omega, by omega, ?_⟩⟩
  · rw [drop_cons' l 0 i (by omega), spA, if_pos hb] at h3
    have e2 : (l.take (i + 1)).drop (i + 1) = [] := List.drop_of_length_le (by simp; omega)
    show spA b [] l = (o ++ [(l.take i).drop q]) ++ spA b ((l.take (i + 1)).drop (i + 1)) (l.drop (i + 1))
    rw [h3, e2]
    simp
  · rw [drop_cons' l 0 i (by omega), spA, if_neg hb] at h3
    rw [h3, ← take_snoc l 0 i (by omega), List.drop_append_of_le_length (by simp; omega)]
  · have e : i = l.length := by omega
    subst e
    rw [List.drop_length, List.take_length] at h3
    rw [h3]; rfl
theorem l01Split_fits : Fits Try.prog 29 ⟨[], l01Split_ct⟩ := by
  refine fits_fn (Γ := gam l01Split_G) gok_nil Try.func29 (by kernel_rfl) (by kernel_rfl) (by kernel_rfl) fun ds p h hp => ?_
  unfold l01Split_ct at h
  split at h
  · cases h
    exact ⟨noWr, l01Split_ann _ _ , by rw [l01Split_vc]; exact l01Split_ok _ _  hp⟩
  · cases h

def l01Value_p (l : List UInt8) : Post := ⟨True, .c (.int .i64 (valF l)), []⟩
def l01Value_ct : List AD → Option Post
  | [.c (.str (l))] => some (l01Value_p l)
  | _ => none
def l01Value_ann (l : List UInt8) : Nat → Option Ann
  | 0 => some (Ann.mk ((Nat) × (Int)) (fun x => match x with | (i, n) => ⟨[(0, .c (.str (l))), (3, .c (.int .i64 (n))), (4, .c (.int .i64 ((i : Int))))], []⟩) (fun x => match x with | (i, n) => i ≤ l.length ∧ l.length ≤ 9 ∧ valF l = vaA n (l.drop i) ∧ 0 ≤ n ∧ n ≤ 10 ^ i - 1) (fun x => match x with | (i, n) => l.length - i) (fun _ => noAnn))
  | _ => none
def l01Value_G : List (Nat × Ctr) := []
def l01Value_V (l : List UInt8) : Prop :=
  (BrP ((↑(List.length l) : Int) == (0 : Int))
    (((-1 : Int) = Go.Sx.valF l) ∧
    (True))
    (BrP (Decidable.decide ((9 : Int) < (↑(List.length l) : Int)))
      (((-1 : Int) = Go.Sx.valF l) ∧
      (True))
      (BrP (Decidable.decide ((1 : Int) < (↑(List.length l) : Int)))
        ((Go.Sx.inB (0 : Int) (List.length l)) ∧
        (BrP ((↑(UInt8.toNat (List.getD l (Int.toNat (0 : Int)) (0 : UInt8))) : Int) == (48 : Int))
          (((-1 : Int) = Go.Sx.valF l) ∧
          (True))
          ((∃ x0 : Nat × Int, (((Prod.fst x0 ≤ List.length l) ∧
          ((List.length l ≤ (9 : Nat)) ∧
          ((Go.Sx.valF l = Go.Sx.vaA (Prod.snd x0) (List.drop (Prod.fst x0) l)) ∧
          (((0 : Int) ≤ Prod.snd x0) ∧
          (Prod.snd x0 ≤ (10 : Int) ^ Prod.fst x0 - (1 : Int)))))) ∧
          ((l = l) ∧
          (((0 : Int) = x0.2) ∧
          ((0 : Int) = (↑x0.1 : Int)))))) ∧
          (∀ x1 : Nat × Int, (((Prod.fst x1 ≤ List.length l) ∧
          ((List.length l ≤ (9 : Nat)) ∧
          ((Go.Sx.valF l = Go.Sx.vaA (Prod.snd x1) (List.drop (Prod.fst x1) l)) ∧
          (((0 : Int) ≤ Prod.snd x1) ∧
          (Prod.snd x1 ≤ (10 : Int) ^ Prod.fst x1 - (1 : Int)))))) →
          (BrP (Decidable.decide ((↑x1.1 : Int) < (↑(List.length l) : Int)))
            ((Go.Sx.inB (↑x1.1 : Int) (List.length l)) ∧
            (BrP (Decidable.decide ((↑(UInt8.toNat (List.getD l (Int.toNat (↑x1.1 : Int)) (0 : UInt8))) : Int) < (48 : Int)))
              (((-1 : Int) = Go.Sx.valF l) ∧
              (True))
              ((Go.Sx.inB (↑x1.1 : Int) (List.length l)) ∧
              (BrP (Decidable.decide ((57 : Int) < (↑(UInt8.toNat (List.getD l (Int.toNat (↑x1.1 : Int)) (0 : UInt8))) : Int)))
                (((-1 : Int) = Go.Sx.valF l) ∧
                (True))
                ((Go.Sx.InR (x1.2 * (10 : Int))) ∧
                ((Go.Sx.inB (↑x1.1 : Int) (List.length l)) ∧
                ((Go.Sx.InR (Go.IntKind.wrap Go.IntKind.u8 ((↑(UInt8.toNat (List.getD l (Int.toNat (↑x1.1 : Int)) (0 : UInt8))) : Int) - (48 : Int)))) ∧
                ((Go.Sx.InR (x1.2 * (10 : Int) + Go.IntKind.wrap Go.IntKind.u8 ((↑(UInt8.toNat (List.getD l (Int.toNat (↑x1.1 : Int)) (0 : UInt8))) : Int) - (48 : Int)))) ∧
                ((Go.Sx.InR ((↑x1.1 : Int) + (1 : Int))) ∧
                (∃ x2 : Nat × Int, (((Prod.fst x2 ≤ List.length l) ∧
                ((List.length l ≤ (9 : Nat)) ∧
                ((Go.Sx.valF l = Go.Sx.vaA (Prod.snd x2) (List.drop (Prod.fst x2) l)) ∧
                (((0 : Int) ≤ Prod.snd x2) ∧
                (Prod.snd x2 ≤ (10 : Int) ^ Prod.fst x2 - (1 : Int)))))) ∧
                ((List.length l - Prod.fst x2 < List.length l - Prod.fst x1) ∧
                ((l = l) ∧
                ((x1.2 * (10 : Int) + Go.IntKind.wrap Go.IntKind.u8 ((↑(UInt8.toNat (List.getD l (Int.toNat (↑x1.1 : Int)) (0 : UInt8))) : Int) - (48 : Int)) = x2.2) ∧
                ((↑x1.1 : Int) + (1 : Int) = (↑x2.1 : Int))))))))))))))))
            ((x1.2 = Go.Sx.valF l) ∧
            (True))))))))
        ((∃ x3 : Nat × Int, (((Prod.fst x3 ≤ List.length l) ∧
        ((List.length l ≤ (9 : Nat)) ∧
        ((Go.Sx.valF l = Go.Sx.vaA (Prod.snd x3) (List.drop (Prod.fst x3) l)) ∧
        (((0 : Int) ≤ Prod.snd x3) ∧
        (Prod.snd x3 ≤ (10 : Int) ^ Prod.fst x3 - (1 : Int)))))) ∧
        ((l = l) ∧
        (((0 : Int) = x3.2) ∧
        ((0 : Int) = (↑x3.1 : Int)))))) ∧
        (∀ x4 : Nat × Int, (((Prod.fst x4 ≤ List.length l) ∧
        ((List.length l ≤ (9 : Nat)) ∧
        ((Go.Sx.valF l = Go.Sx.vaA (Prod.snd x4) (List.drop (Prod.fst x4) l)) ∧
        (((0 : Int) ≤ Prod.snd x4) ∧
        (Prod.snd x4 ≤ (10 : Int) ^ Prod.fst x4 - (1 : Int)))))) →
        (BrP (Decidable.decide ((↑x4.1 : Int) < (↑(List.length l) : Int)))
          ((Go.Sx.inB (↑x4.1 : Int) (List.length l)) ∧
          (BrP (Decidable.decide ((↑(UInt8.toNat (List.getD l (Int.toNat (↑x4.1 : Int)) (0 : UInt8))) : Int) < (48 : Int)))
            (((-1 : Int) = Go.Sx.valF l) ∧
            (True))
            ((Go.Sx.inB (↑x4.1 : Int) (List.length l)) ∧
            (BrP (Decidable.decide ((57 : Int) < (↑(UInt8.toNat (List.getD l (Int.toNat (↑x4.1 : Int)) (0 : UInt8))) : Int)))
              (((-1 : Int) = Go.Sx.valF l) ∧
              (True))
              ((Go.Sx.InR (x4.2 * (10 : Int))) ∧
              ((Go.Sx.inB (↑x4.1 : Int) (List.length l)) ∧
              ((Go.Sx.InR (Go.IntKind.wrap Go.IntKind.u8 ((↑(UInt8.toNat (List.getD l (Int.toNat (↑x4.1 : Int)) (0 : UInt8))) : Int) - (48 : Int)))) ∧
              ((Go.Sx.InR (x4.2 * (10 : Int) + Go.IntKind.wrap Go.IntKind.u8 ((↑(UInt8.toNat (List.getD l (Int.toNat (↑x4.1 : Int)) (0 : UInt8))) : Int) - (48 : Int)))) ∧
              ((Go.Sx.InR ((↑x4.1 : Int) + (1 : Int))) ∧
              (∃ x5 : Nat × Int, (((Prod.fst x5 ≤ List.length l) ∧
              ((List.length l ≤ (9 : Nat)) ∧
              ((Go.Sx.valF l = Go.Sx.vaA (Prod.snd x5) (List.drop (Prod.fst x5) l)) ∧
              (((0 : Int) ≤ Prod.snd x5) ∧
              (Prod.snd x5 ≤ (10 : Int) ^ Prod.fst x5 - (1 : Int)))))) ∧
              ((List.length l - Prod.fst x5 < List.length l - Prod.fst x4) ∧
              ((l = l) ∧
              ((x4.2 * (10 : Int) + Go.IntKind.wrap Go.IntKind.u8 ((↑(UInt8.toNat (List.getD l (Int.toNat (↑x4.1 : Int)) (0 : UInt8))) : Int) - (48 : Int)) = x5.2) ∧
              ((↑x4.1 : Int) + (1 : Int) = (↑x5.1 : Int))))))))))))))))
          ((x4.2 = Go.Sx.valF l) ∧
          (True)))))))))
theorem l01Value_vc (l : List UInt8) : runF Try.prog (gam l01Value_G) noWr (l01Value_ann l) Try.f30 (bodyOf Try.f30) [] [.c (.str (l))] (l01Value_p l) = l01Value_V l := by kernel_rfl
theorem l01Value_ok (l : List UInt8) (hpre : (l01Value_p l).pre) : l01Value_V l := by
  simp only [l01Value_p, l01Value_V, BrP_iff, true_and, and_true, decide_eq_true_eq, decide_eq_false_iff_not, bne_iff_ne, beq_iff_eq, bne_eq_false_iff_eq, beq_eq_false_iff_ne, Bool.not_eq_true, Bool.not_eq_false, Bool.not_true, Bool.not_false, Bool.not_eq_eq_eq_not, Int.toNat_natCast, List.length_append, List.length_take, List.length_replicate, List.length_set, List.length_map, List.length_drop, List.length_nil, List.length_cons, markL_length, inB, InR, room, bdsOk] at hpre ⊢
  have eb : ∀ c : UInt8, ((c.toNat : Nat) : Int) = byI c := fun _ => rfl
  simp only [eb]
  have no1 : l.length = 0 → -1 = valF l := fun h => by rw [valF, if_pos (.inl h)]
  have no2 : 9 < l.length → -1 = valF l := fun h => by rw [valF, if_pos (.inr (.inl h))]
  have no3 : 1 < l.length → byI (l.getD 0 0) = 48 → -1 = valF l := fun h h2 => by rw [valF, if_pos (.inr (.inr ⟨h, h2⟩))]
  have yes : l.length ≠ 0 → l.length ≤ 9 → (1 < l.length → byI (l.getD 0 0) ≠ 48) → valF l = vaA 0 l := fun h h2 h3 => by
    rw [valF, if_neg]
    rintro (h4 | h4 | h4)
    · exact h h4
    · omega
    · exact h3 h4.1 h4.2
  have lp : ∀ (x : Nat × Int), x.1 ≤ l.length ∧ l.length ≤ 9 ∧ valF l = vaA x.2 (l.drop x.1) ∧ 0 ≤ x.2 ∧ x.2 ≤ 10 ^ x.1 - 1 →
      ((x.1 : Int) < (l.length : Int) → (0 ≤ (x.1 : Int) ∧ (x.1 : Int) < (l.length : Int)) ∧ (byI (l.getD x.1 0) < 48 → -1 = valF l) ∧ (¬ byI (l.getD x.1 0) < 48 → (57 < byI (l.getD x.1 0) → -1 = valF l) ∧ (¬ 57 < byI (l.getD x.1 0) →
        IntKind.u8.wrap (byI (l.getD x.1 0) - 48) = byI (l.getD x.1 0) - 48 ∧ 0 ≤ x.2 ∧ x.2 ≤ 1000000000 ∧ valF l = vaA (x.2 * 10 + (byI (l.getD x.1 0) - 48)) (l.drop (x.1 + 1)) ∧ 0 ≤ x.2 * 10 + (byI (l.getD x.1 0) - 48) ∧ x.2 * 10 + (byI (l.getD x.1 0) - 48) ≤ 10 ^ (x.1 + 1) - 1))) ∧
      (¬ (x.1 : Int) < (l.length : Int) → x.2 = valF l) := fun ⟨i, n⟩ ⟨h1, h2, h3, h4, h5⟩ => by
    dsimp only at h1 h3 h4 h5 ⊢
    refine ⟨fun h => ?_, fun h => ?_⟩
    · rw [drop_cons' l 0 i (by omega), vaA] at h3
      have hp : (10 : Int) ^ i ≤ 10 ^ 9 := by
        have := pow_le10 (show i ≤ 9 by omega)
        exact this
      refine ⟨by omega, fun h6 => by rw [h3, if_pos (.inl h6)], fun h6 => ⟨fun h7 => by rw [h3, if_pos (.inr h7)], fun h7 => ?_⟩⟩
      rw [if_neg (by omega)] at h3
      refine ⟨u8In (by omega), h4, by omega, h3, by omega, ?_⟩
      rw [Int.pow_succ]
      omega
    · rw [List.drop_of_length_le (by omega)] at h3
      exact h3.symm
  refine ⟨fun h => no1 (by omega), fun h => ⟨fun h2 => no2 (by omega), fun h2 => ⟨fun h3 => ⟨by omega, fun h4 => no3 (by omega) h4, fun h4 => ?_⟩, fun h3 => ?_⟩⟩⟩
  all_goals
    refine ⟨⟨(0, 0), ⟨by omega, by omega, yes (by omega) (by omega) (by first | exact fun _ => h4 | exact fun hc => absurd hc (by omega)), by omega, by simp⟩, rfl, rfl⟩, fun x hx => ?_⟩
    obtain ⟨q1, q2⟩ := lp x hx
    refine ⟨fun h5 => ?_, q2⟩
    obtain ⟨r1, r2, r3⟩ := q1 h5
    refine ⟨r1, r2, fun h6 => ⟨r1, (r3 h6).1, fun h7 => ?_⟩⟩
    obtain ⟨t1, t2, t3, t4, t5, t6⟩ := (r3 h6).2 h7
    have hb := byI_in (l.getD x.1 0)
    rw [t1]
    exact ⟨by omega, r1, by omega, by omega, by omega, (x.1 + 1, x.2 * 10 + (byI (l.getD x.1 0) - 48)), ⟨by dsimp only; omega, hx.2.1, t4, t5, t6⟩, by dsimp only; omega, rfl, rfl⟩
theorem l01Value_fits : Fits Try.prog 30 ⟨[], l01Value_ct⟩ := by
  refine fits_fn (Γ := gam l01Value_G) gok_nil Try.func30 (by kernel_rfl) (by kernel_rfl) (by kernel_rfl) fun ds p h hp => ?_
  unfold l01Value_ct at h
  split at h
  · cases h
    exact ⟨noWr, l01Value_ann _ , by rw [l01Value_vc]; exact l01Value_ok _  hp⟩
  · cases h

def readBraid_p (l : List UInt8) : Post := ⟨room l.length, .tup [.inr [.int .i64 ((paR l).1.1), .ints 2 .i64 ((paR l).1.2)], .inl (.bool ((paR l).2))], []⟩
def readBraid_ct : List AD → Option Post
  | [.c (.str (l))] => some (readBraid_p l)
  | _ => none
def readBraid_ann (l : List UInt8) : Nat → Option Ann
  | 0 => some (Ann.mk ((Nat)) (fun i => ⟨[(0, .c (.str (l))), (2, .c (.ptr 2 0)), (4, .c (.ptr 4 0)), (5, .c (.int .i64 ((i : Int))))], [(2, some (.box [.int .i64 (0), .nil])), (4, some (.box [.int .i64 (byI (l.getD 0 0) - 48), .own (100)])), (100, some (.ints 2 .i64 (decL ((l.drop 2).take (i - 2)))))]⟩) (fun i => 2 ≤ i ∧ i ≤ l.length ∧ byI (l.getD 1 0) = 58 ∧ allLt ((l.drop 2).take (i - 2)) = true) (fun i => l.length - i) (fun _ => noAnn))
  | _ => none
def readBraid_G : List (Nat × Ctr) := [(64, ⟨[], iIsBraid_ct⟩)]
def readBraid_V (l : List UInt8) : Prop :=
  (BrP (Decidable.decide ((↑(List.length l) : Int) < (2 : Int)))
    (((((0 : Int) = Prod.fst (Prod.fst (Go.Sx.paR l))) ∧
    (([] = Prod.snd (Prod.fst (Go.Sx.paR l))) ∧
    (True))) ∧
    ((Bool.false = Prod.snd (Go.Sx.paR l)) ∧
    (True))) ∧
    (True))
    ((Go.Sx.inB (1 : Int) (List.length l)) ∧
    (BrP ((↑(UInt8.toNat (List.getD l (Int.toNat (1 : Int)) (0 : UInt8))) : Int) != (58 : Int))
      (((((0 : Int) = Prod.fst (Prod.fst (Go.Sx.paR l))) ∧
      (([] = Prod.snd (Prod.fst (Go.Sx.paR l))) ∧
      (True))) ∧
      ((Bool.false = Prod.snd (Go.Sx.paR l)) ∧
      (True))) ∧
      (True))
      ((Go.Sx.inB (0 : Int) (List.length l)) ∧
      ((Go.Sx.InR (↑(UInt8.toNat (List.getD l (Int.toNat (0 : Int)) (0 : UInt8))) : Int)) ∧
      ((Go.Sx.InR ((↑(UInt8.toNat (List.getD l (Int.toNat (0 : Int)) (0 : UInt8))) : Int) - (48 : Int))) ∧
      ((∃ x0 : Nat, ((((2 : Nat) ≤ x0) ∧
      ((x0 ≤ List.length l) ∧
      ((Go.Sx.byI (List.getD l (1 : Nat) (0 : UInt8)) = (58 : Int)) ∧
      (Go.Sx.allLt (List.take (x0 - (2 : Nat)) (List.drop (2 : Nat) l)) = Bool.true)))) ∧
      ((l = l) ∧
      (((2 : Int) = (↑x0 : Int)) ∧
      (((0 : Int) = (0 : Int)) ∧
      (((↑(UInt8.toNat (List.getD l (Int.toNat (0 : Int)) (0 : UInt8))) : Int) - (48 : Int) = Go.Sx.byI (List.getD l (0 : Nat) (0 : UInt8)) - (48 : Int)) ∧
      (Go.Sx.decL (List.take (x0 - (2 : Nat)) (List.drop (2 : Nat) l)) = []))))))) ∧
      (∀ x1 : Nat, ((((2 : Nat) ≤ x1) ∧
      ((x1 ≤ List.length l) ∧
      ((Go.Sx.byI (List.getD l (1 : Nat) (0 : UInt8)) = (58 : Int)) ∧
      (Go.Sx.allLt (List.take (x1 - (2 : Nat)) (List.drop (2 : Nat) l)) = Bool.true)))) →
      (BrP (Decidable.decide ((↑x1 : Int) < (↑(List.length l) : Int)))
        ((Go.Sx.inB (↑x1 : Int) (List.length l)) ∧
        (BrP (Decidable.decide ((97 : Int) ≤ (↑(UInt8.toNat (List.getD l (Int.toNat (↑x1 : Int)) (0 : UInt8))) : Int)))
          (BrP (Decidable.decide ((↑(UInt8.toNat (List.getD l (Int.toNat (↑x1 : Int)) (0 : UInt8))) : Int) ≤ (101 : Int)))
            ((Go.Sx.InR (Go.IntKind.wrap Go.IntKind.u8 ((↑(UInt8.toNat (List.getD l (Int.toNat (↑x1 : Int)) (0 : UInt8))) : Int) - (97 : Int)))) ∧
            ((Go.Sx.InR (Go.IntKind.wrap Go.IntKind.u8 ((↑(UInt8.toNat (List.getD l (Int.toNat (↑x1 : Int)) (0 : UInt8))) : Int) - (97 : Int)) + (1 : Int))) ∧
            ((Go.Sx.room (List.length (Go.Sx.decL (List.take (x1 - (2 : Nat)) (List.drop (2 : Nat) l))) + List.length [Go.IntKind.wrap Go.IntKind.u8 ((↑(UInt8.toNat (List.getD l (Int.toNat (↑x1 : Int)) (0 : UInt8))) : Int) - (97 : Int)) + (1 : Int)])) ∧
            ((Go.Sx.InR ((↑x1 : Int) + (1 : Int))) ∧
            (∃ x2 : Nat, ((((2 : Nat) ≤ x2) ∧
            ((x2 ≤ List.length l) ∧
            ((Go.Sx.byI (List.getD l (1 : Nat) (0 : UInt8)) = (58 : Int)) ∧
            (Go.Sx.allLt (List.take (x2 - (2 : Nat)) (List.drop (2 : Nat) l)) = Bool.true)))) ∧
            ((List.length l - x2 < List.length l - x1) ∧
            ((l = l) ∧
            (((↑x1 : Int) + (1 : Int) = (↑x2 : Int)) ∧
            (((0 : Int) = (0 : Int)) ∧
            ((Go.Sx.byI (List.getD l (0 : Nat) (0 : UInt8)) - (48 : Int) = Go.Sx.byI (List.getD l (0 : Nat) (0 : UInt8)) - (48 : Int)) ∧
            (Go.Sx.decL (List.take (x1 - (2 : Nat)) (List.drop (2 : Nat) l)) ++ [Go.IntKind.wrap Go.IntKind.u8 ((↑(UInt8.toNat (List.getD l (Int.toNat (↑x1 : Int)) (0 : UInt8))) : Int) - (97 : Int)) + (1 : Int)] = Go.Sx.decL (List.take (x2 - (2 : Nat)) (List.drop (2 : Nat) l))))))))))))))
            (BrP (Decidable.decide ((65 : Int) ≤ (↑(UInt8.toNat (List.getD l (Int.toNat (↑x1 : Int)) (0 : UInt8))) : Int)))
              (BrP (Decidable.decide ((↑(UInt8.toNat (List.getD l (Int.toNat (↑x1 : Int)) (0 : UInt8))) : Int) ≤ (69 : Int)))
                ((Go.Sx.InR (Go.IntKind.wrap Go.IntKind.u8 ((↑(UInt8.toNat (List.getD l (Int.toNat (↑x1 : Int)) (0 : UInt8))) : Int) - (65 : Int)))) ∧
                ((Go.Sx.InR (-Go.IntKind.wrap Go.IntKind.u8 ((↑(UInt8.toNat (List.getD l (Int.toNat (↑x1 : Int)) (0 : UInt8))) : Int) - (65 : Int)))) ∧
                ((Go.Sx.InR (-Go.IntKind.wrap Go.IntKind.u8 ((↑(UInt8.toNat (List.getD l (Int.toNat (↑x1 : Int)) (0 : UInt8))) : Int) - (65 : Int)) - (1 : Int))) ∧
                ((Go.Sx.room (List.length (Go.Sx.decL (List.take (x1 - (2 : Nat)) (List.drop (2 : Nat) l))) + List.length [-Go.IntKind.wrap Go.IntKind.u8 ((↑(UInt8.toNat (List.getD l (Int.toNat (↑x1 : Int)) (0 : UInt8))) : Int) - (65 : Int)) - (1 : Int)])) ∧
                ((Go.Sx.InR ((↑x1 : Int) + (1 : Int))) ∧
                (∃ x3 : Nat, ((((2 : Nat) ≤ x3) ∧
                ((x3 ≤ List.length l) ∧
                ((Go.Sx.byI (List.getD l (1 : Nat) (0 : UInt8)) = (58 : Int)) ∧
                (Go.Sx.allLt (List.take (x3 - (2 : Nat)) (List.drop (2 : Nat) l)) = Bool.true)))) ∧
                ((List.length l - x3 < List.length l - x1) ∧
                ((l = l) ∧
                (((↑x1 : Int) + (1 : Int) = (↑x3 : Int)) ∧
                (((0 : Int) = (0 : Int)) ∧
                ((Go.Sx.byI (List.getD l (0 : Nat) (0 : UInt8)) - (48 : Int) = Go.Sx.byI (List.getD l (0 : Nat) (0 : UInt8)) - (48 : Int)) ∧
                (Go.Sx.decL (List.take (x1 - (2 : Nat)) (List.drop (2 : Nat) l)) ++ [-Go.IntKind.wrap Go.IntKind.u8 ((↑(UInt8.toNat (List.getD l (Int.toNat (↑x1 : Int)) (0 : UInt8))) : Int) - (65 : Int)) - (1 : Int)] = Go.Sx.decL (List.take (x3 - (2 : Nat)) (List.drop (2 : Nat) l)))))))))))))))
                (((((0 : Int) = Prod.fst (Prod.fst (Go.Sx.paR l))) ∧
                (([] = Prod.snd (Prod.fst (Go.Sx.paR l))) ∧
                (True))) ∧
                ((Bool.false = Prod.snd (Go.Sx.paR l)) ∧
                (True))) ∧
                (True)))
              (((((0 : Int) = Prod.fst (Prod.fst (Go.Sx.paR l))) ∧
              (([] = Prod.snd (Prod.fst (Go.Sx.paR l))) ∧
              (True))) ∧
              ((Bool.false = Prod.snd (Go.Sx.paR l)) ∧
              (True))) ∧
              (True))))
          (BrP (Decidable.decide ((65 : Int) ≤ (↑(UInt8.toNat (List.getD l (Int.toNat (↑x1 : Int)) (0 : UInt8))) : Int)))
            (BrP (Decidable.decide ((↑(UInt8.toNat (List.getD l (Int.toNat (↑x1 : Int)) (0 : UInt8))) : Int) ≤ (69 : Int)))
              ((Go.Sx.InR (Go.IntKind.wrap Go.IntKind.u8 ((↑(UInt8.toNat (List.getD l (Int.toNat (↑x1 : Int)) (0 : UInt8))) : Int) - (65 : Int)))) ∧
              ((Go.Sx.InR (-Go.IntKind.wrap Go.IntKind.u8 ((↑(UInt8.toNat (List.getD l (Int.toNat (↑x1 : Int)) (0 : UInt8))) : Int) - (65 : Int)))) ∧
              ((Go.Sx.InR (-Go.IntKind.wrap Go.IntKind.u8 ((↑(UInt8.toNat (List.getD l (Int.toNat (↑x1 : Int)) (0 : UInt8))) : Int) - (65 : Int)) - (1 : Int))) ∧
              ((Go.Sx.room (List.length (Go.Sx.decL (List.take (x1 - (2 : Nat)) (List.drop (2 : Nat) l))) + List.length [-Go.IntKind.wrap Go.IntKind.u8 ((↑(UInt8.toNat (List.getD l (Int.toNat (↑x1 : Int)) (0 : UInt8))) : Int) - (65 : Int)) - (1 : Int)])) ∧
              ((Go.Sx.InR ((↑x1 : Int) + (1 : Int))) ∧
              (∃ x4 : Nat, ((((2 : Nat) ≤ x4) ∧
              ((x4 ≤ List.length l) ∧
              ((Go.Sx.byI (List.getD l (1 : Nat) (0 : UInt8)) = (58 : Int)) ∧
              (Go.Sx.allLt (List.take (x4 - (2 : Nat)) (List.drop (2 : Nat) l)) = Bool.true)))) ∧
              ((List.length l - x4 < List.length l - x1) ∧
              ((l = l) ∧
              (((↑x1 : Int) + (1 : Int) = (↑x4 : Int)) ∧
              (((0 : Int) = (0 : Int)) ∧
              ((Go.Sx.byI (List.getD l (0 : Nat) (0 : UInt8)) - (48 : Int) = Go.Sx.byI (List.getD l (0 : Nat) (0 : UInt8)) - (48 : Int)) ∧
              (Go.Sx.decL (List.take (x1 - (2 : Nat)) (List.drop (2 : Nat) l)) ++ [-Go.IntKind.wrap Go.IntKind.u8 ((↑(UInt8.toNat (List.getD l (Int.toNat (↑x1 : Int)) (0 : UInt8))) : Int) - (65 : Int)) - (1 : Int)] = Go.Sx.decL (List.take (x4 - (2 : Nat)) (List.drop (2 : Nat) l)))))))))))))))
              (((((0 : Int) = Prod.fst (Prod.fst (Go.Sx.paR l))) ∧
              (([] = Prod.snd (Prod.fst (Go.Sx.paR l))) ∧
              (True))) ∧
              ((Bool.false = Prod.snd (Go.Sx.paR l)) ∧
              (True))) ∧
              (True)))
            (((((0 : Int) = Prod.fst (Prod.fst (Go.Sx.paR l))) ∧
            (([] = Prod.snd (Prod.fst (Go.Sx.paR l))) ∧
            (True))) ∧
            ((Bool.false = Prod.snd (Go.Sx.paR l)) ∧
            (True))) ∧
            (True)))))
        (((Go.Sx.room (List.length (Go.Sx.decL (List.take (x1 - (2 : Nat)) (List.drop (2 : Nat) l))))) ∧
        (True)) ∧
        ((((Go.Sx.byI (List.getD l (0 : Nat) (0 : UInt8)) - (48 : Int) = Prod.fst (Prod.fst (Go.Sx.paR l))) ∧
        ((Go.Sx.decL (List.take (x1 - (2 : Nat)) (List.drop (2 : Nat) l)) = Prod.snd (Prod.fst (Go.Sx.paR l))) ∧
        (True))) ∧
        ((Go.Sx.braidB (Go.Sx.byI (List.getD l (0 : Nat) (0 : UInt8)) - (48 : Int)) (Go.Sx.decL (List.take (x1 - (2 : Nat)) (List.drop (2 : Nat) l))) = Prod.snd (Go.Sx.paR l)) ∧
        (True))) ∧
        (True)))))))))))))
theorem readBraid_vc (l : List UInt8) : runF Try.prog (gam readBraid_G) noWr (readBraid_ann l) Try.f33 (bodyOf Try.f33) [] [.c (.str (l))] (readBraid_p l) = readBraid_V l := by kernel_rfl
theorem readBraid_ok (l : List UInt8) (hpre : (readBraid_p l).pre) : readBraid_V l := by
  simp only [readBraid_p, readBraid_V, BrP_iff, true_and, and_true, decide_eq_true_eq, decide_eq_false_iff_not, bne_iff_ne, beq_iff_eq, bne_eq_false_iff_eq, beq_eq_false_iff_ne, Bool.not_eq_true, Bool.not_eq_false, Bool.not_true, Bool.not_false, Bool.not_eq_eq_eq_not, Int.toNat_natCast, List.length_append, List.length_take, List.length_replicate, List.length_set, List.length_map, List.length_drop, List.length_nil, List.length_cons, markL_length, inB, InR, room, bdsOk] at hpre ⊢
  have eb : ∀ c : UInt8, ((c.toNat : Nat) : Int) = byI c := fun _ => rfl
  have z0 : Int.toNat 0 = 0 := rfl
  have z1 : Int.toNat 1 = 1 := rfl
  simp only [eb, z0, z1]
  have b0 := byI_in (l.getD 0 0)
  have no : ¬ ((decide (2 ≤ l.length) && (decide (byI (l.getD 1 0) = 58) && allLt (l.drop 2))) = true) → (0 = (paR l).1.1 ∧ [] = (paR l).1.2) ∧ false = (paR l).2 := fun h => by
    obtain ⟨a, b, c⟩ := paR_no (l := l) (by simpa using h)
    exact ⟨⟨a, b⟩, c⟩
  refine ⟨fun h => no (by simp; omega), fun h => ⟨by omega, fun h2 => no fun hc => by
    simp only [Bool.and_eq_true, decide_eq_true_eq] at hc
    exact h2 hc.2.1, fun h2 => ⟨by omega, by omega, by omega, ⟨2, ⟨by omega, by omega, h2, rfl⟩, rfl, trivial, rfl⟩, fun i ⟨h3, h4, _, h5⟩ => ⟨fun h6 => ?_, fun h6 => ?_⟩⟩⟩⟩
  · have bi := byI_in (l.getD i 0)
    have hlen : (decL ((l.drop 2).take (i - 2))).length + 1 ≤ l.length := by simp [decL]; omega
    have tk : (l.drop 2).take (i + 1 - 2) = (l.drop 2).take (i - 2) ++ [l.getD i 0] := by
      rw [show i + 1 - 2 = (i - 2) + 1 by omega, ← take_snoc (l.drop 2) 0 (i - 2) (by simp; omega)]
      congr 2
      rw [List.getD_eq_getElem?_getD, List.getElem?_drop, show 2 + (i - 2) = i by omega, ← List.getD_eq_getElem?_getD]
    have bad : leI (byI (l.getD i 0)) = 0 → (0 = (paR l).1.1 ∧ [] = (paR l).1.2) ∧ false = (paR l).2 := fun hz => no fun hc => by
      simp only [Bool.and_eq_true] at hc
      have := List.all_eq_true.1 hc.2.2 (l.getD i 0) (by
        rw [show l.getD i 0 = (l.drop 2).getD (i - 2) 0 by rw [List.getD_eq_getElem?_getD, List.getD_eq_getElem?_getD, List.getElem?_drop, show 2 + (i - 2) = i by omega]]
        exact getD_mem _ _ _ (by simp; omega))
      rw [hz] at this
      exact absurd this (by decide)
    have good : leI (byI (l.getD i 0)) ≠ 0 → allLt ((l.drop 2).take (i + 1 - 2)) = true ∧ decL ((l.drop 2).take (i - 2)) ++ [leI (byI (l.getD i 0))] = decL ((l.drop 2).take (i + 1 - 2)) := fun hz => by
      rw [tk]
      constructor
      · simp only [allLt, List.all_append, List.all_cons, List.all_nil, Bool.and_true, Bool.and_eq_true, decide_eq_true_eq]
        exact ⟨h5, hz⟩
      · simp [decL]
    have hup : 65 ≤ byI (l.getD i 0) → byI (l.getD i 0) ≤ 69 → leI (byI (l.getD i 0)) = -(byI (l.getD i 0) - 65) - 1 := fun q1 q2 => by
      rw [leI, if_neg (by omega), if_pos ⟨q1, q2⟩]; omega
    refine ⟨by omega, fun q1 => ⟨fun q2 => ?_, fun q2 => ⟨fun q3 => ⟨fun q4 => absurd q4 (by omega), fun q4 => bad (by rw [leI, if_neg (by omega), if_neg (by omega)])⟩, fun q3 => absurd q1 (by omega)⟩⟩, fun q1 => ⟨fun q3 => ⟨fun q4 => ?_, fun q4 => bad (by rw [leI, if_neg (by omega), if_neg (by omega)])⟩, fun q3 => bad (by rw [leI, if_neg (by omega), if_neg (by omega)])⟩⟩
    · have e : leI (byI (l.getD i 0)) = byI (l.getD i 0) - 97 + 1 := by rw [leI, if_pos ⟨q1, q2⟩]; omega
      obtain ⟨g1, g2⟩ := good (by omega)
      rw [u8In (by omega)]
      exact ⟨by omega, by omega, by omega, by omega, i + 1, ⟨by omega, by omega, h2, g1⟩, by omega, by omega, by rw [← g2, e]⟩
    · have e := hup q3 q4
      obtain ⟨g1, g2⟩ := good (by omega)
      rw [u8In (by omega)]
      exact ⟨by omega, by omega, by omega, by omega, by omega, i + 1, ⟨by omega, by omega, h2, g1⟩, by omega, by omega, by rw [← g2, e]⟩
  · have tk : (l.drop 2).take (i - 2) = l.drop 2 := List.take_of_length_le (by simp; omega)
    rw [tk] at h5 ⊢
    obtain ⟨a, b, c⟩ := paR_yes (l := l) (by simp only [Bool.and_eq_true, decide_eq_true_eq]; exact ⟨by omega, h2, h5⟩)
    exact ⟨by simp [decL]; omega, ⟨a, b⟩, c⟩
theorem readBraid_fits : Fits Try.prog 33 ⟨[], readBraid_ct⟩ := by
  refine fits_fn (Γ := gam readBraid_G) (gok_cons iIsBraid_fits gok_nil) Try.func33 (by kernel_rfl) (by kernel_rfl) (by kernel_rfl) fun ds p h hp => ?_
  unfold readBraid_ct at h
  split at h
  · cases h
    exact ⟨noWr, readBraid_ann _ , by rw [readBraid_vc]; exact readBraid_ok _  hp⟩
  · cases h

def iParse_p (l : List UInt8) : Post := ⟨room l.length, .tup [.inr [.int .i64 ((paC l).1.1), .ints 2 .i64 ((paC l).1.2)], .inl (.int .i64 ((paC l).2))], []⟩
def iParse_ct : List AD → Option Post
  | [.c (.str (l))] => some (iParse_p l)
  | _ => none
def iParse_G : List (Nat × Ctr) := [(33, ⟨[], readBraid_ct⟩)]
def iParse_V (l : List UInt8) : Prop :=
  (((Go.Sx.room (List.length l)) ∧
  (True)) ∧
  (BrP (!Prod.snd (Go.Sx.paR l))
    (((((0 : Int) = Prod.fst (Prod.fst (Go.Sx.paC l))) ∧
    (([] = Prod.snd (Prod.fst (Go.Sx.paC l))) ∧
    (True))) ∧
    (((6 : Int) = Prod.snd (Go.Sx.paC l)) ∧
    (True))) ∧
    (True))
    ((((Prod.fst (Prod.fst (Go.Sx.paR l)) = Prod.fst (Prod.fst (Go.Sx.paC l))) ∧
    ((Prod.snd (Prod.fst (Go.Sx.paR l)) = Prod.snd (Prod.fst (Go.Sx.paC l))) ∧
    (True))) ∧
    (((0 : Int) = Prod.snd (Go.Sx.paC l)) ∧
    (True))) ∧
    (True))))
theorem iParse_vc (l : List UInt8) : runF Try.prog (gam iParse_G) noWr noAnn Try.f9 (bodyOf Try.f9) [] [.c (.str (l))] (iParse_p l) = iParse_V l := by kernel_rfl
theorem iParse_ok (l : List UInt8) (hpre : (iParse_p l).pre) : iParse_V l := by
  simp only [iParse_p, iParse_V, BrP_iff, true_and, and_true, decide_eq_true_eq, decide_eq_false_iff_not, bne_iff_ne, beq_iff_eq, bne_eq_false_iff_eq, beq_eq_false_iff_ne, Bool.not_eq_true, Bool.not_eq_false, Bool.not_true, Bool.not_false, Bool.not_eq_eq_eq_not, Int.toNat_natCast, List.length_append, List.length_take, List.length_replicate, List.length_set, List.length_map, List.length_drop, List.length_nil, List.length_cons, markL_length, inB, InR, room, bdsOk] at hpre ⊢
  have e : paB l = ((decide (2 ≤ l.length) && (decide (byI (l.getD 1 0) = 58) && allLt (l.drop 2))) && braidB (byI (l.getD 0 0) - 48) (decL (l.drop 2))) := by
    unfold paB
    simp only [Bool.and_assoc]
  refine ⟨hpre, fun h => ?_, fun h => ?_⟩
  · obtain ⟨a, b, c⟩ := paC_no (l := l) (by
      rw [e]
      cases hg : (decide (2 ≤ l.length) && (decide (byI (l.getD 1 0) = 58) && allLt (l.drop 2))) with
      | false => rfl
      | true => rw [← (paR_yes hg).2.2] at h; rw [h]; rfl)
    exact ⟨⟨a, b⟩, c⟩
  · cases hg : (decide (2 ≤ l.length) && (decide (byI (l.getD 1 0) = 58) && allLt (l.drop 2))) with
    | false => rw [← (paR_no hg).2.2] at h; exact absurd h (by decide)
    | true =>
      obtain ⟨r1, r2, r3⟩ := paR_yes hg
      rw [← r3] at h
      obtain ⟨a, b, c⟩ := paC_yes (l := l) (by rw [e, hg, h]; rfl)
      exact ⟨⟨by rw [← r1]; exact a, by rw [← r2]; exact b⟩, c⟩
theorem iParse_fits : Fits Try.prog 9 ⟨[], iParse_ct⟩ := by
  refine fits_fn (Γ := gam iParse_G) (gok_cons readBraid_fits gok_nil) Try.func9 (by kernel_rfl) (by kernel_rfl) (by kernel_rfl) fun ds p h hp => ?_
  unfold iParse_ct at h
  split at h
  · cases h
    exact ⟨noWr, noAnn, by rw [iParse_vc]; exact iParse_ok _  hp⟩
  · cases h

def sParse_p (l : List UInt8) : Post := ⟨room (l.length + 1), .tup [.inr [.int .i64 ((paC l).1.1), .ints 2 .i64 ((paC l).1.2)], .inl (.int .i64 ((paC l).2))], []⟩
def sParse_ct : List AD → Option Post
  | [.c (.str (l))] => some (sParse_p l)
  | _ => none
def sParse_ann (l : List UInt8) : Nat → Option Ann
  | 0 => some (Ann.mk ((Nat) × (List UInt8) × (List UInt8)) (fun x => match x with | (i, p0, p1) => ⟨[(0, .c (.str (l))), (2, .c (.ptr 2 0)), (4, .c (.own (101))), (5, .c (.ptr 5 0)), (6, .c (.int .i64 ((i : Int))))], [(2, some (.box [.int .i64 (0), .nil])), (5, some (.box [.int .i64 (valF p0), .own (100)])), (100, some (.ints 2 .i64 (decL (p1.take i)))), (101, some (.strs 9 ([p0, p1])))]⟩) (fun x => match x with | (i, p0, p1) => i ≤ p1.length ∧ spA 58 [] l = [p0, p1] ∧ allLt (p1.take i) = true) (fun x => match x with | (i, p0, p1) => p1.length - i) (fun _ => noAnn))
  | _ => none
def sParse_G : List (Nat × Ctr) := [(29, ⟨[], l01Split_ct⟩), (30, ⟨[], l01Value_ct⟩), (31, ⟨[], l16Is_ct⟩), (32, ⟨[], l16Text_ct⟩)]
def sParse_V (l : List UInt8) : Prop :=
  (((Go.Sx.room (List.length l + (1 : Nat))) ∧
  (True)) ∧
  (BrP ((↑(List.length (Go.Sx.spA (58 : Int) [] l)) : Int) != (2 : Int))
    (((((0 : Int) = Prod.fst (Prod.fst (Go.Sx.paC l))) ∧
    (([] = Prod.snd (Prod.fst (Go.Sx.paC l))) ∧
    (True))) ∧
    (((6 : Int) = Prod.snd (Go.Sx.paC l)) ∧
    (True))) ∧
    (True))
    ((Go.Sx.inB (0 : Int) (List.length (Go.Sx.spA (58 : Int) [] l))) ∧
    (((True) ∧
    (True)) ∧
    ((∃ x0 : Nat × List UInt8 × List UInt8, (((Prod.fst x0 ≤ List.length (Prod.snd x0.2)) ∧
    ((Go.Sx.spA (58 : Int) [] l = [Prod.fst x0.2, Prod.snd x0.2]) ∧
    (Go.Sx.allLt (List.take (Prod.fst x0) (Prod.snd x0.2)) = Bool.true))) ∧
    ((l = l) ∧
    (((0 : Int) = (↑x0.1 : Int)) ∧
    (((0 : Int) = (0 : Int)) ∧
    ((Go.Sx.valF (List.getD (Go.Sx.spA (58 : Int) [] l) (0 : Nat) []) = Go.Sx.valF x0.2.1) ∧
    ((Go.Sx.decL (List.take x0.1 x0.2.2) = []) ∧
    (Go.Sx.spA (58 : Int) [] l = [x0.2.1, x0.2.2])))))))) ∧
    (∀ x1 : Nat × List UInt8 × List UInt8, (((Prod.fst x1 ≤ List.length (Prod.snd x1.2)) ∧
    ((Go.Sx.spA (58 : Int) [] l = [Prod.fst x1.2, Prod.snd x1.2]) ∧
    (Go.Sx.allLt (List.take (Prod.fst x1) (Prod.snd x1.2)) = Bool.true))) →
    ((Go.Sx.inB (1 : Int) (List.length [x1.2.1, x1.2.2])) ∧
    (BrP (Decidable.decide ((↑x1.1 : Int) < (↑(List.length (List.getD [x1.2.1, x1.2.2] (1 : Nat) [])) : Int)))
      ((Go.Sx.inB (1 : Int) (List.length [x1.2.1, x1.2.2])) ∧
      ((Go.Sx.inB (↑x1.1 : Int) (List.length (List.getD [x1.2.1, x1.2.2] (1 : Nat) []))) ∧
      (BrP (Decidable.decide ((97 : Int) ≤ (↑(UInt8.toNat (List.getD (List.getD [x1.2.1, x1.2.2] (1 : Nat) []) (Int.toNat (↑x1.1 : Int)) (0 : UInt8))) : Int)))
        (BrP (Decidable.decide ((↑(UInt8.toNat (List.getD (List.getD [x1.2.1, x1.2.2] (1 : Nat) []) (Int.toNat (↑x1.1 : Int)) (0 : UInt8))) : Int) ≤ (101 : Int)))
          ((Go.Sx.InR (Go.IntKind.wrap Go.IntKind.u8 ((↑(UInt8.toNat (List.getD (List.getD [x1.2.1, x1.2.2] (1 : Nat) []) (Int.toNat (↑x1.1 : Int)) (0 : UInt8))) : Int) - (97 : Int)))) ∧
          ((Go.Sx.InR (Go.IntKind.wrap Go.IntKind.u8 ((↑(UInt8.toNat (List.getD (List.getD [x1.2.1, x1.2.2] (1 : Nat) []) (Int.toNat (↑x1.1 : Int)) (0 : UInt8))) : Int) - (97 : Int)) + (1 : Int))) ∧
          ((Go.Sx.room (List.length (Go.Sx.decL (List.take x1.1 x1.2.2)) + List.length [Go.IntKind.wrap Go.IntKind.u8 ((↑(UInt8.toNat (List.getD (List.getD [x1.2.1, x1.2.2] (1 : Nat) []) (Int.toNat (↑x1.1 : Int)) (0 : UInt8))) : Int) - (97 : Int)) + (1 : Int)])) ∧
          ((Go.Sx.InR ((↑x1.1 : Int) + (1 : Int))) ∧
          (∃ x2 : Nat × List UInt8 × List UInt8, (((Prod.fst x2 ≤ List.length (Prod.snd x2.2)) ∧
          ((Go.Sx.spA (58 : Int) [] l = [Prod.fst x2.2, Prod.snd x2.2]) ∧
          (Go.Sx.allLt (List.take (Prod.fst x2) (Prod.snd x2.2)) = Bool.true))) ∧
          ((List.length (Prod.snd x2.2) - Prod.fst x2 < List.length (Prod.snd x1.2) - Prod.fst x1) ∧
          ((l = l) ∧
          (((↑x1.1 : Int) + (1 : Int) = (↑x2.1 : Int)) ∧
          (((0 : Int) = (0 : Int)) ∧
          ((Go.Sx.valF x1.2.1 = Go.Sx.valF x2.2.1) ∧
          ((Go.Sx.decL (List.take x1.1 x1.2.2) ++ [Go.IntKind.wrap Go.IntKind.u8 ((↑(UInt8.toNat (List.getD (List.getD [x1.2.1, x1.2.2] (1 : Nat) []) (Int.toNat (↑x1.1 : Int)) (0 : UInt8))) : Int) - (97 : Int)) + (1 : Int)] = Go.Sx.decL (List.take x2.1 x2.2.2)) ∧
          ([x1.2.1, x1.2.2] = [x2.2.1, x2.2.2])))))))))))))
          (BrP (Decidable.decide ((65 : Int) ≤ (↑(UInt8.toNat (List.getD (List.getD [x1.2.1, x1.2.2] (1 : Nat) []) (Int.toNat (↑x1.1 : Int)) (0 : UInt8))) : Int)))
            (BrP (Decidable.decide ((↑(UInt8.toNat (List.getD (List.getD [x1.2.1, x1.2.2] (1 : Nat) []) (Int.toNat (↑x1.1 : Int)) (0 : UInt8))) : Int) ≤ (69 : Int)))
              ((Go.Sx.InR (Go.IntKind.wrap Go.IntKind.u8 ((↑(UInt8.toNat (List.getD (List.getD [x1.2.1, x1.2.2] (1 : Nat) []) (Int.toNat (↑x1.1 : Int)) (0 : UInt8))) : Int) - (65 : Int)))) ∧
              ((Go.Sx.InR (-Go.IntKind.wrap Go.IntKind.u8 ((↑(UInt8.toNat (List.getD (List.getD [x1.2.1, x1.2.2] (1 : Nat) []) (Int.toNat (↑x1.1 : Int)) (0 : UInt8))) : Int) - (65 : Int)))) ∧
              ((Go.Sx.InR (-Go.IntKind.wrap Go.IntKind.u8 ((↑(UInt8.toNat (List.getD (List.getD [x1.2.1, x1.2.2] (1 : Nat) []) (Int.toNat (↑x1.1 : Int)) (0 : UInt8))) : Int) - (65 : Int)) - (1 : Int))) ∧
              ((Go.Sx.room (List.length (Go.Sx.decL (List.take x1.1 x1.2.2)) + List.length [-Go.IntKind.wrap Go.IntKind.u8 ((↑(UInt8.toNat (List.getD (List.getD [x1.2.1, x1.2.2] (1 : Nat) []) (Int.toNat (↑x1.1 : Int)) (0 : UInt8))) : Int) - (65 : Int)) - (1 : Int)])) ∧
              ((Go.Sx.InR ((↑x1.1 : Int) + (1 : Int))) ∧
              (∃ x3 : Nat × List UInt8 × List UInt8, (((Prod.fst x3 ≤ List.length (Prod.snd x3.2)) ∧
              ((Go.Sx.spA (58 : Int) [] l = [Prod.fst x3.2, Prod.snd x3.2]) ∧
              (Go.Sx.allLt (List.take (Prod.fst x3) (Prod.snd x3.2)) = Bool.true))) ∧
              ((List.length (Prod.snd x3.2) - Prod.fst x3 < List.length (Prod.snd x1.2) - Prod.fst x1) ∧
              ((l = l) ∧
              (((↑x1.1 : Int) + (1 : Int) = (↑x3.1 : Int)) ∧
              (((0 : Int) = (0 : Int)) ∧
              ((Go.Sx.valF x1.2.1 = Go.Sx.valF x3.2.1) ∧
              ((Go.Sx.decL (List.take x1.1 x1.2.2) ++ [-Go.IntKind.wrap Go.IntKind.u8 ((↑(UInt8.toNat (List.getD (List.getD [x1.2.1, x1.2.2] (1 : Nat) []) (Int.toNat (↑x1.1 : Int)) (0 : UInt8))) : Int) - (65 : Int)) - (1 : Int)] = Go.Sx.decL (List.take x3.1 x3.2.2)) ∧
              ([x1.2.1, x1.2.2] = [x3.2.1, x3.2.2]))))))))))))))
              (((((0 : Int) = Prod.fst (Prod.fst (Go.Sx.paC l))) ∧
              (([] = Prod.snd (Prod.fst (Go.Sx.paC l))) ∧
              (True))) ∧
              (((6 : Int) = Prod.snd (Go.Sx.paC l)) ∧
              (True))) ∧
              (True)))
            (((((0 : Int) = Prod.fst (Prod.fst (Go.Sx.paC l))) ∧
            (([] = Prod.snd (Prod.fst (Go.Sx.paC l))) ∧
            (True))) ∧
            (((6 : Int) = Prod.snd (Go.Sx.paC l)) ∧
            (True))) ∧
            (True))))
        (BrP (Decidable.decide ((65 : Int) ≤ (↑(UInt8.toNat (List.getD (List.getD [x1.2.1, x1.2.2] (1 : Nat) []) (Int.toNat (↑x1.1 : Int)) (0 : UInt8))) : Int)))
          (BrP (Decidable.decide ((↑(UInt8.toNat (List.getD (List.getD [x1.2.1, x1.2.2] (1 : Nat) []) (Int.toNat (↑x1.1 : Int)) (0 : UInt8))) : Int) ≤ (69 : Int)))
            ((Go.Sx.InR (Go.IntKind.wrap Go.IntKind.u8 ((↑(UInt8.toNat (List.getD (List.getD [x1.2.1, x1.2.2] (1 : Nat) []) (Int.toNat (↑x1.1 : Int)) (0 : UInt8))) : Int) - (65 : Int)))) ∧
            ((Go.Sx.InR (-Go.IntKind.wrap Go.IntKind.u8 ((↑(UInt8.toNat (List.getD (List.getD [x1.2.1, x1.2.2] (1 : Nat) []) (Int.toNat (↑x1.1 : Int)) (0 : UInt8))) : Int) - (65 : Int)))) ∧
            ((Go.Sx.InR (-Go.IntKind.wrap Go.IntKind.u8 ((↑(UInt8.toNat (List.getD (List.getD [x1.2.1, x1.2.2] (1 : Nat) []) (Int.toNat (↑x1.1 : Int)) (0 : UInt8))) : Int) - (65 : Int)) - (1 : Int))) ∧
            ((Go.Sx.room (List.length (Go.Sx.decL (List.take x1.1 x1.2.2)) + List.length [-Go.IntKind.wrap Go.IntKind.u8 ((↑(UInt8.toNat (List.getD (List.getD [x1.2.1, x1.2.2] (1 : Nat) []) (Int.toNat (↑x1.1 : Int)) (0 : UInt8))) : Int) - (65 : Int)) - (1 : Int)])) ∧
            ((Go.Sx.InR ((↑x1.1 : Int) + (1 : Int))) ∧
            (∃ x4 : Nat × List UInt8 × List UInt8, (((Prod.fst x4 ≤ List.length (Prod.snd x4.2)) ∧
            ((Go.Sx.spA (58 : Int) [] l = [Prod.fst x4.2, Prod.snd x4.2]) ∧
            (Go.Sx.allLt (List.take (Prod.fst x4) (Prod.snd x4.2)) = Bool.true))) ∧
            ((List.length (Prod.snd x4.2) - Prod.fst x4 < List.length (Prod.snd x1.2) - Prod.fst x1) ∧
            ((l = l) ∧
            (((↑x1.1 : Int) + (1 : Int) = (↑x4.1 : Int)) ∧
            (((0 : Int) = (0 : Int)) ∧
            ((Go.Sx.valF x1.2.1 = Go.Sx.valF x4.2.1) ∧
            ((Go.Sx.decL (List.take x1.1 x1.2.2) ++ [-Go.IntKind.wrap Go.IntKind.u8 ((↑(UInt8.toNat (List.getD (List.getD [x1.2.1, x1.2.2] (1 : Nat) []) (Int.toNat (↑x1.1 : Int)) (0 : UInt8))) : Int) - (65 : Int)) - (1 : Int)] = Go.Sx.decL (List.take x4.1 x4.2.2)) ∧
            ([x1.2.1, x1.2.2] = [x4.2.1, x4.2.2]))))))))))))))
            (((((0 : Int) = Prod.fst (Prod.fst (Go.Sx.paC l))) ∧
            (([] = Prod.snd (Prod.fst (Go.Sx.paC l))) ∧
            (True))) ∧
            (((6 : Int) = Prod.snd (Go.Sx.paC l)) ∧
            (True))) ∧
            (True)))
          (((((0 : Int) = Prod.fst (Prod.fst (Go.Sx.paC l))) ∧
          (([] = Prod.snd (Prod.fst (Go.Sx.paC l))) ∧
          (True))) ∧
          (((6 : Int) = Prod.snd (Go.Sx.paC l)) ∧
          (True))) ∧
          (True))))))
      (((Go.Sx.room (List.length (Go.Sx.decL (List.take x1.1 x1.2.2)))) ∧
      (True)) ∧
      (BrP (!Go.Sx.braidB (Go.Sx.valF x1.2.1) (Go.Sx.decL (List.take x1.1 x1.2.2)))
        (((((0 : Int) = Prod.fst (Prod.fst (Go.Sx.paC l))) ∧
        (([] = Prod.snd (Prod.fst (Go.Sx.paC l))) ∧
        (True))) ∧
        (((6 : Int) = Prod.snd (Go.Sx.paC l)) ∧
        (True))) ∧
        (True))
        (((Go.Sx.braidB (Go.Sx.valF x1.2.1) (Go.Sx.decL (List.take x1.1 x1.2.2)) = Bool.true) ∧
        (True)) ∧
        (BrP (!Go.Sx.sbytes (Go.Sx.txN (Go.Sx.valF x1.2.1) (Go.Sx.decL (List.take x1.1 x1.2.2)) (List.length (Go.Sx.decL (List.take x1.1 x1.2.2)))) == l)
          (((((0 : Int) = Prod.fst (Prod.fst (Go.Sx.paC l))) ∧
          (([] = Prod.snd (Prod.fst (Go.Sx.paC l))) ∧
          (True))) ∧
          (((6 : Int) = Prod.snd (Go.Sx.paC l)) ∧
          (True))) ∧
          (True))
          ((((Go.Sx.valF x1.2.1 = Prod.fst (Prod.fst (Go.Sx.paC l))) ∧
          ((Go.Sx.decL (List.take x1.1 x1.2.2) = Prod.snd (Prod.fst (Go.Sx.paC l))) ∧
          (True))) ∧
          (((0 : Int) = Prod.snd (Go.Sx.paC l)) ∧
          (True))) ∧
          (True)))))))))))))))
theorem sParse_vc (l : List UInt8) : runF Try.prog (gam sParse_G) noWr (sParse_ann l) Try.f8 (bodyOf Try.f8) [] [.c (.str (l))] (sParse_p l) = sParse_V l := by kernel_rfl
theorem sParse_ok (l : List UInt8) (hpre : (sParse_p l).pre) : sParse_V l := by
  simp only [sParse_p, sParse_V, BrP_iff, true_and, and_true, decide_eq_true_eq, decide_eq_false_iff_not, bne_iff_ne, beq_iff_eq, bne_eq_false_iff_eq, beq_eq_false_iff_ne, Bool.not_eq_true, Bool.not_eq_false, Bool.not_true, Bool.not_false, Bool.not_eq_eq_eq_not, Int.toNat_natCast, List.length_append, List.length_take, List.length_replicate, List.length_set, List.length_map, List.length_drop, List.length_nil, List.length_cons, markL_length, inB, InR, room, bdsOk] at hpre ⊢
  have eb : ∀ c : UInt8, ((c.toNat : Nat) : Int) = byI c := fun _ => rfl
  simp only [eb]
  have no : ¬ paB l = true → (0 = (paC l).1.1 ∧ [] = (paC l).1.2) ∧ 6 = (paC l).2 := fun h => by
    obtain ⟨a, b, c⟩ := paC_no (l := l) (by simpa using h)
    exact ⟨⟨a, b⟩, c⟩
  have sl := spA_len 58 l []
  refine ⟨hpre, fun h => no fun hc => ?_, fun h => ⟨by omega, ?_, ?_⟩⟩
  · obtain ⟨p0, p1, h1, _⟩ := pa_to hc
    rw [h1] at h
    simp at h
  · obtain ⟨p0, p1, hp⟩ : ∃ p0 p1, spA 58 [] l = [p0, p1] := by
      match hs : spA 58 [] l, h with
      | [p0, p1], _ => exact ⟨p0, p1, rfl⟩
      | [], h => simp at h
      | [_], h => simp at h
      | _ :: _ :: _ :: q, h => simp at h; omega
    refine ⟨(0, p0, p1), ⟨Nat.zero_le _, hp, rfl⟩, rfl, by rw [hp]; rfl, rfl, hp⟩
  · rintro ⟨i, p0, p1⟩ ⟨h3, h4, h5⟩
    dsimp only at h3 h4 h5 ⊢
    have g1 : [p0, p1].getD 1 [] = p1 := rfl
    rw [g1]
    have hl2 : p0.length + p1.length ≤ l.length + 1 := by
      have := spA_sum 58 l []
      rw [h4] at this
      simp at this
      omega
    have bad : (∃ k, k < p1.length ∧ leI (byI (p1.getD k 0)) = 0) → (0 = (paC l).1.1 ∧ [] = (paC l).1.2) ∧ 6 = (paC l).2 := fun ⟨k, hk, hz⟩ => no fun hc => by
      obtain ⟨q0, q1, k1, _, _, k4, _⟩ := pa_to hc
      rw [h4] at k1
      cases k1
      have := List.all_eq_true.1 k4 (p1.getD k 0) (getD_mem _ _ _ hk)
      rw [hz] at this
      exact absurd this (by decide)
    refine ⟨by simp, fun h6 => ?_, fun h6 => ?_⟩
    · have bi := byI_in (p1.getD i 0)
      have hlen : (decL (p1.take i)).length + 1 ≤ p1.length := by simp [decL]; omega
      have tk : p1.take (i + 1) = p1.take i ++ [p1.getD i 0] := (take_snoc p1 0 i (by omega)).symm
      have bad2 : leI (byI (p1.getD i 0)) = 0 → (0 = (paC l).1.1 ∧ [] = (paC l).1.2) ∧ 6 = (paC l).2 := fun hz => bad ⟨i, by omega, hz⟩
      have good : leI (byI (p1.getD i 0)) ≠ 0 → allLt (p1.take (i + 1)) = true ∧ decL (p1.take i) ++ [leI (byI (p1.getD i 0))] = decL (p1.take (i + 1)) := fun hz => by
        rw [tk]
        constructor
        · simp only [allLt, List.all_append, List.all_cons, List.all_nil, Bool.and_true, Bool.and_eq_true, decide_eq_true_eq]
          exact ⟨h5, hz⟩
        · simp [decL]
      have hup : 65 ≤ byI (p1.getD i 0) → byI (p1.getD i 0) ≤ 69 → leI (byI (p1.getD i 0)) = -(byI (p1.getD i 0) - 65) - 1 := fun q1 q2 => by
        rw [leI, if_neg (by omega), if_pos ⟨q1, q2⟩]; omega
      refine ⟨by simp, by omega, fun q1 => ⟨fun q2 => ?_, fun q2 => ⟨fun q3 => ⟨fun q4 => absurd q4 (by omega), fun q4 => bad2 (by rw [leI, if_neg (by omega), if_neg (by omega)])⟩, fun q3 => absurd q1 (by omega)⟩⟩, fun q1 => ⟨fun q3 => ⟨fun q4 => ?_, fun q4 => bad2 (by rw [leI, if_neg (by omega), if_neg (by omega)])⟩, fun q3 => bad2 (by rw [leI, if_neg (by omega), if_neg (by omega)])⟩⟩
      · have e : leI (byI (p1.getD i 0)) = byI (p1.getD i 0) - 97 + 1 := by rw [leI, if_pos ⟨q1, q2⟩]; omega
        obtain ⟨k1, k2⟩ := good (by omega)
        rw [u8In (by omega)]
        exact ⟨by omega, by omega, by omega, by omega, (i + 1, p0, p1), ⟨by dsimp only; omega, h4, k1⟩, by dsimp only; omega, by dsimp only; omega, rfl, by rw [← e]; exact k2, rfl⟩
      · have e := hup q3 q4
        obtain ⟨k1, k2⟩ := good (by omega)
        rw [u8In (by omega)]
        exact ⟨by omega, by omega, by omega, by omega, by omega, (i + 1, p0, p1), ⟨by dsimp only; omega, h4, k1⟩, by dsimp only; omega, by dsimp only; omega, rfl, by rw [← e]; exact k2, rfl⟩
    · have tk : p1.take i = p1 := List.take_of_length_le (by omega)
      rw [tk]
      refine ⟨by simp [decL]; omega, fun h7 => no fun hc => ?_, fun h7 => ⟨h7, fun h8 => no fun hc => ?_, fun h8 => ?_⟩⟩
      · obtain ⟨q0, q1, k1, _, _, _, k5, _⟩ := pa_to hc
        rw [h4] at k1
        cases k1
        rw [h7] at k5
        exact absurd k5 (by decide)
      · obtain ⟨q0, q1, k1, _, _, _, _, k6⟩ := pa_to hc
        rw [h4] at k1
        cases k1
        exact h8 k6
      · obtain ⟨k1, k2, k3⟩ := pa_of h7 h8
        obtain ⟨a, b, c⟩ := paC_yes k1
        exact ⟨⟨by rw [k2]; exact a, by rw [k3]; exact b⟩, c⟩
theorem sParse_fits : Fits Try.prog 8 ⟨[], sParse_ct⟩ := by
  refine fits_fn (Γ := gam sParse_G) (gok_cons l01Split_fits (gok_cons l01Value_fits (gok_cons l16Is_fits (gok_cons l16Text_fits gok_nil)))) Try.func8 (by kernel_rfl) (by kernel_rfl) (by kernel_rfl) fun ds p h hp => ?_
  unfold sParse_ct at h
  split at h
  · cases h
    exact ⟨noWr, sParse_ann _ , by rw [sParse_vc]; exact sParse_ok _  hp⟩
  · cases h

theorem paC_len {l : List UInt8} : (paC l).1.2.length ≤ 30 := by
  unfold paC
  split
  · rename_i h
    simp only [paB, Bool.and_eq_true, decide_eq_true_eq] at h
    exact braidB_len h.2.2.2
  · simp

def lParse_p (l : List UInt8) : Post := ⟨True, .c (.bool (true)), []⟩
def lParse_ct : List AD → Option Post
  | [.c (.str (l))] => some (lParse_p l)
  | _ => none
def lParse_G : List (Nat × Ctr) := [(10, ⟨[], eqBraid_ct⟩), (11, ⟨[(0, 1)], markBraid_ct⟩), (12, ⟨[], heldBraid_ct⟩), (8, ⟨[], sParse_ct⟩), (9, ⟨[], iParse_ct⟩)]
def lParse_V (l : List UInt8) : Prop :=
  (BrP (Decidable.decide ((1048576 : Int) < (↑(List.length l) : Int)))
    ((Bool.true = Bool.true) ∧
    (True))
    (((Go.Sx.room (List.length l + (1 : Nat))) ∧
    (True)) ∧
    (((Go.Sx.room (List.length l)) ∧
    (True)) ∧
    (((Go.Sx.room (List.length (Prod.snd (Prod.fst (Go.Sx.paC l))))) ∧
    (True)) ∧
    (BrP (!Decidable.decide (Prod.fst (Prod.fst (Go.Sx.paC l)) = Prod.fst (Prod.fst (Go.Sx.paC l)) ∧ Prod.snd (Prod.fst (Go.Sx.paC l)) = Prod.snd (Prod.fst (Go.Sx.paC l))))
      ((Bool.false = Bool.true) ∧
      (True))
      (BrP (Prod.snd (Go.Sx.paC l) != Prod.snd (Go.Sx.paC l))
        ((Bool.false = Bool.true) ∧
        (True))
        ((((Go.Sx.room (List.length (Prod.snd (Prod.fst (Go.Sx.paC l))))) ∧
        (((0 : Int) ≤ (1 : Int)) ∧
        ((1 : Int) ≤ (1099511627776 : Int)))) ∧
        ((List.length (Go.Sx.markL (1 : Int) (List.length (Prod.snd (Prod.fst (Go.Sx.paC l))))) = List.length (Prod.snd (Prod.fst (Go.Sx.paC l)))) ∧
        (True))) ∧
        ((((Go.Sx.room (List.length (Go.Sx.markL (1 : Int) (List.length (Prod.snd (Prod.fst (Go.Sx.paC l))))))) ∧
        (((0 : Int) ≤ (1 : Int)) ∧
        ((1 : Int) ≤ (1099511627776 : Int)))) ∧
        (True)) ∧
        (BrP (Decidable.decide ((if Go.Sx.markL (1 : Int) (List.length (Prod.snd (Prod.fst (Go.Sx.paC l)))) = Go.Sx.markL (1 : Int) (List.length (Go.Sx.markL (1 : Int) (List.length (Prod.snd (Prod.fst (Go.Sx.paC l)))))) then (1 : Int) + (↑(List.length (Go.Sx.markL (1 : Int) (List.length (Prod.snd (Prod.fst (Go.Sx.paC l)))))) : Int) else (-1 : Int)) < (0 : Int)))
          ((Bool.false = Bool.true) ∧
          (True))
          (BrP ((if Go.Sx.markL (1 : Int) (List.length (Prod.snd (Prod.fst (Go.Sx.paC l)))) = Go.Sx.markL (1 : Int) (List.length (Go.Sx.markL (1 : Int) (List.length (Prod.snd (Prod.fst (Go.Sx.paC l)))))) then (1 : Int) + (↑(List.length (Go.Sx.markL (1 : Int) (List.length (Prod.snd (Prod.fst (Go.Sx.paC l)))))) : Int) else (-1 : Int)) != (1 : Int) + (↑(List.length (Prod.snd (Prod.fst (Go.Sx.paC l)))) : Int))
            ((Bool.false = Bool.true) ∧
            (True))
            (((Go.Sx.room (List.length l)) ∧
            (True)) ∧
            (((Go.Sx.room (List.length (Prod.snd (Prod.fst (Go.Sx.paC l))))) ∧
            (True)) ∧
            (BrP (!Decidable.decide (Prod.fst (Prod.fst (Go.Sx.paC l)) = Prod.fst (Prod.fst (Go.Sx.paC l)) ∧ Prod.snd (Prod.fst (Go.Sx.paC l)) = Prod.snd (Prod.fst (Go.Sx.paC l))))
              ((Bool.false = Bool.true) ∧
              (True))
              (BrP (Prod.snd (Go.Sx.paC l) != Prod.snd (Go.Sx.paC l))
                ((Bool.false = Bool.true) ∧
                (True))
                ((((Go.Sx.room (List.length (Go.Sx.markL (1 : Int) (List.length (Prod.snd (Prod.fst (Go.Sx.paC l))))))) ∧
                (((0 : Int) ≤ (1 : Int)) ∧
                ((1 : Int) ≤ (1099511627776 : Int)))) ∧
                (True)) ∧
                (BrP (Decidable.decide ((if Go.Sx.markL (1 : Int) (List.length (Prod.snd (Prod.fst (Go.Sx.paC l)))) = Go.Sx.markL (1 : Int) (List.length (Go.Sx.markL (1 : Int) (List.length (Prod.snd (Prod.fst (Go.Sx.paC l)))))) then (1 : Int) + (↑(List.length (Go.Sx.markL (1 : Int) (List.length (Prod.snd (Prod.fst (Go.Sx.paC l)))))) : Int) else (-1 : Int)) < (0 : Int)))
                  ((Bool.false = Bool.true) ∧
                  (True))
                  (BrP ((if Go.Sx.markL (1 : Int) (List.length (Prod.snd (Prod.fst (Go.Sx.paC l)))) = Go.Sx.markL (1 : Int) (List.length (Go.Sx.markL (1 : Int) (List.length (Prod.snd (Prod.fst (Go.Sx.paC l)))))) then (1 : Int) + (↑(List.length (Go.Sx.markL (1 : Int) (List.length (Prod.snd (Prod.fst (Go.Sx.paC l)))))) : Int) else (-1 : Int)) != (1 : Int) + (↑(List.length (Prod.snd (Prod.fst (Go.Sx.paC l)))) : Int))
                    ((Bool.false = Bool.true) ∧
                    (True))
                    ((Bool.true = Bool.true) ∧
                    (True)))))))))))))))))))
theorem lParse_vc (l : List UInt8) : runF Try.prog (gam lParse_G) noWr noAnn Try.f3 (bodyOf Try.f3) [] [.c (.str (l))] (lParse_p l) = lParse_V l := by kernel_rfl
theorem lParse_ok (l : List UInt8) (hpre : (lParse_p l).pre) : lParse_V l := by
  simp only [lParse_p, lParse_V, BrP_iff, true_and, and_true, decide_eq_true_eq, decide_eq_false_iff_not, bne_iff_ne, beq_iff_eq, bne_eq_false_iff_eq, beq_eq_false_iff_ne, Bool.not_eq_true, Bool.not_eq_false, Bool.not_true, Bool.not_false, Bool.not_eq_eq_eq_not, Int.toNat_natCast, List.length_append, List.length_take, List.length_replicate, List.length_set, List.length_map, List.length_drop, List.length_nil, List.length_cons, markL_length, inB, InR, room, bdsOk] at hpre ⊢
  refine ⟨fun _ => trivial, fun h => ?_⟩
  have c1 := paC_len (l := l)
  have c2 : (paC l).1.2.length ≤ 1099511627776 := by omega
  have c3 : l.length ≤ 1099511627776 := by omega
  have c4 : l.length + 1 ≤ 1099511627776 := by omega
  have c6 : ¬ (1 + ((paC l).1.2.length : Int) < 0) := by omega
  simp [c2, c3, c4, c6]
theorem lParse_fits : Fits Try.prog 3 ⟨[], lParse_ct⟩ := by
  refine fits_fn (Γ := gam lParse_G) (gok_cons eqBraid_fits (gok_cons markBraid_fits (gok_cons heldBraid_fits (gok_cons sParse_fits (gok_cons iParse_fits gok_nil))))) Try.func3 (by kernel_rfl) (by kernel_rfl) (by kernel_rfl) fun ds p h hp => ?_
  unfold lParse_ct at h
  split at h
  · cases h
    exact ⟨noWr, noAnn, by rw [lParse_vc]; exact lParse_ok _  hp⟩
  · cases h

end Go.Sx

