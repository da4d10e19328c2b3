/- CcnL -/
import Derived.Test.YtcfbmimjffkgdaaCbC
import Derived.Test.YtcfbmimjffkgdaaCnt
import Derived.Test.YtcfbmimjffkgdaaDrawC
open Go Go.Proofs
namespace Go.Sx
set_option linter.unusedSimpArgs false
set_option linter.unusedVariables false

theorem szM_val {m : Int} : ∀ (k : Nat) (s z : Int), szM m k s = some z → z = s * m ^ k
  | 0, s, z, h => by simp only [szM, Option.some.injEq] at h; rw [← h]; simp
  | k + 1, s, z, h => by
    simp only [szM] at h
    split at h
    · cases h
    · rw [szM_val k _ _ h, Int.pow_succ, Int.mul_assoc, Int.mul_comm m]

theorem szM_le {m : Int} : ∀ (k : Nat) (s z : Int), s ≤ 100000 → szM m k s = some z → z ≤ 100000
  | 0, s, z, hs, h => by simp only [szM, Option.some.injEq] at h; omega
  | k + 1, s, z, hs, h => by
    simp only [szM] at h
    split at h
    · cases h
    · exact szM_le k _ _ (by omega) h

theorem stC_dg {p : Nat} (hp : 1 ≤ p) (n k : Nat) : ∀ c, stC (cntS (p : Int)) n (k : Int) c = ((k / p ^ c : Nat) : Int)
  | 0 => by simp [stC]
  | c + 1 => by
    show (stC (cntS (p : Int)) n (k : Int) c).tdiv (p : Int) = _
    rw [stC_dg hp n k c, Nat.pow_succ, ← Nat.div_div_eq_div_mul]
    rfl

theorem cnt_en {p : Nat} (hp : 1 ≤ p) (n k : Nat) {x y : Nat} (hx : x < n) (hy : y < n) : en (stT (cntS (p : Int)) n (k : Int)) x y = dg p k (x * n + y) := by
  rw [en, stT, tabR_getD _ _ _ hx, tab_getD _ _ _ hy]
  show (stC (cntS (p : Int)) n (k : Int) (x * n + y)).tmod (p : Int) = _
  rw [stC_dg hp]
  rfl

theorem cntK_cN (t : List (List Int)) (m : Int) : ∀ k, cntK t m k = (cN (fun k => (rcF t m (stT (cntS m) t.length (k : Int))).isNone) k : Int)
  | 0 => rfl
  | k + 1 => by
    simp only [cntK, cN]
    rw [cntK_cN t m k]
    split <;> simp

/-- The rack cocycles are as many as the modulus to the power of the number of rows of the basis. -/
theorem cnt_basis {t : List (List Int)} (ht : tabB t = true) {p : Nat} (hp : primeB (p : Int) = true) : cntK t (p : Int) (p ^ (t.length * t.length)) = (p : Int) ^ (kbL t (p : Int)).length := by
  obtain ⟨p2, _⟩ := primeB_le hp
  have R := crows_rws (t := t) p2
  rw [cntK_cN]
  have := ort_cnt hp R (fun k => (rcF t (p : Int) (stT (cntS (p : Int)) t.length (k : Int))).isNone) fun k _ => by
    rw [rc_coc ht p2 (g := dg p k) fun x y hx hy => ⟨cnt_en (by omega) t.length k hx hy, by rw [cnt_en (by omega) t.length k hx hy]; unfold dg; omega⟩, crows_length]
    refine forall_congr' fun i => forall_congr' fun hi => ?_
    rw [sm_ext (g := fun q => at2 (crows t (p : Int)) i q * dg p k q) fun q _ => by rw [at2, crows_getD t _ i hi]]
  rw [this]
  exact Int.natCast_pow _ _

theorem kb_len {t : List (List Int)} {p : Int} (hp : primeB p = true) : (kbL t p).length ≤ t.length * t.length := by
  obtain ⟨p2, _⟩ := primeB_le hp
  have R := crows_rws (t := t) p2
  have a := cba_len hp R
  have b := nfr_all (red_rref hp R).1
  unfold kbL
  omega

/-- What the statement asks for. -/
theorem ccn_ok {t : List (List Int)} {m : Int} (hl : t.length ≤ 8) (h0 : (rcnC t m).2 = 0) (hm : m = 2 ∨ m = 3) :
    (kbC t m).2 = 0 ∧ m ^ (kbC t m).1.length = (rcnC t m).1 ∧ (rcnC t m).1 ≤ 100000 ∧ (kbC t m).1.length ≤ 64 := by
  unfold rcnC at h0 ⊢
  split at h0
  · rename_i hr
    rw [if_pos hr]
    rw [if_pos (show 1 ≤ m ∧ m ≤ 12 by omega)] at h0 ⊢
    have ht := rackB_tab hr
    have n1 := (tabB_of ht).1
    have pr : primeB m = true := by simp [primeB]; omega
    have dg3 : degB (t.length : Int) 3 = true := by
      have : t.length = 1 ∨ t.length = 2 ∨ t.length = 3 ∨ t.length = 4 ∨ t.length = 5 ∨ t.length = 6 ∨ t.length = 7 ∨ t.length = 8 := by omega
      rcases this with e | e | e | e | e | e | e | e <;> rw [e] <;> decide
    have e : kbC t m = (kbL t m, 0) := by rw [kbC, if_pos hr, if_pos pr, if_pos dg3]
    rw [e]
    split at h0
    · cases h0
    · rename_i z hz
      dsimp only
      have zv := szM_val _ _ _ hz
      have zl := szM_le _ _ _ (by omega) hz
      have kl := kb_len (t := t) pr
      have k64 : t.length * t.length ≤ 64 := Nat.mul_le_mul hl hl
      have ev : ∃ p : Nat, m = (p : Int) := ⟨m.toNat, by omega⟩
      obtain ⟨p, rfl⟩ := ev
      have zt : z.toNat = p ^ (t.length * t.length) := by
        rw [zv, Int.one_mul, ← Int.natCast_pow]; rfl
      have c := cnt_basis ht pr
      have q := cntK_in t (p : Int) z.toNat
      rw [← zt] at c
      exact ⟨rfl, c.symm, by omega, by omega⟩
  · cases h0

theorem powm_le {m : Int} (hm : m = 2 ∨ m = 3) {i n : Nat} (h : i ≤ n) : 1 ≤ m ^ i ∧ m ^ i ≤ m ^ n := by
  have ev : ∃ p : Nat, m = (p : Int) := ⟨m.toNat, by omega⟩
  obtain ⟨p, rfl⟩ := ev
  rw [← Int.natCast_pow, ← Int.natCast_pow]
  have a := Nat.pow_le_pow_right (show 0 < p by omega) h
  have b := Nat.pow_pos (n := i) (show 0 < p by omega)
  omega

/-- The loop that multiplies. -/
theorem ccn_walk {t : List (List Int)} {m : Int} (hl : t.length ≤ 6) (h0 : (rcnC t m).2 = 0) (hm : m = 2 ∨ m = 3) :
    (∃ x0 : Nat, (x0 ≤ (kbC t m).1.length ∧ (rcnC t m).2 = 0 ∧ (m = 2 ∨ m = 3)) ∧ True ∧ True ∧ 1 = m ^ x0 ∧ (0 : Int) = (x0 : Int) ∧ True) ∧
    ∀ x1 : Nat, x1 ≤ (kbC t m).1.length ∧ (rcnC t m).2 = 0 ∧ (m = 2 ∨ m = 3) →
      ((x1 : Int) < ((kbC t m).1.length : Int) → (-9223372036854775808 ≤ m ^ x1 * m ∧ m ^ x1 * m ≤ 9223372036854775807) ∧ (-9223372036854775808 ≤ (x1 : Int) + 1 ∧ (x1 : Int) + 1 ≤ 9223372036854775807) ∧
        ∃ x2 : Nat, (x2 ≤ (kbC t m).1.length ∧ (rcnC t m).2 = 0 ∧ (m = 2 ∨ m = 3)) ∧ (kbC t m).1.length - x2 < (kbC t m).1.length - x1 ∧ m ^ x1 * m = m ^ x2 ∧ (x1 : Int) + 1 = (x2 : Int)) ∧
      (¬ (x1 : Int) < ((kbC t m).1.length : Int) → ((kbC t m).2 = 0 → m ^ x1 = (rcnC t m).1) ∧ ((kbC t m).2 ≠ 0 → false = true)) := by
  obtain ⟨c1, c2, c3, c4⟩ := ccn_ok (t := t) (m := m) (by omega) h0 hm
  refine ⟨⟨0, ⟨Nat.zero_le _, h0, hm⟩, trivial, trivial, by simp, rfl, trivial⟩, fun i ⟨hi, _⟩ => ⟨fun h => ?_, fun h => ?_⟩⟩
  · have a := powm_le hm (show i + 1 ≤ (kbC t m).1.length by omega)
    rw [Int.pow_succ] at a
    exact ⟨by omega, by omega, i + 1, ⟨by omega, h0, hm⟩, by omega, (Int.pow_succ m i).symm, by omega⟩
  · exact ⟨fun _ => by rw [show i = (kbC t m).1.length by omega]; exact c2, fun h => absurd c1 h⟩

def cY (code : List Int) : Dy := drY code 0 (frH code code.length) 4
def cN' (code : List Int) : Nat := (cY code).1.length - (cY code).2.1
def cM (code : List Int) : Int := [(1 : Int), 2, 2, 3, 0, 13, 12].getD (nxV code (cY code).2.2.1 (cY code).2.2.2 7).toNat 0

def cT (code : List Int) : List (List Int) := yT (cY code)

theorem cY_ok {code : List Int} (hb : bytesB code) : okY code (cY code) := drY_ok hb (by omega) (by omega) (by omega) (by omega)

def DrawCntRC_p (code : List Int) : Post := ⟨bytesB code ∧ code.length ≤ 4096, .tup [.inr [.cut ((cY code).2.1) (cN' code) 46 2 .i64 ((cY code).1)], .inl (.int .i64 (cM code))], []⟩
def DrawCntRC_ct : List AD → Option Post
  | [.c (.ints .u8 (code))] => some (DrawCntRC_p code)
  | _ => none
def DrawCntRC_G : List (Nat × Ctr) := [(58, ⟨[], l01From_ct⟩), (59, ⟨[(0, 0)], l03DrawAny_ct⟩), (60, ⟨[(0, 0)], l01Pick_ct⟩)]
def DrawCntRC_V (code : List Int) : Prop :=
  ((((bytesB code) ∧
 (List.length code ≤ (4096 : Nat))) ∧
 (True)) ∧
 ((((bytesB code) ∧
 ((List.length code ≤ (4096 : Nat)) ∧
 (((0 : Int) ≤ (0 : Int)) ∧
 (((0 : Int) ≤ (↑(List.length code) : Int)) ∧
 (((1 : Int) ≤ (4 : Int)) ∧
 ((4 : Int) ≤ (6 : Int))))))) ∧
 ((code = code) ∧
 (True))) ∧
 ((((bytesB code) ∧
 (((0 : Int) ≤ Prod.fst (Prod.snd (Prod.snd (drY code (0 : Int) (frH code (List.length code)) (4 : Int))))) ∧
 ((Prod.fst (Prod.snd (Prod.snd (drY code (0 : Int) (frH code (List.length code)) (4 : Int)))) ≤ (1099511627776 : Int)) ∧
 (((1 : Nat) ≤ List.length [(1 : Int), (2 : Int), (2 : Int), (3 : Int), (0 : Int), (13 : Int), (12 : Int)]) ∧
 (List.length [(1 : Int), (2 : Int), (2 : Int), (3 : Int), (0 : Int), (13 : Int), (12 : Int)] ≤ (100 : Nat)))))) ∧
 ((code = code) ∧
 (True))) ∧
 (((((Prod.fst (Prod.snd (drY code (0 : Int) (frH code (List.length code)) (4 : Int))) = Prod.fst (Prod.snd (cY code))) ∧
 ((List.length (Prod.fst (drY code (0 : Int) (frH code (List.length code)) (4 : Int))) - Prod.fst (Prod.snd (drY code (0 : Int) (frH code (List.length code)) (4 : Int))) = cN' code) ∧
 (Prod.fst (drY code (0 : Int) (frH code (List.length code)) (4 : Int)) = Prod.fst (cY code)))) ∧
 (True)) ∧
 ((List.getD [(1 : Int), (2 : Int), (2 : Int), (3 : Int), (0 : Int), (13 : Int), (12 : Int)] (Int.toNat (nxV code (Prod.fst (Prod.snd (Prod.snd (drY code (0 : Int) (frH code (List.length code)) (4 : Int))))) (Prod.snd (Prod.snd (Prod.snd (drY code (0 : Int) (frH code (List.length code)) (4 : Int))))) (↑(List.length [(1 : Int), (2 : Int), (2 : Int), (3 : Int), (0 : Int), (13 : Int), (12 : Int)]) : Int))) (0 : Int) = cM code) ∧
 (True))) ∧
 (True)))))
theorem DrawCntRC_vc (code : List Int) : runF Try.prog (gam DrawCntRC_G) noWr noAnn Try.f17 (bodyOf Try.f17) [] [.c (.ints .u8 (code))] (DrawCntRC_p code) = DrawCntRC_V code := by kernel_rfl
theorem DrawCntRC_ok (code : List Int) (hpre : (DrawCntRC_p code).pre) : DrawCntRC_V code := by
  simp only [DrawCntRC_p, DrawCntRC_V, BrP_iff, true_and, and_true, decide_eq_true_eq, decide_eq_false_iff_not, bne_iff_ne, beq_iff_eq, bne_eq_false_iff_eq, beq_eq_false_iff_ne, Bool.not_eq_true, Bool.not_eq_false, Bool.not_true, Bool.not_false, Bool.not_eq_eq_eq_not, Int.toNat_natCast, List.length_append, List.length_take, List.length_replicate, List.length_set, List.length_map, List.length_drop, List.length_nil, List.length_cons, markL_length, inB, InR, room, bdsOk] at hpre ⊢
  obtain ⟨hb, hc⟩ := hpre
  have K := cY_ok hb
  have e : drY code 0 (frH code code.length) 4 = cY code := rfl
  simp only [e]
  obtain ⟨k1, k2, k3, k4, k5, k6⟩ := K
  exact ⟨⟨hb, hc⟩, ⟨hb, hc, by omega, by omega, by omega, by omega⟩, ⟨hb, k5, by omega, by omega, by omega⟩, ⟨trivial, rfl, trivial⟩, rfl⟩
theorem DrawCntRC_fits : Fits Try.prog 17 ⟨[], DrawCntRC_ct⟩ := by
  refine fits_fn (Γ := gam DrawCntRC_G) (gok_cons l01From_fits (gok_cons l03DrawAny_fits (gok_cons l01Pick_fits gok_nil))) Try.func17 (by kernel_rfl) (by kernel_rfl) (by kernel_rfl) fun ds p h hp => ?_
  unfold DrawCntRC_ct at h
  split at h
  · cases h
    exact ⟨noWr, noAnn, by rw [DrawCntRC_vc]; exact DrawCntRC_ok _  hp⟩
  · cases h

def lCcn_p (code : List Int) : Post := ⟨bytesB code, .c (.bool (true)), []⟩
def lCcn_ct : List AD → Option Post
  | [.c (.ints .u8 (code))] => some (lCcn_p code)
  | _ => none
def lCcn_ann (code : List Int) : Nat → Option Ann
  | 0 => some (Ann.mk ((Nat)) (fun i => ⟨[(4, .c (.int .i64 (cM code))), (5, .c (.int .i64 ((rcnC (cT code) (cM code)).1))), (9, .c (.own (53))), (10, .c (.int .i64 ((kbC (cT code) (cM code)).2))), (11, .c (.int .i64 (cM code ^ i))), (12, .c (.int .i64 ((i : Int))))], [(53, some (.rows 0 46 2 .i64 ((kbC (cT code) (cM code)).1)))]⟩) (fun i => i ≤ (kbC (cT code) (cM code)).1.length ∧ (rcnC (cT code) (cM code)).2 = 0 ∧ (cM code = 2 ∨ cM code = 3)) (fun i => (kbC (cT code) (cM code)).1.length - i) (fun _ => noAnn))
  | _ => none
def lCcn_G : List (Nat × Ctr) := [(16, ⟨[], big_ct⟩), (17, ⟨[], DrawCntRC_ct⟩), (18, ⟨[], iCntRC_ct⟩), (19, ⟨[], sCntRC_ct⟩), (10, ⟨[], iKb_ct⟩)]
def lCcn_V (code : List Int) : Prop :=
  (((True) ∧
 (True)) ∧
 (BrP (Decidable.decide ((4096 : Int) < (↑(List.length code) : Int)))
 ((Bool.true = Bool.true) ∧
 (True))
 ((((bytesB code) ∧
 (List.length code ≤ (4096 : Nat))) ∧
 (True)) ∧
 (((roomR (List.take (cN' code) (List.drop (Prod.fst (Prod.snd (cY code))) (Prod.fst (cY code))))) ∧
 (True)) ∧
 (((roomR (List.take (cN' code) (List.drop (Prod.fst (Prod.snd (cY code))) (Prod.fst (cY code))))) ∧
 (True)) ∧
 (BrP (Prod.snd (rcnC (List.take (cN' code) (List.drop (Prod.fst (Prod.snd (cY code))) (Prod.fst (cY code)))) (cM code)) != Prod.snd (rcnC (List.take (cN' code) (List.drop (Prod.fst (Prod.snd (cY code))) (Prod.fst (cY code)))) (cM code)))
 ((Bool.false = Bool.true) ∧
 (True))
 (BrP (Prod.fst (rcnC (List.take (cN' code) (List.drop (Prod.fst (Prod.snd (cY code))) (Prod.fst (cY code)))) (cM code)) != Prod.fst (rcnC (List.take (cN' code) (List.drop (Prod.fst (Prod.snd (cY code))) (Prod.fst (cY code)))) (cM code)))
 ((Bool.false = Bool.true) ∧
 (True))
 (BrP (Prod.snd (rcnC (List.take (cN' code) (List.drop (Prod.fst (Prod.snd (cY code))) (Prod.fst (cY code)))) (cM code)) != (0 : Int))
 ((Bool.true = Bool.true) ∧
 (True))
 (BrP (cM code != (2 : Int))
 (BrP (cM code != (3 : Int))
 ((Bool.true = Bool.true) ∧
 (True))
 (((roomR (List.take (cN' code) (List.drop (Prod.fst (Prod.snd (cY code))) (Prod.fst (cY code))))) ∧
 (True)) ∧
 ((∃ x0 : Nat, (((x0 ≤ List.length (Prod.fst (kbC (cT code) (cM code)))) ∧
 ((Prod.snd (rcnC (cT code) (cM code)) = (0 : Int)) ∧
 (cM code = (2 : Int) ∨ cM code = (3 : Int)))) ∧
 ((cM code = cM code) ∧
 ((Prod.fst (rcnC (List.take (cN' code) (List.drop (Prod.fst (Prod.snd (cY code))) (Prod.fst (cY code)))) (cM code)) = Prod.fst (rcnC (cT code) (cM code))) ∧
 ((Prod.snd (kbC (List.take (cN' code) (List.drop (Prod.fst (Prod.snd (cY code))) (Prod.fst (cY code)))) (cM code)) = Prod.snd (kbC (cT code) (cM code))) ∧
 (((1 : Int) = cM code ^ x0) ∧
 (((0 : Int) = (↑x0 : Int)) ∧
 (Prod.fst (kbC (List.take (cN' code) (List.drop (Prod.fst (Prod.snd (cY code))) (Prod.fst (cY code)))) (cM code)) = Prod.fst (kbC (cT code) (cM code)))))))))) ∧
 (∀ x1 : Nat, (((x1 ≤ List.length (Prod.fst (kbC (cT code) (cM code)))) ∧
 ((Prod.snd (rcnC (cT code) (cM code)) = (0 : Int)) ∧
 (cM code = (2 : Int) ∨ cM code = (3 : Int)))) →
 (BrP (Decidable.decide ((↑x1 : Int) < (↑(List.length (Prod.fst (kbC (cT code) (cM code)))) : Int)))
 ((InR (cM code ^ x1 * cM code)) ∧
 ((InR ((↑x1 : Int) + (1 : Int))) ∧
 (∃ x2 : Nat, (((x2 ≤ List.length (Prod.fst (kbC (cT code) (cM code)))) ∧
 ((Prod.snd (rcnC (cT code) (cM code)) = (0 : Int)) ∧
 (cM code = (2 : Int) ∨ cM code = (3 : Int)))) ∧
 ((List.length (Prod.fst (kbC (cT code) (cM code))) - x2 < List.length (Prod.fst (kbC (cT code) (cM code))) - x1) ∧
 ((cM code = cM code) ∧
 ((Prod.fst (rcnC (cT code) (cM code)) = Prod.fst (rcnC (cT code) (cM code))) ∧
 ((Prod.snd (kbC (cT code) (cM code)) = Prod.snd (kbC (cT code) (cM code))) ∧
 ((cM code ^ x1 * cM code = cM code ^ x2) ∧
 (((↑x1 : Int) + (1 : Int) = (↑x2 : Int)) ∧
 (Prod.fst (kbC (cT code) (cM code)) = Prod.fst (kbC (cT code) (cM code)))))))))))))
 (BrP (Prod.snd (kbC (cT code) (cM code)) == (0 : Int))
 (((cM code ^ x1 == Prod.fst (rcnC (cT code) (cM code))) = Bool.true) ∧
 (True))
 ((Bool.false = Bool.true) ∧
 (True)))))))))
 (((roomR (List.take (cN' code) (List.drop (Prod.fst (Prod.snd (cY code))) (Prod.fst (cY code))))) ∧
 (True)) ∧
 ((∃ x3 : Nat, (((x3 ≤ List.length (Prod.fst (kbC (cT code) (cM code)))) ∧
 ((Prod.snd (rcnC (cT code) (cM code)) = (0 : Int)) ∧
 (cM code = (2 : Int) ∨ cM code = (3 : Int)))) ∧
 ((cM code = cM code) ∧
 ((Prod.fst (rcnC (List.take (cN' code) (List.drop (Prod.fst (Prod.snd (cY code))) (Prod.fst (cY code)))) (cM code)) = Prod.fst (rcnC (cT code) (cM code))) ∧
 ((Prod.snd (kbC (List.take (cN' code) (List.drop (Prod.fst (Prod.snd (cY code))) (Prod.fst (cY code)))) (cM code)) = Prod.snd (kbC (cT code) (cM code))) ∧
 (((1 : Int) = cM code ^ x3) ∧
 (((0 : Int) = (↑x3 : Int)) ∧
 (Prod.fst (kbC (List.take (cN' code) (List.drop (Prod.fst (Prod.snd (cY code))) (Prod.fst (cY code)))) (cM code)) = Prod.fst (kbC (cT code) (cM code)))))))))) ∧
 (∀ x4 : Nat, (((x4 ≤ List.length (Prod.fst (kbC (cT code) (cM code)))) ∧
 ((Prod.snd (rcnC (cT code) (cM code)) = (0 : Int)) ∧
 (cM code = (2 : Int) ∨ cM code = (3 : Int)))) →
 (BrP (Decidable.decide ((↑x4 : Int) < (↑(List.length (Prod.fst (kbC (cT code) (cM code)))) : Int)))
 ((InR (cM code ^ x4 * cM code)) ∧
 ((InR ((↑x4 : Int) + (1 : Int))) ∧
 (∃ x5 : Nat, (((x5 ≤ List.length (Prod.fst (kbC (cT code) (cM code)))) ∧
 ((Prod.snd (rcnC (cT code) (cM code)) = (0 : Int)) ∧
 (cM code = (2 : Int) ∨ cM code = (3 : Int)))) ∧
 ((List.length (Prod.fst (kbC (cT code) (cM code))) - x5 < List.length (Prod.fst (kbC (cT code) (cM code))) - x4) ∧
 ((cM code = cM code) ∧
 ((Prod.fst (rcnC (cT code) (cM code)) = Prod.fst (rcnC (cT code) (cM code))) ∧
 ((Prod.snd (kbC (cT code) (cM code)) = Prod.snd (kbC (cT code) (cM code))) ∧
 ((cM code ^ x4 * cM code = cM code ^ x5) ∧
 (((↑x4 : Int) + (1 : Int) = (↑x5 : Int)) ∧
 (Prod.fst (kbC (cT code) (cM code)) = Prod.fst (kbC (cT code) (cM code)))))))))))))
 (BrP (Prod.snd (kbC (cT code) (cM code)) == (0 : Int))
 (((cM code ^ x4 == Prod.fst (rcnC (cT code) (cM code))) = Bool.true) ∧
 (True))
 ((Bool.false = Bool.true) ∧
 (True)))))))))))))))))
theorem lCcn_vc (code : List Int) : runF Try.prog (gam lCcn_G) noWr (lCcn_ann code) Try.f4 (bodyOf Try.f4) [] [.c (.ints .u8 (code))] (lCcn_p code) = lCcn_V code := by kernel_rfl
theorem lCcn_ok (code : List Int) (hpre : (lCcn_p code).pre) : lCcn_V code := by
  simp only [lCcn_p, lCcn_V, BrP_iff, true_and, and_true, decide_eq_true_eq, decide_eq_false_iff_not, bne_iff_ne, beq_iff_eq, bne_eq_false_iff_eq, beq_eq_false_iff_ne, Bool.not_eq_true, Bool.not_eq_false, Bool.not_true, Bool.not_false, Bool.not_eq_eq_eq_not, Int.toNat_natCast, List.length_append, List.length_take, List.length_replicate, List.length_set, List.length_map, List.length_drop, List.length_nil, List.length_cons, markL_length, inB, InR, room, bdsOk] at hpre ⊢
  have eT : List.take (cN' code) (List.drop (cY code).2.1 (cY code).1) = cT code := rfl
  simp only [eT]
  refine ⟨fun _ => trivial, fun hc => ?_⟩
  have T : roomR (cT code) := yT_room (cY_ok hpre)
  have TL : (cT code).length ≤ 6 := by
    have := (cY_ok hpre).2.1
    rw [cT, yT_length]; omega
  generalize cT code = t at T TL ⊢
  generalize cM code = m
  refine ⟨⟨hpre, by omega⟩, T, T, fun h => absurd rfl h, fun _ => ⟨fun h => absurd rfl h, fun _ => ⟨fun _ => trivial, fun h0 => ⟨fun n2 => ⟨fun _ => trivial, fun h3 => ?_⟩, fun h2 => ?_⟩⟩⟩⟩
  · exact ⟨T, ccn_walk TL h0 (.inr h3)⟩
  · exact ⟨T, ccn_walk TL h0 (.inl h2)⟩
theorem lCcn_fits : Fits Try.prog 4 ⟨[], lCcn_ct⟩ := by
  refine fits_fn (Γ := gam lCcn_G) (gok_cons big_fits (gok_cons DrawCntRC_fits (gok_cons iCntRC_fits (gok_cons sCntRC_fits (gok_cons iKb_fits gok_nil))))) Try.func4 (by kernel_rfl) (by kernel_rfl) (by kernel_rfl) fun ds p h hp => ?_
  unfold lCcn_ct at h
  split at h
  · cases h
    exact ⟨noWr, lCcn_ann _ , by rw [lCcn_vc]; exact lCcn_ok _  hp⟩
  · cases h

end Go.Sx
