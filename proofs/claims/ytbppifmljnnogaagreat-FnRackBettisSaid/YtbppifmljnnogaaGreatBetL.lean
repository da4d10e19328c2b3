/- BetL -/
import Derived.Test.YtbppifmljnnogaaGreatOrbI
import Derived.Test.YtbppifmljnnogaaGreatDrawI
open Go Go.Proofs
namespace Go.Sx
set_option linter.unusedSimpArgs false
set_option linter.unusedVariables false
def roC (t : List (List Int)) : List Int × Int := if rackB t = true then ((blN t t.length).1, 0) else ([], 1)
def RackOrbits_p (t : List (List Int)) : Post := ⟨roomR t, .tup [.inl (.ints 2 .i64 ((roC t).1)), .inl (.int .i64 ((roC t).2))], []⟩
def RackOrbits_ct : List AD → Option Post
  | [.agg [.rows .i64 (t)]] => some (RackOrbits_p t)
  | _ => none
def RackOrbits_G : List (Nat × Ctr) := [(24, ⟨[], IsRack_ct⟩), (55, ⟨[], orbitLabels_ct⟩)]
def RackOrbits_V (t : List (List Int)) : Prop :=
 (((roomR t)∧True)∧(BrP (!rackB t) ((([] = (roC t).1)∧(((1:Int) = (roC t).2)∧True))∧True) ((((rackB t = true)∧((↑(t.length):Int) = (↑(t.length):Int)))∧True)∧((((blN t (t.length)).1 = (roC t).1)∧(((0:Int) = (roC t).2)∧True))∧True))))
theorem RackOrbits_vc (t : List (List Int)) : runF Tryz.prog (gam RackOrbits_G) noWr noAnn Tryz.f14 (bodyOf Tryz.f14) [] [.agg [.rows .i64 (t)]] (RackOrbits_p t) = RackOrbits_V t := by kernel_rfl
theorem RackOrbits_ok (t : List (List Int)) (hpre : (RackOrbits_p t).pre) : RackOrbits_V t := by
  simp only [RackOrbits_p, RackOrbits_V, BrP_iff, u1, u2, u3, u4, u5, u6, u7, u8, u9, v1, v2, v3, v4, v5, v6, v7, v8, v9, w1, w2, w3, w4, markL_length, inB, InR, room, bdsOk] at hpre ⊢
  refine ⟨hpre, fun h => ?_, fun h => ?_⟩
  · rw [roC, if_neg (by rw [h]; decide)]; exact ⟨rfl, rfl⟩
  · rw [roC, if_pos h]; exact ⟨h, rfl, rfl⟩
theorem RackOrbits_fits : Fits Tryz.prog 14 ⟨[], RackOrbits_ct⟩ := by
  refine ffn (Γ := gam RackOrbits_G) (gok_cons IsRack_fits (gok_cons orbitLabels_fits gok_nil)) Tryz.func14 fun ds p h hp => ?_
  unfold RackOrbits_ct at h
  split at h
  · cases h
    exact ⟨noWr, noAnn, by rw [RackOrbits_vc]; exact RackOrbits_ok _  hp⟩
  · cases h
def top5_p (l : List Int) : Post := ⟨room l.length ∧ ∀ i, i < l.length → -1 ≤ l.getD i 0 ∧ l.getD i 0 ≤ 1000, .c (.int .i64 (tpN l l.length)), []⟩
def top5_ct : List AD → Option Post
  | [.c (.ints .i64 (l))] => some (top5_p l)
  | _ => none
def top5_ann (l : List Int) : Nat → Option Ann
  | 0 => some (Ann.mk ((Nat)) (fun i => ⟨[(0, .c (.ro (.ints .i64 (l)))), (3, .c (.int .i64 (tpN l i))), (4, .c (.int .i64 ((i : Int))))], []⟩) (fun i => i ≤ l.length) (fun i => l.length - i) (fun _ => noAnn))
  | _ => none
def top5_G : List (Nat × Ctr) := []
def top5_V (l : List Int) : Prop :=
 ((∃ x0 : Nat, ((x0 ≤ l.length)∧((l = l)∧(((0:Int) = tpN l x0)∧((0:Int) = (↑x0:Int))))))∧(∀ x1 : Nat, ((x1 ≤ l.length) → (BrP (decide ((↑x1:Int) < (↑(l.length):Int))) ((inB (↑x1:Int) (l.length))∧(BrP (decide (tpN l x1 ≤ l.getD ((↑x1:Int).toNat) (0:Int))) ((inB (↑x1:Int) (l.length))∧((InR (l.getD ((↑x1:Int).toNat) (0:Int) + (1:Int)))∧((InR ((↑x1:Int) + (1:Int)))∧(∃ x2 : Nat, ((x2 ≤ l.length)∧((l.length - x2 < l.length - x1)∧((l = l)∧((l.getD ((↑x1:Int).toNat) (0:Int) + (1:Int) = tpN l x2)∧((↑x1:Int) + (1:Int) = (↑x2:Int)))))))))) ((InR ((↑x1:Int) + (1:Int)))∧(∃ x3 : Nat, ((x3 ≤ l.length)∧((l.length - x3 < l.length - x1)∧((l = l)∧((tpN l x1 = tpN l x3)∧((↑x1:Int) + (1:Int) = (↑x3:Int)))))))))) ((tpN l x1 = tpN l (l.length))∧True)))))
theorem top5_vc (l : List Int) : runF Tryz.prog (gam top5_G) noWr (top5_ann l) Tryz.f15 (bodyOf Tryz.f15) [] [.c (.ints .i64 (l))] (top5_p l) = top5_V l := by kernel_rfl
theorem top5_ok (l : List Int) (hpre : (top5_p l).pre) : top5_V l := by
  simp only [top5_p, top5_V, BrP_iff, u1, u2, u3, u4, u5, u6, u7, u8, u9, v1, v2, v3, v4, v5, v6, v7, v8, v9, w1, w2, w3, w4, markL_length, inB, InR, room, bdsOk] at hpre ⊢
  obtain ⟨h1, h2⟩ := hpre
  refine ⟨⟨0, by omega, rfl, rfl⟩, fun i hi => ⟨fun h => ?_, fun h => ?_⟩⟩
  · have v := h2 i (by omega)
    have e : tpN l (i + 1) = if tpN l i ≤ l.getD i 0 then l.getD i 0 + 1 else tpN l i := rfl
    exact ⟨by omega, fun g => ⟨by omega, by omega, by omega, i + 1, by omega, by omega, by rw [e, if_pos g], by omega⟩, fun g => ⟨by omega, i + 1, by omega, by omega, by rw [e, if_neg g], by omega⟩⟩
  · rw [show i = l.length by omega]
theorem top5_fits : Fits Tryz.prog 15 ⟨[], top5_ct⟩ := by
  refine ffn (Γ := gam top5_G) gok_nil Tryz.func15 fun ds p h hp => ?_
  unfold top5_ct at h
  split at h
  · cases h
    exact ⟨noWr, top5_ann _ , by rw [top5_vc]; exact top5_ok _  hp⟩
  · cases h
def bY (code : List Int) : Dy := drY code 0 (frH code code.length) 5
theorem bY_ok {code : List Int} (hb : bytesB code) : okY code (bY code) := drY_ok hb (by omega) (by omega) (by omega) (by omega)
def bN (code : List Int) : Nat := (bY code).1.length - (bY code).2.1
def bT (code : List Int) : List (List Int) := yT (bY code)
def bP (code : List Int) : Int × Int × Int := primeD code (bY code).2.2.1 (bY code).2.2.2
def bK (code : List Int) : Int := (degD code (bP code).2.1 (bP code).2.2 (bN code : Int) 64).1
def DrawRBt_p (code : List Int) : Post := ⟨bytesB code ∧ code.length ≤ 4096, .tup [.inr [.ro (.rows .i64 (bT code))], .inl (.int .i64 ((bP code).1)), .inl (.int .i64 (bK code))], []⟩
def DrawRBt_ct : List AD → Option Post
  | [.c (.ints .u8 (code))] => some (DrawRBt_p code)
  | _ => none
def DrawRBt_G : List (Nat × Ctr) := [(34, ⟨[], l01From_ct⟩), (35, ⟨[(0, 0)], l03DrawAny_ct⟩), (36, ⟨[(0, 0)], l15DrawPrime_ct⟩), (37, ⟨[(0, 0)], l15Degree_ct⟩)]
def DrawRBt_c1 (code : List Int) := (drY code (0:Int) (frH code (code.length)) (5:Int))
def DrawRBt_c2 (code : List Int) := (primeD code ((((DrawRBt_c1 code).2).2).1) ((((DrawRBt_c1 code).2).2).2))
def DrawRBt_V (code : List Int) : Prop :=
 ((((bytesB code)∧(code.length ≤ (4096:Nat)))∧True)∧((((bytesB code)∧((code.length ≤ (4096:Nat))∧(((0:Int) ≤ (0:Int))∧(((0:Int) ≤ (↑(code.length):Int))∧(((1:Int) ≤ (5:Int))∧((5:Int) ≤ (6:Int)))))))∧((code = code)∧True))∧((((bytesB code)∧(((0:Int) ≤ (((DrawRBt_c1 code).2).2).1)∧(((((DrawRBt_c1 code).2).2).1 ≤ (↑(code.length):Int))∧(code.length ≤ (4096:Nat)))))∧((code = code)∧True))∧((((bytesB code)∧(((0:Int) ≤ ((DrawRBt_c2 code).2).1)∧((((DrawRBt_c2 code).2).1 ≤ (↑(code.length):Int))∧((code.length ≤ (4096:Nat))∧(((0:Int) ≤ (↑(((DrawRBt_c1 code).1).length - ((DrawRBt_c1 code).2).1):Int))∧((↑(((DrawRBt_c1 code).1).length - ((DrawRBt_c1 code).2).1):Int) ≤ (12:Int)))))))∧((code = code)∧True))∧((((List.take (((DrawRBt_c1 code).1).length - ((DrawRBt_c1 code).2).1) (List.drop (((DrawRBt_c1 code).2).1) ((DrawRBt_c1 code).1)) = bT code)∧True)∧(((DrawRBt_c2 code).1 = (bP code).1)∧(((degD code (((DrawRBt_c2 code).2).1) (((DrawRBt_c2 code).2).2) (↑(((DrawRBt_c1 code).1).length - ((DrawRBt_c1 code).2).1):Int) (64:Int)).1 = bK code)∧True)))∧True)))))
theorem DrawRBt_vc (code : List Int) : runF Tryz.prog (gam DrawRBt_G) noWr noAnn Tryz.f6 (bodyOf Tryz.f6) [] [.c (.ints .u8 (code))] (DrawRBt_p code) = DrawRBt_V code := by kernel_rfl
theorem DrawRBt_ok (code : List Int) (hpre : (DrawRBt_p code).pre) : DrawRBt_V code := by
  simp only [DrawRBt_p, DrawRBt_V, DrawRBt_c1, DrawRBt_c2, BrP_iff, u1, u2, u3, u4, u5, u6, u7, u8, u9, v1, v2, v3, v4, v5, v6, v7, v8, v9, w1, w2, w3, w4, markL_length, inB, InR, room, bdsOk] at hpre ⊢
  obtain ⟨hb, hc⟩ := hpre
  have eY : drY code 0 (frH code code.length) 5 = bY code := rfl
  try simp only [eY]
  have eN : (bY code).1.length - (bY code).2.1 = bN code := rfl
  try simp only [eN]
  have eT : List.take (bN code) (List.drop (bY code).2.1 (bY code).1) = bT code := rfl
  try simp only [eT]
  have eP : primeD code (bY code).2.2.1 (bY code).2.2.2 = bP code := rfl
  try simp only [eP]
  have eK : (degD code (bP code).2.1 (bP code).2.2 (bN code : Int) 64).1 = bK code := rfl
  try simp only [eK]
  obtain ⟨k1, k2, k3, k4, k5, k6⟩ := bY_ok hb
  have n : bN code ≤ 6 := by unfold bN; omega
  have P := primeD_in (h := (bY code).2.2.2) k5 k6
  rw [eP] at P
  exact ⟨⟨hb, hc⟩, ⟨hb, hc, by omega, by omega, by omega, by omega⟩, ⟨hb, k5, k6, hc⟩, ⟨hb, P.1, P.2, hc, by omega, by omega⟩, trivial, trivial, trivial⟩
theorem DrawRBt_fits : Fits Tryz.prog 6 ⟨[], DrawRBt_ct⟩ := by
  refine ffn (Γ := gam DrawRBt_G) (gok_cons l01From_fits (gok_cons l03DrawAny_fits (gok_cons l15DrawPrime_fits (gok_cons l15Degree_fits gok_nil)))) Tryz.func6 fun ds p h hp => ?_
  unfold DrawRBt_ct at h
  split at h
  · cases h
    exact ⟨noWr, noAnn, by rw [DrawRBt_vc]; exact DrawRBt_ok _  hp⟩
  · cases h
def cA (code : List Int) : Int × Int := if rackB (bT code) = true then (nxA code.length (bY code).2.2.1 5, nxH (bY code).2.2.2 5) else ((bY code).2.2.1, (bY code).2.2.2)
def cT (code : List Int) : List (List Int) := if rackB (bT code) = true then (if 0 < nxV code (bY code).2.2.1 (bY code).2.2.2 5 then qoF (bT code) else bT code) else bT code
def cP (code : List Int) : Int × Int × Int := primeD code (cA code).1 (cA code).2
def cK (code : List Int) : Int := (degD code (cP code).2.1 (cP code).2.2 ((cT code).length : Int) 64).1
def DrawQBt_p (code : List Int) : Post := ⟨bytesB code ∧ code.length ≤ 4096, .tup [.inr [.ro (.rows .i64 (cT code))], .inl (.int .i64 ((cP code).1)), .inl (.int .i64 (cK code))], []⟩
def DrawQBt_ct : List AD → Option Post
  | [.c (.ints .u8 (code))] => some (DrawQBt_p code)
  | _ => none
def DrawQBt_G : List (Nat × Ctr) := [(34, ⟨[], l01From_ct⟩), (35, ⟨[(0, 0)], l03DrawAny_ct⟩), (46, ⟨[], l03Is_ct⟩), (47, ⟨[(0, 0)], l01Next_ct⟩), (48, ⟨[], QuandleOfS_ct⟩), (36, ⟨[(0, 0)], l15DrawPrime_ct⟩), (37, ⟨[(0, 0)], l15Degree_ct⟩)]
def DrawQBt_c1 (code : List Int) := (drY code (0:Int) (frH code (code.length)) (5:Int))
def DrawQBt_c2 (code : List Int) := (primeD code (nxA (code.length) ((((DrawQBt_c1 code).2).2).1) (5:Int)) (nxH ((((DrawQBt_c1 code).2).2).2) (5:Int)))
def DrawQBt_c3 (code : List Int) := (((DrawQBt_c1 code).1).length - ((DrawQBt_c1 code).2).1)
def DrawQBt_c4 (code : List Int) := (List.take (DrawQBt_c3 code) (List.drop (((DrawQBt_c1 code).2).1) ((DrawQBt_c1 code).1)))
def DrawQBt_c5 (code : List Int) := (primeD code ((((DrawQBt_c1 code).2).2).1) ((((DrawQBt_c1 code).2).2).2))
def DrawQBt_V (code : List Int) : Prop :=
 ((((bytesB code)∧(code.length ≤ (4096:Nat)))∧True)∧((((bytesB code)∧((code.length ≤ (4096:Nat))∧(((0:Int) ≤ (0:Int))∧(((0:Int) ≤ (↑(code.length):Int))∧(((1:Int) ≤ (5:Int))∧((5:Int) ≤ (6:Int)))))))∧((code = code)∧True))∧(((roomR (DrawQBt_c4 code))∧True)∧(BrP (rackB (List.take (((drY code (0:Int) (frH code (code.length)) (5:Int)).1).length - ((drY code (0:Int) (frH code (code.length)) (5:Int)).2).1) (List.drop (((drY code (0:Int) (frH code (code.length)) (5:Int)).2).1) ((drY code (0:Int) (frH code (code.length)) (5:Int)).1)))) ((((bytesB code)∧(((0:Int) ≤ (((DrawQBt_c1 code).2).2).1)∧((((DrawQBt_c1 code).2).2).1 ≤ (1099511627776:Int))))∧((code = code)∧True))∧(BrP (decide ((0:Int) < nxV code ((((drY code (0:Int) (frH code (code.length)) (5:Int)).2).2).1) ((((drY code (0:Int) (frH code (code.length)) (5:Int)).2).2).2) (5:Int))) (((roomR (DrawQBt_c4 code))∧True)∧((((bytesB code)∧(((0:Int) ≤ nxA (code.length) ((((DrawQBt_c1 code).2).2).1) (5:Int))∧((nxA (code.length) ((((DrawQBt_c1 code).2).2).1) (5:Int) ≤ (↑(code.length):Int))∧(code.length ≤ (4096:Nat)))))∧((code = code)∧True))∧((((bytesB code)∧(((0:Int) ≤ ((DrawQBt_c2 code).2).1)∧((((DrawQBt_c2 code).2).1 ≤ (↑(code.length):Int))∧((code.length ≤ (4096:Nat))∧(((0:Int) ≤ (↑(((qoC (DrawQBt_c4 code)).1).length):Int))∧((↑(((qoC (DrawQBt_c4 code)).1).length):Int) ≤ (12:Int)))))))∧((code = code)∧True))∧(((((qoC (DrawQBt_c4 code)).1 = cT code)∧True)∧(((DrawQBt_c2 code).1 = (cP code).1) ∧
 (((degD code (((DrawQBt_c2 code).2).1) (((DrawQBt_c2 code).2).2) (↑(((qoC (DrawQBt_c4 code)).1).length):Int) (64:Int)).1 = cK code)∧True)))∧True)))) ((((bytesB code)∧(((0:Int) ≤ nxA (code.length) ((((DrawQBt_c1 code).2).2).1) (5:Int))∧((nxA (code.length) ((((DrawQBt_c1 code).2).2).1) (5:Int) ≤ (↑(code.length):Int))∧(code.length ≤ (4096:Nat)))))∧((code = code)∧True))∧((((bytesB code)∧(((0:Int) ≤ ((DrawQBt_c2 code).2).1)∧((((DrawQBt_c2 code).2).1 ≤ (↑(code.length):Int))∧((code.length ≤ (4096:Nat))∧(((0:Int) ≤ (↑(DrawQBt_c3 code):Int))∧((↑(DrawQBt_c3 code):Int) ≤ (12:Int)))))))∧((code = code)∧True))∧((((List.take (DrawQBt_c3 code) (List.drop (((DrawQBt_c1 code).2).1) ((DrawQBt_c1 code).1)) = cT code)∧True)∧(((DrawQBt_c2 code).1 = (cP code).1)∧(((degD code (((DrawQBt_c2 code).2).1) (((DrawQBt_c2 code).2).2) (↑(DrawQBt_c3 code):Int) (64:Int)).1 = cK code)∧True)))∧True))))) ((((bytesB code)∧(((0:Int) ≤ (((DrawQBt_c1 code).2).2).1)∧(((((DrawQBt_c1 code).2).2).1 ≤ (↑(code.length):Int))∧(code.length ≤ (4096:Nat)))))∧((code = code)∧True))∧((((bytesB code)∧(((0:Int) ≤ ((DrawQBt_c5 code).2).1)∧((((DrawQBt_c5 code).2).1 ≤ (↑(code.length):Int))∧((code.length ≤ (4096:Nat))∧(((0:Int) ≤ (↑(DrawQBt_c3 code):Int))∧((↑(DrawQBt_c3 code):Int) ≤ (12:Int)))))))∧((code = code)∧True))∧((((List.take (DrawQBt_c3 code) (List.drop (((DrawQBt_c1 code).2).1) ((DrawQBt_c1 code).1)) = cT code)∧True)∧(((DrawQBt_c5 code).1 = (cP code).1) ∧
 (((degD code (((DrawQBt_c5 code).2).1) (((DrawQBt_c5 code).2).2) (↑(DrawQBt_c3 code):Int) (64:Int)).1 = cK code)∧True)))∧True)))))))
theorem DrawQBt_vc (code : List Int) : runF Tryz.prog (gam DrawQBt_G) noWr noAnn Tryz.f11 (bodyOf Tryz.f11) [] [.c (.ints .u8 (code))] (DrawQBt_p code) = DrawQBt_V code := by kernel_rfl
theorem DrawQBt_ok (code : List Int) (hpre : (DrawQBt_p code).pre) : DrawQBt_V code := by
  simp only [DrawQBt_p, DrawQBt_V, DrawQBt_c1, DrawQBt_c2, DrawQBt_c3, DrawQBt_c4, DrawQBt_c5, BrP_iff, u1, u2, u3, u4, u5, u6, u7, u8, u9, v1, v2, v3, v4, v5, v6, v7, v8, v9, w1, w2, w3, w4, markL_length, inB, InR, room, bdsOk] at hpre ⊢
  obtain ⟨hb, hc⟩ := hpre
  have eY : drY code 0 (frH code code.length) 5 = bY code := rfl
  try simp only [eY]
  have eN : (bY code).1.length - (bY code).2.1 = bN code := rfl
  try simp only [eN]
  have eT : List.take (bN code) (List.drop (bY code).2.1 (bY code).1) = bT code := rfl
  try simp only [eT]
  have K := bY_ok hb
  have T : roomR (bT code) := yT_room K
  obtain ⟨k1, k2, k3, k4, k5, k6⟩ := K
  have n : bN code ≤ 6 := by unfold bN; omega
  have nT : bN code = (bT code).length := by rw [bT, yT_length]; rfl
  have s := nxA_in (n := 5) k5 k6
  have fin : ∀ a h, cA code = (a, h) → 0 ≤ a → a ≤ (code.length : Int) → (cT code).length ≤ 6 →
      (bytesB code ∧ 0 ≤ a ∧ a ≤ (code.length : Int) ∧ code.length ≤ 4096) ∧ (bytesB code ∧ 0 ≤ (primeD code a h).2.1 ∧ (primeD code a h).2.1 ≤ (code.length : Int) ∧ code.length ≤ 4096 ∧ 0 ≤ ((cT code).length : Int) ∧ ((cT code).length : Int) ≤ 12) ∧
        (primeD code a h).1 = (cP code).1 ∧ (degD code (primeD code a h).2.1 (primeD code a h).2.2 ((cT code).length : Int) 64).1 = cK code := fun a h e a0 a1 l => by
    have eP : primeD code a h = cP code := by rw [cP, e]
    have P := primeD_in (code := code) (a := a) (h := h) a0 a1
    rw [eP] at P ⊢
    exact ⟨⟨hb, a0, a1, hc⟩, ⟨hb, P.1, P.2, hc, by omega, by omega⟩, rfl, rfl⟩
  refine ⟨⟨hb, hc⟩, ⟨hb, hc, by omega, by omega, by omega, by omega⟩, T, fun h => ⟨⟨hb, k5, by omega⟩, fun z => ?_, fun z => ?_⟩, fun h => ?_⟩
  · have e1 : cA code = (nxA code.length (bY code).2.2.1 5, nxH (bY code).2.2.2 5) := if_pos h
    have e2 : cT code = qoF (bT code) := (if_pos h).trans (if_pos z)
    have e3 : (qoC (bT code)).1 = qoF (bT code) := by simp [qoC, h]
    have lq : (qoF (bT code)).length = (bT code).length := by simp [qoF]
    simp only [e3, ← e2]
    obtain ⟨f1, f2, f3, f4⟩ := fin _ _ e1 s.1 s.2 (by rw [e2, lq]; omega)
    exact ⟨T, f1, f2, trivial, f3, f4⟩
  · have e1 : cA code = (nxA code.length (bY code).2.2.1 5, nxH (bY code).2.2.2 5) := if_pos h
    have e2 : cT code = bT code := (if_pos h).trans (if_neg z)
    simp only [nT, ← e2]
    obtain ⟨f1, f2, f3, f4⟩ := fin _ _ e1 s.1 s.2 (by rw [e2]; omega)
    exact ⟨f1, f2, trivial, f3, f4⟩
  · have e1 : cA code = ((bY code).2.2.1, (bY code).2.2.2) := if_neg (by rw [h]; decide)
    have e2 : cT code = bT code := if_neg (by rw [h]; decide)
    simp only [nT, ← e2]
    obtain ⟨f1, f2, f3, f4⟩ := fin _ _ e1 k5 k6 (by rw [e2]; omega)
    exact ⟨f1, f2, trivial, f3, f4⟩
theorem DrawQBt_fits : Fits Tryz.prog 11 ⟨[], DrawQBt_ct⟩ := by
  refine ffn (Γ := gam DrawQBt_G) (gok_cons l01From_fits (gok_cons l03DrawAny_fits (gok_cons l03Is_fits (gok_cons l01Next_fits (gok_cons QuandleOfS_fits (gok_cons l15DrawPrime_fits (gok_cons l15Degree_fits gok_nil))))))) Tryz.func11 fun ds p h hp => ?_
  unfold DrawQBt_ct at h
  split at h
  · cases h
    exact ⟨noWr, noAnn, by rw [DrawQBt_vc]; exact DrawQBt_ok _  hp⟩
  · cases h
theorem qoF_room {t : List (List Int)} (T : roomR t) : roomR (qoF t) := by
  refine ⟨by simp [qoF]; exact T.1, fun r hr => ?_⟩
  simp only [qoF, List.mem_map] at hr
  obtain ⟨r0, h0, rfl⟩ := hr
  rw [thL, List.length_map]
  exact T.2 r0 h0
theorem cT_room {code : List Int} (hb : bytesB code) : roomR (cT code) := by
  have T : roomR (bT code) := yT_room (bY_ok hb)
  unfold cT
  split
  · split
    · exact qoF_room T
    · exact T
  · exact T
theorem bet1 {t : List (List Int)} {p : Int} (hr : rackB t = true) (hp : primeB p = true) : rbtC t p 1 = (tpN (blN t t.length).1 (blN t t.length).1.length, 0) := by
  have ht := rackB_tab hr
  obtain ⟨n1, n2, _⟩ := tabB_of ht
  obtain ⟨rep, hO⟩ := orbD hr
  have h1 := rank1 ht hp
  have h2 := rank2 ht hp hO
  have d1 : degB (t.length : Int) 1 = true := by
    simp only [degB, Bool.and_eq_true, decide_eq_true_eq]
    exact ⟨by omega, by rw [show (1 : Int).toNat = 1 from rfl, Int.pow_succ, Int.pow_zero]; omega⟩
  have sq := sq_le n2
  have d2 : degB (t.length : Int) (1 + 1) = true := by
    simp only [degB, Bool.and_eq_true, decide_eq_true_eq]
    refine ⟨by omega, ?_⟩
    rw [show ((1 : Int) + 1).toNat = 2 from rfl, ← Int.natCast_pow, Nat.pow_two]
    omega
  have dg : dgC t p 1 = 0 := by
    rw [dgC, if_pos hr, if_pos]
    rw [dgB, hp, d1]; rfl
  have b1 : brV t p 1 false = 0 := by have := rk_deg (p := p) (t := t) (rkR t p 1 false (t.length ^ 1)) 1 false (by omega); rw [h1] at this; exact this
  have b2 := rk_deg (p := p) (t := t) (rkR t p 2 false (t.length ^ 2)) 2 false (by omega)
  rw [rbtC, if_pos dg, if_pos d2, b1, tp_bl hr, show ((1 : Int) + 1) = ((2 : Nat) : Int) from rfl, b2]
  have lo := (blN_ok hr t.length (Nat.le_refl _)).lo
  rw [show (1 : Int).toNat = 1 from rfl, Nat.pow_one]
  congr 1
  omega
theorem bet2 {t : List (List Int)} {p : Int} (hr : rackB t = true) (hp : primeB p = true) (hq : qdB t = true) (h5 : t.length ≤ 5) :
    (rbtC t p 2).2 = 0 ∧ (qbtC t p 2).2 = 0 ∧ (rbtC t p 2).1 = (qbtC t p 2).1 + tpN (blN t t.length).1 (blN t t.length).1.length := by
  have ht := rackB_tab hr
  obtain ⟨n1, n2, _⟩ := tabB_of ht
  obtain ⟨rep, hO⟩ := orbD hr
  have hid : ∀ a, a < t.length → en t a a = (a : Int) := fun a ha => by
    have := List.all_eq_true.1 hq a (List.mem_range.2 ha)
    simpa using this
  have h2 := rank2 ht hp hO
  have h2q := rank2q ht hp hid
  have h3 := rank3q ht hp hid hO
  have sq := sq_le n2
  have d2 : degB (t.length : Int) 2 = true := by
    simp only [degB, Bool.and_eq_true, decide_eq_true_eq]
    refine ⟨by omega, ?_⟩
    rw [show (2 : Int).toNat = 2 from rfl, ← Int.natCast_pow, Nat.pow_two]
    omega
  have d3 : degB (t.length : Int) (2 + 1) = true := by
    simp only [degB, Bool.and_eq_true, decide_eq_true_eq]
    refine ⟨by omega, ?_⟩
    rw [show ((2 : Int) + 1).toNat = 3 from rfl, ← Int.natCast_pow]
    have : t.length ^ 3 ≤ 5 ^ 3 := Nat.pow_le_pow_left h5 3
    omega
  have dg : dgC t p 2 = 0 := by
    rw [dgC, if_pos hr, if_pos]
    rw [dgB, hp, d2]; rfl
  have b2 := rk_deg (p := p) (t := t) (rkR t p 2 false (t.length ^ 2)) 2 false (by omega)
  have b3 := rk_deg (p := p) (t := t) (rkR t p 3 false (t.length ^ 3)) 3 false (by omega)
  have c2 := rk_deg (p := p) (t := t) (rkR t p 2 true (t.length ^ 2)) 2 true (by omega)
  have c3 := rk_deg (p := p) (t := t) (rkR t p 3 true (t.length ^ 3)) 3 true (by omega)
  rw [rbtC, if_pos dg, if_pos d3, qbtC, if_pos dg, if_pos d3, if_pos hq, tp_bl hr]
  refine ⟨rfl, rfl, ?_⟩
  have cn := cn2 (t := t) n1
  have lo := (blN_ok hr t.length (Nat.le_refl _)).lo
  show ((t.length ^ (2 : Int).toNat : Nat) : Int) - brV t p ((2 : Nat) : Int) false - brV t p ((3 : Nat) : Int) false = cnV t 2 - brV t p ((2 : Nat) : Int) true - brV t p ((3 : Nat) : Int) true + _
  have e : ((t.length ^ (2 : Int).toNat : Nat) : Int) = (t.length : Int) * (t.length : Int) := by rw [show (2 : Int).toNat = 2 from rfl, Nat.pow_two, Int.natCast_mul]
  rw [b2, b3, c2, c3, cn, e]
  omega
theorem ro_len {t : List (List Int)} (hr : rackB t = true) : (roC t).1.length = t.length ∧ ∀ i, i < (roC t).1.length → -1 ≤ (roC t).1.getD i 0 ∧ (roC t).1.getD i 0 ≤ 1000 := by
  have h := blN_ok hr t.length (Nat.le_refl _)
  have n2 := (tabB_of (rackB_tab hr)).2.1
  rw [roC, if_pos hr]
  refine ⟨h.len, fun i hi => ?_⟩
  have hi : i < (blN t t.length).1.length := hi
  rw [h.len] at hi
  have a := h.rng i hi
  have b := h.lo
  exact ⟨a.1, by show (blN t t.length).1.getD i 0 ≤ 1000; omega⟩
theorem rbtC_1 {t : List (List Int)} {p k : Int} (h : ¬ (rbtC t p k).2 = 1) : rackB t = true := by
  cases c : rackB t with
  | true => rfl
  | false =>
    have d : dgC t p k = 1 := if_neg (by rw [c]; decide)
    exact absurd (show (rbtC t p k).2 = 1 by rw [rbtC, if_neg (by omega)]; exact d) h
theorem rbt_in (t : List (List Int)) (p k : Int) : -2000 ≤ (rbtC t p k).1 ∧ (rbtC t p k).1 ≤ 2000 := by
  unfold rbtC
  split
  · rename_i h
    obtain ⟨h1, hp, hd, _⟩ := dgC_ok h
    have hT := rackB_tab h1
    obtain ⟨k0, k1, N1, eN, N2⟩ := rk_facts hT hd
    split
    · rename_i h5
      have b1 := brV_le (p := p) (q := false) hT hp hd
      have b2 := brV_le (p := p) (q := false) hT hp h5
      exact ⟨by show -2000 ≤ ((t.length ^ k.toNat : Nat) : Int) - brV t p k false - brV t p (k + 1) false; omega, by show ((t.length ^ k.toNat : Nat) : Int) - brV t p k false - brV t p (k + 1) false ≤ 2000; omega⟩
    · exact ⟨by show (-2000 : Int) ≤ 0; decide, by show (0 : Int) ≤ 2000; decide⟩
  · exact ⟨by show (-2000 : Int) ≤ 0; decide, by show (0 : Int) ≤ 2000; decide⟩
def lBet_p (code : List Int) : Post := ⟨bytesB code, .c (.bool (true)), []⟩
def lBet_ct : List AD → Option Post
  | [.c (.ints .u8 (code))] => some (lBet_p code)
  | _ => none
def lBet_G : List (Nat × Ctr) := [(5, ⟨[], big_ct⟩), (6, ⟨[], DrawRBt_ct⟩), (7, ⟨[], iRkB_ct⟩), (8, ⟨[], sRkB_ct⟩), (9, ⟨[], iBR_ct⟩), (10, ⟨[], sBR_ct⟩), (11, ⟨[], DrawQBt_ct⟩), (12, ⟨[], iQ_ct⟩), (13, ⟨[], sQ_ct⟩), (14, ⟨[], RackOrbits_ct⟩), (15, ⟨[], top5_ct⟩), (16, ⟨[], iIsQ_ct⟩)]
def lBet_V1 (code : List Int) : Prop :=
 BrP ((roC (bT code)).2 != (0:Int)) ((false = true)∧True) (BrP ((rbtC (bT code) ((bP code).1) (1:Int)).2 != (0:Int)) ((false = true)∧True) ((((room (((roC (bT code)).1).length))∧(∀ (i : Nat), i < ((roC (bT code)).1).length → (-1:Int) ≤ ((roC (bT code)).1).getD i (0:Int) ∧ ((roC (bT code)).1).getD i (0:Int) ≤ (1000:Int)))∧True)∧(BrP ((rbtC (bT code) ((bP code).1) (1:Int)).1 != tpN ((roC (bT code)).1) (((roC (bT code)).1).length)) ((false = true)∧True) (((roomR (bT code))∧True)∧(BrP ((iqC (bT code)).2 != (0:Int)) ((false = true)∧True) (BrP (!(iqC (bT code)).1) ((true = true)∧True) (BrP (decide ((5:Int) < (↑((bT code).length):Int))) ((true = true)∧True) (((roomR (bT code))∧True)∧(((roomR (bT code))∧True)∧(BrP ((rbtC (bT code) ((bP code).1) (2:Int)).2 == (0:Int)) (BrP ((qbtC (bT code) ((bP code).1) (2:Int)).2 == (0:Int)) ((((room (((roC (bT code)).1).length))∧(∀ (i : Nat), i < ((roC (bT code)).1).length → (-1:Int) ≤ ((roC (bT code)).1).getD i (0:Int) ∧ ((roC (bT code)).1).getD i (0:Int) ≤ (1000:Int)))∧True)∧((InR ((qbtC (bT code) ((bP code).1) (2:Int)).1 + tpN ((roC (bT code)).1) (((roC (bT code)).1).length)))∧((((rbtC (bT code) ((bP code).1) (2:Int)).1 == (qbtC (bT code) ((bP code).1) (2:Int)).1 + tpN ((roC (bT code)).1) (((roC (bT code)).1).length)) = true)∧True))) ((false = true)∧True)) ((false = true)∧True)))))))))))
def lBet_V (code : List Int) : Prop :=
 ((True∧True)∧(BrP (decide ((4096:Int) < (↑(code.length):Int))) ((true = true)∧True) ((((bytesB code)∧(code.length ≤ (4096:Nat)))∧True)∧(((roomR (bT code))∧True)∧(((roomR (bT code))∧True)∧(((roomR (bT code))∧True)∧(((roomR (bT code))∧True)∧(BrP ((rbtC (bT code) ((bP code).1) (bK code)).2 != (rbtC (bT code) ((bP code).1) (bK code)).2) ((false = true)∧True) (BrP ((rbtC (bT code) ((bP code).1) (bK code)).1 != (rbtC (bT code) ((bP code).1) (bK code)).1) ((false = true)∧True) (BrP ((brC (bT code) ((bP code).1) (bK code)).2 != (brC (bT code) ((bP code).1) (bK code)).2) ((false = true)∧True) (BrP ((brC (bT code) ((bP code).1) (bK code)).1 != (brC (bT code) ((bP code).1) (bK code)).1) ((false = true)∧True) ((((bytesB code)∧(code.length ≤ (4096:Nat)))∧True)∧(((roomR (cT code))∧True)∧(((roomR (cT code))∧True)∧(BrP ((qbtC (cT code) ((cP code).1) (cK code)).2 != (qbtC (cT code) ((cP code).1) (cK code)).2) ((false = true)∧True) (BrP ((qbtC (cT code) ((cP code).1) (cK code)).1 != (qbtC (cT code) ((cP code).1) (cK code)).1) ((false = true)∧True) (BrP ((rbtC (bT code) ((bP code).1) (bK code)).2 == (1:Int)) ((true = true)∧True) (BrP ((bP code).1 != (2:Int)) (BrP ((bP code).1 != (3:Int)) (BrP ((bP code).1 != (5:Int)) (BrP ((bP code).1 != (7:Int)) ((true = true)∧True) (((roomR (bT code))∧True)∧(((roomR (bT code))∧True)∧(lBet_V1 code)))) (((roomR (bT code))∧True)∧(((roomR (bT code))∧True)∧(lBet_V1 code)))) (((roomR (bT code))∧True)∧(((roomR (bT code))∧True)∧(lBet_V1 code)))) (((roomR (bT code)) ∧
 True)∧(((roomR (bT code))∧True)∧(lBet_V1 code)))))))))))))))))))))
theorem lBet_vc (code : List Int) : runF Tryz.prog (gam lBet_G) noWr noAnn Tryz.f3 (bodyOf Tryz.f3) [] [.c (.ints .u8 (code))] (lBet_p code) = lBet_V code := by kernel_rfl
theorem lBet_ok (code : List Int) (hpre : (lBet_p code).pre) : lBet_V code := by
  simp only [lBet_p, lBet_V, lBet_V1, BrP_iff, u1, u2, u3, u4, u5, u6, u7, u8, u9, v1, v2, v3, v4, v5, v6, v7, v8, v9, w1, w2, w3, w4, markL_length, inB, InR, room, bdsOk] at hpre ⊢
  have hT : roomR (bT code) := yT_room (bY_ok hpre)
  have hC := cT_room hpre
  generalize cT code = u at *
  generalize bT code = t at *
  generalize (bP code).1 = p
  generalize (cP code).1 = p'
  generalize bK code = k
  generalize cK code = k'
  refine (fun (w : rackB t = true → primeB p = true → _) => ⟨fun _ => trivial, fun hc => ⟨⟨hpre, by omega⟩, hT, hT, hT, hT, fun h => absurd rfl h, fun _ => ⟨fun h => absurd rfl h, fun _ => ⟨fun h => absurd rfl h, fun _ => ⟨fun h => absurd rfl h, fun _ => ⟨⟨hpre, by omega⟩, hC, hC, fun h => absurd rfl h, fun _ => ⟨fun h => absurd rfl h, fun _ => ⟨fun _ => trivial, fun h1 =>
    ⟨fun a2 => ⟨fun a3 => ⟨fun a5 => ⟨fun _ => trivial, fun a => w (rbtC_1 h1) (decide_eq_true (by omega))⟩, fun a => w (rbtC_1 h1) (decide_eq_true (by omega))⟩, fun a => w (rbtC_1 h1) (decide_eq_true (by omega))⟩, fun a => w (rbtC_1 h1) (decide_eq_true (by omega))⟩⟩⟩⟩⟩⟩⟩⟩⟩) fun hr hp => ?_
  have e1 : roC t = ((blN t t.length).1, 0) := if_pos hr
  have rl := ro_len hr
  have bt := bet1 (p := p) hr hp
  have n2 := (tabB_of (rackB_tab hr)).2.1
  have q1 : iqC t = (qdB t, 0) := if_pos hr
  have tp := tp_bl hr
  have lo := (blN_ok hr t.length (Nat.le_refl _)).lo
  have len := (blN_ok hr t.length (Nat.le_refl _)).len
  rw [e1] at rl ⊢
  rw [bt, q1]
  refine ⟨hT, hT, fun h => absurd rfl h, fun _ => ⟨fun h => absurd rfl h, fun _ => ⟨⟨by omega, rl.2⟩, fun h => absurd rfl h, fun _ => ⟨hT, fun h => absurd rfl h, fun _ => ⟨fun _ => trivial, fun hq => ⟨fun _ => trivial, fun h5 => ?_⟩⟩⟩⟩⟩⟩
  obtain ⟨b1, b2, b3⟩ := bet2 (p := p) hr hp (by simpa using hq) (by omega)
  refine ⟨hT, hT, fun _ => ⟨fun _ => ⟨⟨by omega, rl.2⟩, ?_, b3⟩, fun h => absurd b2 h⟩, fun h => absurd b1 h⟩
  have := rbt_in t p 2
  exact ⟨by rw [← b3]; omega, by rw [← b3]; omega⟩
theorem lBet_fits : Fits Tryz.prog 3 ⟨[], lBet_ct⟩ := by
  refine ffn (Γ := gam lBet_G) (gok_cons big_fits (gok_cons DrawRBt_fits (gok_cons iRkB_fits (gok_cons sRkB_fits (gok_cons iBR_fits (gok_cons sBR_fits (gok_cons DrawQBt_fits (gok_cons iQ_fits (gok_cons sQ_fits (gok_cons RackOrbits_fits (gok_cons top5_fits (gok_cons iIsQ_fits gok_nil)))))))))))) Tryz.func3 fun ds p h hp => ?_
  unfold lBet_ct at h
  split at h
  · cases h
    exact ⟨noWr, noAnn, by rw [lBet_vc]; exact lBet_ok _  hp⟩
  · cases h
end Go.Sx
