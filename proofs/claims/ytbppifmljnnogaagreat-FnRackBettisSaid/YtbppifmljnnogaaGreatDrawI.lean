/- DrawI -/
import Derived.Test.YtbppifmljnnogaaGreatQb
import Derived.Test.YtbppifmljnnogaaGreatDrawY
import Derived.Test.YtbppifmljnnogaaGreatRchP
open Go Go.Proofs
namespace Go.Sx
set_option linter.unusedSimpArgs false
set_option linter.unusedVariables false
def l03KinkS_p (t : List (List Int)) : Post := ⟨tabB t = true, .c (.ints 2 .i64 (kkL t)), []⟩
def l03KinkS_ct : List AD → Option Post
  | [.agg [.rows .i64 (t)]] => some (l03KinkS_p t)
  | _ => none
def l03KinkS_ann (t : List (List Int)) : Nat → Option Ann
  | 0 => some (Ann.mk ((Nat)) (fun i => ⟨[(1, .c (.ptr 1 0)), (3, .c (.own (5))), (4, .c (.int .i64 ((i : Int))))], [(1, some (.box [.ro (.rows .i64 (t))])), (5, some (.ints 2 .i64 ((kkL t).take i)))]⟩) (fun i => i ≤ t.length) (fun i => t.length - i) (fun _ => noAnn))
  | _ => none
def l03KinkS_G : List (Nat × Ctr) := []
def l03KinkS_V (t : List (List Int)) : Prop :=
 ((∃ x0 : Nat, ((x0 ≤ t.length)∧(((0:Int) = (↑x0:Int))∧((t = t)∧([] = List.take x0 (kkL t))))))∧(∀ x1 : Nat, ((x1 ≤ t.length) → (BrP (decide ((↑x1:Int) < (↑(t.length):Int))) ((inB (↑x1:Int) (t.length))∧((inB (↑x1:Int) ((t.getD ((↑x1:Int).toNat) []).length))∧((room ((List.take x1 (kkL t)).length + [(List.getD t ((↑x1:Int).toNat) []).getD ((↑x1:Int).toNat) (0:Int)].length))∧((InR ((↑x1:Int) + (1:Int)))∧(∃ x2 : Nat, ((x2 ≤ t.length)∧((t.length - x2 < t.length - x1)∧(((↑x1:Int) + (1:Int) = (↑x2:Int))∧((t = t)∧(List.take x1 (kkL t) ++ [(List.getD t ((↑x1:Int).toNat) []).getD ((↑x1:Int).toNat) (0:Int)] = List.take x2 (kkL t))))))))))) ((List.take x1 (kkL t) = kkL t)∧True)))))
theorem l03KinkS_vc (t : List (List Int)) : runF Tryz.prog (gam l03KinkS_G) noWr (l03KinkS_ann t) Tryz.f100 (bodyOf Tryz.f100) [] [.agg [.rows .i64 (t)]] (l03KinkS_p t) = l03KinkS_V t := by kernel_rfl
theorem l03KinkS_ok (t : List (List Int)) (hpre : (l03KinkS_p t).pre) : l03KinkS_V t := by
  simp only [l03KinkS_p, l03KinkS_V, BrP_iff, u1, u2, u3, u4, u5, u6, u7, u8, u9, v1, v2, v3, v4, v5, v6, v7, v8, v9, w1, w2, w3, w4, markL_length, inB, InR, room, bdsOk] at hpre ⊢
  obtain ⟨n1, n2, ht⟩ := tabB_of hpre
  have hl : (kkL t).length = t.length := tab_length _ _
  refine ⟨⟨0, by omega, rfl, rfl⟩, fun i hi => ⟨fun h => ?_, fun h => ?_⟩⟩
  · have r := ht i (by omega)
    have e : (t.getD i []).getD i 0 = (kkL t).getD i 0 := (tab_getD _ (fun x => en t x x) i (by omega)).symm
    refine ⟨by omega, by omega, by omega, by omega, i + 1, by omega, by omega, by omega, ?_⟩
    rw [e, take_snoc _ 0 i (by omega)]
  · rw [List.take_of_length_le (by omega)]
theorem l03KinkS_fits : Fits Tryz.prog 100 ⟨[], l03KinkS_ct⟩ := by
  refine ffn (Γ := gam l03KinkS_G) gok_nil Tryz.func100 fun ds p h hp => ?_
  unfold l03KinkS_ct at h
  split at h
  · cases h
    exact ⟨noWr, l03KinkS_ann _ , by rw [l03KinkS_vc]; exact l03KinkS_ok _  hp⟩
  · cases h
def qoF (t : List (List Int)) : List (List Int) := t.map fun r => thL r (bkL (kkL t))
def qoC (t : List (List Int)) : List (List Int) × Int := if rackB t = true then (qoF t, 0) else ([], 1)
theorem kk_in {t : List (List Int)} (ht : tabB t = true) : inQ (kkL t).length (kkL t) := fun i hi => by
  obtain ⟨n1, n2, tt⟩ := tabB_of ht
  have hl : (kkL t).length = t.length := tab_length _ _
  rw [hl] at hi ⊢
  have := (tt i hi).2 i hi
  rw [kkL, tab_getD _ _ _ hi, en]
  omega
def QuandleOfS_p (t : List (List Int)) : Post := ⟨roomR t, .tup [.inr [.rows 31 2 .i64 ((qoC t).1)], .inl (.int .i64 ((qoC t).2))], []⟩
def QuandleOfS_ct : List AD → Option Post
  | [.agg [.rows .i64 (t)]] => some (QuandleOfS_p t)
  | _ => none
def QuandleOfS_ann (t : List (List Int)) : Nat → Option Ann
  | 0 => some (Ann.mk ((Nat)) (fun i => ⟨[(1, .c (.ptr 1 0)), (2, .c (.ptr 2 0)), (4, .c (.own (13))), (5, .c (.ptr 5 0)), (6, .c (.int .i64 ((i : Int))))], [(1, some (.box [.ro (.rows .i64 (t))])), (2, some (.box [.nil])), (13, some (.ints 2 .i64 (bkL (kkL t)))), (5, some (.box [.own (100)])), (100, some (.rows 0 31 2 .i64 ((qoF t).take i)))]⟩) (fun i => i ≤ t.length ∧ rackB t = true) (fun i => t.length - i) (fun _ => noAnn))
  | _ => none
def QuandleOfS_G : List (Nat × Ctr) := [(46, ⟨[], l03Is_ct⟩), (100, ⟨[], l03KinkS_ct⟩), (99, ⟨[], l01BackG_ct⟩), (101, ⟨[], l01ThenG_ct⟩)]
def QuandleOfS_V (t : List (List Int)) : Prop :=
 (((roomR t)∧True)∧(BrP (!rackB t) (((([] = (qoC t).1)∧True)∧(((1:Int) = (qoC t).2)∧True))∧True) (((tabB t = true)∧True)∧((((room ((kkL t).length))∧(inQ ((kkL t).length) (kkL t)))∧True)∧((∃ x0 : Nat, (((x0 ≤ t.length)∧(rackB t = true))∧(((0:Int) = (↑x0:Int))∧((t = t)∧((bkL (kkL t) = bkL (kkL t))∧(List.take x0 (qoF t) = []))))))∧(∀ x1 : Nat, (((x1 ≤ t.length)∧(rackB t = true)) → (BrP (decide ((↑x1:Int) < (↑(t.length):Int))) ((inB (↑x1:Int) (t.length))∧((((room ((t.getD ((↑x1:Int).toNat) []).length))∧(inQ ((bkL (kkL t)).length) (t.getD ((↑x1:Int).toNat) [])))∧True)∧((room ((List.take x1 (qoF t)).length + [thL (t.getD ((↑x1:Int).toNat) []) (bkL (kkL t))].length))∧((InR ((↑x1:Int) + (1:Int)))∧(∃ x2 : Nat, (((x2 ≤ t.length)∧(rackB t = true))∧((t.length - x2 < t.length - x1)∧(((↑x1:Int) + (1:Int) = (↑x2:Int))∧((t = t)∧((bkL (kkL t) = bkL (kkL t))∧(List.take x1 (qoF t) ++ [thL (t.getD ((↑x1:Int).toNat) []) (bkL (kkL t))] = List.take x2 (qoF t)))))))))))) ((((List.take x1 (qoF t) = (qoC t).1)∧True)∧(((0:Int) = (qoC t).2)∧True))∧True)))))))))
theorem QuandleOfS_vc (t : List (List Int)) : runF Tryz.prog (gam QuandleOfS_G) noWr (QuandleOfS_ann t) Tryz.f48 (bodyOf Tryz.f48) [] [.agg [.rows .i64 (t)]] (QuandleOfS_p t) = QuandleOfS_V t := by kernel_rfl
theorem QuandleOfS_ok (t : List (List Int)) (hpre : (QuandleOfS_p t).pre) : QuandleOfS_V t := by
  simp only [QuandleOfS_p, QuandleOfS_V, BrP_iff, u1, u2, u3, u4, u5, u6, u7, u8, u9, v1, v2, v3, v4, v5, v6, v7, v8, v9, w1, w2, w3, w4, markL_length, inB, InR, room, bdsOk] at hpre ⊢
  refine ⟨hpre, fun h => ?_, fun h => ?_⟩
  · simp [qoC, h]
  have ht := rackB_tab h
  obtain ⟨n1, n2, tt⟩ := tabB_of ht
  have hl : (kkL t).length = t.length := tab_length _ _
  have bl : (bkL (kkL t)).length = t.length := (bkN_length _ _).trans hl
  have ql : (qoF t).length = t.length := by simp [qoF]
  refine ⟨ht, ⟨by omega, kk_in ht⟩, ⟨0, ⟨by omega, h⟩, rfl, rfl⟩, fun i ⟨hi, _⟩ => ⟨fun h2 => ?_, fun h2 => ?_⟩⟩
  · have r := tt i (by omega)
    refine ⟨by omega, ⟨by omega, fun q hq => ?_⟩, by omega, by omega, i + 1, ⟨by omega, h⟩, by omega, by omega, ?_⟩
    · have := r.2 q (by omega)
      rw [bl]; omega
    · rw [← take_snoc (qoF t) [] i (by omega)]
      congr 2
      rw [getD_lt (qoF t) [] i (by omega), getD_lt t [] i (by omega)]
      simp [qoF]
  · rw [List.take_of_length_le (by omega)]
    simp [qoC, h]
theorem QuandleOfS_fits : Fits Tryz.prog 48 ⟨[], QuandleOfS_ct⟩ := by
  refine ffn (Γ := gam QuandleOfS_G) (gok_cons l03Is_fits (gok_cons l03KinkS_fits (gok_cons l01BackG_fits (gok_cons l01ThenG_fits gok_nil)))) Tryz.func48 fun ds p h hp => ?_
  unfold QuandleOfS_ct at h
  split at h
  · cases h
    exact ⟨noWr, QuandleOfS_ann _ , by rw [QuandleOfS_vc]; exact QuandleOfS_ok _  hp⟩
  · cases h
def iqC (t : List (List Int)) : Bool × Int := if rackB t = true then (qdB t, 0) else (false, 1)
def iIsQ_p (t : List (List Int)) : Post := ⟨roomR t, .tup [.inl (.bool ((iqC t).1)), .inl (.int .i64 ((iqC t).2))], []⟩
def iIsQ_ct : List AD → Option Post
  | [.agg [.rows .i64 (t)]] => some (iIsQ_p t)
  | _ => none
def iIsQ_G : List (Nat × Ctr) := [(24, ⟨[], IsRack_ct⟩), (50, ⟨[], kinkOf_ct⟩), (49, ⟨[], isIdentity_ct⟩)]
def iIsQ_V (t : List (List Int)) : Prop :=
 (((roomR t)∧True)∧(BrP (!rackB t) (((false = (iqC t).1)∧(((1:Int) = (iqC t).2)∧True))∧True) (((tabB t = true)∧True)∧(((room ((kkL t).length))∧True)∧(((incB (kkL t) = (iqC t).1)∧(((0:Int) = (iqC t).2)∧True))∧True)))))
theorem iIsQ_vc (t : List (List Int)) : runF Tryz.prog (gam iIsQ_G) noWr noAnn Tryz.f16 (bodyOf Tryz.f16) [] [.agg [.rows .i64 (t)]] (iIsQ_p t) = iIsQ_V t := by kernel_rfl
theorem iIsQ_ok (t : List (List Int)) (hpre : (iIsQ_p t).pre) : iIsQ_V t := by
  simp only [iIsQ_p, iIsQ_V, BrP_iff, u1, u2, u3, u4, u5, u6, u7, u8, u9, v1, v2, v3, v4, v5, v6, v7, v8, v9, w1, w2, w3, w4, markL_length, inB, InR, room, bdsOk] at hpre ⊢
  refine ⟨hpre, fun h => ?_, fun h => ?_⟩
  · simp [iqC, h]
  · have ht := rackB_tab h
    have n2 := (tabB_of ht).2.1
    have e := kk_inc ht
    rw [e]
    refine ⟨ht, by rw [kkL, tab_length]; omega, ?_⟩
    simp [iqC, h]
theorem iIsQ_fits : Fits Tryz.prog 16 ⟨[], iIsQ_ct⟩ := by
  refine ffn (Γ := gam iIsQ_G) (gok_cons IsRack_fits (gok_cons kinkOf_fits (gok_cons isIdentity_fits gok_nil))) Tryz.func16 fun ds p h hp => ?_
  unfold iIsQ_ct at h
  split at h
  · cases h
    exact ⟨noWr, noAnn, by rw [iIsQ_vc]; exact iIsQ_ok _  hp⟩
  · cases h
theorem primeD_in {code : List Int} {a h : Int} (h0 : 0 ≤ a) (h1 : a ≤ (code.length : Int)) : 0 ≤ (primeD code a h).2.1 ∧ (primeD code a h).2.1 ≤ (code.length : Int) := by
  have s := nxA_in (n := 20) h0 h1
  unfold primeD
  dsimp only
  split
  · exact nxA_in (n := 5) s.1 s.2
  · exact nxA_in (n := 6) s.1 s.2
end Go.Sx
