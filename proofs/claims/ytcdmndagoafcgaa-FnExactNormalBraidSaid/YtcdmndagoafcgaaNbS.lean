/- NbS -/
import Derived.Test.YtcdmndagoafcgaaNbA
open Go Go.Proofs
namespace Go.Sx
set_option linter.unusedSimpArgs false
set_option linter.unusedVariables false


def l16Normal_p (s : Int) (w : List Int) : Post := ⟨braidB s w = true, .tup [.inl (.int .i64 (nbE s w)), .inl (.cut (nbJ s w) (nbC s w) 22 2 .i64 (nbN s w))], []⟩
def l16Normal_ct : List AD → Option Post
  | [.agg [.int .i64 (s), .ints .i64 (w)]] => some (l16Normal_p s w)
  | _ => none
def l16Normal_ann (s : Int) (w : List Int) : Nat → Option Ann
  | 0 => some (Ann.mk ((Nat)) (fun i => ⟨[(1, .c (.ptr 1 0)), (4, .c (.int .i64 (s))), (5, .c (.int .i64 (expN w i))), (6, .c (.own (100))), (7, .c (.own (101))), (8, .c (.int .i64 ((i : Int))))], [(1, some (.box [.int .i64 (s), .ro (.ints .i64 (w))])), (100, some (.rows 0 22 2 .i64 (facN s.toNat w i))), (101, some (.ints 2 .i64 (halfL s.toNat)))]⟩) (fun i => i ≤ w.length) (fun i => w.length - i) (fun i => fun b_ => match b_ with | 2 => some (Ann.mk ((Nat)) (fun j => ⟨[(1, .c (.ptr 1 0)), (4, .c (.int .i64 (s))), (5, .c (.int .i64 (expN w i - 1))), (6, .c (.own (100))), (7, .c (.own (101))), (8, .c (.int .i64 ((i : Int)))), (9, .c (.int .i64 (plc (w.getD i 0)))), (10, .c (.int .i64 ((j : Int))))], [(1, some (.box [.int .i64 (s), .ro (.ints .i64 (w))])), (100, some (.rows 0 22 2 .i64 (((facN s.toNat w i).map turnL).take j ++ (facN s.toNat w i).drop j))), (101, some (.ints 2 .i64 (halfL s.toNat)))]⟩) (fun j => j ≤ i ∧ i < w.length ∧ ¬ 0 < w.getD i 0) (fun j => i - j) (fun _ => noAnn)) | _ => none))
  | 4 => some (Ann.mk ((List (List Int)) × (Bool)) (fun x => match x with | (L, g) => ⟨[(4, .c (.int .i64 (s))), (5, .c (.int .i64 (expN w w.length))), (6, .c (.own (100))), (7, .c (.own (101))), (11, .c (.bool (g)))], [(100, some (.rows 0 22 2 .i64 (L))), (101, some (.ints 2 .i64 (halfL s.toNat)))]⟩) (fun x => match x with | (L, g) => okL s.toNat L ∧ L.length = w.length ∧ Rch s.toNat (facN s.toNat w w.length) L ∧ (g = false → Nrm s.toNat L)) (fun x => match x with | (L, g) => 2 * vL s.toNat L + (if g = true then 1 else 0)) (fun x => match x with | (L, g) => fun b_ => match b_ with | 6 => some (Ann.mk ((Nat) × (List (List Int)) × (Bool)) (fun x => match x with | (j, M, c) => ⟨[(4, .c (.int .i64 (s))), (5, .c (.int .i64 (expN w w.length))), (6, .c (.own (100))), (7, .c (.own (101))), (11, .c (.bool (c))), (12, .c (.int .i64 ((j : Int))))], [(100, some (.rows 0 22 2 .i64 (M))), (101, some (.ints 2 .i64 (halfL s.toNat)))]⟩) (fun x => match x with | (j, M, c) => j ≤ w.length ∧ okL s.toNat M ∧ M.length = w.length ∧ Rch s.toNat L M ∧ (c = true → vL s.toNat M < vL s.toNat L) ∧ (c = false → M = L ∧ ∀ a k, a < j → k + 1 < s.toNat → tst L a k = false)) (fun x => match x with | (j, M, c) => w.length - j) (fun x => match x with | (j, M, c) => fun b_ => match b_ with | 8 => some (Ann.mk ((Nat) × (List (List Int)) × (Bool)) (fun x => match x with | (k, K, e) => ⟨[(4, .c (.int .i64 (s))), (5, .c (.int .i64 (expN w w.length))), (6, .c (.own (100))), (7, .c (.own (101))), (11, .c (.bool (e))), (12, .c (.int .i64 ((j : Int)))), (13, .c (.int .i64 ((k : Int))))], [(100, some (.rows 0 22 2 .i64 (K))), (101, some (.ints 2 .i64 (halfL s.toNat)))]⟩) (fun x => match x with | (k, K, e) => k ≤ s.toNat ∧ j + 1 < w.length ∧ okL s.toNat K ∧ K.length = w.length ∧ Rch s.toNat L K ∧ (e = true → vL s.toNat K < vL s.toNat L) ∧ (e = false → K = L ∧ (∀ a q, a < j → q + 1 < s.toNat → tst L a q = false) ∧ ∀ q, q < k → tst L j q = false)) (fun x => match x with | (k, K, e) => s.toNat - k) (fun _ => noAnn)) | _ => none)) | _ => none))
  | 10 => some (Ann.mk ((Nat)) (fun j => ⟨[(4, .c (.int .i64 (s))), (5, .c (.int .i64 (expN w w.length + (j : Int)))), (6, .c (.sub 100 j (w.length - j))), (7, .c (.own (101)))], [(100, some (.rows 0 22 2 .i64 (nbN s w))), (101, some (.ints 2 .i64 (halfL s.toNat)))]⟩) (fun j => j ≤ w.length ∧ ∀ i, i < j → (nbN s w).getD i [] = halfL s.toNat) (fun j => w.length - j) (fun _ => noAnn))
  | 12 => some (Ann.mk ((Nat)) (fun c => ⟨[(4, .c (.int .i64 (s))), (5, .c (.int .i64 (nbE s w))), (6, .c (.sub 100 (nbJ s w) c))], [(100, some (.rows 0 22 2 .i64 (nbN s w)))]⟩) (fun c => nbC s w ≤ c ∧ c ≤ (nbR s w).length) (fun c => c) (fun _ => noAnn))
  | _ => none
def l16Normal_G : List (Nat × Ctr) := [(75, ⟨[], l16Turned_ct⟩), (76, ⟨[], l16Place_ct⟩), (77, ⟨[], l16Step_ct⟩), (78, ⟨[], l16Turn_ct⟩), (61, ⟨[], l01ThenP_ct⟩), (79, ⟨[], l16Begins_ct⟩), (80, ⟨[], l16Ends_ct⟩), (81, ⟨[], l01SameP_ct⟩), (82, ⟨[], l01Unit_ct⟩)]
def l16Normal_V (s : Int) (w : List Int) : Prop :=
  (((((0 : Int) ≤ s) ∧
 (s ≤ (1000 : Int))) ∧
 (True)) ∧
 ((∃ x0 : Nat, ((x0 ≤ List.length w) ∧
 ((s = s) ∧
 (((0 : Int) = expN w x0) ∧
 (((0 : Int) = (↑x0 : Int)) ∧
 ((s = s) ∧
 ((w = w) ∧
 ((([] : List (List Int)) = facN (Int.toNat s) w x0) ∧
 (halfL (Int.toNat s) = halfL (Int.toNat s)))))))))) ∧
 (∀ x1 : Nat, ((x1 ≤ List.length w) →
 (BrP (Decidable.decide ((↑x1 : Int) < (↑(List.length w) : Int)))
 ((inB (↑x1 : Int) (List.length w)) ∧
 (((((-1000000 : Int) ≤ List.getD w (Int.toNat (↑x1 : Int)) (0 : Int)) ∧
 (List.getD w (Int.toNat (↑x1 : Int)) (0 : Int) ≤ (1000000 : Int))) ∧
 (True)) ∧
 ((inB (↑x1 : Int) (List.length w)) ∧
 (BrP (Decidable.decide ((0 : Int) < List.getD w (Int.toNat (↑x1 : Int)) (0 : Int)))
 (((((0 : Int) ≤ plc (List.getD w (Int.toNat (↑x1 : Int)) (0 : Int))) ∧
 ((plc (List.getD w (Int.toNat (↑x1 : Int)) (0 : Int)) + (1 : Int) < s) ∧
 (s ≤ (1000 : Int)))) ∧
 (True)) ∧
 ((room (List.length (facN (Int.toNat s) w x1) + List.length (stepP (Int.toNat s) (Int.toNat (plc (List.getD w (Int.toNat (↑x1 : Int)) (0 : Int)))) :: ([] : List (List Int))))) ∧
 ((InR ((↑x1 : Int) + (1 : Int))) ∧
 (∃ x2 : Nat, ((x2 ≤ List.length w) ∧
 ((List.length w - x2 < List.length w - x1) ∧
 ((s = s) ∧
 ((expN w x1 = expN w x2) ∧
 (((↑x1 : Int) + (1 : Int) = (↑x2 : Int)) ∧
 ((s = s) ∧
 ((w = w) ∧
 ((facN (Int.toNat s) w x1 ++ stepP (Int.toNat s) (Int.toNat (plc (List.getD w (Int.toNat (↑x1 : Int)) (0 : Int)))) :: ([] : List (List Int)) = facN (Int.toNat s) w x2) ∧
 (halfL (Int.toNat s) = halfL (Int.toNat s))))))))))))))
 ((InR (expN w x1 - (1 : Int))) ∧
 ((∃ x3 : Nat, (((x3 ≤ x1) ∧
 ((x1 < List.length w) ∧
 (¬(0 : Int) < List.getD w x1 (0 : Int)))) ∧
 ((s = s) ∧
 ((expN w x1 - (1 : Int) = expN w x1 - (1 : Int)) ∧
 (((↑x1 : Int) = (↑x1 : Int)) ∧
 ((plc (List.getD w (Int.toNat (↑x1 : Int)) (0 : Int)) = plc (List.getD w x1 (0 : Int))) ∧
 (((0 : Int) = (↑x3 : Int)) ∧
 ((s = s) ∧
 ((w = w) ∧
 ((facN (Int.toNat s) w x1 = List.take x3 (List.map turnL (facN (Int.toNat s) w x1)) ++ List.drop x3 (facN (Int.toNat s) w x1)) ∧
 (halfL (Int.toNat s) = halfL (Int.toNat s)))))))))))) ∧
 (∀ x4 : Nat, (((x4 ≤ x1) ∧
 ((x1 < List.length w) ∧
 (¬(0 : Int) < List.getD w x1 (0 : Int)))) →
 (BrP (Decidable.decide ((↑x4 : Int) < (↑(List.length (List.take x4 (List.map turnL (facN (Int.toNat s) w x1)) ++ List.drop x4 (facN (Int.toNat s) w x1))) : Int)))
 ((inB (↑x4 : Int) (List.length (List.take x4 (List.map turnL (facN (Int.toNat s) w x1)) ++ List.drop x4 (facN (Int.toNat s) w x1)))) ∧
 ((((List.length (List.getD (List.take x4 (List.map turnL (facN (Int.toNat s) w x1)) ++ List.drop x4 (facN (Int.toNat s) w x1)) (Int.toNat (↑x4 : Int)) []) ≤ (1000 : Nat)) ∧
 (rngB (↑(List.length (List.getD (List.take x4 (List.map turnL (facN (Int.toNat s) w x1)) ++ List.drop x4 (facN (Int.toNat s) w x1)) (Int.toNat (↑x4 : Int)) [])) : Int) (List.getD (List.take x4 (List.map turnL (facN (Int.toNat s) w x1)) ++ List.drop x4 (facN (Int.toNat s) w x1)) (Int.toNat (↑x4 : Int)) []))) ∧
 (True)) ∧
 ((inB (↑x4 : Int) (List.length (List.take x4 (List.map turnL (facN (Int.toNat s) w x1)) ++ List.drop x4 (facN (Int.toNat s) w x1)))) ∧
 ((InR ((↑x4 : Int) + (1 : Int))) ∧
 (∃ x5 : Nat, (((x5 ≤ x1) ∧
 ((x1 < List.length w) ∧
 (¬(0 : Int) < List.getD w x1 (0 : Int)))) ∧
 ((x1 - x5 < x1 - x4) ∧
 ((s = s) ∧
 ((expN w x1 - (1 : Int) = expN w x1 - (1 : Int)) ∧
 (((↑x1 : Int) = (↑x1 : Int)) ∧
 ((plc (List.getD w x1 (0 : Int)) = plc (List.getD w x1 (0 : Int))) ∧
 (((↑x4 : Int) + (1 : Int) = (↑x5 : Int)) ∧
 ((s = s) ∧
 ((w = w) ∧
 ((List.set (List.take x4 (List.map turnL (facN (Int.toNat s) w x1)) ++ List.drop x4 (facN (Int.toNat s) w x1)) (Int.toNat (↑x4 : Int)) (turnL (List.getD (List.take x4 (List.map turnL (facN (Int.toNat s) w x1)) ++ List.drop x4 (facN (Int.toNat s) w x1)) (Int.toNat (↑x4 : Int)) [])) = List.take x5 (List.map turnL (facN (Int.toNat s) w x1)) ++ List.drop x5 (facN (Int.toNat s) w x1)) ∧
 (halfL (Int.toNat s) = halfL (Int.toNat s)))))))))))))))))
 (((((0 : Int) ≤ plc (List.getD w x1 (0 : Int))) ∧
 ((plc (List.getD w x1 (0 : Int)) + (1 : Int) < s) ∧
 (s ≤ (1000 : Int)))) ∧
 (True)) ∧
 ((((List.length (halfL (Int.toNat s)) ≤ (1000 : Nat)) ∧
 ((List.length (stepP (Int.toNat s) (Int.toNat (plc (List.getD w x1 (0 : Int))))) = List.length (halfL (Int.toNat s))) ∧
 (rngB (↑(List.length (halfL (Int.toNat s))) : Int) (halfL (Int.toNat s))))) ∧
 (True)) ∧
 ((room (List.length (List.take x4 (List.map turnL (facN (Int.toNat s) w x1)) ++ List.drop x4 (facN (Int.toNat s) w x1)) + List.length (thP (halfL (Int.toNat s)) (stepP (Int.toNat s) (Int.toNat (plc (List.getD w x1 (0 : Int))))) :: ([] : List (List Int))))) ∧
 ((InR ((↑x1 : Int) + (1 : Int))) ∧
 (∃ x6 : Nat, ((x6 ≤ List.length w) ∧
 ((List.length w - x6 < List.length w - x1) ∧
 ((s = s) ∧
 ((expN w x1 - (1 : Int) = expN w x6) ∧
 (((↑x1 : Int) + (1 : Int) = (↑x6 : Int)) ∧
 ((s = s) ∧
 ((w = w) ∧
 ((List.take x4 (List.map turnL (facN (Int.toNat s) w x1)) ++ List.drop x4 (facN (Int.toNat s) w x1) ++ thP (halfL (Int.toNat s)) (stepP (Int.toNat s) (Int.toNat (plc (List.getD w x1 (0 : Int))))) :: ([] : List (List Int)) = facN (Int.toNat s) w x6) ∧
 (halfL (Int.toNat s) = halfL (Int.toNat s))))))))))))))))))))))))
 ((∃ x7 : List (List Int) × Bool, (((okL (Int.toNat s) (Prod.fst x7)) ∧
 ((List.length (Prod.fst x7) = List.length w) ∧
 ((Rch (Int.toNat s) (facN (Int.toNat s) w (List.length w)) (Prod.fst x7)) ∧
 (Prod.snd x7 = Bool.false → Nrm (Int.toNat s) (Prod.fst x7))))) ∧
 ((s = s) ∧
 ((expN w x1 = expN w (List.length w)) ∧
 ((Bool.true = x7.2) ∧
 ((facN (Int.toNat s) w x1 = x7.1) ∧
 (halfL (Int.toNat s) = halfL (Int.toNat s)))))))) ∧
 (∀ x8 : List (List Int) × Bool, (((okL (Int.toNat s) (Prod.fst x8)) ∧
 ((List.length (Prod.fst x8) = List.length w) ∧
 ((Rch (Int.toNat s) (facN (Int.toNat s) w (List.length w)) (Prod.fst x8)) ∧
 (Prod.snd x8 = Bool.false → Nrm (Int.toNat s) (Prod.fst x8))))) →
 (BrP (x8.2)
 ((∃ x9 : Nat × List (List Int) × Bool, (((Prod.fst x9 ≤ List.length w) ∧
 ((okL (Int.toNat s) (Prod.fst x9.2)) ∧
 ((List.length (Prod.fst x9.2) = List.length w) ∧
 ((Rch (Int.toNat s) x8.1 (Prod.fst x9.2)) ∧
 ((Prod.snd x9.2 = Bool.true → vL (Int.toNat s) (Prod.fst x9.2) < vL (Int.toNat s) x8.1) ∧
 (Prod.snd x9.2 = Bool.false → Prod.fst x9.2 = x8.1 ∧ ∀ (a k : Nat), a < Prod.fst x9 → k + (1 : Nat) < Int.toNat s → tst x8.1 a k = Bool.false)))))) ∧
 ((s = s) ∧
 ((expN w (List.length w) = expN w (List.length w)) ∧
 ((Bool.false = x9.2.2) ∧
 (((0 : Int) = (↑x9.1 : Int)) ∧
 ((x8.1 = x9.2.1) ∧
 (halfL (Int.toNat s) = halfL (Int.toNat s))))))))) ∧
 (∀ x10 : Nat × List (List Int) × Bool, (((Prod.fst x10 ≤ List.length w) ∧
 ((okL (Int.toNat s) (Prod.fst x10.2)) ∧
 ((List.length (Prod.fst x10.2) = List.length w) ∧
 ((Rch (Int.toNat s) x8.1 (Prod.fst x10.2)) ∧
 ((Prod.snd x10.2 = Bool.true → vL (Int.toNat s) (Prod.fst x10.2) < vL (Int.toNat s) x8.1) ∧
 (Prod.snd x10.2 = Bool.false → Prod.fst x10.2 = x8.1 ∧ ∀ (a k : Nat), a < Prod.fst x10 → k + (1 : Nat) < Int.toNat s → tst x8.1 a k = Bool.false)))))) →
 ((InR ((↑x10.1 : Int) + (1 : Int))) ∧
 (BrP (Decidable.decide ((↑x10.1 : Int) + (1 : Int) < (↑(List.length x10.2.1) : Int)))
 ((∃ x11 : Nat × List (List Int) × Bool, (((Prod.fst x11 ≤ Int.toNat s) ∧
 ((x10.1 + (1 : Nat) < List.length w) ∧
 ((okL (Int.toNat s) (Prod.fst x11.2)) ∧
 ((List.length (Prod.fst x11.2) = List.length w) ∧
 ((Rch (Int.toNat s) x8.1 (Prod.fst x11.2)) ∧
 ((Prod.snd x11.2 = Bool.true → vL (Int.toNat s) (Prod.fst x11.2) < vL (Int.toNat s) x8.1) ∧
 (Prod.snd x11.2 = Bool.false → Prod.fst x11.2 = x8.1 ∧ (∀ (a q : Nat), a < x10.1 → q + (1 : Nat) < Int.toNat s → tst x8.1 a q = Bool.false) ∧ ∀ (q : Nat), q < Prod.fst x11 → tst x8.1 x10.1 q = Bool.false))))))) ∧
 ((s = s) ∧
 ((expN w (List.length w) = expN w (List.length w)) ∧
 ((x10.2.2 = x11.2.2) ∧
 (((↑x10.1 : Int) = (↑x10.1 : Int)) ∧
 (((0 : Int) = (↑x11.1 : Int)) ∧
 ((x10.2.1 = x11.2.1) ∧
 (halfL (Int.toNat s) = halfL (Int.toNat s)))))))))) ∧
 (∀ x12 : Nat × List (List Int) × Bool, (((Prod.fst x12 ≤ Int.toNat s) ∧
 ((x10.1 + (1 : Nat) < List.length w) ∧
 ((okL (Int.toNat s) (Prod.fst x12.2)) ∧
 ((List.length (Prod.fst x12.2) = List.length w) ∧
 ((Rch (Int.toNat s) x8.1 (Prod.fst x12.2)) ∧
 ((Prod.snd x12.2 = Bool.true → vL (Int.toNat s) (Prod.fst x12.2) < vL (Int.toNat s) x8.1) ∧
 (Prod.snd x12.2 = Bool.false → Prod.fst x12.2 = x8.1 ∧ (∀ (a q : Nat), a < x10.1 → q + (1 : Nat) < Int.toNat s → tst x8.1 a q = Bool.false) ∧ ∀ (q : Nat), q < Prod.fst x12 → tst x8.1 x10.1 q = Bool.false))))))) →
 ((InR ((↑x12.1 : Int) + (1 : Int))) ∧
 (BrP (Decidable.decide ((↑x12.1 : Int) + (1 : Int) < s))
 ((InR ((↑x10.1 : Int) + (1 : Int))) ∧
 ((inB ((↑x10.1 : Int) + (1 : Int)) (List.length x12.2.1)) ∧
 (((((0 : Int) ≤ (↑x12.1 : Int)) ∧
 (((↑x12.1 : Int) + (1 : Int) < (↑(List.length (List.getD x12.2.1 (Int.toNat ((↑x10.1 : Int) + (1 : Int))) [])) : Int)) ∧
 (List.length (List.getD x12.2.1 (Int.toNat ((↑x10.1 : Int) + (1 : Int))) []) ≤ (1000 : Nat)))) ∧
 (True)) ∧
 (BrP (bgB (List.getD x12.2.1 (Int.toNat ((↑x10.1 : Int) + (1 : Int))) []) (Int.toNat (↑x12.1 : Int)))
 ((inB (↑x10.1 : Int) (List.length x12.2.1)) ∧
 (((((0 : Int) ≤ (↑x12.1 : Int)) ∧
 (((↑x12.1 : Int) + (1 : Int) < (↑(List.length (List.getD x12.2.1 (Int.toNat (↑x10.1 : Int)) [])) : Int)) ∧
 ((List.length (List.getD x12.2.1 (Int.toNat (↑x10.1 : Int)) []) ≤ (1000 : Nat)) ∧
 (rngB (↑(List.length (List.getD x12.2.1 (Int.toNat (↑x10.1 : Int)) [])) : Int) (List.getD x12.2.1 (Int.toNat (↑x10.1 : Int)) []))))) ∧
 (True)) ∧
 (BrP (!edB (List.getD x12.2.1 (Int.toNat (↑x10.1 : Int)) []) (Int.toNat (↑x12.1 : Int)))
 ((inB (↑x10.1 : Int) (List.length x12.2.1)) ∧
 (((((0 : Int) ≤ (↑x12.1 : Int)) ∧
 (((↑x12.1 : Int) + (1 : Int) < s) ∧
 (s ≤ (1000 : Int)))) ∧
 (True)) ∧
 ((((List.length (List.getD x12.2.1 (Int.toNat (↑x10.1 : Int)) []) ≤ (1000 : Nat)) ∧
 ((List.length (stepP (Int.toNat s) (Int.toNat (↑x12.1 : Int))) = List.length (List.getD x12.2.1 (Int.toNat (↑x10.1 : Int)) [])) ∧
 (rngB (↑(List.length (List.getD x12.2.1 (Int.toNat (↑x10.1 : Int)) [])) : Int) (List.getD x12.2.1 (Int.toNat (↑x10.1 : Int)) [])))) ∧
 (True)) ∧
 ((inB (↑x10.1 : Int) (List.length x12.2.1)) ∧
 ((InR ((↑x10.1 : Int) + (1 : Int))) ∧
 (((((0 : Int) ≤ (↑x12.1 : Int)) ∧
 (((↑x12.1 : Int) + (1 : Int) < s) ∧
 (s ≤ (1000 : Int)))) ∧
 (True)) ∧
 ((InR ((↑x10.1 : Int) + (1 : Int))) ∧
 ((inB ((↑x10.1 : Int) + (1 : Int)) (List.length (List.set x12.2.1 (Int.toNat (↑x10.1 : Int)) (thP (List.getD x12.2.1 (Int.toNat (↑x10.1 : Int)) []) (stepP (Int.toNat s) (Int.toNat (↑x12.1 : Int))))))) ∧
 ((((List.length (stepP (Int.toNat s) (Int.toNat (↑x12.1 : Int))) ≤ (1000 : Nat)) ∧
 ((List.length (List.getD (List.set x12.2.1 (Int.toNat (↑x10.1 : Int)) (thP (List.getD x12.2.1 (Int.toNat (↑x10.1 : Int)) []) (stepP (Int.toNat s) (Int.toNat (↑x12.1 : Int))))) (Int.toNat ((↑x10.1 : Int) + (1 : Int))) []) = List.length (stepP (Int.toNat s) (Int.toNat (↑x12.1 : Int)))) ∧
 (rngB (↑(List.length (stepP (Int.toNat s) (Int.toNat (↑x12.1 : Int)))) : Int) (stepP (Int.toNat s) (Int.toNat (↑x12.1 : Int)))))) ∧
 (True)) ∧
 ((inB ((↑x10.1 : Int) + (1 : Int)) (List.length (List.set x12.2.1 (Int.toNat (↑x10.1 : Int)) (thP (List.getD x12.2.1 (Int.toNat (↑x10.1 : Int)) []) (stepP (Int.toNat s) (Int.toNat (↑x12.1 : Int))))))) ∧
 ((InR ((↑x12.1 : Int) + (1 : Int))) ∧
 (∃ x13 : Nat × List (List Int) × Bool, (((Prod.fst x13 ≤ Int.toNat s) ∧
 ((x10.1 + (1 : Nat) < List.length w) ∧
 ((okL (Int.toNat s) (Prod.fst x13.2)) ∧
 ((List.length (Prod.fst x13.2) = List.length w) ∧
 ((Rch (Int.toNat s) x8.1 (Prod.fst x13.2)) ∧
 ((Prod.snd x13.2 = Bool.true → vL (Int.toNat s) (Prod.fst x13.2) < vL (Int.toNat s) x8.1) ∧
 (Prod.snd x13.2 = Bool.false → Prod.fst x13.2 = x8.1 ∧ (∀ (a q : Nat), a < x10.1 → q + (1 : Nat) < Int.toNat s → tst x8.1 a q = Bool.false) ∧ ∀ (q : Nat), q < Prod.fst x13 → tst x8.1 x10.1 q = Bool.false))))))) ∧
 ((Int.toNat s - Prod.fst x13 < Int.toNat s - Prod.fst x12) ∧
 ((s = s) ∧
 ((expN w (List.length w) = expN w (List.length w)) ∧
 ((Bool.true = x13.2.2) ∧
 (((↑x10.1 : Int) = (↑x10.1 : Int)) ∧
 (((↑x12.1 : Int) + (1 : Int) = (↑x13.1 : Int)) ∧
 ((List.set (List.set x12.2.1 (Int.toNat (↑x10.1 : Int)) (thP (List.getD x12.2.1 (Int.toNat (↑x10.1 : Int)) []) (stepP (Int.toNat s) (Int.toNat (↑x12.1 : Int))))) (Int.toNat ((↑x10.1 : Int) + (1 : Int))) (thP (stepP (Int.toNat s) (Int.toNat (↑x12.1 : Int))) (List.getD (List.set x12.2.1 (Int.toNat (↑x10.1 : Int)) (thP (List.getD x12.2.1 (Int.toNat (↑x10.1 : Int)) []) (stepP (Int.toNat s) (Int.toNat (↑x12.1 : Int))))) (Int.toNat ((↑x10.1 : Int) + (1 : Int))) [])) = x13.2.1) ∧
 (halfL (Int.toNat s) = halfL (Int.toNat s))))))))))))))))))))))
 ((InR ((↑x12.1 : Int) + (1 : Int))) ∧
 (∃ x14 : Nat × List (List Int) × Bool, (((Prod.fst x14 ≤ Int.toNat s) ∧
 ((x10.1 + (1 : Nat) < List.length w) ∧
 ((okL (Int.toNat s) (Prod.fst x14.2)) ∧
 ((List.length (Prod.fst x14.2) = List.length w) ∧
 ((Rch (Int.toNat s) x8.1 (Prod.fst x14.2)) ∧
 ((Prod.snd x14.2 = Bool.true → vL (Int.toNat s) (Prod.fst x14.2) < vL (Int.toNat s) x8.1) ∧
 (Prod.snd x14.2 = Bool.false → Prod.fst x14.2 = x8.1 ∧ (∀ (a q : Nat), a < x10.1 → q + (1 : Nat) < Int.toNat s → tst x8.1 a q = Bool.false) ∧ ∀ (q : Nat), q < Prod.fst x14 → tst x8.1 x10.1 q = Bool.false))))))) ∧
 ((Int.toNat s - Prod.fst x14 < Int.toNat s - Prod.fst x12) ∧
 ((s = s) ∧
 ((expN w (List.length w) = expN w (List.length w)) ∧
 ((x12.2.2 = x14.2.2) ∧
 (((↑x10.1 : Int) = (↑x10.1 : Int)) ∧
 (((↑x12.1 : Int) + (1 : Int) = (↑x14.1 : Int)) ∧
 ((x12.2.1 = x14.2.1) ∧
 (halfL (Int.toNat s) = halfL (Int.toNat s)))))))))))))))
 ((InR ((↑x12.1 : Int) + (1 : Int))) ∧
 (∃ x15 : Nat × List (List Int) × Bool, (((Prod.fst x15 ≤ Int.toNat s) ∧
 ((x10.1 + (1 : Nat) < List.length w) ∧
 ((okL (Int.toNat s) (Prod.fst x15.2)) ∧
 ((List.length (Prod.fst x15.2) = List.length w) ∧
 ((Rch (Int.toNat s) x8.1 (Prod.fst x15.2)) ∧
 ((Prod.snd x15.2 = Bool.true → vL (Int.toNat s) (Prod.fst x15.2) < vL (Int.toNat s) x8.1) ∧
 (Prod.snd x15.2 = Bool.false → Prod.fst x15.2 = x8.1 ∧ (∀ (a q : Nat), a < x10.1 → q + (1 : Nat) < Int.toNat s → tst x8.1 a q = Bool.false) ∧ ∀ (q : Nat), q < Prod.fst x15 → tst x8.1 x10.1 q = Bool.false))))))) ∧
 ((Int.toNat s - Prod.fst x15 < Int.toNat s - Prod.fst x12) ∧
 ((s = s) ∧
 ((expN w (List.length w) = expN w (List.length w)) ∧
 ((x12.2.2 = x15.2.2) ∧
 (((↑x10.1 : Int) = (↑x10.1 : Int)) ∧
 (((↑x12.1 : Int) + (1 : Int) = (↑x15.1 : Int)) ∧
 ((x12.2.1 = x15.2.1) ∧
 (halfL (Int.toNat s) = halfL (Int.toNat s))))))))))))))))
 ((InR ((↑x10.1 : Int) + (1 : Int))) ∧
 (∃ x16 : Nat × List (List Int) × Bool, (((Prod.fst x16 ≤ List.length w) ∧
 ((okL (Int.toNat s) (Prod.fst x16.2)) ∧
 ((List.length (Prod.fst x16.2) = List.length w) ∧
 ((Rch (Int.toNat s) x8.1 (Prod.fst x16.2)) ∧
 ((Prod.snd x16.2 = Bool.true → vL (Int.toNat s) (Prod.fst x16.2) < vL (Int.toNat s) x8.1) ∧
 (Prod.snd x16.2 = Bool.false → Prod.fst x16.2 = x8.1 ∧ ∀ (a k : Nat), a < Prod.fst x16 → k + (1 : Nat) < Int.toNat s → tst x8.1 a k = Bool.false)))))) ∧
 ((List.length w - Prod.fst x16 < List.length w - Prod.fst x10) ∧
 ((s = s) ∧
 ((expN w (List.length w) = expN w (List.length w)) ∧
 ((x12.2.2 = x16.2.2) ∧
 (((↑x10.1 : Int) + (1 : Int) = (↑x16.1 : Int)) ∧
 ((x12.2.1 = x16.2.1) ∧
 (halfL (Int.toNat s) = halfL (Int.toNat s))))))))))))))))
 (∃ x17 : List (List Int) × Bool, (((okL (Int.toNat s) (Prod.fst x17)) ∧
 ((List.length (Prod.fst x17) = List.length w) ∧
 ((Rch (Int.toNat s) (facN (Int.toNat s) w (List.length w)) (Prod.fst x17)) ∧
 (Prod.snd x17 = Bool.false → Nrm (Int.toNat s) (Prod.fst x17))))) ∧
 ((((2 : Nat) * vL (Int.toNat s) (Prod.fst x17) + if Prod.snd x17 = Bool.true then (1 : Nat) else (0 : Nat)) < (2 : Nat) * vL (Int.toNat s) (Prod.fst x8) + if Prod.snd x8 = Bool.true then (1 : Nat) else (0 : Nat)) ∧
 ((s = s) ∧
 ((expN w (List.length w) = expN w (List.length w)) ∧
 ((x10.2.2 = x17.2) ∧
 ((x10.2.1 = x17.1) ∧
 (halfL (Int.toNat s) = halfL (Int.toNat s))))))))))))))
 ((∃ x18 : Nat, (((x18 ≤ List.length w) ∧
 (∀ (i : Nat), i < x18 → List.getD (nbN s w) i [] = halfL (Int.toNat s))) ∧
 ((s = s) ∧
 ((expN w (List.length w) = expN w (List.length w) + (↑x18 : Int)) ∧
 (((0 : Nat) = x18) ∧
 ((List.length x8.1 = List.length w - x18) ∧
 ((x8.1 = nbN s w) ∧
 (halfL (Int.toNat s) = halfL (Int.toNat s))))))))) ∧
 (∀ x19 : Nat, (((x19 ≤ List.length w) ∧
 (∀ (i : Nat), i < x19 → List.getD (nbN s w) i [] = halfL (Int.toNat s))) →
 (BrP (Decidable.decide ((0 : Int) < (↑(List.length w - x19) : Int)))
 ((inB (0 : Int) (List.length w - x19)) ∧
 (((room (List.length (List.getD (nbN s w) (x19 + Int.toNat (0 : Int)) []))) ∧
 (True)) ∧
 (BrP (Decidable.decide (List.getD (nbN s w) (x19 + Int.toNat (0 : Int)) [] = halfL (Int.toNat s)))
 ((bdsOk (List.length w - x19) (Option.some (1 : Int)) Option.none) ∧
 ((InR (expN w (List.length w) + (↑x19 : Int) + (1 : Int))) ∧
 (∃ x20 : Nat, (((x20 ≤ List.length w) ∧
 (∀ (i : Nat), i < x20 → List.getD (nbN s w) i [] = halfL (Int.toNat s))) ∧
 ((List.length w - x20 < List.length w - x19) ∧
 ((s = s) ∧
 ((expN w (List.length w) + (↑x19 : Int) + (1 : Int) = expN w (List.length w) + (↑x20 : Int)) ∧
 ((x19 + Int.toNat (1 : Int) = x20) ∧
 ((List.length w - x19 - Int.toNat (1 : Int) = List.length w - x20) ∧
 ((nbN s w = nbN s w) ∧
 (halfL (Int.toNat s) = halfL (Int.toNat s))))))))))))
 ((∃ x21 : Nat, (((nbC s w ≤ x21) ∧
 (x21 ≤ List.length (nbR s w))) ∧
 ((s = s) ∧
 ((expN w (List.length w) + (↑x19 : Int) = nbE s w) ∧
 ((x19 = nbJ s w) ∧
 ((List.length w - x19 = x21) ∧
 (nbN s w = nbN s w))))))) ∧
 (∀ x22 : Nat, (((nbC s w ≤ x22) ∧
 (x22 ≤ List.length (nbR s w))) →
 (BrP (Decidable.decide ((0 : Int) < (↑x22 : Int)))
 ((InR ((↑x22 : Int) - (1 : Int))) ∧
 ((inB ((↑x22 : Int) - (1 : Int)) x22) ∧
 (((((0 : Int) ≤ s) ∧
 (s ≤ (1099511627776 : Int))) ∧
 (True)) ∧
 (((room (List.length (List.getD (nbN s w) (nbJ s w + Int.toNat ((↑x22 : Int) - (1 : Int))) []))) ∧
 (True)) ∧
 (BrP (Decidable.decide (List.getD (nbN s w) (nbJ s w + Int.toNat ((↑x22 : Int) - (1 : Int))) [] = unitL (Int.toNat s)))
 ((InR ((↑x22 : Int) - (1 : Int))) ∧
 ((bdsOk x22 Option.none (Option.some ((↑x22 : Int) - (1 : Int)))) ∧
 (∃ x23 : Nat, (((nbC s w ≤ x23) ∧
 (x23 ≤ List.length (nbR s w))) ∧
 ((x23 < x22) ∧
 ((s = s) ∧
 ((nbE s w = nbE s w) ∧
 ((nbJ s w = nbJ s w) ∧
 ((Int.toNat ((↑x22 : Int) - (1 : Int)) = x23) ∧
 (nbN s w = nbN s w))))))))))
 (((nbE s w = nbE s w) ∧
 (((nbJ s w = nbJ s w) ∧
 ((x22 = nbC s w) ∧
 (nbN s w = nbN s w))) ∧
 (True))) ∧
 (True)))))))
 (((nbE s w = nbE s w) ∧
 (((nbJ s w = nbJ s w) ∧
 ((x22 = nbC s w) ∧
 (nbN s w = nbN s w))) ∧
 (True))) ∧
 (True)))))))))
 ((∃ x24 : Nat, (((nbC s w ≤ x24) ∧
 (x24 ≤ List.length (nbR s w))) ∧
 ((s = s) ∧
 ((expN w (List.length w) + (↑x19 : Int) = nbE s w) ∧
 ((x19 = nbJ s w) ∧
 ((List.length w - x19 = x24) ∧
 (nbN s w = nbN s w))))))) ∧
 (∀ x25 : Nat, (((nbC s w ≤ x25) ∧
 (x25 ≤ List.length (nbR s w))) →
 (BrP (Decidable.decide ((0 : Int) < (↑x25 : Int)))
 ((InR ((↑x25 : Int) - (1 : Int))) ∧
 ((inB ((↑x25 : Int) - (1 : Int)) x25) ∧
 (((((0 : Int) ≤ s) ∧
 (s ≤ (1099511627776 : Int))) ∧
 (True)) ∧
 (((room (List.length (List.getD (nbN s w) (nbJ s w + Int.toNat ((↑x25 : Int) - (1 : Int))) []))) ∧
 (True)) ∧
 (BrP (Decidable.decide (List.getD (nbN s w) (nbJ s w + Int.toNat ((↑x25 : Int) - (1 : Int))) [] = unitL (Int.toNat s)))
 ((InR ((↑x25 : Int) - (1 : Int))) ∧
 ((bdsOk x25 Option.none (Option.some ((↑x25 : Int) - (1 : Int)))) ∧
 (∃ x26 : Nat, (((nbC s w ≤ x26) ∧
 (x26 ≤ List.length (nbR s w))) ∧
 ((x26 < x25) ∧
 ((s = s) ∧
 ((nbE s w = nbE s w) ∧
 ((nbJ s w = nbJ s w) ∧
 ((Int.toNat ((↑x25 : Int) - (1 : Int)) = x26) ∧
 (nbN s w = nbN s w))))))))))
 (((nbE s w = nbE s w) ∧
 (((nbJ s w = nbJ s w) ∧
 ((x25 = nbC s w) ∧
 (nbN s w = nbN s w))) ∧
 (True))) ∧
 (True)))))))
 (((nbE s w = nbE s w) ∧
 (((nbJ s w = nbJ s w) ∧
 ((x25 = nbC s w) ∧
 (nbN s w = nbN s w))) ∧
 (True))) ∧
 (True)))))))))))))))))))
theorem l16Normal_vc (s : Int) (w : List Int) : runF Try.prog (gam l16Normal_G) noWr (l16Normal_ann s w) Try.f39 (bodyOf Try.f39) [] [.agg [.int .i64 (s), .ints .i64 (w)]] (l16Normal_p s w) = l16Normal_V s w := by kernel_rfl
theorem l16Normal_ok (s : Int) (w : List Int) (hpre : (l16Normal_p s w).pre) : l16Normal_V s w := by
  simp only [l16Normal_p, l16Normal_V, BrP_iff, true_and, and_true, decide_eq_true_eq, decide_eq_false_iff_not, bne_iff_ne, beq_iff_eq, bne_eq_false_iff_eq, beq_eq_false_iff_ne, Bool.not_eq_true, Bool.not_eq_false, Bool.not_true, Bool.not_false, Bool.not_eq_eq_eq_not, Int.toNat_natCast, List.length_append, List.length_take, List.length_replicate, List.length_set, List.length_map, List.length_drop, List.length_nil, List.length_cons, markL_length, inB, InR, room, bdsOk] at hpre ⊢
  have hs : 2 ≤ s ∧ s ≤ 6 ∧ w.length ≤ 30 := by
    simp only [braidB, Bool.and_eq_true, decide_eq_true_eq] at hpre; omega
  have en : ((s.toNat : Nat) : Int) = s := by omega
  have lh := half_len s.toNat
  have FL := facN_len s.toNat w
  refine ⟨by omega, ⟨0, by omega, rfl, rfl, rfl⟩, fun i hi => ⟨fun hl => ?_, fun hl => ?_⟩⟩
  · have P := plc_in hpre i (by omega)
    have G := braidB_get hpre i (by omega)
    have E := expN_in w i
    have F := facN_ok hpre i (by omega)
    refine ⟨by omega, by omega, by omega, fun hp => ?_, fun hp => ?_⟩
    · refine ⟨by omega, by rw [FL]; omega, by omega, i + 1, by omega, by omega, ?_, by omega, ?_⟩
      · rw [expN, if_pos hp]
      · rw [facN, if_pos hp]
    · refine ⟨by omega, ⟨0, ⟨by omega, by omega, hp⟩, rfl, by simp⟩, fun j ⟨hj, _, _⟩ => ?_⟩
      have fl := FL i
      have lm : ((facN s.toNat w i).map turnL).length = i := by rw [List.length_map, fl]
      have lt : (((facN s.toNat w i).map turnL).take j).length = j := by rw [List.length_take, lm]; omega
      refine ⟨fun hl2 => ?_, fun hl2 => ?_⟩
      · have hj2 : j < i := by omega
        have pj := F j (by omega)
        have pl := pj.len
        rw [drop_cons' (facN s.toNat w i) [] j (by omega), at_getD _ _ _ _ _ lt, at_set _ _ _ _ _ lt]
        refine ⟨by omega, ⟨by omega, pm_rng pj⟩, by omega, by omega, j + 1, ⟨by omega, by omega, hp⟩, by omega, by omega, ?_⟩
        rw [← take_snoc ((facN s.toNat w i).map turnL) [] j (by omega), getD_map _ _ [] _ j (by omega), List.append_assoc]; rfl
      · have sp := (stepP_pm (n := s.toNat) (k := (plc (w.getD i 0)).toNat) (by omega)).len
        refine ⟨⟨by omega, by omega, by omega⟩, ⟨by omega, by omega, pm_rng (half_pm _)⟩, by omega, by omega, i + 1, by omega, by omega, ?_, by omega, ?_⟩
        · rw [expN, if_neg hp]
        · rw [facN, if_neg hp, th_vsw (half_pm _) (by omega), List.take_of_length_le (by omega), List.drop_of_length_le (by omega), List.append_nil]
  · obtain rfl : i = w.length := by omega
    have F := facN_ok hpre w.length (Nat.le_refl _)
    have fl := FL w.length
    have NF : ∀ L, Rch s.toNat (facN s.toNat w w.length) L → Nrm s.toNat L → L = nbN s w := fun L h1 h2 => nf_eq F h1 h2
    obtain ⟨nk1, nk2, nk3⟩ := nbN_ok hpre
    have E := expN_in w w.length
    generalize facN s.toNat w w.length = A at *
    refine ⟨⟨(A, true), ⟨F, fl, .rfl _, fun h => (by cases h)⟩, rfl, rfl, rfl⟩, ?_⟩
    rintro ⟨L, g⟩ ⟨l1, l2, l3, l4⟩
    dsimp only at l1 l2 l3 l4 ⊢
    refine ⟨fun hg => ⟨⟨(0, L, false), ⟨Nat.zero_le _, l1, l2, .rfl _, fun h => (by cases h), fun _ => ⟨rfl, fun a k ha => absurd ha (Nat.not_lt_zero _)⟩⟩, rfl, rfl, rfl⟩, ?_⟩, fun hg => ?_⟩
    · rintro ⟨j, M, c⟩ ⟨m0, m1, m2, m3, m4, m5⟩
      dsimp only at m0 m1 m2 m3 m4 m5 ⊢
      refine ⟨by omega, fun hl2 => ⟨⟨(0, M, c), ⟨Nat.zero_le _, by omega, m1, m2, m3, m4, fun h => ⟨(m5 h).1, (m5 h).2, fun q hq => absurd hq (Nat.not_lt_zero _)⟩⟩, rfl, rfl, rfl⟩, ?_⟩, fun hl2 => ?_⟩
      · rintro ⟨k, K, e⟩ ⟨k00, k0, k1, k2, k3, k4, k5⟩
        dsimp only at k00 k0 k1 k2 k3 k4 k5 ⊢
        have ej : ((j : Int) + 1).toNat = j + 1 := by omega
        have p0 := k1 j (by omega)
        have p1 := k1 (j + 1) (by omega)
        have q0 := p0.len
        have q1 := p1.len
        rw [ej]
        have next : ∀ (hk : (k : Int) + 1 < s), tst K j k = false → (-9223372036854775808 ≤ (k : Int) + 1 ∧ (k : Int) + 1 ≤ 9223372036854775807) ∧ ∃ x13 : Nat × List (List Int) × Bool, (x13.1 ≤ s.toNat ∧ j + 1 < w.length ∧ okL s.toNat x13.2.1 ∧ x13.2.1.length = w.length ∧ Rch s.toNat L x13.2.1 ∧ (x13.2.2 = true → vL s.toNat x13.2.1 < vL s.toNat L) ∧ (x13.2.2 = false → x13.2.1 = L ∧ (∀ (a q : Nat), a < j → q + 1 < s.toNat → tst L a q = false) ∧ ∀ (q : Nat), q < x13.1 → tst L j q = false)) ∧ s.toNat - x13.1 < s.toNat - k ∧ e = x13.2.2 ∧ (k : Int) + 1 = (x13.1 : Int) ∧ K = x13.2.1 := fun hk ht =>
          ⟨by omega, (k + 1, K, e), ⟨by show k + 1 ≤ _; omega, k0, k1, k2, k3, k4, fun h => ⟨(k5 h).1, (k5 h).2.1, fun q hq => by
            by_cases eq : q = k
            · rw [eq, ← (k5 h).1]; exact ht
            · exact (k5 h).2.2 q (by have : q < k + 1 := hq; omega)⟩⟩, by show s.toNat - (k + 1) < _; omega, rfl, by show _ = ((k + 1 : Nat) : Int); omega, rfl⟩
        refine ⟨by omega, fun hk => ⟨by omega, by omega, ⟨by omega, by omega, by omega⟩, fun b1 => ⟨by omega, ⟨by omega, by omega, by omega, pm_rng p0⟩, fun e1 => ?_, fun e1 => ?_⟩, fun b1 => ?_⟩, fun hk => ?_⟩
        · have SP := stepP_pm (n := s.toNat) (k := k) (by omega)
          have sl := SP.len
          have gs : ∀ X : List Int, (K.set j X).getD (j + 1) [] = K.getD (j + 1) [] := fun X => by rw [getD_set2 _ _ _ _ (by omega), if_neg (by omega)]
          have tt : tst K j k = true := tst_iff.2 ⟨b1, e1⟩
          have dec := vL_stp (n := s.toNat) (k := k) (by omega) j K k1 (by omega) tt
          refine ⟨by omega, ⟨by omega, by omega, by omega⟩, ⟨by omega, by omega, pm_rng p0⟩, by omega, by omega, ⟨by omega, by omega, by omega⟩, by omega, by omega, ⟨by omega, by rw [gs]; omega, pm_rng SP⟩, by omega, by omega,
            (k + 1, stp K j k, true), ⟨by show k + 1 ≤ _; omega, k0, stp_ok k1 (by omega) (by omega), by show (stp K j k).length = _; rw [stp_length]; exact k2, k3.trans (Rch.one (by omega) (by omega) tt), fun _ => ?_, fun h => (by cases h)⟩, by show s.toNat - (k + 1) < _; omega, rfl, by show _ = ((k + 1 : Nat) : Int); omega, ?_⟩
          · show vL s.toNat (stp K j k) < vL s.toNat L
            cases he : e with
            | true => have := k4 he; omega
            | false => rw [← (k5 he).1]; exact dec
          · rw [gs, th_vsw p0 (by omega), th_swap p1 (by omega)]; rfl
        · exact next hk (by rw [tst, e1]; simp)
        · exact next hk (by rw [tst, b1]; rfl)
        · refine ⟨by omega, (j + 1, K, e), ⟨by show j + 1 ≤ _; omega, k1, k2, k3, k4, fun h => ⟨(k5 h).1, fun a q ha hq => ?_⟩⟩, by show w.length - (j + 1) < _; omega, rfl, by show _ = ((j + 1 : Nat) : Int); omega, rfl⟩
          by_cases ea : a = j
          · rw [ea]; exact (k5 h).2.2 q (by omega)
          · exact (k5 h).2.1 a q (by have : a < j + 1 := ha; omega) hq
      · refine ⟨(M, c), ⟨m1, m2, l3.trans m3, fun h => ?_⟩, ?_, rfl, rfl⟩
        · obtain ⟨h1, h2⟩ := m5 h
          intro a k ha hk
          show tst M a k = false
          rw [h1]
          exact h2 a k (by have : a + 1 < M.length := ha; omega) hk
        · show 2 * vL s.toNat M + (if c = true then 1 else 0) < 2 * vL s.toNat L + (if g = true then 1 else 0)
          rw [if_pos hg]
          cases hc : c with
          | true => have := m4 hc; rw [if_pos rfl]; omega
          | false => rw [(m5 hc).1, if_neg (by decide)]; omega
    · obtain rfl : L = nbN s w := NF L l3 (l4 hg)
      have rl := nbR_len s w
      have jl : nbJ s w ≤ (nbN s w).length := ldH_le _ _
      have cl : nbC s w ≤ (nbR s w).length := ctU_le _ _
      have room_ : ∀ i, i < w.length → ((nbN s w).getD i []).length ≤ 1099511627776 := fun i hi => by have := (nk1 i (by omega)).len; omega
      have T : ∀ c, nbC s w ≤ c ∧ c ≤ (nbR s w).length → (0 < (c : Int) → (-9223372036854775808 ≤ (c : Int) - 1 ∧ (c : Int) - 1 ≤ 9223372036854775807) ∧ (0 ≤ (c : Int) - 1 ∧ (c : Int) - 1 < (c : Int)) ∧ (0 ≤ s ∧ s ≤ 1099511627776) ∧ ((nbN s w).getD (nbJ s w + ((c : Int) - 1).toNat) []).length ≤ 1099511627776 ∧
          ((nbN s w).getD (nbJ s w + ((c : Int) - 1).toNat) [] = unitL s.toNat → (-9223372036854775808 ≤ (c : Int) - 1 ∧ (c : Int) - 1 ≤ 9223372036854775807) ∧ (0 ≤ (c : Int) - 1 ∧ (c : Int) - 1 ≤ (c : Int)) ∧ ∃ x23, (nbC s w ≤ x23 ∧ x23 ≤ (nbR s w).length) ∧ x23 < c ∧ ((c : Int) - 1).toNat = x23) ∧
          (¬ (nbN s w).getD (nbJ s w + ((c : Int) - 1).toNat) [] = unitL s.toNat → c = nbC s w)) ∧ (¬ 0 < (c : Int) → c = nbC s w) := fun c ⟨c1, c2⟩ => by
        refine ⟨fun h => ?_, fun h => by omega⟩
        have e : ((c : Int) - 1).toNat = c - 1 := by omega
        rw [e]
        refine ⟨by omega, by omega, by omega, room_ _ (by omega), fun u => ⟨by omega, by omega, c - 1, ⟨?_, by omega⟩, by omega, rfl⟩, fun u => ?_⟩
        · rw [← nbR_get] at u
          by_cases hc : c - 1 < nbC s w
          · exact absurd u (nbR_head hc)
          · omega
        · rw [← nbR_get] at u
          by_cases hc : c - 1 < nbC s w
          · omega
          · exact absurd (nbR_tail hpre (by omega) (by omega)) u
      have S : ∀ j, j ≤ w.length → (∀ i, i < j → (nbN s w).getD i [] = halfL s.toNat) → ¬ (j < w.length ∧ (nbN s w).getD j [] = halfL s.toNat) → j = nbJ s w := fun j hj h1 h2 => by
        have a := ldH_iff (halfL s.toNat) (nbN s w) j h1 (by omega)
        have b := ldH_iff (halfL s.toNat) (nbN s w) (nbJ s w)
        rw [nk3] at a
        have n1 : ¬ j < nbJ s w := fun h => h2 (a.1 h)
        by_cases n2 : nbJ s w < j
        · have := (b (fun i hi => h1 i (by omega)) jl).2 ⟨by omega, h1 _ n2⟩
          exact absurd this (Nat.lt_irrefl _)
        · omega
      have X : ∀ j, j = nbJ s w → ∃ x21, (nbC s w ≤ x21 ∧ x21 ≤ (nbR s w).length) ∧ expN w w.length + (j : Int) = nbE s w ∧ j = nbJ s w ∧ w.length - j = x21 := fun j e => ⟨(nbR s w).length, ⟨cl, Nat.le_refl _⟩, by rw [e]; rfl, e, by rw [e, rl]; omega⟩
      refine ⟨⟨0, ⟨Nat.zero_le _, fun i hi => absurd hi (Nat.not_lt_zero _)⟩, by omega, rfl, by omega, rfl⟩, fun j ⟨hj, h1⟩ => ⟨fun hl2 => ?_, fun hl2 => ?_⟩⟩
      · have z : j + Int.toNat 0 = j := rfl
        have z1 : j + Int.toNat 1 = j + 1 := rfl
        rw [z, z1]
        refine ⟨by omega, room_ _ (by omega), fun hh => ⟨by omega, by omega, j + 1, ⟨by omega, fun i hi => ?_⟩, by omega, by omega, rfl, by show w.length - j - 1 = _; omega⟩, fun hh => ⟨X j (S j hj h1 fun h => hh h.2), T⟩⟩
        by_cases ei : i = j
        · rw [ei]; exact hh
        · exact h1 i (by omega)
      · exact ⟨X j (S j hj h1 fun h => hl2 (by omega)), T⟩
theorem l16Normal_fits : Fits Try.prog 39 ⟨[], l16Normal_ct⟩ := by
  refine fits_fn (Γ := gam l16Normal_G) (gok_cons l16Turned_fits (gok_cons l16Place_fits (gok_cons l16Step_fits (gok_cons l16Turn_fits (gok_cons l01ThenP_fits (gok_cons l16Begins_fits (gok_cons l16Ends_fits (gok_cons l01SameP_fits (gok_cons l01Unit_fits gok_nil))))))))) Try.func39 (by kernel_rfl) (by kernel_rfl) (by kernel_rfl) fun ds p h hp => ?_
  unfold l16Normal_ct at h
  split at h
  · cases h
    exact ⟨noWr, l16Normal_ann _ _ , by rw [l16Normal_vc]; exact l16Normal_ok _ _  hp⟩
  · cases h

def twoB (s : Int) (w : List Int) (s2 : Int) (w2 : List Int) : Bool := braidB s w && braidB s2 w2 && decide (s = s2)


def aeC (s : Int) (w : List Int) (s2 : Int) (w2 : List Int) : Bool × Int :=
  if twoB s w s2 w2 = true then (decide (nbE s w = nbE s2 w2) && decide ((nbR s w).take (nbC s w) = (nbR s2 w2).take (nbC s2 w2)), 0) else (false, 1)

theorem two_of {s : Int} {w : List Int} {s2 : Int} {w2 : List Int} (h : twoB s w s2 w2 = true) : braidB s w = true ∧ braidB s2 w2 = true ∧ s = s2 := by
  simp only [twoB, Bool.and_eq_true, decide_eq_true_eq] at h
  exact ⟨h.1.1, h.1.2, h.2⟩

theorem nbT_room {s : Int} {w : List Int} (h : braidB s w = true) : roomR ((nbR s w).take (nbC s w)) := by
  obtain ⟨a, b, c⟩ := nbN_ok h
  have hs : 2 ≤ s ∧ s ≤ 6 ∧ w.length ≤ 30 := by
    simp only [braidB, Bool.and_eq_true, decide_eq_true_eq] at h; omega
  have l := nbR_len s w
  refine ⟨by rw [List.length_take]; omega, fun r hr => ?_⟩
  have hr := List.mem_of_mem_drop (List.mem_of_mem_take hr)
  obtain ⟨i, hi, rfl⟩ := List.getElem_of_mem hr
  have := (a i hi).len
  rw [getD_lt _ [] i hi] at this
  omega


end Go.Sx
