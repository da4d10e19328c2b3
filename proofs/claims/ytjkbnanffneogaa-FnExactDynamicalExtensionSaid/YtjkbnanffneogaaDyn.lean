/- Contracts of ConstantDynamical, both ways. -/
import Derived.Test.YtjkbnanffneogaaDeep
import Derived.Test.YtjkbnanffneogaaExtC
open Go Go.Proofs
namespace Go.Sx
set_option linter.unusedSimpArgs false
set_option linter.unusedVariables false

/-- The permutation that leads t to t + b, m times; for a row; for a matrix. -/
def conP (m : Nat) (b : Int) : List Int := tab m fun t => ((t : Int) + b).tmod (m : Int)
def conS (m : Nat) (b : Int) : List (List Int) := List.replicate m (conP m b)
def conR (m : Nat) (r : List Int) : List (List (List Int)) := r.map (conS m)
def con4 (m : Nat) (f : List (List Int)) : List (List (List (List Int))) := f.map (conR m)

def cdC (t : List (List Int)) (m : Int) (f : List (List Int)) : List (List (List (List Int))) × Int :=
  if cycB t = true then (if matB (t.length : Int) m f = true then (con4 m.toNat f, 0) else ([], 2)) else ([], 1)

def iCD_p (t : List (List Int)) (m : Int) (f : List (List Int)) : Post := ⟨roomR t ∧ roomR f, .tup [.inl (.tr [59, 24, 41, 2] (.r4 .i64 ((cdC t m f).1))), .inl (.int .i64 ((cdC t m f).2))], []⟩
def iCD_ct : List AD → Option Post
  | [.agg [.rows .i64 (t)], .c (.int .i64 (m)), .c (.rows .i64 (f))] => some (iCD_p t m f)
  | _ => none
def iCD_ann (t : List (List Int)) (m : Int) (f : List (List Int)) : Nat → Option Ann
  | 0 => some (Ann.mk ((Nat)) (fun i => ⟨[(1, .c (.int .i64 (m))), (8, .c (.own (28))), (29, .c (.ro (.rows .i64 (f)))), (30, .c (.int .i64 ((f.length : Int)))), (31, .c (.int .i64 ((i : Int))))], [(28, some (.tr 0 [59, 24, 41, 2] (.r4 .i64 ((con4 m.toNat f).take i ++ List.replicate (f.length - i) []))))]⟩) (fun i => i ≤ f.length ∧ cycB t = true ∧ matB (t.length : Int) m f = true) (fun i => f.length - i) (fun i => fun b_ => match b_ with | 2 => some (Ann.mk ((Nat)) (fun j => ⟨[(1, .c (.int .i64 (m))), (8, .c (.own (28))), (9, .c (.int .i64 ((i : Int)))), (29, .c (.ro (.rows .i64 (f)))), (30, .c (.int .i64 ((f.length : Int)))), (31, .c (.int .i64 ((i : Int)))), (42, .c (.ro (.ints .i64 (f.getD i [])))), (43, .c (.int .i64 (((f.getD i []).length : Int)))), (44, .c (.int .i64 ((j : Int))))], [(28, some (.tr 0 [59, 24, 41, 2] (.r4 .i64 ((con4 m.toNat f).take i ++ ((conR m.toNat (f.getD i [])).take j ++ List.replicate ((f.getD i []).length - j) []) :: List.replicate (f.length - (i + 1)) []))))]⟩) (fun j => i < f.length ∧ j ≤ (f.getD i []).length) (fun j => (f.getD i []).length - j) (fun j => fun b_ => match b_ with | 4 => some (Ann.mk ((Nat)) (fun s => ⟨[(1, .c (.int .i64 (m))), (8, .c (.own (28))), (9, .c (.int .i64 ((i : Int)))), (11, .c (.int .i64 ((j : Int)))), (12, .c (.int .i64 ((f.getD i []).getD j 0))), (29, .c (.ro (.rows .i64 (f)))), (30, .c (.int .i64 ((f.length : Int)))), (31, .c (.int .i64 ((i : Int)))), (42, .c (.ro (.ints .i64 (f.getD i [])))), (43, .c (.int .i64 (((f.getD i []).length : Int)))), (44, .c (.int .i64 ((j : Int)))), (64, .c (.int .i64 ((m.toNat : Int)))), (65, .c (.int .i64 ((s : Int))))], [(28, some (.tr 0 [59, 24, 41, 2] (.r4 .i64 ((con4 m.toNat f).take i ++ ((conR m.toNat (f.getD i [])).take j ++ (List.replicate s (conP m.toNat ((f.getD i []).getD j 0)) ++ List.replicate (m.toNat - s) []) :: List.replicate ((f.getD i []).length - (j + 1)) []) :: List.replicate (f.length - (i + 1)) []))))]⟩) (fun s => j < (f.getD i []).length ∧ s ≤ m.toNat) (fun s => m.toNat - s) (fun s => fun b_ => match b_ with | 6 => some (Ann.mk ((Nat)) (fun u => ⟨[(1, .c (.int .i64 (m))), (8, .c (.own (28))), (9, .c (.int .i64 ((i : Int)))), (11, .c (.int .i64 ((j : Int)))), (12, .c (.int .i64 ((f.getD i []).getD j 0))), (13, .c (.int .i64 ((s : Int)))), (14, .c (.own (69))), (29, .c (.ro (.rows .i64 (f)))), (30, .c (.int .i64 ((f.length : Int)))), (31, .c (.int .i64 ((i : Int)))), (42, .c (.ro (.ints .i64 (f.getD i [])))), (43, .c (.int .i64 (((f.getD i []).length : Int)))), (44, .c (.int .i64 ((j : Int)))), (64, .c (.int .i64 ((m.toNat : Int)))), (65, .c (.int .i64 ((s : Int)))), (71, .c (.int .i64 ((m.toNat : Int)))), (72, .c (.int .i64 ((u : Int))))], [(28, some (.tr 0 [59, 24, 41, 2] (.r4 .i64 ((con4 m.toNat f).take i ++ ((conR m.toNat (f.getD i [])).take j ++ (List.replicate s (conP m.toNat ((f.getD i []).getD j 0)) ++ List.replicate (m.toNat - s) []) :: List.replicate ((f.getD i []).length - (j + 1)) []) :: List.replicate (f.length - (i + 1)) [])))), (69, some (.ints 2 .i64 ((conP m.toNat ((f.getD i []).getD j 0)).take u ++ List.replicate (m.toNat - u) 0)))]⟩) (fun u => s < m.toNat ∧ u ≤ m.toNat) (fun u => m.toNat - u) (fun _ => noAnn)) | _ => none)) | _ => none)) | _ => none))
  | _ => none
def iCD_G : List (Nat × Ctr) := [(16, ⟨[], IsCycleSet_ct⟩), (35, ⟨[], isMatrix_ct⟩)]
def iCD_V (t : List (List Int)) (m : Int) (f : List (List Int)) : Prop :=
  (((roomR t) ∧
 (True)) ∧
 (BrP (!cycB t)
 (((FC.len (FC.r4 IntKind.i64 (Prod.fst (cdC t m f))) = (0 : Nat)) ∧
 (((1 : Int) = Prod.snd (cdC t m f)) ∧
 (True))) ∧
 (True))
 (((roomR f) ∧
 (True)) ∧
 (BrP (!matB (↑(List.length t) : Int) m f)
 (((FC.len (FC.r4 IntKind.i64 (Prod.fst (cdC t m f))) = (0 : Nat)) ∧
 (((2 : Int) = Prod.snd (cdC t m f)) ∧
 (True))) ∧
 (True))
 ((((0 : Int) ≤ (↑(List.length f) : Int)) ∧
 (((↑(List.length f) : Int) ≤ (↑(List.length f) : Int)) ∧
 (room (Int.toNat (↑(List.length f) : Int))))) ∧
 ((∃ x0 : Nat, (((x0 ≤ List.length f) ∧
 ((cycB t = Bool.true) ∧
 (matB (↑(List.length t) : Int) m f = Bool.true))) ∧
 ((m = m) ∧
 ((f = f) ∧
 (((↑(List.length f) : Int) = (↑(List.length f) : Int)) ∧
 (((0 : Int) = (↑x0 : Int)) ∧
 (List.replicate (Int.toNat (↑(List.length f) : Int)) ([] : List (List (List Int))) = List.take x0 (con4 (Int.toNat m) f) ++ List.replicate (List.length f - x0) ([] : List (List (List Int)))))))))) ∧
 (∀ x1 : Nat, (((x1 ≤ List.length f) ∧
 ((cycB t = Bool.true) ∧
 (matB (↑(List.length t) : Int) m f = Bool.true))) →
 (BrP (Decidable.decide ((↑x1 : Int) < (↑(List.length f) : Int)))
 ((inB (↑x1 : Int) (List.length f)) ∧
 ((((0 : Int) ≤ (↑(List.length (List.getD f (Int.toNat (↑x1 : Int)) [])) : Int)) ∧
 (((↑(List.length (List.getD f (Int.toNat (↑x1 : Int)) [])) : Int) ≤ (↑(List.length (List.getD f (Int.toNat (↑x1 : Int)) [])) : Int)) ∧
 (room (Int.toNat (↑(List.length (List.getD f (Int.toNat (↑x1 : Int)) [])) : Int))))) ∧
 ((inB (↑x1 : Int) (FC.len (FC.r4 IntKind.i64 (List.take x1 (con4 (Int.toNat m) f) ++ List.replicate (List.length f - x1) ([] : List (List (List Int))))))) ∧
 ((∃ x2 : Nat, (((x1 < List.length f) ∧
 (x2 ≤ List.length (List.getD f x1 []))) ∧
 ((m = m) ∧
 (((↑x1 : Int) = (↑x1 : Int)) ∧
 ((f = f) ∧
 (((↑(List.length f) : Int) = (↑(List.length f) : Int)) ∧
 (((↑x1 : Int) = (↑x1 : Int)) ∧
 ((List.getD f (Int.toNat (↑x1 : Int)) [] = List.getD f x1 []) ∧
 (((↑(List.length (List.getD f (Int.toNat (↑x1 : Int)) [])) : Int) = (↑(List.length (List.getD f x1 [])) : Int)) ∧
 (((0 : Int) = (↑x2 : Int)) ∧
 (List.set (List.take x1 (con4 (Int.toNat m) f) ++ List.replicate (List.length f - x1) ([] : List (List (List Int)))) (Int.toNat (↑x1 : Int)) (List.replicate (Int.toNat (↑(List.length (List.getD f (Int.toNat (↑x1 : Int)) [])) : Int)) ([] : List (List Int))) = List.take x1 (con4 (Int.toNat m) f) ++ (List.take x2 (conR (Int.toNat m) (List.getD f x1 [])) ++ List.replicate (List.length (List.getD f x1 []) - x2) ([] : List (List Int))) :: List.replicate (List.length f - (x1 + (1 : Nat))) ([] : List (List (List Int)))))))))))))) ∧
 (∀ x3 : Nat, (((x1 < List.length f) ∧
 (x3 ≤ List.length (List.getD f x1 []))) →
 (BrP (Decidable.decide ((↑x3 : Int) < (↑(List.length (List.getD f x1 [])) : Int)))
 ((inB (↑x3 : Int) (List.length (List.getD f x1 []))) ∧
 ((inB (↑x1 : Int) (FC.len (FC.r4 IntKind.i64 (List.take x1 (con4 (Int.toNat m) f) ++ (List.take x3 (conR (Int.toNat m) (List.getD f x1 [])) ++ List.replicate (List.length (List.getD f x1 []) - x3) ([] : List (List Int))) :: List.replicate (List.length f - (x1 + (1 : Nat))) ([] : List (List (List Int))))))) ∧
 ((((0 : Int) ≤ m) ∧
 ((m ≤ m) ∧
 (room (Int.toNat m)))) ∧
 ((inB (↑x3 : Int) (FC.len (FC.r3 IntKind.i64 (List.getD (List.take x1 (con4 (Int.toNat m) f) ++ (List.take x3 (conR (Int.toNat m) (List.getD f x1 [])) ++ List.replicate (List.length (List.getD f x1 []) - x3) ([] : List (List Int))) :: List.replicate (List.length f - (x1 + (1 : Nat))) ([] : List (List (List Int)))) (Int.toNat (↑x1 : Int)) ([] : List (List (List Int))))))) ∧
 ((inB (↑x1 : Int) (FC.len (FC.r4 IntKind.i64 (List.set (List.take x1 (con4 (Int.toNat m) f) ++ (List.take x3 (conR (Int.toNat m) (List.getD f x1 [])) ++ List.replicate (List.length (List.getD f x1 []) - x3) ([] : List (List Int))) :: List.replicate (List.length f - (x1 + (1 : Nat))) ([] : List (List (List Int)))) (Int.toNat (↑x1 : Int)) (List.set (List.getD (List.take x1 (con4 (Int.toNat m) f) ++ (List.take x3 (conR (Int.toNat m) (List.getD f x1 [])) ++ List.replicate (List.length (List.getD f x1 []) - x3) ([] : List (List Int))) :: List.replicate (List.length f - (x1 + (1 : Nat))) ([] : List (List (List Int)))) (Int.toNat (↑x1 : Int)) ([] : List (List (List Int)))) (Int.toNat (↑x3 : Int)) (List.replicate (Int.toNat m) ([] : List Int))))))) ∧
 ((inB (↑x3 : Int) (FC.len (FC.r3 IntKind.i64 (List.getD (List.set (List.take x1 (con4 (Int.toNat m) f) ++ (List.take x3 (conR (Int.toNat m) (List.getD f x1 [])) ++ List.replicate (List.length (List.getD f x1 []) - x3) ([] : List (List Int))) :: List.replicate (List.length f - (x1 + (1 : Nat))) ([] : List (List (List Int)))) (Int.toNat (↑x1 : Int)) (List.set (List.getD (List.take x1 (con4 (Int.toNat m) f) ++ (List.take x3 (conR (Int.toNat m) (List.getD f x1 [])) ++ List.replicate (List.length (List.getD f x1 []) - x3) ([] : List (List Int))) :: List.replicate (List.length f - (x1 + (1 : Nat))) ([] : List (List (List Int)))) (Int.toNat (↑x1 : Int)) ([] : List (List (List Int)))) (Int.toNat (↑x3 : Int)) (List.replicate (Int.toNat m) ([] : List Int)))) (Int.toNat (↑x1 : Int)) ([] : List (List (List Int))))))) ∧
 ((∃ x4 : Nat, (((x3 < List.length (List.getD f x1 [])) ∧
 (x4 ≤ Int.toNat m)) ∧
 ((m = m) ∧
 (((↑x1 : Int) = (↑x1 : Int)) ∧
 (((↑x3 : Int) = (↑x3 : Int)) ∧
 ((List.getD (List.getD f x1 []) (Int.toNat (↑x3 : Int)) (0 : Int) = List.getD (List.getD f x1 []) x3 (0 : Int)) ∧
 ((f = f) ∧
 (((↑(List.length f) : Int) = (↑(List.length f) : Int)) ∧
 (((↑x1 : Int) = (↑x1 : Int)) ∧
 ((List.getD f x1 [] = List.getD f x1 []) ∧
 (((↑(List.length (List.getD f x1 [])) : Int) = (↑(List.length (List.getD f x1 [])) : Int)) ∧
 (((↑x3 : Int) = (↑x3 : Int)) ∧
 (((↑(FC.len (FC.rows IntKind.i64 (List.getD (List.getD (List.set (List.take x1 (con4 (Int.toNat m) f) ++ (List.take x3 (conR (Int.toNat m) (List.getD f x1 [])) ++ List.replicate (List.length (List.getD f x1 []) - x3) ([] : List (List Int))) :: List.replicate (List.length f - (x1 + (1 : Nat))) ([] : List (List (List Int)))) (Int.toNat (↑x1 : Int)) (List.set (List.getD (List.take x1 (con4 (Int.toNat m) f) ++ (List.take x3 (conR (Int.toNat m) (List.getD f x1 [])) ++ List.replicate (List.length (List.getD f x1 []) - x3) ([] : List (List Int))) :: List.replicate (List.length f - (x1 + (1 : Nat))) ([] : List (List (List Int)))) (Int.toNat (↑x1 : Int)) ([] : List (List (List Int)))) (Int.toNat (↑x3 : Int)) (List.replicate (Int.toNat m) ([] : List Int)))) (Int.toNat (↑x1 : Int)) ([] : List (List (List Int)))) (Int.toNat (↑x3 : Int)) ([] : List (List Int))))) : Int) = (↑(Int.toNat m) : Int)) ∧
 (((0 : Int) = (↑x4 : Int)) ∧
 (List.set (List.take x1 (con4 (Int.toNat m) f) ++ (List.take x3 (conR (Int.toNat m) (List.getD f x1 [])) ++ List.replicate (List.length (List.getD f x1 []) - x3) ([] : List (List Int))) :: List.replicate (List.length f - (x1 + (1 : Nat))) ([] : List (List (List Int)))) (Int.toNat (↑x1 : Int)) (List.set (List.getD (List.take x1 (con4 (Int.toNat m) f) ++ (List.take x3 (conR (Int.toNat m) (List.getD f x1 [])) ++ List.replicate (List.length (List.getD f x1 []) - x3) ([] : List (List Int))) :: List.replicate (List.length f - (x1 + (1 : Nat))) ([] : List (List (List Int)))) (Int.toNat (↑x1 : Int)) ([] : List (List (List Int)))) (Int.toNat (↑x3 : Int)) (List.replicate (Int.toNat m) ([] : List Int))) = List.take x1 (con4 (Int.toNat m) f) ++ (List.take x3 (conR (Int.toNat m) (List.getD f x1 [])) ++ (List.replicate x4 (conP (Int.toNat m) (List.getD (List.getD f x1 []) x3 (0 : Int))) ++ List.replicate (Int.toNat m - x4) ([] : List Int)) :: List.replicate (List.length (List.getD f x1 []) - (x3 + (1 : Nat))) ([] : List (List Int))) :: List.replicate (List.length f - (x1 + (1 : Nat))) ([] : List (List (List Int)))))))))))))))))) ∧
 (∀ x5 : Nat, (((x3 < List.length (List.getD f x1 [])) ∧
 (x5 ≤ Int.toNat m)) →
 (BrP (Decidable.decide ((↑x5 : Int) < (↑(Int.toNat m) : Int)))
 ((((0 : Int) ≤ m) ∧
 ((m ≤ m) ∧
 (room (Int.toNat m)))) ∧
 ((∃ x6 : Nat, (((x5 < Int.toNat m) ∧
 (x6 ≤ Int.toNat m)) ∧
 ((m = m) ∧
 (((↑x1 : Int) = (↑x1 : Int)) ∧
 (((↑x3 : Int) = (↑x3 : Int)) ∧
 ((List.getD (List.getD f x1 []) x3 (0 : Int) = List.getD (List.getD f x1 []) x3 (0 : Int)) ∧
 (((↑x5 : Int) = (↑x5 : Int)) ∧
 ((f = f) ∧
 (((↑(List.length f) : Int) = (↑(List.length f) : Int)) ∧
 (((↑x1 : Int) = (↑x1 : Int)) ∧
 ((List.getD f x1 [] = List.getD f x1 []) ∧
 (((↑(List.length (List.getD f x1 [])) : Int) = (↑(List.length (List.getD f x1 [])) : Int)) ∧
 (((↑x3 : Int) = (↑x3 : Int)) ∧
 (((↑(Int.toNat m) : Int) = (↑(Int.toNat m) : Int)) ∧
 (((↑x5 : Int) = (↑x5 : Int)) ∧
 (((↑(List.length (List.replicate (Int.toNat m) (0 : Int))) : Int) = (↑(Int.toNat m) : Int)) ∧
 (((0 : Int) = (↑x6 : Int)) ∧
 ((List.take x1 (con4 (Int.toNat m) f) ++ (List.take x3 (conR (Int.toNat m) (List.getD f x1 [])) ++ (List.replicate x5 (conP (Int.toNat m) (List.getD (List.getD f x1 []) x3 (0 : Int))) ++ List.replicate (Int.toNat m - x5) ([] : List Int)) :: List.replicate (List.length (List.getD f x1 []) - (x3 + (1 : Nat))) ([] : List (List Int))) :: List.replicate (List.length f - (x1 + (1 : Nat))) ([] : List (List (List Int))) = List.take x1 (con4 (Int.toNat m) f) ++ (List.take x3 (conR (Int.toNat m) (List.getD f x1 [])) ++ (List.replicate x5 (conP (Int.toNat m) (List.getD (List.getD f x1 []) x3 (0 : Int))) ++ List.replicate (Int.toNat m - x5) ([] : List Int)) :: List.replicate (List.length (List.getD f x1 []) - (x3 + (1 : Nat))) ([] : List (List Int))) :: List.replicate (List.length f - (x1 + (1 : Nat))) ([] : List (List (List Int)))) ∧
 (List.replicate (Int.toNat m) (0 : Int) = List.take x6 (conP (Int.toNat m) (List.getD (List.getD f x1 []) x3 (0 : Int))) ++ List.replicate (Int.toNat m - x6) (0 : Int)))))))))))))))))))) ∧
 (∀ x7 : Nat, (((x5 < Int.toNat m) ∧
 (x7 ≤ Int.toNat m)) →
 (BrP (Decidable.decide ((↑x7 : Int) < (↑(Int.toNat m) : Int)))
 ((InR ((↑x7 : Int) + List.getD (List.getD f x1 []) x3 (0 : Int))) ∧
 ((m ≠ (0 : Int)) ∧
 ((inB (↑x7 : Int) (List.length (List.take x7 (conP (Int.toNat m) (List.getD (List.getD f x1 []) x3 (0 : Int))) ++ List.replicate (Int.toNat m - x7) (0 : Int)))) ∧
 ((InR ((↑x7 : Int) + (1 : Int))) ∧
 (∃ x8 : Nat, (((x5 < Int.toNat m) ∧
 (x8 ≤ Int.toNat m)) ∧
 ((Int.toNat m - x8 < Int.toNat m - x7) ∧
 ((m = m) ∧
 (((↑x1 : Int) = (↑x1 : Int)) ∧
 (((↑x3 : Int) = (↑x3 : Int)) ∧
 ((List.getD (List.getD f x1 []) x3 (0 : Int) = List.getD (List.getD f x1 []) x3 (0 : Int)) ∧
 (((↑x5 : Int) = (↑x5 : Int)) ∧
 ((f = f) ∧
 (((↑(List.length f) : Int) = (↑(List.length f) : Int)) ∧
 (((↑x1 : Int) = (↑x1 : Int)) ∧
 ((List.getD f x1 [] = List.getD f x1 []) ∧
 (((↑(List.length (List.getD f x1 [])) : Int) = (↑(List.length (List.getD f x1 [])) : Int)) ∧
 (((↑x3 : Int) = (↑x3 : Int)) ∧
 (((↑(Int.toNat m) : Int) = (↑(Int.toNat m) : Int)) ∧
 (((↑x5 : Int) = (↑x5 : Int)) ∧
 (((↑(Int.toNat m) : Int) = (↑(Int.toNat m) : Int)) ∧
 (((↑x7 : Int) + (1 : Int) = (↑x8 : Int)) ∧
 ((List.take x1 (con4 (Int.toNat m) f) ++ (List.take x3 (conR (Int.toNat m) (List.getD f x1 [])) ++ (List.replicate x5 (conP (Int.toNat m) (List.getD (List.getD f x1 []) x3 (0 : Int))) ++ List.replicate (Int.toNat m - x5) ([] : List Int)) :: List.replicate (List.length (List.getD f x1 []) - (x3 + (1 : Nat))) ([] : List (List Int))) :: List.replicate (List.length f - (x1 + (1 : Nat))) ([] : List (List (List Int))) = List.take x1 (con4 (Int.toNat m) f) ++ (List.take x3 (conR (Int.toNat m) (List.getD f x1 [])) ++ (List.replicate x5 (conP (Int.toNat m) (List.getD (List.getD f x1 []) x3 (0 : Int))) ++ List.replicate (Int.toNat m - x5) ([] : List Int)) :: List.replicate (List.length (List.getD f x1 []) - (x3 + (1 : Nat))) ([] : List (List Int))) :: List.replicate (List.length f - (x1 + (1 : Nat))) ([] : List (List (List Int)))) ∧
 (List.set (List.take x7 (conP (Int.toNat m) (List.getD (List.getD f x1 []) x3 (0 : Int))) ++ List.replicate (Int.toNat m - x7) (0 : Int)) (Int.toNat (↑x7 : Int)) (Int.tmod ((↑x7 : Int) + List.getD (List.getD f x1 []) x3 (0 : Int)) m) = List.take x8 (conP (Int.toNat m) (List.getD (List.getD f x1 []) x3 (0 : Int))) ++ List.replicate (Int.toNat m - x8) (0 : Int)))))))))))))))))))))))))
 ((inB (↑x1 : Int) (FC.len (FC.r4 IntKind.i64 (List.take x1 (con4 (Int.toNat m) f) ++ (List.take x3 (conR (Int.toNat m) (List.getD f x1 [])) ++ (List.replicate x5 (conP (Int.toNat m) (List.getD (List.getD f x1 []) x3 (0 : Int))) ++ List.replicate (Int.toNat m - x5) ([] : List Int)) :: List.replicate (List.length (List.getD f x1 []) - (x3 + (1 : Nat))) ([] : List (List Int))) :: List.replicate (List.length f - (x1 + (1 : Nat))) ([] : List (List (List Int))))))) ∧
 ((inB (↑x3 : Int) (FC.len (FC.r3 IntKind.i64 (List.getD (List.take x1 (con4 (Int.toNat m) f) ++ (List.take x3 (conR (Int.toNat m) (List.getD f x1 [])) ++ (List.replicate x5 (conP (Int.toNat m) (List.getD (List.getD f x1 []) x3 (0 : Int))) ++ List.replicate (Int.toNat m - x5) ([] : List Int)) :: List.replicate (List.length (List.getD f x1 []) - (x3 + (1 : Nat))) ([] : List (List Int))) :: List.replicate (List.length f - (x1 + (1 : Nat))) ([] : List (List (List Int)))) (Int.toNat (↑x1 : Int)) ([] : List (List (List Int))))))) ∧
 ((inB (↑x5 : Int) (FC.len (FC.rows IntKind.i64 (List.getD (List.getD (List.take x1 (con4 (Int.toNat m) f) ++ (List.take x3 (conR (Int.toNat m) (List.getD f x1 [])) ++ (List.replicate x5 (conP (Int.toNat m) (List.getD (List.getD f x1 []) x3 (0 : Int))) ++ List.replicate (Int.toNat m - x5) ([] : List Int)) :: List.replicate (List.length (List.getD f x1 []) - (x3 + (1 : Nat))) ([] : List (List Int))) :: List.replicate (List.length f - (x1 + (1 : Nat))) ([] : List (List (List Int)))) (Int.toNat (↑x1 : Int)) ([] : List (List (List Int)))) (Int.toNat (↑x3 : Int)) ([] : List (List Int)))))) ∧
 ((InR ((↑x5 : Int) + (1 : Int))) ∧
 (∃ x9 : Nat, (((x3 < List.length (List.getD f x1 [])) ∧
 (x9 ≤ Int.toNat m)) ∧
 ((Int.toNat m - x9 < Int.toNat m - x5) ∧
 ((m = m) ∧
 (((↑x1 : Int) = (↑x1 : Int)) ∧
 (((↑x3 : Int) = (↑x3 : Int)) ∧
 ((List.getD (List.getD f x1 []) x3 (0 : Int) = List.getD (List.getD f x1 []) x3 (0 : Int)) ∧
 ((f = f) ∧
 (((↑(List.length f) : Int) = (↑(List.length f) : Int)) ∧
 (((↑x1 : Int) = (↑x1 : Int)) ∧
 ((List.getD f x1 [] = List.getD f x1 []) ∧
 (((↑(List.length (List.getD f x1 [])) : Int) = (↑(List.length (List.getD f x1 [])) : Int)) ∧
 (((↑x3 : Int) = (↑x3 : Int)) ∧
 (((↑(Int.toNat m) : Int) = (↑(Int.toNat m) : Int)) ∧
 (((↑x5 : Int) + (1 : Int) = (↑x9 : Int)) ∧
 (List.set (List.take x1 (con4 (Int.toNat m) f) ++ (List.take x3 (conR (Int.toNat m) (List.getD f x1 [])) ++ (List.replicate x5 (conP (Int.toNat m) (List.getD (List.getD f x1 []) x3 (0 : Int))) ++ List.replicate (Int.toNat m - x5) ([] : List Int)) :: List.replicate (List.length (List.getD f x1 []) - (x3 + (1 : Nat))) ([] : List (List Int))) :: List.replicate (List.length f - (x1 + (1 : Nat))) ([] : List (List (List Int)))) (Int.toNat (↑x1 : Int)) (List.set (List.getD (List.take x1 (con4 (Int.toNat m) f) ++ (List.take x3 (conR (Int.toNat m) (List.getD f x1 [])) ++ (List.replicate x5 (conP (Int.toNat m) (List.getD (List.getD f x1 []) x3 (0 : Int))) ++ List.replicate (Int.toNat m - x5) ([] : List Int)) :: List.replicate (List.length (List.getD f x1 []) - (x3 + (1 : Nat))) ([] : List (List Int))) :: List.replicate (List.length f - (x1 + (1 : Nat))) ([] : List (List (List Int)))) (Int.toNat (↑x1 : Int)) ([] : List (List (List Int)))) (Int.toNat (↑x3 : Int)) (List.set (List.getD (List.getD (List.take x1 (con4 (Int.toNat m) f) ++ (List.take x3 (conR (Int.toNat m) (List.getD f x1 [])) ++ (List.replicate x5 (conP (Int.toNat m) (List.getD (List.getD f x1 []) x3 (0 : Int))) ++ List.replicate (Int.toNat m - x5) ([] : List Int)) :: List.replicate (List.length (List.getD f x1 []) - (x3 + (1 : Nat))) ([] : List (List Int))) :: List.replicate (List.length f - (x1 + (1 : Nat))) ([] : List (List (List Int)))) (Int.toNat (↑x1 : Int)) ([] : List (List (List Int)))) (Int.toNat (↑x3 : Int)) ([] : List (List Int))) (Int.toNat (↑x5 : Int)) (List.take x7 (conP (Int.toNat m) (List.getD (List.getD f x1 []) x3 (0 : Int))) ++ List.replicate (Int.toNat m - x7) (0 : Int)))) = List.take x1 (con4 (Int.toNat m) f) ++ (List.take x3 (conR (Int.toNat m) (List.getD f x1 [])) ++ (List.replicate x9 (conP (Int.toNat m) (List.getD (List.getD f x1 []) x3 (0 : Int))) ++ List.replicate (Int.toNat m - x9) ([] : List Int)) :: List.replicate (List.length (List.getD f x1 []) - (x3 + (1 : Nat))) ([] : List (List Int))) :: List.replicate (List.length f - (x1 + (1 : Nat))) ([] : List (List (List Int))))))))))))))))))))))))))))
 ((InR ((↑x3 : Int) + (1 : Int))) ∧
 (∃ x10 : Nat, (((x1 < List.length f) ∧
 (x10 ≤ List.length (List.getD f x1 []))) ∧
 ((List.length (List.getD f x1 []) - x10 < List.length (List.getD f x1 []) - x3) ∧
 ((m = m) ∧
 (((↑x1 : Int) = (↑x1 : Int)) ∧
 ((f = f) ∧
 (((↑(List.length f) : Int) = (↑(List.length f) : Int)) ∧
 (((↑x1 : Int) = (↑x1 : Int)) ∧
 ((List.getD f x1 [] = List.getD f x1 []) ∧
 (((↑(List.length (List.getD f x1 [])) : Int) = (↑(List.length (List.getD f x1 [])) : Int)) ∧
 (((↑x3 : Int) + (1 : Int) = (↑x10 : Int)) ∧
 (List.take x1 (con4 (Int.toNat m) f) ++ (List.take x3 (conR (Int.toNat m) (List.getD f x1 [])) ++ (List.replicate x5 (conP (Int.toNat m) (List.getD (List.getD f x1 []) x3 (0 : Int))) ++ List.replicate (Int.toNat m - x5) ([] : List Int)) :: List.replicate (List.length (List.getD f x1 []) - (x3 + (1 : Nat))) ([] : List (List Int))) :: List.replicate (List.length f - (x1 + (1 : Nat))) ([] : List (List (List Int))) = List.take x1 (con4 (Int.toNat m) f) ++ (List.take x10 (conR (Int.toNat m) (List.getD f x1 [])) ++ List.replicate (List.length (List.getD f x1 []) - x10) ([] : List (List Int))) :: List.replicate (List.length f - (x1 + (1 : Nat))) ([] : List (List (List Int))))))))))))))))))))))))))
 ((InR ((↑x1 : Int) + (1 : Int))) ∧
 (∃ x11 : Nat, (((x11 ≤ List.length f) ∧
 ((cycB t = Bool.true) ∧
 (matB (↑(List.length t) : Int) m f = Bool.true))) ∧
 ((List.length f - x11 < List.length f - x1) ∧
 ((m = m) ∧
 ((f = f) ∧
 (((↑(List.length f) : Int) = (↑(List.length f) : Int)) ∧
 (((↑x1 : Int) + (1 : Int) = (↑x11 : Int)) ∧
 (List.take x1 (con4 (Int.toNat m) f) ++ (List.take x3 (conR (Int.toNat m) (List.getD f x1 [])) ++ List.replicate (List.length (List.getD f x1 []) - x3) ([] : List (List Int))) :: List.replicate (List.length f - (x1 + (1 : Nat))) ([] : List (List (List Int))) = List.take x11 (con4 (Int.toNat m) f) ++ List.replicate (List.length f - x11) ([] : List (List (List Int)))))))))))))))))))
 (((List.take x1 (con4 (Int.toNat m) f) ++ List.replicate (List.length f - x1) ([] : List (List (List Int))) = Prod.fst (cdC t m f)) ∧
 (((0 : Int) = Prod.snd (cdC t m f)) ∧
 (True))) ∧
 (True)))))))))))
theorem iCD_vc (t : List (List Int)) (m : Int) (f : List (List Int)) : runF Try.prog (gam iCD_G) noWr (iCD_ann t m f) Try.f14 (bodyOf Try.f14) [] [.agg [.rows .i64 (t)], .c (.int .i64 (m)), .c (.rows .i64 (f))] (iCD_p t m f) = iCD_V t m f := by kernel_rfl
theorem iCD_ok (t : List (List Int)) (m : Int) (f : List (List Int)) (hpre : (iCD_p t m f).pre) : iCD_V t m f := by
  simp only [iCD_p, iCD_V, BrP_iff, true_and, and_true, decide_eq_true_eq, decide_eq_false_iff_not, bne_iff_ne, beq_iff_eq, bne_eq_false_iff_eq, beq_eq_false_iff_ne, Bool.not_eq_true, Bool.not_eq_false, Bool.not_true, Bool.not_false, Bool.not_eq_eq_eq_not, Int.toNat_natCast, List.length_append, List.length_take, List.length_replicate, List.length_set, List.length_map, List.length_drop, List.length_nil, List.length_cons, markL_length, inB, InR, room, bdsOk, FC.len] at hpre ⊢
  obtain ⟨h1, h2⟩ := hpre
  refine ⟨h1, fun h => by simp [cdC, h], fun hc => ⟨h2, fun h => by simp [cdC, hc, h], fun hm => ?_⟩⟩
  obtain ⟨m1, m2, m3, m4⟩ := matB_of hm
  have tb := tabB_of (cycB_tab hc)
  have eD : (con4 m.toNat f).length = f.length := List.length_map _
  have em : ((m.toNat : Nat) : Int) = m := by omega
  refine ⟨⟨by omega, by omega, by omega⟩, ⟨0, ⟨by omega, hc, hm⟩, rfl, by simp⟩, fun i ⟨hi, _, _⟩ => ?_⟩
  have lD : ((con4 m.toNat f).take i).length = i := by rw [List.length_take]; omega
  refine ⟨fun hl => ?_, fun hl => ?_⟩
  · obtain ⟨r1, r2⟩ := m4 i (by omega)
    have hD : (con4 m.toNat f).getD i [] = conR m.toNat (f.getD i []) := getD_map _ _ [] _ i (by omega)
    have hT := take_snoc (con4 m.toNat f) [] i (by omega)
    rw [hD] at hT
    generalize f.getD i [] = r at *
    have eR : (conR m.toNat r).length = r.length := List.length_map _
    have AG : ∀ v R, ((con4 m.toNat f).take i ++ v :: R).getD i [] = v := fun v R => at_getD _ _ _ _ _ lD
    have AS : ∀ v v' R, ((con4 m.toNat f).take i ++ v :: R).set i v' = (con4 m.toNat f).take i ++ v' :: R := fun v v' R => at_set _ _ _ _ _ lD
    have S0 : f.length - i = (f.length - (i + 1)) + 1 := by omega
    rw [S0, List.replicate_succ, AS]
    refine ⟨by omega, ⟨by omega, by omega, by omega⟩, by omega, ⟨0, ⟨by omega, by omega⟩, rfl, by simp⟩, fun j ⟨_, hj⟩ => ?_⟩
    simp only [AG, AS, List.length_append, List.length_take, List.length_replicate, List.length_set]
    have lR : ((conR m.toNat r).take j).length = j := by rw [List.length_take]; omega
    refine ⟨fun hl2 => ?_, fun hl2 => ?_⟩
    · have b0 := r2 j (by omega)
      have hR : (conR m.toNat r).getD j [] = conS m.toNat (r.getD j 0) := getD_map _ _ 0 _ j (by omega)
      have hT2 := take_snoc (conR m.toNat r) [] j (by omega)
      rw [hR] at hT2
      generalize r.getD j 0 = b at *
      have eP : (conP m.toNat b).length = m.toNat := tab_length _ _
      have BG : ∀ v R, ((conR m.toNat r).take j ++ v :: R).getD j [] = v := fun v R => at_getD _ _ _ _ _ lR
      have BS : ∀ v v' R, ((conR m.toNat r).take j ++ v :: R).set j v' = (conR m.toNat r).take j ++ v' :: R := fun v v' R => at_set _ _ _ _ _ lR
      have S1 : r.length - j = (r.length - (j + 1)) + 1 := by omega
      rw [S1, List.replicate_succ]
      simp only [BG, BS, List.length_append, List.length_take, List.length_replicate, List.length_set, List.length_cons]
      refine ⟨by omega, by omega, ⟨by omega, by omega, by omega⟩, by omega, by omega, by omega, ⟨0, ⟨by omega, by omega⟩, trivial, rfl, by simp⟩, fun s ⟨_, hs⟩ => ?_⟩
      refine ⟨fun hl3 => ?_, fun hl3 => ?_⟩
      · refine ⟨⟨by omega, by omega, by omega⟩, ⟨0, ⟨by omega, by omega⟩, rfl, by simp⟩, fun u ⟨_, hu⟩ => ⟨fun hl4 => ?_, fun hl4 => ?_⟩⟩
        · refine ⟨by omega, by omega, by omega, by omega, u + 1, ⟨by omega, by omega⟩, by omega, by omega, ?_⟩
          have := fill_step (conP m.toNat b) 0 0 u (by rw [eP]; omega)
          rw [eP] at this
          rw [← this]
          congr 1
          rw [conP, tab_getD _ _ _ (by omega), em]
        · have e1 : (conP m.toNat b).take u = conP m.toNat b := List.take_of_length_le (by omega)
          have e2 : m.toNat - u = 0 := by omega
          have S3 : m.toNat - s = (m.toNat - (s + 1)) + 1 := by omega
          refine ⟨by omega, by omega, by omega, by omega, s + 1, ⟨by omega, by omega⟩, by omega, by omega, ?_⟩
          rw [e1, e2, S3, List.replicate_succ, at_set _ _ _ _ _ (List.length_replicate ..), List.replicate_zero, List.append_nil, List.replicate_succ', List.append_assoc]
          rfl
      · obtain rfl : s = m.toNat := by omega
        refine ⟨by omega, j + 1, ⟨by omega, by omega⟩, by omega, by omega, ?_⟩
        rw [Nat.sub_self, List.replicate_zero, List.append_nil, ← hT2, List.append_assoc]
        rfl
    · obtain rfl : j = r.length := by omega
      refine ⟨by omega, i + 1, ⟨by omega, hc, hm⟩, by omega, by omega, ?_⟩
      have e1 : (conR m.toNat r).take r.length = conR m.toNat r := List.take_of_length_le (by omega)
      rw [Nat.sub_self, List.replicate_zero, List.append_nil, e1, ← hT, List.append_assoc]
      rfl
  · obtain rfl : i = f.length := by omega
    rw [Nat.sub_self, List.replicate_zero, List.append_nil, List.take_of_length_le (by omega), cdC, if_pos hc, if_pos hm]
    exact ⟨rfl, rfl⟩
theorem iCD_fits : Fits Try.prog 14 ⟨[], iCD_ct⟩ := by
  refine fits_fn (Γ := gam iCD_G) (gok_cons IsCycleSet_fits (gok_cons isMatrix_fits gok_nil)) Try.func14 (by kernel_rfl) (by kernel_rfl) (by kernel_rfl) fun ds p h hp => ?_
  unfold iCD_ct at h
  split at h
  · cases h
    exact ⟨noWr, iCD_ann _ _ _ , by rw [iCD_vc]; exact iCD_ok _ _ _  hp⟩
  · cases h

def l14Constant_p (m : Int) (f : List (List Int)) : Post := ⟨matB (f.length : Int) m f = true ∧ f.length ≤ 12, .c (.tr [59, 24, 41, 2] (.r4 .i64 (con4 m.toNat f))), []⟩
def l14Constant_ct : List AD → Option Post
  | [.c (.int .i64 (m)), .c (.rows .i64 (f))] => some (l14Constant_p m f)
  | _ => none
def l14Constant_ann (m : Int) (f : List (List Int)) : Nat → Option Ann
  | 0 => some (Ann.mk ((Nat)) (fun i => ⟨[(0, .c (.int .i64 (m))), (1, .c (.ro (.rows .i64 (f)))), (5, .c (.own (100))), (6, .c (.int .i64 ((i : Int))))], [(100, some (.tr 0 [59, 24, 41, 2] (.r4 .i64 ((con4 m.toNat f).take i))))]⟩) (fun i => i ≤ f.length) (fun i => f.length - i) (fun i => fun b_ => match b_ with | 2 => some (Ann.mk ((Nat)) (fun j => ⟨[(0, .c (.int .i64 (m))), (1, .c (.ro (.rows .i64 (f)))), (5, .c (.own (100))), (6, .c (.int .i64 ((i : Int)))), (7, .c (.own (101))), (8, .c (.int .i64 ((j : Int))))], [(100, some (.tr 0 [59, 24, 41, 2] (.r4 .i64 ((con4 m.toNat f).take i)))), (101, some (.tr 0 [24, 41, 2] (.r3 .i64 ((conR m.toNat (f.getD i [])).take j))))]⟩) (fun j => i < f.length ∧ j ≤ f.length) (fun j => f.length - j) (fun j => fun b_ => match b_ with | 4 => some (Ann.mk ((Nat)) (fun s => ⟨[(0, .c (.int .i64 (m))), (1, .c (.ro (.rows .i64 (f)))), (5, .c (.own (100))), (6, .c (.int .i64 ((i : Int)))), (7, .c (.own (101))), (8, .c (.int .i64 ((j : Int)))), (9, .c (.own (102))), (10, .c (.int .i64 ((s : Int))))], [(100, some (.tr 0 [59, 24, 41, 2] (.r4 .i64 ((con4 m.toNat f).take i)))), (101, some (.tr 0 [24, 41, 2] (.r3 .i64 ((conR m.toNat (f.getD i [])).take j)))), (102, some (.rows 0 41 2 .i64 (List.replicate s (conP m.toNat ((f.getD i []).getD j 0)))))]⟩) (fun s => j < f.length ∧ s ≤ m.toNat) (fun s => m.toNat - s) (fun s => fun b_ => match b_ with | 6 => some (Ann.mk ((Nat)) (fun u => ⟨[(0, .c (.int .i64 (m))), (1, .c (.ro (.rows .i64 (f)))), (5, .c (.own (100))), (6, .c (.int .i64 ((i : Int)))), (7, .c (.own (101))), (8, .c (.int .i64 ((j : Int)))), (9, .c (.own (102))), (10, .c (.int .i64 ((s : Int)))), (11, .c (.own (103))), (12, .c (.int .i64 ((u : Int))))], [(100, some (.tr 0 [59, 24, 41, 2] (.r4 .i64 ((con4 m.toNat f).take i)))), (101, some (.tr 0 [24, 41, 2] (.r3 .i64 ((conR m.toNat (f.getD i [])).take j)))), (102, some (.rows 0 41 2 .i64 (List.replicate s (conP m.toNat ((f.getD i []).getD j 0))))), (103, some (.ints 2 .i64 ((conP m.toNat ((f.getD i []).getD j 0)).take u)))]⟩) (fun u => s < m.toNat ∧ u ≤ m.toNat) (fun u => m.toNat - u) (fun _ => noAnn)) | _ => none)) | _ => none)) | _ => none))
  | _ => none
def l14Constant_wr (t : Nat) : Bool := [2000013, 2000020, 2000059, 2000063].contains t
def l14Constant_G : List (Nat × Ctr) := []
def l14Constant_V (m : Int) (f : List (List Int)) : Prop :=
  ((∃ x0 : Nat, ((x0 ≤ List.length f) ∧
 ((m = m) ∧
 ((f = f) ∧
 (((0 : Int) = (↑x0 : Int)) ∧
 (([] : List (List (List (List Int)))) = List.take x0 (con4 (Int.toNat m) f))))))) ∧
 (∀ x1 : Nat, ((x1 ≤ List.length f) →
 (BrP (Decidable.decide ((↑x1 : Int) < (↑(List.length f) : Int)))
 ((∃ x2 : Nat, (((x1 < List.length f) ∧
 (x2 ≤ List.length f)) ∧
 ((m = m) ∧
 ((f = f) ∧
 (((↑x1 : Int) = (↑x1 : Int)) ∧
 (((0 : Int) = (↑x2 : Int)) ∧
 ((List.take x1 (con4 (Int.toNat m) f) = List.take x1 (con4 (Int.toNat m) f)) ∧
 (([] : List (List (List Int))) = List.take x2 (conR (Int.toNat m) (List.getD f x1 [])))))))))) ∧
 (∀ x3 : Nat, (((x1 < List.length f) ∧
 (x3 ≤ List.length f)) →
 (BrP (Decidable.decide ((↑x3 : Int) < (↑(List.length f) : Int)))
 ((∃ x4 : Nat, (((x3 < List.length f) ∧
 (x4 ≤ Int.toNat m)) ∧
 ((m = m) ∧
 ((f = f) ∧
 (((↑x1 : Int) = (↑x1 : Int)) ∧
 (((↑x3 : Int) = (↑x3 : Int)) ∧
 (((0 : Int) = (↑x4 : Int)) ∧
 ((List.take x1 (con4 (Int.toNat m) f) = List.take x1 (con4 (Int.toNat m) f)) ∧
 ((List.take x3 (conR (Int.toNat m) (List.getD f x1 [])) = List.take x3 (conR (Int.toNat m) (List.getD f x1 []))) ∧
 (([] : List (List Int)) = List.replicate x4 (conP (Int.toNat m) (List.getD (List.getD f x1 []) x3 (0 : Int))))))))))))) ∧
 (∀ x5 : Nat, (((x3 < List.length f) ∧
 (x5 ≤ Int.toNat m)) →
 (BrP (Decidable.decide ((↑x5 : Int) < m))
 ((∃ x6 : Nat, (((x5 < Int.toNat m) ∧
 (x6 ≤ Int.toNat m)) ∧
 ((m = m) ∧
 ((f = f) ∧
 (((↑x1 : Int) = (↑x1 : Int)) ∧
 (((↑x3 : Int) = (↑x3 : Int)) ∧
 (((↑x5 : Int) = (↑x5 : Int)) ∧
 (((0 : Int) = (↑x6 : Int)) ∧
 ((List.take x1 (con4 (Int.toNat m) f) = List.take x1 (con4 (Int.toNat m) f)) ∧
 ((List.take x3 (conR (Int.toNat m) (List.getD f x1 [])) = List.take x3 (conR (Int.toNat m) (List.getD f x1 []))) ∧
 ((List.replicate x5 (conP (Int.toNat m) (List.getD (List.getD f x1 []) x3 (0 : Int))) = List.replicate x5 (conP (Int.toNat m) (List.getD (List.getD f x1 []) x3 (0 : Int)))) ∧
 ([] = List.take x6 (conP (Int.toNat m) (List.getD (List.getD f x1 []) x3 (0 : Int))))))))))))))) ∧
 (∀ x7 : Nat, (((x5 < Int.toNat m) ∧
 (x7 ≤ Int.toNat m)) →
 (BrP (Decidable.decide ((↑x7 : Int) < m))
 ((inB (↑x1 : Int) (List.length f)) ∧
 ((inB (↑x3 : Int) (List.length (List.getD f (Int.toNat (↑x1 : Int)) []))) ∧
 ((InR ((↑x7 : Int) + List.getD (List.getD f (Int.toNat (↑x1 : Int)) []) (Int.toNat (↑x3 : Int)) (0 : Int))) ∧
 ((m ≠ (0 : Int)) ∧
 ((room (List.length (List.take x7 (conP (Int.toNat m) (List.getD (List.getD f x1 []) x3 (0 : Int)))) + List.length [Int.tmod ((↑x7 : Int) + List.getD (List.getD f (Int.toNat (↑x1 : Int)) []) (Int.toNat (↑x3 : Int)) (0 : Int)) m])) ∧
 ((InR ((↑x7 : Int) + (1 : Int))) ∧
 (∃ x8 : Nat, (((x5 < Int.toNat m) ∧
 (x8 ≤ Int.toNat m)) ∧
 ((Int.toNat m - x8 < Int.toNat m - x7) ∧
 ((m = m) ∧
 ((f = f) ∧
 (((↑x1 : Int) = (↑x1 : Int)) ∧
 (((↑x3 : Int) = (↑x3 : Int)) ∧
 (((↑x5 : Int) = (↑x5 : Int)) ∧
 (((↑x7 : Int) + (1 : Int) = (↑x8 : Int)) ∧
 ((List.take x1 (con4 (Int.toNat m) f) = List.take x1 (con4 (Int.toNat m) f)) ∧
 ((List.take x3 (conR (Int.toNat m) (List.getD f x1 [])) = List.take x3 (conR (Int.toNat m) (List.getD f x1 []))) ∧
 ((List.replicate x5 (conP (Int.toNat m) (List.getD (List.getD f x1 []) x3 (0 : Int))) = List.replicate x5 (conP (Int.toNat m) (List.getD (List.getD f x1 []) x3 (0 : Int)))) ∧
 (List.take x7 (conP (Int.toNat m) (List.getD (List.getD f x1 []) x3 (0 : Int))) ++ [Int.tmod ((↑x7 : Int) + List.getD (List.getD f (Int.toNat (↑x1 : Int)) []) (Int.toNat (↑x3 : Int)) (0 : Int)) m] = List.take x8 (conP (Int.toNat m) (List.getD (List.getD f x1 []) x3 (0 : Int))))))))))))))))))))))
 ((room (List.length (List.replicate x5 (conP (Int.toNat m) (List.getD (List.getD f x1 []) x3 (0 : Int)))) + List.length (List.take x7 (conP (Int.toNat m) (List.getD (List.getD f x1 []) x3 (0 : Int))) :: ([] : List (List Int))))) ∧
 ((InR ((↑x5 : Int) + (1 : Int))) ∧
 (∃ x9 : Nat, (((x3 < List.length f) ∧
 (x9 ≤ Int.toNat m)) ∧
 ((Int.toNat m - x9 < Int.toNat m - x5) ∧
 ((m = m) ∧
 ((f = f) ∧
 (((↑x1 : Int) = (↑x1 : Int)) ∧
 (((↑x3 : Int) = (↑x3 : Int)) ∧
 (((↑x5 : Int) + (1 : Int) = (↑x9 : Int)) ∧
 ((List.take x1 (con4 (Int.toNat m) f) = List.take x1 (con4 (Int.toNat m) f)) ∧
 ((List.take x3 (conR (Int.toNat m) (List.getD f x1 [])) = List.take x3 (conR (Int.toNat m) (List.getD f x1 []))) ∧
 (List.replicate x5 (conP (Int.toNat m) (List.getD (List.getD f x1 []) x3 (0 : Int))) ++ List.take x7 (conP (Int.toNat m) (List.getD (List.getD f x1 []) x3 (0 : Int))) :: ([] : List (List Int)) = List.replicate x9 (conP (Int.toNat m) (List.getD (List.getD f x1 []) x3 (0 : Int))))))))))))))))))))
 ((room (FC.len (FC.r3 IntKind.i64 (List.take x3 (conR (Int.toNat m) (List.getD f x1 [])))) + FC.len (FC.r3 IntKind.i64 (List.replicate x5 (conP (Int.toNat m) (List.getD (List.getD f x1 []) x3 (0 : Int))) :: ([] : List (List (List Int))))))) ∧
 ((InR ((↑x3 : Int) + (1 : Int))) ∧
 (∃ x10 : Nat, (((x1 < List.length f) ∧
 (x10 ≤ List.length f)) ∧
 ((List.length f - x10 < List.length f - x3) ∧
 ((m = m) ∧
 ((f = f) ∧
 (((↑x1 : Int) = (↑x1 : Int)) ∧
 (((↑x3 : Int) + (1 : Int) = (↑x10 : Int)) ∧
 ((List.take x1 (con4 (Int.toNat m) f) = List.take x1 (con4 (Int.toNat m) f)) ∧
 (List.take x3 (conR (Int.toNat m) (List.getD f x1 [])) ++ List.replicate x5 (conP (Int.toNat m) (List.getD (List.getD f x1 []) x3 (0 : Int))) :: ([] : List (List (List Int))) = List.take x10 (conR (Int.toNat m) (List.getD f x1 [])))))))))))))))))
 ((room (FC.len (FC.r4 IntKind.i64 (List.take x1 (con4 (Int.toNat m) f))) + FC.len (FC.r4 IntKind.i64 (List.take x3 (conR (Int.toNat m) (List.getD f x1 [])) :: ([] : List (List (List (List Int)))))))) ∧
 ((InR ((↑x1 : Int) + (1 : Int))) ∧
 (∃ x11 : Nat, ((x11 ≤ List.length f) ∧
 ((List.length f - x11 < List.length f - x1) ∧
 ((m = m) ∧
 ((f = f) ∧
 (((↑x1 : Int) + (1 : Int) = (↑x11 : Int)) ∧
 (List.take x1 (con4 (Int.toNat m) f) ++ List.take x3 (conR (Int.toNat m) (List.getD f x1 [])) :: ([] : List (List (List (List Int)))) = List.take x11 (con4 (Int.toNat m) f))))))))))))))
 ((List.take x1 (con4 (Int.toNat m) f) = con4 (Int.toNat m) f) ∧
 (True))))))
theorem l14Constant_vc (m : Int) (f : List (List Int)) : runF Try.prog (gam l14Constant_G) l14Constant_wr (l14Constant_ann m f) Try.f55 (bodyOf Try.f55) [] [.c (.int .i64 (m)), .c (.rows .i64 (f))] (l14Constant_p m f) = l14Constant_V m f := by kernel_rfl
theorem l14Constant_ok (m : Int) (f : List (List Int)) (hpre : (l14Constant_p m f).pre) : l14Constant_V m f := by
  simp only [l14Constant_p, l14Constant_V, BrP_iff, true_and, and_true, decide_eq_true_eq, decide_eq_false_iff_not, bne_iff_ne, beq_iff_eq, bne_eq_false_iff_eq, beq_eq_false_iff_ne, Bool.not_eq_true, Bool.not_eq_false, Bool.not_true, Bool.not_false, Bool.not_eq_eq_eq_not, Int.toNat_natCast, List.length_append, List.length_take, List.length_replicate, List.length_set, List.length_map, List.length_drop, List.length_nil, List.length_cons, markL_length, inB, InR, room, bdsOk, FC.len] at hpre ⊢
  obtain ⟨hm, h12⟩ := hpre
  obtain ⟨m1, m2, m3, m4⟩ := matB_of hm
  have eD : (con4 m.toNat f).length = f.length := List.length_map _
  refine ⟨⟨0, by omega, rfl, rfl⟩, fun i hi => ⟨fun hl => ?_, fun hl => ?_⟩⟩
  · obtain ⟨r1, r2⟩ := m4 i (by omega)
    have hD : (con4 m.toNat f).getD i [] = conR m.toNat (f.getD i []) := getD_map _ _ [] _ i (by omega)
    have hT := take_snoc (con4 m.toNat f) [] i (by omega)
    rw [hD] at hT
    generalize f.getD i [] = r at *
    have eR : (conR m.toNat r).length = r.length := List.length_map _
    refine ⟨⟨0, ⟨by omega, by omega⟩, rfl, rfl⟩, fun j ⟨_, hj⟩ => ⟨fun hl2 => ?_, fun hl2 => ?_⟩⟩
    · have b0 := r2 j (by omega)
      have hR : (conR m.toNat r).getD j [] = conS m.toNat (r.getD j 0) := getD_map _ _ 0 _ j (by omega)
      have hT2 := take_snoc (conR m.toNat r) [] j (by omega)
      rw [hR] at hT2
      generalize r.getD j 0 = b at *
      have eP : (conP m.toNat b).length = m.toNat := tab_length _ _
      refine ⟨⟨0, ⟨by omega, by omega⟩, rfl, rfl⟩, fun s ⟨_, hs⟩ => ⟨fun hl3 => ?_, fun hl3 => ?_⟩⟩
      · refine ⟨⟨0, ⟨by omega, by omega⟩, rfl, rfl⟩, fun u ⟨_, hu⟩ => ⟨fun hl4 => ?_, fun hl4 => ?_⟩⟩
        · refine ⟨by omega, by omega, by omega, by omega, by omega, by omega, u + 1, ⟨by omega, by omega⟩, by omega, by omega, ?_⟩
          rw [← take_snoc (conP m.toNat b) 0 u (by omega), conP, tab_getD _ _ _ (by omega), show ((m.toNat : Nat) : Int) = m by omega]
        · have e1 : (conP m.toNat b).take u = conP m.toNat b := List.take_of_length_le (by omega)
          refine ⟨by omega, by omega, s + 1, ⟨by omega, by omega⟩, by omega, by omega, ?_⟩
          rw [e1, List.replicate_succ']
      · obtain rfl : s = m.toNat := by omega
        exact ⟨by omega, by omega, j + 1, ⟨by omega, by omega⟩, by omega, by omega, hT2⟩
    · have e1 : (conR m.toNat r).take j = conR m.toNat r := List.take_of_length_le (by omega)
      refine ⟨by omega, by omega, i + 1, by omega, by omega, by omega, ?_⟩
      rw [e1]
      exact hT
  · exact List.take_of_length_le (by omega)
theorem l14Constant_fits : Fits Try.prog 55 ⟨[], l14Constant_ct⟩ := by
  refine fits_fn (Γ := gam l14Constant_G) gok_nil Try.func55 (by kernel_rfl) (by kernel_rfl) (by kernel_rfl) fun ds p h hp => ?_
  unfold l14Constant_ct at h
  split at h
  · cases h
    exact ⟨l14Constant_wr, l14Constant_ann _ _ , by rw [l14Constant_vc]; exact l14Constant_ok _ _  hp⟩
  · cases h

def sCD_p (t : List (List Int)) (m : Int) (f : List (List Int)) : Post := ⟨roomR t ∧ roomR f, .tup [.inl (.tr [59, 24, 41, 2] (.r4 .i64 ((cdC t m f).1))), .inl (.int .i64 ((cdC t m f).2))], []⟩
def sCD_ct : List AD → Option Post
  | [.agg [.rows .i64 (t)], .c (.int .i64 (m)), .c (.rows .i64 (f))] => some (sCD_p t m f)
  | _ => none
def sCD_G : List (Nat × Ctr) := [(39, ⟨[], l05Is_ct⟩), (40, ⟨[], l14Code_ct⟩), (55, ⟨[], l14Constant_ct⟩)]
def sCD_V (t : List (List Int)) (m : Int) (f : List (List Int)) : Prop :=
  (((roomR t) ∧
 (True)) ∧
 (BrP (!cycB t)
 (((FC.len (FC.r4 IntKind.i64 (Prod.fst (cdC t m f))) = (0 : Nat)) ∧
 (((1 : Int) = Prod.snd (cdC t m f)) ∧
 (True))) ∧
 (True))
 (((roomR f) ∧
 (True)) ∧
 (BrP ((if matB (↑(List.length t) : Int) m f = Bool.true then (0 : Int) else (2 : Int)) != (0 : Int))
 (((FC.len (FC.r4 IntKind.i64 (Prod.fst (cdC t m f))) = (0 : Nat)) ∧
 (((if matB (↑(List.length t) : Int) m f = Bool.true then (0 : Int) else (2 : Int)) = Prod.snd (cdC t m f)) ∧
 (True))) ∧
 (True))
 ((((matB (↑(List.length f) : Int) m f = Bool.true) ∧
 (List.length f ≤ (12 : Nat))) ∧
 (True)) ∧
 (((con4 (Int.toNat m) f = Prod.fst (cdC t m f)) ∧
 (((0 : Int) = Prod.snd (cdC t m f)) ∧
 (True))) ∧
 (True)))))))
theorem sCD_vc (t : List (List Int)) (m : Int) (f : List (List Int)) : runF Try.prog (gam sCD_G) noWr noAnn Try.f21 (bodyOf Try.f21) [] [.agg [.rows .i64 (t)], .c (.int .i64 (m)), .c (.rows .i64 (f))] (sCD_p t m f) = sCD_V t m f := by kernel_rfl
theorem sCD_ok (t : List (List Int)) (m : Int) (f : List (List Int)) (hpre : (sCD_p t m f).pre) : sCD_V t m f := by
  simp only [sCD_p, sCD_V, BrP_iff, true_and, and_true, decide_eq_true_eq, decide_eq_false_iff_not, bne_iff_ne, beq_iff_eq, bne_eq_false_iff_eq, beq_eq_false_iff_ne, Bool.not_eq_true, Bool.not_eq_false, Bool.not_true, Bool.not_false, Bool.not_eq_eq_eq_not, Int.toNat_natCast, List.length_append, List.length_take, List.length_replicate, List.length_set, List.length_map, List.length_drop, List.length_nil, List.length_cons, markL_length, inB, InR, room, bdsOk, FC.len] at hpre ⊢
  obtain ⟨h1, h2⟩ := hpre
  refine ⟨h1, fun h => by simp [cdC, h], fun hc => ⟨h2, fun h => ?_, fun h => ?_⟩⟩
  · by_cases hm : matB (t.length : Int) m f = true
    · rw [if_pos hm] at h; exact absurd rfl h
    · rw [if_neg hm, cdC, if_pos hc, if_neg hm]; exact ⟨rfl, rfl⟩
  · by_cases hm : matB (t.length : Int) m f = true
    · obtain ⟨m1, m2, m3, m4⟩ := matB_of hm
      have tb := tabB_of (cycB_tab hc)
      rw [cdC, if_pos hc, if_pos hm]
      exact ⟨⟨by rw [m3]; exact hm, by omega⟩, rfl, rfl⟩
    · rw [if_neg hm] at h; cases h
theorem sCD_fits : Fits Try.prog 21 ⟨[], sCD_ct⟩ := by
  refine fits_fn (Γ := gam sCD_G) (gok_cons l05Is_fits (gok_cons l14Code_fits (gok_cons l14Constant_fits gok_nil))) Try.func21 (by kernel_rfl) (by kernel_rfl) (by kernel_rfl) fun ds p h hp => ?_
  unfold sCD_ct at h
  split at h
  · cases h
    exact ⟨noWr, noAnn, by rw [sCD_vc]; exact sCD_ok _ _ _  hp⟩
  · cases h

theorem sumB_le {α : Type} (c : α → Nat) (B : Nat) : ∀ (l : List α), (∀ x ∈ l, c x ≤ B) → sumB c l ≤ l.length * B
  | [], _ => by simp [sumB]
  | x :: l, h => by
    have h1 := h x (by simp)
    have h2 := sumB_le c B l fun y hy => h y (by simp [hy])
    simp only [sumB, List.map_cons, List.sum_cons, List.length_cons] at h2 ⊢
    rw [Nat.succ_mul]
    omega

theorem con4_all {m : Nat} {f : List (List Int)} (hm : m ≤ 12) (hf : f.length ≤ 12) (hr : ∀ r ∈ f, r.length ≤ 12) : room4 (con4 m f) ∧ fit4 (con4 m f) ∧ tot4 (con4 m f) ≤ 1048576 := by
  have P : ∀ b, (conP m b).length = m := fun b => tab_length _ _
  have S : ∀ b, (conS m b).length = m := fun b => List.length_replicate ..
  have SR : ∀ b, ∀ q ∈ conS m b, q.length = m := fun b q hq => by rw [List.eq_of_mem_replicate hq]; exact P b
  have R : ∀ r, (conR m r).length = r.length := fun r => List.length_map _
  have sS : ∀ b, sumL (conS m b) ≤ 144 := fun b => by
    have := sumB_le List.length 12 (conS m b) fun q hq => by rw [SR b q hq]; exact hm
    have e : sumL (conS m b) = sumB List.length (conS m b) := rfl
    rw [e]
    rw [S] at this
    exact Nat.le_trans this (Nat.le_trans (Nat.mul_le_mul_right 12 hm) (by omega))
  have sR : ∀ r : List Int, r.length ≤ 12 → tot3 (conR m r) ≤ 1728 := fun r hr => by
    have := sumB_le sumL 144 (conR m r) fun q hq => by
      obtain ⟨b, _, rfl⟩ := List.mem_map.1 hq
      exact sS b
    rw [R] at this
    exact Nat.le_trans this (Nat.le_trans (Nat.mul_le_mul_right 144 hr) (by omega))
  have s4 : tot4 (con4 m f) ≤ 20736 := by
    have := sumB_le tot3 1728 (con4 m f) fun q hq => by
      obtain ⟨r, h1, rfl⟩ := List.mem_map.1 hq
      exact sR r (hr r h1)
    rw [show (con4 m f).length = f.length from List.length_map _] at this
    exact Nat.le_trans this (Nat.le_trans (Nat.mul_le_mul_right 1728 hf) (by omega))
  refine ⟨⟨by rw [con4, List.length_map]; omega, fun q hq => ?_⟩, ⟨by rw [con4, List.length_map]; omega, fun q hq => ?_⟩, by omega⟩
  · obtain ⟨r, h1, rfl⟩ := List.mem_map.1 hq
    have := hr r h1
    refine ⟨by rw [R]; omega, fun y hy => ?_⟩
    obtain ⟨b, _, rfl⟩ := List.mem_map.1 hy
    exact ⟨by rw [S]; omega, fun z hz => by rw [SR b z hz]; omega⟩
  · obtain ⟨r, h1, rfl⟩ := List.mem_map.1 hq
    have := hr r h1
    refine ⟨by rw [R]; omega, fun y hy => ?_⟩
    obtain ⟨b, _, rfl⟩ := List.mem_map.1 hy
    rw [S]; omega

theorem cdC_all (t : List (List Int)) (m : Int) (f : List (List Int)) : room4 (cdC t m f).1 ∧ fit4 (cdC t m f).1 ∧ tot4 (cdC t m f).1 ≤ 1048576 := by
  have nil : room4 [] ∧ fit4 [] ∧ tot4 [] ≤ 1048576 := ⟨⟨by simp, by simp⟩, ⟨by simp, by simp⟩, by simp [tot4, sumB]⟩
  unfold cdC
  split
  · rename_i hc
    split
    · rename_i hm
      obtain ⟨m1, m2, m3, m4⟩ := matB_of hm
      have tb := tabB_of (cycB_tab hc)
      refine con4_all (by omega) (by omega) fun r hr => ?_
      obtain ⟨i, hi, rfl⟩ := List.getElem_of_mem hr
      have := (m4 i hi).1
      rw [getD_lt f [] i hi] at this
      omega
    · exact nil
  · exact nil

def lCD_p (t : List (List Int)) (m : Int) (f : List (List Int)) : Post := ⟨((t.length : Int) ≤ 9223372036854775807 ∧ (∀ r ∈ t, (r.length : Int) ≤ 9223372036854775807)) ∧ (f.length : Int) ≤ 9223372036854775807 ∧ (∀ r ∈ f, (r.length : Int) ≤ 9223372036854775807), .c (.bool (true)), []⟩
def lCD_ct : List AD → Option Post
  | [.agg [.rows .i64 (t)], .c (.int .i64 (m)), .c (.rows .i64 (f))] => some (lCD_p t m f)
  | _ => none
def lCD_G : List (Nat × Ctr) := [(19, ⟨[], szCycleSet_ct⟩), (20, ⟨[], szInt64SS_ct⟩), (21, ⟨[], sCD_ct⟩), (22, ⟨[], toCycleSet_ct⟩), (23, ⟨[], toInt64SS_ct⟩), (14, ⟨[], iCD_ct⟩), (24, ⟨[], eqInt64SSSS_ct⟩), (25, ⟨[], eqCycleSet_ct⟩), (26, ⟨[], eqInt64SS_ct⟩), (27, ⟨[(0, 0)], markCycleSet_ct⟩), (28, ⟨[(0, 0)], markInt64SS_ct⟩), (29, ⟨[(0, 0)], markInt64SSSS_ct⟩), (30, ⟨[], heldInt64SSSS_ct⟩)]
def lCD_V (t : List (List Int)) (m : Int) (f : List (List Int)) : Prop :=
  (((((↑(List.length t) : Int) ≤ (9223372036854775807 : Int)) ∧
 ((∀ (r : List Int), r ∈ t → (↑(List.length r) : Int) ≤ (9223372036854775807 : Int)) ∧
 (((0 : Int) ≤ (1048576 : Int)) ∧
 ((1048576 : Int) ≤ (1099511627776 : Int))))) ∧
 (True)) ∧
 (BrP (Decidable.decide ((if (1048576 : Int) < (↑(List.length t) : Int) + (↑(sumL t) : Int) then (-1 : Int) else (1048576 : Int) - (↑(List.length t) : Int) - (↑(sumL t) : Int)) < (0 : Int)))
 ((Bool.true = Bool.true) ∧
 (True))
 (((((↑(List.length f) : Int) ≤ (9223372036854775807 : Int)) ∧
 ((∀ (r : List Int), r ∈ f → (↑(List.length r) : Int) ≤ (9223372036854775807 : Int)) ∧
 (((0 : Int) ≤ if (1048576 : Int) < (↑(List.length t) : Int) + (↑(sumL t) : Int) then (-1 : Int) else (1048576 : Int) - (↑(List.length t) : Int) - (↑(sumL t) : Int)) ∧
 ((if (1048576 : Int) < (↑(List.length t) : Int) + (↑(sumL t) : Int) then (-1 : Int) else (1048576 : Int) - (↑(List.length t) : Int) - (↑(sumL t) : Int)) ≤ (1099511627776 : Int))))) ∧
 (True)) ∧
 (BrP (Decidable.decide ((if (if (1048576 : Int) < (↑(List.length t) : Int) + (↑(sumL t) : Int) then (-1 : Int) else (1048576 : Int) - (↑(List.length t) : Int) - (↑(sumL t) : Int)) < (↑(List.length f) : Int) + (↑(sumL f) : Int) then (-1 : Int) else (if (1048576 : Int) < (↑(List.length t) : Int) + (↑(sumL t) : Int) then (-1 : Int) else (1048576 : Int) - (↑(List.length t) : Int) - (↑(sumL t) : Int)) - (↑(List.length f) : Int) - (↑(sumL f) : Int)) < (0 : Int)))
 ((Bool.true = Bool.true) ∧
 (True))
 (((roomR t) ∧
 (True)) ∧
 (((roomR f) ∧
 (True)) ∧
 ((((roomR t) ∧
 (roomR f)) ∧
 (True)) ∧
 (((roomR t) ∧
 (True)) ∧
 (((roomR f) ∧
 (True)) ∧
 ((((roomR t) ∧
 (roomR f)) ∧
 (True)) ∧
 (((room4 (Prod.fst (cdC t m f))) ∧
 (True)) ∧
 (BrP (!Decidable.decide (Prod.fst (cdC t m f) = Prod.fst (cdC t m f)))
 ((Bool.false = Bool.true) ∧
 (True))
 (BrP (Prod.snd (cdC t m f) != Prod.snd (cdC t m f))
 ((Bool.false = Bool.true) ∧
 (True))
 (((roomR t) ∧
 (True)) ∧
 (((roomR t) ∧
 (True)) ∧
 (BrP (!Decidable.decide (t = t))
 ((Bool.false = Bool.true) ∧
 (True))
 (((roomR f) ∧
 (True)) ∧
 (((roomR f) ∧
 (True)) ∧
 (BrP (!Decidable.decide (f = f))
 ((Bool.false = Bool.true) ∧
 (True))
 ((((List.length t ≤ (1048576 : Nat)) ∧
 ((sumL t ≤ (1048576 : Nat)) ∧
 (((0 : Int) ≤ (1 : Int)) ∧
 ((1 : Int) ≤ (1073741824 : Int))))) ∧
 ((List.map List.length (markR t (1 : Int)) = List.map List.length t) ∧
 (True))) ∧
 ((((List.length f ≤ (1048576 : Nat)) ∧
 ((sumL f ≤ (1048576 : Nat)) ∧
 (((0 : Int) ≤ (1 : Int) + (↑(sumL t) : Int)) ∧
 ((1 : Int) + (↑(sumL t) : Int) ≤ (1073741824 : Int))))) ∧
 ((List.map List.length (markR f ((1 : Int) + (↑(sumL t) : Int))) = List.map List.length f) ∧
 (True))) ∧
 (BrP (Decidable.decide ((1 : Int) + (↑(sumL t) : Int) + (↑(sumL f) : Int) < (0 : Int)))
 ((Bool.false = Bool.true) ∧
 (True))
 (((room4 (Prod.fst (cdC t m f))) ∧
 (True)) ∧
 (BrP (!Decidable.decide (Prod.fst (cdC t m f) = Prod.fst (cdC t m f)))
 ((Bool.false = Bool.true) ∧
 (True))
 (BrP (Prod.snd (cdC t m f) != Prod.snd (cdC t m f))
 ((Bool.false = Bool.true) ∧
 (True))
 ((((fit4 (Prod.fst (cdC t m f))) ∧
 ((tot4 (Prod.fst (cdC t m f)) ≤ (1048576 : Nat)) ∧
 (((0 : Int) ≤ (1 : Int)) ∧
 ((1 : Int) ≤ (268435456 : Int))))) ∧
 ((FC.len (FC.r4 IntKind.i64 (mark4 (Prod.fst (cdC t m f)) (1 : Int))) = FC.len (FC.r4 IntKind.i64 (Prod.fst (cdC t m f)))) ∧
 (True))) ∧
 ((((fit4 (mark4 (Prod.fst (cdC t m f)) (1 : Int))) ∧
 ((tot4 (mark4 (Prod.fst (cdC t m f)) (1 : Int)) ≤ (1048576 : Nat)) ∧
 (((0 : Int) ≤ (1 : Int)) ∧
 ((1 : Int) ≤ (268435456 : Int))))) ∧
 (True)) ∧
 (BrP (Decidable.decide ((if mark4 (Prod.fst (cdC t m f)) (1 : Int) = mark4 (mark4 (Prod.fst (cdC t m f)) (1 : Int)) (1 : Int) then (1 : Int) + (↑(tot4 (mark4 (Prod.fst (cdC t m f)) (1 : Int))) : Int) else (-1 : Int)) < (0 : Int)))
 ((Bool.false = Bool.true) ∧
 (True))
 (BrP ((if mark4 (Prod.fst (cdC t m f)) (1 : Int) = mark4 (mark4 (Prod.fst (cdC t m f)) (1 : Int)) (1 : Int) then (1 : Int) + (↑(tot4 (mark4 (Prod.fst (cdC t m f)) (1 : Int))) : Int) else (-1 : Int)) != (1 : Int) + (↑(tot4 (Prod.fst (cdC t m f))) : Int))
 ((Bool.false = Bool.true) ∧
 (True))
 (((roomR t) ∧
 (True)) ∧
 (((roomR f) ∧
 (True)) ∧
 ((((roomR t) ∧
 (roomR f)) ∧
 (True)) ∧
 (((room4 (Prod.fst (cdC t m f))) ∧
 (True)) ∧
 (BrP (!Decidable.decide (Prod.fst (cdC t m f) = Prod.fst (cdC t m f)))
 ((Bool.false = Bool.true) ∧
 (True))
 (BrP (Prod.snd (cdC t m f) != Prod.snd (cdC t m f))
 ((Bool.false = Bool.true) ∧
 (True))
 ((((fit4 (mark4 (Prod.fst (cdC t m f)) (1 : Int))) ∧
 ((tot4 (mark4 (Prod.fst (cdC t m f)) (1 : Int)) ≤ (1048576 : Nat)) ∧
 (((0 : Int) ≤ (1 : Int)) ∧
 ((1 : Int) ≤ (268435456 : Int))))) ∧
 (True)) ∧
 (BrP (Decidable.decide ((if mark4 (Prod.fst (cdC t m f)) (1 : Int) = mark4 (mark4 (Prod.fst (cdC t m f)) (1 : Int)) (1 : Int) then (1 : Int) + (↑(tot4 (mark4 (Prod.fst (cdC t m f)) (1 : Int))) : Int) else (-1 : Int)) < (0 : Int)))
 ((Bool.false = Bool.true) ∧
 (True))
 (BrP ((if mark4 (Prod.fst (cdC t m f)) (1 : Int) = mark4 (mark4 (Prod.fst (cdC t m f)) (1 : Int)) (1 : Int) then (1 : Int) + (↑(tot4 (mark4 (Prod.fst (cdC t m f)) (1 : Int))) : Int) else (-1 : Int)) != (1 : Int) + (↑(tot4 (Prod.fst (cdC t m f))) : Int))
 ((Bool.false = Bool.true) ∧
 (True))
 ((Bool.true = Bool.true) ∧
 (True))))))))))))))))))))))))))))))))))))))))
theorem lCD_vc (t : List (List Int)) (m : Int) (f : List (List Int)) : runF Try.prog (gam lCD_G) noWr noAnn Try.f5 (bodyOf Try.f5) [] [.agg [.rows .i64 (t)], .c (.int .i64 (m)), .c (.rows .i64 (f))] (lCD_p t m f) = lCD_V t m f := by kernel_rfl
theorem lCD_ok (t : List (List Int)) (m : Int) (f : List (List Int)) (hpre : (lCD_p t m f).pre) : lCD_V t m f := by
  simp only [lCD_p, lCD_V, BrP_iff, true_and, and_true, decide_eq_true_eq, decide_eq_false_iff_not, bne_iff_ne, beq_iff_eq, bne_eq_false_iff_eq, beq_eq_false_iff_ne, Bool.not_eq_true, Bool.not_eq_false, Bool.not_true, Bool.not_false, Bool.not_eq_eq_eq_not, Int.toNat_natCast, List.length_append, List.length_take, List.length_replicate, List.length_set, List.length_map, List.length_drop, List.length_nil, List.length_cons, markL_length, inB, InR, room, bdsOk, FC.len] at hpre ⊢
  obtain ⟨⟨a1, a2⟩, a3, a4⟩ := hpre
  refine ⟨⟨a1, a2, by omega, by omega⟩, fun _ => trivial, fun h => ?_⟩
  obtain ⟨e1, e2, e3⟩ := size_of h
  refine ⟨⟨a3, a4, by omega, by split <;> omega⟩, fun _ => trivial, fun h2 => ?_⟩
  obtain ⟨d1, d2, d3⟩ := size_of h2 (by split <;> omega)
  obtain ⟨c1, c3, c4⟩ := cdC_all t m f
  have c2 := fit4_mark c3 1
  have c5 : ¬ (1 + (sumL t : Int) + (sumL f : Int) < 0) := by omega
  have c6 : ¬ (1 + (tot4 (cdC t m f).1 : Int) < 0) := by omega
  have c9 : 1 + (sumL t : Int) ≤ 1073741824 := by omega
  have c0 : 0 ≤ 1 + (sumL t : Int) := by omega
  simp [e1, e2, e3, d1, d2, d3, c0, c1, c2, c3, c4, c5, c6, c9, markR_length, markR_lens, markR_sum, markR_mark, mark4_length, mark4_tot, mark4_mark]
theorem lCD_fits : Fits Try.prog 5 ⟨[], lCD_ct⟩ := by
  refine fits_fn (Γ := gam lCD_G) (gok_cons szCycleSet_fits (gok_cons szInt64SS_fits (gok_cons sCD_fits (gok_cons toCycleSet_fits (gok_cons toInt64SS_fits (gok_cons iCD_fits (gok_cons eqInt64SSSS_fits (gok_cons eqCycleSet_fits (gok_cons eqInt64SS_fits (gok_cons markCycleSet_fits (gok_cons markInt64SS_fits (gok_cons markInt64SSSS_fits (gok_cons heldInt64SSSS_fits gok_nil))))))))))))) Try.func5 (by kernel_rfl) (by kernel_rfl) (by kernel_rfl) fun ds p h hp => ?_
  unfold lCD_ct at h
  split at h
  · cases h
    exact ⟨noWr, noAnn, by rw [lCD_vc]; exact lCD_ok _ _ _  hp⟩
  · cases h

end Go.Sx

