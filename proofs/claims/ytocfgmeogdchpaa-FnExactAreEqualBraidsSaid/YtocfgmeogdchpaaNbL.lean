/- NbL -/
import Derived.Test.YtocfgmeogdchpaaNbF
open Go Go.Proofs
namespace Go.Sx
set_option linter.unusedSimpArgs false
set_option linter.unusedVariables false

theorem nbCut {s : Int} {w : List Int} (h : braidB s w = true) : List.take (nbC s w) (List.drop (nbJ s w) (List.take (nbJ s w + nbC s w) (nbN s w) ++ List.replicate ((nbR s w).length - nbC s w) [])) = (nbR s w).take (nbC s w) := by
  have rl := nbR_len s w
  have jl : nbJ s w ≤ (nbN s w).length := ldH_le _ _
  have cl : nbC s w ≤ (nbR s w).length := ctU_le _ _
  have l1 : (List.take (nbJ s w + nbC s w) (nbN s w)).length = nbJ s w + nbC s w := by rw [List.length_take]; omega
  rw [List.drop_append_of_le_length (by omega), List.take_append_of_le_length (by rw [List.length_drop]; omega), List.drop_take, Nat.add_sub_cancel_left, List.take_take, Nat.min_self]
  rfl

def iAreEq_p (s : Int) (w : List Int) (s2 : Int) (w2 : List Int) : Post := ⟨w.length ≤ 1099511627776 ∧ w2.length ≤ 1099511627776, .tup [.inl (.bool ((aeC s w s2 w2).1)), .inl (.int .i64 ((aeC s w s2 w2).2))], []⟩
def iAreEq_ct : List AD → Option Post
  | [.agg [.int .i64 (s), .ints .i64 (w)], .agg [.int .i64 (s2), .ints .i64 (w2)]] => some (iAreEq_p s w s2 w2)
  | _ => none
def iAreEq_G : List (Nat × Ctr) := [(39, ⟨[], iIsBraid_ct⟩), (40, ⟨[], normalForm_ct⟩), (46, ⟨[], equalTables_ct⟩)]
def iAreEq_V (s : Int) (w : List Int) (s2 : Int) (w2 : List Int) : Prop :=
  (((room (List.length w)) ∧
 (True)) ∧
 (BrP (!braidB s w)
 (((Bool.false = Prod.fst (aeC s w s2 w2)) ∧
 (((1 : Int) = Prod.snd (aeC s w s2 w2)) ∧
 (True))) ∧
 (True))
 (((room (List.length w2)) ∧
 (True)) ∧
 (BrP (!braidB s2 w2)
 (((Bool.false = Prod.fst (aeC s w s2 w2)) ∧
 (((1 : Int) = Prod.snd (aeC s w s2 w2)) ∧
 (True))) ∧
 (True))
 (BrP (s != s2)
 (((Bool.false = Prod.fst (aeC s w s2 w2)) ∧
 (((1 : Int) = Prod.snd (aeC s w s2 w2)) ∧
 (True))) ∧
 (True))
 (((braidB s w = Bool.true) ∧
 (True)) ∧
 (((braidB s2 w2 = Bool.true) ∧
 (True)) ∧
 (BrP (nbE s w == nbE s2 w2)
 ((((roomR (List.take (nbC s w) (List.drop (nbJ s w) (List.take (nbJ s w + nbC s w) (nbN s w) ++ List.replicate (List.length (nbR s w) - nbC s w) ([] : List Int))))) ∧
 (roomR (List.take (nbC s2 w2) (List.drop (nbJ s2 w2) (List.take (nbJ s2 w2 + nbC s2 w2) (nbN s2 w2) ++ List.replicate (List.length (nbR s2 w2) - nbC s2 w2) ([] : List Int)))))) ∧
 (True)) ∧
 (((Decidable.decide (List.take (nbC s w) (List.drop (nbJ s w) (List.take (nbJ s w + nbC s w) (nbN s w) ++ List.replicate (List.length (nbR s w) - nbC s w) ([] : List Int))) = List.take (nbC s2 w2) (List.drop (nbJ s2 w2) (List.take (nbJ s2 w2 + nbC s2 w2) (nbN s2 w2) ++ List.replicate (List.length (nbR s2 w2) - nbC s2 w2) ([] : List Int)))) = Prod.fst (aeC s w s2 w2)) ∧
 (((0 : Int) = Prod.snd (aeC s w s2 w2)) ∧
 (True))) ∧
 (True)))
 (((Bool.false = Prod.fst (aeC s w s2 w2)) ∧
 (((0 : Int) = Prod.snd (aeC s w s2 w2)) ∧
 (True))) ∧
 (True))))))))))
theorem iAreEq_vc (s : Int) (w : List Int) (s2 : Int) (w2 : List Int) : runF Try.prog (gam iAreEq_G) noWr noAnn Try.f17 (bodyOf Try.f17) [] [.agg [.int .i64 (s), .ints .i64 (w)], .agg [.int .i64 (s2), .ints .i64 (w2)]] (iAreEq_p s w s2 w2) = iAreEq_V s w s2 w2 := by kernel_rfl
theorem iAreEq_ok (s : Int) (w : List Int) (s2 : Int) (w2 : List Int) (hpre : (iAreEq_p s w s2 w2).pre) : iAreEq_V s w s2 w2 := by
  simp only [iAreEq_p, iAreEq_V, BrP_iff, true_and, and_true, decide_eq_true_eq, decide_eq_false_iff_not, bne_iff_ne, beq_iff_eq, bne_eq_false_iff_eq, beq_eq_false_iff_ne, Bool.not_eq_true, Bool.not_eq_false, Bool.not_true, Bool.not_false, Bool.not_eq_eq_eq_not, Int.toNat_natCast, List.length_append, List.length_take, List.length_replicate, List.length_set, List.length_map, List.length_drop, List.length_nil, List.length_cons, markL_length, inB, InR, room, bdsOk] at hpre ⊢
  obtain ⟨h1, h2⟩ := hpre
  refine ⟨h1, fun h => ?_, fun b1 => ⟨h2, fun h => ?_, fun b2 => ⟨fun h => ?_, fun h => ?_⟩⟩⟩
  · rw [aeC, if_neg (by simp [twoB, h])]; exact ⟨rfl, rfl⟩
  · rw [aeC, if_neg (by simp [twoB, h])]; exact ⟨rfl, rfl⟩
  · rw [aeC, if_neg (by simp [twoB, h])]; exact ⟨rfl, rfl⟩
  · have y : twoB s w s2 w2 = true := by rw [twoB, b1, b2, decide_eq_true h]; rfl
    rw [aeC, if_pos y, nbCut b1, nbCut b2]
    refine ⟨b1, b2, fun z => ⟨⟨nbT_room b1, nbT_room b2⟩, ?_, rfl⟩, fun z => ⟨?_, rfl⟩⟩
    · rw [decide_eq_true z, Bool.true_and]
    · rw [decide_eq_false z, Bool.false_and]
theorem iAreEq_fits : Fits Try.prog 17 ⟨[], iAreEq_ct⟩ := by
  refine fits_fn (Γ := gam iAreEq_G) (gok_cons iIsBraid_fits (gok_cons normalForm_fits (gok_cons equalTables_fits gok_nil))) Try.func17 (by kernel_rfl) (by kernel_rfl) (by kernel_rfl) fun ds p h hp => ?_
  unfold iAreEq_ct at h
  split at h
  · cases h
    exact ⟨noWr, noAnn, by rw [iAreEq_vc]; exact iAreEq_ok _ _ _ _  hp⟩
  · cases h

def lAreEq_p (s : Int) (w : List Int) (s2 : Int) (w2 : List Int) : Post := ⟨(w.length : Int) ≤ 9223372036854775807 ∧ (w2.length : Int) ≤ 9223372036854775807, .c (.bool (true)), []⟩
def lAreEq_ct : List AD → Option Post
  | [.agg [.int .i64 (s), .ints .i64 (w)], .agg [.int .i64 (s2), .ints .i64 (w2)]] => some (lAreEq_p s w s2 w2)
  | _ => none
def lAreEq_G : List (Nat × Ctr) := [(7, ⟨[], szBraid_ct⟩), (9, ⟨[], toBraid_ct⟩), (12, ⟨[], eqBraid_ct⟩), (16, ⟨[], sAreEq_ct⟩), (17, ⟨[], iAreEq_ct⟩)]
def lAreEq_V (s : Int) (w : List Int) (s2 : Int) (w2 : List Int) : Prop :=
  (((((↑(List.length w) : Int) ≤ (9223372036854775807 : Int)) ∧
 (((0 : Int) ≤ (1048576 : Int)) ∧
 ((1048576 : Int) ≤ (1099511627776 : Int)))) ∧
 (True)) ∧
 (BrP (Decidable.decide ((if (1048576 : Int) < (↑(List.length w) : Int) then (-1 : Int) else (1048576 : Int) - (↑(List.length w) : Int)) < (0 : Int)))
 ((Bool.true = Bool.true) ∧
 (True))
 (((((↑(List.length w2) : Int) ≤ (9223372036854775807 : Int)) ∧
 (((0 : Int) ≤ if (1048576 : Int) < (↑(List.length w) : Int) then (-1 : Int) else (1048576 : Int) - (↑(List.length w) : Int)) ∧
 ((if (1048576 : Int) < (↑(List.length w) : Int) then (-1 : Int) else (1048576 : Int) - (↑(List.length w) : Int)) ≤ (1099511627776 : Int)))) ∧
 (True)) ∧
 (BrP (Decidable.decide ((if (if (1048576 : Int) < (↑(List.length w) : Int) then (-1 : Int) else (1048576 : Int) - (↑(List.length w) : Int)) < (↑(List.length w2) : Int) then (-1 : Int) else (if (1048576 : Int) < (↑(List.length w) : Int) then (-1 : Int) else (1048576 : Int) - (↑(List.length w) : Int)) - (↑(List.length w2) : Int)) < (0 : Int)))
 ((Bool.true = Bool.true) ∧
 (True))
 (((room (List.length w)) ∧
 (True)) ∧
 (((room (List.length w2)) ∧
 (True)) ∧
 ((((List.length w ≤ (1099511627776 : Nat)) ∧
 (List.length w2 ≤ (1099511627776 : Nat))) ∧
 (True)) ∧
 (((room (List.length w)) ∧
 (True)) ∧
 (((room (List.length w2)) ∧
 (True)) ∧
 ((((List.length w ≤ (1099511627776 : Nat)) ∧
 (List.length w2 ≤ (1099511627776 : Nat))) ∧
 (True)) ∧
 (BrP (!Prod.fst (aeC s w s2 w2) == Prod.fst (aeC s w s2 w2))
 ((Bool.false = Bool.true) ∧
 (True))
 (BrP (Prod.snd (aeC s w s2 w2) != Prod.snd (aeC s w s2 w2))
 ((Bool.false = Bool.true) ∧
 (True))
 (((room (List.length w)) ∧
 (True)) ∧
 (((room (List.length w)) ∧
 (True)) ∧
 (BrP (!Decidable.decide (s = s ∧ w = w))
 ((Bool.false = Bool.true) ∧
 (True))
 (((room (List.length w2)) ∧
 (True)) ∧
 (((room (List.length w2)) ∧
 (True)) ∧
 (BrP (!Decidable.decide (s2 = s2 ∧ w2 = w2))
 ((Bool.false = Bool.true) ∧
 (True))
 ((Bool.true = Bool.true) ∧
 (True))))))))))))))))))))
theorem lAreEq_vc (s : Int) (w : List Int) (s2 : Int) (w2 : List Int) : runF Try.prog (gam lAreEq_G) noWr noAnn Try.f4 (bodyOf Try.f4) [] [.agg [.int .i64 (s), .ints .i64 (w)], .agg [.int .i64 (s2), .ints .i64 (w2)]] (lAreEq_p s w s2 w2) = lAreEq_V s w s2 w2 := by kernel_rfl
theorem lAreEq_ok (s : Int) (w : List Int) (s2 : Int) (w2 : List Int) (hpre : (lAreEq_p s w s2 w2).pre) : lAreEq_V s w s2 w2 := by
  simp only [lAreEq_p, lAreEq_V, BrP_iff, true_and, and_true, decide_eq_true_eq, decide_eq_false_iff_not, bne_iff_ne, beq_iff_eq, bne_eq_false_iff_eq, beq_eq_false_iff_ne, Bool.not_eq_true, Bool.not_eq_false, Bool.not_true, Bool.not_false, Bool.not_eq_eq_eq_not, Int.toNat_natCast, List.length_append, List.length_take, List.length_replicate, List.length_set, List.length_map, List.length_drop, List.length_nil, List.length_cons, markL_length, inB, InR, room, bdsOk] at hpre ⊢
  refine ⟨⟨hpre.1, by omega, by omega⟩, fun _ => trivial, fun h => ?_⟩
  have hw : w.length ≤ 1048576 := by split at h <;> omega
  rw [if_neg (by omega)] at h ⊢
  refine ⟨⟨hpre.2, by omega, by omega⟩, fun _ => trivial, fun h3 => ?_⟩
  have hw2 : w2.length ≤ 1048576 := by split at h3 <;> omega
  have h4 : w.length ≤ 1099511627776 := by omega
  have h5 : w2.length ≤ 1099511627776 := by omega
  simp [h4, h5]
theorem lAreEq_fits : Fits Try.prog 4 ⟨[], lAreEq_ct⟩ := by
  refine fits_fn (Γ := gam lAreEq_G) (gok_cons szBraid_fits (gok_cons toBraid_fits (gok_cons eqBraid_fits (gok_cons sAreEq_fits (gok_cons iAreEq_fits gok_nil))))) Try.func4 (by kernel_rfl) (by kernel_rfl) (by kernel_rfl) fun ds p h hp => ?_
  unfold lAreEq_ct at h
  split at h
  · cases h
    exact ⟨noWr, noAnn, by rw [lAreEq_vc]; exact lAreEq_ok _ _ _ _  hp⟩
  · cases h

end Go.Sx
