/- The law of IdealsOf. -/
import Derived.Test.YtaipacgkkjkjdaaIds
open Go Go.Proofs
namespace Go.Sx
set_option linter.unusedSimpArgs false
set_option linter.unusedVariables false

theorem idsC_len (a c : List (List Int)) : (idsC a c).1.length ≤ 2048 := by
  unfold idsC
  split
  · rename_i h
    have h1 := (tabB_of (grp_tab (brcB_of h).1)).2.1
    exact Nat.le_trans (odN_len _ _) (pow_half_le h1)
  · simp

theorem szB_of {a c : List (List Int)} (h : ¬ szB a c 1048576 < 0) : a.length ≤ 1048576 ∧ sumL a ≤ 1048576 ∧ roomR a ∧ c.length ≤ 1048576 ∧ sumL c ≤ 1048576 ∧ roomR c := by
  unfold szB at h
  by_cases h1 : (if (1048576 : Int) < (a.length : Int) + (sumL a : Int) then (-1 : Int) else 1048576 - (a.length : Int) - (sumL a : Int)) < 0
  · rw [if_pos h1] at h; omega
  · rw [if_neg h1] at h
    obtain ⟨e1, e2, e3⟩ := size_of h1
    have h3 : ¬ (if 1048576 < (c.length : Int) + (sumL c : Int) then (-1 : Int) else 1048576 - (c.length : Int) - (sumL c : Int)) < 0 := by
      split at h
      · omega
      · split <;> omega
    obtain ⟨d1, d2, d3⟩ := size_of h3
    exact ⟨e1, e2, e3, d1, d2, d3⟩

def lIds_p (a : List (List Int)) (c : List (List Int)) : Post := ⟨((a.length : Int) ≤ 9223372036854775807 ∧ (∀ r ∈ a, (r.length : Int) ≤ 9223372036854775807)) ∧ ((c.length : Int) ≤ 9223372036854775807 ∧ (∀ r ∈ c, (r.length : Int) ≤ 9223372036854775807)), .c (.bool (true)), []⟩
def lIds_ct : List AD → Option Post
  | [.agg [.rows .i64 (a), .rows .i64 (c)]] => some (lIds_p a c)
  | _ => none
def lIds_G : List (Nat × Ctr) := [(21, ⟨[], szBrace_ct⟩), (23, ⟨[], toBrace_ct⟩), (25, ⟨[], eqBrace_ct⟩), (14, ⟨[], eqInt64S_ct⟩), (28, ⟨[(0, 0), (0, 1)], markBrace_ct⟩), (17, ⟨[(0, 0)], markInt64S_ct⟩), (18, ⟨[], heldInt64S_ct⟩), (26, ⟨[], sIds_ct⟩), (27, ⟨[], iIds_ct⟩)]
def lIds_V (a : List (List Int)) (c : List (List Int)) : Prop :=
  ((((((↑(List.length a) : Int) ≤ (9223372036854775807 : Int)) ∧
  (∀ (r : List Int), r ∈ a → (↑(List.length r) : Int) ≤ (9223372036854775807 : Int))) ∧
  ((((↑(List.length c) : Int) ≤ (9223372036854775807 : Int)) ∧
  (∀ (r : List Int), r ∈ c → (↑(List.length r) : Int) ≤ (9223372036854775807 : Int))) ∧
  (((0 : Int) ≤ (1048576 : Int)) ∧
  ((1048576 : Int) ≤ (1099511627776 : Int))))) ∧
  (True)) ∧
  (BrP (Decidable.decide (Go.Sx.szB a c (1048576 : Int) < (0 : Int)))
    ((Bool.true = Bool.true) ∧
    (True))
    ((((Go.Sx.roomR a) ∧
    (Go.Sx.roomR c)) ∧
    (True)) ∧
    ((((Go.Sx.roomR a) ∧
    (Go.Sx.roomR c)) ∧
    (True)) ∧
    ((((Go.Sx.roomR a) ∧
    (Go.Sx.roomR c)) ∧
    (True)) ∧
    ((((Go.Sx.roomR a) ∧
    (Go.Sx.roomR c)) ∧
    (True)) ∧
    (((Go.Sx.room (List.length (Prod.fst (Go.Sx.idsC a c)))) ∧
    (True)) ∧
    (BrP (!Decidable.decide (Prod.fst (Go.Sx.idsC a c) = Prod.fst (Go.Sx.idsC a c)))
      ((Bool.false = Bool.true) ∧
      (True))
      (BrP (Prod.snd (Go.Sx.idsC a c) != Prod.snd (Go.Sx.idsC a c))
        ((Bool.false = Bool.true) ∧
        (True))
        ((((Go.Sx.roomR a) ∧
        (Go.Sx.roomR c)) ∧
        (True)) ∧
        ((((Go.Sx.roomR a) ∧
        (Go.Sx.roomR c)) ∧
        (True)) ∧
        (BrP (!Decidable.decide (a = a ∧ c = c))
          ((Bool.false = Bool.true) ∧
          (True))
          ((((List.length a ≤ (1048576 : Nat)) ∧
          ((Go.Sx.sumL a ≤ (1048576 : Nat)) ∧
          ((List.length c ≤ (1048576 : Nat)) ∧
          ((Go.Sx.sumL c ≤ (1048576 : Nat)) ∧
          (((0 : Int) ≤ (1 : Int)) ∧
          ((1 : Int) ≤ (1000000000 : Int))))))) ∧
          ((List.map List.length (Go.Sx.markR a (1 : Int)) = List.map List.length a) ∧
          ((List.map List.length (Go.Sx.markR c ((1 : Int) + (↑(Go.Sx.sumL a) : Int))) = List.map List.length c) ∧
          (True)))) ∧
          (BrP (Decidable.decide ((1 : Int) + (↑(Go.Sx.sumL a) : Int) + (↑(Go.Sx.sumL c) : Int) < (0 : Int)))
            ((Bool.false = Bool.true) ∧
            (True))
            (((Go.Sx.room (List.length (Prod.fst (Go.Sx.idsC a c)))) ∧
            (True)) ∧
            (BrP (!Decidable.decide (Prod.fst (Go.Sx.idsC a c) = Prod.fst (Go.Sx.idsC a c)))
              ((Bool.false = Bool.true) ∧
              (True))
              (BrP (Prod.snd (Go.Sx.idsC a c) != Prod.snd (Go.Sx.idsC a c))
                ((Bool.false = Bool.true) ∧
                (True))
                ((((Go.Sx.room (List.length (Prod.fst (Go.Sx.idsC a c)))) ∧
                (((0 : Int) ≤ (1 : Int)) ∧
                ((1 : Int) ≤ (1099511627776 : Int)))) ∧
                ((List.length (Go.Sx.markL (1 : Int) (List.length (Prod.fst (Go.Sx.idsC a c)))) = List.length (Prod.fst (Go.Sx.idsC a c))) ∧
                (True))) ∧
                ((((Go.Sx.room (List.length (Go.Sx.markL (1 : Int) (List.length (Prod.fst (Go.Sx.idsC a c)))))) ∧
                (((0 : Int) ≤ (1 : Int)) ∧
                ((1 : Int) ≤ (1099511627776 : Int)))) ∧
                (True)) ∧
                (BrP (Decidable.decide ((if Go.Sx.markL (1 : Int) (List.length (Prod.fst (Go.Sx.idsC a c))) = Go.Sx.markL (1 : Int) (List.length (Go.Sx.markL (1 : Int) (List.length (Prod.fst (Go.Sx.idsC a c))))) then (1 : Int) + (↑(List.length (Go.Sx.markL (1 : Int) (List.length (Prod.fst (Go.Sx.idsC a c))))) : Int) else (-1 : Int)) < (0 : Int)))
                  ((Bool.false = Bool.true) ∧
                  (True))
                  (BrP ((if Go.Sx.markL (1 : Int) (List.length (Prod.fst (Go.Sx.idsC a c))) = Go.Sx.markL (1 : Int) (List.length (Go.Sx.markL (1 : Int) (List.length (Prod.fst (Go.Sx.idsC a c))))) then (1 : Int) + (↑(List.length (Go.Sx.markL (1 : Int) (List.length (Prod.fst (Go.Sx.idsC a c))))) : Int) else (-1 : Int)) != (1 : Int) + (↑(List.length (Prod.fst (Go.Sx.idsC a c))) : Int))
                    ((Bool.false = Bool.true) ∧
                    (True))
                    ((((Go.Sx.roomR a) ∧
                    (Go.Sx.roomR c)) ∧
                    (True)) ∧
                    ((((Go.Sx.roomR a) ∧
                    (Go.Sx.roomR c)) ∧
                    (True)) ∧
                    (((Go.Sx.room (List.length (Prod.fst (Go.Sx.idsC a c)))) ∧
                    (True)) ∧
                    (BrP (!Decidable.decide (Prod.fst (Go.Sx.idsC a c) = Prod.fst (Go.Sx.idsC a c)))
                      ((Bool.false = Bool.true) ∧
                      (True))
                      (BrP (Prod.snd (Go.Sx.idsC a c) != Prod.snd (Go.Sx.idsC a c))
                        ((Bool.false = Bool.true) ∧
                        (True))
                        ((((Go.Sx.room (List.length (Go.Sx.markL (1 : Int) (List.length (Prod.fst (Go.Sx.idsC a c)))))) ∧
                        (((0 : Int) ≤ (1 : Int)) ∧
                        ((1 : Int) ≤ (1099511627776 : Int)))) ∧
                        (True)) ∧
                        (BrP (Decidable.decide ((if Go.Sx.markL (1 : Int) (List.length (Prod.fst (Go.Sx.idsC a c))) = Go.Sx.markL (1 : Int) (List.length (Go.Sx.markL (1 : Int) (List.length (Prod.fst (Go.Sx.idsC a c))))) then (1 : Int) + (↑(List.length (Go.Sx.markL (1 : Int) (List.length (Prod.fst (Go.Sx.idsC a c))))) : Int) else (-1 : Int)) < (0 : Int)))
                          ((Bool.false = Bool.true) ∧
                          (True))
                          (BrP ((if Go.Sx.markL (1 : Int) (List.length (Prod.fst (Go.Sx.idsC a c))) = Go.Sx.markL (1 : Int) (List.length (Go.Sx.markL (1 : Int) (List.length (Prod.fst (Go.Sx.idsC a c))))) then (1 : Int) + (↑(List.length (Go.Sx.markL (1 : Int) (List.length (Prod.fst (Go.Sx.idsC a c))))) : Int) else (-1 : Int)) != (1 : Int) + (↑(List.length (Prod.fst (Go.Sx.idsC a c))) : Int))
                            ((Bool.false = Bool.true) ∧
                            (True))
                            ((Bool.true = Bool.true) ∧
                            (True)))))))))))))))))))))))))))))))
theorem lIds_vc (a : List (List Int)) (c : List (List Int)) : runF Try.prog (gam lIds_G) noWr noAnn Try.f6 (bodyOf Try.f6) [] [.agg [.rows .i64 (a), .rows .i64 (c)]] (lIds_p a c) = lIds_V a c := by kernel_rfl
theorem lIds_ok (a : List (List Int)) (c : List (List Int)) (hpre : (lIds_p a c).pre) : lIds_V a c := by
  simp only [lIds_p, lIds_V, BrP_iff, true_and, and_true, decide_eq_true_eq, decide_eq_false_iff_not, bne_iff_ne, beq_iff_eq, bne_eq_false_iff_eq, beq_eq_false_iff_ne, Bool.not_eq_true, Bool.not_eq_false, Bool.not_true, Bool.not_false, Bool.not_eq_eq_eq_not, Int.toNat_natCast, List.length_append, List.length_take, List.length_replicate, List.length_set, List.length_map, List.length_drop, List.length_nil, List.length_cons, markL_length, inB, InR, room, bdsOk] at hpre ⊢
  obtain ⟨⟨a1, a2⟩, b1, b2⟩ := hpre
  refine ⟨⟨⟨a1, a2⟩, ⟨b1, b2⟩, by omega, by omega⟩, fun _ => trivial, fun h => ?_⟩
  obtain ⟨e1, e2, e3, d1, d2, d3⟩ := szB_of h
  have c1 := idsC_len a c
  have c2 : (idsC a c).1.length ≤ 1099511627776 := by omega
  have c5 : ¬ (1 + (sumL a : Int) + (sumL c : Int) < 0) := by omega
  have c6 : ¬ (1 + ((idsC a c).1.length : Int) < 0) := by omega
  simp [e1, e2, e3, d1, d2, d3, c2, c5, c6, markR_length, markR_lens, markR_sum, markR_mark]
theorem lIds_fits : Fits Try.prog 6 ⟨[], lIds_ct⟩ := by
  refine fits_fn (Γ := gam lIds_G) (gok_cons szBrace_fits (gok_cons toBrace_fits (gok_cons eqBrace_fits (gok_cons eqInt64S_fits (gok_cons markBrace_fits (gok_cons markInt64S_fits (gok_cons heldInt64S_fits (gok_cons sIds_fits (gok_cons iIds_fits gok_nil))))))))) Try.func6 (by kernel_rfl) (by kernel_rfl) (by kernel_rfl) fun ds p h hp => ?_
  unfold lIds_ct at h
  split at h
  · cases h
    exact ⟨noWr, noAnn, by rw [lIds_vc]; exact lIds_ok _ _  hp⟩
  · cases h

end Go.Sx

