/- A call that uses up two rows of an own object. -/
import Derived.Test.YtjkbnanffneogaaSxOs
namespace Go.Sx
open Go.RowKit
set_option linter.unusedSimpArgs false
set_option linter.unusedVariables false

section
variable {C : Cx} {σ : State} {mu mu' : Nat → Img} {a : Act} {w w' : World}

theorem take_H {id o ver : Nat} {e ei : TypeId} {k : IntKind} {l : List (List Int)} {hs : List Nat} {i : Nat} (x : Nat) :
    (State.mk σ.fr (takeR id o ver e ei k l hs i ++ σ.hp)).H x = if id = x then some (some (.ints ei k (l.getD i []))) else if o = x then some (some (.rowsH ver e ei k l hs)) else σ.H x := by
  show lk ((id, _) :: (o, _) :: σ.hp) x = _
  rw [lk_cons, lk_cons]; rfl

theorem slots_mod (d : Nat) : ∀ (l : List (Nat × RC)) (x : Nat) (y : Option Ob), lk (retUps d l) x = some y → ∃ i, x = d + 1000 * i
  | [], x, y, h => by simp [retUps, lk] at h
  | (i, rc) :: l, x, y, h => by
    simp only [retUps] at h
    split at h
    · rw [lk_cons] at h
      split at h
      · exact ⟨i, by omega⟩
      · exact slots_mod d l x y h
    · exact slots_mod d l x y h

theorem sopCallTk_ok {Γ : FuncId → Option Ctr} (hΓ : GOk C.P Γ) {d : Nat} {f : FuncId} {o ver i j : Nat} {ts : List TypeId} {eff : Eff} (hr : (sopCallTk C.P Γ d f o ver i j ts).run σ = some eff) (hob : eff.obl) (h : St C σ mu a w)
    {v0 v1 : Value} (hv0 : RepV C.P (σ.env C.wF mu) (.c (.row o ver i)) v0) (hv1 : RepV C.P (σ.env C.wF mu) (.c (.row o ver j)) v1) {dst : Option Nat} (hd : ∀ d, dst = some d → d < C.N) :
    (∃ fn, C.P.funcs[f]? = some fn ∧ fn.body.isSome = true ∧ (fn.name == "runtime.NumGoroutine") = false) ∧
    Calls C.P f [v0, v1].toArray w fun e w' => ∃ v, e = .returned v ∧ StE C (σ.app dst eff) (a.put dst v) w' := by
  unfold sopCallTk at hr
  obtain ⟨ob, ho, hr2⟩ := run_h hr
  clear hr
  split at hr2
  · rename_i ver' e ei k l
    split at hr2
    · rename_i hver
      have hver := Nat.eq_of_beq_eq_true hver
      subst hver
      split at hr2
      · rename_i ct hct
        have hf := hΓ f _ hct
        refine ⟨hf.fn, ?_⟩
        split at hr2
        · rename_i pre ret e1 k1 l1 e2 k2 l2 hpost
          split at hr2
          · simp [Rd.run] at hr2
          · rename_i hnro
            split at hr2
            · rename_i hek
              obtain ⟨he1, he2, hk1, hk2⟩ := hek
              subst he1; subst he2; subst hk1; subst hk2
              obtain ⟨hab1, hr3⟩ := run_abs hr2
              obtain ⟨hab0, hr4⟩ := run_abs hr3
              obtain ⟨hr5, habs⟩ := absAll_run hr4
              simp only [Rd.run, Option.some.injEq] at hr5
              subst hr5
              obtain ⟨hpre, hij⟩ : (pre ∧ True ∧ True) ∧ i ≠ j := hob
              obtain ⟨hi, hil⟩ := (on_live ho hv0).2 rfl
              obtain ⟨hj, hjl⟩ := (on_live ho hv1).2 rfl
              have hi : (mu o).ins[i]? = some v0 := hi
              have hj : (mu o).ins[j]? = some v1 := hj
              have hne1 : d + 500501 ≠ o := fun hc => by rw [hc, ho] at hab1; cases hab1
              have hne0 : d + 500500 ≠ o := fun hc => by rw [hc, ho] at hab0; cases hab0
              obtain ⟨r1, s1⟩ := h.take ho rfl (rowH_of (h.ob o _ ho)) hab1 hj (by simp)
              have ho1 : (State.mk σ.fr (takeR (d + 500501) o (ver' + 1) e ei k l [j] j ++ σ.hp)).H o = some (some (.rowsH (ver' + 1) e ei k l [j])) := by rw [take_H, if_neg hne1, if_pos rfl]
              have hab0' : (State.mk σ.fr (takeR (d + 500501) o (ver' + 1) e ei k l [j] j ++ σ.hp)).H (d + 500500) = none := by rw [take_H, if_neg (by omega), if_neg (Ne.symm hne0)]; exact hab0
              obtain ⟨r2, s2⟩ := s1.take (id := d + 500500) (i := i) (v := v0) ho1 rfl (by rw [if_neg (Ne.symm hne1), if_pos rfl]; exact r1) hab0' (by rw [if_neg (Ne.symm hne1), if_pos rfl]; show ((mu o).ins.set j (.slice none 0 0))[i]? = _; rw [List.getElem?_set_ne (Ne.symm hij)]; exact hi) (by simp; exact hij)
              generalize hmu2 : (fun x => if x = d + 500500 then (⟨v0, []⟩ : Img) else if x = o then _ else if x = d + 500501 then _ else _) = mu2 at s2
              have hm0 : mu2 (d + 500500) = ⟨v0, []⟩ := by rw [← hmu2]; simp
              have hm1 : mu2 (d + 500501) = ⟨v1, []⟩ := by rw [← hmu2]; simp [hne1]
              generalize hσ2 : State.mk (State.mk σ.fr (takeR (d + 500501) o (ver' + 1) e ei k l [j] j ++ σ.hp)).fr (takeR (d + 500500) o (ver' + 1 + 1) e ei k l [i, j] i ++ (State.mk σ.fr (takeR (d + 500501) o (ver' + 1) e ei k l [j] j ++ σ.hp)).hp) = σ2 at s2
              have hH0 : σ2.H (d + 500500) = some (some (.ints ei k (l.getD i []))) := by rw [← hσ2, take_H, if_pos rfl]
              have hH1 : σ2.H (d + 500501) = some (some (.ints ei k (l.getD j []))) := by rw [← hσ2, take_H, if_neg (by omega), if_neg (Ne.symm hne1), take_H, if_pos rfl]
              have hHx : ∀ x, x ≠ d + 500500 → x ≠ d + 500501 → x ≠ o → σ2.H x = σ.H x := fun x a b c => by
                rw [← hσ2, take_H, if_neg (Ne.symm a), if_neg (Ne.symm c), take_H, if_neg (Ne.symm b), if_neg (Ne.symm c)]
              have hw := hidW_of s2 [d + 500500, d + 500501] (fun x hx => by
                simp only [List.mem_cons, List.not_mem_nil, or_false] at hx
                rcases hx with hx | hx
                · subst hx; exact ⟨_, hH0⟩
                · subst hx; exact ⟨_, hH1⟩)
              have q0 := s2.ob _ _ hH0
              have q1 := s2.ob _ _ hH1
              rw [hm0] at q0
              rw [hm1] at q1
              have eapp : ∀ val pp, σ2.app dst ⟨val, retUps d (slotsV ret) ++ [(d + 500500, none), (d + 500501, none)], pp⟩ =
                  σ.app dst ⟨val, (retUps d (slotsV ret) ++ [(d + 500500, none), (d + 500501, none)]) ++ (takeR (d + 500500) o (ver' + 2) e ei k l [i, j] i ++ takeR (d + 500501) o (ver' + 1) e ei k l [j] j), pp⟩ := fun val pp => by
                rw [← hσ2]
                simp only [State.app, List.append_assoc]
              have core := call_core (d := d) hf s2 (hid := [d + 500500, d + 500501]) (by simp) rfl (ms := [⟨v0, []⟩, ⟨v1, []⟩]) (obs := [.ints ei k (l.getD i []), .ints ei k (l.getD j [])]) rfl rfl hpost hpre.1 (q := True) trivial rfl
                (ups := [(d + 500500, none), (d + 500501, none)]) (fun x hx => by
                  simp only [List.mem_cons, List.not_mem_nil, or_false, not_or] at hx
                  rw [lk_cons, if_neg (Ne.symm hx.1), lk_cons, if_neg (Ne.symm hx.2)]; rfl) (wF := hide w ([d + 500500, d + 500501].flatMap fun o => (mu2 o).blocks))
                (fun x o' rc hx hrc => by
                  match x, hx, hrc with
                  | 0, hx, hrc =>
                    simp at hx hrc; subst hx; subst hrc
                    exact ⟨_, _, _, _, _, rfl, rfl, q0.env, by rw [hm0], by simp only [wrOb, and_self, if_true]; rfl, fun _ => trivial, hH0, rfl, .inl ⟨rfl, by rw [lk_cons, if_pos rfl]⟩⟩
                  | 1, hx, hrc =>
                    simp at hx hrc; subst hx; subst hrc
                    exact ⟨_, _, _, _, _, rfl, rfl, q1.env, by rw [hm1], by simp only [wrOb, and_self, if_true]; rfl, fun _ => trivial, hH1, rfl, .inl ⟨rfl, by rw [lk_cons, if_neg (by omega), lk_cons, if_pos rfl]⟩⟩
                  | x + 2, hx, _ => simp at hx)
                (fun x y hx => by
                  obtain ⟨n, hn⟩ := slots_mod d _ x y hx
                  have := habs x y hx
                  rw [hHx x (by omega) (by omega) (fun hc => by rw [hc, ho] at this; cases this)]
                  exact this) hw.kept (fun hc => by rw [hnro] at hc; cases hc) (vs := [v0, v1]) rfl
                (fun x ad hx => by
                  match x, hx with
                  | 0, hx =>
                    simp at hx; subst hx
                    exact ⟨v0, rfl, hv0.1, _, _, rfl, rfl, rfl, rfl⟩
                  | 1, hx =>
                    simp at hx; subst hx
                    exact ⟨v1, rfl, hv1.1, _, _, rfl, rfl, rfl, rfl⟩
                  | x + 2, hx => simp at hx) (pp := some ((pre ∧ True ∧ True) ∧ i ≠ j)) hd
              rw [eapp] at core
              exact core
            · simp [Rd.run] at hr2
        · simp [Rd.run] at hr2
      · simp [Rd.run] at hr2
    · simp [Rd.run] at hr2
  · simp [Rd.run] at hr2

end
end Go.Sx
