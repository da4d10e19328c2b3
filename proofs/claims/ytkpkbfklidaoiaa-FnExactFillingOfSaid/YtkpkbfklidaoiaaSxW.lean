/- A function from its body's run. -/
import Derived.Test.YtkpkbfklidaoiaaSxV
namespace Go.Sx
open Go.RowKit

theorem mtAt_mem : ∀ {mt : List (Nat × Nat)} {i j x : Nat}, mt[x]? = some (i, j) → ∃ y, mtAt mt i j = some y
  | [], _, _, _, h => by simp at h
  | (a, b) :: l, i, j, x, h => by
    simp only [mtAt]
    split
    · exact ⟨0, rfl⟩
    · rename_i hne
      cases x with
      | zero => simp at h; exact absurd h hne
      | succ x =>
        obtain ⟨y, hy⟩ := mtAt_mem (mt := l) (x := x) (by simpa using h)
        exact ⟨y + 1, by simp [hy]⟩

theorem pids_at {mt : List (Nat × Nat)} {x : Nat} {i j : Nat} (h : mt[x]? = some (i, j)) : (pids mt)[x]? = some (pid i j) := by simp [pids, h]

theorem pids_inj {mt : List (Nat × Nat)} (hn : (pids mt).Nodup) {x y o : Nat} (hx : (pids mt)[x]? = some o) (hy : (pids mt)[y]? = some o) : x = y :=
  (List.getElem?_inj (List.getElem?_eq_some_iff.1 hx).1 hn).1 (hx.trans hy.symm)

theorem mtAt_is {mt : List (Nat × Nat)} (hn : (pids mt).Nodup) {x i j : Nat} (h : mt[x]? = some (i, j)) : mtAt mt i j = some x := by
  obtain ⟨y, hy⟩ := mtAt_mem h
  rw [hy, pids_inj hn (pids_at (mtAt_ok hy)) (pids_at h)]

theorem initH_ok {ds : List AD} : ∀ {mt : List (Nat × Nat)} {wrs : List RC} {hp : List (Nat × Option Ob)}, initH ds mt wrs = some hp → ∀ o x, lk hp o = some x →
    ∃ (k i j : Nat) (d : FC) (ob : Ob) (rc : RC), mt[k]? = some (i, j) ∧ o = pid i j ∧ wrs[k]? = some rc ∧ cellOf ds i j = some d ∧ mkOb d rc = some ob ∧ x = some ob
  | [], [], hp, h, o, x, hx => by simp [initH] at h; subst h; simp [lk] at hx
  | y :: mt, rc :: wrs, hp, h, o, x, hx => by
    simp only [initH] at h
    split at h
    · rename_i d hd
      split at h
      · rename_i ob hob
        split at h
        · rename_i l hl
          cases h
          rw [lk_cons] at hx
          split at hx
          · rename_i ho
            cases hx
            exact ⟨0, y.1, y.2, d, ob, rc, rfl, ho.symm, rfl, hd, hob, rfl⟩
          · obtain ⟨k, i, j, d', ob', rc', h1, h2, h3, h4, h5, h6⟩ := initH_ok hl o x hx
            exact ⟨k + 1, i, j, d', ob', rc', by simpa using h1, h2, by simpa using h3, h4, h5, h6⟩
        · cases h
      · cases h
    · cases h
  | [], _ :: _, _, h, _, _, _ => by simp [initH] at h
  | _ :: _, [], _, h, _, _, _ => by simp [initH] at h

theorem initH_has {ds : List AD} : ∀ {mt : List (Nat × Nat)} {wrs : List RC} {hp : List (Nat × Option Ob)}, initH ds mt wrs = some hp → ∀ o ∈ pids mt, ∃ ob, lk hp o = some (some ob)
  | [], _, _, _, o, ho => by simp [pids] at ho
  | y :: mt, rc :: wrs, hp, h, o, ho => by
    simp only [initH] at h
    split at h
    · split at h
      · rename_i ob hob
        split at h
        · rename_i l hl
          cases h
          rw [lk_cons]
          split
          · exact ⟨ob, rfl⟩
          · rename_i hne
            simp only [pids, List.map_cons, List.mem_cons] at ho
            exact initH_has hl o (ho.resolve_left (fun hc => hne hc.symm))
        · cases h
      · cases h
    · cases h
  | _ :: _, [], _, h, _, _ => by simp [initH] at h

theorem argFr_lk {mt : List (Nat × Nat)} : ∀ {ds : List AD} {i t : Nat} {sv : SV}, lk (argFr mt i ds) t = some sv → ∃ j d, ds[j]? = some d ∧ t = i + j ∧ sv = argS mt t d
  | [], i, t, sv, h => by simp [argFr, lk] at h
  | d :: ds, i, t, sv, h => by
    simp only [argFr] at h
    rw [lk_cons] at h
    split at h
    · rename_i ht
      cases h
      exact ⟨0, d, rfl, by omega, by rw [ht]⟩
    · obtain ⟨j, d', h1, h2, h3⟩ := argFr_lk h
      exact ⟨j + 1, d', by simpa using h1, by omega, h3⟩

theorem argCs_at {mt : List (Nat × Nat)} {i : Nat} : ∀ {cs : List FC} {s k : Nat} {c : SC}, (argCs mt i s cs)[k]? = some c → ∃ d, cs[k]? = some d ∧ c = argC mt i (s + k) d
  | [], s, k, c, h => by simp [argCs] at h
  | d :: cs, s, k, c, h => by
    simp only [argCs] at h
    cases k with
    | zero => simp at h; exact ⟨d, rfl, h.symm⟩
    | succ k =>
      obtain ⟨d', h1, h2⟩ := argCs_at (k := k) (by simpa using h)
      exact ⟨d', by simpa using h1, by rw [h2]; congr 1; omega⟩

theorem argCs_len {mt : List (Nat × Nat)} {i : Nat} : ∀ {cs : List FC} {s : Nat}, (argCs mt i s cs).length = cs.length
  | [], _ => rfl
  | _ :: cs, s => by simp [argCs, argCs_len (cs := cs)]

theorem mk_rep {E : Env} {w : World} {m : Img} {ob ob0 ob1 : Ob} {rc : RC} {d : FC} {q : Prop} (h1 : obFC ob = some d) (h2 : wrOb ob rc = some (ob1, q)) (h3 : mkOb d rc = some ob0) (h : RepO (E0 w) w m ob) :
    RepO E w m ob0 ∧ ob0.shp.ver = 0 := by
  cases ob with
  | box cs => cases h1
  | ints e k l =>
    cases h1
    cases rc <;> simp only [wrOb, reduceCtorEq] at h2
    rename_i e' k' l'
    split at h2
    · rename_i he
      obtain ⟨rfl, rfl⟩ := he
      simp only [mkOb, if_true, Option.some.injEq] at h3
      subst h3
      exact ⟨h, rfl⟩
    · cases h2
  | bools e l =>
    cases h1
    cases rc <;> simp only [wrOb, reduceCtorEq] at h2
    rename_i e' l'
    split at h2
    · rename_i he
      subst he
      simp only [mkOb, Option.some.injEq] at h3
      subst h3
      exact ⟨h, rfl⟩
    · cases h2
  | rows ver e ei k l =>
    cases h1
    cases rc <;> simp only [wrOb, reduceCtorEq] at h2
    rename_i e' ei' k' l'
    split at h2
    · rename_i he
      obtain ⟨rfl, rfl, rfl⟩ := he
      simp only [mkOb, if_true, Option.some.injEq] at h3
      subst h3
      exact ⟨h, rfl⟩
    · cases h2

theorem matchW_ok {E : Env} {w w0 : World} {m : Img} {ob ob1 obf : Ob} {rc : RC} {q p : Prop} (h2 : wrOb ob rc = some (ob1, q)) (h3 : matchW obf rc = some p) (hp : p) (h : RepO E w m obf) :
    obf.shp.ver = 0 ∧ RepO (E0 w0) w m ob1 := by
  cases obf with
  | box cs => cases h3
  | ints e k l =>
    cases rc <;> simp only [matchW, reduceCtorEq] at h3
    split at h3
    · rename_i he
      obtain ⟨rfl, rfl⟩ := he
      cases h3; subst hp
      cases ob <;> simp only [wrOb, reduceCtorEq] at h2
      split at h2
      · rename_i he
        obtain ⟨rfl, rfl⟩ := he
        cases h2
        exact ⟨rfl, h⟩
      · cases h2
    · cases h3
  | bools e l =>
    cases rc <;> simp only [matchW, reduceCtorEq] at h3
    split at h3
    · rename_i he
      subst he
      cases h3; subst hp
      cases ob <;> simp only [wrOb, reduceCtorEq] at h2
      split at h2
      · rename_i he
        subst he
        cases h2
        exact ⟨rfl, h⟩
      · cases h2
    · cases h3
  | rows ver e ei k l =>
    cases rc <;> simp only [matchW, reduceCtorEq] at h3
    split at h3
    · rename_i he
      obtain ⟨rfl, rfl, rfl, rfl⟩ := he
      cases h3; subst hp
      cases ob <;> simp only [wrOb, reduceCtorEq] at h2
      split at h2
      · rename_i he
        obtain ⟨rfl, rfl, rfl⟩ := he
        cases h2
        exact ⟨rfl, h⟩
      · cases h2
    · cases h3

theorem matchWs_ok {σ : State} : ∀ {os : List Nat} {rcs : List RC} {p : Prop}, matchWs σ os rcs = some p → p → ∀ (x o : Nat) (rc : RC), os[x]? = some o → rcs[x]? = some rc →
    ∃ ob q, σ.H o = some (some ob) ∧ matchW ob rc = some q ∧ q
  | [], [], _, _, _, x, o, rc, h, _ => by simp at h
  | o :: os, rc :: rcs, p, hm, hp, x, o', rc', h1, h2 => by
    simp only [matchWs] at hm
    split at hm
    · rename_i ob ho
      split at hm
      · rename_i q hq
        split at hm
        · rename_i q' hq'
          cases hm
          cases x with
          | zero => simp at h1 h2; subst h1; subst h2; exact ⟨ob, q, ho, hq, hp.1⟩
          | succ x => exact matchWs_ok hq' hp.2 x o' rc' (by simpa using h1) (by simpa using h2)
        · cases hm
      · cases hm
    · cases hm
  | [], _ :: _, _, h, _, _, _, _, _, _ => by simp [matchWs] at h
  | _ :: _, [], _, h, _, _, _, _, _, _ => by simp [matchWs] at h

end Go.Sx
