/- DelF DelG DelK DelC DelH -/
import Derived.Test.YtcdmndagoafcgaaPerm
import Derived.KernelRfl
import Derived.WalkKit
import Derived.BigRegion
import Derived.Deep.LoopGhost
import Derived.Deep.Draws
import Derived.Shelf.SlicesE.DeleteFunc
import Derived.Lib.OwnBridge
section
open Go Go.Proofs
namespace Go.Sx
set_option linter.unusedSimpArgs false
set_option linter.unusedVariables false

set_option maxHeartbeats 2000000 in
theorem inc_walk (w : World) (b off n c : Nat) (l : List Int) (hl : l.length = n) (hn : n ≤ 1000) (hc : ∀ j, j < n → w.cell? ⟨b, off + j, none⟩ = some (.int .i64 (l.getD j 0))) :
    Calls Try.prog 124 #[.slice (some ⟨b, off, none⟩) n c] w fun e w' => e = .returned (.bool (incB l)) ∧ ∃ q, w' = w.drewN q := by
  have mixed : Try.prog.follows .mixedOrders = true := by kernel_rfl
  go_enter Try.func124, Try.ntmps124
  go_wp2
  go_loopg [3] (n + 1) (fun g s3 wr => ∃ k q : Nat, 1 ≤ k ∧ k ≤ n + 1 ∧ n + 1 - k ≤ g ∧ s3 = .int .i64 k ∧ wr = w.drewN q ∧ incB l = incB (l.drop (k - 1)))
  case atStart => exact ⟨1, 0, Nat.le_refl _, by omega, by omega, rfl, rfl, by simp⟩
  case round =>
    obtain ⟨k, q, k1, k2, hg, rfl, rfl, A⟩ := hrel
    by_cases hlt : k < n
    · have hltz : (k : Int) < (n : Int) := by omega
      have c1 := hc (k - 1) (by omega)
      have c2 := hc k hlt
      have hd := incB_drop l (k - 1) (by omega)
      rw [show k - 1 + 1 = k by omega] at hd
      clear hc
      generalize l.getD (k - 1) 0 = x at *
      generalize l.getD k 0 = y at *
      by_cases hxy : x < y
      · have hnle : ¬ y ≤ x := by omega
        go_wp2
        go_region
        go_wp2
        go_roundg (n + 1 - (k + 1))
        case measure => omega
        case rel =>
          refine ⟨k + 1, _, by omega, by omega, by omega, by go_num, rfl, ?_⟩
          rw [A, hd, decide_eq_true hxy, Bool.true_and, Nat.add_sub_cancel]
      · have hle : y ≤ x := by omega
        go_wp2
        go_region
        go_wp2
        go_ret
        refine ⟨?_, _, rfl⟩
        rw [A, hd, decide_eq_false (show ¬ x < y by omega), Bool.false_and]
        rfl
    · have hltz : ¬ (k : Int) < (n : Int) := by omega
      have A' : incB l = true := A.trans (incB_short l (k - 1) (by omega))
      clear A
      go_wp2
      go_ret
      exact ⟨rfl, q, rfl⟩

theorem id_walk (w : World) (b off n c : Nat) (l : List Int) (hl : l.length = n) (hn : n ≤ 1000) (hc : ∀ j, j < n → w.cell? ⟨b, off + j, none⟩ = some (.int .i64 (l.getD j 0))) :
    Calls Try.prog 93 #[.slice (some ⟨b, off, none⟩) n c] w fun e w' => e = .returned (.bool (incB l)) ∧ ∃ q, w' = w.drewN q := by
  have hC := inc_walk w b off n c l hl hn hc
  go_enter Try.func93, Try.ntmps93
  go_wp2_with (go_at_call 124; refine hC.mono ?_; rintro e w' ⟨rfl, q, rfl⟩)
  go_ret
  exact ⟨rfl, q, rfl⟩

end Go.Sx
end

section
open Go Go.Proofs Go.RowKit Go.Shelf
namespace Go.Sx
set_option linter.unusedSimpArgs false
set_option linter.unusedVariables false

def cutRen : Shelf.Ren := ⟨fun x => match x with | 6 => 123 | 10 => 92 | _ => 0, fun x => match x with | 0 => 0 | 3 => 3 | 4 => 4 | 22 => 26 | 23 => 22 | 25 => 99 | _ => 0, fun x => x⟩

set_option maxRecDepth 100000 in
theorem cutLays : SlLaysH.n10 Try.prog cutRen where
  mixed := by kernel_rfl
  f6 := ⟨Try.f123.name, by kernel_rfl, by kernel_rfl⟩
  f10 := ⟨Try.f92.name, by kernel_rfl, by kernel_rfl⟩
  t0 := by kernel_rfl
  a0 := fun w => by kernel_rfl
  z0 := fun w => by kernel_rfl
  v0 := fun w => by kernel_rfl
  t3 := by kernel_rfl
  a3 := fun w => by kernel_rfl
  z3 := fun w => by kernel_rfl
  v3 := fun w => by kernel_rfl
  t4 := by kernel_rfl
  a4 := fun w => by kernel_rfl
  z4 := fun w => by kernel_rfl
  v4 := fun w => by kernel_rfl
  t22 := by kernel_rfl
  a22 := fun w => by kernel_rfl
  z22 := fun w => by kernel_rfl
  v22 := fun w => by kernel_rfl
  a23 := fun w => by kernel_rfl
  z23 := fun w => by kernel_rfl
  t25 := by kernel_rfl
  a25 := fun w => by kernel_rfl
  z25 := fun w => by kernel_rfl
  v25 := fun w => by kernel_rfl

end Go.Sx
end

section
open Go Go.Proofs Go.RowKit Go.Shelf Go.Sort
namespace Go.Sx
set_option linter.unusedSimpArgs false
set_option linter.unusedVariables false

theorem ownPut {α : Type} [Inhabited α] {enc : α → Value} {w : World} {e : TypeId} {L G cap : Nat} {ins : List Value} (h : w.ownsRow 0 e 1 (.slice (some ⟨G, 0, none⟩) L cap) L ins) (q off : Nat) (ys : List α) (hle : off + ys.length ≤ L) :
    (putRow enc (Sort.ahead w q) G off ys.toArray).ownsRow 0 e 1 (.slice (some ⟨G, 0, none⟩) L cap) L (ins.take off ++ ys.map enc ++ ins.drop (off + ys.length)) := by
  have hl : ins.length = L := by simpa using h.1
  rcases h.2 with ⟨e0, _⟩ | ⟨g', cap', cur, e0, hb, hg, hn, hm, hs, ht⟩
  · cases e0
  · injection e0 with e1 _ e3
    injection e1 with e1
    injection e1 with e1
    subst e1; subst e3
    refine ⟨by simp; omega, .inr ⟨G, cap, putCells enc off ys.toArray cur, rfl, hb, ?_, hn, hm, by simpa [putCells] using hs, ?_⟩⟩
    · simp [putRow, mapBlock, Sort.ahead, Array.getElem?_modify, hg, onCells]
    · have ht' : ∀ j, j < L → ins[j]? = cur[j]? := fun j hj => by
        rw [← ht, List.getElem?_take, if_pos (by omega), Array.getElem?_toList]
      apply List.ext_getElem?
      intro j
      rw [List.getElem?_take, Array.getElem?_toList]
      by_cases hj : j < L
      · have hjc : j < cur.size := by omega
        rw [if_pos (by omega)]
        simp only [putCells, Array.getElem?_mapIdx, Array.getElem?_eq_getElem hjc, Option.map_some]
        have hcj := ht' j hj
        rw [Array.getElem?_eq_getElem hjc] at hcj
        by_cases h1 : j < off
        · rw [if_neg (by simp; omega), List.append_assoc, List.getElem?_append_left (by rw [List.length_take]; omega), List.getElem?_take, if_pos h1, hcj]
        · by_cases h2 : j < off + ys.length
          · rw [if_pos (by simp; omega), List.getElem?_append_left (by rw [List.length_append, List.length_take, List.length_map]; omega), List.getElem?_append_right (by rw [List.length_take]; omega), List.length_take, Nat.min_eq_left (by omega), List.getElem?_map, List.getElem?_eq_getElem (show j - off < ys.length by omega)]
            simp [getElem!_pos, show j - off < ys.length by omega]
          · rw [if_neg (by simp; omega), List.getElem?_append_right (by rw [List.length_append, List.length_take, List.length_map]; omega), List.length_append, List.length_take, List.length_map, Nat.min_eq_left (by omega), List.getElem?_drop, show off + ys.length + (j - (off + ys.length)) = j by omega, hcj]
      · rw [if_neg (by omega), List.getElem?_eq_none (by simp; omega)]

/-- What a filter keeps, where it keeps as many as stand in front. -/
theorem filter_front {α : Type} {q : α → Bool} {l : List α} {c : Nat} (h : ∀ x ∈ l.take c, q x = true) (hc : (l.filter q).length = c) (hl : c ≤ l.length) : l.filter q = l.take c := by
  have e : l.filter q = (l.take c).filter q ++ (l.drop c).filter q := by rw [← List.filter_append, List.take_append_drop]
  have f : (l.take c).filter q = l.take c := List.filter_eq_self.2 h
  have n : ((l.drop c).filter q).length = 0 := by
    have := congrArg List.length e
    rw [List.length_append, f, List.length_take, hc] at this
    omega
  rw [e, f, List.eq_nil_of_length_eq_zero n, List.append_nil]

set_option maxHeartbeats 2000000 in
theorem inc_nil (w : World) : Calls Try.prog 124 #[.slice none 0 0] w fun e w' => e = .returned (.bool true) ∧ ∃ q, w' = w.drewN q := by
  go_enter Try.func124, Try.ntmps124
  go_wp2
  go_loopg [3] 0 (fun _ s3 wr => s3 = .int .i64 1 ∧ wr = w)
  case atStart => exact ⟨rfl, rfl⟩
  case round =>
    obtain ⟨rfl, rfl⟩ := hrel
    go_wp2
    go_ret
    exact ⟨rfl, 0, rfl⟩

theorem id_nil (w : World) : Calls Try.prog 93 #[.slice none 0 0] w fun e w' => e = .returned (.bool true) ∧ ∃ q, w' = w.drewN q := by
  have hC := inc_nil w
  go_enter Try.func93, Try.ntmps93
  go_wp2_with (go_at_call 124; refine hC.mono ?_; rintro e w' ⟨rfl, q, rfl⟩)
  go_ret
  exact ⟨rfl, q, rfl⟩

end Go.Sx
end

section
open Go Go.Proofs Go.RowKit Go.Shelf Go.Sort
namespace Go.Sx
set_option linter.unusedSimpArgs false
set_option linter.unusedVariables false

theorem id_row {W : World} {ei : TypeId} {v : Value} {l : List Int} (h : W.ownsRow 0 ei 1 v l.length (l.map (.int .i64))) (hl : l.length ≤ 1000) :
    FnGives Try.prog 93 #[] #[v] (.bool (incB l)) W := by
  unfold FnGives
  rcases h.2 with ⟨e0, hn⟩ | ⟨g, cap, cur, e0, _⟩
  · subst e0
    have : l = [] := List.eq_nil_of_length_eq_zero hn
    subst this
    exact id_nil W
  · subst e0
    refine id_walk W g 0 l.length cap l rfl hl fun j hj => ?_
    rw [Nat.zero_add, ownsRow_cell h (b := g) rfl j (by omega), List.getElem?_map, List.getElem?_eq_getElem hj, getD_lt l 0 j hj]
    rfl

/-- What stays stands in front. -/
def keepL (l : List (List Int)) : List (List Int) := l.filter fun r => !incB r

set_option maxHeartbeats 2000000 in
theorem del_empty (w : World) (a : Option Addr) (c : Nat) (g : Value) : Calls Try.prog 92 #[.slice a 0 c, g] w fun e w' => e = .returned (.slice a 0 c) ∧ w' = w := by
  have hC := AnyE.slices_IndexFunc_empty (P := Try.prog) (ρ := cutRen) { cutLays with } a c g w
  go_enter Try.func92, Try.ntmps92
  go_wp2_with (go_at_call 123; refine Calls.mono hC ?_; rintro e w' ⟨rfl, rfl⟩)
  go_ret
  exact ⟨rfl, rfl⟩

theorem cut_get {α : Type} (l : List α) (off n c : Nat) (z : α) (h : off + n ≤ l.length) (hc : c ≤ n) (i : Nat) :
    (l.take off ++ ((l.drop off).take c ++ List.replicate (n - c) z) ++ l.drop (off + n))[i]? = if off + c ≤ i ∧ i < off + n then some z else l[i]? := by
  have l1 : (l.take off).length = off := by rw [List.length_take]; omega
  have l2 : ((l.drop off).take c).length = c := by rw [List.length_take, List.length_drop]; omega
  by_cases h1 : i < off
  · rw [if_neg (by omega), List.append_assoc, List.getElem?_append_left (by omega), List.getElem?_take, if_pos h1]
  · by_cases h2 : i < off + c
    · rw [if_neg (by omega), List.append_assoc, List.getElem?_append_right (by omega), List.append_assoc, List.getElem?_append_left (by omega), l1, List.getElem?_take, if_pos (by omega), List.getElem?_drop, show off + (i - off) = i by omega]
    · by_cases h3 : i < off + n
      · rw [if_pos (by omega), List.append_assoc, List.getElem?_append_right (by omega), List.append_assoc, List.getElem?_append_right (by omega), List.getElem?_append_left (by rw [List.length_replicate]; omega), List.getElem?_replicate, if_pos (by omega)]
      · rw [if_neg (by omega), List.getElem?_append_right (by rw [List.length_append, List.length_append, List.length_replicate]; omega), List.length_append, List.length_append, List.length_replicate, l1, l2, List.getElem?_drop]
        congr 1
        omega

theorem cut_sub (ins : List Value) (off n c : Nat) (hc : c ≤ n) : List.Sublist ((ins.take off ++ ((ins.drop off).take c ++ List.replicate (n - c) (Value.slice none 0 0)) ++ ins.drop (off + n)).filterMap hdBlock) (ins.filterMap hdBlock) := by
  have e : (List.replicate (n - c) (Value.slice none 0 0)).filterMap hdBlock = [] := by
    rw [List.filterMap_eq_nil_iff]
    intro v hv
    rw [List.eq_of_mem_replicate hv]; rfl
  have e2 : (ins.take off ++ ((ins.drop off).take c ++ List.replicate (n - c) (Value.slice none 0 0)) ++ ins.drop (off + n)).filterMap hdBlock = (ins.take (off + c) ++ (ins.drop (off + c)).drop (n - c)).filterMap hdBlock := by
    rw [List.filterMap_append, List.filterMap_append, List.filterMap_append, e, List.append_nil, ← List.filterMap_append, ← List.take_add, ← List.filterMap_append, List.drop_drop, show off + c + (n - c) = off + n by omega]
  rw [e2]
  refine List.Sublist.filterMap _ ?_
  have := List.Sublist.append_left (List.drop_sublist (n - c) (ins.drop (off + c))) (ins.take (off + c))
  rwa [List.take_append_drop] at this

theorem cut_at (l : List (List Int)) (off n : Nat) (h2 : ∀ r ∈ (l.drop off).take n, r.length ≤ 1000) (h4 : keepL ((l.drop off).take n) = ((l.drop off).take n).take (keepL ((l.drop off).take n)).length) :
    CutAt Try.prog 92 93 l off n (keepL ((l.drop off).take n)).length := by
  intro w e ei v v0 ins h1 hl h3 hnd hle hv
  by_cases h0 : 0 < n
  case neg =>
    have hn0 : n = 0 := by omega
    subst hn0
    rw [List.take_zero] at *
    have hk : (keepL ([] : List (List Int))).length = 0 := rfl
    rw [hk]
    have fin : ∀ a c, v0 = .slice a 0 c → ViewV v off 0 (.slice a 0 c) → Calls Try.prog 92 #[v0, .func (.func 93) #[] #[]] w fun r w' => ∃ v1, r = .returned v1 ∧ v1.oneCell' = true ∧ ViewV v off 0 v1 ∧ ∃ ins', w'.ownsRow 0 e 1 v l.length ins' ∧ ins'.length = l.length ∧
        (∀ (i : Nat) (u : Value) (r : List Int), ins'[i]? = some u → (l.take (off + 0) ++ List.replicate (0 - 0) [] ++ l.drop (off + 0))[i]? = some r → w.ownsRow 0 ei 1 u r.length (r.map (.int .i64))) ∧
        (⟨v, ins'⟩ : Img).blocks.Nodup ∧ (∀ b ∈ (⟨v, ins'⟩ : Img).blocks, b ∈ (⟨v, ins⟩ : Img).blocks) ∧
        OsD w w' ∧ w'.tape = w.tape ∧ w'.output = w.output ∧ w.heap.size ≤ w'.heap.size ∧ ∀ b, b < w.heap.size → hdBlock v ≠ some b → w'.heap[b]? = w.heap[b]? := fun a c hv0 hview => by
      subst hv0
      refine Calls.mono (del_empty w a c _) ?_
      rintro r w' ⟨rfl, rfl⟩
      refine ⟨_, rfl, rfl, hview, ins, h1, hl, fun i u r hu hr => h3 i u r hu ?_, hnd, fun b hb => hb, .refl _, rfl, rfl, Nat.le_refl _, fun _ _ _ => rfl⟩
      simpa using hr
    rcases hv with ⟨q1, q2, q3, _⟩ | ⟨G, len, cap, ao, e1, e2, hoc, hnc, hao⟩
    · exact fin none 0 q2 (.inl ⟨q1, rfl, q3, rfl⟩)
    · exact fin (some ao) (cap - off) e2 (.inr ⟨G, len, cap, ao, e1, rfl, hoc, hnc, hao⟩)
  case pos =>
  rcases hv with ⟨_, _, _, en⟩ | ⟨G, len, cap, ao, e1, e2, hoc, hnc, hao⟩
  · omega
  subst e1; subst e2
  have eao : ao = ⟨G, off, none⟩ := hao (.inr (by omega))
  subst eao
  have elen : len = l.length := by
    rcases h1.2 with ⟨e0, _⟩ | ⟨g', cap', cur, e0, _⟩
    · cases e0
    · injection e0
  subst elen
  letI : Inhabited (Option (Fin n)) := ⟨none⟩
  let enc : Option (Fin n) → Value := fun x => match x with
    | some i => ins.getD (off + i.1) undef
    | none => .slice none 0 0
  let p : Option (Fin n) → Bool := fun x => match x with
    | some i => incB (l.getD (off + i.1) [])
    | none => true
  have hrow : ∀ i : Fin n, w.ownsRow 0 ei 1 (ins.getD (off + i.1) undef) (l.getD (off + i.1) []).length ((l.getD (off + i.1) []).map (.int .i64)) ∧ ∀ b, hdBlock (ins.getD (off + i.1) undef) = some b → b < w.heap.size ∧ b ≠ G := fun i => by
    have hi : off + i.1 < ins.length := by have := i.2; omega
    have hu : ins[off + i.1]? = some (ins.getD (off + i.1) undef) := by simp [List.getD, List.getElem?_eq_getElem hi]
    have h4 := h3 (off + i.1) _ (l.getD (off + i.1) []) hu (by simp [List.getD, List.getElem?_eq_getElem (show off + i.1 < l.length by have := i.2; omega)])
    refine ⟨h4, fun b hb => ⟨(ownsRow_block h4 b hb).2, fun hc => ?_⟩⟩
    exact (nodup_blocks_ins hnd).2 b (by rw [hc]; rfl) (List.mem_filterMap.2 ⟨_, List.mem_of_getElem? hu, hb⟩)
  have hO : OneCell enc := fun x => match x with
    | some i => ownsRow_one (hrow i).1
    | none => rfl
  have gives : ∀ W : World, (∀ b, b < w.heap.size → b ≠ G → W.heap[b]? = w.heap[b]?) → ∀ x, FnGives Try.prog 93 #[] #[enc x] (.bool (p x)) W := fun W hW x => by
    cases x with
    | none =>
      unfold FnGives
      exact id_nil W
    | some i =>
      obtain ⟨r1, r2⟩ := hrow i
      refine id_row (ownsRow_keep r1 fun b hb => hW b (r2 b hb).1 (r2 b hb).2) (h2 _ ?_)
      have hi := i.2
      rw [List.getD_eq_getElem?_getD, List.getElem?_eq_getElem (show off + i.1 < l.length by omega)]
      refine List.mem_of_getElem? (i := i.1) ?_
      rw [List.getElem?_take, if_pos hi, List.getElem?_drop, List.getElem?_eq_getElem (show off + i.1 < l.length by omega)]
      rfl
  have hp : PredAt Try.prog 93 #[] enc p w := fun W x hb => gives W (fun b h1 _ => hb.block b h1) x
  have hpo : PredOver Try.prog 93 #[] enc p G off n w := fun m os dk x _ => gives _ (fun b hb hne => by
    unfold sortWorld
    rw [Go.Sort.heap_grow_old _ _ (by simpa [Go.Sort.putRow, Go.Sort.mapBlock, Go.Sort.ahead] using hb)]
    simp [Go.Sort.putRow, Go.Sort.mapBlock, Go.Sort.ahead, Array.getElem?_modify, Ne.symm hne]) x
  obtain ⟨g', cap', e0, _, hlt, hnn, hm, hzl, hH0⟩ := Lib.holds_of_ownsRow (enc := (id : Value → Value)) (zs := ins) (by rw [List.map_id]; exact h1) (by intro h; cases h)
  injection e0 with e01 _ e03
  injection e01 with e01
  injection e01 with e01
  subst e01; subst e03
  let f : Option (Fin n) → List Int := fun x => match x with
    | some i => l.getD (off + i.1) []
    | none => []
  have pf : ∀ x, p x = incB (f x) := fun x => by cases x <;> rfl
  have part : (l.drop off).take n = ((List.finRange n).map some).map f := by
    apply List.ext_getElem
    · simp; omega
    · intro i a b
      simp only [List.length_map, List.length_finRange] at b
      simp [f, List.getD, List.getElem?_eq_getElem (show off + i < l.length by omega)]
  rw [part] at h4 ⊢
  have kl : keepL (((List.finRange n).map some).map f) = (((List.finRange n).map some).filter fun x => !p x).map f := by
    unfold keepL
    rw [List.filter_map]
    congr 1
    apply List.filter_congr
    intro x _
    simp [pf]
  have cl : (keepL (((List.finRange n).map some).map f)).length = (((List.finRange n).map some).filter fun x => !p x).length := by rw [kl, List.length_map]
  have cn : (keepL (((List.finRange n).map some).map f)).length ≤ n := by
    have := List.length_filter_le (fun x => !p x) ((List.finRange n).map some)
    rw [cl]
    simpa using this
  have front : (((List.finRange n).map some).filter fun x => !p x) = ((List.finRange n).map some).take (keepL (((List.finRange n).map some).map f)).length := by
    refine filter_front (fun x hx => ?_) cl.symm (by simpa using cn)
    have : f x ∈ keepL (((List.finRange n).map some).map f) := by
      rw [h4, ← List.map_take]
      exact List.mem_map.2 ⟨x, hx, rfl⟩
    unfold keepL at this
    rw [pf]
    exact (List.mem_filter.1 this).2
  generalize (keepL (((List.finRange n).map some).map f)).length = c at *
  have hds : (((List.finRange n).map some).toArray : Array (Option (Fin n))).size = n := by simp
  have hH : Holds enc w G off ((List.finRange n).map some).toArray := fun j hj => by
    rw [hds] at hj
    obtain ⟨c1, c2⟩ := hH0 (off + j) (by simp; omega)
    rw [Nat.zero_add] at c1 c2
    refine ⟨?_, c2⟩
    rw [c1]
    have hi : off + j < ins.length := by omega
    simp [enc, getElem!_pos, hj, hi, List.getD, List.getElem?_eq_getElem hi]
  obtain ⟨fn, k1, k2, k3⟩ : ∃ fn, Try.prog.funcs[93]? = some fn ∧ fn.body.isSome = true ∧ (fn.name == "runtime.NumGoroutine") = false := ⟨Try.f93, Try.func93, by kernel_rfl, by kernel_rfl⟩
  have hsz : (((List.finRange n).map some).toArray : Array (Option (Fin n))).size ≤ 9223372036854775807 := by rw [hds]; unfold maxLen at hm; omega
  have hc := AnyE.slices_DeleteFunc (P := Try.prog) (ρ := cutRen) cutLays enc hO p 93 #[] (fun args w => run_callFunc k1 k2 k3 args) none (fun w => by kernel_rfl) G off (cap - off) ((List.finRange n).map some).toArray w hp (by rw [hds]; exact hpo) hH hsz (by rw [hds]; omega)
  rw [hds, List.toList_toArray, front] at hc
  have lc : (((List.finRange n).map some).take c).length = c := by rw [List.length_take]; simp; omega
  rw [lc] at hc
  refine hc.mono ?_
  rintro r w' ⟨rfl, q, rfl⟩
  have ly : (((List.finRange n).map some).take c ++ List.replicate (n - c) (none : Option (Fin n))).length = n := by rw [List.length_append, lc, List.length_replicate]; omega
  have hput := ownPut (enc := enc) h1 q off (((List.finRange n).map some).take c ++ List.replicate (n - c) none) (by rw [ly]; exact hle)
  have emap : (((List.finRange n).map some).take c ++ List.replicate (n - c) (none : Option (Fin n))).map enc = (ins.drop off).take c ++ List.replicate (n - c) (Value.slice none 0 0) := by
    rw [List.map_append, List.map_replicate]
    refine congrArg (· ++ List.replicate (n - c) (Value.slice none 0 0)) ?_
    apply List.ext_getElem
    · simp; omega
    · intro i a b
      simp only [List.length_map, List.length_take, List.length_finRange] at a
      have hi : off + i < ins.length := by omega
      simp [enc, List.getD, List.getElem?_eq_getElem hi]
  rw [ly, emap] at hput
  have hcn : c ≤ n := by simpa using cn
  refine ⟨_, rfl, rfl, .inr ⟨G, l.length, cap, _, rfl, rfl, hoc, by omega, fun _ => rfl⟩, _, hput, by simp; omega, fun i u r hu hr => ?_, ?_, fun b hb => ?_, ⟨rfl, Nat.le_add_right _ _⟩, rfl, rfl, ?_, fun b hb hne => ?_⟩
  · have e1 := cut_get ins off n c (.slice none 0 0) (by omega) hcn i
    rw [hu] at e1
    have e2 := cut_get l off n c [] hle hcn i
    rw [← List.append_assoc (l.take off), ← List.take_add, hr] at e2
    split at e1
    · rename_i hi
      rw [if_pos hi] at e2
      cases e1; cases e2
      exact World.ownsRow_nil _ _ _ _
    · rename_i hi
      rw [if_neg hi] at e2
      exact h3 i u r e1.symm e2.symm
  · exact hnd.sublist (List.Sublist.append_left (cut_sub ins off n c hcn) _)
  · exact (List.Sublist.append_left (cut_sub ins off n c hcn) _).subset hb
  · simp [Go.Sort.putRow, Go.Sort.mapBlock, Go.Sort.ahead]
  · have hne2 : G ≠ b := fun e => hne (by rw [e]; rfl)
    simp [Go.Sort.putRow, Go.Sort.mapBlock, Go.Sort.ahead, Array.getElem?_modify, hne2]

end Go.Sx
end

section
open Go Go.Proofs Go.RowKit Go.Shelf
namespace Go.Sx
set_option linter.unusedSimpArgs false
set_option linter.unusedVariables false

def sDel_ct : List AD → Option Post := fun ds => match ds with
  | [.c (.rows .i64 l)] => some ⟨(∀ r ∈ l, r.length ≤ 1000) ∧ keepL l = l.take (keepL l).length, .c (.rows 93 0 .i64 (keepL l)), []⟩
  | _ => none

theorem sDel_fits : Fits Try.prog 92 ⟨[(0, 96), (0, 96)], sDel_ct⟩ where
  fn := ⟨Try.f92, Try.func92, by kernel_rfl, by kernel_rfl⟩
  run := fun _ _ _ ds p ms obs h _ _ hm _ hw => by
    exfalso
    have h : sDel_ct ds = some p := h
    unfold sDel_ct at h
    split at h
    · cases h; simp at hw
    · cases h
  mv := fun h => by cases h
  gr := fun h => by cases h
  so := fun h => by cases h
  df := fun _ l off n q g x k ws h hq => by
    have h : some (⟨(∀ r ∈ (l.drop off).take n, r.length ≤ 1000) ∧ keepL ((l.drop off).take n) = ((l.drop off).take n).take (keepL ((l.drop off).take n)).length, .c (.rows 93 0 .i64 (keepL ((l.drop off).take n))), []⟩ : Post) = some ⟨q, .c (.rows g x .i64 k), ws⟩ := h
    simp only [Option.some.injEq, Post.mk.injEq, RV.c.injEq, RC.rows.injEq] at h
    obtain ⟨h1, ⟨h2, _, _, h3⟩, _⟩ := h
    subst h1; subst h2; subst h3
    refine ⟨?_, cut_at l off n hq.1 hq.2⟩
    have := List.length_filter_le (fun r => !incB r) ((l.drop off).take n)
    rw [List.length_take] at this
    show (keepL ((l.drop off).take n)).length ≤ n
    unfold keepL
    omega


end Go.Sx
end
