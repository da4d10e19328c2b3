/- LawBraceProducts -/
import Derived.Test.YtcdmndagoafcgaaBprA
import Derived.Test.YtcdmndagoafcgaaSxLaw
import Derived.Test.YtcdmndagoafcgaaRows
import Derived.KernelRfl
namespace Go.Proofs.Ytcdmndagoafcgaa.fnBraceProducts
open Go.Sx Go.ChangeShapes Go.WideShapes Go.ChangeAt Go.RowKit Go.ChangeMaps Go.Deep Go.Joins
set_option linter.unusedVariables false
set_option maxRecDepth 100000 in
theorem opened (H:Type) (enc:TypeId×Value→H) (W:World) (base:Nat) (vs:List Value) (ds:List (DataW H)) (p:List MemPlace) (hA:DataW.TrodAll enc Try.prog W 0 (fun _=>true) true [36] vs ds p)
  (hval:∀(j:Nat) t v,(#[36]:Array TypeId)[j]?=some t→vs[j]?=some v→Value.okWide Try.prog W .any base t v) :
  ∃(ads:List AD) (pre:Prop),lPB_ct ads=some ⟨pre,.c (.bool true),[]⟩∧pre∧vs.length=ads.length∧∀(i:Nat) (d:AD),ads[i]?=some d→∃v,vs[i]?=some v∧ArgRep Try.prog W [] [] [] i d v:=by
 obtain ⟨v0,vs0,d0,ds0,p0,q0,rfl,rfl,rfl,h0,r0⟩:=trodAll_cons hA
 obtain ⟨rfl,rfl,rfl⟩:=trodAll_nil r0
 obtain ⟨_,_,_,rfl⟩:=okWide_slice Try.underlying36 (hval 0 36 v0 rfl rfl)
 obtain ⟨_,g0⟩:=trod_of_okWide rfl h0
 obtain ⟨l0,s0,w0,o0⟩:=opn_bytes (t:=36) Try.underlying36 Try.underlying5 (by kernel_rfl) g0
 have a0:=arg_c o0 0
 refine ⟨[.c (.ints .u8 l0)],_,rfl,?_,rfl,fun i d hi=>?_⟩
 ·exact fun n hn=>w0 n hn
 ·match i,hi with
  | 0,hi=>cases hi;exact ⟨_,rfl,a0⟩
  | i+1,hi=>simp at hi
set_option maxRecDepth 100000 in
theorem lifted (os:Os) (started:os.Started) (H:Type) (enc:TypeId×Value→H) :
  ReturnsInHanded {} Try.checked os 4 .any (Rows.fnBraceProductsSpec.pre6 enc Try.prog Try.f4 Rows.fnBraceProductsRow.domain false) (Rows.fnBraceProductsSpec.post enc Try.prog Try.f4 false true false false):=by
 refine law_lifted (C:=Try.checked) (tb:=4) (by kernel_rfl) started (by kernel_rfl) Try.func4 (by kernel_rfl) rfl ?_ (by kernel_rfl) Try.underlying4 ?_
  (ChangeSpec.witness6 (enc:=enc) (C:=Try.checked) false ⟨#[],#[.slice none 0 0],[]⟩ 8 (by kernel_rfl) (by kernel_rfl) (by kernel_rfl) (by kernel_rfl)) lPB_fits ?_
 ·rw [Try.params4]
  intro t ht
  have h:(#[36]:Array TypeId).toList.all (fun t=>Try.prog.readableRec t&&decide (t<Try.prog.types.size))=true:=by kernel_rfl
  have:=List.all_eq_true.1 h t ht
  simp only [Bool.and_eq_true,decide_eq_true_eq] at this
  exact this
 ·rw [Try.params4]
  intro ds hds
  match ds,hds with
  | [d0],_=>rfl
 ·rw [Try.params4]
  exact fun W base vs ds p hA hval=>opened H enc W base vs ds p hA hval
theorem joined:joinedFacts Try.pinned.checked.prog 4 Try.f4 Rows.fnBraceProductsSpec Rows.fnBraceProductsRow=true:=by
 unfold joinedFacts
 exact band (band (band (band (band (band (band (by kernel_rfl) joinMay) joinFinal) joinMake) (by kernel_rfl)) (by kernel_rfl)) (by kernel_rfl)) (by kernel_rfl)
theorem named:Try.pinned.checked.prog.funcNamed Rows.fnBraceProductsRow.func=some 4:=by kernel_rfl
theorem proved:Rows.FnBraceProductsSaid :=
 OpenClaim.holds_of_wide 4 Try.f4 rfl rfl rfl rfl rfl rfl rfl ⟨rfl,rfl,rfl,rfl,rfl⟩ rfl rfl rfl rfl rfl named Try.func4 joined
  (of_decide_eq_true (by kernel_rfl)) (by unfold Func.isWrapper;first | (rw [if_pos (by decide +kernel)];kernel_rfl) | (rw [if_neg (by decide +kernel)];exact ⟨rfl,rfl⟩))
  (fun os started H enc _=>lifted os started H enc)
#print axioms proved
end Go.Proofs.Ytcdmndagoafcgaa.fnBraceProducts
