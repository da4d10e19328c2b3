/- LawPlaceOfBrace -/
import Derived.Test.YtkmldclpaniclaaGreatSxLaw
import Derived.Test.YtkmldclpaniclaaGreatJoin
import Derived.Test.YtkmldclpaniclaaGreatRows
import Derived.KernelRfl
set_option linter.unusedSimpArgs false
set_option linter.unusedVariables false
namespace Go.Proofs.YtkmldclpaniclaaGreat.fnExactPlaceOfBrace
open Go.Sx Go.ChangeShapes Go.WideShapes Go.ChangeAt Go.RowKit Go.ChangeMaps Go.Deep Go.Joins
set_option linter.unusedVariables false
set_option maxRecDepth 100000 in
theorem opened(H:Type)(enc:TypeId×Value->H)(W:World)(base:Nat)(vs:List Value)(ds:List (DataW H))(p:List MemPlace)(hA:DataW.TrodAll enc Tryz.prog W 0 (fun _=>true) true [54] vs ds p)
  (hval:∀(j:Nat) t v,(#[54]:Array TypeId)[j]?=some t->vs[j]?=some v->Value.okWide Tryz.prog W .any base t v) :
  ∃(ads:List AD) (pre:Prop),C7 ads=some ⟨pre,.c (.bool true),[]⟩/\pre/\vs.length=ads.length/\∀(i:Nat) (d:AD),ads[i]?=some d->∃v,vs[i]?=some v/\db Tryz.prog W [] [] [] i d v:=by
 obtain⟨v0,vs0,d0,ds0,p0,q0,rfl,rfl,rfl,h0,r0⟩:=trodAll_cons hA;obtain⟨rfl,rfl,rfl⟩:=trodAll_nil r0;obtain⟨v00,v01,y00,y01,n0,rfl,_,_,h00,h01⟩:=open_agg2 Tryz.underlying54 (by kernel_rfl) (by kernel_rfl) (hval 0 54 v0 rfl rfl) h0
 obtain⟨l00,s00,w00,o00⟩:=Kq (t:=22) Tryz.underlying22 Tryz.underlying62 Tryz.underlying2 (by kernel_rfl) (by kernel_rfl) h00
 obtain⟨l01,s01,w01,o01⟩:=Kq (t:=22) Tryz.underlying22 Tryz.underlying62 Tryz.underlying2 (by kernel_rfl) (by kernel_rfl) h01
 have a0:=Uy (t:=54) o00 o01 0
 refine⟨[.agg [.rows .i64 l00,.rows .i64 l01]],_,rfl,?_,rfl,fun i d hi=>?_⟩
 ·(simp only[Ux]at s00 w00 s01 w01;exact⟨⟨by omega,fun r hr=>by have:=(w00 r hr).1;omega⟩,by omega,fun r hr=>by have:=(w01 r hr).1;omega⟩)
 ·match i,hi with
  |0,hi=>cases hi;exact⟨_,rfl,a0⟩
  |i+1,hi=>simp at hi
set_option maxRecDepth 100000 in
theorem lifted(os:Os)(started:os.Started)(H:Type)(enc:TypeId×Value->H) :
  ReturnsInHanded {} Tryz.checked os 6 .any (Rows.fnExactPlaceOfBraceSpec.pre6 enc Tryz.prog Tryz.f6 Rows.fnExactPlaceOfBraceRow.domain false) (Rows.fnExactPlaceOfBraceSpec.post enc Tryz.prog Tryz.f6 false true false false):=by
 refine Uz (C:=Tryz.checked) (tb:=4) (by kernel_rfl) started (by kernel_rfl) Tryz.func6 (by kernel_rfl) rfl ?_ (by kernel_rfl) Tryz.underlying4 ?_
  (ChangeSpec.witness6 (enc:=enc) (C:=Tryz.checked) false ⟨#[],#[.agg #[.slice none 0 0,.slice none 0 0]],[]⟩ 8 (by kernel_rfl) (by kernel_rfl) (by kernel_rfl) (by kernel_rfl)) Uw ?_
 ·rw[Tryz.params6]
  intro t ht
  have h:(#[54]:Array TypeId).toList.all (fun t=>Tryz.prog.readableRec t&&decide (t<Tryz.prog.types.size))=true:=by kernel_rfl
  have:=List.all_eq_true.1 h t ht
  simp only[Bool.and_eq_true,decide_eq_true_eq]at this;exact this
 ·rw[Tryz.params6]
  intro ds hds
  match ds,hds with
  | [d0],_=>rfl
 ·rw[Tryz.params6]
  exact fun W base vs ds p hA hval=>opened H enc W base vs ds p hA hval
theorem joined:joinedFacts Tryz.pinned.checked.prog 6 Tryz.f6 Rows.fnExactPlaceOfBraceSpec Rows.fnExactPlaceOfBraceRow=true:=by
 unfold joinedFacts;exact lm (lm (lm (lm (lm (lm (lm (by kernel_rfl) PK) PN) PO) (by kernel_rfl)) (by kernel_rfl)) (by kernel_rfl)) (by kernel_rfl)
theorem named:Tryz.pinned.checked.prog.funcNamed Rows.fnExactPlaceOfBraceRow.func=some 6:=by kernel_rfl
theorem proved:Rows.FnExactPlaceOfBraceSaid :=
 OpenClaim.holds_of_wide 6 Tryz.f6 rfl rfl rfl rfl rfl rfl rfl ⟨rfl,rfl,rfl,rfl,rfl⟩ rfl rfl rfl rfl rfl named Tryz.func6 joined
  (of_decide_eq_true (by kernel_rfl)) (by unfold Func.isWrapper;first|(rw[if_pos (by decide +kernel)];kernel_rfl)|(rw[if_neg (by decide +kernel)];exact⟨rfl,rfl⟩))
  (fun os started H enc _=>lifted os started H enc)
#print axioms proved
end Go.Proofs.YtkmldclpaniclaaGreat.fnExactPlaceOfBrace
