/- LawCircles -/
import Derived.Test.YtkmldclpaniclaaGreatSxLaw
import Derived.Test.YtkmldclpaniclaaGreatRows
import Derived.KernelRfl
set_option linter.unusedSimpArgs false
set_option linter.unusedVariables false
set_option linter.defProp false
namespace Go.Proofs.YtkmldclpaniclaaGreat.fnCircles
open Go.Sx Go.ChangeShapes Go.WideShapes Go.ChangeAt Go.RowKit Go.ChangeMaps Go.Deep Go.Joins
set_option linter.unusedVariables false
set_option maxRecDepth 100000 in
theorem opened(H:Type)(enc:TypeId×Value->H)(W:World)(base:Nat)(vs:List Value)(ds:List (DataW H))(p:List MemPlace)(hA:DataW.TrodAll enc Tryz.prog W 0 (fun _=>true) true [36] vs ds p)
  (hval:∀(j:Nat) t v,(#[36]:Array TypeId)[j]?=some t->vs[j]?=some v->Value.okWide Tryz.prog W .any base t v) :
  ∃(ads:List AD) (pre:Prop),Hx ads=some ⟨pre,.c (.bool true),[]⟩/\pre/\vs.length=ads.length/\∀(i:Nat) (d:AD),ads[i]?=some d->∃v,vs[i]?=some v/\dm Tryz.prog W [] [] [] i d v:=by
 obtain⟨v0,vs0,d0,ds0,p0,q0,rfl,rfl,rfl,h0,r0⟩:=trodAll_cons hA;obtain⟨rfl,rfl,rfl⟩:=trodAll_nil r0;obtain⟨_,_,_,rfl⟩:=okWide_slice Tryz.underlying36 (hval 0 36 v0 rfl rfl);obtain⟨_,g0⟩:=Y3 rfl h0;obtain⟨l0,s0,w0,o0⟩:=YY (t:=36) Tryz.underlying36 Tryz.underlying5 (by kernel_rfl) g0
 have a0:=YZ o0 0
 refine⟨[.c (.ints .u8 l0)],_,rfl,?_,rfl,fun i d hi=>?_⟩
 ·exact fun n hn=>w0 n hn
 ·match i,hi with
  |0,hi=>cases hi;exact⟨_,rfl,a0⟩
  |i+1,hi=>simp at hi
set_option maxRecDepth 100000 in
theorem lifted(os:Os)(started:os.Started)(H:Type)(enc:TypeId×Value->H) :
  ReturnsInHanded {} Tryz.checked os 8 .any (Rows.fnCirclesSpec.pre6 enc Tryz.prog Tryz.f8 Rows.fnCirclesRow.domain false) (Rows.fnCirclesSpec.post enc Tryz.prog Tryz.f8 false true false false):=by
 refine Y5 (C:=Tryz.checked) (tb:=4) (by kernel_rfl) started (by kernel_rfl) Tryz.func8 (by kernel_rfl) rfl ?_ (by kernel_rfl) Tryz.underlying4 ?_
  (ChangeSpec.witness6 (enc:=enc) (C:=Tryz.checked) false ⟨#[],#[.slice none 0 0],[]⟩ 8 (by kernel_rfl) (by kernel_rfl) (by kernel_rfl) (by kernel_rfl)) YL ?_
 ·rw[Tryz.params8]
  intro t ht
  have h:(#[36]:Array TypeId).toList.all (fun t=>Tryz.prog.readableRec t&&decide (t<Tryz.prog.types.size))=true:=by kernel_rfl
  have:=List.all_eq_true.1 h t ht
  simp only[Bool.and_eq_true,decide_eq_true_eq]at this;exact this
 ·rw[Tryz.params8]
  intro ds hds
  match ds,hds with
  | [d0],_=>rfl
 ·rw[Tryz.params8]
  exact fun W base vs ds p hA hval=>opened H enc W base vs ds p hA hval
theorem joined:joinedFacts Tryz.pinned.checked.prog 8 Tryz.f8 Rows.fnCirclesSpec Rows.fnCirclesRow=true:=by
 unfold joinedFacts;exact m8 (m8 (m8 (m8 (m8 (m8 (m8 (by kernel_rfl) YV) YW) YX) (by kernel_rfl)) (by kernel_rfl)) (by kernel_rfl)) (by kernel_rfl)
theorem named:Tryz.pinned.checked.prog.funcNamed Rows.fnCirclesRow.func=some 8:=by kernel_rfl
theorem proved:Rows.FnCirclesSaid :=
 OpenClaim.holds_of_wide 8 Tryz.f8 rfl rfl rfl rfl rfl rfl rfl ⟨rfl,rfl,rfl,rfl,rfl⟩ rfl rfl rfl rfl rfl named Tryz.func8 joined
  (of_decide_eq_true (by kernel_rfl)) (by unfold Func.isWrapper;first|(rw[if_pos (by decide +kernel)];kernel_rfl)|(rw[if_neg (by decide +kernel)];exact⟨rfl,rfl⟩))
  (fun os started H enc _=>lifted os started H enc)
#print axioms proved
end Go.Proofs.YtkmldclpaniclaaGreat.fnCircles
