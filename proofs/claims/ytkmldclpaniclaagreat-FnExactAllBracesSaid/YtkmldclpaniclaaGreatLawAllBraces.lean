/- LawAllBraces -/
import Derived.Test.YtkmldclpaniclaaGreatSxLaw
import Derived.Test.YtkmldclpaniclaaGreatNamD
import Derived.Test.YtkmldclpaniclaaGreatRows
import Derived.KernelRfl
set_option linter.unusedSimpArgs false
set_option linter.unusedVariables false
namespace Go.Proofs.YtkmldclpaniclaaGreat.fnExactAllBraces
open Go.Sx Go.ChangeShapes Go.WideShapes Go.ChangeAt Go.RowKit Go.ChangeMaps Go.Deep Go.Joins
set_option linter.unusedVariables false
set_option maxRecDepth 100000 in
theorem opened(H:Type)(enc:TypeId×Value->H)(W:World)(base:Nat)(vs:List Value)(ds:List (DataW H))(p:List MemPlace)(hA:DataW.TrodAll enc Tryz.prog W 0 (fun _=>true) true [2] vs ds p)
  (hval:∀(j:Nat) t v,(#[2]:Array TypeId)[j]?=some t->vs[j]?=some v->Value.okWide Tryz.prog W .any base t v) :
  ∃(ads:List AD) (pre:Prop),Bl ads=some ⟨pre,.c (.bool true),[]⟩/\pre/\vs.length=ads.length/\∀(i:Nat) (d:AD),ads[i]?=some d->∃v,vs[i]?=some v/\cZ Tryz.prog W [] [] [] i d v:=by
 obtain⟨v0,vs0,d0,ds0,p0,q0,rfl,rfl,rfl,h0,r0⟩:=trodAll_cons hA;obtain⟨rfl,rfl,rfl⟩:=trodAll_nil r0;obtain⟨_,rfl⟩:=okWide_int Tryz.underlying2 (hval 0 2 v0 rfl rfl);obtain⟨_,g0⟩:=Ru rfl h0;obtain⟨l0,w0,o0⟩:=Rs (t:=2) Tryz.underlying2 g0;have a0:=Rt o0 0
 refine⟨[.c (.int .i64 l0)],_,rfl,?_,rfl,fun i d hi=>?_⟩
 ·trivial
 ·match i,hi with
  |0,hi=>cases hi;exact⟨_,rfl,a0⟩
  |i+1,hi=>simp at hi
set_option maxRecDepth 100000 in
theorem lifted(os:Os)(started:os.Started)(H:Type)(enc:TypeId×Value->H) :
  ReturnsInHanded {} Tryz.checked os 5 .any (Rows.fnExactAllBracesSpec.pre6 enc Tryz.prog Tryz.f5 Rows.fnExactAllBracesRow.domain false) (Rows.fnExactAllBracesSpec.post enc Tryz.prog Tryz.f5 false true false false):=by
 refine Rv (C:=Tryz.checked) (tb:=4) (by kernel_rfl) started (by kernel_rfl) Tryz.func5 (by kernel_rfl) rfl ?_ (by kernel_rfl) Tryz.underlying4 ?_
  (ChangeSpec.witness6 (enc:=enc) (C:=Tryz.checked) false ⟨#[],#[.int .i64 0],[]⟩ 8 (by kernel_rfl) (by kernel_rfl) (by kernel_rfl) (by kernel_rfl)) Rr ?_
 ·rw[Tryz.params5]
  intro t ht
  have h:(#[2]:Array TypeId).toList.all (fun t=>Tryz.prog.readableRec t&&decide (t<Tryz.prog.types.size))=true:=by kernel_rfl
  have:=List.all_eq_true.1 h t ht
  simp only[Bool.and_eq_true,decide_eq_true_eq]at this;exact this
 ·rw[Tryz.params5]
  intro ds hds
  match ds,hds with
  | [d0],_=>rfl
 ·rw[Tryz.params5]
  exact fun W base vs ds p hA hval=>opened H enc W base vs ds p hA hval
theorem joined:joinedFacts Tryz.pinned.checked.prog 5 Tryz.f5 Rows.fnExactAllBracesSpec Rows.fnExactAllBracesRow=true:=by
 unfold joinedFacts;exact ld (ld (ld (ld (ld (ld (ld (by kernel_rfl) Oa) Oc) Od) (by kernel_rfl)) (by kernel_rfl)) (by kernel_rfl)) (by kernel_rfl)
theorem named:Tryz.pinned.checked.prog.funcNamed Rows.fnExactAllBracesRow.func=some 5:=by kernel_rfl
theorem proved:Rows.FnExactAllBracesSaid :=
 OpenClaim.holds_of_wide 5 Tryz.f5 rfl rfl rfl rfl rfl rfl rfl ⟨rfl,rfl,rfl,rfl,rfl⟩ rfl rfl rfl rfl rfl named Tryz.func5 joined
  (of_decide_eq_true (by kernel_rfl)) (by unfold Func.isWrapper;first|(rw[if_pos (by decide +kernel)];kernel_rfl)|(rw[if_neg (by decide +kernel)];exact⟨rfl,rfl⟩))
  (fun os started H enc _=>lifted os started H enc)
#print axioms proved
end Go.Proofs.YtkmldclpaniclaaGreat.fnExactAllBraces
