/- LawRetractsOfBraces -/
import Derived.Test.YtkmldclpaniclaaGreatSxLaw
import Derived.Test.YtkmldclpaniclaaGreatRetP
import Derived.Test.YtkmldclpaniclaaGreatRows
import Derived.KernelRfl
set_option linter.unusedSimpArgs false
set_option linter.unusedVariables false
set_option linter.defProp false
namespace Go.Proofs.YtkmldclpaniclaaGreat.fnRetractsOfBraces
open Go.Sx Go.ChangeShapes Go.WideShapes Go.ChangeAt Go.RowKit Go.ChangeMaps Go.Deep Go.Joins
set_option linter.unusedVariables false
set_option maxRecDepth 100000 in
theorem opened(H:Type)(enc:TypeId×Value->H)(W:World)(base:Nat)(vs:List Value)(ds:List (DataW H))(p:List MemPlace)(hA:DataW.TrodAll enc Tryz.prog W 0 (fun _=>true) true [36] vs ds p)
  (hval:∀(j:Nat) t v,(#[36]:Array TypeId)[j]?=some t->vs[j]?=some v->Value.okWide Tryz.prog W .any base t v) :
  ∃(ads:List AD) (pre:Prop),H8 ads=some ⟨pre,.c (.bool true),[]⟩/\pre/\vs.length=ads.length/\∀(i:Nat) (d:AD),ads[i]?=some d->∃v,vs[i]?=some v/\dh Tryz.prog W [] [] [] i d v:=by
 obtain⟨v0,vs0,d0,ds0,p0,q0,rfl,rfl,rfl,h0,r0⟩:=trodAll_cons hA;obtain⟨rfl,rfl,rfl⟩:=trodAll_nil r0;obtain⟨_,_,_,rfl⟩:=okWide_slice Tryz.underlying36 (hval 0 36 v0 rfl rfl);obtain⟨_,g0⟩:=aa9 rfl h0;obtain⟨l0,s0,w0,o0⟩:=aa7 (t:=36) Tryz.underlying36 Tryz.underlying5 (by kernel_rfl) g0
 have a0:=aa8 o0 0
 refine⟨[.c (.ints .u8 l0)],_,rfl,?_,rfl,fun i d hi=>?_⟩
 ·exact fun n hn=>w0 n hn
 ·match i,hi with
  |0,hi=>cases hi;exact⟨_,rfl,a0⟩
  |i+1,hi=>simp at hi
set_option maxRecDepth 100000 in
theorem lifted(os:Os)(started:os.Started)(H:Type)(enc:TypeId×Value->H) :
  ReturnsInHanded {} Tryz.checked os 4 .any (Rows.fnRetractsOfBracesSpec.pre6 enc Tryz.prog Tryz.f4 Rows.fnRetractsOfBracesRow.domain false) (Rows.fnRetractsOfBracesSpec.post enc Tryz.prog Tryz.f4 false true false false):=by
 refine ab0 (C:=Tryz.checked) (tb:=4) (by kernel_rfl) started (by kernel_rfl) Tryz.func4 (by kernel_rfl) rfl ?_ (by kernel_rfl) Tryz.underlying4 ?_
  (ChangeSpec.witness6 (enc:=enc) (C:=Tryz.checked) false ⟨#[],#[.slice none 0 0],[]⟩ 8 (by kernel_rfl) (by kernel_rfl) (by kernel_rfl) (by kernel_rfl)) aa6 ?_
 ·rw[Tryz.params4]
  intro t ht
  have h:(#[36]:Array TypeId).toList.all (fun t=>Tryz.prog.readableRec t&&decide (t<Tryz.prog.types.size))=true:=by kernel_rfl
  have:=List.all_eq_true.1 h t ht
  simp only[Bool.and_eq_true,decide_eq_true_eq]at this;exact this
 ·rw[Tryz.params4]
  intro ds hds
  match ds,hds with
  | [d0],_=>rfl
 ·rw[Tryz.params4]
  exact fun W base vs ds p hA hval=>opened H enc W base vs ds p hA hval
theorem joined:joinedFacts Tryz.pinned.checked.prog 4 Tryz.f4 Rows.fnRetractsOfBracesSpec Rows.fnRetractsOfBracesRow=true:=by
 unfold joinedFacts;exact mM (mM (mM (mM (mM (mM (mM (by kernel_rfl) X8) X9) Ya) (by kernel_rfl)) (by kernel_rfl)) (by kernel_rfl)) (by kernel_rfl)
theorem named:Tryz.pinned.checked.prog.funcNamed Rows.fnRetractsOfBracesRow.func=some 4:=by kernel_rfl
theorem proved:Rows.FnRetractsOfBracesSaid :=
 OpenClaim.holds_of_wide 4 Tryz.f4 rfl rfl rfl rfl rfl rfl rfl ⟨rfl,rfl,rfl,rfl,rfl⟩ rfl rfl rfl rfl rfl named Tryz.func4 joined
  (of_decide_eq_true (by kernel_rfl)) (by unfold Func.isWrapper;first|(rw[if_pos (by decide +kernel)];kernel_rfl)|(rw[if_neg (by decide +kernel)];exact⟨rfl,rfl⟩))
  (fun os started H enc _=>lifted os started H enc)
#print axioms proved
end Go.Proofs.YtkmldclpaniclaaGreat.fnRetractsOfBraces
