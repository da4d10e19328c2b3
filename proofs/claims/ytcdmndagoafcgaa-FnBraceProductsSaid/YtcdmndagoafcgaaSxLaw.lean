/- SxLaw -/
import Derived.Test.YtcdmndagoafcgaaRows
import Derived.JoinedOf
import Derived.KernelRfl
import Derived.Test.YtcdmndagoafcgaaSxZ
import Derived.ProofKit
import Derived.OpenShut
import Derived.Lib.SmallJoins
import Derived.Deep.Matrix
section
namespace Go.Proofs.Ytcdmndagoafcgaa
theorem band {x y:Bool} (h:x=true) (k:y=true):(x&&y)=true:=by rw [h,k];rfl
set_option maxRecDepth 10000000 in
def joinSigns:{ l:List Char // Try.prog.initOrder=String.ofList l }:=⟨_,rfl⟩
theorem joinList:Try.prog.initOrder.toList=joinSigns.1:=(congrArg String.toList joinSigns.2).trans String.toList_ofList
theorem joinCut:∃rest,behindMainWord (wordsSigns Try.prog.initOrder.toList)=['c','u','t']::rest:=by
 rw [joinList]
 have h:(behindMainWord (wordsSigns joinSigns.1)).head?=some ['c','u','t']:=by kernel_rfl
 cases hb:behindMainWord (wordsSigns joinSigns.1) with
 | nil=>rw [hb] at h;cases h
 | cons x y=>rw [hb] at h;cases h;exact ⟨y,rfl⟩
theorem joinStrip (rest:List (List Char)):stripLifts liftWords (['c','u','t']::rest)=([],['c','u','t']::rest):=by rfl
theorem joinHead:Try.prog.headLifts=[]:=by
 obtain ⟨rest,h⟩:=joinCut
 unfold Program.headLifts
 rw [h,joinStrip]
 rfl
theorem joinLater:Try.prog.laysLater=false:=by kernel_rfl
theorem joinReflect:Try.prog.bearsReflect=false:=by kernel_rfl
theorem joinRows:Try.prog.doorRows=[]:=by kernel_rfl
theorem joinDoor:Try.prog.doorFits []=true:=by
 unfold Program.doorFits
 rw [joinRows]
 rfl
theorem mayOf (P:Program) (rest:List (List Char)) (h:behindMainWord (wordsSigns P.initOrder.toList)=['c','u','t']::rest) (h1:P.laysLater=false) (h2:P.bearsReflect=false) (h3:P.doorFits []=true):P.mayEnter=true:=by
 unfold Program.mayEnter
 rw [h]
 simp only [joinStrip,h1,h2,h3]
 simp
theorem finalOf (P:Program) (rest:List (List Char)) (h:behindMainWord (wordsSigns P.initOrder.toList)=['c','u','t']::rest) (h1:P.headLifts=[]):(false == P.liftsFinal)=true:=by
 unfold Program.liftsFinal
 rw [h,h1]
 rfl
theorem makeOf (P:Program) (rest:List (List Char)) (h:behindMainWord (wordsSigns P.initOrder.toList)=['c','u','t']::rest):(P.make == some Make.cut)=true:=by
 have e1:(['c','u','t'] == "gc".toList)=false:=rfl
 have e2:(['c','u','t'] == "spec".toList)=false:=rfl
 have e3:(['c','u','t'] == "cut".toList)=true:=rfl
 unfold Program.make
 rw [h]
 simp only [e1,e2,e3,Bool.or_false,Bool.true_or,Bool.false_eq_true,if_true,if_false]
 rfl
theorem joinMay:Try.prog.mayEnter=true:=by
 obtain ⟨rest,h⟩:=joinCut
 exact mayOf _ rest h joinLater joinReflect joinDoor
theorem joinFinal:(false == Try.prog.liftsFinal)=true:=by
 obtain ⟨rest,h⟩:=joinCut
 exact finalOf _ rest h joinHead
theorem joinMake:(Try.prog.make == some Make.cut)=true:=by
 obtain ⟨rest,h⟩:=joinCut
 exact makeOf _ rest h
end Go.Proofs.Ytcdmndagoafcgaa
end
section
namespace Go.Sx
set_option linter.unusedSimpArgs false
set_option linter.unusedVariables false
open Go.ChangeShapes Go.WideShapes Go.ChangeAt Go.RowKit Go.ChangeMaps Go.Deep
section
variable {H:Type} {enc:TypeId×Value→H} {P:Program} {W:World}
def Opn (P:Program) (W:World) (t:TypeId) (v:Value) (d:FC):Prop:=v.oneCell'=true∧Reads W v d
theorem wf_u8' {n:Int} (h:(Lit.int .u8 n).wf=true):0≤n∧n≤255:=by
 simp only [Lit.wf,Bool.and_eq_true,decide_eq_true_eq] at h
 exact h
theorem opn_bytes {t e:TypeId} {fuel:Nat} {v:Value} {x:DataW H×List MemPlace} (ht:P.underlying t=some (.slice e)) (he:P.underlying e=some (.int .u8)) (hc:P.cellsOf e=1)
  (h:DataW.trod enc P W 0 (fun _=>true) true fuel t [v]=some x):∃l:List Int,l.length≤maxLen∧(∀n∈l,0≤n∧n≤255)∧Opn P W t v (.ints .u8 l):=by
 rcases open_ints ht he hc h with ⟨h1,_⟩ | ⟨a,len,cap,zs,h1,_,hl,hm,hz,_,hcell,hw⟩
 ·simp only [List.cons.injEq,and_true] at h1
  subst h1
  exact ⟨[],Nat.zero_le _,by simp,rfl,none,0,rfl,Nat.le_refl _,fun h=>by simp at h⟩
 ·simp only [List.cons.injEq,and_true] at h1
  subst h1
  simp only [if_true] at hz
  have hlen:(zs.take len).length=len:=by simp;omega
  refine ⟨zs.take len,by rw [hlen];omega,fun n hn=>wf_u8' (hw n (List.mem_of_mem_take hn)),rfl,some a,cap,by rw [hlen],by rw [hlen];exact hl,fun hpos=>?_⟩
  rw [hlen] at hpos
  obtain ⟨b,off,spot⟩:=a
  have hs:spot=none:=by simpa [Addr.add] using World.cell?_spot (hcell 0 (by omega))
  subst hs
  refine ⟨b,off,rfl,fun i hi=>?_⟩
  rw [hlen] at hi
  refine ⟨_,by rw [←add_plain];exact hcell i (by omega),?_⟩
  simp [List.getD_eq_getElem?_getD,List.getElem?_take,hi]
theorem arg_c {t:TypeId} {v:Value} {d:FC} (h:Opn P W t v d) (i:Nat):ArgRep P W [] [] [] i (.c d) v:=⟨h.1,h.2⟩
theorem trod_of_okWide {t:TypeId} {v:Value} {d:DataW H} {p:List MemPlace} (h1:v.cells.toList=[v]) (h:DataW.Trod enc P W 0 (fun _=>true) true t v d p):∃n,DataW.trod enc P W 0 (fun _=>true) true n t [v]=some (d,p):=by
 obtain ⟨n,hn⟩:=h
 exact ⟨n,by rw [←h1];exact hn⟩
theorem trodAll_keep (hl:laidOutB P=true) {W':World} (hb:Below W.heap.size W W'):∀{ts:List TypeId} {vs:List Value} {ds:List (DataW H)} {p:List MemPlace},(∀t∈ts,P.readableRec t=true∧t<P.types.size) →
  DataW.TrodAll enc P W 0 (fun _=>true) true ts vs ds p→(∀x∈p,x.block<W.heap.size)→DataW.TrodAll enc P W' 0 (fun b=>decide (b<W.heap.size)) true ts vs ds p
 | [],[],[],p,_,h,_=>h
 | t::ts,v::vs,d::ds,p,ht,h,hlt=>by
  obtain ⟨p1,p2,h1,h2,rfl⟩:=h
  exact ⟨p1,p2,Below.trod hl (ht t (by simp)).1 (ht t (by simp)).2 h1 hb (fun x hx=>hlt x (by simp [hx])),trodAll_keep hl hb (fun t' h'=>ht t' (by simp [h'])) h2 (fun x hx=>hlt x (by simp [hx])),rfl⟩
 | [],[],_::_,_,_,h,_=>h.elim
 | [],_::_,[],_,_,h,_=>h.elim
 | [],_::_,_::_,_,_,h,_=>h.elim
 | _::_,[],[],_,_,h,_=>h.elim
 | _::_,[],_::_,_,_,h,_=>h.elim
 | _::_,_::_,[],_,_,h,_=>h.elim
theorem trodAll_lens {W:World} {base:Nat} {sp:Nat→Bool} {hd:Bool}:∀{ts:List TypeId} {vs:List Value} {ds:List (DataW H)} {p:List MemPlace},DataW.TrodAll enc P W base sp hd ts vs ds p→vs.length=ts.length∧ds.length=ts.length
 | [],[],[],_,_=>⟨rfl,rfl⟩
 | t::ts,v::vs,d::ds,p,h=>by
  obtain ⟨p1,p2,_,h2,_⟩:=h
  have:=trodAll_lens h2
  simp [this.1,this.2]
 | [],[],_::_,_,h=>h.elim
 | [],_::_,[],_,h=>h.elim
 | [],_::_,_::_,_,h=>h.elim
 | _::_,[],[],_,h=>h.elim
 | _::_,[],_::_,_,h=>h.elim
 | _::_,_::_,[],_,h=>h.elim
end
theorem law_lifted {C:Checked} {os:Os} {H:Type} {enc:TypeId×Value→H} {f:FuncId} {fn:Func} {s:ChangeSpec} {conds:List PathCond} {fresh handsOn:Bool} {tb:TypeId}
  (own:ownKnob C.prog.godebug=none) (started:os.Started) (noInit:C.prog.inits.idxOf? f=none) (hfn:C.prog.funcs[f]?=some fn) (hlaid:laidOutB C.prog=true)
  (hvars:s.vars=[]) (hrd:∀t∈fn.params.toList,C.prog.readableRec t=true∧t<C.prog.types.size) (hres:fn.resultTypes=#[tb]) (htb:C.prog.underlying tb=some .bool)
  (hspec:∀ds:List (DataW H),ds.length=fn.params.toList.length→s.fn H ds={ results:=[.lit (.bool true)],args:=ds,vars:=[] })
  (witness:∃(w:World) (tape:Tape) (i:Input),w.os=os∧(w.forCall tape i).Shaped C.prog∧i.vars=[]∧Input.okWide C.prog (w.forCall tape i) .any w.heap.size f i ∧
   s.pre6 enc C.prog fn conds false (w.forCall tape i).memory i.args∧({}:Assume).holds C.prog (lone (Frame.enter C.prog f i.args .normal) [] (w.forCall tape i)))
  {ct:List AD→Option Post} (fits:Fits C.prog f ⟨[],ct⟩)
  (hopen:∀(W:World) (base:Nat) (vs:List Value) (ds:List (DataW H)) (p:List MemPlace),DataW.TrodAll enc C.prog W 0 (fun _=>true) true fn.params.toList vs ds p →
   (∀(j:Nat) t v,fn.params[j]?=some t→vs[j]?=some v→Value.okWide C.prog W .any base t v) →
   ∃(ads:List AD) (pre:Prop),ct ads=some ⟨pre,.c (.bool true),[]⟩∧pre∧vs.length=ads.length∧∀(i:Nat) (d:AD),ads[i]?=some d→∃v,vs[i]?=some v∧ArgRep C.prog W [] [] [] i d v) :
  ReturnsInHanded {} C os f .any (s.pre6 enc C.prog fn conds false) (s.post enc C.prog fn false fresh handsOn false):=by
 refine returnsInHanded_of_change own started noInit hfn witness ?_
 intro W base args ds gs before hval hW _ _
 have hW':=hW
 obtain ⟨p,q,hA,hV,rfl,hfz,hnd⟩:=hW
 rw [hvars] at hV
 obtain ⟨rfl,rfl⟩:=trodVars_none hV
 obtain ⟨ads,pre,h1,h2,h3,h4⟩:=hopen W base args.toList ds p hA (fun j t v ht hv=>hval j t v ht (by simpa using hv))
 have hrun:=fits.run W W args.toList ads _ [] [] h1 h2 h3 rfl rfl rfl (by simp) (by simp) (by simp) (fun q u hq=>⟨hq,by simp⟩) h4
 refine hrun.mono fun e W' ⟨v,ms',img,wG,he,haft,hms,_,_,hret⟩=>?_
 subst he
 have hv:v=.bool true:=hret.val
 subst hv
 have hB:Below W.heap.size W W':=haft.below
 have hlt:∀x∈p,x.block<W.heap.size:=fun x hx=>by simpa using hW'.lt x (by simp [hx])
 have hsp:=hspec ds (trodAll_lens hA).2
 refine ⟨_,rfl,ds,[],p++[],[],p,[],hW',?_,?_,?_,hB.frame _,fun h=>by cases h⟩
 ·rw [List.append_nil,hsp,hres]
  exact trodAll_cons_mk (shut_bool htb _) trodAll_mk0
 ·rw [List.append_nil,hsp]
  exact trodAll_keep hlaid hB hrd hA hlt
 ·rw [List.append_nil,hsp,hvars]
  rfl
end Go.Sx
end
