/- SxOr SxOb SxOs SxOt SxOv -/
import Derived.Test.YtkmldclpaniclaaGreatSxO
set_option linter.unusedSimpArgs false
set_option linter.unusedVariables false
section
namespace Go.Sx
open Go.RowKit
section
variable {C:Cx} {σ:State} {mu:Nat->Img} {a:Act} {w w':World}
theorem KO{P:Program}{wF:World}{mt:List (Nat×Nat)}{ms ms':List Img}{obs obs':List Ob}{i:Nat}(hm:∀j,bP mt i j=none){d:AD}{v:Value}(h:db P wF mt ms obs i d v):db P wF mt ms' obs' i d v:=by
 have hcell:∀{j d u},gD wF mt ms obs i j d u->gD wF mt ms' obs' i j d u:=fun {j d u} h=>by
  refine⟨h.1,?_⟩
  have h2:=h.2
  rw[hm j]at h2⊢;exact h2
 cases d with
 |c d=>exact hcell (j:=0) h
 |agg cs =>
  obtain⟨arr,rfl,h1,h2⟩:=h;exact⟨arr,rfl,h1,fun j d hj=>let⟨u,h3,h4⟩:=h2 j d hj;⟨u,h3,hcell h4⟩⟩
 |box cs =>
  simp only[db,hm 0]at h⊢;exact h
 |bb cs=>exact h
 |fv F=>exact h
 |fvs F s =>
  simp only[db,hm 0]at h
 |cut off n d =>
  simp only[db,hm 0]at h
 |ma x=>exact(show False from h).elim
theorem U1{Γ:FuncId->Option Ctr}(hΓ:cZ C.P Γ){f:FuncId}{o ver i:Nat}{svs:List SV}{ts:List TypeId}{eff:Eff}(hr:(BR C.P Γ f o ver i svs ts).run σ=some eff)(hob:eff.obl)(h:St C σ mu a w)
  {v0:Value} (hv0:aj (σ.env C.wF mu) (.row o ver i) v0)
  {vs:List Value} (hvl:vs.length=svs.length) (hvs:∀(i:Nat) (sv:SV),svs[i]?=some sv->∃v,vs[i]?=some v/\av C.P (σ.env C.wF mu) sv v) {dst:Option Nat} (hd:∀d,dst=some d->d<C.N) :
  (∃fn,C.P.funcs[f]?=some fn/\fn.body.isSome=true/\(fn.name == "runtime.NumGoroutine")=false) /\
  Calls C.P f (v0::vs).toArray w fun e w'=>∃v,e=.returned v/\ax C (σ.app dst eff) (a.put dst v) w':=by
 unfold BR at hr;split at hr
 ·rename_i ct hct
  have hf:=hΓ f _ hct
  refine⟨hf.fn,?_⟩
  obtain⟨ob,ho,hr2⟩:=aX hr;clear hr;split at hr2
  ·rename_i ver' e ei k l
   split at hr2
   ·rename_i hver
    have hver:=Nat.eq_of_beq_eq_true hver
    subst hver;have hw:=nW h [o] (fun x hx=>by simp at hx;subst hx;exact⟨_,ho⟩)
    have hmt:∀y j,bP [(0,0)] (1+y) j=none:=fun y j=>by
     simp only[bP];rw[if_neg (by omega)]
     rfl
    obtain⟨ads,hr3,hal,har⟩:=uT hΓ h hw svs 1 ts _ _ (fun y sv _ x j hx=>by rw[hmt y j]at hx;cases hx) hr2
    split at hr3
    ·rename_i pre rc e' k' r hpost
     split at hr3
     ·rename_i c hrc
      split at hr3
      ·rename_i hek
       obtain⟨rfl,rfl⟩:=hek;simp only[Rd.run,Option.some.injEq]at hr3;subst hr3;obtain⟨Yh,hlen⟩:pre/\r.length=(l.getD i []).length:=hob;have hx:=aN ho hv0
       obtain⟨hins,hi⟩:=hx.2 rfl;have hi':i<l.length:=hi
       obtain⟨q1,q2,q3⟩:=h.ob o _ ho;have hgd:l.getD i []=l[i]:=by simp[List.getD,hi']
       have hrow:=q3 i v0 _ hins (List.getElem?_eq_getElem hi')
       rw[<-hgd]at hrow;have hsub:∀b∈(⟨v0,[]⟩:Img).blocks,ag v0=some b:=fun b hb=>by
        simpa[Img.blocks]using hb
       have hin:∀b∈(⟨v0,[]⟩:Img).blocks,b∈(mu o).blocks:=fun b hb=>kr hins (hsub b hb)
       have hnd0:(⟨v0,[]⟩:Img).blocks.Nodup:=by
        simp only[Img.blocks,List.filterMap_nil,List.append_nil];cases ag v0<;>simp
       have hone:v0.oneCell'=true:=hv0.1
       refine(hf.run w (mh w ([o].flatMap fun o=>(mu o).blocks)) (v0::vs) (.c (.ints k (l.getD i []))::ads) ⟨pre,.c rc,[.ints ei k r]⟩ [⟨v0,[]⟩] [.ints ei k (l.getD i [])] hpost Yh (by simp[hvl,hal]) rfl rfl rfl ?_ ?_ ?_ ?_ ?_).mono ?_
       ·intro x m ob hx hox
        cases x with
        |zero=>simp at hx hox;subst hx;subst hox;exact⟨⟨rfl,hrow⟩,hnd0⟩
        |succ x=>simp at hx
       ·intro x x' m m' hne hx hx'
        cases x with
        |zero =>
         cases x' with
         |zero=>exact absurd rfl hne
         |succ x'=>simp at hx'
        |succ x=>simp at hx
       ·intro x ob rc' hx hrc'
        cases x with
        |zero =>
         simp at hx hrc';subst hx;subst hrc'
         exact⟨.ints ei k r,r.length=(l.getD i []).length,by simp only[c9,and_self,if_true];rfl,hlen⟩
        |succ x=>simp at hx
       ·intro p u hp
        obtain⟨h1,h2⟩:=hw.kept p u hp;exact⟨h1,fun m hm hb=>by
         simp at hm;subst hm
         exact h2 o (by simp) (hin _ hb)⟩
       ·intro j ad hj
        cases j with
        |zero =>
         simp at hj;subst hj
         exact⟨v0,rfl,hone,_,_,rfl,rfl,rfl,rfl⟩
        |succ j =>
         obtain⟨sv,h1,h2⟩:=har j ad (by simpa using hj)
         obtain⟨v,h3,h4⟩:=hvs j sv h1;have h5:=h2 v h4
         rw[Nat.add_comm]at h5;exact⟨v,by simpa using h3,KO (fun j'=>by have:=hmt j j';rwa[Nat.add_comm]at this) h5⟩
       ·rintro e0 w' ⟨v,ms',img,wG,rfl,haft,hml,hms,_,hret⟩
        refine⟨v,rfl,?_⟩
        have hlt1:0<ms'.length:=by rw[hml];simp
        obtain⟨_,k1,k2,k3,ob3,q4,k4,k5⟩:=hms 0 _ _ _ _ rfl (List.getElem?_eq_getElem hlt1) rfl rfl rfl;simp only[c9,and_self,if_true,Option.some.injEq,Prod.mk.injEq]at k4;obtain⟨rfl,rfl⟩:=k4;have hrow':w'.ownsRow 0 ei 1 v0 r.length (r.map (.int k)):=by
         have:=k5.2
         rw[k1]at this;exact this
        have hval:∀E,av C.P E (.c c) v:=fun E=>by
         have h1:=hret.val
         cases rc<;>simp only[fN,reduceCtorEq,Option.some.injEq]at hrc<;>subst hrc
         ·exact h1
         ·exact h1
        have hkeep:∀b,b∈(mu o).blocks->ag v0≠some b->w'.heap[b]?=w.heap[b]?:=fun b hb hne =>
         haft.block b ((h.ob o _ ho).block b hb) fun m hm hbm=>by
          simp at hm;subst hm
          exact hne (hsub b hbm)
        have hrl:(l.set i r).map List.length=l.map List.length:=by
         rw[List.map_set,hlen,hgd];apply List.ext_getElem?
         intro x
         rw[List.getElem?_set];split
         ·rename_i hx;subst hx;simp[hi']
         ·rfl
        refine h.setV hd ho [] (by simp) (m:=mu o) hval haft.os haft.tape haft.output haft.size (fun b hb hn=>haft.block b hb fun m hm hbm=>?_) (by simp[Ob.shp]) rfl (Nat.le_refl _) (fun _=>⟨rfl,hrl⟩) ⟨?_,by simp[q2],fun x u s hxx hs=>?_⟩ (h.nd o _ ho).1 (fun b hb=>.inl hb)
        ·simp at hm;subst hm
         exact hn (hin b hbm)
        ·rw[List.length_set]
         refine dn q1 fun b' hb'=>hkeep b' (ca hb') fun hc=>?_
         exact(je (h.nd o _ ho).1).2 _ hb' (List.mem_filterMap.2 ⟨v0,List.mem_of_getElem? hins,hc⟩)
        ·rw[List.getElem?_set]at hs
         by_cases hix:i=x
         ·subst hix
          rw[if_pos rfl,if_pos hi']at hs;cases hs;have hrv:u=v0:=Option.some.inj (hxx.symm.trans hins)
          subst hrv;exact hrow'
         ·rw[if_neg hix]at hs
          refine dn (q3 x u s hxx hs) fun b' hb'=>hkeep b' (kr hxx hb') fun hc=>?_
          exact CJ (h.nd o _ ho).1 hins hxx hix hc hb'
      ·simp[Rd.run]at hr3
     ·simp[Rd.run]at hr3
    ·simp[Rd.run]at hr3
   ·simp[Rd.run]at hr2
  ·simp[Rd.run]at hr2
 ·simp[Rd.run]at hr
theorem U2{Γ:FuncId->Option Ctr}(hΓ:cZ C.P Γ){f:FuncId}{o ver:Nat}{p:List Nat}{svs:List SV}{ts:List TypeId}{eff:Eff}(hr:(BS C.P Γ f o ver p svs ts).run σ=some eff)(hob:eff.obl)(h:St C σ mu a w)
  {v0:Value} (hv0:aj (σ.env C.wF mu) (.kid o ver p) v0)
  {vs:List Value} (hvl:vs.length=svs.length) (hvs:∀(i:Nat) (sv:SV),svs[i]?=some sv->∃v,vs[i]?=some v/\av C.P (σ.env C.wF mu) sv v) {dst:Option Nat} (hd:∀d,dst=some d->d<C.N) :
  (∃fn,C.P.funcs[f]?=some fn/\fn.body.isSome=true/\(fn.name == "runtime.NumGoroutine")=false) /\
  Calls C.P f (v0::vs).toArray w fun e w'=>∃v,e=.returned v/\ax C (σ.app dst eff) (a.put dst v) w':=by
 unfold BS at hr;split at hr
 ·rename_i ct hct
  have hf:=hΓ f _ hct
  refine⟨hf.fn,?_⟩
  obtain⟨ob,ho,hr2⟩:=aX hr;clear hr;split at hr2
  ·rename_i ver' es d
   split at hr2
   ·rename_i hver
    have hver:=Nat.eq_of_beq_eq_true hver
    subst hver;split at hr2
    ·rename_i x hx1
     have hw:=nW h [o] (fun x hx=>by simp at hx;subst hx;exact⟨_,ho⟩)
     have hmt:∀y j,bP [(0,0)] (1+y) j=none:=fun y j=>by
      simp only[bP];rw[if_neg (by omega)]
      rfl
     obtain⟨ads,hr3,hal,har⟩:=uT hΓ h hw svs 1 ts _ _ (fun y sv _ x j hx=>by rw[hmt y j]at hx;cases hx) hr2
     split at hr3
     ·rename_i pre rc es' x' hpost
      split at hr3
      ·rename_i c hrc
       split at hr3
       ·rename_i hes
        have hes2:=hes
        rw[Bool.and_eq_true]at hes2;have hes0:=gT hes2.1
        have hwid:=(Nat.eq_of_beq_eq_true hes2.2).symm
        subst hes0;split at hr3
        ·rename_i d' hp
         simp only[Rd.run,Option.some.injEq]at hr3;subst hr3;obtain⟨Yh,hlen⟩:pre/\x'.len=x.len:=hob;obtain⟨_,hx⟩:=aN ho hv0;obtain⟨nd,u,q1,q2,rfl⟩:=hx rfl;obtain⟨hm,hT,x0,k1,k2,k3⟩:=jL (h.ob o _ ho) q1 q2;rw[hx1]at k1;cases k1;have Bu:=dK k2
         have Bm:(mu o).blocks=aR es.length nd:=by rw[hm];exact dK hT
         have hnd:=(h.nd o _ ho).1
         have hndu:=uJ hT (by rw[<-Bm];exact hnd) q2
         have hwr:c9 (.tr 0 (es.drop p.length) x) (.tr (es.drop p.length) x')=some (.tr 0 (es.drop p.length) x',x'.len=x.len):=by simp only[c9,hes]
         refine(hf.run w (mh w ([o].flatMap fun o=>(mu o).blocks)) (aB u::vs) (.c x::ads) ⟨pre,.c rc,[.tr (es.drop p.length) x']⟩ [cW (es.drop p.length).length u] [.tr 0 (es.drop p.length) x] hpost Yh (by simp[hvl,hal]) rfl rfl rfl ?_ ?_ ?_ ?_ ?_).mono ?_
         ·intro y m ob hx hox
          cases y with
          |zero=>simp at hx hox;subst hx;subst hox;exact⟨⟨u,by rw[List.length_drop],k2⟩,by rw[<-List.length_drop,Bu];exact hndu⟩
          |succ x=>simp at hx
         ·intro y y' m m' hne hx hx'
          cases y with
          |zero =>
           cases y' with
           |zero=>exact absurd rfl hne
           |succ x'=>simp at hx'
          |succ x=>simp at hx
         ·intro y ob rc' hx hrc'
          cases y with
          |zero =>
           simp at hx hrc';subst hx;subst hrc'
           exact⟨_,_,hwr,hlen⟩
          |succ x=>simp at hx
         ·intro q u' hp'
          obtain⟨h1,h2⟩:=hw.kept q u' hp';exact⟨h1,fun m hm' hb=>by
           simp only[List.mem_singleton]at hm';subst hm';rw[Bu]at hb;exact h2 o (by simp) (k3 _ hb)⟩
         ·intro j ad hj
          cases j with
          |zero =>
           simp at hj;subst hj
           exact⟨aB u,rfl,k2.one,_,_,rfl,rfl,rfl,rfl⟩
          |succ j =>
           obtain⟨sv,h1,h2⟩:=har j ad (by simpa using hj)
           obtain⟨v,h3,h4⟩:=hvs j sv h1;have h5:=h2 v h4
           rw[Nat.add_comm]at h5;exact⟨v,by simpa using h3,KO (fun j'=>by have:=hmt j j';rwa[Nat.add_comm]at this) h5⟩
         ·rintro e0 w' ⟨v,ms',img,wG,rfl,haft,hml,hms,_,hret⟩
          refine⟨v,rfl,?_⟩
          have hlt1:0<ms'.length:=by rw[hml];simp
          obtain⟨z1,z2,z3,z4,ob3,q4,z5,z6⟩:=hms 0 _ _ _ _ rfl (List.getElem?_eq_getElem hlt1) rfl rfl rfl;rw[hwr]at z5;simp only[Option.some.injEq,Prod.mk.injEq]at z5;obtain⟨rfl,rfl⟩:=z5;rw[z1]at z6;obtain⟨nd2,z7,z8⟩:=z6;have hnd2:u=nd2:=by
           have:=congrArg (fun m:Img=>m.ins.head?) z7
           simpa[cW]using this
          subst hnd2;have hval:∀E,av C.P E (.c c) v:=fun E=>by
           have h1:=hret.val
           cases rc<;>simp only[fN,reduceCtorEq,Option.some.injEq]at hrc<;>subst hrc
           ·exact h1
           ·exact h1
          have hin:∀b,(∀m∈[cW (es.drop p.length).length u],b ∉ m.blocks)↔b ∉ aR (es.drop p.length).length u:=fun b=>by
           simp only[List.mem_singleton,forall_eq,Bu]
          obtain⟨r1,_,_,_⟩:=tT (w':=w') (u':=u) hT (by rw[<-Bm];exact hnd) q2 hp rfl (fun b hb hbn=>haft.block b (hT.block b hb) ((hin b).2 hbn)) z8 hndu (fun b hb=>.inl hb)
          rw[CT hT q2]at r1;exact h.setV hd ho [] (by simp) (m:=mu o) hval haft.os haft.tape haft.output haft.size (fun b hb hn=>haft.block b hb ((hin b).2 fun hc=>hn (k3 b hc))) (CV hx1 hp (KH hlen hwid)) rfl (Nat.le_refl _) (fun _=>⟨rfl,rfl⟩) ⟨nd,hm,r1⟩ hnd (fun b hb=>.inl hb)
        ·simp[Rd.run]at hr3
       ·simp[Rd.run]at hr3
      ·simp[Rd.run]at hr3
     ·simp[Rd.run]at hr3
    ·simp[Rd.run]at hr2
   ·simp[Rd.run]at hr2
  ·simp[Rd.run]at hr2
 ·simp[Rd.run]at hr
theorem U3{Γ:FuncId->Option Ctr}(hΓ:cZ C.P Γ){f:FuncId}{o off n:Nat}{svs:List SV}{ts:List TypeId}{eff:Eff}(hr:(BT C.P Γ f o off n svs ts).run σ=some eff)(hob:eff.obl)(h:St C σ mu a w)
  {v0:Value} (hv0:aj (σ.env C.wF mu) (.sub o off n) v0)
  {vs:List Value} (hvl:vs.length=svs.length) (hvs:∀(i:Nat) (sv:SV),svs[i]?=some sv->∃v,vs[i]?=some v/\av C.P (σ.env C.wF mu) sv v) {dst:Option Nat} (hd:∀d,dst=some d->d<C.N) :
  (∃fn,C.P.funcs[f]?=some fn/\fn.body.isSome=true/\(fn.name == "runtime.NumGoroutine")=false) /\
  Calls C.P f (v0::vs).toArray w fun e w'=>∃v,e=.returned v/\ax C (σ.app dst eff) (a.put dst v) w':=by
 simp[BT,Rd.run]at hr
theorem U4{Γ:FuncId->Option Ctr}(hΓ:cZ C.P Γ){f:FuncId}{k0:IntKind}{n0:Int}{o ver i:Nat}{svs:List SV}{ts:List TypeId}{eff:Eff}(hr:(BU C.P Γ f k0 n0 o ver i svs ts).run σ=some eff)(hob:eff.obl)(h:St C σ mu a w)
  {v0:Value} (hv0:aj (σ.env C.wF mu) (.row o ver i) v0)
  {vs:List Value} (hvl:vs.length=svs.length) (hvs:∀(i:Nat) (sv:SV),svs[i]?=some sv->∃v,vs[i]?=some v/\av C.P (σ.env C.wF mu) sv v) {dst:Option Nat} (hd:∀d,dst=some d->d<C.N) :
  (∃fn,C.P.funcs[f]?=some fn/\fn.body.isSome=true/\(fn.name == "runtime.NumGoroutine")=false) /\
  Calls C.P f (.int k0 n0::v0::vs).toArray w fun e w'=>∃v,e=.returned v/\ax C (σ.app dst eff) (a.put dst v) w':=by
 simp[BU,Rd.run]at hr
theorem U5{Γ:FuncId->Option Ctr}(hΓ:cZ C.P Γ){f:FuncId}{svs:List SV}{eff:Eff}(hm:B5 (Γ f)=true)(hr:(B6 (Γ f) svs).run σ=some eff)(hob:eff.obl)(h:St C σ mu a w)
  {vs:List Value} (hvl:vs.length=svs.length) (hvs:∀(i:Nat) (sv:SV),svs[i]?=some sv->∃v,vs[i]?=some v/\av C.P (σ.env C.wF mu) sv v) {dst:Option Nat} (hd:∀d,dst=some d->d<C.N) :
  (∃fn,C.P.funcs[f]?=some fn/\fn.body.isSome=true/\(fn.name == "runtime.NumGoroutine")=false) /\
  Calls C.P f vs.toArray w fun e w'=>∃v,e=.returned v/\ax C (σ.app dst eff) (a.put dst v) w':=by
 unfold B5 at hm;split at hm
 ·rename_i ct hct
  have hf:=hΓ f _ hct
  refine⟨hf.fn,?_⟩
  unfold B6 at hr;rw[hct]at hr;simp only at hr;split at hr
  ·rename_i o g
   obtain⟨ob,ho,hr2⟩:=aX hr;clear hr;split at hr2
   ·rename_i ver e ei l
    split at hr2
    ·rename_i pre g' x l' ws hpost
     split at hr2
     ·rename_i hg
      have hg:=Nat.eq_of_beq_eq_true hg
      subst hg;simp only[Rd.run,Option.some.injEq]at hr2;subst hr2;obtain⟨Yh,hlen⟩:pre/\l'.length=l.length:=hob;obtain⟨v0,e0,r0⟩:=hvs 0 _ rfl;obtain⟨v1,e1,r1⟩:=hvs 1 _ rfl;have hv0:v0=(mu o).hd:=aN ho r0
      obtain⟨arr,hv1,harr⟩:=r1;have harr0:arr=#[]:=Array.eq_empty_of_size_eq_zero harr.1
      subst harr0;have hvs':vs=[v0,v1]:=by
       match vs,hvl,e0,e1 with
       | [a,b],_,e0,e1=>simp at e0 e1;subst e0;subst e1;rfl
      subst hvs';subst hv1;obtain⟨q1,q2,q3⟩:=h.ob o _ ho;have hnd:=(h.nd o _ ho).1
      refine Calls.mono ((hf.so rfl).1 l pre g' x l' ws hpost Yh w e ei v0 (mu o).ins (by rw[hv0];exact q1) q2 (fun i u r hi hr=>q3 i u r hi hr) (by rw[hv0];exact hnd)) ?_
      rintro r w' ⟨rfl,ins',k1,k2,k3,k4,k5,k6,k7,k8,k9⟩
      refine⟨_,rfl,?_⟩
      have hperm:(⟨(mu o).hd,ins'⟩:Img).blocks.Perm (mu o).blocks:=by
       unfold Img.blocks;exact List.Perm.append_left _ (k4.filterMap _)
      refine h.setV hd ho [] (by simp) (m:=⟨(mu o).hd,ins'⟩) (fun E=>⟨#[],rfl,rfl,fun i c hi=>by simp at hi⟩) k5 k6 k7 k8 (fun b hb hn=>k9 b hb fun hc=>hn (ca (by rw[<-hv0];exact hc))) hlen rfl (Nat.le_succ _) (fun hv=>by have:ver+1=ver:=hv;omega)
       ⟨by rw[<-hv0];exact k1,k2,fun i u r hi hr=>?_⟩ (hperm.nodup_iff.2 hnd) (fun b hb=>.inl (hperm.mem_iff.1 hb))
      have hmem:u∈(mu o).ins:=k4.mem_iff.1 (List.mem_of_getElem? hi)
      obtain⟨y,hy⟩:=List.getElem?_of_mem hmem;refine dn (k3 i u r hi hr) fun b hb=>k9 b ((h.ob o _ ho).block b (kr hy hb)) fun hc=>?_
      rw[hv0]at hc;exact(je hnd).2 _ hc (List.mem_filterMap.2 ⟨u,hmem,hb⟩)
     ·simp[Rd.run]at hr2
    ·simp[Rd.run]at hr2
   ·rename_i ver e e2 e3 l
    split at hr2
    ·rename_i pre g' l' ws hpost
     split at hr2
     ·rename_i hg
      have hg:=Nat.eq_of_beq_eq_true hg
      subst hg;simp only[Rd.run,Option.some.injEq]at hr2;subst hr2;obtain⟨Yh,hlen⟩:pre/\l'.length=l.length:=hob;obtain⟨v0,e0,r0⟩:=hvs 0 _ rfl;obtain⟨v1,e1,r1⟩:=hvs 1 _ rfl;have hv0:v0=(mu o).hd:=aN ho r0
      obtain⟨arr,hv1,harr⟩:=r1;have harr0:arr=#[]:=Array.eq_empty_of_size_eq_zero harr.1
      subst harr0;have hvs':vs=[v0,v1]:=by
       match vs,hvl,e0,e1 with
       | [a,b],_,e0,e1=>simp at e0 e1;subst e0;subst e1;rfl
      subst hvs';subst hv1;obtain⟨nd,q1,q2⟩:=h.ob o _ ho;have hnd:=(h.nd o _ ho).1
      have q1:mu o=cW 3 nd:=q1
      have hbk:(mu o).blocks=aR 3 nd:=by rw[q1];exact dK q2
      have hhd:(mu o).hd=aB nd:=by rw[q1];rfl
      have hHd:∀ks',aB (bm (aB nd) ks')=aB nd:=fun ks'=>rfl
      have hKs:∀ks',aU (bm (aB nd) ks')=ks':=fun ks'=>rfl
      refine Calls.mono (by rw[hv0,hhd];exact(hf.so rfl).2 l pre g' l' ws hpost Yh w e e2 e3 nd q2 (by rw[<-hbk];exact hnd)) ?_
      rintro r w' ⟨rfl,ks',k1,k4,k5,k6,k7,k8,k9⟩
      refine⟨_,rfl,?_⟩
      have hperm:(cW 3 (bm (aB nd) ks')).blocks.Perm (mu o).blocks:=by
       have hb2:(cW 3 (bm (aB nd) ks')).blocks=aR 3 (bm (aB nd) ks'):=dK k1
       rw[hb2,hbk,dq,dq,hHd,hKs];exact List.Perm.append_left _ (k4.flatMap_right _)
      refine h.setV hd ho [] (by simp) (m:=cW 3 (bm (aB nd) ks')) (fun E=>⟨#[],rfl,rfl,fun i c hi=>by simp at hi⟩) k5 k6 k7 k8 (fun b hb hn=>k9 b hb fun hc=>hn (ca (by rw[hhd];exact hc))) hlen (by rw[hhd];rfl) (Nat.le_succ _) (fun hv=>by have:ver+1=ver:=hv;omega)
       ⟨_,rfl,k1⟩ (hperm.nodup_iff.2 hnd) (fun b hb=>.inl (hperm.mem_iff.1 hb))
     ·simp[Rd.run]at hr2
    ·simp[Rd.run]at hr2
   ·simp[Rd.run]at hr2
  ·simp[Rd.run]at hr
 ·cases hm
theorem U6{Γ:FuncId->Option Ctr}(hΓ:cZ C.P Γ){f:FuncId}{svs:List SV}{eff:Eff}(hm:Ju (Γ f)=true)(hr:(B7 (Γ f) svs).run σ=some eff)(hob:eff.obl)(h:St C σ mu a w)
  {vs:List Value} (hvl:vs.length=svs.length) (hvs:∀(i:Nat) (sv:SV),svs[i]?=some sv->∃v,vs[i]?=some v/\av C.P (σ.env C.wF mu) sv v) {dst:Option Nat} (hd:∀d,dst=some d->d<C.N) :
  (∃fn,C.P.funcs[f]?=some fn/\fn.body.isSome=true/\(fn.name == "runtime.NumGoroutine")=false) /\
  Calls C.P f vs.toArray w fun e w'=>∃v,e=.returned v/\ax C (σ.app dst eff) (a.put dst v) w':=by
 simp[B7,Rd.run]at hr
theorem U7{Γ:FuncId->Option Ctr}(hΓ:cZ C.P Γ){d:Nat}{f:FuncId}{svs:List SV}{eff:Eff}(hm:Jv (Γ f)=true)(hr:(B8 d svs).run σ=some eff)(hob:eff.obl)(h:St C σ mu a w)
  {vs:List Value} (hvl:vs.length=svs.length) (hvs:∀(i:Nat) (sv:SV),svs[i]?=some sv->∃v,vs[i]?=some v/\av C.P (σ.env C.wF mu) sv v) {dst:Option Nat} (hd:∀d,dst=some d->d<C.N) :
  (∃fn,C.P.funcs[f]?=some fn/\fn.body.isSome=true/\(fn.name == "runtime.NumGoroutine")=false) /\
  Calls C.P f vs.toArray w fun e w'=>∃v,e=.returned v/\ax C (σ.app dst eff) (a.put dst v) w':=by
 simp[B8,Rd.run]at hr
theorem U8{Γ:FuncId->Option Ctr}(hΓ:cZ C.P Γ){d:Nat}{f:FuncId}{e:TypeId}{svs:List SV}{eff:Eff}(hm:Jw (Γ f)=some e)(hr:(B9 d e svs).run σ=some eff)(hob:eff.obl)(h:St C σ mu a w)
  {vs:List Value} (hvl:vs.length=svs.length) (hvs:∀(i:Nat) (sv:SV),svs[i]?=some sv->∃v,vs[i]?=some v/\av C.P (σ.env C.wF mu) sv v) {dst:Option Nat} (hd:∀d,dst=some d->d<C.N) :
  (∃fn,C.P.funcs[f]?=some fn/\fn.body.isSome=true/\(fn.name == "runtime.NumGoroutine")=false) /\
  Calls C.P f vs.toArray w fun r w'=>∃v,r=.returned v/\ax C (σ.app dst eff) (a.put dst v) w':=by
 simp[B9,Rd.run]at hr
end
end Go.Sx
end
section
namespace Go.Sx
open Go.RowKit
theorem U9{m:Img}{j:Nat}{d:FC}{u:Value}(h:lN m j d u)(hs:dL d=true)(E:Env):aj E (dg d) u:=by
 cases d with
 |int k n=>exact h
 |bool b=>exact h
 |str l=>exact h
 |_=>cases hs
theorem Va{m:Img}{j:Nat}{d:FC}{u:Value}(h:lN m j d u)(hs:dL d=false):m.ins[j]?=some (.agg #[u]):=by
 cases d with
 |int k n=>cases hs
 |bool b=>cases hs
 |str l=>cases hs
 |_=>exact h
section
variable {C:Cx} {σ:State} {mu:Nat->Img} {a:Act} {w:World}
theorem Vb{Γ:FuncId->Option Ctr}(hΓ:cZ C.P Γ){d:Nat}{f:FuncId}{o:Nat}{svs:List SV}{ts:List TypeId}{eff:Eff}(hr:(BV C.P Γ d f o svs ts).run σ=some eff)(hob:eff.obl)(h:St C σ mu a w)
  {v0:Value} (hv0:aj (σ.env C.wF mu) (.ptr o 0) v0)
  {vs:List Value} (hvl:vs.length=svs.length) (hvs:∀(i:Nat) (sv:SV),svs[i]?=some sv->∃v,vs[i]?=some v/\av C.P (σ.env C.wF mu) sv v) {dst:Option Nat} (hd:∀d,dst=some d->d<C.N) :
  (∃fn,C.P.funcs[f]?=some fn/\fn.body.isSome=true/\(fn.name == "runtime.NumGoroutine")=false) /\
  Calls C.P f (v0::vs).toArray w fun e w'=>∃v,e=.returned v/\ax C (σ.app dst eff) (a.put dst v) w':=by
 simp[BV,Rd.run]at hr
end
end Go.Sx
end
section
namespace Go.Sx
open Go.RowKit
section
variable {C:Cx} {σ:State} {mu:Nat->Img} {a:Act} {w:World}
theorem Vc{o:Nat}{F:SFV}{svs:List SV}{eff:Eff}(hr:(B4 o F svs).run σ=some eff)(hob:eff.obl)(h:St C σ mu a w){v0:Value}(hv0:av C.P (σ.env C.wF mu) (.fvs o F) v0)
  {vs:List Value} (hvl:vs.length=svs.length) (hvs:∀(i:Nat) (sv:SV),svs[i]?=some sv->∃v,vs[i]?=some v/\av C.P (σ.env C.wF mu) sv v) {dst:Option Nat} (hd:∀d,dst=some d->d<C.N) :
  ∃g caps,v0=.func (.func g) #[] caps/\(∃fn,C.P.funcs[g]?=some fn/\fn.body.isSome=true/\(fn.name == "runtime.NumGoroutine")=false) /\
  Calls C.P g (vs.toArray++caps) w fun e w'=>∃v,e=.returned v/\ax C (σ.app dst eff) (a.put dst v) w':=by
 simp[B4,Rd.run]at hr
theorem Vd{Γ:FuncId->Option Ctr}(hΓ:cZ C.P Γ){d:Nat}{f:FuncId}{svs:List SV}{eff:Eff}(hr:(BZ C.P Γ d f svs).run σ=some eff)(hob:eff.obl)(h:St C σ mu a w)
  {vs:List Value} (hvl:vs.length=svs.length) (hvs:∀(i:Nat) (sv:SV),svs[i]?=some sv->∃v,vs[i]?=some v/\av C.P (σ.env C.wF mu) sv v) {dst:Option Nat} (hd:∀d,dst=some d->d<C.N) :
  (∃fn,C.P.funcs[f]?=some fn/\fn.body.isSome=true/\(fn.name == "runtime.NumGoroutine")=false) /\
  Calls C.P f vs.toArray w fun e w'=>∃v,e=.returned v/\ax C (σ.app dst eff) (a.put dst v) w':=by
 simp[BZ,Rd.run]at hr
end
end Go.Sx
end
section
namespace Go.Sx
open Go.RowKit
section
variable {C:Cx} {σ:State} {mu mu':Nat->Img} {a:Act} {w w':World}
theorem Ve{Γ:FuncId->Option Ctr}(hΓ:cZ C.P Γ){d:Nat}{f:FuncId}{o ver i j:Nat}{ts:List TypeId}{eff:Eff}(hr:(Ca C.P Γ d f o ver i j ts).run σ=some eff)(hob:eff.obl)(h:St C σ mu a w)
  {v0 v1:Value} (hv0:av C.P (σ.env C.wF mu) (.c (.row o ver i)) v0) (hv1:av C.P (σ.env C.wF mu) (.c (.row o ver j)) v1) {dst:Option Nat} (hd:∀d,dst=some d->d<C.N) :
  (∃fn,C.P.funcs[f]?=some fn/\fn.body.isSome=true/\(fn.name == "runtime.NumGoroutine")=false) /\
  Calls C.P f [v0,v1].toArray w fun e w'=>∃v,e=.returned v/\ax C (σ.app dst eff) (a.put dst v) w':=by
 simp[Ca,Rd.run]at hr
end
end Go.Sx
end
section
namespace Go.Sx
open Go.RowKit
section
variable {C:Cx} {σ:State} {mu:Nat->Img} {a:Act} {w:World}
structure GoodT (C:Cx) (mu:Nat->Img) (tot:Tr) (E':Env):Prop where
 wF:E'.wF=C.wF
 at':∀k x ob,(k,x,ob)∈tot->E'.st k=.live (f7 ob).shp/\match x with
  |some o=>E'.mu k=mu o
  |none=>(E'.mu k).hd=.slice none 0 0
def gF(C:Cx)(σ:State)(mu:Nat->Img)(tot os:Tr):Prop:=∀k x ob,(k,x,ob)∈os->match x with
 |some o=>∃ob0,σ.H o=some (some ob0)/\ob0.isFz=false/\((pj ob0=true/\ob=ob0) \/
   ∃cs cs',ob0=.box cs/\ob=.box cs'/\cs'.length=cs.length/\∀E',GoodT C mu tot E'->∀arr,cQ (σ.env C.wF mu) cs arr->cQ E' cs' arr)
 |none=>∃t,ja C.P t=some ob
theorem GoodT.sub{tot tot':Tr}{E':Env}(h:GoodT C mu tot E')(hs:∀t∈tot',t∈tot):GoodT C mu tot' E':=⟨h.wF,fun k x ob hm=>h.at' k x ob (hs _ hm)⟩
theorem gF.up{tot tot' os:Tr}(h:gF C σ mu tot os)(hs:∀t∈tot,t∈tot'):gF C σ mu tot' os:=fun k x ob hm=>by
 have h1:=h k x ob hm
 cases x with
 |none=>exact h1
 |some o =>
  obtain⟨ob0,q1,q2,q3⟩:=h1;refine⟨ob0,q1,q2,q3.imp id ?_⟩
  rintro⟨cs,cs',z1,z2,z3,z4⟩
  exact⟨cs,cs',z1,z2,z3,fun E' hg=>z4 E' (hg.sub hs)⟩
theorem gF.app{tot os os':Tr}(h:gF C σ mu tot os)(h':gF C σ mu tot os'):gF C σ mu tot (os++os'):=fun k x ob hm=>by
 rcases List.mem_append.1 hm with hm|hm
 ·exact h k x ob hm
 ·exact h' k x ob hm
def iM(os:Tr):List (Nat×Option Ob):=os.map fun t=>(t.1,some (f7 t.2.2))
theorem KP(os os':Tr):iM (os++os')=iM os++iM os':=List.map_append
theorem KQ{P:Program}{t:TypeId}{ob:Ob}(h:ja P t=some ob):f7 ob=ob:=by
 unfold ja at h
 repeat' split at h
 all_goals first|cases h;done|(cases h;rfl)
theorem KT{α:Type}{k:Nat}{nl:Option Ob}(hnl:∀ob,nl=some ob->∃t,ja C.P t=some ob){c:SC}{K:MC->Tr->Rd α}{r:α}(hr:(un k nl c K).run σ=some r) :
  ∃x os,(K x os).run σ=some r/\iM os=tU k x/\(∀tot,gF C σ mu tot os)/\∀tot E' v,(∀t∈os,t∈tot)->GoodT C mu tot E'->aj (σ.env C.wF mu) c v->aj E' (A8 k x) v:=by
 have nilT:∀tot:Tr,gF C σ mu tot []:=fun tot k x ob hm=>by cases hm
 unfold un at hr;split at hr
 ·exact⟨_,_,hr,rfl,nilT,fun tot E' v _ _ hv=>hv⟩
 ·exact⟨_,_,hr,rfl,nilT,fun tot E' v _ _ hv=>hv⟩
 ·exact⟨_,_,hr,rfl,nilT,fun tot E' v _ _ hv=>hv⟩
 ·refine⟨_,_,hr,rfl,nilT,fun tot E' v _ hg hv=>(kE ?_).1⟩
  rw[hg.wF];exact hv.2
 ·refine⟨_,_,hr,rfl,nilT,fun tot E' v _ hg hv=>(kE ?_).1⟩
  rw[hg.wF];exact hv.1.2
 ·rename_i o
  obtain⟨ob,ho,hr⟩:=aX hr;split at hr
  ·rename_i d
   refine⟨_,_,hr,rfl,nilT,fun tot E' v _ hg hv=>(kE ?_).1⟩
   have h3:=hv.2
   have e:(σ.env C.wF mu).st o=.frz d:=ff ho
   rw[e]at h3;rw[hg.wF];exact h3.2
  ·rename_i hnf0
   have hnf:ob.isFz=false:=by cases ob<;>first|rfl|exact absurd rfl (hnf0 _)
   split at hr
   ·rename_i hok
    refine⟨_,_,hr,rfl,fun tot k' x ob' hm=>?_,fun tot E' v hs hg hv=>?_⟩
    ·simp only[List.mem_singleton,Prod.mk.injEq]at hm
     obtain⟨rfl,rfl,rfl⟩:=hm;exact⟨ob',ho,hnf,.inl ⟨hok,rfl⟩⟩
    ·have h1:=aN ho hv hnf
     obtain⟨h2,h3⟩:=hg.at' k (some o) ob (hs _ (by simp))
     refine⟨hv.1,?_⟩
     rw[h2]
     show v=(E'.mu k).hd
     rw[h3];exact h1
   ·cases hr
 ·split at hr
  ·rename_i ob
   refine⟨_,_,hr,?_,fun tot k' x ob' hm=>?_,fun tot E' v hs hg hv=>?_⟩
   ·obtain⟨t,ht⟩:=hnl ob rfl
    show [(k,some (f7 ob))]=[(k,some ob)]
    rw[KQ ht]
   ·simp only[List.mem_singleton,Prod.mk.injEq]at hm
    obtain⟨rfl,rfl,rfl⟩:=hm;exact hnl _ rfl
   ·have hv':v=.slice none 0 0:=hv
    obtain⟨h2,h3⟩:=hg.at' k none ob (hs _ (by simp))
    subst hv';refine⟨rfl,?_⟩
    rw[h2];exact h3.symm
  ·cases hr
 ·cases hr
theorem Vf{P:Program}{ts:List TypeId}{ob:Ob}(h:Jt P ts=some ob):∃t,ja P t=some ob:=by
 cases ts with
 |nil=>cases h
 |cons t ts=>exact⟨t,h⟩
theorem uZ:∀(k:Nat) (l:List MC),(fA k l).length=l.length
 |_,[]=>rfl
 |k,x::l=>by simp[fA,uZ (k+1) l]
theorem KU{α:Type}:∀(cs:List SC) (k:Nat) (ts:List TypeId) (K:List MC->Tr->Rd α) (r:α) (_:(uo C.P k cs ts K).run σ=some r),
  ∃l os,(K l os).run σ=some r/\iM os=kv k l/\l.length=cs.length/\(∀tot,gF C σ mu tot os)/\∀tot E',(∀t∈os,t∈tot)->GoodT C mu tot E' ->
   ∀(j:Nat) (c':SC),(fA k l)[j]?=some c'->∃c,cs[j]?=some c/\∀v,aj (σ.env C.wF mu) c v->aj E' c' v
 | [],k,ts,K,r,hr=>⟨[],[],hr,rfl,rfl,fun tot k x ob hm=>(by cases hm),fun _ _ _ _ j c' hj=>by simp[fA]at hj⟩
 |c::cs,k,ts,K,r,hr=>by
  simp only[uo]at hr;obtain⟨x,os,h1,h2,h3,h4⟩:=KT (C:=C) (mu:=mu) (fun ob h=>Vf h) hr
  obtain⟨l,os',q1,q2,q3,q4,q5⟩:=KU cs (k+1) ts.tail _ r h1;refine⟨x::l,os++os',q1,by rw[KP,h2,q2];rfl,by simp[q3],fun tot=>(h3 tot).app (q4 tot),fun tot E' hs hg j c' hj=>?_⟩
  cases j with
  |zero =>
   simp only[fA,List.getElem?_cons_zero,Option.some.injEq]at hj;subst hj;exact⟨c,rfl,fun v hv=>h4 tot E' v (fun t ht=>hs t (List.mem_append_left _ ht)) hg hv⟩
  |succ j =>
   simp only[fA,List.getElem?_cons_succ]at hj;obtain⟨c2,z1,z2⟩:=q5 tot E' (fun t ht=>hs t (List.mem_append_right _ ht)) hg j c' hj
   exact⟨c2,by simpa using z1,z2⟩
theorem Vg{α:Type}{k:Nat}{t:TypeId}{sv:SV}{K:MA->Tr->Rd α}{r:α}(hr:(BW C.P k t sv K).run σ=some r) :
  ∃x os,(K x os).run σ=some r/\iM os=Jm k x/\(∀tot,(∀t∈os,t∈tot)->gF C σ mu tot os)/\∀tot E' v,(∀t∈os,t∈tot)->GoodT C mu tot E'->av C.P (σ.env C.wF mu) sv v->av C.P E' (o9 k x) v:=by
 unfold BW at hr;split at hr
 ·split at hr
  ·rename_i o i
   split at hr
   ·obtain⟨ob,ho,hr⟩:=aX hr
    split at hr
    ·rename_i cs
     obtain⟨l,os,q1,q2,q3,q4,q5⟩:=KU (C:=C) (mu:=mu) cs (k+1) _ _ r hr;refine⟨_,_,q1,?_,fun tot hs k' x ob' hm=>?_,fun tot E' v hs hg hv=>?_⟩
     ·show(k,some (Ob.box (fA (k+1) l)))::iM os=_
      rw[q2];rfl
     ·rcases List.mem_cons.1 hm with hm|hm
      ·simp only[Prod.mk.injEq]at hm
       obtain⟨rfl,rfl,rfl⟩:=hm;refine⟨_,ho,rfl,.inr ⟨cs,_,rfl,rfl,by rw[uZ,q3],fun E' hg arr hrep=>⟨by rw[uZ,q3];exact hrep.1,fun j c' hj=>?_⟩⟩⟩
       obtain⟨c,z1,z2⟩:=q5 tot E' (fun t ht=>hs t (List.mem_cons_of_mem _ ht)) hg j c' hj
       obtain⟨u,z3,z4,z5⟩:=hrep.2 j c z1;exact⟨u,z3,z4,z2 u z5⟩
      ·exact q4 tot k' x ob' hm
     ·obtain⟨h2,h3⟩:=hg.at' k (some o) _ (hs _ List.mem_cons_self)
      obtain⟨h4,h5⟩:=aN ho hv;refine⟨hv.1,?_⟩
      rw[h2];refine⟨?_,?_⟩
      ·show 0<(fA (k+1) l).length
       rw[uZ,q3];exact h4
      ·rw[h3];exact h5
    ·cases hr
   ·cases hr
  ·obtain⟨x,os,h1,h2,h3,h4⟩:=KT (C:=C) (mu:=mu) (fun ob h=>⟨t,h⟩) hr
   exact⟨_,_,h1,h2,fun tot _=>h3 tot,h4⟩
 ·cases hr
theorem va:∀{mas:List MA} {i t:Nat} {sv:SV},lk (tV i mas) t=some sv->∃j x,mas[j]?=some x/\t=i+j/\sv=o9 (cR t) x
 | [],i,t,sv,h=>by cases h
 |x::l,i,t,sv,h=>by
  simp only[tV,bo]at h;split at h
  ·rename_i he
   subst he;cases h;exact⟨0,x,rfl,rfl,rfl⟩
  ·obtain⟨j,y,h1,h2,h3⟩:=va h
   exact⟨j+1,y,by simpa using h1,by omega,h3⟩
theorem KW{α:Type}:∀(svs:List SV) (i:Nat) (ts:List TypeId) (K:List MA->Tr->Rd α) (r:α) (_:(uq C.P i svs ts K).run σ=some r),
  ∃mas os,(K mas os).run σ=some r/\iM os=gU i mas/\mas.length=svs.length/\(∀tot,(∀t∈os,t∈tot)->gF C σ mu tot os)/\∀tot E',(∀t∈os,t∈tot)->GoodT C mu tot E' ->
   ∀(j:Nat) (x:MA),mas[j]?=some x->∃sv,svs[j]?=some sv/\∀v,av C.P (σ.env C.wF mu) sv v->av C.P E' (o9 (cR (i+j)) x) v
 | [],i,ts,K,r,hr=>⟨[],[],hr,rfl,rfl,fun tot _ k x ob hm=>(by cases hm),fun _ _ _ _ j x hj=>by simp at hj⟩
 |sv::svs,i,ts,K,r,hr=>by
  simp only[uq]at hr;obtain⟨x,os,h1,h2,h3,h4⟩:=Vg (C:=C) (mu:=mu) hr;obtain⟨l,os',q1,q2,q3,q4,q5⟩:=KW svs (i+1) ts.tail _ r h1;refine⟨x::l,os++os',q1,by rw[KP,h2,q2];rfl,by simp[q3],
   fun tot hs=>(h3 tot fun t ht=>hs t (List.mem_append_left _ ht)).app (q4 tot fun t ht=>hs t (List.mem_append_right _ ht)),fun tot E' hs hg j y hj=>?_⟩
  cases j with
  |zero =>
   simp only[List.getElem?_cons_zero,Option.some.injEq]at hj;subst hj;exact⟨sv,rfl,fun v hv=>h4 tot E' v (fun t ht=>hs t (List.mem_append_left _ ht)) hg hv⟩
  |succ j =>
   simp only[List.getElem?_cons_succ]at hj;obtain⟨sv2,z1,z2⟩:=q5 tot E' (fun t ht=>hs t (List.mem_append_right _ ht)) hg j y hj
   exact⟨sv2,by simpa using z1,by rw[show i+(j+1)=i+1+j by omega];exact z2⟩
theorem Vh{E E':Env}(hE:E'.wF=E.wF){w:World}{m:Img}{ob:Ob}(h:aS E w m ob)(hok:pj ob=true):aS E' w m (f7 ob):=by
 cases ob with
 |ints e k l=>exact h
 |bools e l=>exact h
 |rows v e ei k l=>exact h
 |tr v es d=>exact h
 |lst v e d =>
  obtain⟨q1,vs,q2,q3⟩:=h;exact⟨q1,vs,q2,fun i u hi=>let⟨r1,fc,r2,r3⟩:=q3 i u hi;⟨r1,fc,r2,by rw[hE];exact r3⟩⟩
 |yd v Y pre g=>exact⟨h.1,by rw[hE];exact h.2.1,h.2.2⟩
 |_=>cases hok
def g8:Ob->Img
 |.tr _ es _=>cW es.length (bm (.slice none 0 0) [])
 |_=>⟨.slice none 0 0,[]⟩
theorem KX(ob:Ob):(g8 ob).hd=.slice none 0 0:=by cases ob<;>rfl
theorem vd{P:Program}{t:TypeId}{ob:Ob}(h:ja P t=some ob)(E:Env)(w:World):aS E w (g8 ob) ob/\(g8 ob).blocks=[]/\ob.isFz=false:=by
 unfold ja at h;split at h
 ·cases h
 ·split at h
  ·cases h;exact⟨⟨rfl,World.ownsRow_nil _ _ _ _⟩,rfl,rfl⟩
  ·cases h;exact⟨⟨rfl,World.ownsRow_nil _ _ _ _⟩,rfl,rfl⟩
  ·split at h
   ·cases h;exact⟨⟨rfl,[],World.ownsRow_nil _ _ _ _,fun i u hi=>by simp at hi⟩,rfl,rfl⟩
   ·split at h
    ·rename_i k l _
     split at h
     ·rename_i a b c _ _
      cases h;have hT:bh w [a,b,c] (bm (.slice none 0 0) []) (.r3 k []):=Cu rfl rfl fun h0=>by cases h0
      exact⟨⟨_,rfl,hT⟩,(dK hT).trans (Cw _),rfl⟩
     ·cases h
    ·cases h
  ·cases h
theorem n7:∀{os:Tr} {k:Nat} {x:Option Nat×Ob},d8 os k=some x->(k,x)∈os
 | [],k,x,h=>by cases h
 |(k',y)::os,k,x,h=>by
  simp only[d8]at h;split at h
  ·rename_i hb
   have:=Nat.eq_of_beq_eq_true hb
   subst this;cases h;exact List.mem_cons_self
  ·exact List.mem_cons_of_mem _ (n7 h)
theorem kK:∀{os:Tr} {k:Nat} {x:Option Nat×Ob},(os.map (·.1)).Nodup->(k,x)∈os->d8 os k=some x
 |(k',y)::os,k,x,hn,h=>by
  simp only[List.map_cons,List.nodup_cons]at hn;simp only[d8];rcases List.mem_cons.1 h with h|h
  ·cases h
   rw[show Nat.beq k' k'=true from Nat.beq_refl k']
  ·have:k'≠k:=fun e=>hn.1 (e ▸ List.mem_map.2 ⟨(k,x),h,rfl⟩)
   rw[show Nat.beq k' k=false from by
    cases hb:Nat.beq k' k with
    |false=>rfl
    |true=>exact absurd (Nat.eq_of_beq_eq_true hb) this]
   exact kK hn.2 h
theorem Vi{os:Tr}{k:Nat}:lk (iM os) k=(d8 os k).map fun x=>some (f7 x.2):=by
 induction os with
 |nil=>rfl
 |cons t os ih =>
  obtain⟨k',x,ob⟩:=t
  show lk ((k',some (f7 ob))::iM os) k=_
  rw[bo,ih];simp only[d8];by_cases h:k'=k
  ·subst h;simp
  ·have:Nat.beq k' k=false:=by
    cases hb:Nat.beq k' k with
    |false=>rfl
    |true=>exact absurd (Nat.eq_of_beq_eq_true hb) h
   simp[h,this]
theorem pM:∀{os:Tr} {o:Nat},o∈gZ os↔∃k ob,(k,some o,ob)∈os
 | [],o=>by simp[gZ]
 |(k,some o',ob)::os,o=>by
  simp only[gZ,List.mem_cons,pM,Prod.mk.injEq,Option.some.injEq]
  constructor
  ·rintro(rfl|⟨k',ob',h⟩)
   ·exact⟨k,ob,.inl ⟨rfl,rfl,rfl⟩⟩
   ·exact⟨k',ob',.inr h⟩
  ·rintro⟨k',ob',⟨rfl,rfl,rfl⟩|h⟩
   ·exact .inl rfl
   ·exact .inr ⟨k',ob',h⟩
 |(k,none,ob)::os,o=>by
  simp only[gZ,pM,List.mem_cons,Prod.mk.injEq]
  constructor
  ·rintro⟨k',ob',h⟩;exact⟨k',ob',.inr h⟩
  ·rintro⟨k',ob',⟨_,h,_⟩|h⟩
   ·cases h
   ·exact⟨k',ob',h⟩
theorem ve{o k k':Nat}{ob ob':Ob}:∀{os:Tr},(gZ os).Nodup->(k,some o,ob)∈os->(k',some o,ob')∈os->k=k'
 | [],_,h,_=>by cases h
 |(k0,none,ob0)::os,hn,h,h'=>by
  have h1:(k,some o,ob)∈os:=by simpa using h
  have h2:(k',some o,ob')∈os:=by simpa using h'
  exact ve (os:=os) hn h1 h2
 |(k0,some o0,ob0)::os,hn,h,h'=>by
  obtain⟨hn1,hn2⟩:=List.nodup_cons.1 (show(o0::gZ os).Nodup from hn)
  rcases List.mem_cons.1 h with h|h
  ·injection h with e1 e2
   injection e2 with e2 e3
   injection e2 with e2
   rcases List.mem_cons.1 h' with h' |h'
   ·injection h' with f1 _
    rw[e1,f1]
   ·exact absurd (pM.2 ⟨_,_,e2 ▸ h'⟩) hn1
  ·rcases List.mem_cons.1 h' with h' |h'
   ·injection h' with f1 f2
    injection f2 with f2 f3
    injection f2 with f2
    exact absurd (pM.2 ⟨_,_,f2 ▸ h⟩) hn1
   ·exact ve (os:=os) hn2 h h'
theorem KY{f:Nat->Nat}{E E':Env}(hw:bC E.wF E'.wF)(hst:∀k,E.st k=.absent\/∃s s',E.st k=.live s/\E'.st (f k)=.live s'/\s'.len=s.len/\(E'.mu (f k)).hd=(E.mu k).hd)
  {c c':SC} (h:nK f c=some c') {v:Value} (hv:aj E c v):aj E' c' v:=by
 unfold nK at h;split at h
 all_goals first|(cases h;exact hv)|skip
 ·cases h;exact⟨hv.1,hv.2.mono hw⟩
 ·rename_i k
  cases h;obtain⟨h1,h2⟩:=hv;rcases hst k with h3|⟨s,s',h3,h4,h5,h6⟩
  ·rw[h3]at h2;exact h2.elim
  ·rw[h3]at h2
   refine⟨h1,?_⟩
   rw[h4]
   show v=_
   rw[h6];exact h2
 ·rename_i k i
  cases h;obtain⟨h1,h2⟩:=hv;rcases hst k with h3|⟨s,s',h3,h4,h5,h6⟩
  ·rw[h3]at h2;exact h2.elim
  ·rw[h3]at h2
   obtain⟨z1,z2⟩:=h2;refine⟨h1,?_⟩
   rw[h4];refine⟨by rw[h5];exact z1,?_⟩
   rw[h6];exact z2
 ·cases h
theorem KZ{f:Nat->Nat}{E E':Env}(hw:bC E.wF E'.wF)(hst:∀k,E.st k=.absent\/∃s s',E.st k=.live s/\E'.st (f k)=.live s'/\s'.len=s.len/\(E'.mu (f k)).hd=(E.mu k).hd)
  {cs cs':List SC} (h:em (nK f) cs=some cs') {arr:Array Value} (hv:cQ E cs arr):cQ E' cs' arr:=by
 obtain⟨h1,h2⟩:=jb h;refine⟨by rw[h1];exact hv.1,fun i c hi=>?_⟩
 obtain⟨x,h3,h4⟩:=h2 i c hi;obtain⟨u,h5,h6,h7⟩:=hv.2 i x h3;exact⟨u,h5,h6,KY hw hst h4 h7⟩
theorem Vj{P:Program}{f:Nat->Nat}{E E':Env}(hw:bC E.wF E'.wF)(hst:∀k,E.st k=.absent\/∃s s',E.st k=.live s/\E'.st (f k)=.live s'/\s'.len=s.len/\(E'.mu (f k)).hd=(E.mu k).hd)
  {c c':SV} (h:ur f c=some c') {v:Value} (hv:av P E c v):av P E' c' v:=by
 unfold ur at h;split at h
 ·split at h
  ·rename_i h1;cases h;exact KY hw hst h1 hv
  ·cases h
 ·split at h
  ·rename_i h1;cases h;obtain⟨arr,h2,h3⟩:=hv;exact⟨arr,h2,KZ hw hst h1 h3⟩
  ·cases h
 ·split at h
  ·cases h;obtain⟨arr,h2,h3,h4⟩:=hv;exact⟨arr,h2,h3,fun i c hi=>by simp at hi⟩
  ·cases h
 ·cases h
theorem K0{f:Nat->Nat}{E E':Env}(hw:bC E.wF E'.wF)(hst:∀k,E.st k=.absent\/∃s s',E.st k=.live s/\E'.st (f k)=.live s'/\s'.len=s.len/\(E'.mu (f k)).hd=(E.mu k).hd)
  {ob ob':Ob} (h:iF f ob=some ob') {w:World} {m:Img} (hv:aS E w m ob):aS E' w m ob':=by
 unfold iF at h;split at h
 ·split at h
  ·rename_i h1
   cases h;obtain⟨b,arr,t,z1,z2,z3,z4⟩:=hv;exact⟨b,arr,t,z1,z2,z3,KZ hw hst h1 z4⟩
  ·cases h
 ·split at h
  ·rename_i hok
   cases h;cases ob with
   |lst v e d =>
    obtain⟨q1,vs,q2,q3⟩:=hv;exact⟨q1,vs,q2,fun i u hi=>let⟨r1,fc,r2,r3⟩:=q3 i u hi;⟨r1,fc,r2,r3.mono hw⟩⟩
   |yd v Y pre g=>exact⟨hv.1,hv.2.1.trans hw,hv.2.2⟩
   |ints e k l=>exact hv
   |bools e l=>exact hv
   |rows v e ei k l=>exact hv
   |tr v es d=>exact hv
   |_=>cases hok
  ·cases h
theorem Dm{f:Nat->Nat}{ob ob':Ob}(h:iF f ob=some ob'):ob'.shp=ob.shp/\ob'.isFz=false/\ob.isFz=false:=by
 unfold iF at h;split at h
 ·split at h
  ·rename_i h1
   cases h;exact⟨by show(⟨_,_,_⟩:Shp)=⟨_,_,_⟩;rw[(jb h1).1],rfl,rfl⟩
  ·cases h
 ·split at h
  ·rename_i hok
   cases h;refine⟨rfl,?_,?_⟩<;>cases ob<;>first|rfl|cases hok
  ·cases h
theorem Vk{E:Env}{w:World}{m:Img}{ob0 ob:Ob}(h:aS E w m ob):aS E w m (fB ob0 ob):=by
 unfold fB;split
 ·exact h
 ·exact h
theorem Vl{ob0 ob:Ob}:(fB ob0 ob).shp.len=ob.shp.len:=by
 unfold fB;split<;>rfl
theorem K3{ob0 ob:Ob}(h:ob.isFz=false):(fB ob0 ob).isFz=false:=by
 unfold fB;split
 ·rfl
 ·exact h
theorem K4{d:Nat}{os:Tr}:∀{O kept new:List (Nat×Option Ob)},pm d os O=some (kept,new) ->
  (∀k x,(k,x)∈O->∃ob ob',x=some ob/\iF (ep d os) ob=some ob'/\((∃o ob0,d8 os k=some (some o,ob0)/\pk ob0 ob=true/\(o,some (fB ob0 ob'))∈kept)\/(d8 os k=none/\(d+1000*k,some ob')∈new))) /\
  (∀o y,(o,y)∈kept->∃k ob ob' ob0,(k,some ob)∈O/\d8 os k=some (some o,ob0)/\iF (ep d os) ob=some ob'/\pk ob0 ob=true/\y=some (fB ob0 ob')) /\
  (∀o y,(o,y)∈new->∃k ob ob',(k,some ob)∈O/\d8 os k=none/\o=d+1000*k/\iF (ep d os) ob=some ob'/\y=some ob')
 | [],kept,new,h=>by
  cases h;exact⟨fun k x hm=>(by cases hm),fun o y hm=>(by cases hm),fun o y hm=>(by cases hm)⟩
 |(k,none)::O,kept,new,h=>by cases h
 |(k,some ob)::O,kept,new,h=>by
  simp only[pm]at h;split at h
  ·cases h
  ·rename_i ob' hr
   split at h
   ·cases h
   ·rename_i kept' new' hu
    obtain⟨i1,i2,i3⟩:=K4 hu;split at h
    ·rename_i o ob0 hlk
     split at h
     ·rename_i hok
      cases h;refine⟨fun k' x hm=>?_,fun o' y hm=>?_,fun o' y hm=>?_⟩
      ·rcases List.mem_cons.1 hm with hm|hm
       ·cases hm
        exact⟨_,_,rfl,hr,.inl ⟨o,ob0,hlk,hok,List.mem_cons_self⟩⟩
       ·obtain⟨a1,a2,b1,b2,b3⟩:=i1 k' x hm
        refine⟨a1,a2,b1,b2,b3.imp ?_ id⟩
        rintro⟨o2,ob2,c1,c2,c3⟩
        exact⟨o2,ob2,c1,c2,List.mem_cons_of_mem _ c3⟩
      ·rcases List.mem_cons.1 hm with hm|hm
       ·cases hm
        exact⟨k,ob,ob',ob0,List.mem_cons_self,hlk,hr,hok,rfl⟩
       ·obtain⟨k2,a1,a2,a3,b1,b2⟩:=i2 o' y hm
        exact⟨k2,a1,a2,a3,List.mem_cons_of_mem _ b1,b2⟩
      ·obtain⟨k2,a1,a2,b1,b2⟩:=i3 o' y hm
       exact⟨k2,a1,a2,List.mem_cons_of_mem _ b1,b2⟩
     ·cases h
    ·cases h
    ·rename_i hlk
     cases h;refine⟨fun k' x hm=>?_,fun o' y hm=>?_,fun o' y hm=>?_⟩
     ·rcases List.mem_cons.1 hm with hm|hm
      ·cases hm
       exact⟨_,_,rfl,hr,.inr ⟨hlk,List.mem_cons_self⟩⟩
      ·obtain⟨a1,a2,b1,b2,b3⟩:=i1 k' x hm
       refine⟨a1,a2,b1,b2,b3.imp id ?_⟩
       rintro⟨c1,c2⟩
       exact⟨c1,List.mem_cons_of_mem _ c2⟩
     ·obtain⟨k2,a1,a2,a3,b1,b2⟩:=i2 o' y hm
      exact⟨k2,a1,a2,a3,List.mem_cons_of_mem _ b1,b2⟩
     ·rcases List.mem_cons.1 hm with hm|hm
      ·cases hm
       exact⟨k,ob,ob',List.mem_cons_self,hlk,rfl,hr,rfl⟩
      ·obtain⟨k2,a1,a2,b1,b2⟩:=i3 o' y hm
       exact⟨k2,a1,a2,List.mem_cons_of_mem _ b1,b2⟩
theorem pN{hp:List (Nat×Option Ob)}:∀{os:Tr} {o:Nat} {y:Option Ob},(o,y)∈cX hp os↔y=none/\∃k ob,(k,some o,ob)∈os/\lk hp k=none
 | [],o,y=>by simp[cX]
 |(k0,none,ob0)::os,o,y=>by
  rw[show cX hp ((k0,none,ob0)::os)=cX hp os from rfl,pN]
  simp
 |(k0,some o0,ob0)::os,o,y=>by
  simp only[cX];cases hl:lk hp k0 with
  |none =>
   simp only[List.mem_cons,pN,Prod.mk.injEq]
   constructor
   ·rintro(⟨rfl,rfl⟩|⟨rfl,k,ob,h1,h2⟩)
    ·exact⟨rfl,k0,ob0,.inl ⟨rfl,rfl,rfl⟩,hl⟩
    ·exact⟨rfl,k,ob,.inr h1,h2⟩
   ·rintro⟨rfl,k,ob,⟨rfl,h1,rfl⟩|h1,h2⟩
    ·injection h1 with h1;exact .inl ⟨h1,rfl⟩
    ·exact .inr ⟨rfl,k,ob,h1,h2⟩
  |some z =>
   simp only[pN,List.mem_cons,Prod.mk.injEq]
   constructor
   ·rintro⟨rfl,k,ob,h1,h2⟩;exact⟨rfl,k,ob,.inr h1,h2⟩
   ·rintro⟨rfl,k,ob,⟨rfl,_,_⟩|h1,h2⟩
    ·rw[hl]at h2;cases h2
    ·exact⟨rfl,k,ob,h1,h2⟩
def pO:Tr->Nat->Option Nat
 | [],_=>none
 |(k,some o',_)::l,o=>match Nat.beq o' o with
  |true=>some k
  |false=>pO l o
 |(_,none,_)::l,o=>pO l o
theorem Dn{o k:Nat}{ob:Ob}:∀{os:Tr},(gZ os).Nodup->(k,some o,ob)∈os->pO os o=some k
 | [],_,h=>by cases h
 |(k0,none,ob0)::os,hn,h=>Dn (os:=os) hn (by simpa using h)
 |(k0,some o0,ob0)::os,hn,h=>by
  obtain⟨hn1,hn2⟩:=List.nodup_cons.1 (show(o0::gZ os).Nodup from hn)
  simp only[pO];rcases List.mem_cons.1 h with h|h
  ·injection h with e1 e2
   injection e2 with e2 e3
   injection e2 with e2
   rw[e2,show Nat.beq o0 o0=true from Nat.beq_refl o0,e1]
  ·have:o0≠o:=fun e=>hn1 (e ▸ pM.2 ⟨_,_,h⟩)
   rw[show Nat.beq o0 o=false from by
    cases hb:Nat.beq o0 o with
    |false=>rfl
    |true=>exact absurd (Nat.eq_of_beq_eq_true hb) this]
   exact Dn hn2 h
theorem vf{α:Type}:∀{l:List (Nat×α)} {k:Nat} {x:α},(l.map (·.1)).Nodup->(k,x)∈l->lk l k=some x
 | [],k,x,_,h=>by cases h
 |(k',y)::l,k,x,hn,h=>by
  simp only[List.map_cons,List.nodup_cons]at hn;rw[bo];rcases List.mem_cons.1 h with h|h
  ·cases h;rw[if_pos rfl]
  ·have hne:¬ k'=k:=by
    intro e
    subst e;exact hn.1 (List.mem_map.2 ⟨_,h,rfl⟩)
   rw[if_neg hne];exact vf hn.2 h
theorem kL{α:Type}:∀{l:List (Nat×α)} {k:Nat} {x:α},lk l k=some x->(k,x)∈l
 | [],k,x,h=>by cases h
 |(k',y)::l,k,x,h=>by
  rw[bo]at h;split at h
  ·rename_i e;subst e;cases h;exact List.mem_cons_self
  ·exact List.mem_cons_of_mem _ (kL h)
theorem kM{α:Type}:∀{l:List (Nat×α)} {o:Nat},o∈l.map (·.1)->∃x,lk l o=some x
 | [],o,h=>by simp at h
 |(k,v)::l,o,h=>by
  rw[bo];by_cases hk:k=o
  ·exact⟨v,by rw[if_pos hk]⟩
  ·rw[if_neg hk]
   refine kM ?_
   simp only[List.map_cons,List.mem_cons]at h;rcases h with h|h
   ·exact absurd h.symm hk
   ·exact h
theorem K5(ob:Ob):(f7 ob).isFz=ob.isFz:=by cases ob<;>rfl
theorem Vm{d:Nat}{f:FuncId}{mas:List MA}{os:Tr}{sv sv':SV}{O kept new:List (Nat×Option Ob)}(hrun:Db C.P f mas sv O)(h:St C σ mu a w)
  (hH:iM os=gU 0 mas) (hok:gF C σ mu os os) (hk:(os.map (·.1)).Nodup) (ho:(gZ os).Nodup) (hO:(O.map (·.1)).Nodup)
  (hv:ur (ep d os) sv=some sv') (hu:pm d os O=some (kept,new)) (Yj:∀o x,lk new o=some x->σ.H o=none)
  {vs:List Value} (hvl:vs.length=mas.length)
  (hargs:∀E',GoodT C mu os E'->∀(j:Nat) (x:MA),mas[j]?=some x->∃v,vs[j]?=some v/\av C.P E' (o9 (cR j) x) v)
  {pp:Option Prop} {dst:Option Nat} (hd:∀d,dst=some d->d<C.N) :
  Calls C.P f vs.toArray w fun e w'=>∃v,e=.returned v/\ax C (σ.app dst ⟨sv',new++(kept++cX O os),pp⟩) (a.put dst v) w':=by
 obtain⟨muc,hmuc⟩:∃muc:Nat->Img,muc=fun k=>match d8 os k with
  |some (some o,_)=>mu o
  |some (none,ob)=>g8 ob
  |none=>⟨undef,[]⟩:=⟨_,rfl⟩
 obtain⟨M,hM⟩:∃M:Nat->Prop,M=fun b=>∃k o ob,(k,some o,ob)∈os/\b∈(mu o).blocks:=⟨_,rfl⟩
 let C1:Cx:=⟨C.P,mas.length,w,C.wF,M,fun k=>match(d8 os k).isSome&&(lk O k).isSome with|true=>some (muc k)|false=>none⟩
 have hHk:∀k,(eh mas).H k=(d8 os k).map fun x=>some (f7 x.2):=fun k=>by
  show lk (gU 0 mas) k=_
  rw[<-hH,Vi]
 have hlive:∀k o ob,(k,some o,ob)∈os->∃ob0,σ.H o=some (some ob0)/\ob0.isFz=false/\ob.isFz=false/\muc k=mu o:=fun k o ob hm=>by
  obtain⟨ob0,q1,q2,q3⟩:=hok k (some o) ob hm;refine⟨ob0,q1,q2,?_,by rw[hmuc];simp only[kK hk hm]⟩
  rcases q3 with⟨_,rfl⟩|⟨cs,cs',_,rfl,_⟩
  ·exact q2
  ·rfl
 have hnil:∀k ob,(k,none,ob)∈os->(∃t,ja C.P t=some ob)/\muc k=g8 ob:=fun k ob hm =>
  ⟨hok k none ob hm,by rw[hmuc];simp only[kK hk hm]⟩
 have hkey:∀k ob,(eh mas).H k=some (some ob)->∃x ob1,(k,x,ob1)∈os/\ob=f7 ob1:=fun k ob hq=>by
  rw[hHk]at hq;cases hl:d8 os k with
  |none=>rw[hl]at hq;cases hq
  |some y =>
   rw[hl]at hq;simp only[Option.map_some,Option.some.injEq]at hq;exact⟨y.1,y.2,n7 hl,hq.symm⟩
 have hnf:∀k x ob,(k,x,ob)∈os->ob.isFz=false:=fun k x ob hm=>by
  cases x with
  |some o=>obtain⟨_,_,_,q,_⟩:=hlive k o ob hm;exact q
  |none=>obtain⟨t,ht⟩:=(hnil k ob hm).1;exact(vd ht (E0 w) w).2.2
 have hgood:GoodT C mu os ((eh mas).env C.wF muc):=⟨rfl,fun k x ob hm=>by
  have hl:=kK hk hm
  refine⟨?_,?_⟩
  ·show(eh mas).ost k=_
   have:(eh mas).H k=some (some (f7 ob)):=by rw[hHk,hl];rfl
   exact bW this (by rw[K5];exact hnf k x ob hm)
  ·cases x with
   |some o=>obtain⟨_,_,_,_,q⟩:=hlive k o ob hm;exact q
   |none=>show(muc k).hd=_;rw[(hnil k ob hm).2];exact KX ob⟩
 have hbl:∀k x ob,(k,x,ob)∈os->∀b∈(muc k).blocks,∃o ob0,x=some o/\σ.H o=some (some ob0)/\b∈(mu o).blocks:=fun k x ob hm b hb=>by
  cases x with
  |some o=>obtain⟨ob0,q1,_,_,q⟩:=hlive k o ob hm;exact⟨o,ob0,rfl,q1,by rw[<-q];exact hb⟩
  |none =>
   obtain⟨⟨t,ht⟩,q⟩:=hnil k ob hm;rw[q,(vd ht (E0 w) w).2.1]at hb;cases hb
 have hst:St C1 (eh mas) muc ⟨vs.toArray,[]⟩ w:=by
  refine⟨.refl _,rfl,rfl,Nat.le_refl _,fun _ _ _=>rfl,fun p u hp=>⟨fun k ob hk2 hb=>?_,(h.cells p u hp).2⟩,by simp[C1,hvl],.nil,fun t sv ht=>?_,fun k ob hk2=>?_,fun k ob hk2=>⟨?_,fun b hb=>?_⟩,fun k k' ob ob' hne hk2 hk2' b hb hb'=>?_,fun k m hm=>?_⟩
  ·obtain⟨x,ob1,q1,_⟩:=hkey k ob hk2
   obtain⟨o,ob0,_,q3,q4⟩:=hbl k x ob1 q1 _ hb;exact(h.cells p u hp).1 o ob0 q3 q4
  ·obtain⟨j,x,q1,q2,rfl⟩:=va ht
   rw[Nat.zero_add]at q2;subst q2;obtain⟨v,q3,q4⟩:=hargs _ hgood t x q1;have hlt:=(List.getElem?_eq_some_iff.1 q3).1
   have:(vs.toArray).getD t undef=v:=by
    rw[Array.getD_eq_getD_getElem?];simp[q3]
   rw[this];exact q4
  ·obtain⟨x,ob1,q1,rfl⟩:=hkey k ob hk2
   cases x with
   |some o =>
    obtain⟨ob0,z1,z2,z3⟩:=hok k (some o) ob1 q1;obtain⟨_,_,_,_,z4⟩:=hlive k o ob1 q1;rw[z4];rcases z3 with⟨z5,rfl⟩|⟨cs,cs',rfl,rfl,_,z5⟩
    ·exact Vh (E:=σ.env C.wF mu) (E':=(eh mas).env C1.wF muc) rfl (h.ob o _ z1) z5
    ·obtain⟨b,arr,t,y1,y2,y3,y4⟩:=h.ob o _ z1
     exact⟨b,arr,t,y1,y2,y3,z5 _ hgood arr y4⟩
   |none =>
    obtain⟨⟨t,ht⟩,z4⟩:=hnil k ob1 q1;rw[z4,KQ ht];exact(vd ht _ w).1
  ·obtain⟨x,ob1,q1,rfl⟩:=hkey k ob hk2
   cases x with
   |some o=>obtain⟨ob0,z1,_,_,z4⟩:=hlive k o ob1 q1;rw[z4];exact(h.nd o ob0 z1).1
   |none=>obtain⟨⟨t,ht⟩,z4⟩:=hnil k ob1 q1;rw[z4,(vd ht (E0 w) w).2.1];exact .nil
  ·obtain⟨x,ob1,q1,rfl⟩:=hkey k ob hk2
   obtain⟨o,ob0,rfl,_,q4⟩:=hbl k x ob1 q1 b hb;exact .inl (by show M b;rw[hM];exact⟨k,o,ob1,q1,q4⟩)
  ·obtain⟨x,ob1,q1,rfl⟩:=hkey k ob hk2
   obtain⟨x',ob1',q1',rfl⟩:=hkey k' ob' hk2';obtain⟨o,ob0,rfl,q3,q4⟩:=hbl k x ob1 q1 b hb;obtain⟨o',ob0',rfl,q3',q4'⟩:=hbl k' x' ob1' q1' b hb';refine h.sep o o' ob0 ob0' (fun e=>hne ?_) q3 q3' b q4 q4'
   subst e;exact ve ho q1 q1'
  ·have hm:(match(d8 os k).isSome&&(lk O k).isSome with|true=>some (muc k)|false=>none)=some m:=hm
   split at hm
   ·rename_i hb
    cases hm;simp only[Bool.and_eq_true]at hb;obtain⟨y,hy⟩:=Option.isSome_iff_exists.1 hb.1;have hl:(eh mas).H k=some (some (f7 y.2)):=by rw[hHk,hy];rfl
    rw[bW hl (by rw[K5];exact hnf k y.1 y.2 (n7 hy))]
    exact⟨rfl,fun _=>rfl⟩
   ·cases hm
 have hpin:∀o m,C1.pin o=some m->o∈kw mas O:=fun k m hm=>by
  have hm:(match(d8 os k).isSome&&(lk O k).isSome with|true=>some (muc k)|false=>none)=some m:=hm
  split at hm
  ·rename_i hb
   simp only[Bool.and_eq_true]at hb;unfold kw;rw[List.mem_filter];refine⟨?_,hb.2⟩
   obtain⟨y,hy⟩:=Option.isSome_iff_exists.1 hb.1;rw[<-hH];exact List.mem_map.2 ⟨(k,some (f7 y.2)),List.mem_map.2 ⟨(k,y),n7 hy,rfl⟩,rfl⟩
  ·cases hm
 refine(hrun C1 muc vs w rfl rfl rfl hvl hpin hst).mono ?_
 rintro e w' ⟨v,rfl,wG,muo,hg,hst2⟩
 refine⟨v,rfl,?_⟩
 obtain⟨u1,u2,u3⟩:=K4 hu;obtain⟨mu',hmu'⟩:∃mu':Nat->Img,mu'=fun o=>match lk new o with
  |some _=>muo ((o-d) / 1000)
  |none=>match lk kept o with
   |some _=>(match pO os o with|some k=>muo k|none=>mu o)
   |none=>mu o:=⟨_,rfl⟩
 have hnew:∀o y,lk new o=some y->∃k ob ob',lk O k=some (some ob)/\d8 os k=none/\o=d+1000*k/\iF (ep d os) ob=some ob'/\y=some ob'/\mu' o=muo k:=fun o y hy=>by
  obtain⟨k,ob,ob',q1,q2,q3,q4,q5⟩:=u3 o y (kL hy);refine⟨k,ob,ob',vf hO q1,q2,q3,q4,q5,?_⟩
  rw[hmu'];simp only[hy];rw[show(o-d) / 1000=k by omega]
 have hkpt:∀o y,lk new o=none->lk kept o=some y->∃k ob ob' ob0 obx,lk O k=some (some ob)/\(k,some o,ob0)∈os/\iF (ep d os) ob=some ob'/\pk ob0 ob=true/\y=some (fB ob0 ob')/\mu' o=muo k/\σ.H o=some (some obx)/\obx.isFz=false/\muc k=mu o:=fun o y hn hy=>by
  obtain⟨k,ob,ob',ob0,q1,q2,q3,q4,q5⟩:=u2 o y (kL hy);have hm:=n7 q2
  obtain⟨obx,z1,z2,_,z4⟩:=hlive k o ob0 hm;refine⟨k,ob,ob',ob0,obx,vf hO q1,hm,q3,q4,q5,?_,z1,z2,z4⟩
  rw[hmu'];simp only[hn,hy,Dn ho hm]
 have hdead:∀o y,lk (cX O os) o=some y->y=none/\∃k ob obx,(k,some o,ob)∈os/\σ.H o=some (some obx):=fun o y hy=>by
  obtain⟨rfl,k,ob,q1,_⟩:=pN.1 (kL hy);obtain⟨obx,z1,_⟩:=hlive k o ob q1;exact⟨rfl,k,ob,obx,q1,z1⟩
 have hσ':∀o,(σ.app dst ⟨sv',new++(kept++cX O os),pp⟩).H o=match lk new o with
   |some y=>some y
   |none=>match lk kept o with
    |some y=>some y
    |none=>match lk (cX O os) o with
     |some y=>some y
     |none=>σ.H o:=fun o=>by
  show lk ((new++(kept++cX O os))++σ.hp) o=_
  rw[fR,fR,fR];cases lk new o with
  |some y=>rfl
  |none =>
   cases lk kept o with
   |some y=>rfl
   |none=>cases lk (cX O os) o<;>rfl
 have hout:∀k ob,lk O k=some (some ob)->∃ob',iF (ep d os) ob=some ob'/\ob.isFz=false/\(iv sv O).H k=some (some ob):=fun k ob hl=>by
  obtain⟨ob1,ob',e1,e2,_⟩:=u1 k _ (kL hl);cases e1;exact⟨ob',e2,(Dm e2).2.2,hl⟩
 have hnm:∀k ob,lk O k=some (some ob)->∃ob',(σ.app dst ⟨sv',new++(kept++cX O os),pp⟩).H (ep d os k)=some (some ob')/\ob'.isFz=false/\ob'.shp.len=ob.shp.len/\mu' (ep d os k)=muo k:=fun k ob hl=>by
  obtain⟨ob1,ob',e1,e2,e3⟩:=u1 k _ (kL hl);cases e1;obtain⟨s1,s2,s3⟩:=Dm e2;rcases e3 with⟨o,ob0,z1,z2,z3⟩|⟨z1,z2⟩
  ·have hm:=n7 z1
   obtain⟨obx,y1,_⟩:=hlive k o ob0 hm;have hn:lk new o=none:=by
    cases hq:lk new o with
    |none=>rfl
    |some y=>have:=Yj o y hq;rw[y1]at this;cases this
   have hnmk:ep d os k=o:=by simp only[ep,z1]
   rw[hnmk];obtain⟨y,hy⟩:=kM (List.mem_map.2 ⟨_,z3,rfl⟩);obtain⟨k2,ob2,ob2',ob02,obx2,r1,r2,r3,r4,r5,r6,_⟩:=hkpt o y hn hy;have:k2=k:=ve ho r2 hm
   subst this;rw[hl]at r1;cases r1;rw[e2]at r3;cases r3;refine⟨fB ob02 ob',by rw[hσ',hn];simp only[hy,r5],K3 s2,?_,r6⟩
   rw[Vl,s1]
  ·have hnmk:ep d os k=d+1000*k:=by simp only[ep,z1]
   rw[hnmk];obtain⟨y,hy⟩:=kM (List.mem_map.2 ⟨_,z2,rfl⟩);obtain⟨k2,ob2,ob2',r1,r2,r3,r4,r5,r6⟩:=hnew _ y hy;have:k2=k:=by omega
   subst this;rw[hl]at r1;cases r1;rw[e2]at r4;cases r4;exact⟨ob',by rw[hσ',hy,r5],s2,by rw[s1],r6⟩
 have hkG:bC C.wF wG:=hg.kept
 have hstE:∀k,((iv sv O).env wG muo).st k=.absent\/∃s s',((iv sv O).env wG muo).st k=.live s/\((σ.app dst ⟨sv',new++(kept++cX O os),pp⟩).env wG mu').st (ep d os k)=.live s'/\s'.len=s.len/\(mu' (ep d os k)).hd=(muo k).hd:=fun k=>by
  cases hl:lk O k with
  |none=>left;show(iv sv O).ost k=_;simp only[State.ost,show(iv sv O).H k=none from hl]
  |some y =>
   cases y with
   |none=>obtain⟨_,_,e1,_⟩:=u1 k _ (kL hl);cases e1
   |some ob =>
    obtain⟨ob',z1,z2,z3⟩:=hout k ob hl;obtain⟨ob2,y1,y2,y3,y4⟩:=hnm k ob hl;exact .inr ⟨_,_,bW z3 z2,bW y1 y2,y3,by rw[y4]⟩
 have hMo:∀b,M b->∃o ob0,σ.H o=some (some ob0)/\b∈(mu o).blocks:=fun b hb=>by
  rw[hM]at hb;obtain⟨k,o,ob,q1,q2⟩:=hb;obtain⟨ob0,z1,_⟩:=hlive k o ob q1;exact⟨o,ob0,z1,q2⟩
 have hblk:∀k ob,lk O k=some (some ob)->(muo k).blocks.Nodup/\∀b∈(muo k).blocks,M b\/w.heap.size<=b:=fun k ob hl=>hst2.nd k ob (hout k ob hl).choose_spec.2.2
 have hfar:∀o ob,σ.H o=some (some ob)->lk new o=none->lk kept o=none->lk (cX O os) o=none->∀b,b∈(mu o).blocks->¬ M b:=fun o ob ho1 hn1 hn2 hn3 b hb hMb=>by
  rw[hM]at hMb;obtain⟨k,o2,ob2,q1,q2⟩:=hMb;obtain⟨obx,z1,_⟩:=hlive k o2 ob2 q1;have:o=o2:=Classical.byContradiction fun hne=>h.sep o o2 ob obx hne ho1 z1 b hb q2
  subst this;cases hl:lk O k with
  |none =>
   obtain⟨y,hy⟩:=kM (List.mem_map.2 ⟨_,(pN (hp:=O)).2 ⟨rfl,k,ob2,q1,hl⟩,rfl⟩);rw[hy]at hn3;cases hn3
  |some y =>
   obtain⟨ob1,ob',e1,e2,e3⟩:=u1 k _ (kL hl);rcases e3 with⟨o3,ob03,y1,y2,y3⟩|⟨y1,_⟩
   ·rw[kK hk q1]at y1
    cases y1;obtain⟨y,hy⟩:=kM (List.mem_map.2 ⟨_,y3,rfl⟩);rw[hy]at hn2;cases hn2
   ·rw[kK hk q1]at y1;cases y1
 have hcase:∀o ob,(σ.app dst ⟨sv',new++(kept++cX O os),pp⟩).H o=some (some ob) ->
   (∃k ob1,lk O k=some (some ob1)/\mu' o=muo k/\ep d os k=o/\aS ((σ.app dst ⟨sv',new++(kept++cX O os),pp⟩).env wG mu') w' (muo k) ob) \/
   (σ.H o=some (some ob)/\mu' o=mu o/\lk new o=none/\lk kept o=none/\lk (cX O os) o=none):=fun o ob hq=>by
  rw[hσ']at hq;cases hn1:lk new o with
  |some y =>
   rw[hn1]at hq;obtain⟨k,ob1,ob',q1,q2,q3,q4,q5,q6⟩:=hnew o y hn1;have hq:y=some ob:=by simpa using hq
   rw[q5]at hq;cases hq;have z3:=(hout k ob1 q1).choose_spec.2.2
   exact .inl ⟨k,ob1,q1,q6,by simp only[ep,q2];exact q3.symm,K0 (E:=(iv sv O).env wG muo) (E':=(σ.app dst ⟨sv',new++(kept++cX O os),pp⟩).env wG mu') (fun _ _ h=>h) hstE q4 (hst2.ob k ob1 z3)⟩
  |none =>
   rw[hn1]at hq;cases hn2:lk kept o with
   |some y =>
    rw[hn2]at hq;obtain⟨k,ob1,ob',ob0,obx,q1,q2,q3,q4,q5,q6,_⟩:=hkpt o y hn1 hn2;have hq:y=some ob:=by simpa using hq
    rw[q5]at hq;cases hq;have z3:=(hout k ob1 q1).choose_spec.2.2
    exact .inl ⟨k,ob1,q1,q6,by simp only[ep,kK hk q2],Vk (K0 (E:=(iv sv O).env wG muo) (E':=(σ.app dst ⟨sv',new++(kept++cX O os),pp⟩).env wG mu') (fun _ _ h=>h) hstE q3 (hst2.ob k ob1 z3))⟩
   |none =>
    rw[hn2]at hq;cases hn3:lk (cX O os) o with
    |some y =>
     rw[hn3]at hq;obtain⟨rfl,_⟩:=hdead o y hn3;cases hq
    |none =>
     rw[hn3]at hq;exact .inr ⟨hq,by rw[hmu'];simp only[hn1,hn2],rfl,rfl,rfl⟩
 refine⟨wG,mu',⟨hkG,fun p u hp=>?_⟩,h.updG (mu':=mu') M hst2.os hst2.tape hst2.output hst2.size hMo (fun b hb hnM=>hst2.block b hb hnM) hkG (fun p u hp=>?_) (fun o=>?_) (fun o ob hq=>?_) (by rw[uv];exact h.sz) (uw _ _ _)
  (ux h hd (Vj (E:=(iv sv O).env wG muo) (E':=(σ.app dst ⟨sv',new++(kept++cX O os),pp⟩).env wG mu') (fun _ _ h=>h) hstE hv (hst2.fr 0 sv rfl)))⟩
 ·rcases hg.new p u hp with q|q|q
  ·exact .inl q
  ·exact .inr (.inl (Nat.le_trans h.size q))
  ·obtain⟨o,ob0,z1,z2⟩:=hMo _ q
   exact .inr ((h.nd o ob0 z1).2 _ z2).symm
 ·rcases hg.new p u hp with q|q
  ·exact .inl q
  ·refine .inr ⟨(hst2.cells p u hp).2,fun o ob hq hb=>?_⟩
   rcases hcase o ob hq with⟨k,ob1,z1,z2,_,_⟩|⟨z1,z2,z3,z4,z5⟩
   ·rw[z2]at hb
    exact(hst2.cells p u hp).1 k ob1 z1 hb
   ·rw[z2]at hb
    rcases q with q|q
    ·have:=(h.ob o ob z1).block _ hb
     have q:w.heap.size<=p.block:=q
     omega
    ·exact hfar o ob z1 z3 z4 z5 _ hb q
 ·show dE wG (σ.ost o) (State.ost _ o) (mu o) (mu' o)
  cases hn1:lk new o with
  |some y =>
   have:=Yj o y hn1
   rw[show σ.ost o=.absent by simp only[State.ost,this]]
   exact .inl trivial
  |none =>
   cases hn2:lk kept o with
   |some y =>
    obtain⟨k,ob1,ob',ob0,obx,q1,q2,q3,q4,q5,q6,q7,q8,q9⟩:=hkpt o y hn1 hn2;have hq:(σ.app dst ⟨sv',new++(kept++cX O os),pp⟩).H o=some (some (fB ob0 ob')):=by rw[hσ',hn1];simp only[hn2,q5]
    obtain⟨s1,s2,s3⟩:=Dm q3;rw[bW q7 q8,bW hq (K3 s2)];have hp1:=hst2.pins k (mu o) (by
     show(match(d8 os k).isSome&&(lk O k).isSome with|true=>some (muc k)|false=>none)=_
     rw[kK hk q2,q1];simp[q9])
    have hoE:=(hout k ob1 q1).choose_spec.2
    rw[bW hoE.2 hoE.1]at hp1;obtain⟨hp2,hp3⟩:=hp1;obtain⟨ob00,z1,z2,z3⟩:=hok k (some o) ob0 q2;rw[q7]at z1;cases z1;refine .inl ?_
    show(fB ob0 ob').shp.len=obx.shp.len/\(mu' o).hd=(mu o).hd/\obx.shp.ver<=(fB ob0 ob').shp.ver/\((fB ob0 ob').shp.ver=obx.shp.ver->mu' o=mu o/\(fB ob0 ob').shp.rl=obx.shp.rl)
    rw[q6];unfold pk at q4;split at q4
    ·rename_i cs0 cs1
     rcases z3 with⟨z5,rfl⟩|⟨cs,cs',rfl,z5,z6,_⟩
     ·cases z5
     ·cases z5
      have hl:=Nat.eq_of_beq_eq_true q4
      show ob'.shp.len=cs.length/\(muo k).hd=(mu o).hd/\0<=ob'.shp.ver/\(ob'.shp.ver=0->muo k=mu o/\ob'.shp.rl=[])
      rw[s1];exact⟨by show cs1.length=cs.length;omega,hp2,Nat.zero_le _,fun _=>⟨hp3 rfl,rfl⟩⟩
    ·rename_i v0 Y0 p0 b0 v1 Y1 p1 b1
     rcases z3 with⟨z5,rfl⟩|⟨cs,cs',rfl,z5,z6,_⟩
     ·have:ob'=.yd v1 Y1 p1 b1:=by
       have q3':some (Ob.yd v1 Y1 p1 b1)=some ob':=q3
       exact(Option.some.inj q3').symm
      subst this
      show(0:Nat)=0/\(muo k).hd=(mu o).hd/\v0<=v0+v1/\(v0+v1=v0->muo k=mu o/\([]:List Nat)=[])
      exact⟨rfl,hp2,by omega,fun hvv=>⟨hp3 (show v1=0 by omega),rfl⟩⟩
     ·cases z5
    ·cases q4
   |none =>
    cases hn3:lk (cX O os) o with
    |some y =>
     obtain⟨rfl,k,ob1,obx,q1,q2⟩:=hdead o y hn3;have hq:(σ.app dst ⟨sv',new++(kept++cX O os),pp⟩).H o=some none:=by rw[hσ',hn1];simp only[hn2,hn3]
     rw[show State.ost (σ.app dst ⟨sv',new++(kept++cX O os),pp⟩) o=.dead by simp only[State.ost,hq]]
     exact .inl (uy q2)
    |none =>
     have hq:(σ.app dst ⟨sv',new++(kept++cX O os),pp⟩).H o=σ.H o:=by rw[hσ',hn1];simp only[hn2,hn3]
     rw[show State.ost (σ.app dst ⟨sv',new++(kept++cX O os),pp⟩) o=σ.ost o by simp only[State.ost,hq],show mu' o=mu o by rw[hmu'];simp only[hn1,hn2]]
     exact dE.refl _ _ _
 ·rcases hcase o ob hq with⟨k,ob1,z1,z2,z3,z4⟩|⟨z1,z2,z3,z4,z5⟩
  ·refine .inr ⟨by rw[z2];exact z4,by rw[z2];exact(hblk k ob1 z1).1,by rw[z2];exact(hblk k ob1 z1).2,fun o' ob' hne hq'=>?_⟩
   rcases hcase o' ob' hq' with⟨k',ob1',y1,y2,y3,y4⟩|⟨y1,y2,y3,y4,y5⟩
   ·refine .inr fun b hb hb'=>?_
    rw[z2]at hb;rw[y2]at hb';exact hst2.sep k k' ob1 ob1' (fun e=>hne (by rw[<-z3,<-y3,e])) z1 y1 b hb hb'
   ·exact .inl ⟨y1,y2,hfar o' ob' y1 y3 y4 y5⟩
  ·exact .inl ⟨z1,z2,hfar o ob z1 z3 z4 z5⟩
theorem Vn{Γ:FuncId->Option Ctr}(hΓ:cZ C.P Γ){d:Nat}{f:FuncId}{svs:List SV}{ts:List TypeId}{eff:Eff}(hm:BX (Γ f)=true)(hr:(BY C.P d (Γ f) svs ts).run σ=some eff)(hob:eff.obl)(h:St C σ mu a w)
  {vs:List Value} (hvl:vs.length=svs.length) (hvs:∀(i:Nat) (sv:SV),svs[i]?=some sv->∃v,vs[i]?=some v/\av C.P (σ.env C.wF mu) sv v) {dst:Option Nat} (hd:∀d,dst=some d->d<C.N) :
  (∃fn,C.P.funcs[f]?=some fn/\fn.body.isSome=true/\(fn.name == "runtime.NumGoroutine")=false) /\
  Calls C.P f vs.toArray w fun e w'=>∃v,e=.returned v/\ax C (σ.app dst eff) (a.put dst v) w':=by
 unfold BX at hm;split at hm
 ·rename_i ct hct
  have hf:=hΓ f _ hct
  refine⟨hf.fn,?_⟩
  rw[hct]at hr;simp only[BY]at hr;obtain⟨mas,os,h1,h2,h3,h4,h5⟩:=KW (C:=C) (mu:=mu) svs 0 ts _ _ hr;split at h1
  ·rename_i pre sv ex outs hpost
   split at h1
   ·rename_i hnd
    simp only[Bool.and_eq_true]at hnd;split at h1
    ·rename_i sv' kept new hv hu
     obtain⟨h6,Yj⟩:=pI h1;simp only[Rd.run,Option.some.injEq]at h6;subst h6;refine Vm (hf.st rfl mas pre sv ex outs hpost hob) h h2 (h4 os fun t ht=>ht) (jS hnd.1.1) (jS hnd.1.2) (jS hnd.2) hv hu Yj (by rw[hvl,h3]) (fun E' hg j x hj=>?_) hd
     obtain⟨sv2,q1,q2⟩:=h5 os E' (fun t ht=>ht) hg j x hj
     obtain⟨v,q3,q4⟩:=hvs j sv2 q1;rw[Nat.zero_add]at q2;exact⟨v,q3,q2 v q4⟩
    ·cases h1
   ·cases h1
  ·cases h1
 ·cases hm
theorem Vo{o i:Nat}{eff:Eff}(hr:(Cd C.P o i).run σ=some eff)(hob:eff.obl)(h:St C σ mu a w){v0 v:Value}(h0:aj (σ.env C.wF mu) (.own o) v0)(hv:aj (σ.env C.wF mu) (.own i) v)
  {dst:Option Nat} (hd:∀d,dst=some d->d<C.N):∃l,v0=.func (.yield l) #[] #[]/\YieldAt Fence.wide 0 C.P l #[v] w fun e w'=>∃u,e=.returned u/\ax C (σ.app dst eff) (a.put dst u) w':=by
 unfold Cd at hr;split at hr
 ·cases hr
 ·rename_i hne
  have hne:o≠i:=Nat.ne_of_beq_eq_false hne
  obtain⟨ob,ho,hr⟩:=aX hr;split at hr
  ·rename_i yv Y pre b
   obtain⟨ob2,hi,hr⟩:=aX hr;split at hr
   ·rename_i e k x
    split at hr
    ·simp only[Rd.run,Option.some.injEq]at hr
     subst hr;obtain⟨hP,rfl,rfl,hok⟩:Y.P=C.P/\Y.e=e/\b=true/\Y.ok pre x:=hob;have hv0:v0=(mu o).hd:=aN ho h0
     have hvi:v=(mu i).hd:=aN hi hv
     obtain⟨y1,y2,y3,y4⟩:=h.ob o _ ho;obtain⟨z1,z2⟩:=h.ob i _ hi;rw[<-hvi]at z2;have hbi:∀b,ag v=some b->b∈(mu i).blocks:=fun b hb=>ca (by rw[<-hvi];exact hb)
     refine⟨Y.l,by rw[hv0,y1],?_⟩
     have hsp:=Y.spec pre x w (mu o).blocks v y3 hok (h.nd o _ ho).1 y4 hv.1 z2 (fun k hk hc=>h.sep o i _ _ hne ho hi k hk (hbi k hc)) (fun p u hp=>⟨(h.cells p u (y2 p u hp)).2,fun hc=>(h.cells p u (y2 p u hp)).1 i _ hi (hbi _ hc)⟩)
     rw[hP]at hsp;obtain⟨fn,tmps,assign,body,s1,s2⟩:=hsp;refine⟨fn,tmps,assign,body,s1,s2.mono ?_⟩
     rintro e w' ⟨S',rfl,q1,q2,q3,q4,q5,q6,q7,q8,q9,q10⟩
     refine⟨_,rfl,?_⟩
     let m':Img:=⟨.func (.yield Y.l) #[] #[],S'.map fun b=>.pointer (some ⟨b,0,none⟩)⟩
     have hm':m'.blocks=S':=by
      show(ag (.func (.yield Y.l) #[] #[])).toList++(S'.map fun b=>Value.pointer (some ⟨b,0,none⟩)).filterMap ag=S'
      rw[List.filterMap_map]
      show []++S'.filterMap (fun b=>some b)=S'
      simp
     let mu':Nat->Img:=fun x=>if x=o then m' else mu x
     have hmo:mu' o=m':=if_pos rfl
     have hmx:∀x,x≠o->mu' x=mu x:=fun x hx=>if_neg hx
     obtain⟨eff,heff⟩:∃eff:Eff,eff=⟨.c (.bool (Y.go pre x)),[(o,some (.yd (yv+1) Y (pre++[x]) (Y.go pre x)))],some (Y.P=C.P/\Y.e=Y.e/\true=true/\Y.ok pre x)⟩:=⟨_,rfl⟩;rw[<-heff];have hH:∀y,(σ.app dst eff).H y=if o=y then some (some (.yd (yv+1) Y (pre++[x]) (Y.go pre x)))else σ.H y:=fun y=>by
      rw[heff]
      show lk ([(o,_)]++σ.hp) y=_
      rw[fR,bo];by_cases hy:o=y
      ·rw[if_pos hy,if_pos hy]
      ·rw[if_neg hy,if_neg hy];rfl
     have hHo:(σ.app dst eff).H o=some (some (.yd (yv+1) Y (pre++[x]) (Y.go pre x))):=by rw[hH,if_pos rfl]
     have hHx:∀y,y≠o->(σ.app dst eff).H y=σ.H y:=fun y hy=>by rw[hH,if_neg (fun e=>hy e.symm)]
     have hblt:∀y ob',σ.H y=some (some ob')->∀b∈(mu y).blocks,b<w.heap.size:=fun y ob' hy=>(h.ob y ob' hy).block
     have hfar:∀y ob',y≠o->y≠i->σ.H y=some (some ob')->∀b∈(mu y).blocks,¬ (b∈(mu o).blocks\/b∈(mu i).blocks):=fun y ob' hyo hyi hy b hb hc=>by
      rcases hc with hc|hc
      ·exact h.sep y o ob' _ hyo hy ho b hb hc
      ·exact h.sep y i ob' _ hyi hy hi b hb hc
     have hoi:∀b∈S',b ∉ (mu i).blocks:=fun b hb hc=>by
      rcases(q4 b hb).1 with z|z
      ·exact h.sep o i _ _ hne ho hi b z hc
      ·have:=hblt i _ hi b hc;omega
     refine St.ex (h.upd (fun k=>k∈(mu o).blocks\/k∈(mu i).blocks) q6 q7 q8 q9 ?_ ?_ (mu':=mu') ?_ ?_ (by rw[uv];exact h.sz) (uw _ _ _) (ux h hd (by rw[heff];rfl)))
     ·rintro k (hk|hk)
      ·exact⟨o,_,ho,hk⟩
      ·exact⟨i,_,hi,hk⟩
     ·intro k hk hS
      exact q10 k hk (fun hc=>hS (.inl hc)) (fun hc=>hS (.inr (hbi k hc)))
     ·intro y
      by_cases hy:y=o
      ·subst hy
       rw[bW ho,bW hHo,hmo];exact⟨rfl,y1.symm,by show yv<=yv+1;omega,fun hc=>by have hc:yv+1=yv:=hc;omega⟩
      ·rw[hmx y hy,show State.ost (σ.app dst eff) y=σ.ost y by simp only[State.ost,hHx y hy]]
       exact du.refl _ _
     ·intro y ob' hy
      by_cases hyo:y=o
      ·subst hyo
       rw[hHo]at hy;cases hy;refine .inr ⟨by rw[hmo];exact⟨rfl,y2,by rw[hm'];exact q1,by rw[hm'];exact fun k hk=>(q4 k hk).2⟩,by rw[hmo,hm'];exact q2,fun k hk=>?_,fun y' ob2 hne' hy'=>?_⟩
       ·rw[hmo,hm']at hk
        exact(q4 k hk).1.imp .inl id
       ·rw[hHx y' (fun e=>hne' e.symm)]at hy'
        by_cases hyi:y'=i
        ·subst hyi
         refine .inr fun b hb hc=>?_
         rw[hmo,hm']at hb;rw[hmx y' (fun e=>hne' e.symm)]at hc
         exact hoi b hb hc
        ·exact .inl ⟨hy',hmx y' (fun e=>hne' e.symm),hfar y' ob2 (fun e=>hne' e.symm) hyi hy'⟩
      ·rw[hHx y hyo]at hy
       by_cases hyi:y=i
       ·subst hyi
        rw[hi]at hy;cases hy;rw[hmx y hyo];refine .inr ⟨⟨z1,by rw[<-hvi];exact q5⟩,(h.nd y _ hi).1,fun k hk=>.inl (.inr hk),fun y' ob2 hne' hy'=>?_⟩
        by_cases hyo':y'=o
        ·subst hyo'
         refine .inr fun b hb hc=>?_
         rw[hmo,hm']at hc;exact hoi b hc hb
        ·rw[hHx y' hyo']at hy'
         exact .inl ⟨hy',hmx y' hyo',hfar y' ob2 hyo' (fun e=>hne' e.symm) hy'⟩
       ·exact .inl ⟨hy,hmx y hyo,hfar y ob' hyo hyi hy⟩
    ·cases hr
   ·cases hr
  ·cases hr
end
end Go.Sx
end
