/- SxOr SxOb SxOs SxOt SxOv -/
import Derived.Test.YtkmldclpaniclaaGreatSxO
set_option linter.unusedSimpArgs false
set_option linter.unusedVariables false
set_option linter.defProp false
section
namespace Go.Sx
open Go.RowKit
section
variable {C:Cx} {σ:State} {mu:Nat->Img} {a:Act} {w w':World}
theorem ae3{P:Program}{wF:World}{mt:List (Nat×Nat)}{ms ms':List Img}{obs obs':List Ob}{i:Nat}(hm:∀j,bY mt i j=none){d:AD}{v:Value}(h:dh P wF mt ms obs i d v):dh P wF mt ms' obs' i d v:=by
 have hcell:∀{j d u},gw wF mt ms obs i j d u->gw wF mt ms' obs' i j d u:=fun {j d u} h=>by
  refine⟨h.1,?_⟩
  have h2:=h.2
  rw[hm j]at h2⊢;exact h2
 cases d with
 |c d=>exact hcell (j:=0) h
 |agg cs =>
  obtain⟨arr,rfl,h1,h2⟩:=h;exact⟨arr,rfl,h1,fun j d hj=>let⟨u,h3,h4⟩:=h2 j d hj;⟨u,h3,hcell h4⟩⟩
 |box cs =>
  simp only[dh,hm 0]at h⊢;exact h
 |bb cs=>exact h
 |bf P' F=>exact h
 |fv F=>exact h
 |fvs F s =>
  simp only[dh,hm 0]at h
 |cut off n d =>
  simp only[dh,hm 0]at h
 |ma x=>exact(show False from h).elim
theorem ae4{Γ:FuncId->Option Ctr}(hΓ:di C.P Γ){f:FuncId}{o ver i:Nat}{svs:List SV}{ts:List TypeId}{eff:Eff}(hr:(G6 C.P Γ f o ver i svs ts).run σ=some eff)(hob:eff.obl)(h:St C σ mu a w)
  {v0:Value}(hv0:ai (σ.env C.wF mu) (.row o ver i) v0)
  {vs:List Value}(hvl:vs.length=svs.length)(hvs:∀(i:Nat) (sv:SV),svs[i]?=some sv->∃v,vs[i]?=some v/\aw C.P (σ.env C.wF mu) sv v){dst:Option Nat}(hd:∀d,dst=some d->d<C.N) :
  (∃fn,C.P.funcs[f]?=some fn/\fn.body.isSome=true/\(fn.name == "runtime.NumGoroutine")=false) /\
  Calls C.P f (v0::vs).toArray w fun e w'=>∃v,e=.returned v/\ay C (σ.app dst eff) (a.put dst v) w':=by
 simp[G6,Rd.run]at hr
theorem ae5{Γ:FuncId->Option Ctr}(hΓ:di C.P Γ){f:FuncId}{o ver:Nat}{p:List Nat}{svs:List SV}{ts:List TypeId}{eff:Eff}(hr:(G7 C.P Γ f o ver p svs ts).run σ=some eff)(hob:eff.obl)(h:St C σ mu a w)
  {v0:Value}(hv0:ai (σ.env C.wF mu) (.kid o ver p) v0)
  {vs:List Value}(hvl:vs.length=svs.length)(hvs:∀(i:Nat) (sv:SV),svs[i]?=some sv->∃v,vs[i]?=some v/\aw C.P (σ.env C.wF mu) sv v){dst:Option Nat}(hd:∀d,dst=some d->d<C.N) :
  (∃fn,C.P.funcs[f]?=some fn/\fn.body.isSome=true/\(fn.name == "runtime.NumGoroutine")=false) /\
  Calls C.P f (v0::vs).toArray w fun e w'=>∃v,e=.returned v/\ay C (σ.app dst eff) (a.put dst v) w':=by
 simp[G7,Rd.run]at hr
theorem ae6{Γ:FuncId->Option Ctr}(hΓ:di C.P Γ){f:FuncId}{o off n:Nat}{svs:List SV}{ts:List TypeId}{eff:Eff}(hr:(G8 C.P Γ f o off n svs ts).run σ=some eff)(hob:eff.obl)(h:St C σ mu a w)
  {v0:Value}(hv0:ai (σ.env C.wF mu) (.sub o off n) v0)
  {vs:List Value}(hvl:vs.length=svs.length)(hvs:∀(i:Nat) (sv:SV),svs[i]?=some sv->∃v,vs[i]?=some v/\aw C.P (σ.env C.wF mu) sv v){dst:Option Nat}(hd:∀d,dst=some d->d<C.N) :
  (∃fn,C.P.funcs[f]?=some fn/\fn.body.isSome=true/\(fn.name == "runtime.NumGoroutine")=false) /\
  Calls C.P f (v0::vs).toArray w fun e w'=>∃v,e=.returned v/\ay C (σ.app dst eff) (a.put dst v) w':=by
 simp[G8,Rd.run]at hr
theorem ae7{Γ:FuncId->Option Ctr}(hΓ:di C.P Γ){f:FuncId}{k0:IntKind}{n0:Int}{o ver i:Nat}{svs:List SV}{ts:List TypeId}{eff:Eff}(hr:(G9 C.P Γ f k0 n0 o ver i svs ts).run σ=some eff)(hob:eff.obl)(h:St C σ mu a w)
  {v0:Value}(hv0:ai (σ.env C.wF mu) (.row o ver i) v0)
  {vs:List Value}(hvl:vs.length=svs.length)(hvs:∀(i:Nat) (sv:SV),svs[i]?=some sv->∃v,vs[i]?=some v/\aw C.P (σ.env C.wF mu) sv v){dst:Option Nat}(hd:∀d,dst=some d->d<C.N) :
  (∃fn,C.P.funcs[f]?=some fn/\fn.body.isSome=true/\(fn.name == "runtime.NumGoroutine")=false) /\
  Calls C.P f (.int k0 n0::v0::vs).toArray w fun e w'=>∃v,e=.returned v/\ay C (σ.app dst eff) (a.put dst v) w':=by
 simp[G9,Rd.run]at hr
theorem ae8{Γ:FuncId->Option Ctr}(hΓ:di C.P Γ){f:FuncId}{svs:List SV}{eff:Eff}(hm:Hi (Γ f)=true)(hr:(Hj (Γ f) svs).run σ=some eff)(hob:eff.obl)(h:St C σ mu a w)
  {vs:List Value}(hvl:vs.length=svs.length)(hvs:∀(i:Nat) (sv:SV),svs[i]?=some sv->∃v,vs[i]?=some v/\aw C.P (σ.env C.wF mu) sv v){dst:Option Nat}(hd:∀d,dst=some d->d<C.N) :
  (∃fn,C.P.funcs[f]?=some fn/\fn.body.isSome=true/\(fn.name == "runtime.NumGoroutine")=false) /\
  Calls C.P f vs.toArray w fun e w'=>∃v,e=.returned v/\ay C (σ.app dst eff) (a.put dst v) w':=by
 unfold Hi at hm;split at hm
 ·rename_i ct hct
  have hf:=hΓ f _ hct
  refine⟨hf.fn,?_⟩
  unfold Hj at hr;rw[hct]at hr;simp only at hr;split at hr
  ·rename_i o g
   obtain⟨ob,ho,hr2⟩:=aZ hr;clear hr;split at hr2
   ·rename_i ver e ei l
    split at hr2
    ·rename_i pre g' x l' ws hpost
     split at hr2
     ·rename_i hg
      have hg:=AX hg
      subst hg;simp only[Rd.run,AC]at hr2;subst hr2;obtain⟨ξ,hlen⟩:pre/\l'.length=l.length:=hob;obtain⟨v0,e0,r0⟩:=hvs 0 _ rfl;obtain⟨v1,e1,r1⟩:=hvs 1 _ rfl;have hv0:v0=(mu o).hd:=aP ho r0
      obtain⟨arr,hv1,harr⟩:=r1;have harr0:arr=#[]:=DP harr.1
      subst harr0;have hvs':vs=[v0,v1]:=by
       match vs,hvl,e0,e1 with
       | [a,b],_,e0,e1=>simp at e0 e1;subst e0;subst e1;rfl
      subst hvs';subst hv1;obtain⟨q1,q2,q3⟩:=h.ob o _ ho;have hnd:=(h.nd o _ ho).1
      refine Calls.mono ((hf.so rfl).1 l pre g' x l' ws hpost ξ w e ei v0 (mu o).ins (by rw[hv0];exact q1) q2 (fun i u r hi hr=>q3 i u r hi hr) (by rw[hv0];exact hnd)) ?_
      rintro r w' ⟨rfl,ins',k1,k2,k3,k4,k5,k6,k7,k8,k9⟩
      refine⟨_,rfl,?_⟩
      have hperm:(⟨(mu o).hd,ins'⟩:Img).blocks.Perm (mu o).blocks:=by
       unfold Img.blocks;exact List.Perm.append_left _ (k4.filterMap _)
      refine h.setV hd ho [] (by simp) (m:=⟨(mu o).hd,ins'⟩) (fun E=>⟨#[],rfl,rfl,fun i c hi=>by simp at hi⟩) k5 k6 k7 k8 (fun b hb hn=>k9 b hb fun hc=>hn (cD (by rw[<-hv0];exact hc))) hlen rfl (BC _) (fun hv=>by have:ver+1=ver:=hv;omega)
       ⟨by rw[<-hv0];exact k1,k2,fun i u r hi hr=>?_⟩ (hperm.nodup_iff.2 hnd) (fun b hb=>.inl (hperm.mem_iff.1 hb))
      have hmem:u∈(mu o).ins:=k4.mem_iff.1 (AI hi)
      obtain⟨y,hy⟩:=Ah hmem;refine dY (k3 i u r hi hr) fun b hb=>k9 b ((h.ob o _ ho).block b (oG hy hb)) fun hc=>?_
      rw[hv0]at hc;exact(kO hnd).2 _ hc (Ar.2 ⟨u,hmem,hb⟩)
     ·simp[Rd.run]at hr2
    ·simp[Rd.run]at hr2
   ·rename_i ver e e2 e3 l
    split at hr2
    ·rename_i pre g' l' ws hpost
     split at hr2
     ·rename_i hg
      have hg:=AX hg
      subst hg;simp only[Rd.run,AC]at hr2;subst hr2;obtain⟨ξ,hlen⟩:pre/\l'.length=l.length:=hob;obtain⟨v0,e0,r0⟩:=hvs 0 _ rfl;obtain⟨v1,e1,r1⟩:=hvs 1 _ rfl;have hv0:v0=(mu o).hd:=aP ho r0
      obtain⟨arr,hv1,harr⟩:=r1;have harr0:arr=#[]:=DP harr.1
      subst harr0;have hvs':vs=[v0,v1]:=by
       match vs,hvl,e0,e1 with
       | [a,b],_,e0,e1=>simp at e0 e1;subst e0;subst e1;rfl
      subst hvs';subst hv1;obtain⟨nd,q1,q2⟩:=h.ob o _ ho;have hnd:=(h.nd o _ ho).1
      have q1:mu o=dw 3 nd:=q1
      have hbk:(mu o).blocks=aW 3 nd:=by rw[q1];exact ef q2
      have hhd:(mu o).hd=aK nd:=by rw[q1];rfl
      have hHd:∀ks',aK (bu (aK nd) ks')=aK nd:=fun ks'=>rfl
      have hKs:∀ks',bo (bu (aK nd) ks')=ks':=fun ks'=>rfl
      refine Calls.mono (by rw[hv0,hhd];exact(hf.so rfl).2 l pre g' l' ws hpost ξ w e e2 e3 nd q2 (by rw[<-hbk];exact hnd)) ?_
      rintro r w' ⟨rfl,ks',k1,k4,k5,k6,k7,k8,k9⟩
      refine⟨_,rfl,?_⟩
      have hperm:(dw 3 (bu (aK nd) ks')).blocks.Perm (mu o).blocks:=by
       have hb2:(dw 3 (bu (aK nd) ks')).blocks=aW 3 (bu (aK nd) ks'):=ef k1
       rw[hb2,hbk,dM,dM,hHd,hKs];exact List.Perm.append_left _ (k4.flatMap_right _)
      refine h.setV hd ho [] (by simp) (m:=dw 3 (bu (aK nd) ks')) (fun E=>⟨#[],rfl,rfl,fun i c hi=>by simp at hi⟩) k5 k6 k7 k8 (fun b hb hn=>k9 b hb fun hc=>hn (cD (by rw[hhd];exact hc))) hlen (by rw[hhd];rfl) (BC _) (fun hv=>by have:ver+1=ver:=hv;omega)
       ⟨_,rfl,k1⟩ (hperm.nodup_iff.2 hnd) (fun b hb=>.inl (hperm.mem_iff.1 hb))
     ·simp[Rd.run]at hr2
    ·simp[Rd.run]at hr2
   ·simp[Rd.run]at hr2
  ·simp[Rd.run]at hr
 ·cases hm
theorem ae9{Γ:FuncId->Option Ctr}(hΓ:di C.P Γ){f:FuncId}{svs:List SV}{eff:Eff}(hm:ON (Γ f)=true)(hr:(Hk (Γ f) svs).run σ=some eff)(hob:eff.obl)(h:St C σ mu a w)
  {vs:List Value}(hvl:vs.length=svs.length)(hvs:∀(i:Nat) (sv:SV),svs[i]?=some sv->∃v,vs[i]?=some v/\aw C.P (σ.env C.wF mu) sv v){dst:Option Nat}(hd:∀d,dst=some d->d<C.N) :
  (∃fn,C.P.funcs[f]?=some fn/\fn.body.isSome=true/\(fn.name == "runtime.NumGoroutine")=false) /\
  Calls C.P f vs.toArray w fun e w'=>∃v,e=.returned v/\ay C (σ.app dst eff) (a.put dst v) w':=by
 simp[Hk,Rd.run]at hr
theorem af0{Γ:FuncId->Option Ctr}(hΓ:di C.P Γ){d:Nat}{f:FuncId}{svs:List SV}{eff:Eff}(hm:OO (Γ f)=true)(hr:(Hl d svs).run σ=some eff)(hob:eff.obl)(h:St C σ mu a w)
  {vs:List Value}(hvl:vs.length=svs.length)(hvs:∀(i:Nat) (sv:SV),svs[i]?=some sv->∃v,vs[i]?=some v/\aw C.P (σ.env C.wF mu) sv v){dst:Option Nat}(hd:∀d,dst=some d->d<C.N) :
  (∃fn,C.P.funcs[f]?=some fn/\fn.body.isSome=true/\(fn.name == "runtime.NumGoroutine")=false) /\
  Calls C.P f vs.toArray w fun e w'=>∃v,e=.returned v/\ay C (σ.app dst eff) (a.put dst v) w':=by
 simp[Hl,Rd.run]at hr
theorem af1{Γ:FuncId->Option Ctr}(hΓ:di C.P Γ){d:Nat}{f:FuncId}{e:TypeId}{svs:List SV}{eff:Eff}(hm:OP (Γ f)=some e)(hr:(Hm d e svs).run σ=some eff)(hob:eff.obl)(h:St C σ mu a w)
  {vs:List Value}(hvl:vs.length=svs.length)(hvs:∀(i:Nat) (sv:SV),svs[i]?=some sv->∃v,vs[i]?=some v/\aw C.P (σ.env C.wF mu) sv v){dst:Option Nat}(hd:∀d,dst=some d->d<C.N) :
  (∃fn,C.P.funcs[f]?=some fn/\fn.body.isSome=true/\(fn.name == "runtime.NumGoroutine")=false) /\
  Calls C.P f vs.toArray w fun r w'=>∃v,r=.returned v/\ay C (σ.app dst eff) (a.put dst v) w':=by
 simp[Hm,Rd.run]at hr
end
end Go.Sx
end
section
namespace Go.Sx
open Go.RowKit
theorem xv{m:Img}(h:∀u∈m.ins,ac u=none):m.blocks=(ac m.hd).toList:=by
 unfold Img.blocks;rw[show m.ins.filterMap ac=[] from DY.2 h,Af]
theorem rx:∀{cs:List SC} {ds:List FC},ds.length=cs.length->(gP cs ds).length=cs.length
 | [],[],_=>rfl
 |c::cs,d::ds,h=>by simp[gP,rx (cs:=cs) (ds:=ds) (by simpa using h)]
 | [],_::_,h=>by simp at h
 |_::_,[],h=>by simp at h
theorem Il:∀{cs:List SC} {ds:List FC} {j:Nat} {c:SC},(gP cs ds)[j]?=some c->∃x d,cs[j]?=some x/\ds[j]?=some d/\c=if dt d then dm d else x
 | [],_,j,c,h=>by simp[gP]at h
 |_::_,[],j,c,h=>by simp[gP]at h
 |x::cs,d::ds,0,c,h=>by simp[gP]at h;exact⟨x,d,rfl,rfl,h.symm⟩
 |x::cs,d::ds,j+1,c,h=>by
  simp only[gP,BX]at h;obtain⟨y,e,h1,h2,h3⟩:=Il h;exact⟨y,e,by simpa using h1,by simpa using h2,h3⟩
theorem Im{m:Img}{j:Nat}{d:FC}{u:Value}(h:lG m j d u)(hs:dt d=true)(E:Env):ai E (dm d) u:=by
 cases d with
 |int k n=>exact h
 |bool b=>exact h
 |str l=>exact h
 |_=>cases hs
theorem In{m:Img}{j:Nat}{d:FC}{u:Value}(h:lG m j d u)(hs:dt d=false):m.ins[j]?=some (.agg #[u]):=by
 cases d with
 |int k n=>cases hs
 |bool b=>cases hs
 |str l=>cases hs
 |_=>exact h
theorem Qe{w:World}{m:Img}{j:Nat}{d:FC}{u:Value}(h:bp w u d)(hi:m.ins[j]?=some (.agg #[u])):lG m j d u:=by
 cases d with
 |int k n=>exact h
 |bool b=>exact h
 |str l=>exact h
 |_=>exact hi
theorem Qf{w:World}{d:FC}{u:Value}(h:bp w u d)(hs:dt d=false):∃a n c,u=.slice a n c/\n<=c:=by
 cases d with
 |int k n=>cases hs
 |bool b=>cases hs
 |str l=>cases hs
 |_=>exact h.slice
section
variable {C:Cx} {σ:State} {mu:Nat->Img} {a:Act} {w:World}
theorem af2{c:SC}{d:FC}(h:Ha c=some d){v:Value}(hv:ai (σ.env C.wF mu) c v):bp C.wF v d:=by
 unfold Ha at h;split at h
 ·cases h;simp only[ai]at hv;subst hv;rfl
 ·cases h;simp only[ai]at hv;subst hv;rfl
 ·cases h;simp only[ai]at hv;subst hv;rfl
 ·cases h;exact hv.2
 ·cases h;exact hv.1.2
 ·cases h
theorem af3{sv:SV}{ad:AD}(h:oQ sv=some ad){v:Value}(hv:aw C.P (σ.env C.wF mu) sv v){mt:List (Nat×Nat)}{ms:List Img}{obs:List Ob}{i:Nat}(hn:∀j,bY mt i j=none):dh C.P C.wF mt ms obs i ad v:=by
 have cell:∀{j:Nat} {d:FC} {u:Value},u.oneCell'=true/\bp C.wF u d->gw C.wF mt ms obs i j d u:=fun {j d u} q=>by
  unfold gw;rw[hn j];exact q
 unfold oQ at h;split at h
 ·split at h
  ·rename_i d hd
   cases h;exact cell (xu rfl hd hv)
  ·cases h
 ·split at h
  ·rename_i ds hds
   cases h;obtain⟨arr,rfl,h1,h2⟩:=hv;obtain⟨h3,h4⟩:=im hds;refine⟨arr,rfl,by rw[h1,h3],fun j d hj=>?_⟩
   obtain⟨c,h5,h6⟩:=h4 j d hj;obtain⟨u,h7,h8,h9⟩:=h2 j c h5;exact⟨u,h7,cell (xu rfl h6 h9)⟩
  ·cases h
 ·cases h
theorem af4{Γ:FuncId->Option Ctr}(hΓ:di C.P Γ){d:Nat}{f:FuncId}{o:Nat}{svs:List SV}{eff:Eff}(hr:(Hb C.P Γ d f o svs).run σ=some eff)(hob:eff.obl)(h:St C σ mu a w)
  {v0:Value}(hv0:ai (σ.env C.wF mu) (.ptr o 0) v0)
  {vs:List Value}(hvl:vs.length=svs.length)(hvs:∀(i:Nat) (sv:SV),svs[i]?=some sv->∃v,vs[i]?=some v/\aw C.P (σ.env C.wF mu) sv v){dst:Option Nat}(hd:∀d,dst=some d->d<C.N) :
  Calls C.P f (v0::vs).toArray w fun e w'=>∃v,e=.returned v/\ay C (σ.app dst eff) (a.put dst v) w':=by
 unfold Hb at hr;split at hr
 ·rename_i ct hct
  have hf:=hΓ f _ hct
  obtain⟨ob,ho,hr2⟩:=aZ hr;clear hr;split at hr2
  ·rename_i xs
   split at hr2
   ·rename_i fcs hfcs
    obtain⟨hfl,hfc⟩:=im hfcs;split at hr2
    ·rename_i ads hads
     obtain⟨hal,har⟩:=im hads;split at hr2
     ·rename_i pre ret fcs' hpost
      split at hr2
      ·rename_i q hq
       obtain⟨hr5,θ⟩:=nv hr2;simp only[Rd.run,AC]at hr5;subst hr5;obtain⟨g,arr,ty,h1,h2,h3,h4,h5⟩:=kM h ho;have hv0':v0=(mu o).hd:=by
        obtain⟨_,b,hb,hv⟩:=aP ho hv0;have hb:ac (mu o).hd=some b:=hb
        rw[h1]at hb⊢;simp[ac]at hb
        rw[hv,hb]
       let m:Img:=⟨(mu o).hd,arr.toList.map fun u=>.agg #[u]⟩
       have hmi:∀u∈m.ins,ac u=none:=fun u hu=>by
        obtain⟨x,_,rfl⟩:=AT.1 hu;rfl
       have hmb:m.blocks=(mu o).blocks:=by rw[xv hmi,xv h2]
       have hins:∀(j:Nat) (u:Value),arr[j]?=some u->m.ins[j]?=some (.agg #[u]):=fun j u hu=>by
        show(arr.toList.map fun u=>Value.agg #[u])[j]?=_
        rw[Aj];simp[hu]
       have hcell:∀(j:Nat) (dd:FC),fcs[j]?=some dd->∃u,arr[j]?=some u/\u.oneCell'=true/\bp C.wF u dd:=fun j dd hj=>by
        obtain⟨c,k1,k2⟩:=hfc j dd hj;obtain⟨u,k3,k4,k5⟩:=h5 j c k1;exact⟨u,k3,k4,af2 k2 k5⟩
       have hl':=kV hq
       have hmt:∀y j,bY [(0,0)] (1+y) j=none:=fun y j=>by
        simp only[bY];rw[AB (by omega)]
        rfl
       refine rq hf h (hid:=[o]) (by simp) rfl (ms:=[m]) (obs:=[.bx fcs]) rfl rfl hpost hob.1 hob.2 rfl (fun o' ho'=>?_) (fun x o' rc hx hrc=>?_) θ (wF:=C.wF) (fun p u hp=>⟨(h.cells p u hp).2,fun o' ho'=>by simp at ho';subst ho';exact(h.cells p u hp).1 _ _ ho⟩) (fun _=>rfl) (by simp[hvl,hal]) (fun i ad hi=>?_) hd
       ·rw[bt,AB (fun hc=>ho' (by simp[hc]))];rfl
       ·cases x with
        |succ x=>simp at hx
        |zero =>
         simp at hx hrc
         subst hx;subst hrc;refine⟨m,.bx fcs,.bx fcs',.box xs,q,rfl,rfl,⟨g,arr,ty,h1,hmi,h3,by rw[h4,hfl],fun j dd hj=>?_⟩,hmb,by simp[dz,hq],id,ho,rfl,.inr ⟨rfl,.box (gP xs fcs'),by simp[bt],rfl,⟨?_,AE _,fun _=>rfl⟩,fun E w' _ hEE χ=>?_⟩⟩
         ·obtain⟨u,k1,k2,k3⟩:=hcell j dd hj
          exact⟨u,k1,k2,Qe k3 (hins j u k1)⟩
         ·show(gP xs fcs').length=xs.length
          exact rx (by rw[hl',hfl])
         ·obtain⟨b',arr',t',k1,k2,k3,k4,k5⟩:=χ
          refine⟨b',arr',t',k1,h2,k3,by rw[k4,rx (by rw[hl',hfl]),hl',hfl],fun j c hj=>?_⟩
          obtain⟨x,dd,r1,r2,rfl⟩:=Il hj;obtain⟨u,r3,r4,r5⟩:=k5 j dd r2;refine⟨u,r3,r4,?_⟩
          cases hs:dt dd with
          |true=>simp only[AV];exact Im r5 hs _
          |false =>
           simp only[Bi,Ag];have r6:=In r5 hs
           obtain⟨u',r7,_,r8⟩:=h5 j x r1;rw[hins j u' r7]at r6;simp at r6
           rw[<-r6];exact r8.mono hEE
       ·cases i with
        |zero =>
         simp at hi;subst hi
         refine⟨v0,rfl,m,rfl,rfl,hv0',fun j dd hj hs=>?_⟩
         obtain⟨u,k1,_,k3⟩:=hcell j dd hj;exact⟨u,hins j u k1,Qf k3 hs,k3⟩
        |succ i =>
         obtain⟨sv,k1,k2⟩:=har i ad (by simpa using hi)
         obtain⟨v,k3,k4⟩:=hvs i sv k1;exact⟨v,by simpa using k3,af3 k2 k4 (fun j'=>by have:=hmt i j';rwa[CF]at this)⟩
      ·simp[Rd.run]at hr2
     ·simp[Rd.run]at hr2
    ·simp[Rd.run]at hr2
   ·simp[Rd.run]at hr2
  ·simp[Rd.run]at hr2
 ·simp[Rd.run]at hr
theorem af5{Γ:FuncId->Option Ctr}(hΓ:di C.P Γ){d:Nat}{f:FuncId}{o:Nat}{svs:List SV}{ts:List TypeId}{eff:Eff}(hr:(Hc C.P Γ d f o svs ts).run σ=some eff)(hob:eff.obl)(h:St C σ mu a w)
  {v0:Value}(hv0:ai (σ.env C.wF mu) (.ptr o 0) v0)
  {vs:List Value}(hvl:vs.length=svs.length)(hvs:∀(i:Nat) (sv:SV),svs[i]?=some sv->∃v,vs[i]?=some v/\aw C.P (σ.env C.wF mu) sv v){dst:Option Nat}(hd:∀d,dst=some d->d<C.N) :
  (∃fn,C.P.funcs[f]?=some fn/\fn.body.isSome=true/\(fn.name == "runtime.NumGoroutine")=false) /\
  Calls C.P f (v0::vs).toArray w fun e w'=>∃v,e=.returned v/\ay C (σ.app dst eff) (a.put dst v) w':=by
 unfold Hc at hr;split at hr
 ·rename_i ct hct
  have hf:=hΓ f _ hct
  refine⟨hf.fn,?_⟩
  obtain⟨ob,ho,hr2⟩:=aZ hr;clear hr;split at hr2
  ·rename_i xs
   have hw:=rb h [o] (fun x hx=>by simp at hx;subst hx;exact⟨_,ho⟩)
   have hmt:∀y j,bY [(0,0)] (1+y) j=none:=fun y j=>by
    simp only[bY];rw[AB (by omega)]
    rfl
   obtain⟨fcs,hr3,hfl,hfc⟩:=nu h hw (mt:=[]) (i:=0) xs 0 _ _ _ (fun x c _ y hy=>by simp[bY]at hy) hr2
   obtain⟨ads,hr4,hal,har⟩:=Ig hΓ h hw svs 1 _ _ _ (fun y sv _ x j hx=>by rw[hmt y j]at hx;cases hx) hr3
   split at hr4
   ·rename_i pre ret fcs' hpost
    split at hr4
    ·exact af4 hΓ hr4 hob h hv0 hvl hvs hd
    rename_i hnro;split at hr4
    ·rename_i q hq
     obtain⟨hr5,θ⟩:=nv hr4;simp only[Rd.run,AC]at hr5;subst hr5;obtain⟨g,arr,ty,h1,h2,h3,h4,h5⟩:=kM h ho;have hv0':v0=(mu o).hd:=by
      obtain⟨_,b,hb,hv⟩:=aP ho hv0;have hb:ac (mu o).hd=some b:=hb
      rw[h1]at hb⊢;simp[ac]at hb
      rw[hv,hb]
     let m:Img:=⟨(mu o).hd,arr.toList.map fun u=>.agg #[u]⟩
     have hmi:∀u∈m.ins,ac u=none:=fun u hu=>by
      obtain⟨x,_,rfl⟩:=AT.1 hu;rfl
     have hmb:m.blocks=(mu o).blocks:=by rw[xv hmi,xv h2]
     have hins:∀(j:Nat) (u:Value),arr[j]?=some u->m.ins[j]?=some (.agg #[u]):=fun j u hu=>by
      show(arr.toList.map fun u=>Value.agg #[u])[j]?=_
      rw[Aj];simp[hu]
     have hcell:∀(j:Nat) (dd:FC),fcs[j]?=some dd->∃u,arr[j]?=some u/\u.oneCell'=true/\bp (o9 w ([o].flatMap fun o=>(mu o).blocks)) u dd:=fun j dd hj=>by
      obtain⟨c,k1,k2⟩:=hfc j dd hj;obtain⟨u,k3,k4,k5⟩:=h5 j c k1;exact⟨u,k3,k4,xo (k2 u k5)⟩
     have hl':=kV hq
     refine rq hf h (hid:=[o]) (by simp) rfl (ms:=[m]) (obs:=[.bx fcs]) rfl rfl hpost hob.1 hob.2 rfl (fun o' ho'=>?_) (fun x o' rc hx hrc=>?_) θ hw.kept (fun hc=>by rw[hnro]at hc;cases hc) (by simp[hvl,hal]) (fun i ad hi=>?_) hd
     ·rw[bt,AB (fun hc=>ho' (by simp[hc]))];rfl
     ·cases x with
      |succ x=>simp at hx
      |zero =>
       simp at hx hrc
       subst hx;subst hrc;refine⟨m,.bx fcs,.bx fcs',.box xs,q,rfl,rfl,⟨g,arr,ty,h1,hmi,h3,by rw[h4,hfl],fun j dd hj=>?_⟩,hmb,by simp[dz,hq],id,ho,rfl,.inr ⟨rfl,.box (gP xs fcs'),by simp[bt],rfl,⟨?_,AE _,fun _=>rfl⟩,fun E w' _ hEE χ=>?_⟩⟩
       ·obtain⟨u,k1,k2,k3⟩:=hcell j dd hj
        exact⟨u,k1,k2,Qe k3 (hins j u k1)⟩
       ·show(gP xs fcs').length=xs.length
        exact rx (by rw[hl',hfl])
       ·obtain⟨b',arr',t',k1,k2,k3,k4,k5⟩:=χ
        refine⟨b',arr',t',k1,h2,k3,by rw[k4,rx (by rw[hl',hfl]),hl',hfl],fun j c hj=>?_⟩
        obtain⟨x,dd,r1,r2,rfl⟩:=Il hj;obtain⟨u,r3,r4,r5⟩:=k5 j dd r2;refine⟨u,r3,r4,?_⟩
        cases hs:dt dd with
        |true=>simp only[AV];exact Im r5 hs _
        |false =>
         simp only[Bi,Ag];have r6:=In r5 hs
         obtain⟨u',r7,_,r8⟩:=h5 j x r1;rw[hins j u' r7]at r6;simp at r6
         rw[<-r6];exact r8.mono hEE
     ·cases i with
      |zero =>
       simp at hi;subst hi
       refine⟨v0,rfl,m,rfl,rfl,hv0',fun j dd hj hs=>?_⟩
       obtain⟨u,k1,_,k3⟩:=hcell j dd hj;exact⟨u,hins j u k1,Qf k3 hs,k3⟩
      |succ i =>
       obtain⟨sv,k1,k2⟩:=har i ad (by simpa using hi)
       obtain⟨v,k3,k4⟩:=hvs i sv k1;have k5:=k2 v k4
       rw[CF]at k5;exact⟨v,by simpa using k3,ae3 (fun j'=>by have:=hmt i j';rwa[CF]at this) k5⟩
    ·simp[Rd.run]at hr4
   ·simp[Rd.run]at hr4
  ·simp[Rd.run]at hr2
 ·simp[Rd.run]at hr
end
end Go.Sx
end
section
namespace Go.Sx
open Go.RowKit
section
variable {C:Cx} {σ:State} {mu:Nat->Img} {a:Act} {w:World}
theorem af6{o:Nat}{F:SFV}{svs:List SV}{eff:Eff}(hr:(Hh o F svs).run σ=some eff)(hob:eff.obl)(h:St C σ mu a w){v0:Value}(hv0:aw C.P (σ.env C.wF mu) (.fvs o F) v0)
  {vs:List Value}(hvl:vs.length=svs.length)(hvs:∀(i:Nat) (sv:SV),svs[i]?=some sv->∃v,vs[i]?=some v/\aw C.P (σ.env C.wF mu) sv v){dst:Option Nat}(hd:∀d,dst=some d->d<C.N) :
  ∃g caps,v0=.func (.func g) #[] caps/\(∃fn,C.P.funcs[g]?=some fn/\fn.body.isSome=true/\(fn.name == "runtime.NumGoroutine")=false) /\
  Calls C.P g (vs.toArray++caps) w fun e w'=>∃v,e=.returned v/\ay C (σ.app dst eff) (a.put dst v) w':=by
 simp[Hh,Rd.run]at hr
theorem af7{Γ:FuncId->Option Ctr}(hΓ:di C.P Γ){d:Nat}{f:FuncId}{svs:List SV}{eff:Eff}(hr:(Hg C.P Γ d f svs).run σ=some eff)(hob:eff.obl)(h:St C σ mu a w)
  {vs:List Value}(hvl:vs.length=svs.length)(hvs:∀(i:Nat) (sv:SV),svs[i]?=some sv->∃v,vs[i]?=some v/\aw C.P (σ.env C.wF mu) sv v){dst:Option Nat}(hd:∀d,dst=some d->d<C.N) :
  (∃fn,C.P.funcs[f]?=some fn/\fn.body.isSome=true/\(fn.name == "runtime.NumGoroutine")=false) /\
  Calls C.P f vs.toArray w fun e w'=>∃v,e=.returned v/\ay C (σ.app dst eff) (a.put dst v) w':=by
 simp[Hg,Rd.run]at hr
end
end Go.Sx
end
section
namespace Go.Sx
open Go.RowKit
section
variable {C:Cx} {σ:State} {mu mu':Nat->Img} {a:Act} {w w':World}
theorem af8{Γ:FuncId->Option Ctr}(hΓ:di C.P Γ){d:Nat}{f:FuncId}{o ver i j:Nat}{ts:List TypeId}{eff:Eff}(hr:(Hn C.P Γ d f o ver i j ts).run σ=some eff)(hob:eff.obl)(h:St C σ mu a w)
  {v0 v1:Value}(hv0:aw C.P (σ.env C.wF mu) (.c (.row o ver i)) v0)(hv1:aw C.P (σ.env C.wF mu) (.c (.row o ver j)) v1){dst:Option Nat}(hd:∀d,dst=some d->d<C.N) :
  (∃fn,C.P.funcs[f]?=some fn/\fn.body.isSome=true/\(fn.name == "runtime.NumGoroutine")=false) /\
  Calls C.P f [v0,v1].toArray w fun e w'=>∃v,e=.returned v/\ay C (σ.app dst eff) (a.put dst v) w':=by
 simp[Hn,Rd.run]at hr
end
end Go.Sx
end
section
namespace Go.Sx
open Go.RowKit
section
variable {C:Cx} {σ:State} {mu:Nat->Img} {a:Act} {w:World}
structure GoodT (C:Cx) (mu:Nat->Img) (tot:Tr) (E':Env):Prop where
 wF:E'.wF=C.wF
 at':∀k x ob,(k,x,ob)∈tot->E'.st k=.live (gQ ob).shp/\match x with
  |some o=>E'.mu k=mu o
  |none=>(E'.mu k).hd=.slice none 0 0
def ip(C:Cx)(σ:State)(mu:Nat->Img)(tot os:Tr):Prop:=∀k x ob,(k,x,ob)∈os->match x with
 |some o=>∃ob0,σ.H o=some (some ob0)/\ob0.isFz=false/\((qI ob0=true/\ob=ob0) \/
   ∃cs cs',ob0=.box cs/\ob=.box cs'/\cs'.length=cs.length/\∀E',GoodT C mu tot E'->∀arr,c9 (σ.env C.wF mu) cs arr->c9 E' cs' arr)
 |none=>∃t,jX C.P t=some ob
theorem GoodT.sub{tot tot':Tr}{E':Env}(h:GoodT C mu tot E')(hs:∀t∈tot',t∈tot):GoodT C mu tot' E':=⟨h.wF,fun k x ob hm=>h.at' k x ob (hs _ hm)⟩
theorem ip.up{tot tot' os:Tr}(h:ip C σ mu tot os)(hs:∀t∈tot,t∈tot'):ip C σ mu tot' os:=fun k x ob hm=>by
 have h1:=h k x ob hm
 cases x with
 |none=>exact h1
 |some o =>
  obtain⟨ob0,q1,q2,q3⟩:=h1;refine⟨ob0,q1,q2,q3.imp id ?_⟩
  rintro⟨cs,cs',z1,z2,z3,z4⟩
  exact⟨cs,cs',z1,z2,z3,fun E' hg=>z4 E' (hg.sub hs)⟩
theorem ip.app{tot os os':Tr}(h:ip C σ mu tot os)(h':ip C σ mu tot os'):ip C σ mu tot (os++os'):=fun k x ob hm=>by
 rcases AL.1 hm with hm|hm
 ·exact h k x ob hm
 ·exact h' k x ob hm
def jy(os:Tr):List (Nat×Option Ob):=os.map fun t=>(t.1,some (gQ t.2.2))
theorem Qg(os os':Tr):jy (os++os')=jy os++jy os':=BZ
theorem Qh{P:Program}{t:TypeId}{ob:Ob}(h:jX P t=some ob):gQ ob=ob:=by
 unfold jX at h
 repeat' split at h
 all_goals first|cases h;done|(cases h;rfl)
theorem Qi{α:Type}{k:Nat}{nl:Option Ob}(hnl:∀ob,nl=some ob->∃t,jX C.P t=some ob){c:SC}{K:MC->Tr->Rd α}{r:α}(hr:(wN k nl c K).run σ=some r) :
  ∃x os,(K x os).run σ=some r/\jy os=wo k x/\(∀tot,ip C σ mu tot os)/\∀tot E' v,(∀t∈os,t∈tot)->GoodT C mu tot E'->ai (σ.env C.wF mu) c v->ai E' (Gn k x) v:=by
 have nilT:∀tot:Tr,ip C σ mu tot []:=fun tot k x ob hm=>by cases hm
 unfold wN at hr;split at hr
 ·exact⟨_,_,hr,rfl,nilT,fun tot E' v _ _ hv=>hv⟩
 ·exact⟨_,_,hr,rfl,nilT,fun tot E' v _ _ hv=>hv⟩
 ·exact⟨_,_,hr,rfl,nilT,fun tot E' v _ _ hv=>hv⟩
 ·refine⟨_,_,hr,rfl,nilT,fun tot E' v _ hg hv=>(jY ?_).1⟩
  rw[hg.wF];exact hv.2
 ·refine⟨_,_,hr,rfl,nilT,fun tot E' v _ hg hv=>(jY ?_).1⟩
  rw[hg.wF];exact hv.1.2
 ·rename_i o
  obtain⟨ob,ho,hr⟩:=aZ hr;split at hr
  ·rename_i d
   refine⟨_,_,hr,rfl,nilT,fun tot E' v _ hg hv=>(jY ?_).1⟩
   have h3:=hv.2
   have e:(σ.env C.wF mu).st o=.frz d:=fD ho
   rw[e]at h3;rw[hg.wF];exact h3.2
  ·rename_i hnf0
   have hnf:ob.isFz=false:=by cases ob<;>first|rfl|exact absurd rfl (hnf0 _)
   split at hr
   ·rename_i hok
    refine⟨_,_,hr,rfl,fun tot k' x ob' hm=>?_,fun tot E' v hs hg hv=>?_⟩
    ·simp only[Bb,BB]at hm
     obtain⟨rfl,rfl,rfl⟩:=hm;exact⟨ob',ho,hnf,.inl ⟨hok,rfl⟩⟩
    ·have h1:=aP ho hv hnf
     obtain⟨h2,h3⟩:=hg.at' k (some o) ob (hs _ (by simp))
     refine⟨hv.1,?_⟩
     rw[h2]
     show v=(E'.mu k).hd
     rw[h3];exact h1
   ·cases hr
 ·split at hr
  ·rename_i ob
   refine⟨_,_,hr,?_,fun tot k' x ob' hm=>?_,fun tot E' v hs hg hv=>?_⟩
   ·obtain⟨t,ht⟩:=hnl ob rfl
    show [(k,some (gQ ob))]=[(k,some ob)]
    rw[Qh ht]
   ·simp only[Bb,BB]at hm
    obtain⟨rfl,rfl,rfl⟩:=hm;exact hnl _ rfl
   ·have hv':v=.slice none 0 0:=hv
    obtain⟨h2,h3⟩:=hg.at' k none ob (hs _ (by simp))
    subst hv';refine⟨rfl,?_⟩
    rw[h2];exact h3.symm
  ·cases hr
 ·cases hr
theorem af9{P:Program}{ts:List TypeId}{ob:Ob}(h:OM P ts=some ob):∃t,jX P t=some ob:=by
 cases ts with
 |nil=>cases h
 |cons t ts=>exact⟨t,h⟩
theorem xw:∀(k:Nat) (l:List MC),(fR k l).length=l.length
 |_,[]=>rfl
 |k,x::l=>by simp[fR,xw (k+1) l]
theorem Qj{α:Type}:∀(cs:List SC) (k:Nat) (ts:List TypeId) (K:List MC->Tr->Rd α) (r:α) (_:(wO C.P k cs ts K).run σ=some r),
  ∃l os,(K l os).run σ=some r/\jy os=lI k l/\l.length=cs.length/\(∀tot,ip C σ mu tot os)/\∀tot E',(∀t∈os,t∈tot)->GoodT C mu tot E' ->
   ∀(j:Nat) (c':SC),(fR k l)[j]?=some c'->∃c,cs[j]?=some c/\∀v,ai (σ.env C.wF mu) c v->ai E' c' v
 | [],k,ts,K,r,hr=>⟨[],[],hr,rfl,rfl,fun tot k x ob hm=>(by cases hm),fun _ _ _ _ j c' hj=>by simp[fR]at hj⟩
 |c::cs,k,ts,K,r,hr=>by
  simp only[wO]at hr;obtain⟨x,os,h1,h2,h3,h4⟩:=Qi (C:=C) (mu:=mu) (fun ob h=>af9 h) hr
  obtain⟨l,os',q1,q2,q3,q4,q5⟩:=Qj cs (k+1) ts.tail _ r h1;refine⟨x::l,os++os',q1,by rw[Qg,h2,q2];rfl,by simp[q3],fun tot=>(h3 tot).app (q4 tot),fun tot E' hs hg j c' hj=>?_⟩
  cases j with
  |zero =>
   simp only[fR,B7,AC]at hj;subst hj;exact⟨c,rfl,fun v hv=>h4 tot E' v (fun t ht=>hs t (BF _ ht)) hg hv⟩
  |succ j =>
   simp only[fR,BX]at hj;obtain⟨c2,z1,z2⟩:=q5 tot E' (fun t ht=>hs t (BG _ ht)) hg j c' hj
   exact⟨c2,by simpa using z1,z2⟩
theorem ag0{α:Type}{k:Nat}{t:TypeId}{sv:SV}{K:MA->Tr->Rd α}{r:α}(hr:(Hd C.P k t sv K).run σ=some r) :
  ∃x os,(K x os).run σ=some r/\jy os=OH k x/\(∀tot,(∀t∈os,t∈tot)->ip C σ mu tot os)/\∀tot E' v,(∀t∈os,t∈tot)->GoodT C mu tot E'->aw C.P (σ.env C.wF mu) sv v->aw C.P E' (qw k x) v:=by
 unfold Hd at hr;split at hr
 ·split at hr
  ·rename_i o i
   split at hr
   ·obtain⟨ob,ho,hr⟩:=aZ hr
    split at hr
    ·rename_i cs
     obtain⟨l,os,q1,q2,q3,q4,q5⟩:=Qj (C:=C) (mu:=mu) cs (k+1) _ _ r hr;refine⟨_,_,q1,?_,fun tot hs k' x ob' hm=>?_,fun tot E' v hs hg hv=>?_⟩
     ·show(k,some (Ob.box (fR (k+1) l)))::jy os=_
      rw[q2];rfl
     ·rcases AH.1 hm with hm|hm
      ·simp only[BB]at hm
       obtain⟨rfl,rfl,rfl⟩:=hm;refine⟨_,ho,rfl,.inr ⟨cs,_,rfl,rfl,by rw[xw,q3],fun E' hg arr χ=>⟨by rw[xw,q3];exact χ.1,fun j c' hj=>?_⟩⟩⟩
       obtain⟨c,z1,z2⟩:=q5 tot E' (fun t ht=>hs t (Ab _ ht)) hg j c' hj
       obtain⟨u,z3,z4,z5⟩:=χ.2 j c z1;exact⟨u,z3,z4,z2 u z5⟩
      ·exact q4 tot k' x ob' hm
     ·obtain⟨h2,h3⟩:=hg.at' k (some o) _ (hs _ At)
      obtain⟨h4,h5⟩:=aP ho hv;refine⟨hv.1,?_⟩
      rw[h2];refine⟨?_,?_⟩
      ·show 0<(fR (k+1) l).length
       rw[xw,q3];exact h4
      ·rw[h3];exact h5
    ·cases hr
   ·cases hr
  ·obtain⟨x,os,h1,h2,h3,h4⟩:=Qi (C:=C) (mu:=mu) (fun ob h=>⟨t,h⟩) hr
   exact⟨_,_,h1,h2,fun tot _=>h3 tot,h4⟩
 ·cases hr
theorem Io:∀{mas:List MA} {i t:Nat} {sv:SV},lk (wp i mas) t=some sv->∃j x,mas[j]?=some x/\t=i+j/\sv=qw (da t) x
 | [],i,t,sv,h=>by cases h
 |x::l,i,t,sv,h=>by
  simp only[wp,bt]at h;split at h
  ·rename_i he
   subst he;cases h;exact⟨0,x,rfl,rfl,rfl⟩
  ·obtain⟨j,y,h1,h2,h3⟩:=Io h
   exact⟨j+1,y,by simpa using h1,by omega,h3⟩
theorem Qk{α:Type}:∀(svs:List SV) (i:Nat) (ts:List TypeId) (K:List MA->Tr->Rd α) (r:α) (_:(wP C.P i svs ts K).run σ=some r),
  ∃mas os,(K mas os).run σ=some r/\jy os=iO i mas/\mas.length=svs.length/\(∀tot,(∀t∈os,t∈tot)->ip C σ mu tot os)/\∀tot E',(∀t∈os,t∈tot)->GoodT C mu tot E' ->
   ∀(j:Nat) (x:MA),mas[j]?=some x->∃sv,svs[j]?=some sv/\∀v,aw C.P (σ.env C.wF mu) sv v->aw C.P E' (qw (da (i+j)) x) v
 | [],i,ts,K,r,hr=>⟨[],[],hr,rfl,rfl,fun tot _ k x ob hm=>(by cases hm),fun _ _ _ _ j x hj=>by simp at hj⟩
 |sv::svs,i,ts,K,r,hr=>by
  simp only[wP]at hr;obtain⟨x,os,h1,h2,h3,h4⟩:=ag0 (C:=C) (mu:=mu) hr;obtain⟨l,os',q1,q2,q3,q4,q5⟩:=Qk svs (i+1) ts.tail _ r h1;refine⟨x::l,os++os',q1,by rw[Qg,h2,q2];rfl,by simp[q3],
   fun tot hs=>(h3 tot fun t ht=>hs t (BF _ ht)).app (q4 tot fun t ht=>hs t (BG _ ht)),fun tot E' hs hg j y hj=>?_⟩
  cases j with
  |zero =>
   simp only[B7,AC]at hj;subst hj;exact⟨sv,rfl,fun v hv=>h4 tot E' v (fun t ht=>hs t (BF _ ht)) hg hv⟩
  |succ j =>
   simp only[BX]at hj;obtain⟨sv2,z1,z2⟩:=q5 tot E' (fun t ht=>hs t (BG _ ht)) hg j y hj
   exact⟨sv2,by simpa using z1,by rw[show i+(j+1)=i+1+j by omega];exact z2⟩
theorem ag1{E E':Env}(hE:E'.wF=E.wF){w:World}{m:Img}{ob:Ob}(h:aR E w m ob)(hok:qI ob=true):aR E' w m (gQ ob):=by
 cases ob with
 |ints e k l=>exact h
 |bools e l=>exact h
 |rows v e ei k l=>exact h
 |tr v es d=>exact h
 |lst v e d =>
  obtain⟨q1,vs,q2,q3⟩:=h;exact⟨q1,vs,q2,fun i u hi=>let⟨r1,fc,r2,r3⟩:=q3 i u hi;⟨r1,fc,r2,by rw[hE];exact r3⟩⟩
 |yd v Y pre g=>exact⟨h.1,by rw[hE];exact h.2.1,h.2.2⟩
 |_=>cases hok
def iX:Ob->Img
 |.tr _ es _=>dw es.length (bu (.slice none 0 0) [])
 |_=>⟨.slice none 0 0,[]⟩
theorem Ql(ob:Ob):(iX ob).hd=.slice none 0 0:=by cases ob<;>rfl
theorem xx{P:Program}{t:TypeId}{ob:Ob}(h:jX P t=some ob)(E:Env)(w:World):aR E w (iX ob) ob/\(iX ob).blocks=[]/\ob.isFz=false:=by
 unfold jX at h;split at h
 ·cases h
 ·split at h
  ·cases h;exact⟨⟨rfl,World.ownsRow_nil _ _ _ _⟩,rfl,rfl⟩
  ·cases h;exact⟨⟨rfl,World.ownsRow_nil _ _ _ _⟩,rfl,rfl⟩
  ·split at h
   ·cases h;exact⟨⟨rfl,[],World.ownsRow_nil _ _ _ _,fun i u hi=>by simp at hi⟩,rfl,rfl⟩
   ·split at h
    ·rename_i k l _
     split at h
     ·rename_i a b c _ _
      cases h;have hT:br w [a,b,c] (bu (.slice none 0 0) []) (.r3 k []):=HE rfl rfl fun h0=>by cases h0
      exact⟨⟨_,rfl,hT⟩,(ef hT).trans (HF _),rfl⟩
     ·cases h
    ·cases h
  ·cases h
theorem pc:∀{os:Tr} {k:Nat} {x:Option Nat×Ob},eH os k=some x->(k,x)∈os
 | [],k,x,h=>by cases h
 |(k',y)::os,k,x,h=>by
  simp only[eH]at h;split at h
  ·rename_i hb
   have:=AX hb
   subst this;cases h;exact At
  ·exact Ab _ (pc h)
theorem lX:∀{os:Tr} {k:Nat} {x:Option Nat×Ob},(os.map (·.1)).Nodup->(k,x)∈os->eH os k=some x
 |(k',y)::os,k,x,hn,h=>by
  simp only[BP,Aa]at hn;simp only[eH];rcases AH.1 h with h|h
  ·cases h
   rw[show Nat.beq k' k'=true from Nat.beq_refl k']
  ·have:k'≠k:=fun e=>hn.1 (e ▸ AT.2 ⟨(k,x),h,rfl⟩)
   rw[show Nat.beq k' k=false from by
    cases hb:Nat.beq k' k with
    |false=>rfl
    |true=>exact absurd (AX hb) this]
   exact lX hn.2 h
theorem ag2{os:Tr}{k:Nat}:lk (jy os) k=(eH os k).map fun x=>some (gQ x.2):=by
 induction os with
 |nil=>rfl
 |cons t os ih =>
  obtain⟨k',x,ob⟩:=t
  show lk ((k',some (gQ ob))::jy os) k=_
  rw[bt,ih];simp only[eH];by_cases h:k'=k
  ·subst h;simp
  ·have:Nat.beq k' k=false:=by
    cases hb:Nat.beq k' k with
    |false=>rfl
    |true=>exact absurd (AX hb) h
   simp[h,this]
theorem ry:∀{os:Tr} {o:Nat},o∈iS os↔∃k ob,(k,some o,ob)∈os
 | [],o=>by simp[iS]
 |(k,some o',ob)::os,o=>by
  simp only[iS,AH,ry,BB,AC]
  constructor
  ·rintro(rfl|⟨k',ob',h⟩)
   ·exact⟨k,ob,.inl ⟨rfl,rfl,rfl⟩⟩
   ·exact⟨k',ob',.inr h⟩
  ·rintro⟨k',ob',⟨rfl,rfl,rfl⟩|h⟩
   ·exact .inl rfl
   ·exact .inr ⟨k',ob',h⟩
 |(k,none,ob)::os,o=>by
  simp only[iS,ry,AH,BB]
  constructor
  ·rintro⟨k',ob',h⟩;exact⟨k',ob',.inr h⟩
  ·rintro⟨k',ob',⟨_,h,_⟩|h⟩
   ·cases h
   ·exact⟨k',ob',h⟩
theorem xy{o k k':Nat}{ob ob':Ob}:∀{os:Tr},(iS os).Nodup->(k,some o,ob)∈os->(k',some o,ob')∈os->k=k'
 | [],_,h,_=>by cases h
 |(k0,none,ob0)::os,hn,h,h'=>by
  have h1:(k,some o,ob)∈os:=by simpa using h
  have h2:(k',some o,ob')∈os:=by simpa using h'
  exact xy (os:=os) hn h1 h2
 |(k0,some o0,ob0)::os,hn,h,h'=>by
  obtain⟨hn1,hn2⟩:=Aa.1 (show(o0::iS os).Nodup from hn)
  rcases AH.1 h with h|h
  ·injection h with e1 e2
   injection e2 with e2 e3
   injection e2 with e2
   rcases AH.1 h' with h' |h'
   ·injection h' with f1 _
    rw[e1,f1]
   ·exact absurd (ry.2 ⟨_,_,e2 ▸ h'⟩) hn1
  ·rcases AH.1 h' with h' |h'
   ·injection h' with f1 f2
    injection f2 with f2 f3
    injection f2 with f2
    exact absurd (ry.2 ⟨_,_,f2 ▸ h⟩) hn1
   ·exact xy (os:=os) hn2 h h'
theorem Qm{f:Nat->Nat}{E E':Env}(hw:bJ E.wF E'.wF)(hst:∀k,E.st k=.absent\/∃s s',E.st k=.live s/\E'.st (f k)=.live s'/\s'.len=s.len/\(E'.mu (f k)).hd=(E.mu k).hd)
  {c c':SC}(h:oT f c=some c'){v:Value}(hv:ai E c v):ai E' c' v:=by
 unfold oT at h;split at h
 all_goals first|(cases h;exact hv)|skip
 ·cases h;exact⟨hv.1,hv.2.mono hw⟩
 ·rename_i k
  cases h;obtain⟨h1,h2⟩:=hv;rcases hst k with h3|⟨s,s',h3,h4,h5,h6⟩
  ·rw[h3]at h2;exact h2.elim
  ·rw[h3]at h2
   refine⟨h1,?_⟩
   rw[h4]
   show v=_
   rw[h6];exact h2
 ·rename_i k i
  cases h;obtain⟨h1,h2⟩:=hv;rcases hst k with h3|⟨s,s',h3,h4,h5,h6⟩
  ·rw[h3]at h2;exact h2.elim
  ·rw[h3]at h2
   obtain⟨z1,z2⟩:=h2;refine⟨h1,?_⟩
   rw[h4];refine⟨by rw[h5];exact z1,?_⟩
   rw[h6];exact z2
 ·cases h
theorem Qn{f:Nat->Nat}{E E':Env}(hw:bJ E.wF E'.wF)(hst:∀k,E.st k=.absent\/∃s s',E.st k=.live s/\E'.st (f k)=.live s'/\s'.len=s.len/\(E'.mu (f k)).hd=(E.mu k).hd)
  {cs cs':List SC}(h:eG (oT f) cs=some cs'){arr:Array Value}(hv:c9 E cs arr):c9 E' cs' arr:=by
 obtain⟨h1,h2⟩:=im h;refine⟨by rw[h1];exact hv.1,fun i c hi=>?_⟩
 obtain⟨x,h3,h4⟩:=h2 i c hi;obtain⟨u,h5,h6,h7⟩:=hv.2 i x h3;exact⟨u,h5,h6,Qm hw hst h4 h7⟩
theorem ag3{P:Program}{f:Nat->Nat}{E E':Env}(hw:bJ E.wF E'.wF)(hst:∀k,E.st k=.absent\/∃s s',E.st k=.live s/\E'.st (f k)=.live s'/\s'.len=s.len/\(E'.mu (f k)).hd=(E.mu k).hd)
  {c c':SV}(h:wQ f c=some c'){v:Value}(hv:aw P E c v):aw P E' c' v:=by
 unfold wQ at h;split at h
 ·split at h
  ·rename_i h1;cases h;exact Qm hw hst h1 hv
  ·cases h
 ·split at h
  ·rename_i h1;cases h;obtain⟨arr,h2,h3⟩:=hv;exact⟨arr,h2,Qn hw hst h1 h3⟩
  ·cases h
 ·split at h
  ·cases h;obtain⟨arr,h2,h3,h4⟩:=hv;exact⟨arr,h2,h3,fun i c hi=>by simp at hi⟩
  ·cases h
 ·cases h
theorem Qo{f:Nat->Nat}{E E':Env}(hw:bJ E.wF E'.wF)(hst:∀k,E.st k=.absent\/∃s s',E.st k=.live s/\E'.st (f k)=.live s'/\s'.len=s.len/\(E'.mu (f k)).hd=(E.mu k).hd)
  {ob ob':Ob}(h:jq f ob=some ob'){w:World}{m:Img}(hv:aR E w m ob):aR E' w m ob':=by
 unfold jq at h;split at h
 ·split at h
  ·rename_i h1
   cases h;obtain⟨b,arr,t,z1,z2,z3,z4⟩:=hv;exact⟨b,arr,t,z1,z2,z3,Qn hw hst h1 z4⟩
  ·cases h
 ·split at h
  ·rename_i hok
   cases h;cases ob with
   |lst v e d =>
    obtain⟨q1,vs,q2,q3⟩:=hv;exact⟨q1,vs,q2,fun i u hi=>let⟨r1,fc,r2,r3⟩:=q3 i u hi;⟨r1,fc,r2,r3.mono hw⟩⟩
   |yd v Y pre g=>exact⟨hv.1,hv.2.1.trans hw,hv.2.2⟩
   |ints e k l=>exact hv
   |bools e l=>exact hv
   |rows v e ei k l=>exact hv
   |tr v es d=>exact hv
   |_=>cases hok
  ·cases h
theorem Ip{f:Nat->Nat}{ob ob':Ob}(h:jq f ob=some ob'):ob'.shp=ob.shp/\ob'.isFz=false/\ob.isFz=false:=by
 unfold jq at h;split at h
 ·split at h
  ·rename_i h1
   cases h;exact⟨by show(⟨_,_,_⟩:Shp)=⟨_,_,_⟩;rw[(im h1).1],rfl,rfl⟩
  ·cases h
 ·split at h
  ·rename_i hok
   cases h;refine⟨rfl,?_,?_⟩<;>cases ob<;>first|rfl|cases hok
  ·cases h
theorem ag4{E:Env}{w:World}{m:Img}{ob0 ob:Ob}(h:aR E w m ob):aR E w m (fS ob0 ob):=by
 unfold fS;split
 ·exact h
 ·exact h
theorem ag5{ob0 ob:Ob}:(fS ob0 ob).shp.len=ob.shp.len:=by
 unfold fS;split<;>rfl
theorem Qp{ob0 ob:Ob}(h:ob.isFz=false):(fS ob0 ob).isFz=false:=by
 unfold fS;split
 ·rfl
 ·exact h
theorem Qq{d:Nat}{os:Tr}:∀{O kept new:List (Nat×Option Ob)},qK d os O=some (kept,new) ->
  (∀k x,(k,x)∈O->∃ob ob',x=some ob/\jq (eR d os) ob=some ob'/\((∃o ob0,eH os k=some (some o,ob0)/\qJ ob0 ob=true/\(o,some (fS ob0 ob'))∈kept)\/(eH os k=none/\(d+1000*k,some ob')∈new))) /\
  (∀o y,(o,y)∈kept->∃k ob ob' ob0,(k,some ob)∈O/\eH os k=some (some o,ob0)/\jq (eR d os) ob=some ob'/\qJ ob0 ob=true/\y=some (fS ob0 ob')) /\
  (∀o y,(o,y)∈new->∃k ob ob',(k,some ob)∈O/\eH os k=none/\o=d+1000*k/\jq (eR d os) ob=some ob'/\y=some ob')
 | [],kept,new,h=>by
  cases h;exact⟨fun k x hm=>(by cases hm),fun o y hm=>(by cases hm),fun o y hm=>(by cases hm)⟩
 |(k,none)::O,kept,new,h=>by cases h
 |(k,some ob)::O,kept,new,h=>by
  simp only[qK]at h;split at h
  ·cases h
  ·rename_i ob' hr
   split at h
   ·cases h
   ·rename_i kept' new' hu
    obtain⟨i1,i2,i3⟩:=Qq hu;split at h
    ·rename_i o ob0 hlk
     split at h
     ·rename_i hok
      cases h;refine⟨fun k' x hm=>?_,fun o' y hm=>?_,fun o' y hm=>?_⟩
      ·rcases AH.1 hm with hm|hm
       ·cases hm
        exact⟨_,_,rfl,hr,.inl ⟨o,ob0,hlk,hok,At⟩⟩
       ·obtain⟨a1,a2,b1,b2,b3⟩:=i1 k' x hm
        refine⟨a1,a2,b1,b2,b3.imp ?_ id⟩
        rintro⟨o2,ob2,c1,c2,c3⟩
        exact⟨o2,ob2,c1,c2,Ab _ c3⟩
      ·rcases AH.1 hm with hm|hm
       ·cases hm
        exact⟨k,ob,ob',ob0,At,hlk,hr,hok,rfl⟩
       ·obtain⟨k2,a1,a2,a3,b1,b2⟩:=i2 o' y hm
        exact⟨k2,a1,a2,a3,Ab _ b1,b2⟩
      ·obtain⟨k2,a1,a2,b1,b2⟩:=i3 o' y hm
       exact⟨k2,a1,a2,Ab _ b1,b2⟩
     ·cases h
    ·cases h
    ·rename_i hlk
     cases h;refine⟨fun k' x hm=>?_,fun o' y hm=>?_,fun o' y hm=>?_⟩
     ·rcases AH.1 hm with hm|hm
      ·cases hm
       exact⟨_,_,rfl,hr,.inr ⟨hlk,At⟩⟩
      ·obtain⟨a1,a2,b1,b2,b3⟩:=i1 k' x hm
       refine⟨a1,a2,b1,b2,b3.imp id ?_⟩
       rintro⟨c1,c2⟩
       exact⟨c1,Ab _ c2⟩
     ·obtain⟨k2,a1,a2,a3,b1,b2⟩:=i2 o' y hm
      exact⟨k2,a1,a2,a3,Ab _ b1,b2⟩
     ·rcases AH.1 hm with hm|hm
      ·cases hm
       exact⟨k,ob,ob',At,hlk,rfl,hr,rfl⟩
      ·obtain⟨k2,a1,a2,b1,b2⟩:=i3 o' y hm
       exact⟨k2,a1,a2,Ab _ b1,b2⟩
theorem rz{hp:List (Nat×Option Ob)}:∀{os:Tr} {o:Nat} {y:Option Ob},(o,y)∈de hp os↔y=none/\∃k ob,(k,some o,ob)∈os/\lk hp k=none
 | [],o,y=>by simp[de]
 |(k0,none,ob0)::os,o,y=>by
  rw[show de hp ((k0,none,ob0)::os)=de hp os from rfl,rz]
  simp
 |(k0,some o0,ob0)::os,o,y=>by
  simp only[de];cases hl:lk hp k0 with
  |none =>
   simp only[AH,rz,BB]
   constructor
   ·rintro(⟨rfl,rfl⟩|⟨rfl,k,ob,h1,h2⟩)
    ·exact⟨rfl,k0,ob0,.inl ⟨rfl,rfl,rfl⟩,hl⟩
    ·exact⟨rfl,k,ob,.inr h1,h2⟩
   ·rintro⟨rfl,k,ob,⟨rfl,h1,rfl⟩|h1,h2⟩
    ·injection h1 with h1;exact .inl ⟨h1,rfl⟩
    ·exact .inr ⟨rfl,k,ob,h1,h2⟩
  |some z =>
   simp only[rz,AH,BB]
   constructor
   ·rintro⟨rfl,k,ob,h1,h2⟩;exact⟨rfl,k,ob,.inr h1,h2⟩
   ·rintro⟨rfl,k,ob,⟨rfl,_,_⟩|h1,h2⟩
    ·rw[hl]at h2;cases h2
    ·exact⟨rfl,k,ob,h1,h2⟩
def rA:Tr->Nat->Option Nat
 | [],_=>none
 |(k,some o',_)::l,o=>match Nat.beq o' o with
  |true=>some k
  |false=>rA l o
 |(_,none,_)::l,o=>rA l o
theorem Iq{o k:Nat}{ob:Ob}:∀{os:Tr},(iS os).Nodup->(k,some o,ob)∈os->rA os o=some k
 | [],_,h=>by cases h
 |(k0,none,ob0)::os,hn,h=>Iq (os:=os) hn (by simpa using h)
 |(k0,some o0,ob0)::os,hn,h=>by
  obtain⟨hn1,hn2⟩:=Aa.1 (show(o0::iS os).Nodup from hn)
  simp only[rA];rcases AH.1 h with h|h
  ·injection h with e1 e2
   injection e2 with e2 e3
   injection e2 with e2
   rw[e2,show Nat.beq o0 o0=true from Nat.beq_refl o0,e1]
  ·have:o0≠o:=fun e=>hn1 (e ▸ ry.2 ⟨_,_,h⟩)
   rw[show Nat.beq o0 o=false from by
    cases hb:Nat.beq o0 o with
    |false=>rfl
    |true=>exact absurd (AX hb) this]
   exact Iq hn2 h
theorem xz{α:Type}:∀{l:List (Nat×α)} {k:Nat} {x:α},(l.map (·.1)).Nodup->(k,x)∈l->lk l k=some x
 | [],k,x,_,h=>by cases h
 |(k',y)::l,k,x,hn,h=>by
  simp only[BP,Aa]at hn;rw[bt];rcases AH.1 h with h|h
  ·cases h;rw[AA rfl]
  ·have hne:¬ k'=k:=by
    intro e
    subst e;exact hn.1 (AT.2 ⟨_,h,rfl⟩)
   rw[AB hne];exact xz hn.2 h
theorem lY{α:Type}:∀{l:List (Nat×α)} {k:Nat} {x:α},lk l k=some x->(k,x)∈l
 | [],k,x,h=>by cases h
 |(k',y)::l,k,x,h=>by
  rw[bt]at h;split at h
  ·rename_i e;subst e;cases h;exact At
  ·exact Ab _ (lY h)
theorem lZ{α:Type}:∀{l:List (Nat×α)} {o:Nat},o∈l.map (·.1)->∃x,lk l o=some x
 | [],o,h=>by simp at h
 |(k,v)::l,o,h=>by
  rw[bt];by_cases hk:k=o
  ·exact⟨v,by rw[AA hk]⟩
  ·rw[AB hk]
   refine lZ ?_
   simp only[BP,AH]at h;rcases h with h|h
   ·exact absurd h.symm hk
   ·exact h
theorem Qr(ob:Ob):(gQ ob).isFz=ob.isFz:=by cases ob<;>rfl
theorem ag6{d:Nat}{f:FuncId}{mas:List MA}{os:Tr}{sv sv':SV}{O kept new:List (Nat×Option Ob)}(ω:PV C.P f mas sv O)(h:St C σ mu a w)
  (hH:jy os=iO 0 mas)(hok:ip C σ mu os os)(hk:(os.map (·.1)).Nodup)(ho:(iS os).Nodup)(hO:(O.map (·.1)).Nodup)
  (hv:wQ (eR d os) sv=some sv')(hu:qK d os O=some (kept,new))(θ:∀o x,lk new o=some x->σ.H o=none)
  {vs:List Value}(hvl:vs.length=mas.length)
  (hargs:∀E',GoodT C mu os E'->∀(j:Nat) (x:MA),mas[j]?=some x->∃v,vs[j]?=some v/\aw C.P E' (qw (da j) x) v)
  {pp:Option Prop}{dst:Option Nat}(hd:∀d,dst=some d->d<C.N) :
  Calls C.P f vs.toArray w fun e w'=>∃v,e=.returned v/\ay C (σ.app dst ⟨sv',new++(kept++de O os),pp⟩) (a.put dst v) w':=by
 obtain⟨muc,hmuc⟩:∃muc:Nat->Img,muc=fun k=>match eH os k with
  |some (some o,_)=>mu o
  |some (none,ob)=>iX ob
  |none=>⟨undef,[]⟩:=⟨_,rfl⟩
 obtain⟨M,hM⟩:∃M:Nat->Prop,M=fun b=>∃k o ob,(k,some o,ob)∈os/\b∈(mu o).blocks:=⟨_,rfl⟩
 let C1:Cx:=⟨C.P,mas.length,w,C.wF,M,fun k=>match(eH os k).isSome&&(lk O k).isSome with|true=>some (muc k)|false=>none⟩
 have hHk:∀k,(fB mas).H k=(eH os k).map fun x=>some (gQ x.2):=fun k=>by
  show lk (iO 0 mas) k=_
  rw[<-hH,ag2]
 have hlive:∀k o ob,(k,some o,ob)∈os->∃ob0,σ.H o=some (some ob0)/\ob0.isFz=false/\ob.isFz=false/\muc k=mu o:=fun k o ob hm=>by
  obtain⟨ob0,q1,q2,q3⟩:=hok k (some o) ob hm;refine⟨ob0,q1,q2,?_,by rw[hmuc];simp only[lX hk hm]⟩
  rcases q3 with⟨_,rfl⟩|⟨cs,cs',_,rfl,_⟩
  ·exact q2
  ·rfl
 have hnil:∀k ob,(k,none,ob)∈os->(∃t,jX C.P t=some ob)/\muc k=iX ob:=fun k ob hm =>
  ⟨hok k none ob hm,by rw[hmuc];simp only[lX hk hm]⟩
 have hkey:∀k ob,(fB mas).H k=some (some ob)->∃x ob1,(k,x,ob1)∈os/\ob=gQ ob1:=fun k ob hq=>by
  rw[hHk]at hq;cases hl:eH os k with
  |none=>rw[hl]at hq;cases hq
  |some y =>
   rw[hl]at hq;simp only[CE,AC]at hq;exact⟨y.1,y.2,pc hl,hq.symm⟩
 have hnf:∀k x ob,(k,x,ob)∈os->ob.isFz=false:=fun k x ob hm=>by
  cases x with
  |some o=>obtain⟨_,_,_,q,_⟩:=hlive k o ob hm;exact q
  |none=>obtain⟨t,ht⟩:=(hnil k ob hm).1;exact(xx ht (E0 w) w).2.2
 have hgood:GoodT C mu os ((fB mas).env C.wF muc):=⟨rfl,fun k x ob hm=>by
  have hl:=lX hk hm
  refine⟨?_,?_⟩
  ·show(fB mas).ost k=_
   have:(fB mas).H k=some (some (gQ ob)):=by rw[hHk,hl];rfl
   exact cr this (by rw[Qr];exact hnf k x ob hm)
  ·cases x with
   |some o=>obtain⟨_,_,_,_,q⟩:=hlive k o ob hm;exact q
   |none=>show(muc k).hd=_;rw[(hnil k ob hm).2];exact Ql ob⟩
 have hbl:∀k x ob,(k,x,ob)∈os->∀b∈(muc k).blocks,∃o ob0,x=some o/\σ.H o=some (some ob0)/\b∈(mu o).blocks:=fun k x ob hm b hb=>by
  cases x with
  |some o=>obtain⟨ob0,q1,_,_,q⟩:=hlive k o ob hm;exact⟨o,ob0,rfl,q1,by rw[<-q];exact hb⟩
  |none =>
   obtain⟨⟨t,ht⟩,q⟩:=hnil k ob hm;rw[q,(xx ht (E0 w) w).2.1]at hb;cases hb
 have hst:St C1 (fB mas) muc ⟨vs.toArray,[]⟩ w:=by
  refine⟨.refl _,rfl,rfl,AE _,fun _ _ _=>rfl,fun p u hp=>⟨fun k ob hk2 hb=>?_,(h.cells p u hp).2⟩,by simp[C1,hvl],.nil,fun t sv ht=>?_,fun k ob hk2=>?_,fun k ob hk2=>⟨?_,fun b hb=>?_⟩,fun k k' ob ob' hne hk2 hk2' b hb hb'=>?_,fun k m hm=>?_⟩
  ·obtain⟨x,ob1,q1,_⟩:=hkey k ob hk2
   obtain⟨o,ob0,_,q3,q4⟩:=hbl k x ob1 q1 _ hb;exact(h.cells p u hp).1 o ob0 q3 q4
  ·obtain⟨j,x,q1,q2,rfl⟩:=Io ht
   rw[AK]at q2;subst q2;obtain⟨v,q3,q4⟩:=hargs _ hgood t x q1;have ψ:=(AJ.1 q3).1
   have:(vs.toArray).getD t undef=v:=by
    rw[BM];simp[q3]
   rw[this];exact q4
  ·obtain⟨x,ob1,q1,rfl⟩:=hkey k ob hk2
   cases x with
   |some o =>
    obtain⟨ob0,z1,z2,z3⟩:=hok k (some o) ob1 q1;obtain⟨_,_,_,_,z4⟩:=hlive k o ob1 q1;rw[z4];rcases z3 with⟨z5,rfl⟩|⟨cs,cs',rfl,rfl,_,z5⟩
    ·exact ag1 (E:=σ.env C.wF mu) (E':=(fB mas).env C1.wF muc) rfl (h.ob o _ z1) z5
    ·obtain⟨b,arr,t,y1,y2,y3,y4⟩:=h.ob o _ z1
     exact⟨b,arr,t,y1,y2,y3,z5 _ hgood arr y4⟩
   |none =>
    obtain⟨⟨t,ht⟩,z4⟩:=hnil k ob1 q1;rw[z4,Qh ht];exact(xx ht _ w).1
  ·obtain⟨x,ob1,q1,rfl⟩:=hkey k ob hk2
   cases x with
   |some o=>obtain⟨ob0,z1,_,_,z4⟩:=hlive k o ob1 q1;rw[z4];exact(h.nd o ob0 z1).1
   |none=>obtain⟨⟨t,ht⟩,z4⟩:=hnil k ob1 q1;rw[z4,(xx ht (E0 w) w).2.1];exact .nil
  ·obtain⟨x,ob1,q1,rfl⟩:=hkey k ob hk2
   obtain⟨o,ob0,rfl,_,q4⟩:=hbl k x ob1 q1 b hb;exact .inl (by show M b;rw[hM];exact⟨k,o,ob1,q1,q4⟩)
  ·obtain⟨x,ob1,q1,rfl⟩:=hkey k ob hk2
   obtain⟨x',ob1',q1',rfl⟩:=hkey k' ob' hk2';obtain⟨o,ob0,rfl,q3,q4⟩:=hbl k x ob1 q1 b hb;obtain⟨o',ob0',rfl,q3',q4'⟩:=hbl k' x' ob1' q1' b hb';refine h.sep o o' ob0 ob0' (fun e=>hne ?_) q3 q3' b q4 q4'
   subst e;exact xy ho q1 q1'
  ·have hm:(match(eH os k).isSome&&(lk O k).isSome with|true=>some (muc k)|false=>none)=some m:=hm
   split at hm
   ·rename_i hb
    cases hm;simp only[AG]at hb;obtain⟨y,hy⟩:=DZ.1 hb.1;have hl:(fB mas).H k=some (some (gQ y.2)):=by rw[hHk,hy];rfl
    rw[cr hl (by rw[Qr];exact hnf k y.1 y.2 (pc hy))]
    exact⟨rfl,fun _=>rfl⟩
   ·cases hm
 have hpin:∀o m,C1.pin o=some m->o∈Gp mas O:=fun k m hm=>by
  have hm:(match(eH os k).isSome&&(lk O k).isSome with|true=>some (muc k)|false=>none)=some m:=hm
  split at hm
  ·rename_i hb
   simp only[AG]at hb;unfold Gp;rw[BH];refine⟨?_,hb.2⟩
   obtain⟨y,hy⟩:=DZ.1 hb.1;rw[<-hH];exact AT.2 ⟨(k,some (gQ y.2)),AT.2 ⟨(k,y),pc hy,rfl⟩,rfl⟩
  ·cases hm
 refine(ω C1 muc vs w rfl rfl rfl hvl hpin hst).mono ?_
 rintro e w' ⟨v,rfl,wG,muo,hg,hst2⟩
 refine⟨v,rfl,?_⟩
 obtain⟨u1,u2,u3⟩:=Qq hu;obtain⟨mu',hmu'⟩:∃mu':Nat->Img,mu'=fun o=>match lk new o with
  |some _=>muo ((o-d) / 1000)
  |none=>match lk kept o with
   |some _=>(match rA os o with|some k=>muo k|none=>mu o)
   |none=>mu o:=⟨_,rfl⟩
 have hnew:∀o y,lk new o=some y->∃k ob ob',lk O k=some (some ob)/\eH os k=none/\o=d+1000*k/\jq (eR d os) ob=some ob'/\y=some ob'/\mu' o=muo k:=fun o y hy=>by
  obtain⟨k,ob,ob',q1,q2,q3,q4,q5⟩:=u3 o y (lY hy);refine⟨k,ob,ob',xz hO q1,q2,q3,q4,q5,?_⟩
  rw[hmu'];simp only[hy];rw[show(o-d) / 1000=k by omega]
 have hkpt:∀o y,lk new o=none->lk kept o=some y->∃k ob ob' ob0 obx,lk O k=some (some ob)/\(k,some o,ob0)∈os/\jq (eR d os) ob=some ob'/\qJ ob0 ob=true/\y=some (fS ob0 ob')/\mu' o=muo k/\σ.H o=some (some obx)/\obx.isFz=false/\muc k=mu o:=fun o y hn hy=>by
  obtain⟨k,ob,ob',ob0,q1,q2,q3,q4,q5⟩:=u2 o y (lY hy);have hm:=pc q2
  obtain⟨obx,z1,z2,_,z4⟩:=hlive k o ob0 hm;refine⟨k,ob,ob',ob0,obx,xz hO q1,hm,q3,q4,q5,?_,z1,z2,z4⟩
  rw[hmu'];simp only[hn,hy,Iq ho hm]
 have hdead:∀o y,lk (de O os) o=some y->y=none/\∃k ob obx,(k,some o,ob)∈os/\σ.H o=some (some obx):=fun o y hy=>by
  obtain⟨rfl,k,ob,q1,_⟩:=rz.1 (lY hy);obtain⟨obx,z1,_⟩:=hlive k o ob q1;exact⟨rfl,k,ob,obx,q1,z1⟩
 have hσ':∀o,(σ.app dst ⟨sv',new++(kept++de O os),pp⟩).H o=match lk new o with
   |some y=>some y
   |none=>match lk kept o with
    |some y=>some y
    |none=>match lk (de O os) o with
     |some y=>some y
     |none=>σ.H o:=fun o=>by
  show lk ((new++(kept++de O os))++σ.hp) o=_
  rw[gt,gt,gt];cases lk new o with
  |some y=>rfl
  |none =>
   cases lk kept o with
   |some y=>rfl
   |none=>cases lk (de O os) o<;>rfl
 have hout:∀k ob,lk O k=some (some ob)->∃ob',jq (eR d os) ob=some ob'/\ob.isFz=false/\(jP sv O).H k=some (some ob):=fun k ob hl=>by
  obtain⟨ob1,ob',e1,e2,_⟩:=u1 k _ (lY hl);cases e1;exact⟨ob',e2,(Ip e2).2.2,hl⟩
 have hnm:∀k ob,lk O k=some (some ob)->∃ob',(σ.app dst ⟨sv',new++(kept++de O os),pp⟩).H (eR d os k)=some (some ob')/\ob'.isFz=false/\ob'.shp.len=ob.shp.len/\mu' (eR d os k)=muo k:=fun k ob hl=>by
  obtain⟨ob1,ob',e1,e2,e3⟩:=u1 k _ (lY hl);cases e1;obtain⟨s1,s2,s3⟩:=Ip e2;rcases e3 with⟨o,ob0,z1,z2,z3⟩|⟨z1,z2⟩
  ·have hm:=pc z1
   obtain⟨obx,y1,_⟩:=hlive k o ob0 hm;have hn:lk new o=none:=by
    cases hq:lk new o with
    |none=>rfl
    |some y=>have:=θ o y hq;rw[y1]at this;cases this
   have hnmk:eR d os k=o:=by simp only[eR,z1]
   rw[hnmk];obtain⟨y,hy⟩:=lZ (AT.2 ⟨_,z3,rfl⟩);obtain⟨k2,ob2,ob2',ob02,obx2,r1,r2,r3,r4,r5,r6,_⟩:=hkpt o y hn hy;have:k2=k:=xy ho r2 hm
   subst this;rw[hl]at r1;cases r1;rw[e2]at r3;cases r3;refine⟨fS ob02 ob',by rw[hσ',hn];simp only[hy,r5],Qp s2,?_,r6⟩
   rw[ag5,s1]
  ·have hnmk:eR d os k=d+1000*k:=by simp only[eR,z1]
   rw[hnmk];obtain⟨y,hy⟩:=lZ (AT.2 ⟨_,z2,rfl⟩);obtain⟨k2,ob2,ob2',r1,r2,r3,r4,r5,r6⟩:=hnew _ y hy;have:k2=k:=by omega
   subst this;rw[hl]at r1;cases r1;rw[e2]at r4;cases r4;exact⟨ob',by rw[hσ',hy,r5],s2,by rw[s1],r6⟩
 have hkG:bJ C.wF wG:=hg.kept
 have hstE:∀k,((jP sv O).env wG muo).st k=.absent\/∃s s',((jP sv O).env wG muo).st k=.live s/\((σ.app dst ⟨sv',new++(kept++de O os),pp⟩).env wG mu').st (eR d os k)=.live s'/\s'.len=s.len/\(mu' (eR d os k)).hd=(muo k).hd:=fun k=>by
  cases hl:lk O k with
  |none=>left;show(jP sv O).ost k=_;simp only[State.ost,show(jP sv O).H k=none from hl]
  |some y =>
   cases y with
   |none=>obtain⟨_,_,e1,_⟩:=u1 k _ (lY hl);cases e1
   |some ob =>
    obtain⟨ob',z1,z2,z3⟩:=hout k ob hl;obtain⟨ob2,y1,y2,y3,y4⟩:=hnm k ob hl;exact .inr ⟨_,_,cr z3 z2,cr y1 y2,y3,by rw[y4]⟩
 have hMo:∀b,M b->∃o ob0,σ.H o=some (some ob0)/\b∈(mu o).blocks:=fun b hb=>by
  rw[hM]at hb;obtain⟨k,o,ob,q1,q2⟩:=hb;obtain⟨ob0,z1,_⟩:=hlive k o ob q1;exact⟨o,ob0,z1,q2⟩
 have hblk:∀k ob,lk O k=some (some ob)->(muo k).blocks.Nodup/\∀b∈(muo k).blocks,M b\/w.heap.size<=b:=fun k ob hl=>hst2.nd k ob (hout k ob hl).choose_spec.2.2
 have hfar:∀o ob,σ.H o=some (some ob)->lk new o=none->lk kept o=none->lk (de O os) o=none->∀b,b∈(mu o).blocks->¬ M b:=fun o ob ho1 hn1 hn2 hn3 b hb hMb=>by
  rw[hM]at hMb;obtain⟨k,o2,ob2,q1,q2⟩:=hMb;obtain⟨obx,z1,_⟩:=hlive k o2 ob2 q1;have:o=o2:=BU fun hne=>h.sep o o2 ob obx hne ho1 z1 b hb q2
  subst this;cases hl:lk O k with
  |none =>
   obtain⟨y,hy⟩:=lZ (AT.2 ⟨_,(rz (hp:=O)).2 ⟨rfl,k,ob2,q1,hl⟩,rfl⟩);rw[hy]at hn3;cases hn3
  |some y =>
   obtain⟨ob1,ob',e1,e2,e3⟩:=u1 k _ (lY hl);rcases e3 with⟨o3,ob03,y1,y2,y3⟩|⟨y1,_⟩
   ·rw[lX hk q1]at y1
    cases y1;obtain⟨y,hy⟩:=lZ (AT.2 ⟨_,y3,rfl⟩);rw[hy]at hn2;cases hn2
   ·rw[lX hk q1]at y1;cases y1
 have hcase:∀o ob,(σ.app dst ⟨sv',new++(kept++de O os),pp⟩).H o=some (some ob) ->
   (∃k ob1,lk O k=some (some ob1)/\mu' o=muo k/\eR d os k=o/\aR ((σ.app dst ⟨sv',new++(kept++de O os),pp⟩).env wG mu') w' (muo k) ob) \/
   (σ.H o=some (some ob)/\mu' o=mu o/\lk new o=none/\lk kept o=none/\lk (de O os) o=none):=fun o ob hq=>by
  rw[hσ']at hq;cases hn1:lk new o with
  |some y =>
   rw[hn1]at hq;obtain⟨k,ob1,ob',q1,q2,q3,q4,q5,q6⟩:=hnew o y hn1;have hq:y=some ob:=by simpa using hq
   rw[q5]at hq;cases hq;have z3:=(hout k ob1 q1).choose_spec.2.2
   exact .inl ⟨k,ob1,q1,q6,by simp only[eR,q2];exact q3.symm,Qo (E:=(jP sv O).env wG muo) (E':=(σ.app dst ⟨sv',new++(kept++de O os),pp⟩).env wG mu') (fun _ _ h=>h) hstE q4 (hst2.ob k ob1 z3)⟩
  |none =>
   rw[hn1]at hq;cases hn2:lk kept o with
   |some y =>
    rw[hn2]at hq;obtain⟨k,ob1,ob',ob0,obx,q1,q2,q3,q4,q5,q6,_⟩:=hkpt o y hn1 hn2;have hq:y=some ob:=by simpa using hq
    rw[q5]at hq;cases hq;have z3:=(hout k ob1 q1).choose_spec.2.2
    exact .inl ⟨k,ob1,q1,q6,by simp only[eR,lX hk q2],ag4 (Qo (E:=(jP sv O).env wG muo) (E':=(σ.app dst ⟨sv',new++(kept++de O os),pp⟩).env wG mu') (fun _ _ h=>h) hstE q3 (hst2.ob k ob1 z3))⟩
   |none =>
    rw[hn2]at hq;cases hn3:lk (de O os) o with
    |some y =>
     rw[hn3]at hq;obtain⟨rfl,_⟩:=hdead o y hn3;cases hq
    |none =>
     rw[hn3]at hq;exact .inr ⟨hq,by rw[hmu'];simp only[hn1,hn2],rfl,rfl,rfl⟩
 refine⟨wG,mu',⟨hkG,fun p u hp=>?_⟩,h.updG (mu':=mu') M hst2.os hst2.tape hst2.output hst2.size hMo (fun b hb hnM=>hst2.block b hb hnM) hkG (fun p u hp=>?_) (fun o=>?_) (fun o ob hq=>?_) (by rw[wT];exact h.sz) (wU _ _ _)
  (wV h hd (ag3 (E:=(jP sv O).env wG muo) (E':=(σ.app dst ⟨sv',new++(kept++de O os),pp⟩).env wG mu') (fun _ _ h=>h) hstE hv (hst2.fr 0 sv rfl)))⟩
 ·rcases hg.new p u hp with q|q|q
  ·exact .inl q
  ·exact .inr (.inl (An h.size q))
  ·obtain⟨o,ob0,z1,z2⟩:=hMo _ q
   exact .inr ((h.nd o ob0 z1).2 _ z2).symm
 ·rcases hg.new p u hp with q|q
  ·exact .inl q
  ·refine .inr ⟨(hst2.cells p u hp).2,fun o ob hq hb=>?_⟩
   rcases hcase o ob hq with⟨k,ob1,z1,z2,_,_⟩|⟨z1,z2,z3,z4,z5⟩
   ·rw[z2]at hb
    exact(hst2.cells p u hp).1 k ob1 z1 hb
   ·rw[z2]at hb
    rcases q with q|q
    ·have:=(h.ob o ob z1).block _ hb
     have q:w.heap.size<=p.block:=q
     omega
    ·exact hfar o ob z1 z3 z4 z5 _ hb q
 ·show dQ wG (σ.ost o) (State.ost _ o) (mu o) (mu' o)
  cases hn1:lk new o with
  |some y =>
   have:=θ o y hn1
   rw[show σ.ost o=.absent by simp only[State.ost,this]]
   exact .inl trivial
  |none =>
   cases hn2:lk kept o with
   |some y =>
    obtain⟨k,ob1,ob',ob0,obx,q1,q2,q3,q4,q5,q6,q7,q8,q9⟩:=hkpt o y hn1 hn2;have hq:(σ.app dst ⟨sv',new++(kept++de O os),pp⟩).H o=some (some (fS ob0 ob')):=by rw[hσ',hn1];simp only[hn2,q5]
    obtain⟨s1,s2,s3⟩:=Ip q3;rw[cr q7 q8,cr hq (Qp s2)];have hp1:=hst2.pins k (mu o) (by
     show(match(eH os k).isSome&&(lk O k).isSome with|true=>some (muc k)|false=>none)=_
     rw[lX hk q2,q1];simp[q9])
    have hoE:=(hout k ob1 q1).choose_spec.2
    rw[cr hoE.2 hoE.1]at hp1;obtain⟨hp2,hp3⟩:=hp1;obtain⟨ob00,z1,z2,z3⟩:=hok k (some o) ob0 q2;rw[q7]at z1;cases z1;refine .inl ?_
    show(fS ob0 ob').shp.len=obx.shp.len/\(mu' o).hd=(mu o).hd/\obx.shp.ver<=(fS ob0 ob').shp.ver/\((fS ob0 ob').shp.ver=obx.shp.ver->mu' o=mu o/\(fS ob0 ob').shp.rl=obx.shp.rl)
    rw[q6];unfold qJ at q4;split at q4
    ·rename_i cs0 cs1
     rcases z3 with⟨z5,rfl⟩|⟨cs,cs',rfl,z5,z6,_⟩
     ·cases z5
     ·cases z5
      have hl:=AX q4
      show ob'.shp.len=cs.length/\(muo k).hd=(mu o).hd/\0<=ob'.shp.ver/\(ob'.shp.ver=0->muo k=mu o/\ob'.shp.rl=[])
      rw[s1];exact⟨by show cs1.length=cs.length;omega,hp2,Ad _,fun _=>⟨hp3 rfl,rfl⟩⟩
    ·rename_i v0 Y0 p0 b0 v1 Y1 p1 b1
     rcases z3 with⟨z5,rfl⟩|⟨cs,cs',rfl,z5,z6,_⟩
     ·have:ob'=.yd v1 Y1 p1 b1:=by
       have q3':some (Ob.yd v1 Y1 p1 b1)=some ob':=q3
       exact(BE q3').symm
      subst this
      show(0:Nat)=0/\(muo k).hd=(mu o).hd/\v0<=v0+v1/\(v0+v1=v0->muo k=mu o/\([]:List Nat)=[])
      exact⟨rfl,hp2,by omega,fun hvv=>⟨hp3 (show v1=0 by omega),rfl⟩⟩
     ·cases z5
    ·cases q4
   |none =>
    cases hn3:lk (de O os) o with
    |some y =>
     obtain⟨rfl,k,ob1,obx,q1,q2⟩:=hdead o y hn3;have hq:(σ.app dst ⟨sv',new++(kept++de O os),pp⟩).H o=some none:=by rw[hσ',hn1];simp only[hn2,hn3]
     rw[show State.ost (σ.app dst ⟨sv',new++(kept++de O os),pp⟩) o=.dead by simp only[State.ost,hq]]
     exact .inl (wW q2)
    |none =>
     have hq:(σ.app dst ⟨sv',new++(kept++de O os),pp⟩).H o=σ.H o:=by rw[hσ',hn1];simp only[hn2,hn3]
     rw[show State.ost (σ.app dst ⟨sv',new++(kept++de O os),pp⟩) o=σ.ost o by simp only[State.ost,hq],show mu' o=mu o by rw[hmu'];simp only[hn1,hn2]]
     exact dQ.refl _ _ _
 ·rcases hcase o ob hq with⟨k,ob1,z1,z2,z3,z4⟩|⟨z1,z2,z3,z4,z5⟩
  ·refine .inr ⟨by rw[z2];exact z4,by rw[z2];exact(hblk k ob1 z1).1,by rw[z2];exact(hblk k ob1 z1).2,fun o' ob' hne hq'=>?_⟩
   rcases hcase o' ob' hq' with⟨k',ob1',y1,y2,y3,y4⟩|⟨y1,y2,y3,y4,y5⟩
   ·refine .inr fun b hb hb'=>?_
    rw[z2]at hb;rw[y2]at hb';exact hst2.sep k k' ob1 ob1' (fun e=>hne (by rw[<-z3,<-y3,e])) z1 y1 b hb hb'
   ·exact .inl ⟨y1,y2,hfar o' ob' y1 y3 y4 y5⟩
  ·exact .inl ⟨z1,z2,hfar o ob z1 z3 z4 z5⟩
theorem ag7{Γ:FuncId->Option Ctr}(hΓ:di C.P Γ){d:Nat}{f:FuncId}{svs:List SV}{ts:List TypeId}{eff:Eff}(hm:He (Γ f)=true)(hr:(Hf C.P d (Γ f) svs ts).run σ=some eff)(hob:eff.obl)(h:St C σ mu a w)
  {vs:List Value}(hvl:vs.length=svs.length)(hvs:∀(i:Nat) (sv:SV),svs[i]?=some sv->∃v,vs[i]?=some v/\aw C.P (σ.env C.wF mu) sv v){dst:Option Nat}(hd:∀d,dst=some d->d<C.N) :
  (∃fn,C.P.funcs[f]?=some fn/\fn.body.isSome=true/\(fn.name == "runtime.NumGoroutine")=false) /\
  Calls C.P f vs.toArray w fun e w'=>∃v,e=.returned v/\ay C (σ.app dst eff) (a.put dst v) w':=by
 unfold He at hm;split at hm
 ·rename_i ct hct
  have hf:=hΓ f _ hct
  refine⟨hf.fn,?_⟩
  rw[hct]at hr;simp only[Hf]at hr;obtain⟨mas,os,h1,h2,h3,h4,h5⟩:=Qk (C:=C) (mu:=mu) svs 0 ts _ _ hr;split at h1
  ·rename_i pre sv ex outs hpost
   split at h1
   ·rename_i hnd
    simp only[AG]at hnd;split at h1
    ·rename_i sv' kept new hv hu
     obtain⟨h6,θ⟩:=nv h1;simp only[Rd.run,AC]at h6;subst h6;refine ag6 (hf.st rfl mas pre sv ex outs hpost hob) h h2 (h4 os fun t ht=>ht) (kU hnd.1.1) (kU hnd.1.2) (kU hnd.2) hv hu θ (by rw[hvl,h3]) (fun E' hg j x hj=>?_) hd
     obtain⟨sv2,q1,q2⟩:=h5 os E' (fun t ht=>ht) hg j x hj
     obtain⟨v,q3,q4⟩:=hvs j sv2 q1;rw[AK]at q2;exact⟨v,q3,q2 v q4⟩
    ·cases h1
   ·cases h1
  ·cases h1
 ·cases hm
theorem ag8{o i:Nat}{eff:Eff}(hr:(Hp C.P o i).run σ=some eff)(hob:eff.obl)(h:St C σ mu a w){v0 v:Value}(h0:ai (σ.env C.wF mu) (.own o) v0)(hv:ai (σ.env C.wF mu) (.own i) v)
  {dst:Option Nat}(hd:∀d,dst=some d->d<C.N):∃l,v0=.func (.yield l) #[] #[]/\YieldAt Fence.wide 0 C.P l #[v] w fun e w'=>∃u,e=.returned u/\ay C (σ.app dst eff) (a.put dst u) w':=by
 unfold Hp at hr;split at hr
 ·cases hr
 ·rename_i hne
  have hne:o≠i:=Bn hne
  obtain⟨ob,ho,hr⟩:=aZ hr;split at hr
  ·rename_i yv Y pre b
   obtain⟨ob2,hi,hr⟩:=aZ hr;split at hr
   ·rename_i e k x
    split at hr
    ·simp only[Rd.run,AC]at hr
     subst hr;obtain⟨hP,rfl,rfl,hok⟩:Y.P=C.P/\Y.e=e/\b=true/\Y.ok pre x:=hob;have hv0:v0=(mu o).hd:=aP ho h0
     have hvi:v=(mu i).hd:=aP hi hv
     obtain⟨y1,y2,y3,y4⟩:=h.ob o _ ho;obtain⟨z1,z2⟩:=h.ob i _ hi;rw[<-hvi]at z2;have hbi:∀b,ac v=some b->b∈(mu i).blocks:=fun b hb=>cD (by rw[<-hvi];exact hb)
     refine⟨Y.l,by rw[hv0,y1],?_⟩
     have hsp:=Y.spec pre x w (mu o).blocks v y3 hok (h.nd o _ ho).1 y4 hv.1 z2 (fun k hk hc=>h.sep o i _ _ hne ho hi k hk (hbi k hc)) (fun p u hp=>⟨(h.cells p u (y2 p u hp)).2,fun hc=>(h.cells p u (y2 p u hp)).1 i _ hi (hbi _ hc)⟩)
     rw[hP]at hsp;obtain⟨fn,tmps,assign,body,s1,s2⟩:=hsp;refine⟨fn,tmps,assign,body,s1,s2.mono ?_⟩
     rintro e w' ⟨S',rfl,q1,q2,q3,q4,q5,q6,q7,q8,q9,q10⟩
     refine⟨_,rfl,?_⟩
     let m':Img:=⟨.func (.yield Y.l) #[] #[],S'.map fun b=>.pointer (some ⟨b,0,none⟩)⟩
     have hm':m'.blocks=S':=by
      show(ac (.func (.yield Y.l) #[] #[])).toList++(S'.map fun b=>Value.pointer (some ⟨b,0,none⟩)).filterMap ac=S'
      rw[List.filterMap_map]
      show []++S'.filterMap (fun b=>some b)=S'
      simp
     let mu':Nat->Img:=fun x=>if x=o then m' else mu x
     have hmo:mu' o=m':=AA rfl
     have hmx:∀x,x≠o->mu' x=mu x:=fun x hx=>AB hx
     obtain⟨eff,heff⟩:∃eff:Eff,eff=⟨.c (.bool (Y.go pre x)),[(o,some (.yd (yv+1) Y (pre++[x]) (Y.go pre x)))],some (Y.P=C.P/\Y.e=Y.e/\true=true/\Y.ok pre x)⟩:=⟨_,rfl⟩;rw[<-heff];have hH:∀y,(σ.app dst eff).H y=if o=y then some (some (.yd (yv+1) Y (pre++[x]) (Y.go pre x)))else σ.H y:=fun y=>by
      rw[heff]
      show lk ([(o,_)]++σ.hp) y=_
      rw[gt,bt];by_cases hy:o=y
      ·rw[AA hy,AA hy]
      ·rw[AB hy,AB hy];rfl
     have hHo:(σ.app dst eff).H o=some (some (.yd (yv+1) Y (pre++[x]) (Y.go pre x))):=by rw[hH,AA rfl]
     have hHx:∀y,y≠o->(σ.app dst eff).H y=σ.H y:=fun y hy=>by rw[hH,AB (fun e=>hy e.symm)]
     have hblt:∀y ob',σ.H y=some (some ob')->∀b∈(mu y).blocks,b<w.heap.size:=fun y ob' hy=>(h.ob y ob' hy).block
     have hfar:∀y ob',y≠o->y≠i->σ.H y=some (some ob')->∀b∈(mu y).blocks,¬ (b∈(mu o).blocks\/b∈(mu i).blocks):=fun y ob' hyo hyi hy b hb hc=>by
      rcases hc with hc|hc
      ·exact h.sep y o ob' _ hyo hy ho b hb hc
      ·exact h.sep y i ob' _ hyi hy hi b hb hc
     have hoi:∀b∈S',b ∉ (mu i).blocks:=fun b hb hc=>by
      rcases(q4 b hb).1 with z|z
      ·exact h.sep o i _ _ hne ho hi b z hc
      ·have:=hblt i _ hi b hc;omega
     refine St.ex (h.upd (fun k=>k∈(mu o).blocks\/k∈(mu i).blocks) q6 q7 q8 q9 ?_ ?_ (mu':=mu') ?_ ?_ (by rw[wT];exact h.sz) (wU _ _ _) (wV h hd (by rw[heff];rfl)))
     ·rintro k (hk|hk)
      ·exact⟨o,_,ho,hk⟩
      ·exact⟨i,_,hi,hk⟩
     ·intro k hk hS
      exact q10 k hk (fun hc=>hS (.inl hc)) (fun hc=>hS (.inr (hbi k hc)))
     ·intro y
      by_cases hy:y=o
      ·subst hy
       rw[cr ho,cr hHo,hmo];exact⟨rfl,y1.symm,by show yv<=yv+1;omega,fun hc=>by have hc:yv+1=yv:=hc;omega⟩
      ·rw[hmx y hy,show State.ost (σ.app dst eff) y=σ.ost y by simp only[State.ost,hHx y hy]]
       exact dL.refl _ _
     ·intro y ob' hy
      by_cases hyo:y=o
      ·subst hyo
       rw[hHo]at hy;cases hy;refine .inr ⟨by rw[hmo];exact⟨rfl,y2,by rw[hm'];exact q1,by rw[hm'];exact fun k hk=>(q4 k hk).2⟩,by rw[hmo,hm'];exact q2,fun k hk=>?_,fun y' ob2 hne' hy'=>?_⟩
       ·rw[hmo,hm']at hk
        exact(q4 k hk).1.imp .inl id
       ·rw[hHx y' (fun e=>hne' e.symm)]at hy'
        by_cases hyi:y'=i
        ·subst hyi
         refine .inr fun b hb hc=>?_
         rw[hmo,hm']at hb;rw[hmx y' (fun e=>hne' e.symm)]at hc
         exact hoi b hb hc
        ·exact .inl ⟨hy',hmx y' (fun e=>hne' e.symm),hfar y' ob2 (fun e=>hne' e.symm) hyi hy'⟩
      ·rw[hHx y hyo]at hy
       by_cases hyi:y=i
       ·subst hyi
        rw[hi]at hy;cases hy;rw[hmx y hyo];refine .inr ⟨⟨z1,by rw[<-hvi];exact q5⟩,(h.nd y _ hi).1,fun k hk=>.inl (.inr hk),fun y' ob2 hne' hy'=>?_⟩
        by_cases hyo':y'=o
        ·subst hyo'
         refine .inr fun b hb hc=>?_
         rw[hmo,hm']at hc;exact hoi b hc hb
        ·rw[hHx y' hyo']at hy'
         exact .inl ⟨hy',hmx y' hyo',hfar y' ob2 hyo' (fun e=>hne' e.symm) hy'⟩
       ·exact .inl ⟨hy,hmx y hyo,hfar y ob' hyo hyi hy⟩
    ·cases hr
   ·cases hr
  ·cases hr
end
end Go.Sx
end
