/- SxOr SxOb SxOs SxOt SxOv -/
import Derived.Test.YtkmldclpaniclaaGreatSxO
set_option linter.unusedSimpArgs false
set_option linter.unusedVariables false
set_option linter.defProp false
section
namespace Go.Sx
open Go.RowKit
section
variable {C:Cx} {σ:State} {mu:Nat->Img} {a:Act} {w w':World}
def aw0{P:Program}{wF:World}{mt:List (Nat×Nat)}{ms ms':List Img}{obs obs':List Ob}{i:Nat}(hm:∀j,b9 mt i j=none){d:AD}{v:Value}(h:dD P wF mt ms obs i d v):dD P wF mt ms' obs' i d v:=by
 have hcell:∀{j d u},gG wF mt ms obs i j d u->gG wF mt ms' obs' i j d u:=fun {j d u} h=>by
  refine⟨h.1,?_⟩
  have h2:=h.2
  rw[hm j]at h2⊢;exact h2
 cases d with
 |c d=>exact hcell (j:=0) h
 |agg cs =>
  obtain⟨arr,rfl,h1,h2⟩:=h;exact⟨arr,rfl,h1,λj d hj=>let⟨u,h3,h4⟩:=h2 j d hj;⟨u,h3,hcell h4⟩⟩
 |box cs =>
  simp only[dD,hm 0]at h⊢;exact h
 |bb cs=>exact h
 |fv F=>exact h
 |fvs F s =>
  simp only[dD,hm 0]at h
 |cut off n d =>
  simp only[dD,hm 0]at h
 |ma x=>exact(show False from h).elim
def aw1{Γ:FuncId->Option Ctr}(hΓ:dj C.P Γ){f:FuncId}{o ver i:Nat}{svs:List SV}{ts:List TypeId}{eff:Eff}(hr:(Iw C.P Γ f o ver i svs ts).run σ=some eff)(hob:eff.obl)(h:St C σ mu a w)
  {v0:Value}(hv0:ak (σ.env C.wF mu) (.row o ver i) v0)
  {vs:List Value}(hvl:vs.length=svs.length)(hvs:∀(i:Nat) (sv:SV),svs[i]?=some sv->∃v,vs[i]?=some v/\aA C.P (σ.env C.wF mu) sv v){dst:Option Nat}(hd:∀d,dst=some d->d<C.N) :
  (∃fn,C.P.funcs[f]?=some fn/\fn.body.isSome=true/\(fn.name == "runtime.NumGoroutine")=false) /\
  Calls C.P f (v0::vs).toArray w λe w'=>∃v,e=.returned v/\aD C (σ.app dst eff) (a.put dst v) w':=by
 simp[Iw,Rd.run]at hr
def aw2{Γ:FuncId->Option Ctr}(hΓ:dj C.P Γ){f:FuncId}{o ver:Nat}{p:List Nat}{svs:List SV}{ts:List TypeId}{eff:Eff}(hr:(Ix C.P Γ f o ver p svs ts).run σ=some eff)(hob:eff.obl)(h:St C σ mu a w)
  {v0:Value}(hv0:ak (σ.env C.wF mu) (.kid o ver p) v0)
  {vs:List Value}(hvl:vs.length=svs.length)(hvs:∀(i:Nat) (sv:SV),svs[i]?=some sv->∃v,vs[i]?=some v/\aA C.P (σ.env C.wF mu) sv v){dst:Option Nat}(hd:∀d,dst=some d->d<C.N) :
  (∃fn,C.P.funcs[f]?=some fn/\fn.body.isSome=true/\(fn.name == "runtime.NumGoroutine")=false) /\
  Calls C.P f (v0::vs).toArray w λe w'=>∃v,e=.returned v/\aD C (σ.app dst eff) (a.put dst v) w':=by
 simp[Ix,Rd.run]at hr
def aw3{Γ:FuncId->Option Ctr}(hΓ:dj C.P Γ){f:FuncId}{o off n:Nat}{svs:List SV}{ts:List TypeId}{eff:Eff}(hr:(Iy C.P Γ f o off n svs ts).run σ=some eff)(hob:eff.obl)(h:St C σ mu a w)
  {v0:Value}(hv0:ak (σ.env C.wF mu) (.sub o off n) v0)
  {vs:List Value}(hvl:vs.length=svs.length)(hvs:∀(i:Nat) (sv:SV),svs[i]?=some sv->∃v,vs[i]?=some v/\aA C.P (σ.env C.wF mu) sv v){dst:Option Nat}(hd:∀d,dst=some d->d<C.N) :
  (∃fn,C.P.funcs[f]?=some fn/\fn.body.isSome=true/\(fn.name == "runtime.NumGoroutine")=false) /\
  Calls C.P f (v0::vs).toArray w λe w'=>∃v,e=.returned v/\aD C (σ.app dst eff) (a.put dst v) w':=by
 simp[Iy,Rd.run]at hr
def aw4{Γ:FuncId->Option Ctr}(hΓ:dj C.P Γ){f:FuncId}{k0:IntKind}{n0:Int}{o ver i:Nat}{svs:List SV}{ts:List TypeId}{eff:Eff}(hr:(Iz C.P Γ f k0 n0 o ver i svs ts).run σ=some eff)(hob:eff.obl)(h:St C σ mu a w)
  {v0:Value}(hv0:ak (σ.env C.wF mu) (.row o ver i) v0)
  {vs:List Value}(hvl:vs.length=svs.length)(hvs:∀(i:Nat) (sv:SV),svs[i]?=some sv->∃v,vs[i]?=some v/\aA C.P (σ.env C.wF mu) sv v){dst:Option Nat}(hd:∀d,dst=some d->d<C.N) :
  (∃fn,C.P.funcs[f]?=some fn/\fn.body.isSome=true/\(fn.name == "runtime.NumGoroutine")=false) /\
  Calls C.P f (.int k0 n0::v0::vs).toArray w λe w'=>∃v,e=.returned v/\aD C (σ.app dst eff) (a.put dst v) w':=by
 simp[Iz,Rd.run]at hr
def aw5{Γ:FuncId->Option Ctr}(hΓ:dj C.P Γ){f:FuncId}{svs:List SV}{eff:Eff}(hm:IJ (Γ f)=true)(hr:(IK (Γ f) svs).run σ=some eff)(hob:eff.obl)(h:St C σ mu a w)
  {vs:List Value}(hvl:vs.length=svs.length)(hvs:∀(i:Nat) (sv:SV),svs[i]?=some sv->∃v,vs[i]?=some v/\aA C.P (σ.env C.wF mu) sv v){dst:Option Nat}(hd:∀d,dst=some d->d<C.N) :
  (∃fn,C.P.funcs[f]?=some fn/\fn.body.isSome=true/\(fn.name == "runtime.NumGoroutine")=false) /\
  Calls C.P f vs.toArray w λe w'=>∃v,e=.returned v/\aD C (σ.app dst eff) (a.put dst v) w':=by
 unfold IJ at hm;split at hm
 ·rename_i ct hct
  have hf:=hΓ f _ hct
  refine⟨hf.fn,?_⟩
  unfold IK at hr;rw[hct]at hr;simp only at hr;split at hr
  ·rename_i o g
   obtain⟨ob,ho,hr2⟩:=bg hr;clear hr;split at hr2
   ·rename_i ver e ei l
    split at hr2
    ·rename_i pre g' x l' ws hpost
     split at hr2
     ·rename_i hg
      have hg:=AY hg
      subst hg;simp only[Rd.run,AC]at hr2;subst hr2;obtain⟨ξ,hlen⟩:pre/\l'.length=l.length:=hob;obtain⟨v0,e0,r0⟩:=hvs 0 _ rfl;obtain⟨v1,e1,r1⟩:=hvs 1 _ rfl;have hv0:v0=(mu o).hd:=aV ho r0
      obtain⟨arr,hv1,harr⟩:=r1;have harr0:arr=#[]:=Du harr.1
      subst harr0;have hvs':vs=[v0,v1]:=by
       match vs,hvl,e0,e1 with
       | [a,b],_,e0,e1=>simp at e0 e1;subst e0;subst e1;rfl
      subst hvs';subst hv1;obtain⟨q1,q2,q3⟩:=h.ob o _ ho;have hnd:=(h.nd o _ ho).1
      refine Calls.mono ((hf.so rfl).1 l pre g' x l' ws hpost ξ w e ei v0 (mu o).ins (by rw[hv0];exact q1) q2 (λi u r hi hr=>q3 i u r hi hr) (by rw[hv0];exact hnd)) ?_
      rintro r w' ⟨rfl,ins',k1,k2,k3,k4,k5,k6,k7,k8,k9⟩
      refine⟨_,rfl,?_⟩
      have hperm:(⟨(mu o).hd,ins'⟩:Img).blocks.Perm (mu o).blocks:=by
       unfold Img.blocks;exact DM _ (k4.filterMap _)
      refine h.setV hd ho [] (by simp) (m:=⟨(mu o).hd,ins'⟩) (λE=>⟨#[],rfl,rfl,λi c hi=>by simp at hi⟩) k5 k6 k7 k8 (λb hb hn=>k9 b hb λhc=>hn (cL (by rw[<-hv0];exact hc))) hlen rfl (BR _) (λhv=>by have:ver+1=ver:=hv;omega)
       ⟨by rw[<-hv0];exact k1,k2,λi u r hi hr=>?_⟩ (hperm.nodup_iff.2 hnd) (λb hb=>.inl (hperm.mem_iff.1 hb))
      have hmem:u∈(mu o).ins:=k4.mem_iff.1 (AK hi)
      obtain⟨y,hy⟩:=Ah hmem;refine ed (k3 i u r hi hr) λb hb=>k9 b ((h.ob o _ ho).block b (pv hy hb)) λhc=>?_
      rw[hv0]at hc;exact(lh hnd).2 _ hc (Au.2 ⟨u,hmem,hb⟩)
     ·cases hr2
    ·cases hr2
   ·rename_i ver e e2 e3 l
    split at hr2
    ·rename_i pre g' l' ws hpost
     split at hr2
     ·rename_i hg
      have hg:=AY hg
      subst hg;simp only[Rd.run,AC]at hr2;subst hr2;obtain⟨ξ,hlen⟩:pre/\l'.length=l.length:=hob;obtain⟨v0,e0,r0⟩:=hvs 0 _ rfl;obtain⟨v1,e1,r1⟩:=hvs 1 _ rfl;have hv0:v0=(mu o).hd:=aV ho r0
      obtain⟨arr,hv1,harr⟩:=r1;have harr0:arr=#[]:=Du harr.1
      subst harr0;have hvs':vs=[v0,v1]:=by
       match vs,hvl,e0,e1 with
       | [a,b],_,e0,e1=>simp at e0 e1;subst e0;subst e1;rfl
      subst hvs';subst hv1;obtain⟨nd,q1,q2⟩:=h.ob o _ ho;have hnd:=(h.nd o _ ho).1
      have q1:mu o=dN 3 nd:=q1
      have hbk:(mu o).blocks=aZ 3 nd:=by rw[q1];exact eK q2
      have hhd:(mu o).hd=aM nd:=by rw[q1];rfl
      have hHd:∀ks',aM (bB (aM nd) ks')=aM nd:=λks'=>rfl
      have hKs:∀ks',ba (bB (aM nd) ks')=ks':=λks'=>rfl
      refine Calls.mono (by rw[hv0,hhd];exact(hf.so rfl).2 l pre g' l' ws hpost ξ w e e2 e3 nd q2 (by rw[<-hbk];exact hnd)) ?_
      rintro r w' ⟨rfl,ks',k1,k4,k5,k6,k7,k8,k9⟩
      refine⟨_,rfl,?_⟩
      have hperm:(dN 3 (bB (aM nd) ks')).blocks.Perm (mu o).blocks:=by
       have hb2:(dN 3 (bB (aM nd) ks')).blocks=aZ 3 (bB (aM nd) ks'):=eK k1
       rw[hb2,hbk,dX,dX,hHd,hKs];exact DM _ (k4.flatMap_right _)
      refine h.setV hd ho [] (by simp) (m:=dN 3 (bB (aM nd) ks')) (λE=>⟨#[],rfl,rfl,λi c hi=>by simp at hi⟩) k5 k6 k7 k8 (λb hb hn=>k9 b hb λhc=>hn (cL (by rw[hhd];exact hc))) hlen (by rw[hhd];rfl) (BR _) (λhv=>by have:ver+1=ver:=hv;omega)
       ⟨_,rfl,k1⟩ (hperm.nodup_iff.2 hnd) (λb hb=>.inl (hperm.mem_iff.1 hb))
     ·cases hr2
    ·cases hr2
   ·cases hr2
  ·cases hr
 ·cases hm
def aw6{Γ:FuncId->Option Ctr}(hΓ:dj C.P Γ){f:FuncId}{svs:List SV}{eff:Eff}(hm:Rw (Γ f)=true)(hr:(IL (Γ f) svs).run σ=some eff)(hob:eff.obl)(h:St C σ mu a w)
  {vs:List Value}(hvl:vs.length=svs.length)(hvs:∀(i:Nat) (sv:SV),svs[i]?=some sv->∃v,vs[i]?=some v/\aA C.P (σ.env C.wF mu) sv v){dst:Option Nat}(hd:∀d,dst=some d->d<C.N) :
  (∃fn,C.P.funcs[f]?=some fn/\fn.body.isSome=true/\(fn.name == "runtime.NumGoroutine")=false) /\
  Calls C.P f vs.toArray w λe w'=>∃v,e=.returned v/\aD C (σ.app dst eff) (a.put dst v) w':=by
 simp[IL,Rd.run]at hr
def aw7{Γ:FuncId->Option Ctr}(hΓ:dj C.P Γ){d:Nat}{f:FuncId}{svs:List SV}{eff:Eff}(hm:Rx (Γ f)=true)(hr:(IM d svs).run σ=some eff)(hob:eff.obl)(h:St C σ mu a w)
  {vs:List Value}(hvl:vs.length=svs.length)(hvs:∀(i:Nat) (sv:SV),svs[i]?=some sv->∃v,vs[i]?=some v/\aA C.P (σ.env C.wF mu) sv v){dst:Option Nat}(hd:∀d,dst=some d->d<C.N) :
  (∃fn,C.P.funcs[f]?=some fn/\fn.body.isSome=true/\(fn.name == "runtime.NumGoroutine")=false) /\
  Calls C.P f vs.toArray w λe w'=>∃v,e=.returned v/\aD C (σ.app dst eff) (a.put dst v) w':=by
 simp[IM,Rd.run]at hr
def aw8{Γ:FuncId->Option Ctr}(hΓ:dj C.P Γ){d:Nat}{f:FuncId}{e:TypeId}{svs:List SV}{eff:Eff}(hm:Ry (Γ f)=some e)(hr:(IN d e svs).run σ=some eff)(hob:eff.obl)(h:St C σ mu a w)
  {vs:List Value}(hvl:vs.length=svs.length)(hvs:∀(i:Nat) (sv:SV),svs[i]?=some sv->∃v,vs[i]?=some v/\aA C.P (σ.env C.wF mu) sv v){dst:Option Nat}(hd:∀d,dst=some d->d<C.N) :
  (∃fn,C.P.funcs[f]?=some fn/\fn.body.isSome=true/\(fn.name == "runtime.NumGoroutine")=false) /\
  Calls C.P f vs.toArray w λr w'=>∃v,r=.returned v/\aD C (σ.app dst eff) (a.put dst v) w':=by
 simp[IN,Rd.run]at hr
end
end Go.Sx
end
section
namespace Go.Sx
open Go.RowKit
def xY{m:Img}(h:∀u∈m.ins,ag u=none):m.blocks=(ag m.hd).toList:=by
 unfold Img.blocks;rw[show m.ins.filterMap ag=[] from Dy.2 h,AV]
def sj:∀{cs:List SC} {ds:List FC},ds.length=cs.length->(gV cs ds).length=cs.length
 | [],[],_=>rfl
 |c::cs,d::ds,h=>by simp[gV,sj (cs:=cs) (ds:=ds) (by simpa using h)]
 | [],_::_,h=>by simp at h
 |_::_,[],h=>by simp at h
def JM:∀{cs:List SC} {ds:List FC} {j:Nat} {c:SC},(gV cs ds)[j]?=some c->∃x d,cs[j]?=some x/\ds[j]?=some d/\c=if dH d then dB d else x
 | [],_,j,c,h=>by simp[gV]at h
 |_::_,[],j,c,h=>by simp[gV]at h
 |x::cs,d::ds,0,c,h=>by simp[gV]at h;exact⟨x,d,rfl,rfl,h.symm⟩
 |x::cs,d::ds,j+1,c,h=>by
  simp only[gV,Bq]at h;obtain⟨y,e,h1,h2,h3⟩:=JM h;exact⟨y,e,by simpa using h1,by simpa using h2,h3⟩
def JN{m:Img}{j:Nat}{d:FC}{u:Value}(h:lV m j d u)(hs:dH d=true)(E:Env):ak E (dB d) u:=by
 cases d with
 |int k n=>exact h
 |bool b=>exact h
 |str l=>exact h
 |_=>cases hs
def JO{m:Img}{j:Nat}{d:FC}{u:Value}(h:lV m j d u)(hs:dH d=false):m.ins[j]?=some (.agg #[u]):=by
 cases d with
 |int k n=>cases hs
 |bool b=>cases hs
 |str l=>cases hs
 |_=>exact h
def SP{w:World}{m:Img}{j:Nat}{d:FC}{u:Value}(h:bu w u d)(hi:m.ins[j]?=some (.agg #[u])):lV m j d u:=by
 cases d with
 |int k n=>exact h
 |bool b=>exact h
 |str l=>exact h
 |_=>exact hi
def SQ{w:World}{d:FC}{u:Value}(h:bu w u d)(hs:dH d=false):∃a n c,u=.slice a n c/\n<=c:=by
 cases d with
 |int k n=>cases hs
 |bool b=>cases hs
 |str l=>cases hs
 |_=>exact h.slice
section
variable {C:Cx} {σ:State} {mu:Nat->Img} {a:Act} {w:World}
def aw9{c:SC}{d:FC}(h:IA c=some d){v:Value}(hv:ak (σ.env C.wF mu) c v):bu C.wF v d:=by
 unfold IA at h;split at h
 ·cases h;simp only[ak]at hv;subst hv;rfl
 ·cases h;simp only[ak]at hv;subst hv;rfl
 ·cases h;simp only[ak]at hv;subst hv;rfl
 ·cases h;exact hv.2
 ·cases h;exact hv.1.2
 ·cases h
def ax0{sv:SV}{ad:AD}(h:pH sv=some ad){v:Value}(hv:aA C.P (σ.env C.wF mu) sv v){mt:List (Nat×Nat)}{ms:List Img}{obs:List Ob}{i:Nat}(hn:∀j,b9 mt i j=none):dD C.P C.wF mt ms obs i ad v:=by
 have cell:∀{j:Nat} {d:FC} {u:Value},u.oneCell'=true/\bu C.wF u d->gG C.wF mt ms obs i j d u:=fun {j d u} q=>by
  unfold gG;rw[hn j];exact q
 unfold pH at h;split at h
 ·split at h
  ·rename_i d hd
   cases h;exact cell (xX rfl hd hv)
  ·cases h
 ·split at h
  ·rename_i ds hds
   cases h;obtain⟨arr,rfl,h1,h2⟩:=hv;obtain⟨h3,h4⟩:=iB hds;refine⟨arr,rfl,by rw[h1,h3],λj d hj=>?_⟩
   obtain⟨c,h5,h6⟩:=h4 j d hj;obtain⟨u,h7,h8,h9⟩:=h2 j c h5;exact⟨u,h7,cell (xX rfl h6 h9)⟩
  ·cases h
 ·cases h
def ax1{Γ:FuncId->Option Ctr}(hΓ:dj C.P Γ){d:Nat}{f:FuncId}{o:Nat}{svs:List SV}{eff:Eff}(hr:(IB C.P Γ d f o svs).run σ=some eff)(hob:eff.obl)(h:St C σ mu a w)
  {v0:Value}(hv0:ak (σ.env C.wF mu) (.ptr o 0) v0)
  {vs:List Value}(hvl:vs.length=svs.length)(hvs:∀(i:Nat) (sv:SV),svs[i]?=some sv->∃v,vs[i]?=some v/\aA C.P (σ.env C.wF mu) sv v){dst:Option Nat}(hd:∀d,dst=some d->d<C.N) :
  Calls C.P f (v0::vs).toArray w λe w'=>∃v,e=.returned v/\aD C (σ.app dst eff) (a.put dst v) w':=by
 unfold IB at hr;split at hr
 ·rename_i ct hct
  have hf:=hΓ f _ hct
  obtain⟨ob,ho,hr2⟩:=bg hr;clear hr;split at hr2
  ·rename_i xs
   split at hr2
   ·rename_i fcs hfcs
    obtain⟨hfl,hfc⟩:=iB hfcs;split at hr2
    ·rename_i ads hads
     obtain⟨hal,har⟩:=iB hads;split at hr2
     ·rename_i pre ret fcs' hpost
      split at hr2
      ·rename_i q hq
       obtain⟨hr5,θ⟩:=nW hr2;simp only[Rd.run,AC]at hr5;subst hr5;obtain⟨g,arr,ty,h1,h2,h3,h4,h5⟩:=mi h ho;have hv0':v0=(mu o).hd:=by
        obtain⟨_,b,hb,hv⟩:=aV ho hv0;have hb:ag (mu o).hd=some b:=hb
        rw[h1]at hb⊢;simp[ag]at hb
        rw[hv,hb]
       let m:Img:=⟨(mu o).hd,arr.toList.map λu=>.agg #[u]⟩
       have hmi:∀u∈m.ins,ag u=none:=λu hu=>by
        obtain⟨x,_,rfl⟩:=AJ.1 hu;rfl
       have hmb:m.blocks=(mu o).blocks:=by rw[xY hmi,xY h2]
       have hins:∀(j:Nat) (u:Value),arr[j]?=some u->m.ins[j]?=some (.agg #[u]):=λj u hu=>by
        show(arr.toList.map λu=>Value.agg #[u])[j]?=_
        rw[Ak];simp[hu]
       have hcell:∀(j:Nat) (dd:FC),fcs[j]?=some dd->∃u,arr[j]?=some u/\u.oneCell'=true/\bu C.wF u dd:=λj dd hj=>by
        obtain⟨c,k1,k2⟩:=hfc j dd hj;obtain⟨u,k3,k4,k5⟩:=h5 j c k1;exact⟨u,k3,k4,aw9 k2 k5⟩
       have hl':=lz hq
       have hmt:∀y j,b9 [(0,0)] (1+y) j=none:=λy j=>by
        simp only[b9];rw[AB (by omega)]
        rfl
       refine sh hf h (hid:=[o]) (by simp) rfl (ms:=[m]) (obs:=[.bx fcs]) rfl rfl hpost hob.1 hob.2 rfl (λo' ho'=>?_) (λx o' rc hx hrc=>?_) θ (wF:=C.wF) (λp u hp=>⟨(h.cells p u hp).2,λo' ho'=>by simp at ho';subst ho';exact(h.cells p u hp).1 _ _ ho⟩) (λ_=>rfl) (by simp[hvl,hal]) (λi ad hi=>?_) hd
       ·rw[bv,AB (λhc=>ho' (by simp[hc]))];rfl
       ·cases x with
        |succ x=>simp at hx
        |zero =>
         simp at hx hrc
         subst hx;subst hrc;refine⟨m,.bx fcs,.bx fcs',.box xs,q,rfl,rfl,⟨g,arr,ty,h1,hmi,h3,by rw[h4,hfl],λj dd hj=>?_⟩,hmb,by simp[dO,hq],id,ho,rfl,.inr ⟨rfl,.box (gV xs fcs'),by simp[bv],rfl,⟨?_,AE _,λ_=>rfl⟩,λE w' _ hEE χ=>?_⟩⟩
         ·obtain⟨u,k1,k2,k3⟩:=hcell j dd hj
          exact⟨u,k1,k2,SP k3 (hins j u k1)⟩
         ·show(gV xs fcs').length=xs.length
          exact sj (by rw[hl',hfl])
         ·obtain⟨b',arr',t',k1,k2,k3,k4,k5⟩:=χ
          refine⟨b',arr',t',k1,h2,k3,by rw[k4,sj (by rw[hl',hfl]),hl',hfl],λj c hj=>?_⟩
          obtain⟨x,dd,r1,r2,rfl⟩:=JM hj;obtain⟨u,r3,r4,r5⟩:=k5 j dd r2;refine⟨u,r3,r4,?_⟩
          cases hs:dH dd with
          |true=>simp only[AX];exact JN r5 hs _
          |false =>
           simp only[Bw,Al];have r6:=JO r5 hs
           obtain⟨u',r7,_,r8⟩:=h5 j x r1;rw[hins j u' r7]at r6;simp at r6
           rw[<-r6];exact r8.mono hEE
       ·cases i with
        |zero =>
         simp at hi;subst hi
         refine⟨v0,rfl,m,rfl,rfl,hv0',λj dd hj hs=>?_⟩
         obtain⟨u,k1,_,k3⟩:=hcell j dd hj;exact⟨u,hins j u k1,SQ k3 hs,k3⟩
        |succ i =>
         obtain⟨sv,k1,k2⟩:=har i ad (by simpa using hi)
         obtain⟨v,k3,k4⟩:=hvs i sv k1;exact⟨v,by simpa using k3,ax0 k2 k4 (λj'=>by have:=hmt i j';rwa[Cn]at this)⟩
      ·cases hr2
     ·cases hr2
    ·cases hr2
   ·cases hr2
  ·cases hr2
 ·cases hr
def ax2{Γ:FuncId->Option Ctr}(hΓ:dj C.P Γ){d:Nat}{f:FuncId}{o:Nat}{svs:List SV}{ts:List TypeId}{eff:Eff}(hr:(IC C.P Γ d f o svs ts).run σ=some eff)(hob:eff.obl)(h:St C σ mu a w)
  {v0:Value}(hv0:ak (σ.env C.wF mu) (.ptr o 0) v0)
  {vs:List Value}(hvl:vs.length=svs.length)(hvs:∀(i:Nat) (sv:SV),svs[i]?=some sv->∃v,vs[i]?=some v/\aA C.P (σ.env C.wF mu) sv v){dst:Option Nat}(hd:∀d,dst=some d->d<C.N) :
  (∃fn,C.P.funcs[f]?=some fn/\fn.body.isSome=true/\(fn.name == "runtime.NumGoroutine")=false) /\
  Calls C.P f (v0::vs).toArray w λe w'=>∃v,e=.returned v/\aD C (σ.app dst eff) (a.put dst v) w':=by
 unfold IC at hr;split at hr
 ·rename_i ct hct
  have hf:=hΓ f _ hct
  refine⟨hf.fn,?_⟩
  obtain⟨ob,ho,hr2⟩:=bg hr;clear hr;split at hr2
  ·rename_i xs
   have hw:=sc h [o] (λx hx=>by simp at hx;subst hx;exact⟨_,ho⟩)
   have hmt:∀y j,b9 [(0,0)] (1+y) j=none:=λy j=>by
    simp only[b9];rw[AB (by omega)]
    rfl
   obtain⟨fcs,hr3,hfl,hfc⟩:=nV h hw (mt:=[]) (i:=0) xs 0 _ _ _ (λx c _ y hy=>by simp[b9]at hy) hr2
   obtain⟨ads,hr4,hal,har⟩:=JH hΓ h hw svs 1 _ _ _ (λy sv _ x j hx=>by rw[hmt y j]at hx;cases hx) hr3
   split at hr4
   ·rename_i pre ret fcs' hpost
    split at hr4
    ·exact ax1 hΓ hr4 hob h hv0 hvl hvs hd
    rename_i hnro;split at hr4
    ·rename_i q hq
     obtain⟨hr5,θ⟩:=nW hr4;simp only[Rd.run,AC]at hr5;subst hr5;obtain⟨g,arr,ty,h1,h2,h3,h4,h5⟩:=mi h ho;have hv0':v0=(mu o).hd:=by
      obtain⟨_,b,hb,hv⟩:=aV ho hv0;have hb:ag (mu o).hd=some b:=hb
      rw[h1]at hb⊢;simp[ag]at hb
      rw[hv,hb]
     let m:Img:=⟨(mu o).hd,arr.toList.map λu=>.agg #[u]⟩
     have hmi:∀u∈m.ins,ag u=none:=λu hu=>by
      obtain⟨x,_,rfl⟩:=AJ.1 hu;rfl
     have hmb:m.blocks=(mu o).blocks:=by rw[xY hmi,xY h2]
     have hins:∀(j:Nat) (u:Value),arr[j]?=some u->m.ins[j]?=some (.agg #[u]):=λj u hu=>by
      show(arr.toList.map λu=>Value.agg #[u])[j]?=_
      rw[Ak];simp[hu]
     have hcell:∀(j:Nat) (dd:FC),fcs[j]?=some dd->∃u,arr[j]?=some u/\u.oneCell'=true/\bu (pT w ([o].flatMap λo=>(mu o).blocks)) u dd:=λj dd hj=>by
      obtain⟨c,k1,k2⟩:=hfc j dd hj;obtain⟨u,k3,k4,k5⟩:=h5 j c k1;exact⟨u,k3,k4,xQ (k2 u k5)⟩
     have hl':=lz hq
     refine sh hf h (hid:=[o]) (by simp) rfl (ms:=[m]) (obs:=[.bx fcs]) rfl rfl hpost hob.1 hob.2 rfl (λo' ho'=>?_) (λx o' rc hx hrc=>?_) θ hw.kept (λhc=>by rw[hnro]at hc;cases hc) (by simp[hvl,hal]) (λi ad hi=>?_) hd
     ·rw[bv,AB (λhc=>ho' (by simp[hc]))];rfl
     ·cases x with
      |succ x=>simp at hx
      |zero =>
       simp at hx hrc
       subst hx;subst hrc;refine⟨m,.bx fcs,.bx fcs',.box xs,q,rfl,rfl,⟨g,arr,ty,h1,hmi,h3,by rw[h4,hfl],λj dd hj=>?_⟩,hmb,by simp[dO,hq],id,ho,rfl,.inr ⟨rfl,.box (gV xs fcs'),by simp[bv],rfl,⟨?_,AE _,λ_=>rfl⟩,λE w' _ hEE χ=>?_⟩⟩
       ·obtain⟨u,k1,k2,k3⟩:=hcell j dd hj
        exact⟨u,k1,k2,SP k3 (hins j u k1)⟩
       ·show(gV xs fcs').length=xs.length
        exact sj (by rw[hl',hfl])
       ·obtain⟨b',arr',t',k1,k2,k3,k4,k5⟩:=χ
        refine⟨b',arr',t',k1,h2,k3,by rw[k4,sj (by rw[hl',hfl]),hl',hfl],λj c hj=>?_⟩
        obtain⟨x,dd,r1,r2,rfl⟩:=JM hj;obtain⟨u,r3,r4,r5⟩:=k5 j dd r2;refine⟨u,r3,r4,?_⟩
        cases hs:dH dd with
        |true=>simp only[AX];exact JN r5 hs _
        |false =>
         simp only[Bw,Al];have r6:=JO r5 hs
         obtain⟨u',r7,_,r8⟩:=h5 j x r1;rw[hins j u' r7]at r6;simp at r6
         rw[<-r6];exact r8.mono hEE
     ·cases i with
      |zero =>
       simp at hi;subst hi
       refine⟨v0,rfl,m,rfl,rfl,hv0',λj dd hj hs=>?_⟩
       obtain⟨u,k1,_,k3⟩:=hcell j dd hj;exact⟨u,hins j u k1,SQ k3 hs,k3⟩
      |succ i =>
       obtain⟨sv,k1,k2⟩:=har i ad (by simpa using hi)
       obtain⟨v,k3,k4⟩:=hvs i sv k1;have k5:=k2 v k4
       rw[Cn]at k5;exact⟨v,by simpa using k3,aw0 (λj'=>by have:=hmt i j';rwa[Cn]at this) k5⟩
    ·cases hr4
   ·cases hr4
  ·cases hr2
 ·cases hr
end
end Go.Sx
end
section
namespace Go.Sx
open Go.RowKit
section
variable {C:Cx} {σ:State} {mu:Nat->Img} {a:Act} {w:World}
def ax3{o:Nat}{F:SFV}{svs:List SV}{eff:Eff}(hr:(II o F svs).run σ=some eff)(hob:eff.obl)(h:St C σ mu a w){v0:Value}(hv0:aA C.P (σ.env C.wF mu) (.fvs o F) v0)
  {vs:List Value}(hvl:vs.length=svs.length)(hvs:∀(i:Nat) (sv:SV),svs[i]?=some sv->∃v,vs[i]?=some v/\aA C.P (σ.env C.wF mu) sv v){dst:Option Nat}(hd:∀d,dst=some d->d<C.N) :
  ∃g caps,v0=.func (.func g) #[] caps/\(∃fn,C.P.funcs[g]?=some fn/\fn.body.isSome=true/\(fn.name == "runtime.NumGoroutine")=false) /\
  Calls C.P g (vs.toArray++caps) w λe w'=>∃v,e=.returned v/\aD C (σ.app dst eff) (a.put dst v) w':=by
 simp[II,Rd.run]at hr
def ax4{Γ:FuncId->Option Ctr}(hΓ:dj C.P Γ){d:Nat}{f:FuncId}{svs:List SV}{eff:Eff}(hr:(IH C.P Γ d f svs).run σ=some eff)(hob:eff.obl)(h:St C σ mu a w)
  {vs:List Value}(hvl:vs.length=svs.length)(hvs:∀(i:Nat) (sv:SV),svs[i]?=some sv->∃v,vs[i]?=some v/\aA C.P (σ.env C.wF mu) sv v){dst:Option Nat}(hd:∀d,dst=some d->d<C.N) :
  (∃fn,C.P.funcs[f]?=some fn/\fn.body.isSome=true/\(fn.name == "runtime.NumGoroutine")=false) /\
  Calls C.P f vs.toArray w λe w'=>∃v,e=.returned v/\aD C (σ.app dst eff) (a.put dst v) w':=by
 simp[IH,Rd.run]at hr
end
end Go.Sx
end
section
namespace Go.Sx
open Go.RowKit
section
variable {C:Cx} {σ:State} {mu mu':Nat->Img} {a:Act} {w w':World}
def ax5{Γ:FuncId->Option Ctr}(hΓ:dj C.P Γ){d:Nat}{f:FuncId}{o ver i j:Nat}{ts:List TypeId}{eff:Eff}(hr:(IP C.P Γ d f o ver i j ts).run σ=some eff)(hob:eff.obl)(h:St C σ mu a w)
  {v0 v1:Value}(hv0:aA C.P (σ.env C.wF mu) (.c (.row o ver i)) v0)(hv1:aA C.P (σ.env C.wF mu) (.c (.row o ver j)) v1){dst:Option Nat}(hd:∀d,dst=some d->d<C.N) :
  (∃fn,C.P.funcs[f]?=some fn/\fn.body.isSome=true/\(fn.name == "runtime.NumGoroutine")=false) /\
  Calls C.P f [v0,v1].toArray w λe w'=>∃v,e=.returned v/\aD C (σ.app dst eff) (a.put dst v) w':=by
 simp[IP,Rd.run]at hr
end
end Go.Sx
end
section
namespace Go.Sx
open Go.RowKit
section
variable {C:Cx} {σ:State} {mu:Nat->Img} {a:Act} {w:World}
structure GoodT (C:Cx) (mu:Nat->Img) (tot:Tr) (E':Env):Prop where
 wF:E'.wF=C.wF
 at':∀k x ob,(k,x,ob)∈tot->E'.st k=.live (gW ob).shp/\match x with
  |some o=>E'.mu k=mu o
  |none=>(E'.mu k).hd=.slice none 0 0
def iD(C:Cx)(σ:State)(mu:Nat->Img)(tot os:Tr):Prop:=∀k x ob,(k,x,ob)∈os->match x with
 |some o=>∃ob0,σ.H o=some (some ob0)/\ob0.isFz=false/\((rL ob0=true/\ob=ob0) \/
   ∃cs cs',ob0=.box cs/\ob=.box cs'/\cs'.length=cs.length/\∀E',GoodT C mu tot E'->∀arr,dp (σ.env C.wF mu) cs arr->dp E' cs' arr)
 |none=>∃t,kh C.P t=some ob
theorem GoodT.sub{tot tot':Tr}{E':Env}(h:GoodT C mu tot E')(hs:∀t∈tot',t∈tot):GoodT C mu tot' E':=⟨h.wF,λk x ob hm=>h.at' k x ob (hs _ hm)⟩
theorem iD.up{tot tot' os:Tr}(h:iD C σ mu tot os)(hs:∀t∈tot,t∈tot'):iD C σ mu tot' os:=λk x ob hm=>by
 have h1:=h k x ob hm
 cases x with
 |none=>exact h1
 |some o =>
  obtain⟨ob0,q1,q2,q3⟩:=h1;refine⟨ob0,q1,q2,q3.imp id ?_⟩
  rintro⟨cs,cs',z1,z2,z3,z4⟩
  exact⟨cs,cs',z1,z2,z3,λE' hg=>z4 E' (hg.sub hs)⟩
theorem iD.app{tot os os':Tr}(h:iD C σ mu tot os)(h':iD C σ mu tot os'):iD C σ mu tot (os++os'):=λk x ob hm=>by
 rcases AH.1 hm with hm|hm
 ·exact h k x ob hm
 ·exact h' k x ob hm
def jI(os:Tr):List (Nat×Option Ob):=os.map λt=>(t.1,some (gW t.2.2))
def SR(os os':Tr):jI (os++os')=jI os++jI os':=Be
def ST{P:Program}{t:TypeId}{ob:Ob}(h:kh P t=some ob):gW ob=ob:=by
 unfold kh at h
 repeat' split at h
 all_goals first|cases h;done|(cases h;rfl)
def SU{α:Type}{k:Nat}{nl:Option Ob}(hnl:∀ob,nl=some ob->∃t,kh C.P t=some ob){c:SC}{K:MC->Tr->Rd α}{r:α}(hr:(xo k nl c K).run σ=some r) :
  ∃x os,(K x os).run σ=some r/\jI os=wZ k x/\(∀tot,iD C σ mu tot os)/\∀tot E' v,(∀t∈os,t∈tot)->GoodT C mu tot E'->ak (σ.env C.wF mu) c v->ak E' (HS k x) v:=by
 have nilT:∀tot:Tr,iD C σ mu tot []:=λtot k x ob hm=>by cases hm
 unfold xo at hr;split at hr
 ·exact⟨_,_,hr,rfl,nilT,λtot E' v _ _ hv=>hv⟩
 ·exact⟨_,_,hr,rfl,nilT,λtot E' v _ _ hv=>hv⟩
 ·exact⟨_,_,hr,rfl,nilT,λtot E' v _ _ hv=>hv⟩
 ·refine⟨_,_,hr,rfl,nilT,λtot E' v _ hg hv=>(mh ?_).1⟩
  rw[hg.wF];exact hv.2
 ·refine⟨_,_,hr,rfl,nilT,λtot E' v _ hg hv=>(mh ?_).1⟩
  rw[hg.wF];exact hv.1.2
 ·rename_i o
  obtain⟨ob,ho,hr⟩:=bg hr;split at hr
  ·rename_i d
   refine⟨_,_,hr,rfl,nilT,λtot E' v _ hg hv=>(mh ?_).1⟩
   have h3:=hv.2
   have e:(σ.env C.wF mu).st o=.frz d:=fR ho
   rw[e]at h3;rw[hg.wF];exact h3.2
  ·rename_i hnf0
   have hnf:ob.isFz=false:=by cases ob<;>first|rfl|exact absurd rfl (hnf0 _)
   split at hr
   ·rename_i hok
    refine⟨_,_,hr,rfl,λtot k' x ob' hm=>?_,λtot E' v hs hg hv=>?_⟩
    ·simp only[Ar,BQ]at hm
     obtain⟨rfl,rfl,rfl⟩:=hm;exact⟨ob',ho,hnf,.inl ⟨hok,rfl⟩⟩
    ·have h1:=aV ho hv hnf
     obtain⟨h2,h3⟩:=hg.at' k (some o) ob (hs _ (by simp))
     refine⟨hv.1,?_⟩
     rw[h2]
     show v=(E'.mu k).hd
     rw[h3];exact h1
   ·cases hr
 ·split at hr
  ·rename_i ob
   refine⟨_,_,hr,?_,λtot k' x ob' hm=>?_,λtot E' v hs hg hv=>?_⟩
   ·obtain⟨t,ht⟩:=hnl ob rfl
    show [(k,some (gW ob))]=[(k,some ob)]
    rw[ST ht]
   ·simp only[Ar,BQ]at hm
    obtain⟨rfl,rfl,rfl⟩:=hm;exact hnl _ rfl
   ·have hv':v=.slice none 0 0:=hv
    obtain⟨h2,h3⟩:=hg.at' k none ob (hs _ (by simp))
    subst hv';refine⟨rfl,?_⟩
    rw[h2];exact h3.symm
  ·cases hr
 ·cases hr
def ax6{P:Program}{ts:List TypeId}{ob:Ob}(h:Rv P ts=some ob):∃t,kh P t=some ob:=by
 cases ts with
 |nil=>cases h
 |cons t ts=>exact⟨t,h⟩
def xZ:∀(k:Nat) (l:List MC),(gb k l).length=l.length
 |_,[]=>rfl
 |k,x::l=>by simp[gb,xZ (k+1) l]
def SW{α:Type}:∀(cs:List SC) (k:Nat) (ts:List TypeId) (K:List MC->Tr->Rd α) (r:α) (_:(xp C.P k cs ts K).run σ=some r),
  ∃l os,(K l os).run σ=some r/\jI os=lX k l/\l.length=cs.length/\(∀tot,iD C σ mu tot os)/\∀tot E',(∀t∈os,t∈tot)->GoodT C mu tot E' ->
   ∀(j:Nat) (c':SC),(gb k l)[j]?=some c'->∃c,cs[j]?=some c/\∀v,ak (σ.env C.wF mu) c v->ak E' c' v
 | [],k,ts,K,r,hr=>⟨[],[],hr,rfl,rfl,λtot k x ob hm=>(by cases hm),λ_ _ _ _ j c' hj=>by simp[gb]at hj⟩
 |c::cs,k,ts,K,r,hr=>by
  simp only[xp]at hr;obtain⟨x,os,h1,h2,h3,h4⟩:=SU (C:=C) (mu:=mu) (λob h=>ax6 h) hr
  obtain⟨l,os',q1,q2,q3,q4,q5⟩:=SW cs (k+1) ts.tail _ r h1;refine⟨x::l,os++os',q1,by rw[SR,h2,q2];rfl,by simp[q3],λtot=>(h3 tot).app (q4 tot),λtot E' hs hg j c' hj=>?_⟩
  cases j with
  |zero =>
   simp only[gb,CX,AC]at hj;subst hj;exact⟨c,rfl,λv hv=>h4 tot E' v (λt ht=>hs t (BI _ ht)) hg hv⟩
  |succ j =>
   simp only[gb,Bq]at hj;obtain⟨c2,z1,z2⟩:=q5 tot E' (λt ht=>hs t (BH _ ht)) hg j c' hj
   exact⟨c2,by simpa using z1,z2⟩
def ax7{α:Type}{k:Nat}{t:TypeId}{sv:SV}{K:MA->Tr->Rd α}{r:α}(hr:(IE C.P k t sv K).run σ=some r) :
  ∃x os,(K x os).run σ=some r/\jI os=Rq k x/\(∀tot,(∀t∈os,t∈tot)->iD C σ mu tot os)/\∀tot E' v,(∀t∈os,t∈tot)->GoodT C mu tot E'->aA C.P (σ.env C.wF mu) sv v->aA C.P E' (rB k x) v:=by
 unfold IE at hr;split at hr
 ·split at hr
  ·rename_i o i
   split at hr
   ·obtain⟨ob,ho,hr⟩:=bg hr
    split at hr
    ·rename_i cs
     obtain⟨l,os,q1,q2,q3,q4,q5⟩:=SW (C:=C) (mu:=mu) cs (k+1) _ _ r hr;refine⟨_,_,q1,?_,λtot hs k' x ob' hm=>?_,λtot E' v hs hg hv=>?_⟩
     ·show(k,some (Ob.box (gb (k+1) l)))::jI os=_
      rw[q2];rfl
     ·rcases AG.1 hm with hm|hm
      ·simp only[BQ]at hm
       obtain⟨rfl,rfl,rfl⟩:=hm;refine⟨_,ho,rfl,.inr ⟨cs,_,rfl,rfl,by rw[xZ,q3],λE' hg arr χ=>⟨by rw[xZ,q3];exact χ.1,λj c' hj=>?_⟩⟩⟩
       obtain⟨c,z1,z2⟩:=q5 tot E' (λt ht=>hs t (AQ _ ht)) hg j c' hj
       obtain⟨u,z3,z4,z5⟩:=χ.2 j c z1;exact⟨u,z3,z4,z2 u z5⟩
      ·exact q4 tot k' x ob' hm
     ·obtain⟨h2,h3⟩:=hg.at' k (some o) _ (hs _ AZ)
      obtain⟨h4,h5⟩:=aV ho hv;refine⟨hv.1,?_⟩
      rw[h2];refine⟨?_,?_⟩
      ·show 0<(gb (k+1) l).length
       rw[xZ,q3];exact h4
      ·rw[h3];exact h5
    ·cases hr
   ·cases hr
  ·obtain⟨x,os,h1,h2,h3,h4⟩:=SU (C:=C) (mu:=mu) (λob h=>⟨t,h⟩) hr
   exact⟨_,_,h1,h2,λtot _=>h3 tot,h4⟩
 ·cases hr
def ya:∀{mas:List MA} {i t:Nat} {sv:SV},lk (w5 i mas) t=some sv->∃j x,mas[j]?=some x/\t=i+j/\sv=rB (dq t) x
 | [],i,t,sv,h=>by cases h
 |x::l,i,t,sv,h=>by
  simp only[w5,bv]at h;split at h
  ·rename_i he
   subst he;cases h;exact⟨0,x,rfl,rfl,rfl⟩
  ·obtain⟨j,y,h1,h2,h3⟩:=ya h
   exact⟨j+1,y,by simpa using h1,by omega,h3⟩
def SX{α:Type}:∀(svs:List SV) (i:Nat) (ts:List TypeId) (K:List MA->Tr->Rd α) (r:α) (_:(xq C.P i svs ts K).run σ=some r),
  ∃mas os,(K mas os).run σ=some r/\jI os=iT i mas/\mas.length=svs.length/\(∀tot,(∀t∈os,t∈tot)->iD C σ mu tot os)/\∀tot E',(∀t∈os,t∈tot)->GoodT C mu tot E' ->
   ∀(j:Nat) (x:MA),mas[j]?=some x->∃sv,svs[j]?=some sv/\∀v,aA C.P (σ.env C.wF mu) sv v->aA C.P E' (rB (dq (i+j)) x) v
 | [],i,ts,K,r,hr=>⟨[],[],hr,rfl,rfl,λtot _ k x ob hm=>(by cases hm),λ_ _ _ _ j x hj=>by simp at hj⟩
 |sv::svs,i,ts,K,r,hr=>by
  simp only[xq]at hr;obtain⟨x,os,h1,h2,h3,h4⟩:=ax7 (C:=C) (mu:=mu) hr;obtain⟨l,os',q1,q2,q3,q4,q5⟩:=SX svs (i+1) ts.tail _ r h1;refine⟨x::l,os++os',q1,by rw[SR,h2,q2];rfl,by simp[q3],
   λtot hs=>(h3 tot λt ht=>hs t (BI _ ht)).app (q4 tot λt ht=>hs t (BH _ ht)),λtot E' hs hg j y hj=>?_⟩
  cases j with
  |zero =>
   simp only[CX,AC]at hj;subst hj;exact⟨sv,rfl,λv hv=>h4 tot E' v (λt ht=>hs t (BI _ ht)) hg hv⟩
  |succ j =>
   simp only[Bq]at hj;obtain⟨sv2,z1,z2⟩:=q5 tot E' (λt ht=>hs t (BH _ ht)) hg j y hj
   exact⟨sv2,by simpa using z1,by rw[show i+(j+1)=i+1+j by omega];exact z2⟩
def ax8{E E':Env}(hE:E'.wF=E.wF){w:World}{m:Img}{ob:Ob}(h:aX E w m ob)(hok:rL ob=true):aX E' w m (gW ob):=by
 cases ob with
 |ints e k l=>exact h
 |bools e l=>exact h
 |rows v e ei k l=>exact h
 |tr v es d=>exact h
 |lst v e d =>
  obtain⟨q1,vs,q2,q3⟩:=h;exact⟨q1,vs,q2,λi u hi=>let⟨r1,fc,r2,r3⟩:=q3 i u hi;⟨r1,fc,r2,by rw[hE];exact r3⟩⟩
 |yd v Y pre g=>exact⟨h.1,by rw[hE];exact h.2.1,h.2.2⟩
 |_=>cases hok
def i9:Ob->Img
 |.tr _ es _=>dN es.length (bB (.slice none 0 0) [])
 |_=>⟨.slice none 0 0,[]⟩
def SY(ob:Ob):(i9 ob).hd=.slice none 0 0:=by cases ob<;>rfl
def yb{P:Program}{t:TypeId}{ob:Ob}(h:kh P t=some ob)(E:Env)(w:World):aX E w (i9 ob) ob/\(i9 ob).blocks=[]/\ob.isFz=false:=by
 unfold kh at h;split at h
 ·cases h
 ·split at h
  ·cases h;exact⟨⟨rfl,World.ownsRow_nil _ _ _ _⟩,rfl,rfl⟩
  ·cases h;exact⟨⟨rfl,World.ownsRow_nil _ _ _ _⟩,rfl,rfl⟩
  ·split at h
   ·cases h;exact⟨⟨rfl,[],World.ownsRow_nil _ _ _ _,λi u hi=>by simp at hi⟩,rfl,rfl⟩
   ·split at h
    ·rename_i k l _
     split at h
     ·rename_i a b c _ _
      cases h;have hT:bq w [a,b,c] (bB (.slice none 0 0) []) (.r3 k []):=I8 rfl rfl λh0=>by cases h0
      exact⟨⟨_,rfl,hT⟩,(eK hT).trans (I9 _),rfl⟩
     ·cases h
    ·cases h
  ·cases h
def pW:∀{os:Tr} {k:Nat} {x:Option Nat×Ob},eX os k=some x->(k,x)∈os
 | [],k,x,h=>by cases h
 |(k',y)::os,k,x,h=>by
  simp only[eX]at h;split at h
  ·rename_i hb
   have:=AY hb
   subst this;cases h;exact AZ
  ·exact AQ _ (pW h)
def mq:∀{os:Tr} {k:Nat} {x:Option Nat×Ob},(os.map (·.1)).Nodup->(k,x)∈os->eX os k=some x
 |(k',y)::os,k,x,hn,h=>by
  simp only[BW,Aa]at hn;simp only[eX];rcases AG.1 h with h|h
  ·cases h
   rw[show Nat.beq k' k'=true from Nat.beq_refl k']
  ·have:k'≠k:=λe=>hn.1 (e ▸ AJ.2 ⟨(k,x),h,rfl⟩)
   rw[show Nat.beq k' k=false from by
    cases hb:Nat.beq k' k with
    |false=>rfl
    |true=>exact absurd (AY hb) this]
   exact mq hn.2 h
def ax9{os:Tr}{k:Nat}:lk (jI os) k=(eX os k).map λx=>some (gW x.2):=by
 induction os with
 |nil=>rfl
 |cons t os ih =>
  obtain⟨k',x,ob⟩:=t
  show lk ((k',some (gW ob))::jI os) k=_
  rw[bv,ih];simp only[eX];by_cases h:k'=k
  ·subst h;simp
  ·have:Nat.beq k' k=false:=by
    cases hb:Nat.beq k' k with
    |false=>rfl
    |true=>exact absurd (AY hb) h
   simp[h,this]
def sk:∀{os:Tr} {o:Nat},o∈iY os↔∃k ob,(k,some o,ob)∈os
 | [],o=>by simp[iY]
 |(k,some o',ob)::os,o=>by
  simp only[iY,AG,sk,BQ,AC]
  constructor
  ·rintro(rfl|⟨k',ob',h⟩)
   ·exact⟨k,ob,.inl ⟨rfl,rfl,rfl⟩⟩
   ·exact⟨k',ob',.inr h⟩
  ·rintro⟨k',ob',⟨rfl,rfl,rfl⟩|h⟩
   ·exact .inl rfl
   ·exact .inr ⟨k',ob',h⟩
 |(k,none,ob)::os,o=>by
  simp only[iY,sk,AG,BQ]
  constructor
  ·rintro⟨k',ob',h⟩;exact⟨k',ob',.inr h⟩
  ·rintro⟨k',ob',⟨_,h,_⟩|h⟩
   ·cases h
   ·exact⟨k',ob',h⟩
def yc{o k k':Nat}{ob ob':Ob}:∀{os:Tr},(iY os).Nodup->(k,some o,ob)∈os->(k',some o,ob')∈os->k=k'
 | [],_,h,_=>by cases h
 |(k0,none,ob0)::os,hn,h,h'=>by
  have h1:(k,some o,ob)∈os:=by simpa using h
  have h2:(k',some o,ob')∈os:=by simpa using h'
  exact yc (os:=os) hn h1 h2
 |(k0,some o0,ob0)::os,hn,h,h'=>by
  obtain⟨hn1,hn2⟩:=Aa.1 (show(o0::iY os).Nodup from hn)
  rcases AG.1 h with h|h
  ·injection h with e1 e2
   injection e2 with e2 e3
   injection e2 with e2
   rcases AG.1 h' with h' |h'
   ·injection h' with f1 _
    rw[e1,f1]
   ·exact absurd (sk.2 ⟨_,_,e2 ▸ h'⟩) hn1
  ·rcases AG.1 h' with h' |h'
   ·injection h' with f1 f2
    injection f2 with f2 f3
    injection f2 with f2
    exact absurd (sk.2 ⟨_,_,f2 ▸ h⟩) hn1
   ·exact yc (os:=os) hn2 h h'
def SZ{f:Nat->Nat}{E E':Env}(hw:bU E.wF E'.wF)(hst:∀k,E.st k=.absent\/∃s s',E.st k=.live s/\E'.st (f k)=.live s'/\s'.len=s.len/\(E'.mu (f k)).hd=(E.mu k).hd)
  {c c':SC}(h:pK f c=some c'){v:Value}(hv:ak E c v):ak E' c' v:=by
 unfold pK at h;split at h
 all_goals first|(cases h;exact hv)|skip
 ·cases h;exact⟨hv.1,hv.2.mono hw⟩
 ·rename_i k
  cases h;obtain⟨h1,h2⟩:=hv;rcases hst k with h3|⟨s,s',h3,h4,h5,h6⟩
  ·rw[h3]at h2;exact h2.elim
  ·rw[h3]at h2
   refine⟨h1,?_⟩
   rw[h4]
   show v=_
   rw[h6];exact h2
 ·rename_i k i
  cases h;obtain⟨h1,h2⟩:=hv;rcases hst k with h3|⟨s,s',h3,h4,h5,h6⟩
  ·rw[h3]at h2;exact h2.elim
  ·rw[h3]at h2
   obtain⟨z1,z2⟩:=h2;refine⟨h1,?_⟩
   rw[h4];refine⟨by rw[h5];exact z1,?_⟩
   rw[h6];exact z2
 ·cases h
def S1{f:Nat->Nat}{E E':Env}(hw:bU E.wF E'.wF)(hst:∀k,E.st k=.absent\/∃s s',E.st k=.live s/\E'.st (f k)=.live s'/\s'.len=s.len/\(E'.mu (f k)).hd=(E.mu k).hd)
  {cs cs':List SC}(h:eM (pK f) cs=some cs'){arr:Array Value}(hv:dp E cs arr):dp E' cs' arr:=by
 obtain⟨h1,h2⟩:=iB h;refine⟨by rw[h1];exact hv.1,λi c hi=>?_⟩
 obtain⟨x,h3,h4⟩:=h2 i c hi;obtain⟨u,h5,h6,h7⟩:=hv.2 i x h3;exact⟨u,h5,h6,SZ hw hst h4 h7⟩
def ay0{P:Program}{f:Nat->Nat}{E E':Env}(hw:bU E.wF E'.wF)(hst:∀k,E.st k=.absent\/∃s s',E.st k=.live s/\E'.st (f k)=.live s'/\s'.len=s.len/\(E'.mu (f k)).hd=(E.mu k).hd)
  {c c':SV}(h:xr f c=some c'){v:Value}(hv:aA P E c v):aA P E' c' v:=by
 unfold xr at h;split at h
 ·split at h
  ·rename_i h1;cases h;exact SZ hw hst h1 hv
  ·cases h
 ·split at h
  ·rename_i h1;cases h;obtain⟨arr,h2,h3⟩:=hv;exact⟨arr,h2,S1 hw hst h1 h3⟩
  ·cases h
 ·split at h
  ·cases h;obtain⟨arr,h2,h3,h4⟩:=hv;exact⟨arr,h2,h3,λi c hi=>by simp at hi⟩
  ·cases h
 ·cases h
def S3{f:Nat->Nat}{E E':Env}(hw:bU E.wF E'.wF)(hst:∀k,E.st k=.absent\/∃s s',E.st k=.live s/\E'.st (f k)=.live s'/\s'.len=s.len/\(E'.mu (f k)).hd=(E.mu k).hd)
  {ob ob':Ob}(h:jB f ob=some ob'){w:World}{m:Img}(hv:aX E w m ob):aX E' w m ob':=by
 unfold jB at h;split at h
 ·split at h
  ·rename_i h1
   cases h;obtain⟨b,arr,t,z1,z2,z3,z4⟩:=hv;exact⟨b,arr,t,z1,z2,z3,S1 hw hst h1 z4⟩
  ·cases h
 ·split at h
  ·rename_i hok
   cases h;cases ob with
   |lst v e d =>
    obtain⟨q1,vs,q2,q3⟩:=hv;exact⟨q1,vs,q2,λi u hi=>let⟨r1,fc,r2,r3⟩:=q3 i u hi;⟨r1,fc,r2,r3.mono hw⟩⟩
   |yd v Y pre g=>exact⟨hv.1,hv.2.1.trans hw,hv.2.2⟩
   |ints e k l=>exact hv
   |bools e l=>exact hv
   |rows v e ei k l=>exact hv
   |tr v es d=>exact hv
   |_=>cases hok
  ·cases h
def JP{f:Nat->Nat}{ob ob':Ob}(h:jB f ob=some ob'):ob'.shp=ob.shp/\ob'.isFz=false/\ob.isFz=false:=by
 unfold jB at h;split at h
 ·split at h
  ·rename_i h1
   cases h;exact⟨by show(⟨_,_,_⟩:Shp)=⟨_,_,_⟩;rw[(iB h1).1],rfl,rfl⟩
  ·cases h
 ·split at h
  ·rename_i hok
   cases h;refine⟨rfl,?_,?_⟩<;>cases ob<;>first|rfl|cases hok
  ·cases h
def ay1{E:Env}{w:World}{m:Img}{ob0 ob:Ob}(h:aX E w m ob):aX E w m (gg ob0 ob):=by
 unfold gg;split
 ·exact h
 ·exact h
def ay2{ob0 ob:Ob}:(gg ob0 ob).shp.len=ob.shp.len:=by
 unfold gg;split<;>rfl
def S4{ob0 ob:Ob}(h:ob.isFz=false):(gg ob0 ob).isFz=false:=by
 unfold gg;split
 ·rfl
 ·exact h
def S5{d:Nat}{os:Tr}:∀{O kept new:List (Nat×Option Ob)},rN d os O=some (kept,new) ->
  (∀k x,(k,x)∈O->∃ob ob',x=some ob/\jB (fl d os) ob=some ob'/\((∃o ob0,eX os k=some (some o,ob0)/\rM ob0 ob=true/\(o,some (gg ob0 ob'))∈kept)\/(eX os k=none/\(d+1000*k,some ob')∈new))) /\
  (∀o y,(o,y)∈kept->∃k ob ob' ob0,(k,some ob)∈O/\eX os k=some (some o,ob0)/\jB (fl d os) ob=some ob'/\rM ob0 ob=true/\y=some (gg ob0 ob')) /\
  (∀o y,(o,y)∈new->∃k ob ob',(k,some ob)∈O/\eX os k=none/\o=d+1000*k/\jB (fl d os) ob=some ob'/\y=some ob')
 | [],kept,new,h=>by
  cases h;exact⟨λk x hm=>(by cases hm),λo y hm=>(by cases hm),λo y hm=>(by cases hm)⟩
 |(k,none)::O,kept,new,h=>by cases h
 |(k,some ob)::O,kept,new,h=>by
  simp only[rN]at h;split at h
  ·cases h
  ·rename_i ob' hr
   split at h
   ·cases h
   ·rename_i kept' new' hu
    obtain⟨i1,i2,i3⟩:=S5 hu;split at h
    ·rename_i o ob0 hlk
     split at h
     ·rename_i hok
      cases h;refine⟨λk' x hm=>?_,λo' y hm=>?_,λo' y hm=>?_⟩
      ·rcases AG.1 hm with hm|hm
       ·cases hm
        exact⟨_,_,rfl,hr,.inl ⟨o,ob0,hlk,hok,AZ⟩⟩
       ·obtain⟨a1,a2,b1,b2,b3⟩:=i1 k' x hm
        refine⟨a1,a2,b1,b2,b3.imp ?_ id⟩
        rintro⟨o2,ob2,c1,c2,c3⟩
        exact⟨o2,ob2,c1,c2,AQ _ c3⟩
      ·rcases AG.1 hm with hm|hm
       ·cases hm
        exact⟨k,ob,ob',ob0,AZ,hlk,hr,hok,rfl⟩
       ·obtain⟨k2,a1,a2,a3,b1,b2⟩:=i2 o' y hm
        exact⟨k2,a1,a2,a3,AQ _ b1,b2⟩
      ·obtain⟨k2,a1,a2,b1,b2⟩:=i3 o' y hm
       exact⟨k2,a1,a2,AQ _ b1,b2⟩
     ·cases h
    ·cases h
    ·rename_i hlk
     cases h;refine⟨λk' x hm=>?_,λo' y hm=>?_,λo' y hm=>?_⟩
     ·rcases AG.1 hm with hm|hm
      ·cases hm
       exact⟨_,_,rfl,hr,.inr ⟨hlk,AZ⟩⟩
      ·obtain⟨a1,a2,b1,b2,b3⟩:=i1 k' x hm
       refine⟨a1,a2,b1,b2,b3.imp id ?_⟩
       rintro⟨c1,c2⟩
       exact⟨c1,AQ _ c2⟩
     ·obtain⟨k2,a1,a2,a3,b1,b2⟩:=i2 o' y hm
      exact⟨k2,a1,a2,a3,AQ _ b1,b2⟩
     ·rcases AG.1 hm with hm|hm
      ·cases hm
       exact⟨k,ob,ob',AZ,hlk,rfl,hr,rfl⟩
      ·obtain⟨k2,a1,a2,b1,b2⟩:=i3 o' y hm
       exact⟨k2,a1,a2,AQ _ b1,b2⟩
def sm{hp:List (Nat×Option Ob)}:∀{os:Tr} {o:Nat} {y:Option Ob},(o,y)∈du hp os↔y=none/\∃k ob,(k,some o,ob)∈os/\lk hp k=none
 | [],o,y=>by simp[du]
 |(k0,none,ob0)::os,o,y=>by
  rw[show du hp ((k0,none,ob0)::os)=du hp os from rfl,sm]
  simp
 |(k0,some o0,ob0)::os,o,y=>by
  simp only[du];cases hl:lk hp k0 with
  |none =>
   simp only[AG,sm,BQ]
   constructor
   ·rintro(⟨rfl,rfl⟩|⟨rfl,k,ob,h1,h2⟩)
    ·exact⟨rfl,k0,ob0,.inl ⟨rfl,rfl,rfl⟩,hl⟩
    ·exact⟨rfl,k,ob,.inr h1,h2⟩
   ·rintro⟨rfl,k,ob,⟨rfl,h1,rfl⟩|h1,h2⟩
    ·injection h1 with h1;exact .inl ⟨h1,rfl⟩
    ·exact .inr ⟨rfl,k,ob,h1,h2⟩
  |some z =>
   simp only[sm,AG,BQ]
   constructor
   ·rintro⟨rfl,k,ob,h1,h2⟩;exact⟨rfl,k,ob,.inr h1,h2⟩
   ·rintro⟨rfl,k,ob,⟨rfl,_,_⟩|h1,h2⟩
    ·rw[hl]at h2;cases h2
    ·exact⟨rfl,k,ob,h1,h2⟩
def sn:Tr->Nat->Option Nat
 | [],_=>none
 |(k,some o',_)::l,o=>match Nat.beq o' o with
  |true=>some k
  |false=>sn l o
 |(_,none,_)::l,o=>sn l o
def JQ{o k:Nat}{ob:Ob}:∀{os:Tr},(iY os).Nodup->(k,some o,ob)∈os->sn os o=some k
 | [],_,h=>by cases h
 |(k0,none,ob0)::os,hn,h=>JQ (os:=os) hn (by simpa using h)
 |(k0,some o0,ob0)::os,hn,h=>by
  obtain⟨hn1,hn2⟩:=Aa.1 (show(o0::iY os).Nodup from hn)
  simp only[sn];rcases AG.1 h with h|h
  ·injection h with e1 e2
   injection e2 with e2 e3
   injection e2 with e2
   rw[e2,show Nat.beq o0 o0=true from Nat.beq_refl o0,e1]
  ·have:o0≠o:=λe=>hn1 (e ▸ sk.2 ⟨_,_,h⟩)
   rw[show Nat.beq o0 o=false from by
    cases hb:Nat.beq o0 o with
    |false=>rfl
    |true=>exact absurd (AY hb) this]
   exact JQ hn2 h
def ye{α:Type}:∀{l:List (Nat×α)} {k:Nat} {x:α},(l.map (·.1)).Nodup->(k,x)∈l->lk l k=some x
 | [],k,x,_,h=>by cases h
 |(k',y)::l,k,x,hn,h=>by
  simp only[BW,Aa]at hn;rw[bv];rcases AG.1 h with h|h
  ·cases h;rw[AA rfl]
  ·have hne:¬ k'=k:=by
    intro e
    subst e;exact hn.1 (AJ.2 ⟨_,h,rfl⟩)
   rw[AB hne];exact ye hn.2 h
def mr{α:Type}:∀{l:List (Nat×α)} {k:Nat} {x:α},lk l k=some x->(k,x)∈l
 | [],k,x,h=>by cases h
 |(k',y)::l,k,x,h=>by
  rw[bv]at h;split at h
  ·rename_i e;subst e;cases h;exact AZ
  ·exact AQ _ (mr h)
def mw{α:Type}:∀{l:List (Nat×α)} {o:Nat},o∈l.map (·.1)->∃x,lk l o=some x
 | [],o,h=>by simp at h
 |(k,v)::l,o,h=>by
  rw[bv];by_cases hk:k=o
  ·exact⟨v,by rw[AA hk]⟩
  ·rw[AB hk]
   refine mw ?_
   simp only[BW,AG]at h;rcases h with h|h
   ·exact absurd h.symm hk
   ·exact h
def S6(ob:Ob):(gW ob).isFz=ob.isFz:=by cases ob<;>rfl
def ay3{d:Nat}{f:FuncId}{mas:List MA}{os:Tr}{sv sv':SV}{O kept new:List (Nat×Option Ob)}(ω:JC C.P f mas sv O)(h:St C σ mu a w)
  (hH:jI os=iT 0 mas)(hok:iD C σ mu os os)(hk:(os.map (·.1)).Nodup)(ho:(iY os).Nodup)(hO:(O.map (·.1)).Nodup)
  (hv:xr (fl d os) sv=some sv')(hu:rN d os O=some (kept,new))(θ:∀o x,lk new o=some x->σ.H o=none)
  {vs:List Value}(hvl:vs.length=mas.length)
  (hargs:∀E',GoodT C mu os E'->∀(j:Nat) (x:MA),mas[j]?=some x->∃v,vs[j]?=some v/\aA C.P E' (rB (dq j) x) v)
  {pp:Option Prop}{dst:Option Nat}(hd:∀d,dst=some d->d<C.N) :
  Calls C.P f vs.toArray w λe w'=>∃v,e=.returned v/\aD C (σ.app dst ⟨sv',new++(kept++du O os),pp⟩) (a.put dst v) w':=by
 obtain⟨muc,hmuc⟩:∃muc:Nat->Img,muc=λk=>match eX os k with
  |some (some o,_)=>mu o
  |some (none,ob)=>i9 ob
  |none=>⟨undef,[]⟩:=⟨_,rfl⟩
 obtain⟨M,hM⟩:∃M:Nat->Prop,M=λb=>∃k o ob,(k,some o,ob)∈os/\b∈(mu o).blocks:=⟨_,rfl⟩
 let C1:Cx:=⟨C.P,mas.length,w,C.wF,M,λk=>match(eX os k).isSome&&(lk O k).isSome with|true=>some (muc k)|false=>none⟩
 have hHk:∀k,(fk mas).H k=(eX os k).map λx=>some (gW x.2):=λk=>by
  show lk (iT 0 mas) k=_
  rw[<-hH,ax9]
 have hlive:∀k o ob,(k,some o,ob)∈os->∃ob0,σ.H o=some (some ob0)/\ob0.isFz=false/\ob.isFz=false/\muc k=mu o:=λk o ob hm=>by
  obtain⟨ob0,q1,q2,q3⟩:=hok k (some o) ob hm;refine⟨ob0,q1,q2,?_,by rw[hmuc];simp only[mq hk hm]⟩
  rcases q3 with⟨_,rfl⟩|⟨cs,cs',_,rfl,_⟩
  ·exact q2
  ·rfl
 have hnil:∀k ob,(k,none,ob)∈os->(∃t,kh C.P t=some ob)/\muc k=i9 ob:=λk ob hm =>
  ⟨hok k none ob hm,by rw[hmuc];simp only[mq hk hm]⟩
 have hkey:∀k ob,(fk mas).H k=some (some ob)->∃x ob1,(k,x,ob1)∈os/\ob=gW ob1:=λk ob hq=>by
  rw[hHk]at hq;cases hl:eX os k with
  |none=>rw[hl]at hq;cases hq
  |some y =>
   rw[hl]at hq;simp only[Cm,AC]at hq;exact⟨y.1,y.2,pW hl,hq.symm⟩
 have hnf:∀k x ob,(k,x,ob)∈os->ob.isFz=false:=λk x ob hm=>by
  cases x with
  |some o=>obtain⟨_,_,_,q,_⟩:=hlive k o ob hm;exact q
  |none=>obtain⟨t,ht⟩:=(hnil k ob hm).1;exact(yb ht (E0 w) w).2.2
 have hgood:GoodT C mu os ((fk mas).env C.wF muc):=⟨rfl,λk x ob hm=>by
  have hl:=mq hk hm
  refine⟨?_,?_⟩
  ·show(fk mas).ost k=_
   have:(fk mas).H k=some (some (gW ob)):=by rw[hHk,hl];rfl
   exact cz this (by rw[S6];exact hnf k x ob hm)
  ·cases x with
   |some o=>obtain⟨_,_,_,_,q⟩:=hlive k o ob hm;exact q
   |none=>show(muc k).hd=_;rw[(hnil k ob hm).2];exact SY ob⟩
 have hbl:∀k x ob,(k,x,ob)∈os->∀b∈(muc k).blocks,∃o ob0,x=some o/\σ.H o=some (some ob0)/\b∈(mu o).blocks:=λk x ob hm b hb=>by
  cases x with
  |some o=>obtain⟨ob0,q1,_,_,q⟩:=hlive k o ob hm;exact⟨o,ob0,rfl,q1,by rw[<-q];exact hb⟩
  |none =>
   obtain⟨⟨t,ht⟩,q⟩:=hnil k ob hm;rw[q,(yb ht (E0 w) w).2.1]at hb;cases hb
 have hst:St C1 (fk mas) muc ⟨vs.toArray,[]⟩ w:=by
  refine⟨.refl _,rfl,rfl,AE _,λ_ _ _=>rfl,λp u hp=>⟨λk ob hk2 hb=>?_,(h.cells p u hp).2⟩,by simp[C1,hvl],.nil,λt sv ht=>?_,λk ob hk2=>?_,λk ob hk2=>⟨?_,λb hb=>?_⟩,λk k' ob ob' hne hk2 hk2' b hb hb'=>?_,λk m hm=>?_⟩
  ·obtain⟨x,ob1,q1,_⟩:=hkey k ob hk2
   obtain⟨o,ob0,_,q3,q4⟩:=hbl k x ob1 q1 _ hb;exact(h.cells p u hp).1 o ob0 q3 q4
  ·obtain⟨j,x,q1,q2,rfl⟩:=ya ht
   rw[AI]at q2;subst q2;obtain⟨v,q3,q4⟩:=hargs _ hgood t x q1;have ψ:=(AL.1 q3).1
   have:(vs.toArray).getD t undef=v:=by
    rw[BJ];simp[q3]
   rw[this];exact q4
  ·obtain⟨x,ob1,q1,rfl⟩:=hkey k ob hk2
   cases x with
   |some o =>
    obtain⟨ob0,z1,z2,z3⟩:=hok k (some o) ob1 q1;obtain⟨_,_,_,_,z4⟩:=hlive k o ob1 q1;rw[z4];rcases z3 with⟨z5,rfl⟩|⟨cs,cs',rfl,rfl,_,z5⟩
    ·exact ax8 (E:=σ.env C.wF mu) (E':=(fk mas).env C1.wF muc) rfl (h.ob o _ z1) z5
    ·obtain⟨b,arr,t,y1,y2,y3,y4⟩:=h.ob o _ z1
     exact⟨b,arr,t,y1,y2,y3,z5 _ hgood arr y4⟩
   |none =>
    obtain⟨⟨t,ht⟩,z4⟩:=hnil k ob1 q1;rw[z4,ST ht];exact(yb ht _ w).1
  ·obtain⟨x,ob1,q1,rfl⟩:=hkey k ob hk2
   cases x with
   |some o=>obtain⟨ob0,z1,_,_,z4⟩:=hlive k o ob1 q1;rw[z4];exact(h.nd o ob0 z1).1
   |none=>obtain⟨⟨t,ht⟩,z4⟩:=hnil k ob1 q1;rw[z4,(yb ht (E0 w) w).2.1];exact .nil
  ·obtain⟨x,ob1,q1,rfl⟩:=hkey k ob hk2
   obtain⟨o,ob0,rfl,_,q4⟩:=hbl k x ob1 q1 b hb;exact .inl (by show M b;rw[hM];exact⟨k,o,ob1,q1,q4⟩)
  ·obtain⟨x,ob1,q1,rfl⟩:=hkey k ob hk2
   obtain⟨x',ob1',q1',rfl⟩:=hkey k' ob' hk2';obtain⟨o,ob0,rfl,q3,q4⟩:=hbl k x ob1 q1 b hb;obtain⟨o',ob0',rfl,q3',q4'⟩:=hbl k' x' ob1' q1' b hb';refine h.sep o o' ob0 ob0' (λe=>hne ?_) q3 q3' b q4 q4'
   subst e;exact yc ho q1 q1'
  ·have hm:(match(eX os k).isSome&&(lk O k).isSome with|true=>some (muc k)|false=>none)=some m:=hm
   split at hm
   ·rename_i hb
    cases hm;simp only[AO]at hb;obtain⟨y,hy⟩:=Dz.1 hb.1;have hl:(fk mas).H k=some (some (gW y.2)):=by rw[hHk,hy];rfl
    rw[cz hl (by rw[S6];exact hnf k y.1 y.2 (pW hy))]
    exact⟨rfl,λ_=>rfl⟩
   ·cases hm
 have hpin:∀o m,C1.pin o=some m->o∈lY mas O:=λk m hm=>by
  have hm:(match(eX os k).isSome&&(lk O k).isSome with|true=>some (muc k)|false=>none)=some m:=hm
  split at hm
  ·rename_i hb
   simp only[AO]at hb;unfold lY;rw[Bc];refine⟨?_,hb.2⟩
   obtain⟨y,hy⟩:=Dz.1 hb.1;rw[<-hH];exact AJ.2 ⟨(k,some (gW y.2)),AJ.2 ⟨(k,y),pW hy,rfl⟩,rfl⟩
  ·cases hm
 refine(ω C1 muc vs w rfl rfl rfl hvl hpin hst).mono ?_
 rintro e w' ⟨v,rfl,wG,muo,hg,hst2⟩
 refine⟨v,rfl,?_⟩
 obtain⟨u1,u2,u3⟩:=S5 hu;obtain⟨mu',hmu'⟩:∃mu':Nat->Img,mu'=λo=>match lk new o with
  |some _=>muo ((o-d) / 1000)
  |none=>match lk kept o with
   |some _=>(match sn os o with|some k=>muo k|none=>mu o)
   |none=>mu o:=⟨_,rfl⟩
 have hnew:∀o y,lk new o=some y->∃k ob ob',lk O k=some (some ob)/\eX os k=none/\o=d+1000*k/\jB (fl d os) ob=some ob'/\y=some ob'/\mu' o=muo k:=λo y hy=>by
  obtain⟨k,ob,ob',q1,q2,q3,q4,q5⟩:=u3 o y (mr hy);refine⟨k,ob,ob',ye hO q1,q2,q3,q4,q5,?_⟩
  rw[hmu'];simp only[hy];rw[show(o-d) / 1000=k by omega]
 have hkpt:∀o y,lk new o=none->lk kept o=some y->∃k ob ob' ob0 obx,lk O k=some (some ob)/\(k,some o,ob0)∈os/\jB (fl d os) ob=some ob'/\rM ob0 ob=true/\y=some (gg ob0 ob')/\mu' o=muo k/\σ.H o=some (some obx)/\obx.isFz=false/\muc k=mu o:=λo y hn hy=>by
  obtain⟨k,ob,ob',ob0,q1,q2,q3,q4,q5⟩:=u2 o y (mr hy);have hm:=pW q2
  obtain⟨obx,z1,z2,_,z4⟩:=hlive k o ob0 hm;refine⟨k,ob,ob',ob0,obx,ye hO q1,hm,q3,q4,q5,?_,z1,z2,z4⟩
  rw[hmu'];simp only[hn,hy,JQ ho hm]
 have hdead:∀o y,lk (du O os) o=some y->y=none/\∃k ob obx,(k,some o,ob)∈os/\σ.H o=some (some obx):=λo y hy=>by
  obtain⟨rfl,k,ob,q1,_⟩:=sm.1 (mr hy);obtain⟨obx,z1,_⟩:=hlive k o ob q1;exact⟨rfl,k,ob,obx,q1,z1⟩
 have hσ':∀o,(σ.app dst ⟨sv',new++(kept++du O os),pp⟩).H o=match lk new o with
   |some y=>some y
   |none=>match lk kept o with
    |some y=>some y
    |none=>match lk (du O os) o with
     |some y=>some y
     |none=>σ.H o:=λo=>by
  show lk ((new++(kept++du O os))++σ.hp) o=_
  rw[gD,gD,gD];cases lk new o with
  |some y=>rfl
  |none =>
   cases lk kept o with
   |some y=>rfl
   |none=>cases lk (du O os) o<;>rfl
 have hout:∀k ob,lk O k=some (some ob)->∃ob',jB (fl d os) ob=some ob'/\ob.isFz=false/\(ju sv O).H k=some (some ob):=λk ob hl=>by
  obtain⟨ob1,ob',e1,e2,_⟩:=u1 k _ (mr hl);cases e1;exact⟨ob',e2,(JP e2).2.2,hl⟩
 have hnm:∀k ob,lk O k=some (some ob)->∃ob',(σ.app dst ⟨sv',new++(kept++du O os),pp⟩).H (fl d os k)=some (some ob')/\ob'.isFz=false/\ob'.shp.len=ob.shp.len/\mu' (fl d os k)=muo k:=λk ob hl=>by
  obtain⟨ob1,ob',e1,e2,e3⟩:=u1 k _ (mr hl);cases e1;obtain⟨s1,s2,s3⟩:=JP e2;rcases e3 with⟨o,ob0,z1,z2,z3⟩|⟨z1,z2⟩
  ·have hm:=pW z1
   obtain⟨obx,y1,_⟩:=hlive k o ob0 hm;have hn:lk new o=none:=by
    cases hq:lk new o with
    |none=>rfl
    |some y=>have:=θ o y hq;rw[y1]at this;cases this
   have hnmk:fl d os k=o:=by simp only[fl,z1]
   rw[hnmk];obtain⟨y,hy⟩:=mw (AJ.2 ⟨_,z3,rfl⟩);obtain⟨k2,ob2,ob2',ob02,obx2,r1,r2,r3,r4,r5,r6,_⟩:=hkpt o y hn hy;have:k2=k:=yc ho r2 hm
   subst this;rw[hl]at r1;cases r1;rw[e2]at r3;cases r3;refine⟨gg ob02 ob',by rw[hσ',hn];simp only[hy,r5],S4 s2,?_,r6⟩
   rw[ay2,s1]
  ·have hnmk:fl d os k=d+1000*k:=by simp only[fl,z1]
   rw[hnmk];obtain⟨y,hy⟩:=mw (AJ.2 ⟨_,z2,rfl⟩);obtain⟨k2,ob2,ob2',r1,r2,r3,r4,r5,r6⟩:=hnew _ y hy;have:k2=k:=by omega
   subst this;rw[hl]at r1;cases r1;rw[e2]at r4;cases r4;exact⟨ob',by rw[hσ',hy,r5],s2,by rw[s1],r6⟩
 have hkG:bU C.wF wG:=hg.kept
 have hstE:∀k,((ju sv O).env wG muo).st k=.absent\/∃s s',((ju sv O).env wG muo).st k=.live s/\((σ.app dst ⟨sv',new++(kept++du O os),pp⟩).env wG mu').st (fl d os k)=.live s'/\s'.len=s.len/\(mu' (fl d os k)).hd=(muo k).hd:=λk=>by
  cases hl:lk O k with
  |none=>left;show(ju sv O).ost k=_;simp only[State.ost,show(ju sv O).H k=none from hl]
  |some y =>
   cases y with
   |none=>obtain⟨_,_,e1,_⟩:=u1 k _ (mr hl);cases e1
   |some ob =>
    obtain⟨ob',z1,z2,z3⟩:=hout k ob hl;obtain⟨ob2,y1,y2,y3,y4⟩:=hnm k ob hl;exact .inr ⟨_,_,cz z3 z2,cz y1 y2,y3,by rw[y4]⟩
 have hMo:∀b,M b->∃o ob0,σ.H o=some (some ob0)/\b∈(mu o).blocks:=λb hb=>by
  rw[hM]at hb;obtain⟨k,o,ob,q1,q2⟩:=hb;obtain⟨ob0,z1,_⟩:=hlive k o ob q1;exact⟨o,ob0,z1,q2⟩
 have hblk:∀k ob,lk O k=some (some ob)->(muo k).blocks.Nodup/\∀b∈(muo k).blocks,M b\/w.heap.size<=b:=λk ob hl=>hst2.nd k ob (hout k ob hl).choose_spec.2.2
 have hfar:∀o ob,σ.H o=some (some ob)->lk new o=none->lk kept o=none->lk (du O os) o=none->∀b,b∈(mu o).blocks->¬ M b:=λo ob ho1 hn1 hn2 hn3 b hb hMb=>by
  rw[hM]at hMb;obtain⟨k,o2,ob2,q1,q2⟩:=hMb;obtain⟨obx,z1,_⟩:=hlive k o2 ob2 q1;have:o=o2:=Ax λhne=>h.sep o o2 ob obx hne ho1 z1 b hb q2
  subst this;cases hl:lk O k with
  |none =>
   obtain⟨y,hy⟩:=mw (AJ.2 ⟨_,(sm (hp:=O)).2 ⟨rfl,k,ob2,q1,hl⟩,rfl⟩);rw[hy]at hn3;cases hn3
  |some y =>
   obtain⟨ob1,ob',e1,e2,e3⟩:=u1 k _ (mr hl);rcases e3 with⟨o3,ob03,y1,y2,y3⟩|⟨y1,_⟩
   ·rw[mq hk q1]at y1
    cases y1;obtain⟨y,hy⟩:=mw (AJ.2 ⟨_,y3,rfl⟩);rw[hy]at hn2;cases hn2
   ·rw[mq hk q1]at y1;cases y1
 have hcase:∀o ob,(σ.app dst ⟨sv',new++(kept++du O os),pp⟩).H o=some (some ob) ->
   (∃k ob1,lk O k=some (some ob1)/\mu' o=muo k/\fl d os k=o/\aX ((σ.app dst ⟨sv',new++(kept++du O os),pp⟩).env wG mu') w' (muo k) ob) \/
   (σ.H o=some (some ob)/\mu' o=mu o/\lk new o=none/\lk kept o=none/\lk (du O os) o=none):=λo ob hq=>by
  rw[hσ']at hq;cases hn1:lk new o with
  |some y =>
   rw[hn1]at hq;obtain⟨k,ob1,ob',q1,q2,q3,q4,q5,q6⟩:=hnew o y hn1;have hq:y=some ob:=by simpa using hq
   rw[q5]at hq;cases hq;have z3:=(hout k ob1 q1).choose_spec.2.2
   exact .inl ⟨k,ob1,q1,q6,by simp only[fl,q2];exact q3.symm,S3 (E:=(ju sv O).env wG muo) (E':=(σ.app dst ⟨sv',new++(kept++du O os),pp⟩).env wG mu') (λ_ _ h=>h) hstE q4 (hst2.ob k ob1 z3)⟩
  |none =>
   rw[hn1]at hq;cases hn2:lk kept o with
   |some y =>
    rw[hn2]at hq;obtain⟨k,ob1,ob',ob0,obx,q1,q2,q3,q4,q5,q6,_⟩:=hkpt o y hn1 hn2;have hq:y=some ob:=by simpa using hq
    rw[q5]at hq;cases hq;have z3:=(hout k ob1 q1).choose_spec.2.2
    exact .inl ⟨k,ob1,q1,q6,by simp only[fl,mq hk q2],ay1 (S3 (E:=(ju sv O).env wG muo) (E':=(σ.app dst ⟨sv',new++(kept++du O os),pp⟩).env wG mu') (λ_ _ h=>h) hstE q3 (hst2.ob k ob1 z3))⟩
   |none =>
    rw[hn2]at hq;cases hn3:lk (du O os) o with
    |some y =>
     rw[hn3]at hq;obtain⟨rfl,_⟩:=hdead o y hn3;cases hq
    |none =>
     rw[hn3]at hq;exact .inr ⟨hq,by rw[hmu'];simp only[hn1,hn2],rfl,rfl,rfl⟩
 refine⟨wG,mu',⟨hkG,λp u hp=>?_⟩,h.updG (mu':=mu') M hst2.os hst2.tape hst2.output hst2.size hMo (λb hb hnM=>hst2.block b hb hnM) hkG (λp u hp=>?_) (λo=>?_) (λo ob hq=>?_) (by rw[xv];exact h.sz) (xw _ _ _)
  (xx h hd (ay0 (E:=(ju sv O).env wG muo) (E':=(σ.app dst ⟨sv',new++(kept++du O os),pp⟩).env wG mu') (λ_ _ h=>h) hstE hv (hst2.fr 0 sv rfl)))⟩
 ·rcases hg.new p u hp with q|q|q
  ·exact .inl q
  ·exact .inr (.inl (Ao h.size q))
  ·obtain⟨o,ob0,z1,z2⟩:=hMo _ q
   exact .inr ((h.nd o ob0 z1).2 _ z2).symm
 ·rcases hg.new p u hp with q|q
  ·exact .inl q
  ·refine .inr ⟨(hst2.cells p u hp).2,λo ob hq hb=>?_⟩
   rcases hcase o ob hq with⟨k,ob1,z1,z2,_,_⟩|⟨z1,z2,z3,z4,z5⟩
   ·rw[z2]at hb
    exact(hst2.cells p u hp).1 k ob1 z1 hb
   ·rw[z2]at hb
    rcases q with q|q
    ·have:=(h.ob o ob z1).block _ hb
     have q:w.heap.size<=p.block:=q
     omega
    ·exact hfar o ob z1 z3 z4 z5 _ hb q
 ·show ec wG (σ.ost o) (State.ost _ o) (mu o) (mu' o)
  cases hn1:lk new o with
  |some y =>
   have:=θ o y hn1
   rw[show σ.ost o=.absent by simp only[State.ost,this]]
   exact .inl trivial
  |none =>
   cases hn2:lk kept o with
   |some y =>
    obtain⟨k,ob1,ob',ob0,obx,q1,q2,q3,q4,q5,q6,q7,q8,q9⟩:=hkpt o y hn1 hn2;have hq:(σ.app dst ⟨sv',new++(kept++du O os),pp⟩).H o=some (some (gg ob0 ob')):=by rw[hσ',hn1];simp only[hn2,q5]
    obtain⟨s1,s2,s3⟩:=JP q3;rw[cz q7 q8,cz hq (S4 s2)];have hp1:=hst2.pins k (mu o) (by
     show(match(eX os k).isSome&&(lk O k).isSome with|true=>some (muc k)|false=>none)=_
     rw[mq hk q2,q1];simp[q9])
    have hoE:=(hout k ob1 q1).choose_spec.2
    rw[cz hoE.2 hoE.1]at hp1;obtain⟨hp2,hp3⟩:=hp1;obtain⟨ob00,z1,z2,z3⟩:=hok k (some o) ob0 q2;rw[q7]at z1;cases z1;refine .inl ?_
    show(gg ob0 ob').shp.len=obx.shp.len/\(mu' o).hd=(mu o).hd/\obx.shp.ver<=(gg ob0 ob').shp.ver/\((gg ob0 ob').shp.ver=obx.shp.ver->mu' o=mu o/\(gg ob0 ob').shp.rl=obx.shp.rl)
    rw[q6];unfold rM at q4;split at q4
    ·rename_i cs0 cs1
     rcases z3 with⟨z5,rfl⟩|⟨cs,cs',rfl,z5,z6,_⟩
     ·cases z5
     ·cases z5
      have hl:=AY q4
      show ob'.shp.len=cs.length/\(muo k).hd=(mu o).hd/\0<=ob'.shp.ver/\(ob'.shp.ver=0->muo k=mu o/\ob'.shp.rl=[])
      rw[s1];exact⟨by show cs1.length=cs.length;omega,hp2,AT _,λ_=>⟨hp3 rfl,rfl⟩⟩
    ·rename_i v0 Y0 p0 b0 v1 Y1 p1 b1
     rcases z3 with⟨z5,rfl⟩|⟨cs,cs',rfl,z5,z6,_⟩
     ·have:ob'=.yd v1 Y1 p1 b1:=by
       have q3':some (Ob.yd v1 Y1 p1 b1)=some ob':=q3
       exact(BF q3').symm
      subst this
      show(0:Nat)=0/\(muo k).hd=(mu o).hd/\v0<=v0+v1/\(v0+v1=v0->muo k=mu o/\([]:List Nat)=[])
      exact⟨rfl,hp2,by omega,λhvv=>⟨hp3 (show v1=0 by omega),rfl⟩⟩
     ·cases z5
    ·cases q4
   |none =>
    cases hn3:lk (du O os) o with
    |some y =>
     obtain⟨rfl,k,ob1,obx,q1,q2⟩:=hdead o y hn3;have hq:(σ.app dst ⟨sv',new++(kept++du O os),pp⟩).H o=some none:=by rw[hσ',hn1];simp only[hn2,hn3]
     rw[show State.ost (σ.app dst ⟨sv',new++(kept++du O os),pp⟩) o=.dead by simp only[State.ost,hq]]
     exact .inl (xy q2)
    |none =>
     have hq:(σ.app dst ⟨sv',new++(kept++du O os),pp⟩).H o=σ.H o:=by rw[hσ',hn1];simp only[hn2,hn3]
     rw[show State.ost (σ.app dst ⟨sv',new++(kept++du O os),pp⟩) o=σ.ost o by simp only[State.ost,hq],show mu' o=mu o by rw[hmu'];simp only[hn1,hn2]]
     exact ec.refl _ _ _
 ·rcases hcase o ob hq with⟨k,ob1,z1,z2,z3,z4⟩|⟨z1,z2,z3,z4,z5⟩
  ·refine .inr ⟨by rw[z2];exact z4,by rw[z2];exact(hblk k ob1 z1).1,by rw[z2];exact(hblk k ob1 z1).2,λo' ob' hne hq'=>?_⟩
   rcases hcase o' ob' hq' with⟨k',ob1',y1,y2,y3,y4⟩|⟨y1,y2,y3,y4,y5⟩
   ·refine .inr λb hb hb'=>?_
    rw[z2]at hb;rw[y2]at hb';exact hst2.sep k k' ob1 ob1' (λe=>hne (by rw[<-z3,<-y3,e])) z1 y1 b hb hb'
   ·exact .inl ⟨y1,y2,hfar o' ob' y1 y3 y4 y5⟩
  ·exact .inl ⟨z1,z2,hfar o ob z1 z3 z4 z5⟩
def ay4{Γ:FuncId->Option Ctr}(hΓ:dj C.P Γ){d:Nat}{f:FuncId}{svs:List SV}{ts:List TypeId}{eff:Eff}(hm:IF (Γ f)=true)(hr:(IG C.P d (Γ f) svs ts).run σ=some eff)(hob:eff.obl)(h:St C σ mu a w)
  {vs:List Value}(hvl:vs.length=svs.length)(hvs:∀(i:Nat) (sv:SV),svs[i]?=some sv->∃v,vs[i]?=some v/\aA C.P (σ.env C.wF mu) sv v){dst:Option Nat}(hd:∀d,dst=some d->d<C.N) :
  (∃fn,C.P.funcs[f]?=some fn/\fn.body.isSome=true/\(fn.name == "runtime.NumGoroutine")=false) /\
  Calls C.P f vs.toArray w λe w'=>∃v,e=.returned v/\aD C (σ.app dst eff) (a.put dst v) w':=by
 unfold IF at hm;split at hm
 ·rename_i ct hct
  have hf:=hΓ f _ hct
  refine⟨hf.fn,?_⟩
  rw[hct]at hr;simp only[IG]at hr;obtain⟨mas,os,h1,h2,h3,h4,h5⟩:=SX (C:=C) (mu:=mu) svs 0 ts _ _ hr;split at h1
  ·rename_i pre sv ex outs hpost
   split at h1
   ·rename_i hnd
    simp only[AO]at hnd;split at h1
    ·rename_i sv' kept new hv hu
     obtain⟨h6,θ⟩:=nW h1;simp only[Rd.run,AC]at h6;subst h6;refine ay3 (hf.st rfl mas pre sv ex outs hpost hob) h h2 (h4 os λt ht=>ht) (lw hnd.1.1) (lw hnd.1.2) (lw hnd.2) hv hu θ (by rw[hvl,h3]) (λE' hg j x hj=>?_) hd
     obtain⟨sv2,q1,q2⟩:=h5 os E' (λt ht=>ht) hg j x hj
     obtain⟨v,q3,q4⟩:=hvs j sv2 q1;rw[AI]at q2;exact⟨v,q3,q2 v q4⟩
    ·cases h1
   ·cases h1
  ·cases h1
 ·cases hm
def ay5{o i:Nat}{eff:Eff}(hr:(IR C.P o i).run σ=some eff)(hob:eff.obl)(h:St C σ mu a w){v0 v:Value}(h0:ak (σ.env C.wF mu) (.own o) v0)(hv:ak (σ.env C.wF mu) (.own i) v)
  {dst:Option Nat}(hd:∀d,dst=some d->d<C.N):∃l,v0=.func (.yield l) #[] #[]/\YieldAt Fence.wide 0 C.P l #[v] w λe w'=>∃u,e=.returned u/\aD C (σ.app dst eff) (a.put dst u) w':=by
 unfold IR at hr;split at hr
 ·cases hr
 ·rename_i hne
  have hne:o≠i:=CH hne
  obtain⟨ob,ho,hr⟩:=bg hr;split at hr
  ·rename_i yv Y pre b
   obtain⟨ob2,hi,hr⟩:=bg hr;split at hr
   ·rename_i e k x
    split at hr
    ·simp only[Rd.run,AC]at hr
     subst hr;obtain⟨hP,rfl,rfl,hok⟩:Y.P=C.P/\Y.e=e/\b=true/\Y.ok pre x:=hob;have hv0:v0=(mu o).hd:=aV ho h0
     have hvi:v=(mu i).hd:=aV hi hv
     obtain⟨y1,y2,y3,y4⟩:=h.ob o _ ho;obtain⟨z1,z2⟩:=h.ob i _ hi;rw[<-hvi]at z2;have hbi:∀b,ag v=some b->b∈(mu i).blocks:=λb hb=>cL (by rw[<-hvi];exact hb)
     refine⟨Y.l,by rw[hv0,y1],?_⟩
     have hsp:=Y.spec pre x w (mu o).blocks v y3 hok (h.nd o _ ho).1 y4 hv.1 z2 (λk hk hc=>h.sep o i _ _ hne ho hi k hk (hbi k hc)) (λp u hp=>⟨(h.cells p u (y2 p u hp)).2,λhc=>(h.cells p u (y2 p u hp)).1 i _ hi (hbi _ hc)⟩)
     rw[hP]at hsp;obtain⟨fn,tmps,assign,body,s1,s2⟩:=hsp;refine⟨fn,tmps,assign,body,s1,s2.mono ?_⟩
     rintro e w' ⟨S',rfl,q1,q2,q3,q4,q5,q6,q7,q8,q9,q10⟩
     refine⟨_,rfl,?_⟩
     let m':Img:=⟨.func (.yield Y.l) #[] #[],S'.map λb=>.pointer (some ⟨b,0,none⟩)⟩
     have hm':m'.blocks=S':=by
      show(ag (.func (.yield Y.l) #[] #[])).toList++(S'.map λb=>Value.pointer (some ⟨b,0,none⟩)).filterMap ag=S'
      rw[List.filterMap_map]
      show []++S'.filterMap (λb=>some b)=S'
      simp
     let mu':Nat->Img:=λx=>if x=o then m' else mu x
     have hmo:mu' o=m':=AA rfl
     have hmx:∀x,x≠o->mu' x=mu x:=λx hx=>AB hx
     obtain⟨eff,heff⟩:∃eff:Eff,eff=⟨.c (.bool (Y.go pre x)),[(o,some (.yd (yv+1) Y (pre++[x]) (Y.go pre x)))],some (Y.P=C.P/\Y.e=Y.e/\true=true/\Y.ok pre x)⟩:=⟨_,rfl⟩;rw[<-heff];have hH:∀y,(σ.app dst eff).H y=if o=y then some (some (.yd (yv+1) Y (pre++[x]) (Y.go pre x)))else σ.H y:=λy=>by
      rw[heff]
      show lk ([(o,_)]++σ.hp) y=_
      rw[gD,bv];by_cases hy:o=y
      ·rw[AA hy,AA hy]
      ·rw[AB hy,AB hy];rfl
     have hHo:(σ.app dst eff).H o=some (some (.yd (yv+1) Y (pre++[x]) (Y.go pre x))):=by rw[hH,AA rfl]
     have hHx:∀y,y≠o->(σ.app dst eff).H y=σ.H y:=λy hy=>by rw[hH,AB (λe=>hy e.symm)]
     have hblt:∀y ob',σ.H y=some (some ob')->∀b∈(mu y).blocks,b<w.heap.size:=λy ob' hy=>(h.ob y ob' hy).block
     have hfar:∀y ob',y≠o->y≠i->σ.H y=some (some ob')->∀b∈(mu y).blocks,¬ (b∈(mu o).blocks\/b∈(mu i).blocks):=λy ob' hyo hyi hy b hb hc=>by
      rcases hc with hc|hc
      ·exact h.sep y o ob' _ hyo hy ho b hb hc
      ·exact h.sep y i ob' _ hyi hy hi b hb hc
     have hoi:∀b∈S',b ∉ (mu i).blocks:=λb hb hc=>by
      rcases(q4 b hb).1 with z|z
      ·exact h.sep o i _ _ hne ho hi b z hc
      ·have:=hblt i _ hi b hc;omega
     refine St.ex (h.upd (λk=>k∈(mu o).blocks\/k∈(mu i).blocks) q6 q7 q8 q9 ?_ ?_ (mu':=mu') ?_ ?_ (by rw[xv];exact h.sz) (xw _ _ _) (xx h hd (by rw[heff];rfl)))
     ·rintro k (hk|hk)
      ·exact⟨o,_,ho,hk⟩
      ·exact⟨i,_,hi,hk⟩
     ·intro k hk hS
      exact q10 k hk (λhc=>hS (.inl hc)) (λhc=>hS (.inr (hbi k hc)))
     ·intro y
      by_cases hy:y=o
      ·subst hy
       rw[cz ho,cz hHo,hmo];exact⟨rfl,y1.symm,by show yv<=yv+1;omega,λhc=>by have hc:yv+1=yv:=hc;omega⟩
      ·rw[hmx y hy,show State.ost (σ.app dst eff) y=σ.ost y by simp only[State.ost,hHx y hy]]
       exact d5.refl _ _
     ·intro y ob' hy
      by_cases hyo:y=o
      ·subst hyo
       rw[hHo]at hy;cases hy;refine .inr ⟨by rw[hmo];exact⟨rfl,y2,by rw[hm'];exact q1,by rw[hm'];exact λk hk=>(q4 k hk).2⟩,by rw[hmo,hm'];exact q2,λk hk=>?_,λy' ob2 hne' hy'=>?_⟩
       ·rw[hmo,hm']at hk
        exact(q4 k hk).1.imp .inl id
       ·rw[hHx y' (λe=>hne' e.symm)]at hy'
        by_cases hyi:y'=i
        ·subst hyi
         refine .inr λb hb hc=>?_
         rw[hmo,hm']at hb;rw[hmx y' (λe=>hne' e.symm)]at hc
         exact hoi b hb hc
        ·exact .inl ⟨hy',hmx y' (λe=>hne' e.symm),hfar y' ob2 (λe=>hne' e.symm) hyi hy'⟩
      ·rw[hHx y hyo]at hy
       by_cases hyi:y=i
       ·subst hyi
        rw[hi]at hy;cases hy;rw[hmx y hyo];refine .inr ⟨⟨z1,by rw[<-hvi];exact q5⟩,(h.nd y _ hi).1,λk hk=>.inl (.inr hk),λy' ob2 hne' hy'=>?_⟩
        by_cases hyo':y'=o
        ·subst hyo'
         refine .inr λb hb hc=>?_
         rw[hmo,hm']at hc;exact hoi b hc hb
        ·rw[hHx y' hyo']at hy'
         exact .inl ⟨hy',hmx y' hyo',hfar y' ob2 hyo' (λe=>hne' e.symm) hy'⟩
       ·exact .inl ⟨hy,hmx y hyo,hfar y ob' hyo hyi hy⟩
    ·cases hr
   ·cases hr
  ·cases hr
end
end Go.Sx
end
