/- SxK -/
import Derived.Test.YtkmldclpaniclaaGreatSxJ
set_option linter.unusedSimpArgs false
set_option linter.unusedVariables false
set_option linter.defProp false
namespace Go.Sx
open Go.RowKit
section
variable {C:Cx} {σ:State} {mu:Nat->Img} {a:Act} {w w':World}
theorem St.setVE(h:St C σ mu a w){dst:Option Nat}(hd:∀d,dst=some d->d<C.N){o:Nat}{ob0 ob':Ob}(ho:σ.H o=some (some ob0))(ks:List Nat)
  (hks:∀k∈ks,k≠o/\∃ob,σ.H k=some (some ob)){m:Img}{p:Option Prop}{v:Value}{val:SV}(hval:∀E:Env,E.st o=.live ob'.shp->E.mu o=m->aw C.P E val v)
  (hos:OsD w w')(htape:w'.tape=w.tape)(hout:w'.output=w.output)(hsize:w.heap.size<=w'.heap.size)
  (hkeep:∀b,b<w.heap.size->b ∉ (mu o).blocks->w'.heap[b]?=w.heap[b]?)
  (hlen:ob'.shp.len=ob0.shp.len)(hhd:m.hd=(mu o).hd)(hver:ob0.shp.ver<=ob'.shp.ver)(hsame:ob'.shp.ver=ob0.shp.ver->m=mu o/\ob'.shp.rl=ob0.shp.rl)
  (χ:aR (σ.env C.wF mu) w' m ob')(hnd:m.blocks.Nodup)(hb:∀b∈m.blocks,b∈(mu o).blocks\/∃k∈ks,b∈(mu k).blocks)
  (hf0:ob0.isFz=false:=by first|rfl|assumption)(hf:ob'.isFz=false:=by first|rfl|assumption) :
  ay C (σ.app dst ⟨val,ks.map (fun k=>(k,none))++[(o,some ob')],p⟩) (a.put dst v) w':=by
 have hlk:∀x,lk (ks.map (fun k=>(k,(none:Option Ob)))++[(o,some ob')]) x=if x∈ks then some none else if o=x then some (some ob')else none:=fun x=>by
  rw[gt,Pi,bt];by_cases hx:x∈ks<;>simp[hx,lk]
 have hko:o ∉ ks:=fun hc=>(hks o hc).1 rfl
 have hto:∀b∈(mu o).blocks,jr σ mu ⟨val,ks.map (fun k=>(k,none))++[(o,some ob')],p⟩ b:=fun b hb =>
  ⟨o,some ob',ob0,by rw[hlk,AB hko,AA rfl],ho,hb⟩
 have htk:∀k∈ks,∀b∈(mu k).blocks,jr σ mu ⟨val,ks.map (fun k=>(k,none))++[(o,some ob')],p⟩ b:=fun k hk b hb=>by
  obtain⟨_,ob,h1⟩:=hks k hk;exact⟨k,none,ob,by rw[hlk,AA hk],h1,hb⟩
 refine St.ex (mu:=fun x=>if x=o then m else mu x) (h.ups hd hos htape hout hsize (fun b hb' ht=>hkeep b hb' fun hbo=>ht (hto b hbo)) (fun x hx=>?_) (fun x y hx=>?_) (fun x ob2 hx=>?_) (fun x x' ob1 ob2 hne hx hx'=>?_) (fun _=>hval _ (show(σ.app dst ⟨val,ks.map (fun k=>(k,none))++[(o,some ob')],p⟩).ost o=_ from cr (ob:=ob') (by rw[j8];show(match lk (ks.map (fun k=>(k,(none:Option Ob)))++[(o,some ob')]) o with|some x=>some x|none=>σ.H o)=_;rw[hlk,AB hko,AA rfl]) hf) (AA rfl)))
 ·have hq:=(hlk x).symm.trans hx
  split at hq
  ·cases hq
  ·split at hq
   ·cases hq
   ·rename_i hne;simp[AO hne]
 ·have hq:=(hlk x).symm.trans hx
  split at hq
  ·rename_i hxk
   cases hq;obtain⟨_,ob,h1⟩:=hks x hxk;exact wW h1
  ·split at hq
   ·rename_i hox;subst hox
    cases hq;rw[cr ho];simp only[AV,m6];rw[mW hf];exact⟨hlen,hhd,hver,hsame⟩
   ·cases hq
 ·have hq:=(hlk x).symm.trans hx
  split at hq
  ·cases hq
  ·split at hq
   ·rename_i hox;subst hox
    cases hq;simp only[AV];exact⟨χ,hnd,fun b hb'=>.inl ((hb b hb').elim (hto b) fun⟨k,h1,h2⟩=>htk k h1 b h2)⟩
   ·cases hq
 ·have hq:=(hlk x).symm.trans hx
  have hq':=(hlk x').symm.trans hx'
  split at hq
  ·cases hq
  ·split at hq
   ·split at hq'
    ·cases hq'
    ·split at hq'
     ·rename_i h1 _ h2;exact absurd (h1.symm.trans h2) hne
     ·cases hq'
   ·cases hq
theorem St.setV(h:St C σ mu a w){dst:Option Nat}(hd:∀d,dst=some d->d<C.N){o:Nat}{ob0 ob':Ob}(ho:σ.H o=some (some ob0))(ks:List Nat)
  (hks:∀k∈ks,k≠o/\∃ob,σ.H k=some (some ob)){m:Img}{p:Option Prop}{v:Value}{val:SV}(hval:∀E,aw C.P E val v)
  (hos:OsD w w')(htape:w'.tape=w.tape)(hout:w'.output=w.output)(hsize:w.heap.size<=w'.heap.size)
  (hkeep:∀b,b<w.heap.size->b ∉ (mu o).blocks->w'.heap[b]?=w.heap[b]?)
  (hlen:ob'.shp.len=ob0.shp.len)(hhd:m.hd=(mu o).hd)(hver:ob0.shp.ver<=ob'.shp.ver)(hsame:ob'.shp.ver=ob0.shp.ver->m=mu o/\ob'.shp.rl=ob0.shp.rl)
  (χ:aR (σ.env C.wF mu) w' m ob')(hnd:m.blocks.Nodup)(hb:∀b∈m.blocks,b∈(mu o).blocks\/∃k∈ks,b∈(mu k).blocks)
  (hf0:ob0.isFz=false:=by first|rfl|assumption)(hf:ob'.isFz=false:=by first|rfl|assumption) :
  ay C (σ.app dst ⟨val,ks.map (fun k=>(k,none))++[(o,some ob')],p⟩) (a.put dst v) w' :=
 h.setVE hd ho ks hks (fun E _ _=>hval E) hos htape hout hsize hkeep hlen hhd hver hsame χ hnd hb hf0 hf
theorem St.set(h:St C σ mu a w){dst:Option Nat}(hd:∀d,dst=some d->d<C.N){o:Nat}{ob0 ob':Ob}(ho:σ.H o=some (some ob0))(ks:List Nat)
  (hks:∀k∈ks,k≠o/\∃ob,σ.H k=some (some ob)){m:Img}{p:Option Prop}{v:Value}
  (hos:OsD w w')(htape:w'.tape=w.tape)(hout:w'.output=w.output)(hsize:w.heap.size<=w'.heap.size)
  (hkeep:∀b,b<w.heap.size->b ∉ (mu o).blocks->w'.heap[b]?=w.heap[b]?)
  (hlen:ob'.shp.len=ob0.shp.len)(hhd:m.hd=(mu o).hd)(hver:ob0.shp.ver<=ob'.shp.ver)(hsame:ob'.shp.ver=ob0.shp.ver->m=mu o/\ob'.shp.rl=ob0.shp.rl)
  (χ:aR (σ.env C.wF mu) w' m ob')(hnd:m.blocks.Nodup)(hb:∀b∈m.blocks,b∈(mu o).blocks\/∃k∈ks,b∈(mu k).blocks)
  (hf0:ob0.isFz=false:=by first|rfl|assumption)(hf:ob'.isFz=false:=by first|rfl|assumption) :
  ay C (σ.app dst ⟨.c .any,ks.map (fun k=>(k,none))++[(o,some ob')],p⟩) (a.put dst v) w' :=
 h.setV hd ho ks hks (val:=.c .any) (fun _=>trivial) hos htape hout hsize hkeep hlen hhd hver hsame χ hnd hb hf0 hf
theorem ZA{P:Program}{t:TypeId}(ht:cK P t=some 1){b i:Nat}{u v:Value}(hc:w.cell? ⟨b,i,none⟩=some u)(hf:w.frozen? ⟨b,i,none⟩=false)(hv:v.oneCell'=true) :
  (storeVar t ⟨b,i,none⟩ v).run P w=.ok () (w.setCell ⟨b,i,none⟩ v):=by
 have:=run_store P w ⟨b,i,none⟩ v .plain hv
 rw[hc]at this;simp only[hf]at this;simp[storeVar,gn ht,qR hv,storeCells,Addr.add_lit,this]
theorem jt{b i:Nat}{v:Value}:∀k,k<w.heap.size->k≠b->(w.setCell ⟨b,i,none⟩ v).heap[k]?=w.heap[k]?:=fun k _ hk=>heap_setCell_other w ⟨b,i,none⟩ k v hk
theorem ZB{E:Env}{cs:List SC}{arr:Array Value}(h:c9 E cs arr){i:Nat}{c:SC}{u:Value}(hu:u.oneCell'=true)(hc:ai E c u):c9 E (cs.set i c) (arr.setIfInBounds i u):=by
 refine⟨by simp[h.1],fun j x hj=>?_⟩
 rw[Av]at hj;split at hj
 ·rename_i hij;subst hij
  split at hj
  ·rename_i ψ
   cases hj;have:i<arr.size:=by rw[h.1];exact ψ
   exact⟨u,by simp[this],hu,hc⟩
  ·cases hj
 ·rename_i hij
  obtain⟨v,h1,h2⟩:=h.2 j x hj;exact⟨v,by rw[Bo hij];exact h1,h2⟩
theorem lW{B e n i b:Nat}{hd u:Value}{xs:List Value}(h:w.ownsRow B e 1 hd n xs)(hb:ac hd=some b)(hi:i<n) :
  (∃x,w.cell? ⟨b,i,none⟩=some x)/\w.frozen? ⟨b,i,none⟩=false/\(w.setCell ⟨b,i,none⟩ u).ownsRow B e 1 hd n (xs.set i u):=by
 have hl:xs.length=n:=by simpa using h.1
 obtain⟨cap,rfl,_⟩:=mY h hb;exact⟨⟨xs[i],by rw[h.cellAt i (by omega)];exact AF (by omega)⟩,h.frozenAt i,(h.stored i u).1⟩
theorem kQ{m:Img}{b:Nat}(hb:ac m.hd=some b):∀k,k ∉ m.blocks->k≠b:=fun k hk hc=>by
 apply hk;rw[hc];exact cD hb
theorem ZC{d d' x:FC}{i:Nat}(h:fQ d i x=some d')(hw:d.wid=1):d'.len=d.len/\(∀j fc,j≠i->d.elem j=some fc->d'.elem j=some fc)/\(i<d.len->d'.elem i=some x):=by
 cases d<;>cases x<;>simp only[fQ,reduceCtorEq]at h
 case p3.rows=>cases hw
 all_goals
  split at h
  ·rename_i hk
   subst hk;cases h;refine⟨by simp[FC.len],fun j fc hj hi=>?_,fun ψ=>?_⟩
   ·change (if j<List.length _ then some _ else none)=some fc at hi
    change (if j<List.length (List.set _ _ _)then some _ else none)=some fc
    split at hi
    ·rename_i ψ
     rw[<-hi,AA (by simpa using ψ)]
     simp[List.getD,BQ (AO hj)]
    ·cases hi
   ·change i<List.length _ at ψ
    change (if i<List.length (List.set _ _ _)then some _ else none)=some _
    rw[AA (by simpa using ψ)]
    simp[List.getD,ψ]
  ·cases h
theorem ZD{E:Env}{m:Img}{ver i b:Nat}{e:TypeId}{d d' x:FC}{v:Value}(h:aR E w m (.lst ver e d))(hp:fQ d i x=some d')(hb:ac m.hd=some b)(hi:i<d.slen)(hv:v.oneCell'=true)(hr:bp E.wF v x) :
  (∃u,w.cell? ⟨b,i,none⟩=some u)/\w.frozen? ⟨b,i,none⟩=false/\aR E (w.setCell ⟨b,i,none⟩ v) m (.lst ver e d'):=by
 obtain⟨q1,vs,q2,q3⟩:=h;obtain⟨sl1,sl2⟩:=OU hi;rw[sl1]at hi;obtain⟨p1,p2,p3⟩:=ZC hp sl2;rw[sl2]at q2;have pw:=(Gl hp).2.2
 obtain⟨h1,h2,h3⟩:=lW (u:=v) q2 hb hi;have hl:vs.length=d.len:=by simpa using q2.1
 refine⟨h1,h2,q1,vs.set i v,by rw[p1,pw,sl2];exact h3,fun j u hj=>?_⟩
 rw[Av]at hj;split at hj
 ·rename_i hij;subst hij
  split at hj
  ·cases hj
   exact⟨hv,x,p3 hi,hr⟩
  ·cases hj
 ·rename_i hij
  obtain⟨h4,fc,h5,h6⟩:=q3 j u hj;exact⟨h4,fc,p2 j fc (fun hc=>hij hc.symm) h5,h6⟩
theorem ZE{d x:FC}(h:Gy d=some x)(w:World):bp w (.slice none 0 0) x:=by
 have key:∀(R:Nat->Value->Prop),bE w (.slice none 0 0) 0 R:=fun R=>⟨_,_,rfl,AE _,fun h0=>by omega⟩
 cases d<;>simp only[Gy,reduceCtorEq]at h<;>cases h<;>exact key _
theorem Po{w:World}:∀{p:List Nat} {es:List TypeId} {nd u:Value} {d:FC},br w es nd d->eE nd p=some u->ia nd p u=nd
 | [],es,nd,u,d,h,hu=>by cases hu;rfl
 |i::p,[],nd,u,d,h,hu=>False.elim h
 |i::p,[e],nd,u,d,h,hu=>by
  simp only[eE,kH h.1]at hu;simp at hu
 |i::p,e::e2::es,nd,u,d,⟨h1,h2,h3,h4⟩,hu=>by
  simp only[eE]at hu;split at hu
  ·rename_i v hv
   obtain⟨x0,hx0,_⟩:=lH h2 i;have:=Po (p:=p) (es:=e2::es) (h4 i v x0 hv hx0) hu
   simp only[ia,hv,this];have e9:(bo nd).set i v=bo nd:=by
    apply BA
    intro j
    rw[Av];split
    ·rename_i hj
     subst hj;rw[AA (AJ.1 hv).1,hv]
    ·rfl
   rw[e9];exact h1.symm
  ·cases hu
theorem HW{w:World}:∀{p:List Nat} {es:List TypeId} {nd u:Value} {d:FC},br w es nd d->(aW es.length nd).Nodup->eE nd p=some u->(aW (es.drop p.length).length u).Nodup
 | [],es,nd,u,d,h,hn,hu=>by cases hu;exact hn
 |i::p,[],nd,u,d,h,hn,hu=>False.elim h
 |i::p,[e],nd,u,d,h,hn,hu=>by
  simp only[eE,kH h.1]at hu;simp at hu
 |i::p,e::e2::es,nd,u,d,⟨h1,h2,h3,h4⟩,hn,hu=>by
  simp only[eE]at hu;split at hu
  ·rename_i v hv
   obtain⟨x0,hx0,_⟩:=lH h2 i;rw[AR,dM]at hn;have h8:=Cw.1 (Ak.1 hn).2.1
   exact HW (p:=p) (es:=e2::es) (h4 i v x0 hv hx0) (h8.1 v (AI hv)) hu
  ·cases hu
theorem HX{d d' x:FC}{i:Nat}(h:fQ d i x=some d'):d'.slen=d.slen:=by
 cases d<;>cases x<;>simp only[fQ,reduceCtorEq]at h
 all_goals
  split at h
  ·cases h;simp[FC.slen,FC.len]
  ·cases h
theorem Pp:∀{p:List Nat} {d x x' d':FC},jj d p=some x->mP d p x'=some d'->x'.slen=x.slen->d'.slen=d.slen
 | [],d,x,x',d',h,hp,hl=>by cases h;cases hp;exact hl
 |i::p,d,x,x',d',h,hp,hl=>by
  simp only[mP]at hp;split at hp
  ·split at hp
   ·exact HX hp
   ·cases hp
  ·cases hp
theorem ZF{e e2:TypeId}{es:List TypeId}{u kid:Value}{x y x':FC}{j b:Nat}(h:br w (e::e2::es) u x)(hn:(aW (e::e2::es).length u).Nodup)(hw:x.wid=1)(hj:j<x.len)(hk:br w (e2::es) kid y)
  (hkn:(aW (e2::es).length kid).Nodup)(hsep:∀c∈aW (e2::es).length kid,c ∉ aW (e::e2::es).length u)(hp:fQ x j y=some x')(hb:ac (aK u)=some b) :
  (∃c,w.cell? ⟨b,j,none⟩=some c)/\w.frozen? ⟨b,j,none⟩=false/\br (w.setCell ⟨b,j,none⟩ (aK kid)) (e::e2::es) (bu (aK u) ((bo u).set j kid)) x' /\
   (aW (e::e2::es).length (bu (aK u) ((bo u).set j kid))).Nodup/\∀c∈aW (e::e2::es).length (bu (aK u) ((bo u).set j kid)),c∈aW (e::e2::es).length u\/c∈aW (e2::es).length kid:=by
 have hl:=jO h
 rw[FC.cn,hw,As]at hl;have hbu:b∈aW (e::e2::es).length u:=dE.2 (.inl hb)
 obtain⟨h1,h2,h3,h4⟩:=h;rw[hw]at h3;obtain⟨s1,s2,s3⟩:=lW (u:=aK kid) h3 hb hj;obtain⟨p1,p2,pw⟩:=Gl hp;have hn0:=hn
 rw[AR,dM]at hn0;have hold:(bo u)[j]?=some ((bo u)[j]'(by omega)):=AF (by omega)
 obtain⟨n1,n2,n3,n4⟩:=OG hn0 hold hkn (fun c hc=>.inr fun hcc=>hsep c hc (by rw[AR,dM];exact hcc))
 have other:∀c,c≠b->(w.setCell ⟨b,j,none⟩ (aK kid)).heap[c]?=w.heap[c]?:=fun c hc=>heap_setCell_other w ⟨b,j,none⟩ c _ hc
 refine⟨s1,s2,⟨rfl,p1.trans h2,?_,fun i v z hv hz=>?_⟩,?_,fun c hc=>?_⟩
 ·rw[eF,cY,Bl,p2,pw,hw]
  exact s3
 ·rw[cY,Av]at hv
  split at hv
  ·rename_i hij
   subst hij;split at hv
   ·cases hv
    rw[(wn hp).1 rfl (by rw[FC.cn,hw,As];exact hj)]at hz
    cases hz;exact hk.keep fun c hc=>other c fun e=>hsep c hc (by rw[e];exact hbu)
   ·cases hv
  ·rename_i hij
   rw[(wn hp).2 (AO hij)]at hz;exact(h4 i v z hv hz).keep fun c hc=>other c fun e9=>by
    subst e9;exact(Ak.1 hn0).2.2 c (by rw[hb];simp) c (Ao.2 ⟨v,AI hv,hc⟩) rfl
 ·rw[AR,dM]
  exact n1
 ·rcases dE.1 hc with k|k
  ·exact .inl (dE.2 (.inl k))
  ·rcases n2 c (Ao.2 k)with k|k
   ·exact .inl (dE.2 (.inr (Ao.1 k)))
   ·exact .inr k
theorem nk{E:Env}{m:Img}{ob:Ob}{es:List TypeId}{d:FC}(h:aR E w m ob)(ht:oJ ob=some (es,d)):∃nd,br w es nd d/\aK nd=m.hd/\aW es.length nd=m.blocks:=by
 cases ob<;>simp only[oJ,reduceCtorEq,AC,BB]at ht
 ·rename_i e k l
  obtain⟨rfl,rfl⟩:=ht;refine⟨bu m.hd [],⟨rfl,k,l,rfl,h.2⟩,rfl,?_⟩
  rw[DK,dM];simp[Img.blocks,h.1,eF,cY]
 ·rename_i ver e ei k l
  obtain⟨rfl,rfl⟩:=ht;obtain⟨h1,h2,h3⟩:=h;refine⟨bu m.hd (m.ins.map fun v=>bu v []),⟨rfl,rfl,?_,fun i u x hu hx=>?_⟩,rfl,?_⟩
  ·rw[eF,cY,List.map_map]
   have:(aK ∘ fun v=>bu v [])=id:=rfl
   rw[this,List.map_id];exact h1
  ·rw[cY,Aj]at hu
   cases hv:m.ins[i]? with
   |none=>rw[hv]at hu;cases hu
   |some v =>
    rw[hv]at hu;cases hu;simp only[cX,AC]at hx;subst hx;have ψ:i<l.length:=by rw[<-h2];exact(AJ.1 hv).1
    have hg:l.getD i []=l[i]:=by simp[List.getD,ψ]
    rw[hg];exact⟨rfl,k,_,rfl,h3 i v _ hv (AF ψ)⟩
  ·rw[AR,dM,eF,cY,Img.blocks]
   congr 1
   generalize m.ins=ins
   induction ins with
   |nil=>rfl
   |cons v l ih =>
    rw[BP,Ba,ih,Az,DK,dM];simp only[eF,cY,List.flatMap_nil,Af];cases ac v<;>rfl
 ·obtain⟨rfl,rfl⟩:=ht
  obtain⟨nd,rfl,h2⟩:=h;exact⟨nd,h2,rfl,(ef h2).symm⟩
theorem ZG{t:TypeId}{cx:SC}{sv:SV}{vx vy:Value}{eff:Eff}(hr:(GE C.P t cx sv).run σ=some eff)(hob:eff.obl)
  (hx:ai (σ.env C.wF mu) cx vx)(hy:aw C.P (σ.env C.wF mu) sv vy)(h:St C σ mu a w){dst:Option Nat}(hd:∀d,dst=some d->d<C.N) :
  ∃w',(Instr.storeAt t vx vy).run C.P w=.ok () w'/\ay C (σ.app dst eff) (a.put dst undef) w':=by
 unfold GE at hr;split at hr
 ·rename_i c
  split at hr
  ·rename_i hpl
   obtain⟨hpl,hsz⟩:=hpl;have hone:=qQ hpl hy
   have ω:∀b i u,w.cell? ⟨b,i,none⟩=some u->w.frozen? ⟨b,i,none⟩=false->(Instr.storeAt t (.pointer (some ⟨b,i,none⟩)) vy).run C.P w=.ok () (w.setCell ⟨b,i,none⟩ vy):=fun b i u h1 h2=>by
    simp only[Instr.storeAt,Instr.sureAddr,Sem.run_bind,Sem.run_pure,Result.andThen_ok];exact ZA hsz h1 h2 hone
   split at hr
   ·rename_i o i
    obtain⟨ob,ho,hr2⟩:=aZ hr;clear hr;have hnf:ob.isFz=false:=by cases ob<;>first|rfl|simp[Rd.run]at hr2
    obtain⟨ψ,b,hb,rfl⟩:=aP ho hx;clear hnf;cases ob with
    |frz d=>simp[Rd.run]at hr2
    |mp l=>simp[Rd.run]at hr2
    |qu e k l=>simp[Rd.run]at hr2
    |yd yv Y pre g=>simp[Rd.run]at hr2
    |tr ver es d=>simp[Rd.run]at hr2
    |trk ver es d n=>simp[Rd.run]at hr2
    |rowsH ver e ei k l hs =>
     have hlt':i<l.length:=ψ
     obtain⟨q2,⟨vs,q1,q4⟩,q3⟩:=h.ob o _ ho;obtain⟨⟨u,h1⟩,h2,h3⟩:=lW (u:=vy) q1 hb hlt';have hvl:vs.length=l.length:=by simpa using q1.1
     have hkeep:∀(j:Nat) (u:Value) (r:Db),(mu o).ins[j]?=some u->l[j]?=some r->¬ j∈hs->(w.setCell ⟨b,i,none⟩ vy).ownsRow 0 ei 1 u r.length (r.map (.int k)):=fun j u r hj hr hn =>
      dY ((q3 j u r hj hr).2 hn) fun b' hb'=>heap_setCell_other w ⟨b,i,none⟩ b' vy (fun hc=>by
       subst hc;exact(kO (h.nd o _ ho).1).2 _ hb (Ar.2 ⟨u,AI hj,hb'⟩))
     cases c with
     |own o2 =>
      obtain⟨ob2,ho2,hr3⟩:=aZ hr2;clear hr2;cases ob2 with
      |ints e2 k2 l2 =>
       simp only at hr3;split at hr3
       ·rename_i hek
        obtain⟨rfl,rfl,hne⟩:=hek;have hv2:vy=(mu o2).hd:=aP ho2 hy
        subst hv2;have hrow2:=h.ob o2 _ ho2
        obtain⟨n1,n2⟩:=xb (i:=i) (x:=(mu o2).hd) (hd:=(mu o).hd) (ins:=(mu o).ins) (h.nd o _ ho).1 fun b' hb'=>h.sep o2 o _ _ hne ho2 ho b' (cD hb')
        have hnew:∀hs':List Nat,¬ i∈hs'->(∀j,j∈hs->j≠i->j∈hs')->(∀j,j∈hs'->j∈hs)->jN (w.setCell ⟨b,i,none⟩ (mu o2).hd) ⟨(mu o).hd,(mu o).ins.set i (mu o2).hd⟩ e e2 k2 (l.set i l2) hs':=fun hs' a1 a2 a3=>by
         refine⟨by simp[q2],⟨vs.set i (mu o2).hd,by rw[Ai];exact h3,fun j v hj hn=>?_⟩,fun j v r hj hr=>?_⟩
         ·have hj:((mu o).ins.set i (mu o2).hd)[j]?=some v:=hj
          by_cases hij:i=j
          ·subst hij
           rw[BY (by rw[q2];exact hlt')]at hj
           cases hj;rw[BY (by rw[hvl];exact hlt')]
          ·rw[BQ hij]at hj⊢
           exact q4 j v hj fun hc=>hn (a2 j hc (AO hij))
         ·have hj:((mu o).ins.set i (mu o2).hd)[j]?=some v:=hj
          by_cases hij:i=j
          ·subst hij
           rw[BY (by rw[q2];exact hlt')]at hj
           rw[BY hlt']at hr;cases hj;cases hr;refine⟨fun hc=>absurd hc a1,fun _=>dY hrow2.2 fun b' hb'=>heap_setCell_other w ⟨b,i,none⟩ b' _ fun hc=>?_⟩
           subst hc;exact h.sep o2 o _ _ hne ho2 ho _ (cD hb') (cD hb)
          ·rw[BQ hij]at hj hr
           exact⟨fun hm=>(q3 j v r hj hr).1 (a3 j hm),fun hn=>hkeep j v r hj hr fun hc=>hn (a2 j hc (AO hij))⟩
        split at hr3
        ·rename_i h0
         simp only[Rd.run,AC]at hr3;subst hr3;have hih:i=h0:=hob
         subst hih;obtain⟨m1,⟨vs',m2,m3⟩,m4⟩:=hnew [] (by simp) (fun j hj hn=>absurd (Bb.1 hj) hn) (fun j hj=>by simp at hj)
         have m5:vs'=(mu o).ins.set i (mu o2).hd:=by
          have hl5:vs'.length=((mu o).ins.set i (mu o2).hd).length:=by
           have:=m2.1
           have m1':((mu o).ins.set i (mu o2).hd).length=(l.set i l2).length:=m1
           rw[m1'];simpa using this
          refine BA fun j=>?_
          by_cases hjl:j<((mu o).ins.set i (mu o2).hd).length
          ·rw[m3 j _ (AF hjl) (by simp)]
           exact(AF hjl).symm
          ·rw[A7 (by omega),A7 (by omega)]
         subst m5;refine⟨_,ω b i u h1 h2,?_⟩
         refine h.set hd ho [o2] (by simp[hne,ho2]) (m:=⟨(mu o).hd,(mu o).ins.set i (mu o2).hd⟩) ⟨rfl,AE _⟩ rfl rfl (by simp) (fun k hk hn=>jt k hk (kQ hb k hn)) (by simp[Ob.shp]) rfl (BC _)
          (fun hc=>by simp[Ob.shp]at hc) ⟨m2,m1,fun j v r hj hr=>(m4 j v r hj hr).2 (by simp)⟩ n1 (fun b' hb'=>(n2 b' hb').imp id fun h9=>⟨o2,by simp,cD h9⟩)
        ·rename_i h0 hs' _
         simp only[Rd.run,AC]at hr3;subst hr3;obtain⟨hih,hnm⟩:i=h0/\¬ h0∈hs':=hob;subst hih;refine⟨_,ω b i u h1 h2,?_⟩
         exact h.set hd ho [o2] (by simp[hne,ho2]) (m:=⟨(mu o).hd,(mu o).ins.set i (mu o2).hd⟩) ⟨rfl,AE _⟩ rfl rfl (by simp) (fun k hk hn=>jt k hk (kQ hb k hn)) (by simp[Ob.shp]) rfl (BC _)
          (fun hc=>by simp[Ob.shp]at hc) (hnew hs' hnm (fun j hj hn=>(AH.1 hj).resolve_left hn) (fun j hj=>Ab _ hj)) n1 (fun b' hb'=>(n2 b' hb').imp id fun h9=>⟨o2,by simp,cD h9⟩)
        ·simp[Rd.run]at hr3
       ·simp[Rd.run]at hr3
      |_=>simp[Rd.run]at hr3
     |_=>simp[Rd.run]at hr2
    |lst ver e d =>
     have hlt':i<d.slen:=ψ
     have put:∀{C:Cx} {σ:State} {mu:Nat->Img} (h:St C σ mu a w) (ho:σ.H o=some (some (.lst ver e d))) (_:ac (mu o).hd=some b) {x d':FC} (_:fQ d i x=some d') (_:bp C.wF vy x) (hd:∀d,dst=some d->d<C.N),
       (∃u,w.cell? ⟨b,i,none⟩=some u)/\w.frozen? ⟨b,i,none⟩=false/\ay C (σ.app dst ⟨.c .any,[(o,some (.lst ver e d'))],none⟩) (a.put dst undef) (w.setCell ⟨b,i,none⟩ vy):=fun {C σ mu} h ho hb {x d'} hp hrd hd=>by
      obtain⟨r1,r2,r3⟩:=ZD (h.ob o _ ho) hp hb hlt' hone hrd;refine⟨r1,r2,?_⟩
      exact h.set hd ho [] (by simp) (m:=mu o) ⟨rfl,AE _⟩ rfl rfl (by simp) (fun k hk hn=>jt k hk (kQ hb k hn)) (HX hp) rfl (AE _) (fun _=>⟨rfl,rfl⟩) r3 (h.nd o _ ho).1 (fun b hb=>.inl hb)
     cases c with
     |ro x =>
      simp only at hr2;split at hr2
      ·rename_i d' hp
       simp only[Rd.run,AC]at hr2;subst hr2;obtain⟨⟨u,h1⟩,h2,h3⟩:=put h ho hb hp hy.2 hd;exact⟨_,ω b i u h1 h2,h3⟩
      ·simp[Rd.run]at hr2
     |nil =>
      simp only at hr2;split at hr2
      ·rename_i x hx0
       split at hr2
       ·rename_i d' hp
        simp only[Rd.run,AC]at hr2;subst hr2;simp only[aw,ai]at hy;subst hy;obtain⟨⟨u,h1⟩,h2,h3⟩:=put h ho hb hp (ZE hx0 _) hd;exact⟨_,ω b i u h1 h2,h3⟩
       ·simp[Rd.run]at hr2
      ·simp[Rd.run]at hr2
     |own o2 =>
      obtain⟨ob2,ho2,hr3⟩:=aZ hr2;clear hr2;split at hr3
      ·rename_i x hx0
       split at hr3
       ·rename_i d' hp
        split at hr3
        ·rename_i hne
         simp only[Rd.run,AC]at hr3;subst hr3;obtain⟨wG,mu1,g1,s1,k1,e1⟩:=h.fzs [(o2,some (.frz x))] (fun o' y hm=>by
          simp at hm
          obtain⟨rfl,rfl⟩:=hm;exact⟨ob2,x,ho2,hx0,rfl⟩)
         have hno:∀y,(o,y) ∉ [(o2,some (Ob.frz x))]:=fun y hm=>by
          simp at hm
          exact hne hm.1.symm
         have ho1:(State.mk σ.fr ([(o2,some (.frz x))]++σ.hp)).H o=some (some (.lst ver e d)):=by rw[gv hno];exact ho
         have hy1:=(ai.mono e1 (c:=.own o2) hy).2
         have e2:((State.mk σ.fr ([(o2,some (.frz x))]++σ.hp)).env wG mu1).st o2=.frz x:=fD (by simp[State.H,bt])
         rw[e2]at hy1;obtain⟨⟨u,h1⟩,h2,h3⟩:=put (C:=C.fz wG) s1 ho1 (by rw[k1 o hno];exact hb) hp hy1.2 hd
         exact⟨_,ω b i u h1 h2,ay.up g1 h3⟩
        ·simp[Rd.run]at hr3
       ·simp[Rd.run]at hr3
      ·simp[Rd.run]at hr3
     |_=>simp[Rd.run]at hr2
    |box cs =>
     simp only at hr2;split at hr2
     ·rename_i hi
      simp only[Rd.run,AC]at hr2;subst hr2;obtain⟨g,arr,ty,h1,h2,h3,h4⟩:=kM h ho;have hgb:g=b:=by rw[State.env,h1]at hb;simpa[ac]using hb
      subst hgb;have hia:i<arr.size:=by rw[h4.1];exact hi
      refine⟨_,ω g i arr[i] (by rw[cell_of_row w g i arr ty (0,0) h3];simp[hia]) (frozen_of_row w g i arr ty h3),?_⟩
      refine h.set hd ho [] (by simp) (m:=mu o) ⟨rfl,AE _⟩ rfl rfl (by simp) (fun k hk hn=>jt k hk (kQ hb k hn)) (by simp[Ob.shp]) rfl (AE _) (fun _=>⟨rfl,rfl⟩) ?_ (h.nd o _ ho).1 (fun b hb=>.inl hb)
      exact⟨g,_,ty,h1,h2,heap_setCell_same w g i arr ty vy h3,ZB h4 hone hy⟩
     ·simp[Rd.run]at hr2
    |bx cs=>simp[Rd.run]at hr2
    |strs e l=>simp[Rd.run]at hr2
    |ints e k l =>
     cases c with
     |int k' n =>
      simp only at hr2;split at hr2
      ·rename_i hkk
       subst hkk;simp only[Rd.run,AC]at hr2;subst hr2;have hrow:=h.ob o _ ho
       simp only[aw,ai]at hy;subst hy;obtain⟨⟨u,h1⟩,h2,h3⟩:=lW (u:=.int k n) hrow.2 hb (show i<l.length from ψ)
       refine⟨_,ω b i u h1 h2,?_⟩
       refine h.set hd ho [] (by simp) (m:=mu o) ⟨rfl,AE _⟩ rfl rfl (by simp) (fun k hk hn=>jt k hk (kQ hb k hn)) (by simp[Ob.shp]) rfl (AE _) (fun _=>⟨rfl,rfl⟩) ?_ (h.nd o _ ho).1 (fun b hb=>.inl hb)
       exact⟨hrow.1,by rw[Ai,Bl];exact h3⟩
      ·simp[Rd.run]at hr2
     |_=>simp[Rd.run]at hr2
    |bools e l =>
     cases c with
     |bool n =>
      simp only[Rd.run,AC]at hr2;subst hr2;have hrow:=h.ob o _ ho
      simp only[aw,ai]at hy;subst hy;obtain⟨⟨u,h1⟩,h2,h3⟩:=lW (u:=.bool n) hrow.2 hb (show i<l.length from ψ)
      refine⟨_,ω b i u h1 h2,?_⟩
      refine h.set hd ho [] (by simp) (m:=mu o) ⟨rfl,AE _⟩ rfl rfl (by simp) (fun k hk hn=>jt k hk (kQ hb k hn)) (by simp[Ob.shp]) rfl (AE _) (fun _=>⟨rfl,rfl⟩) ?_ (h.nd o _ ho).1 (fun b hb=>.inl hb)
      exact⟨hrow.1,by rw[Ai,Bl];exact h3⟩
     |_=>simp[Rd.run]at hr2
    |rows ver e ei k l =>
     have hlt':i<l.length:=ψ
     obtain⟨q1,q2,q3⟩:=h.ob o _ ho;obtain⟨⟨u,h1⟩,h2,h3⟩:=lW (u:=vy) q1 hb hlt';have hkeep:∀(j:Nat) (u:Value) (r:Db),(mu o).ins[j]?=some u->l[j]?=some r->(w.setCell ⟨b,i,none⟩ vy).ownsRow 0 ei 1 u r.length (r.map (.int k)):=fun j u r hj hr =>
      dY (q3 j u r hj hr) fun b' hb'=>heap_setCell_other w ⟨b,i,none⟩ b' vy (fun hc=>by
       subst hc;exact(kO (h.nd o _ ho).1).2 _ hb (Ar.2 ⟨u,AI hj,hb'⟩))
     cases c with
     |own o2 =>
      obtain⟨ob2,ho2,hr3⟩:=aZ hr2;clear hr2;cases ob2 with
      |ints e2 k2 l2 =>
       simp only at hr3;split at hr3
       ·rename_i hek
        obtain⟨rfl,rfl,hne⟩:=hek;simp only[Rd.run,AC]at hr3;subst hr3;have hv2:vy=(mu o2).hd:=aP ho2 hy
        subst hv2;have hrow2:=h.ob o2 _ ho2
        obtain⟨n1,n2⟩:=xb (i:=i) (x:=(mu o2).hd) (hd:=(mu o).hd) (ins:=(mu o).ins) (h.nd o _ ho).1 fun b' hb'=>h.sep o2 o _ _ hne ho2 ho b' (cD hb')
        refine⟨_,ω b i u h1 h2,?_⟩
        refine h.set hd ho [o2] (by simp[hne,ho2]) (m:=⟨(mu o).hd,(mu o).ins.set i (mu o2).hd⟩) ⟨rfl,AE _⟩ rfl rfl (by simp) (fun k hk hn=>jt k hk (kQ hb k hn)) (by simp[Ob.shp]) rfl (BC _)
         (fun hc=>by simp[Ob.shp]at hc) ⟨by rw[Ai];exact h3,by simp[q2],fun j v r hj hr=>?_⟩ n1 (fun b' hb'=>(n2 b' hb').imp id fun h9=>⟨o2,by simp,cD h9⟩)
        rw[Av]at hj hr;by_cases hij:i=j
        ·subst hij
         rw[AA rfl,AA (by rw[q2];exact hlt')]at hj
         rw[AA rfl,AA hlt']at hr;cases hj;cases hr;refine dY hrow2.2 fun b' hb'=>heap_setCell_other w ⟨b,i,none⟩ b' _ fun hc=>?_
         subst hc;exact h.sep o2 o _ _ hne ho2 ho _ (cD hb') (cD hb)
        ·rw[AB hij]at hj hr
         exact hkeep j v r hj hr
       ·simp[Rd.run]at hr3
      |_=>simp[Rd.run]at hr3
     |nil =>
      simp only[Rd.run,AC]at hr2;subst hr2;simp only[aw,ai]at hy;subst hy;obtain⟨n1,n2⟩:=xb (i:=i) (x:=.slice none 0 0) (hd:=(mu o).hd) (ins:=(mu o).ins) (h.nd o _ ho).1 fun b' hb'=>by simp[ac]at hb'
      refine⟨_,ω b i u h1 h2,?_⟩
      refine h.set hd ho [] (by simp) (m:=⟨(mu o).hd,(mu o).ins.set i (.slice none 0 0)⟩) ⟨rfl,AE _⟩ rfl rfl (by simp) (fun k hk hn=>jt k hk (kQ hb k hn)) (by simp[Ob.shp]) rfl (BC _)
       (fun hc=>by simp[Ob.shp]at hc) ⟨by rw[Ai];exact h3,by simp[q2],fun j v r hj hr=>?_⟩ n1 (fun b' hb'=>(n2 b' hb').imp id fun h9=>by simp[ac]at h9)
      rw[Av]at hj hr;by_cases hij:i=j
      ·subst hij
       rw[AA rfl,AA (by rw[q2];exact hlt')]at hj
       rw[AA rfl,AA hlt']at hr;cases hj;cases hr;exact World.ownsRow_nil _ _ _ _
      ·rw[AB hij]at hj hr
       exact hkeep j v r hj hr
     |_=>simp[Rd.run]at hr2
   ·rename_i o ver p j
    obtain⟨ob,ho,hr2⟩:=aZ hr;clear hr;have hnf:ob.isFz=false:=by cases ob<;>first|rfl|simp[Rd.run]at hr2
    have hx:=aP ho hx
    clear hnf;cases ob with
    |tr ver' es d =>
     cases c with
     |int k' n =>
      simp only at hr2;split at hr2
      ·rename_i hv
       split at hr2
       ·rename_i x hx1
        split at hr2
        ·rename_i k l hl
         split at hr2
         ·rename_i hkk
          subst hkk;split at hr2
          ·rename_i d' hp
           simp only[Rd.run,AC]at hr2;subst hr2;simp only[aw,ai]at hy;subst hy;have hxi:x=.ints k l:=by
            cases x<;>simp only[wt,reduceCtorEq,AC,BB]at hl
            obtain⟨rfl,rfl⟩:=hl;rfl
           subst hxi;obtain⟨nd,u,b,n',c',q1,q2,q3,q4,rfl⟩:=hx.2 hv.symm;obtain⟨hm,hT,x',k1,k2,k3⟩:=lS (h.ob o _ ho) q1 q2;rw[hx1]at k1;cases k1;have hn':=k2.len q3
           subst hn';obtain⟨e,hes,k4⟩:=Hz k2;have hj:j<l.length:=OY k2 q4
           have hbu:ac (aK u)=some b:=by rw[q3];rfl
           obtain⟨⟨u0,h1⟩,h2,h3⟩:=lW (u:=.int k n) k4 hbu hj;have Bm:(mu o).blocks=aW es.length nd:=by rw[hm];exact ef hT
           have hbm:b∈(mu o).blocks:=k3 b (by rw[hes];exact dE.2 (.inl hbu))
           have hnd:=(h.nd o _ ho).1
           have hu:br (w.setCell ⟨b,j,none⟩ (.int k n)) (es.drop p.length) u (.ints k (l.set j n)):=by
            rw[hes]at k2⊢;exact⟨k2.1,k,_,rfl,by rw[Ai,Bl];exact h3⟩
           obtain⟨r1,_,_,_⟩:=Gm (w':=w.setCell ⟨b,j,none⟩ (.int k n)) (u':=u) hT (by rw[<-Bm];exact hnd) q2 hp rfl (fun c hc hcn=>heap_setCell_other w ⟨b,j,none⟩ c _ fun e9=>hcn (by
            rw[hes,e9];exact dE.2 (.inl hbu))) hu (by
             rw[hes,DK,dM,kH (by rw[hes]at k2;exact k2.1)]
             cases ac (aK u)<;>simp) (fun c hc=>.inl hc)
           rw[Po hT q2]at r1;refine⟨_,ω b j u0 h1 h2,?_⟩
           exact h.set hd ho [] (by simp) (m:=mu o) ⟨rfl,AE _⟩ rfl rfl (by simp) (fun c hk hcn=>jt c hk fun e9=>hcn (by rw[e9];exact hbm)) (Pp hx1 hp (by simp[FC.slen,FC.len])) rfl (AE _) (fun _=>⟨rfl,rfl⟩) ⟨nd,hm,r1⟩ hnd (fun b hb=>.inl hb)
          ·simp[Rd.run]at hr2
         ·simp[Rd.run]at hr2
        ·simp[Rd.run]at hr2
       ·simp[Rd.run]at hr2
      ·simp[Rd.run]at hr2
     |own o2 =>
      obtain⟨ob2,ho2,hr3⟩:=aZ hr2;clear hr2;split at hr3
      ·rename_i es2 y hty
       split at hr3
       ·rename_i φ
        obtain⟨hv,hne,hes2⟩:=φ;have hes2:=jk hes2
        split at hr3
        ·rename_i x hx1
         obtain⟨hw1,hr3⟩:=lT hr3;split at hr3
         ·rename_i x1 hpe
          split at hr3
          ·rename_i d' hp
           simp only[Rd.run,AC]at hr3;subst hr3;have hnf2:ob2.isFz=false:=by cases ob2<;>first|rfl|cases hty
           have hv2:vy=(mu o2).hd:=aP ho2 hy hnf2
           obtain⟨kid,t1,t2,t3⟩:=nk (h.ob o2 _ ho2) hty;obtain⟨nd,u,b,n',c',q1,q2,q3,q4,rfl⟩:=hx.2 hv.symm;obtain⟨hm,hT,x',k1,k2,k3⟩:=lS (h.ob o _ ho) q1 q2;rw[hx1]at k1;cases k1;have hn':=k2.len q3
           subst hn';have hbu:ac (aK u)=some b:=by rw[q3];rfl
           have Bm:(mu o).blocks=aW es.length nd:=by rw[hm];exact ef hT
           have hnd:=(h.nd o _ ho).1
           have hnd2:=(h.nd o2 _ ho2).1
           have hdrop:es.drop p.length=es.drop p.length:=rfl
           generalize hE:es.drop p.length=E at k2 k3 hdrop
           have hE2:E.tail=es2:=by rw[hes2,<-hE,List.tail_drop]
           match E,k2,hE2 with
           | [],k2,_=>exact False.elim k2
           | [e],k2,hE2=>rw[<-hE2]at t1;exact False.elim t1
           |e::e2::es',k2,hE2 =>
            have hE2:e2::es'=es2:=hE2
            subst hE2;have subn:(aW (e::e2::es').length u).Nodup:=by
             have hn9:(aW es.length nd).Nodup:=by rw[<-Bm];exact hnd
             have:=HW hT hn9 q2
             rwa[hE]at this
            have hsep:∀c∈aW (e2::es').length kid,c ∉ (mu o).blocks:=fun c hc=>h.sep o2 o _ _ hne ho2 ho c (by rw[<-t3];exact hc)
            obtain⟨⟨u0,h1⟩,h2,s3,s4,s5⟩:=ZF k2 subn hw1 (by have:=HA k2 q4;rw[FC.cn,hw1,As]at this;exact this) t1 (by rw[t3];exact hnd2) (fun c hc hcc=>hsep c hc (k3 c hcc)) hpe hbu
            have hbm:b∈(mu o).blocks:=k3 b (dE.2 (.inl hbu))
            rw[t2,<-hv2]at s3;obtain⟨r1,r2,r3,r4⟩:=Gm (w':=w.setCell ⟨b,j,none⟩ vy) (u':=bu (aK u) ((bo u).set j kid)) hT (by rw[<-Bm];exact hnd) q2 hp rfl (fun c hc hcn=>heap_setCell_other w ⟨b,j,none⟩ c _ fun e9=>hcn (by
             rw[hE,e9];exact dE.2 (.inl hbu))) (by rw[hE];exact s3) (by rw[hE];exact s4) (fun c hc=>by
              rw[hE]at hc⊢;rcases s5 c hc with k|k
              ·exact .inl k
              ·exact .inr fun hcc=>hsep c k (by rw[Bm];exact hcc))
            have hB:=ef r1
            refine⟨_,ω b j u0 h1 h2,?_⟩
            refine h.set hd ho [o2] (by simp[hne,ho2]) (m:=dw es.length (ia nd p (bu (aK u) ((bo u).set j kid)))) ⟨rfl,AE _⟩ rfl rfl (by simp) (fun c hk hcn=>jt c hk fun e9=>hcn (by rw[e9];exact hbm)) (Pp hx1 hp (HX hpe)) (by rw[hm];exact r2) (BC _)
             (fun hc=>by simp[Ob.shp]at hc) ⟨_,rfl,r1⟩ (by rw[hB];exact r3) (fun c hc=>?_)
            rw[hB]at hc;rcases r4 c hc with k|k
            ·exact .inl (by rw[Bm];exact k)
            ·rw[hE]at k
             rcases s5 c k with k|k
             ·exact .inl (k3 c k)
             ·exact .inr ⟨o2,by simp,by rw[<-t3];exact k⟩
          ·simp[Rd.run]at hr3
         ·simp[Rd.run]at hr3
        ·simp[Rd.run]at hr3
       ·simp[Rd.run]at hr3
      ·simp[Rd.run]at hr3
     |_=>simp[Rd.run]at hr2
    |_=>simp[Rd.run]at hr2
   ·rename_i o ver i j
    obtain⟨ob,ho,hr2⟩:=aZ hr;clear hr;have hnf:ob.isFz=false:=by cases ob<;>first|rfl|simp[Rd.run]at hr2
    have hx:=aP ho hx
    clear hnf;cases ob with
    |rows ver' e ei k l =>
     cases c with
     |int k' n =>
      simp only at hr2;split at hr2
      ·rename_i hvk
       obtain⟨rfl,rfl⟩:=hvk;simp only[Rd.run,AC]at hr2;subst hr2;simp only[aw,ai]at hy;subst hy;obtain⟨hi,hj,r,b,hins,hb,rfl⟩:=hx.2 rfl;have hi':i<l.length:=hi
       obtain⟨q1,q2,q3⟩:=h.ob o _ ho;have hrow:=q3 i r _ hins (AF hi')
       have hgd:l.getD i []=l[i]:=by simp[List.getD,hi']
       have hj':j<l[i].length:=by
        have:((l.map List.length).getD i 0)=l[i].length:=by simp[List.getD,hi']
        simp only[Ob.shp]at hj;omega
       obtain⟨⟨u,h1⟩,h2,h3⟩:=lW (u:=.int k n) hrow hb hj';refine⟨_,ω b j u h1 h2,?_⟩
       have hrl:(l.set i ((l.getD i []).set j n)).map List.length=l.map List.length:=by
        rw[Bl,Ai,hgd];apply BA
        intro x
        rw[Av];split
        ·rename_i hx;subst hx;simp[hi']
        ·rfl
       refine h.set hd ho [] (by simp) (m:=mu o) ⟨rfl,AE _⟩ rfl rfl (by simp) (fun x hk hn=>jt x hk fun hc=>hn (by rw[hc];exact oG hins hb)) (by simp[Ob.shp]) rfl (AE _)
        (fun _=>⟨rfl,hrl⟩) ⟨?_,by simp[q2],fun x v s hxx hs=>?_⟩ (h.nd o _ ho).1 (fun b hb=>.inl hb)
       ·rw[Ai]
        refine dY q1 fun b' hb'=>heap_setCell_other w ⟨b,j,none⟩ b' _ fun hc=>?_
        subst hc;exact(kO (h.nd o _ ho).1).2 _ hb' (Ar.2 ⟨r,AI hins,hb⟩)
       ·rw[Av]at hs
        by_cases hix:i=x
        ·subst hix
         rw[AA rfl,AA hi']at hs;cases hs;have hrv:v=r:=BE (hxx.symm.trans hins)
         subst hrv;rw[hgd,Ai,Bl];exact h3
        ·rw[AB hix]at hs
         refine dY (q3 x v s hxx hs) fun b' hb'=>heap_setCell_other w ⟨b,j,none⟩ b' _ fun hc=>?_
         subst hc;exact Pj (h.nd o _ ho).1 hins hxx hix hb hb'
      ·simp[Rd.run]at hr2
     |_=>simp[Rd.run]at hr2
    |_=>simp[Rd.run]at hr2
   ·simp[Rd.run]at hr
  ·simp[Rd.run]at hr
 ·rename_i cs'
  split at hr
  ·rename_i hsz
   split at hr
   ·rename_i o i
    obtain⟨ob,ho,hr2⟩:=aZ hr;clear hr;have hnf:ob.isFz=false:=by cases ob<;>first|rfl|simp[Rd.run]at hr2
    obtain⟨ψ,b,hb,rfl⟩:=aP ho hx;clear hnf;cases ob with
    |box cs =>
     simp only at hr2;split at hr2
     ·rename_i hi
      simp only[Rd.run,AC]at hr2;subst hr2;obtain⟨arr',rfl,hrep'⟩:=hy;obtain⟨g,arr,ty,h1,h2,h3,h4⟩:=kM h ho;have hgb:g=b:=by rw[State.env,h1]at hb;simpa[ac]using hb
      subst hgb;have hl:arr'.toList.length=cs'.length:=by simp[hrep'.1]
      have hst:=run_storeCells_at C.P g i ty arr'.toList 0 arr w h3 (by rw[hl,h4.1];omega) (fun v hv=>by
       obtain⟨j,hj⟩:=Ah hv;have hjl:j<cs'.length:=by rw[<-hl];exact(AJ.1 hj).1
       obtain⟨u,h5,h6,_⟩:=hrep'.2 j _ (AF hjl);have:u=v:=by rw[Array.getElem?_toList]at hj;exact BE (h5.symm.trans hj)
       rw[<-this];exact h6)
      refine⟨w.setRow g (List.take (i+0) arr.toList++arr'.toList++List.drop (i+0+arr'.toList.length) arr.toList).toArray,?_,?_⟩
      ·simp only[Instr.storeAt,Instr.sureAddr,Sem.run_bind,Sem.run_pure,Result.andThen_ok]
       simp only[storeVar,Value.cells,Sem.run_bind,gn hsz,Result.andThen_ok,hrep'.1];simp only[ne_eq,Bz,Ag];exact hst
      ·refine h.set hd ho [] (by simp) (m:=mu o) ⟨rfl,AE _⟩ rfl rfl (by simp) (fun k hk hn=>setRow_other w g k _ (kQ hb k hn)) (by simp[Ob.shp];omega) rfl (AE _) (fun _=>⟨rfl,rfl⟩) ?_ (h.nd o _ ho).1 (fun b hb=>.inl hb)
       refine⟨g,_,ty,h1,h2,setRow_heap w g arr _ ty _ h3,by simp[h4.1,hrep'.1],fun j c hj=>?_⟩
       have hlen:i+cs'.length<=arr.size:=by rw[h4.1];exact hi
       have hq:=hrep'.1
       simp only[Bc,DB];by_cases c1:j<i
       ·rw[Ap,Am (by simp;omega)]at hj⊢
        rw[Au,AA c1]at hj⊢;obtain⟨u,h5,h6⟩:=h4.2 j c hj;exact⟨u,by simpa using h5,h6⟩
       ·by_cases c2:j<i+cs'.length
        ·rw[Am (by simp;omega),Aq (by simp;omega)]at hj⊢
         have e1:(List.take i cs).length=i:=by simp;omega
         have e2:(List.take i arr.toList).length=i:=by simp;omega
         rw[e1]at hj;rw[e2];obtain⟨u,h5,h6⟩:=hrep'.2 _ c hj;exact⟨u,by simpa using h5,h6⟩
        ·rw[Aq (by simp;omega)]at hj⊢
         have e1:(List.take i cs++cs').length=i+cs'.length:=by simp;omega
         have e2:(List.take i arr.toList++arr'.toList).length=i+cs'.length:=by simp[hrep'.1];omega
         rw[e1,A9]at hj;rw[e2,A9,hl];have e3:i+cs'.length+(j-(i+cs'.length))=j:=by omega
         rw[e3]at hj⊢;obtain⟨u,h5,h6⟩:=h4.2 j c hj;exact⟨u,by simpa using h5,h6⟩
     ·simp[Rd.run]at hr2
    |_=>simp[Rd.run]at hr2
   ·simp[Rd.run]at hr
  ·simp[Rd.run]at hr
 ·simp[Rd.run]at hr
end
end Go.Sx
