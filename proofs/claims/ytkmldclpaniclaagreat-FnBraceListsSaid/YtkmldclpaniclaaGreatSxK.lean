/- SxK -/
import Derived.Test.YtkmldclpaniclaaGreatSxJ
set_option linter.unusedSimpArgs false
set_option linter.unusedVariables false
set_option linter.defProp false
namespace Go.Sx
open Go.RowKit
section
variable {C:Cx} {σ:State} {mu:Nat->Img} {a:Act} {w w':World}
theorem St.setVE(h:St C σ mu a w){dst:Option Nat}(hd:∀d,dst=some d->d<C.N){o:Nat}{ob0 ob':Ob}(ho:σ.H o=some (some ob0))(ks:List Nat)
  (hks:∀k∈ks,k≠o/\∃ob,σ.H k=some (some ob)){m:Img}{p:Option Prop}{v:Value}{val:SV}(hval:∀E:Env,E.st o=.live ob'.shp->E.mu o=m->aA C.P E val v)
  (hos:OsD w w')(htape:w'.tape=w.tape)(hout:w'.output=w.output)(hsize:w.heap.size<=w'.heap.size)
  (hkeep:∀b,b<w.heap.size->b ∉ (mu o).blocks->w'.heap[b]?=w.heap[b]?)
  (hlen:ob'.shp.len=ob0.shp.len)(hhd:m.hd=(mu o).hd)(hver:ob0.shp.ver<=ob'.shp.ver)(hsame:ob'.shp.ver=ob0.shp.ver->m=mu o/\ob'.shp.rl=ob0.shp.rl)
  (χ:aX (σ.env C.wF mu) w' m ob')(hnd:m.blocks.Nodup)(hb:∀b∈m.blocks,b∈(mu o).blocks\/∃k∈ks,b∈(mu k).blocks)
  (hf0:ob0.isFz=false:=by first|rfl|assumption)(hf:ob'.isFz=false:=by first|rfl|assumption) :
  aD C (σ.app dst ⟨val,ks.map (λk=>(k,none))++[(o,some ob')],p⟩) (a.put dst v) w':=by
 have hlk:∀x,lk (ks.map (λk=>(k,(none:Option Ob)))++[(o,some ob')]) x=if x∈ks then some none else if o=x then some (some ob')else none:=λx=>by
  rw[gD,RZ,bv];by_cases hx:x∈ks<;>simp[hx,lk]
 have hko:o ∉ ks:=λhc=>(hks o hc).1 rfl
 have hto:∀b∈(mu o).blocks,jC σ mu ⟨val,ks.map (λk=>(k,none))++[(o,some ob')],p⟩ b:=λb hb =>
  ⟨o,some ob',ob0,by rw[hlk,AB hko,AA rfl],ho,hb⟩
 have htk:∀k∈ks,∀b∈(mu k).blocks,jC σ mu ⟨val,ks.map (λk=>(k,none))++[(o,some ob')],p⟩ b:=λk hk b hb=>by
  obtain⟨_,ob,h1⟩:=hks k hk;exact⟨k,none,ob,by rw[hlk,AA hk],h1,hb⟩
 refine St.ex (mu:=λx=>if x=o then m else mu x) (h.ups hd hos htape hout hsize (λb hb' ht=>hkeep b hb' λhbo=>ht (hto b hbo)) (λx hx=>?_) (λx y hx=>?_) (λx ob2 hx=>?_) (λx x' ob1 ob2 hne hx hx'=>?_) (λ_=>hval _ (show(σ.app dst ⟨val,ks.map (λk=>(k,none))++[(o,some ob')],p⟩).ost o=_ from cz (ob:=ob') (by rw[km];show(match lk (ks.map (λk=>(k,(none:Option Ob)))++[(o,some ob')]) o with|some x=>some x|none=>σ.H o)=_;rw[hlk,AB hko,AA rfl]) hf) (AA rfl)))
 ·have hq:=(hlk x).symm.trans hx
  split at hq
  ·cases hq
  ·split at hq
   ·cases hq
   ·rename_i hne;simp[AN hne]
 ·have hq:=(hlk x).symm.trans hx
  split at hq
  ·rename_i hxk
   cases hq;obtain⟨_,ob,h1⟩:=hks x hxk;exact xy h1
  ·split at hq
   ·rename_i hox;subst hox
    cases hq;rw[cz ho];simp only[AX,nH];rw[nD hf];exact⟨hlen,hhd,hver,hsame⟩
   ·cases hq
 ·have hq:=(hlk x).symm.trans hx
  split at hq
  ·cases hq
  ·split at hq
   ·rename_i hox;subst hox
    cases hq;simp only[AX];exact⟨χ,hnd,λb hb'=>.inl ((hb b hb').elim (hto b) λ⟨k,h1,h2⟩=>htk k h1 b h2)⟩
   ·cases hq
 ·have hq:=(hlk x).symm.trans hx
  have hq':=(hlk x').symm.trans hx'
  split at hq
  ·cases hq
  ·split at hq
   ·split at hq'
    ·cases hq'
    ·split at hq'
     ·rename_i h1 _ h2;exact absurd (h1.symm.trans h2) hne
     ·cases hq'
   ·cases hq
theorem St.setV(h:St C σ mu a w){dst:Option Nat}(hd:∀d,dst=some d->d<C.N){o:Nat}{ob0 ob':Ob}(ho:σ.H o=some (some ob0))(ks:List Nat)
  (hks:∀k∈ks,k≠o/\∃ob,σ.H k=some (some ob)){m:Img}{p:Option Prop}{v:Value}{val:SV}(hval:∀E,aA C.P E val v)
  (hos:OsD w w')(htape:w'.tape=w.tape)(hout:w'.output=w.output)(hsize:w.heap.size<=w'.heap.size)
  (hkeep:∀b,b<w.heap.size->b ∉ (mu o).blocks->w'.heap[b]?=w.heap[b]?)
  (hlen:ob'.shp.len=ob0.shp.len)(hhd:m.hd=(mu o).hd)(hver:ob0.shp.ver<=ob'.shp.ver)(hsame:ob'.shp.ver=ob0.shp.ver->m=mu o/\ob'.shp.rl=ob0.shp.rl)
  (χ:aX (σ.env C.wF mu) w' m ob')(hnd:m.blocks.Nodup)(hb:∀b∈m.blocks,b∈(mu o).blocks\/∃k∈ks,b∈(mu k).blocks)
  (hf0:ob0.isFz=false:=by first|rfl|assumption)(hf:ob'.isFz=false:=by first|rfl|assumption) :
  aD C (σ.app dst ⟨val,ks.map (λk=>(k,none))++[(o,some ob')],p⟩) (a.put dst v) w' :=
 h.setVE hd ho ks hks (λE _ _=>hval E) hos htape hout hsize hkeep hlen hhd hver hsame χ hnd hb hf0 hf
theorem St.set(h:St C σ mu a w){dst:Option Nat}(hd:∀d,dst=some d->d<C.N){o:Nat}{ob0 ob':Ob}(ho:σ.H o=some (some ob0))(ks:List Nat)
  (hks:∀k∈ks,k≠o/\∃ob,σ.H k=some (some ob)){m:Img}{p:Option Prop}{v:Value}
  (hos:OsD w w')(htape:w'.tape=w.tape)(hout:w'.output=w.output)(hsize:w.heap.size<=w'.heap.size)
  (hkeep:∀b,b<w.heap.size->b ∉ (mu o).blocks->w'.heap[b]?=w.heap[b]?)
  (hlen:ob'.shp.len=ob0.shp.len)(hhd:m.hd=(mu o).hd)(hver:ob0.shp.ver<=ob'.shp.ver)(hsame:ob'.shp.ver=ob0.shp.ver->m=mu o/\ob'.shp.rl=ob0.shp.rl)
  (χ:aX (σ.env C.wF mu) w' m ob')(hnd:m.blocks.Nodup)(hb:∀b∈m.blocks,b∈(mu o).blocks\/∃k∈ks,b∈(mu k).blocks)
  (hf0:ob0.isFz=false:=by first|rfl|assumption)(hf:ob'.isFz=false:=by first|rfl|assumption) :
  aD C (σ.app dst ⟨.c .any,ks.map (λk=>(k,none))++[(o,some ob')],p⟩) (a.put dst v) w' :=
 h.setV hd ho ks hks (val:=.c .any) (λ_=>trivial) hos htape hout hsize hkeep hlen hhd hver hsame χ hnd hb hf0 hf
def ao3{P:Program}{t:TypeId}(ht:cU P t=some 1){b i:Nat}{u v:Value}(hc:w.cell? ⟨b,i,none⟩=some u)(hf:w.frozen? ⟨b,i,none⟩=false)(hv:v.oneCell'=true) :
  (storeVar t ⟨b,i,none⟩ v).run P w=.ok () (w.setCell ⟨b,i,none⟩ v):=by
 have:=run_store P w ⟨b,i,none⟩ v .plain hv
 rw[hc]at this;simp only[hf]at this;simp[storeVar,gA ht,xD hv,storeCells,Addr.add_lit,this]
def jE{b i:Nat}{v:Value}:∀k,k<w.heap.size->k≠b->(w.setCell ⟨b,i,none⟩ v).heap[k]?=w.heap[k]?:=λk _ hk=>heap_setCell_other w ⟨b,i,none⟩ k v hk
def ao4{E:Env}{cs:List SC}{arr:Array Value}(h:dp E cs arr){i:Nat}{c:SC}{u:Value}(hu:u.oneCell'=true)(hc:ak E c u):dp E (cs.set i c) (arr.setIfInBounds i u):=by
 refine⟨by simp[h.1],λj x hj=>?_⟩
 rw[A9]at hj;split at hj
 ·rename_i hij;subst hij
  split at hj
  ·rename_i ψ
   cases hj;have:i<arr.size:=by rw[h.1];exact ψ
   exact⟨u,by simp[this],hu,hc⟩
  ·cases hj
 ·rename_i hij
  obtain⟨v,h1,h2⟩:=h.2 j x hj;exact⟨v,by rw[CJ hij];exact h1,h2⟩
def mo{B e n i b:Nat}{hd u:Value}{xs:List Value}(h:w.ownsRow B e 1 hd n xs)(hb:ag hd=some b)(hi:i<n) :
  (∃x,w.cell? ⟨b,i,none⟩=some x)/\w.frozen? ⟨b,i,none⟩=false/\(w.setCell ⟨b,i,none⟩ u).ownsRow B e 1 hd n (xs.set i u):=by
 have hl:xs.length=n:=by simpa using h.1
 obtain⟨cap,rfl,_⟩:=nF h hb;exact⟨⟨xs[i],by rw[h.cellAt i (by omega)];exact AF (by omega)⟩,h.frozenAt i,(h.stored i u).1⟩
def lm{m:Img}{b:Nat}(hb:ag m.hd=some b):∀k,k ∉ m.blocks->k≠b:=λk hk hc=>by
 apply hk;rw[hc];exact cL hb
def ao5{d d' x:FC}{i:Nat}(h:ga d i x=some d')(hw:d.wid=1):d'.len=d.len/\(∀j fc,j≠i->d.elem j=some fc->d'.elem j=some fc)/\(i<d.len->d'.elem i=some x):=by
 cases d<;>cases x<;>simp only[ga,reduceCtorEq]at h
 case p3.rows=>cases hw
 all_goals
  split at h
  ·rename_i hk
   subst hk;cases h;refine⟨by simp[FC.len],λj fc hj hi=>?_,fun ψ=>?_⟩
   ·change (if j<List.length _ then some _ else none)=some fc at hi
    change (if j<List.length (List.set _ _ _)then some _ else none)=some fc
    split at hi
    ·rename_i ψ
     rw[<-hi,AA (by simpa using ψ)]
     simp[List.getD,A6 (AN hj)]
    ·cases hi
   ·change i<List.length _ at ψ
    change (if i<List.length (List.set _ _ _)then some _ else none)=some _
    rw[AA (by simpa using ψ)]
    simp[List.getD,ψ]
  ·cases h
def ao6{E:Env}{m:Img}{ver i b:Nat}{e:TypeId}{d d' x:FC}{v:Value}(h:aX E w m (.lst ver e d))(hp:ga d i x=some d')(hb:ag m.hd=some b)(hi:i<d.slen)(hv:v.oneCell'=true)(hr:bu E.wF v x) :
  (∃u,w.cell? ⟨b,i,none⟩=some u)/\w.frozen? ⟨b,i,none⟩=false/\aX E (w.setCell ⟨b,i,none⟩ v) m (.lst ver e d'):=by
 obtain⟨q1,vs,q2,q3⟩:=h;obtain⟨sl1,sl2⟩:=RF hi;rw[sl1]at hi;obtain⟨p1,p2,p3⟩:=ao5 hp sl2;rw[sl2]at q2;have pw:=(HQ hp).2.2
 obtain⟨h1,h2,h3⟩:=mo (u:=v) q2 hb hi;have hl:vs.length=d.len:=by simpa using q2.1
 refine⟨h1,h2,q1,vs.set i v,by rw[p1,pw,sl2];exact h3,λj u hj=>?_⟩
 rw[A9]at hj;split at hj
 ·rename_i hij;subst hij
  split at hj
  ·cases hj
   exact⟨hv,x,p3 hi,hr⟩
  ·cases hj
 ·rename_i hij
  obtain⟨h4,fc,h5,h6⟩:=q3 j u hj;exact⟨h4,fc,p2 j fc (λhc=>hij hc.symm) h5,h6⟩
def ao7{d x:FC}(h:H1 d=some x)(w:World):bu w (.slice none 0 0) x:=by
 have key:∀(R:Nat->Value->Prop),bP w (.slice none 0 0) 0 R:=λR=>⟨_,_,rfl,AE _,λh0=>by omega⟩
 cases d<;>simp only[H1,reduceCtorEq]at h<;>cases h<;>exact key _
def R7{w:World}:∀{p:List Nat} {es:List TypeId} {nd u:Value} {d:FC},bq w es nd d->eV nd p=some u->iu nd p u=nd
 | [],es,nd,u,d,h,hu=>by cases hu;rfl
 |i::p,[],nd,u,d,h,hu=>False.elim h
 |i::p,[e],nd,u,d,h,hu=>by
  simp only[eV,kY h.1]at hu;simp at hu
 |i::p,e::e2::es,nd,u,d,⟨h1,h2,h3,h4⟩,hu=>by
  simp only[eV]at hu;split at hu
  ·rename_i v hv
   obtain⟨x0,hx0,_⟩:=lW h2 i;have:=R7 (p:=p) (es:=e2::es) (h4 i v x0 hv hx0) hu
   simp only[iu,hv,this];have e9:(ba nd).set i v=ba nd:=by
    apply BP
    intro j
    rw[A9];split
    ·rename_i hj
     subst hj;rw[AA (AL.1 hv).1,hv]
    ·rfl
   rw[e9];exact h1.symm
  ·cases hu
def Jq{w:World}:∀{p:List Nat} {es:List TypeId} {nd u:Value} {d:FC},bq w es nd d->(aZ es.length nd).Nodup->eV nd p=some u->(aZ (es.drop p.length).length u).Nodup
 | [],es,nd,u,d,h,hn,hu=>by cases hu;exact hn
 |i::p,[],nd,u,d,h,hn,hu=>False.elim h
 |i::p,[e],nd,u,d,h,hn,hu=>by
  simp only[eV,kY h.1]at hu;simp at hu
 |i::p,e::e2::es,nd,u,d,⟨h1,h2,h3,h4⟩,hn,hu=>by
  simp only[eV]at hu;split at hu
  ·rename_i v hv
   obtain⟨x0,hx0,_⟩:=lW h2 i;rw[AR,dX]at hn;have h8:=CZ.1 (Ae.1 hn).2.1
   exact Jq (p:=p) (es:=e2::es) (h4 i v x0 hv hx0) (h8.1 v (AK hv)) hu
  ·cases hu
def Jr{d d' x:FC}{i:Nat}(h:ga d i x=some d'):d'.slen=d.slen:=by
 cases d<;>cases x<;>simp only[ga,reduceCtorEq]at h
 all_goals
  split at h
  ·cases h;simp[FC.slen,FC.len]
  ·cases h
def R8:∀{p:List Nat} {d x x' d':FC},jr d p=some x->nu d p x'=some d'->x'.slen=x.slen->d'.slen=d.slen
 | [],d,x,x',d',h,hp,hl=>by cases h;cases hp;exact hl
 |i::p,d,x,x',d',h,hp,hl=>by
  simp only[nu]at hp;split at hp
  ·split at hp
   ·exact Jr hp
   ·cases hp
  ·cases hp
def ao8{e e2:TypeId}{es:List TypeId}{u kid:Value}{x y x':FC}{j b:Nat}(h:bq w (e::e2::es) u x)(hn:(aZ (e::e2::es).length u).Nodup)(hw:x.wid=1)(hj:j<x.len)(hk:bq w (e2::es) kid y)
  (hkn:(aZ (e2::es).length kid).Nodup)(hsep:∀c∈aZ (e2::es).length kid,c ∉ aZ (e::e2::es).length u)(hp:ga x j y=some x')(hb:ag (aM u)=some b) :
  (∃c,w.cell? ⟨b,j,none⟩=some c)/\w.frozen? ⟨b,j,none⟩=false/\bq (w.setCell ⟨b,j,none⟩ (aM kid)) (e::e2::es) (bB (aM u) ((ba u).set j kid)) x' /\
   (aZ (e::e2::es).length (bB (aM u) ((ba u).set j kid))).Nodup/\∀c∈aZ (e::e2::es).length (bB (aM u) ((ba u).set j kid)),c∈aZ (e::e2::es).length u\/c∈aZ (e2::es).length kid:=by
 have hl:=jt h
 rw[FC.cn,hw,Aq]at hl;have hbu:b∈aZ (e::e2::es).length u:=dW.2 (.inl hb)
 obtain⟨h1,h2,h3,h4⟩:=h;rw[hw]at h3;obtain⟨s1,s2,s3⟩:=mo (u:=aM kid) h3 hb hj;obtain⟨p1,p2,pw⟩:=HQ hp;have hn0:=hn
 rw[AR,dX]at hn0;have hold:(ba u)[j]?=some ((ba u)[j]'(by omega)):=AF (by omega)
 obtain⟨n1,n2,n3,n4⟩:=Rp hn0 hold hkn (λc hc=>.inr λhcc=>hsep c hc (by rw[AR,dX];exact hcc))
 have other:∀c,c≠b->(w.setCell ⟨b,j,none⟩ (aM kid)).heap[c]?=w.heap[c]?:=λc hc=>heap_setCell_other w ⟨b,j,none⟩ c _ hc
 refine⟨s1,s2,⟨rfl,p1.trans h2,?_,λi v z hv hz=>?_⟩,?_,λc hc=>?_⟩
 ·rw[eW,da,CG,p2,pw,hw]
  exact s3
 ·rw[da,A9]at hv
  split at hv
  ·rename_i hij
   subst hij;split at hv
   ·cases hv
    rw[(wY hp).1 rfl (by rw[FC.cn,hw,Aq];exact hj)]at hz
    cases hz;exact hk.keep λc hc=>other c λe=>hsep c hc (by rw[e];exact hbu)
   ·cases hv
  ·rename_i hij
   rw[(wY hp).2 (AN hij)]at hz;exact(h4 i v z hv hz).keep λc hc=>other c λe9=>by
    subst e9;exact(Ae.1 hn0).2.2 c (by rw[hb];simp) c (Am.2 ⟨v,AK hv,hc⟩) rfl
 ·rw[AR,dX]
  exact n1
 ·rcases dW.1 hc with k|k
  ·exact .inl (dW.2 (.inl k))
  ·rcases n2 c (Am.2 k)with k|k
   ·exact .inl (dW.2 (.inr (Am.1 k)))
   ·exact .inr k
def nO{E:Env}{m:Img}{ob:Ob}{es:List TypeId}{d:FC}(h:aX E w m ob)(ht:pA ob=some (es,d)):∃nd,bq w es nd d/\aM nd=m.hd/\aZ es.length nd=m.blocks:=by
 cases ob<;>simp only[pA,reduceCtorEq,AC,BQ]at ht
 ·rename_i e k l
  obtain⟨rfl,rfl⟩:=ht;refine⟨bB m.hd [],⟨rfl,k,l,rfl,h.2⟩,rfl,?_⟩
  rw[Bh,dX];simp[Img.blocks,h.1,eW,da]
 ·rename_i ver e ei k l
  obtain⟨rfl,rfl⟩:=ht;obtain⟨h1,h2,h3⟩:=h;refine⟨bB m.hd (m.ins.map λv=>bB v []),⟨rfl,rfl,?_,λi u x hu hx=>?_⟩,rfl,?_⟩
  ·rw[eW,da,B7]
   have:(aM ∘ λv=>bB v [])=id:=rfl
   rw[this,List.map_id];exact h1
  ·rw[da,Ak]at hu
   cases hv:m.ins[i]? with
   |none=>rw[hv]at hu;cases hu
   |some v =>
    rw[hv]at hu;cases hu;simp only[c9,AC]at hx;subst hx;have ψ:i<l.length:=by rw[<-h2];exact(AL.1 hv).1
    have hg:l.getD i []=l[i]:=by simp[List.getD,ψ]
    rw[hg];exact⟨rfl,k,_,rfl,h3 i v _ hv (AF ψ)⟩
  ·rw[AR,dX,eW,da,Img.blocks]
   congr 1
   generalize m.ins=ins
   induction ins with
   |nil=>rfl
   |cons v l ih =>
    rw[BW,Av,ih,A8,Bh,dX];simp only[eW,da,BX,AV];cases ag v<;>rfl
 ·obtain⟨rfl,rfl⟩:=ht
  obtain⟨nd,rfl,h2⟩:=h;exact⟨nd,h2,rfl,(eK h2).symm⟩
def ao9{t:TypeId}{cx:SC}{sv:SV}{vx vy:Value}{eff:Eff}(hr:(H5 C.P t cx sv).run σ=some eff)(hob:eff.obl)
  (hx:ak (σ.env C.wF mu) cx vx)(hy:aA C.P (σ.env C.wF mu) sv vy)(h:St C σ mu a w){dst:Option Nat}(hd:∀d,dst=some d->d<C.N) :
  ∃w',(Instr.storeAt t vx vy).run C.P w=.ok () w'/\aD C (σ.app dst eff) (a.put dst undef) w':=by
 unfold H5 at hr;split at hr
 ·rename_i c
  split at hr
  ·rename_i hpl
   obtain⟨hpl,hsz⟩:=hpl;have hone:=xC hpl hy
   have ω:∀b i u,w.cell? ⟨b,i,none⟩=some u->w.frozen? ⟨b,i,none⟩=false->(Instr.storeAt t (.pointer (some ⟨b,i,none⟩)) vy).run C.P w=.ok () (w.setCell ⟨b,i,none⟩ vy):=λb i u h1 h2=>by
    simp only[Instr.storeAt,Instr.sureAddr,Sem.run_bind,Sem.run_pure,Result.andThen_ok];exact ao3 hsz h1 h2 hone
   split at hr
   ·rename_i o i
    obtain⟨ob,ho,hr2⟩:=bg hr;clear hr;have hnf:ob.isFz=false:=by cases ob<;>first|rfl|simp[Rd.run]at hr2
    obtain⟨ψ,b,hb,rfl⟩:=aV ho hx;clear hnf;cases ob with
    |frz d=>cases hr2
    |mp l=>cases hr2
    |qu e k l=>cases hr2
    |yd yv Y pre g=>cases hr2
    |tr ver es d=>cases hr2
    |trk ver es d n=>cases hr2
    |rowsH ver e ei k l hs =>
     have hlt':i<l.length:=ψ
     obtain⟨q2,⟨vs,q1,q4⟩,q3⟩:=h.ob o _ ho;obtain⟨⟨u,h1⟩,h2,h3⟩:=mo (u:=vy) q1 hb hlt';have hvl:vs.length=l.length:=by simpa using q1.1
     have hkeep:∀(j:Nat) (u:Value) (r:D6),(mu o).ins[j]?=some u->l[j]?=some r->¬ j∈hs->(w.setCell ⟨b,i,none⟩ vy).ownsRow 0 ei 1 u r.length (r.map (.int k)):=λj u r hj hr hn =>
      ed ((q3 j u r hj hr).2 hn) λb' hb'=>heap_setCell_other w ⟨b,i,none⟩ b' vy (λhc=>by
       subst hc;exact(lh (h.nd o _ ho).1).2 _ hb (Au.2 ⟨u,AK hj,hb'⟩))
     cases c with
     |own o2 =>
      obtain⟨ob2,ho2,hr3⟩:=bg hr2;clear hr2;cases ob2 with
      |ints e2 k2 l2 =>
       simp only at hr3;split at hr3
       ·rename_i hek
        obtain⟨rfl,rfl,hne⟩:=hek;have hv2:vy=(mu o2).hd:=aV ho2 hy
        subst hv2;have hrow2:=h.ob o2 _ ho2
        obtain⟨n1,n2⟩:=xH (i:=i) (x:=(mu o2).hd) (hd:=(mu o).hd) (ins:=(mu o).ins) (h.nd o _ ho).1 λb' hb'=>h.sep o2 o _ _ hne ho2 ho b' (cL hb')
        have hnew:∀hs':List Nat,¬ i∈hs'->(∀j,j∈hs->j≠i->j∈hs')->(∀j,j∈hs'->j∈hs)->j8 (w.setCell ⟨b,i,none⟩ (mu o2).hd) ⟨(mu o).hd,(mu o).ins.set i (mu o2).hd⟩ e e2 k2 (l.set i l2) hs':=λhs' a1 a2 a3=>by
         refine⟨by simp[q2],⟨vs.set i (mu o2).hd,by rw[Aj];exact h3,λj v hj hn=>?_⟩,λj v r hj hr=>?_⟩
         ·have hj:((mu o).ins.set i (mu o2).hd)[j]?=some v:=hj
          by_cases hij:i=j
          ·subst hij
           rw[Ba (by rw[q2];exact hlt')]at hj
           cases hj;rw[Ba (by rw[hvl];exact hlt')]
          ·rw[A6 hij]at hj⊢
           exact q4 j v hj λhc=>hn (a2 j hc (AN hij))
         ·have hj:((mu o).ins.set i (mu o2).hd)[j]?=some v:=hj
          by_cases hij:i=j
          ·subst hij
           rw[Ba (by rw[q2];exact hlt')]at hj
           rw[Ba hlt']at hr;cases hj;cases hr;refine⟨λhc=>absurd hc a1,λ_=>ed hrow2.2 λb' hb'=>heap_setCell_other w ⟨b,i,none⟩ b' _ λhc=>?_⟩
           subst hc;exact h.sep o2 o _ _ hne ho2 ho _ (cL hb') (cL hb)
          ·rw[A6 hij]at hj hr
           exact⟨λhm=>(q3 j v r hj hr).1 (a3 j hm),λhn=>hkeep j v r hj hr λhc=>hn (a2 j hc (AN hij))⟩
        split at hr3
        ·rename_i h0
         simp only[Rd.run,AC]at hr3;subst hr3;have hih:i=h0:=hob
         subst hih;obtain⟨m1,⟨vs',m2,m3⟩,m4⟩:=hnew [] (by simp) (λj hj hn=>absurd (Ar.1 hj) hn) (λj hj=>by simp at hj)
         have m5:vs'=(mu o).ins.set i (mu o2).hd:=by
          have hl5:vs'.length=((mu o).ins.set i (mu o2).hd).length:=by
           have:=m2.1
           have m1':((mu o).ins.set i (mu o2).hd).length=(l.set i l2).length:=m1
           rw[m1'];simpa using this
          refine BP λj=>?_
          by_cases hjl:j<((mu o).ins.set i (mu o2).hd).length
          ·rw[m3 j _ (AF hjl) (by simp)]
           exact(AF hjl).symm
          ·rw[BM (by omega),BM (by omega)]
         subst m5;refine⟨_,ω b i u h1 h2,?_⟩
         refine h.set hd ho [o2] (by simp[hne,ho2]) (m:=⟨(mu o).hd,(mu o).ins.set i (mu o2).hd⟩) ⟨rfl,AE _⟩ rfl rfl (by simp) (λk hk hn=>jE k hk (lm hb k hn)) (by simp[Ob.shp]) rfl (BR _)
          (λhc=>by simp[Ob.shp]at hc) ⟨m2,m1,λj v r hj hr=>(m4 j v r hj hr).2 (by simp)⟩ n1 (λb' hb'=>(n2 b' hb').imp id λh9=>⟨o2,by simp,cL h9⟩)
        ·rename_i h0 hs' _
         simp only[Rd.run,AC]at hr3;subst hr3;obtain⟨hih,hnm⟩:i=h0/\¬ h0∈hs':=hob;subst hih;refine⟨_,ω b i u h1 h2,?_⟩
         exact h.set hd ho [o2] (by simp[hne,ho2]) (m:=⟨(mu o).hd,(mu o).ins.set i (mu o2).hd⟩) ⟨rfl,AE _⟩ rfl rfl (by simp) (λk hk hn=>jE k hk (lm hb k hn)) (by simp[Ob.shp]) rfl (BR _)
          (λhc=>by simp[Ob.shp]at hc) (hnew hs' hnm (λj hj hn=>(AG.1 hj).resolve_left hn) (λj hj=>AQ _ hj)) n1 (λb' hb'=>(n2 b' hb').imp id λh9=>⟨o2,by simp,cL h9⟩)
        ·cases hr3
       ·cases hr3
      |_=>cases hr3
     |_=>cases hr2
    |lst ver e d =>
     have hlt':i<d.slen:=ψ
     have put:∀{C:Cx} {σ:State} {mu:Nat->Img} (h:St C σ mu a w) (ho:σ.H o=some (some (.lst ver e d))) (_:ag (mu o).hd=some b) {x d':FC} (_:ga d i x=some d') (_:bu C.wF vy x) (hd:∀d,dst=some d->d<C.N),
       (∃u,w.cell? ⟨b,i,none⟩=some u)/\w.frozen? ⟨b,i,none⟩=false/\aD C (σ.app dst ⟨.c .any,[(o,some (.lst ver e d'))],none⟩) (a.put dst undef) (w.setCell ⟨b,i,none⟩ vy):=fun {C σ mu} h ho hb {x d'} hp hrd hd=>by
      obtain⟨r1,r2,r3⟩:=ao6 (h.ob o _ ho) hp hb hlt' hone hrd;refine⟨r1,r2,?_⟩
      exact h.set hd ho [] (by simp) (m:=mu o) ⟨rfl,AE _⟩ rfl rfl (by simp) (λk hk hn=>jE k hk (lm hb k hn)) (Jr hp) rfl (AE _) (λ_=>⟨rfl,rfl⟩) r3 (h.nd o _ ho).1 (λb hb=>.inl hb)
     cases c with
     |ro x =>
      simp only at hr2;split at hr2
      ·rename_i d' hp
       simp only[Rd.run,AC]at hr2;subst hr2;obtain⟨⟨u,h1⟩,h2,h3⟩:=put h ho hb hp hy.2 hd;exact⟨_,ω b i u h1 h2,h3⟩
      ·cases hr2
     |nil =>
      simp only at hr2;split at hr2
      ·rename_i x hx0
       split at hr2
       ·rename_i d' hp
        simp only[Rd.run,AC]at hr2;subst hr2;simp only[aA,ak]at hy;subst hy;obtain⟨⟨u,h1⟩,h2,h3⟩:=put h ho hb hp (ao7 hx0 _) hd;exact⟨_,ω b i u h1 h2,h3⟩
       ·cases hr2
      ·cases hr2
     |own o2 =>
      obtain⟨ob2,ho2,hr3⟩:=bg hr2;clear hr2;split at hr3
      ·rename_i x hx0
       split at hr3
       ·rename_i d' hp
        split at hr3
        ·rename_i hne
         simp only[Rd.run,AC]at hr3;subst hr3;obtain⟨wG,mu1,g1,s1,k1,e1⟩:=h.fzs [(o2,some (.frz x))] (λo' y hm=>by
          simp at hm
          obtain⟨rfl,rfl⟩:=hm;exact⟨ob2,x,ho2,hx0,rfl⟩)
         have hno:∀y,(o,y) ∉ [(o2,some (Ob.frz x))]:=λy hm=>by
          simp at hm
          exact hne hm.1.symm
         have ho1:(State.mk σ.fr ([(o2,some (.frz x))]++σ.hp)).H o=some (some (.lst ver e d)):=by rw[gF hno];exact ho
         have hy1:=(ak.mono e1 (c:=.own o2) hy).2
         have e2:((State.mk σ.fr ([(o2,some (.frz x))]++σ.hp)).env wG mu1).st o2=.frz x:=fR (by simp[State.H,bv])
         rw[e2]at hy1;obtain⟨⟨u,h1⟩,h2,h3⟩:=put (C:=C.fz wG) s1 ho1 (by rw[k1 o hno];exact hb) hp hy1.2 hd
         exact⟨_,ω b i u h1 h2,aD.up g1 h3⟩
        ·cases hr3
       ·cases hr3
      ·cases hr3
     |_=>cases hr2
    |box cs =>
     simp only at hr2;split at hr2
     ·rename_i hi
      simp only[Rd.run,AC]at hr2;subst hr2;obtain⟨g,arr,ty,h1,h2,h3,h4⟩:=mi h ho;have hgb:g=b:=by rw[State.env,h1]at hb;simpa[ag]using hb
      subst hgb;have hia:i<arr.size:=by rw[h4.1];exact hi
      refine⟨_,ω g i arr[i] (by rw[cell_of_row w g i arr ty (0,0) h3];simp[hia]) (frozen_of_row w g i arr ty h3),?_⟩
      refine h.set hd ho [] (by simp) (m:=mu o) ⟨rfl,AE _⟩ rfl rfl (by simp) (λk hk hn=>jE k hk (lm hb k hn)) (by simp[Ob.shp]) rfl (AE _) (λ_=>⟨rfl,rfl⟩) ?_ (h.nd o _ ho).1 (λb hb=>.inl hb)
      exact⟨g,_,ty,h1,h2,heap_setCell_same w g i arr ty vy h3,ao4 h4 hone hy⟩
     ·cases hr2
    |bx cs=>cases hr2
    |strs e l=>cases hr2
    |ints e k l =>
     cases c with
     |int k' n =>
      simp only at hr2;split at hr2
      ·rename_i hkk
       subst hkk;simp only[Rd.run,AC]at hr2;subst hr2;have hrow:=h.ob o _ ho
       simp only[aA,ak]at hy;subst hy;obtain⟨⟨u,h1⟩,h2,h3⟩:=mo (u:=.int k n) hrow.2 hb (show i<l.length from ψ)
       refine⟨_,ω b i u h1 h2,?_⟩
       refine h.set hd ho [] (by simp) (m:=mu o) ⟨rfl,AE _⟩ rfl rfl (by simp) (λk hk hn=>jE k hk (lm hb k hn)) (by simp[Ob.shp]) rfl (AE _) (λ_=>⟨rfl,rfl⟩) ?_ (h.nd o _ ho).1 (λb hb=>.inl hb)
       exact⟨hrow.1,by rw[Aj,CG];exact h3⟩
      ·cases hr2
     |_=>cases hr2
    |bools e l =>
     cases c with
     |bool n =>
      simp only[Rd.run,AC]at hr2;subst hr2;have hrow:=h.ob o _ ho
      simp only[aA,ak]at hy;subst hy;obtain⟨⟨u,h1⟩,h2,h3⟩:=mo (u:=.bool n) hrow.2 hb (show i<l.length from ψ)
      refine⟨_,ω b i u h1 h2,?_⟩
      refine h.set hd ho [] (by simp) (m:=mu o) ⟨rfl,AE _⟩ rfl rfl (by simp) (λk hk hn=>jE k hk (lm hb k hn)) (by simp[Ob.shp]) rfl (AE _) (λ_=>⟨rfl,rfl⟩) ?_ (h.nd o _ ho).1 (λb hb=>.inl hb)
      exact⟨hrow.1,by rw[Aj,CG];exact h3⟩
     |_=>cases hr2
    |rows ver e ei k l =>
     have hlt':i<l.length:=ψ
     obtain⟨q1,q2,q3⟩:=h.ob o _ ho;obtain⟨⟨u,h1⟩,h2,h3⟩:=mo (u:=vy) q1 hb hlt';have hkeep:∀(j:Nat) (u:Value) (r:D6),(mu o).ins[j]?=some u->l[j]?=some r->(w.setCell ⟨b,i,none⟩ vy).ownsRow 0 ei 1 u r.length (r.map (.int k)):=λj u r hj hr =>
      ed (q3 j u r hj hr) λb' hb'=>heap_setCell_other w ⟨b,i,none⟩ b' vy (λhc=>by
       subst hc;exact(lh (h.nd o _ ho).1).2 _ hb (Au.2 ⟨u,AK hj,hb'⟩))
     cases c with
     |own o2 =>
      obtain⟨ob2,ho2,hr3⟩:=bg hr2;clear hr2;cases ob2 with
      |ints e2 k2 l2 =>
       simp only at hr3;split at hr3
       ·rename_i hek
        obtain⟨rfl,rfl,hne⟩:=hek;simp only[Rd.run,AC]at hr3;subst hr3;have hv2:vy=(mu o2).hd:=aV ho2 hy
        subst hv2;have hrow2:=h.ob o2 _ ho2
        obtain⟨n1,n2⟩:=xH (i:=i) (x:=(mu o2).hd) (hd:=(mu o).hd) (ins:=(mu o).ins) (h.nd o _ ho).1 λb' hb'=>h.sep o2 o _ _ hne ho2 ho b' (cL hb')
        refine⟨_,ω b i u h1 h2,?_⟩
        refine h.set hd ho [o2] (by simp[hne,ho2]) (m:=⟨(mu o).hd,(mu o).ins.set i (mu o2).hd⟩) ⟨rfl,AE _⟩ rfl rfl (by simp) (λk hk hn=>jE k hk (lm hb k hn)) (by simp[Ob.shp]) rfl (BR _)
         (λhc=>by simp[Ob.shp]at hc) ⟨by rw[Aj];exact h3,by simp[q2],λj v r hj hr=>?_⟩ n1 (λb' hb'=>(n2 b' hb').imp id λh9=>⟨o2,by simp,cL h9⟩)
        rw[A9]at hj hr;by_cases hij:i=j
        ·subst hij
         rw[AA rfl,AA (by rw[q2];exact hlt')]at hj
         rw[AA rfl,AA hlt']at hr;cases hj;cases hr;refine ed hrow2.2 λb' hb'=>heap_setCell_other w ⟨b,i,none⟩ b' _ λhc=>?_
         subst hc;exact h.sep o2 o _ _ hne ho2 ho _ (cL hb') (cL hb)
        ·rw[AB hij]at hj hr
         exact hkeep j v r hj hr
       ·cases hr3
      |_=>cases hr3
     |nil =>
      simp only[Rd.run,AC]at hr2;subst hr2;simp only[aA,ak]at hy;subst hy;obtain⟨n1,n2⟩:=xH (i:=i) (x:=.slice none 0 0) (hd:=(mu o).hd) (ins:=(mu o).ins) (h.nd o _ ho).1 λb' hb'=>by simp[ag]at hb'
      refine⟨_,ω b i u h1 h2,?_⟩
      refine h.set hd ho [] (by simp) (m:=⟨(mu o).hd,(mu o).ins.set i (.slice none 0 0)⟩) ⟨rfl,AE _⟩ rfl rfl (by simp) (λk hk hn=>jE k hk (lm hb k hn)) (by simp[Ob.shp]) rfl (BR _)
       (λhc=>by simp[Ob.shp]at hc) ⟨by rw[Aj];exact h3,by simp[q2],λj v r hj hr=>?_⟩ n1 (λb' hb'=>(n2 b' hb').imp id λh9=>by simp[ag]at h9)
      rw[A9]at hj hr;by_cases hij:i=j
      ·subst hij
       rw[AA rfl,AA (by rw[q2];exact hlt')]at hj
       rw[AA rfl,AA hlt']at hr;cases hj;cases hr;exact World.ownsRow_nil _ _ _ _
      ·rw[AB hij]at hj hr
       exact hkeep j v r hj hr
     |_=>cases hr2
   ·rename_i o ver p j
    obtain⟨ob,ho,hr2⟩:=bg hr;clear hr;have hnf:ob.isFz=false:=by cases ob<;>first|rfl|simp[Rd.run]at hr2
    have hx:=aV ho hx
    clear hnf;cases ob with
    |tr ver' es d =>
     cases c with
     |int k' n =>
      simp only at hr2;split at hr2
      ·rename_i hv
       split at hr2
       ·rename_i x hx1
        split at hr2
        ·rename_i k l hl
         split at hr2
         ·rename_i hkk
          subst hkk;split at hr2
          ·rename_i d' hp
           simp only[Rd.run,AC]at hr2;subst hr2;simp only[aA,ak]at hy;subst hy;have hxi:x=.ints k l:=by
            cases x<;>simp only[w7,reduceCtorEq,AC,BQ]at hl
            obtain⟨rfl,rfl⟩:=hl;rfl
           subst hxi;obtain⟨nd,u,b,n',c',q1,q2,q3,q4,rfl⟩:=hx.2 hv.symm;obtain⟨hm,hT,x',k1,k2,k3⟩:=mg (h.ob o _ ho) q1 q2;rw[hx1]at k1;cases k1;have hn':=k2.len q3
           subst hn';obtain⟨e,hes,k4⟩:=I3 k2;have hj:j<l.length:=RI k2 q4
           have hbu:ag (aM u)=some b:=by rw[q3];rfl
           obtain⟨⟨u0,h1⟩,h2,h3⟩:=mo (u:=.int k n) k4 hbu hj;have Bm:(mu o).blocks=aZ es.length nd:=by rw[hm];exact eK hT
           have hbm:b∈(mu o).blocks:=k3 b (by rw[hes];exact dW.2 (.inl hbu))
           have hnd:=(h.nd o _ ho).1
           have hu:bq (w.setCell ⟨b,j,none⟩ (.int k n)) (es.drop p.length) u (.ints k (l.set j n)):=by
            rw[hes]at k2⊢;exact⟨k2.1,k,_,rfl,by rw[Aj,CG];exact h3⟩
           obtain⟨r1,_,_,_⟩:=HR (w':=w.setCell ⟨b,j,none⟩ (.int k n)) (u':=u) hT (by rw[<-Bm];exact hnd) q2 hp rfl (λc hc hcn=>heap_setCell_other w ⟨b,j,none⟩ c _ λe9=>hcn (by
            rw[hes,e9];exact dW.2 (.inl hbu))) hu (by
             rw[hes,Bh,dX,kY (by rw[hes]at k2;exact k2.1)]
             cases ag (aM u)<;>simp) (λc hc=>.inl hc)
           rw[R7 hT q2]at r1;refine⟨_,ω b j u0 h1 h2,?_⟩
           exact h.set hd ho [] (by simp) (m:=mu o) ⟨rfl,AE _⟩ rfl rfl (by simp) (λc hk hcn=>jE c hk λe9=>hcn (by rw[e9];exact hbm)) (R8 hx1 hp (by simp[FC.slen,FC.len])) rfl (AE _) (λ_=>⟨rfl,rfl⟩) ⟨nd,hm,r1⟩ hnd (λb hb=>.inl hb)
          ·cases hr2
         ·cases hr2
        ·cases hr2
       ·cases hr2
      ·cases hr2
     |own o2 =>
      obtain⟨ob2,ho2,hr3⟩:=bg hr2;clear hr2;split at hr3
      ·rename_i es2 y hty
       split at hr3
       ·rename_i φ
        obtain⟨hv,hne,hes2⟩:=φ;have hes2:=js hes2
        split at hr3
        ·rename_i x hx1
         obtain⟨hw1,hr3⟩:=mj hr3;split at hr3
         ·rename_i x1 hpe
          split at hr3
          ·rename_i d' hp
           simp only[Rd.run,AC]at hr3;subst hr3;have hnf2:ob2.isFz=false:=by cases ob2<;>first|rfl|cases hty
           have hv2:vy=(mu o2).hd:=aV ho2 hy hnf2
           obtain⟨kid,t1,t2,t3⟩:=nO (h.ob o2 _ ho2) hty;obtain⟨nd,u,b,n',c',q1,q2,q3,q4,rfl⟩:=hx.2 hv.symm;obtain⟨hm,hT,x',k1,k2,k3⟩:=mg (h.ob o _ ho) q1 q2;rw[hx1]at k1;cases k1;have hn':=k2.len q3
           subst hn';have hbu:ag (aM u)=some b:=by rw[q3];rfl
           have Bm:(mu o).blocks=aZ es.length nd:=by rw[hm];exact eK hT
           have hnd:=(h.nd o _ ho).1
           have hnd2:=(h.nd o2 _ ho2).1
           have hdrop:es.drop p.length=es.drop p.length:=rfl
           generalize hE:es.drop p.length=E at k2 k3 hdrop
           have hE2:E.tail=es2:=by rw[hes2,<-hE,List.tail_drop]
           match E,k2,hE2 with
           | [],k2,_=>exact False.elim k2
           | [e],k2,hE2=>rw[<-hE2]at t1;exact False.elim t1
           |e::e2::es',k2,hE2 =>
            have hE2:e2::es'=es2:=hE2
            subst hE2;have subn:(aZ (e::e2::es').length u).Nodup:=by
             have hn9:(aZ es.length nd).Nodup:=by rw[<-Bm];exact hnd
             have:=Jq hT hn9 q2
             rwa[hE]at this
            have hsep:∀c∈aZ (e2::es').length kid,c ∉ (mu o).blocks:=λc hc=>h.sep o2 o _ _ hne ho2 ho c (by rw[<-t3];exact hc)
            obtain⟨⟨u0,h1⟩,h2,s3,s4,s5⟩:=ao8 k2 subn hw1 (by have:=I4 k2 q4;rw[FC.cn,hw1,Aq]at this;exact this) t1 (by rw[t3];exact hnd2) (λc hc hcc=>hsep c hc (k3 c hcc)) hpe hbu
            have hbm:b∈(mu o).blocks:=k3 b (dW.2 (.inl hbu))
            rw[t2,<-hv2]at s3;obtain⟨r1,r2,r3,r4⟩:=HR (w':=w.setCell ⟨b,j,none⟩ vy) (u':=bB (aM u) ((ba u).set j kid)) hT (by rw[<-Bm];exact hnd) q2 hp rfl (λc hc hcn=>heap_setCell_other w ⟨b,j,none⟩ c _ λe9=>hcn (by
             rw[hE,e9];exact dW.2 (.inl hbu))) (by rw[hE];exact s3) (by rw[hE];exact s4) (λc hc=>by
              rw[hE]at hc⊢;rcases s5 c hc with k|k
              ·exact .inl k
              ·exact .inr λhcc=>hsep c k (by rw[Bm];exact hcc))
            have hB:=eK r1
            refine⟨_,ω b j u0 h1 h2,?_⟩
            refine h.set hd ho [o2] (by simp[hne,ho2]) (m:=dN es.length (iu nd p (bB (aM u) ((ba u).set j kid)))) ⟨rfl,AE _⟩ rfl rfl (by simp) (λc hk hcn=>jE c hk λe9=>hcn (by rw[e9];exact hbm)) (R8 hx1 hp (Jr hpe)) (by rw[hm];exact r2) (BR _)
             (λhc=>by simp[Ob.shp]at hc) ⟨_,rfl,r1⟩ (by rw[hB];exact r3) (λc hc=>?_)
            rw[hB]at hc;rcases r4 c hc with k|k
            ·exact .inl (by rw[Bm];exact k)
            ·rw[hE]at k
             rcases s5 c k with k|k
             ·exact .inl (k3 c k)
             ·exact .inr ⟨o2,by simp,by rw[<-t3];exact k⟩
          ·cases hr3
         ·cases hr3
        ·cases hr3
       ·cases hr3
      ·cases hr3
     |_=>cases hr2
    |_=>cases hr2
   ·rename_i o ver i j
    obtain⟨ob,ho,hr2⟩:=bg hr;clear hr;have hnf:ob.isFz=false:=by cases ob<;>first|rfl|simp[Rd.run]at hr2
    have hx:=aV ho hx
    clear hnf;cases ob with
    |rows ver' e ei k l =>
     cases c with
     |int k' n =>
      simp only at hr2;split at hr2
      ·rename_i hvk
       obtain⟨rfl,rfl⟩:=hvk;simp only[Rd.run,AC]at hr2;subst hr2;simp only[aA,ak]at hy;subst hy;obtain⟨hi,hj,r,b,hins,hb,rfl⟩:=hx.2 rfl;have hi':i<l.length:=hi
       obtain⟨q1,q2,q3⟩:=h.ob o _ ho;have hrow:=q3 i r _ hins (AF hi')
       have hgd:l.getD i []=l[i]:=by simp[List.getD,hi']
       have hj':j<l[i].length:=by
        have:((l.map List.length).getD i 0)=l[i].length:=by simp[List.getD,hi']
        simp only[Ob.shp]at hj;omega
       obtain⟨⟨u,h1⟩,h2,h3⟩:=mo (u:=.int k n) hrow hb hj';refine⟨_,ω b j u h1 h2,?_⟩
       have hrl:(l.set i ((l.getD i []).set j n)).map List.length=l.map List.length:=by
        rw[CG,Aj,hgd];apply BP
        intro x
        rw[A9];split
        ·rename_i hx;subst hx;simp[hi']
        ·rfl
       refine h.set hd ho [] (by simp) (m:=mu o) ⟨rfl,AE _⟩ rfl rfl (by simp) (λx hk hn=>jE x hk λhc=>hn (by rw[hc];exact pv hins hb)) (by simp[Ob.shp]) rfl (AE _)
        (λ_=>⟨rfl,hrl⟩) ⟨?_,by simp[q2],λx v s hxx hs=>?_⟩ (h.nd o _ ho).1 (λb hb=>.inl hb)
       ·rw[Aj]
        refine ed q1 λb' hb'=>heap_setCell_other w ⟨b,j,none⟩ b' _ λhc=>?_
        subst hc;exact(lh (h.nd o _ ho).1).2 _ hb' (Au.2 ⟨r,AK hins,hb⟩)
       ·rw[A9]at hs
        by_cases hix:i=x
        ·subst hix
         rw[AA rfl,AA hi']at hs;cases hs;have hrv:v=r:=BF (hxx.symm.trans hins)
         subst hrv;rw[hgd,Aj,CG];exact h3
        ·rw[AB hix]at hs
         refine ed (q3 x v s hxx hs) λb' hb'=>heap_setCell_other w ⟨b,j,none⟩ b' _ λhc=>?_
         subst hc;exact R0 (h.nd o _ ho).1 hins hxx hix hb hb'
      ·cases hr2
     |_=>cases hr2
    |_=>cases hr2
   ·cases hr
  ·cases hr
 ·rename_i cs'
  split at hr
  ·rename_i hsz
   split at hr
   ·rename_i o i
    obtain⟨ob,ho,hr2⟩:=bg hr;clear hr;have hnf:ob.isFz=false:=by cases ob<;>first|rfl|simp[Rd.run]at hr2
    obtain⟨ψ,b,hb,rfl⟩:=aV ho hx;clear hnf;cases ob with
    |box cs =>
     simp only at hr2;split at hr2
     ·rename_i hi
      simp only[Rd.run,AC]at hr2;subst hr2;obtain⟨arr',rfl,hrep'⟩:=hy;obtain⟨g,arr,ty,h1,h2,h3,h4⟩:=mi h ho;have hgb:g=b:=by rw[State.env,h1]at hb;simpa[ag]using hb
      subst hgb;have hl:arr'.toList.length=cs'.length:=by simp[hrep'.1]
      have hst:=run_storeCells_at C.P g i ty arr'.toList 0 arr w h3 (by rw[hl,h4.1];omega) (λv hv=>by
       obtain⟨j,hj⟩:=Ah hv;have hjl:j<cs'.length:=by rw[<-hl];exact(AL.1 hj).1
       obtain⟨u,h5,h6,_⟩:=hrep'.2 j _ (AF hjl);have:u=v:=by rw[Array.getElem?_toList]at hj;exact BF (h5.symm.trans hj)
       rw[<-this];exact h6)
      refine⟨w.setRow g (List.take (i+0) arr.toList++arr'.toList++List.drop (i+0+arr'.toList.length) arr.toList).toArray,?_,?_⟩
      ·simp only[Instr.storeAt,Instr.sureAddr,Sem.run_bind,Sem.run_pure,Result.andThen_ok]
       simp only[storeVar,Value.cells,Sem.run_bind,gA hsz,Result.andThen_ok,hrep'.1];simp only[ne_eq,CV,Al];exact hst
      ·refine h.set hd ho [] (by simp) (m:=mu o) ⟨rfl,AE _⟩ rfl rfl (by simp) (λk hk hn=>setRow_other w g k _ (lm hb k hn)) (by simp[Ob.shp];omega) rfl (AE _) (λ_=>⟨rfl,rfl⟩) ?_ (h.nd o _ ho).1 (λb hb=>.inl hb)
       refine⟨g,_,ty,h1,h2,setRow_heap w g arr _ ty _ h3,by simp[h4.1,hrep'.1],λj c hj=>?_⟩
       have hlen:i+cs'.length<=arr.size:=by rw[h4.1];exact hi
       have hq:=hrep'.1
       simp only[Bg,Dk];by_cases c1:j<i
       ·rw[Ap,As (by simp;omega)]at hj⊢
        rw[Aw,AA c1]at hj⊢;obtain⟨u,h5,h6⟩:=h4.2 j c hj;exact⟨u,by simpa using h5,h6⟩
       ·by_cases c2:j<i+cs'.length
        ·rw[As (by simp;omega),Ay (by simp;omega)]at hj⊢
         have e1:(List.take i cs).length=i:=by simp;omega
         have e2:(List.take i arr.toList).length=i:=by simp;omega
         rw[e1]at hj;rw[e2];obtain⟨u,h5,h6⟩:=hrep'.2 _ c hj;exact⟨u,by simpa using h5,h6⟩
        ·rw[Ay (by simp;omega)]at hj⊢
         have e1:(List.take i cs++cs').length=i+cs'.length:=by simp;omega
         have e2:(List.take i arr.toList++arr'.toList).length=i+cs'.length:=by simp[hrep'.1];omega
         rw[e1,BG]at hj;rw[e2,BG,hl];have e3:i+cs'.length+(j-(i+cs'.length))=j:=by omega
         rw[e3]at hj⊢;obtain⟨u,h5,h6⟩:=h4.2 j c hj;exact⟨u,by simpa using h5,h6⟩
     ·cases hr2
    |_=>cases hr2
   ·cases hr
  ·cases hr
 ·cases hr
end
end Go.Sx
