/- SxW -/
import Derived.Test.YtkmldclpaniclaaGreatSxU
set_option linter.unusedSimpArgs false
set_option linter.unusedVariables false
set_option linter.defProp false
section
namespace Go.Sx
open Go.RowKit
section
variable {Nw:Nat->Prop} {C:Cx} {σ:State} {mu:Nat->Img} {a:Act} {w:World}
def kL(σ:State)(mu:Nat->Img)(us:List (Nat×Nat))(i:Nat)(m:Img):Prop :=
 ∀b∈m.blocks,∃o ob,(i,o)∈us/\σ.H o=some (some ob)/\b∈(mu o).blocks
theorem kL.mono{us us':List (Nat×Nat)}{i:Nat}{m:Img}(h:kL σ mu us i m)(hs:∀x∈us,x∈us'):kL σ mu us' i m:=fun b hb=>by
 obtain⟨o,ob,h1,h2,h3⟩:=h b hb;exact⟨o,ob,hs _ h1,h2,h3⟩
theorem kM{us:List (Nat×Nat)}{i:Nat}{v:Value}(hv:ae v=none):kL σ mu us i ⟨v,[]⟩:=fun b hb=>by simp[Img.blocks,hv]at hb
theorem QL:∀{cs:List SC} {ds:List FC} {p:Prop},kJ cs ds=some p->p->ds.length=cs.length/\∀(j:Nat) (d:FC),ds[j]?=some d->∃c,cs[j]?=some c/\∀(E E':Env) (v:Value),E'.wF=E.wF->ag E c v->ag E' (di d) v
 | [],ds,p,h,_=>by
  cases ds with
  |nil=>exact⟨rfl,fun j d hj=>by simp at hj⟩
  |cons d ds=>simp[kJ]at h
 |c::cs,[],p,h,_=>by cases c<;>simp[kJ]at h
 |c::cs,d::ds,p,h,hp=>by
  have fin:∀{q:Prop},kJ cs ds=some q->q->(∀(E E':Env) (v:Value),E'.wF=E.wF->ag E c v->ag E' (di d) v) ->
    (d::ds).length=(c::cs).length/\∀(j:Nat) (x:FC),(d::ds)[j]?=some x->∃y,(c::cs)[j]?=some y/\∀(E E':Env) (v:Value),E'.wF=E.wF->ag E y v->ag E' (di x) v:=fun {q} hq hq2 h0=>by
   obtain⟨h1,h2⟩:=QL hq hq2;refine⟨by simp[h1],fun j x hx=>?_⟩
   cases j with
   |zero=>simp at hx;subst hx;exact⟨c,rfl,h0⟩
   |succ j=>simpa using h2 j x (by simpa using hx)
  unfold kJ at h;split at h
  ·rename_i h1 h2;cases h1
  ·rename_i h1 h2
   cases h1;cases h2;split at h
   ·rename_i hk
    subst hk;split at h
    ·rename_i q hq
     cases h;exact fin hq hp.2 fun E E' v _ hv=>by rw[<-hp.1];exact hv
    ·cases h
   ·cases h
  ·rename_i h1 h2
   cases h1;cases h2;split at h
   ·rename_i q hq
    cases h;exact fin hq hp.2 fun E E' v _ hv=>by rw[<-hp.1];exact hv
   ·cases h
  ·rename_i h1 h2
   cases h1;cases h2;split at h
   ·rename_i q0 hq0
    split at h
    ·rename_i q hq
     cases h;have:=fW hq0 hp.1
     subst this;exact fin hq hp.2 fun E E' v he hv=>(lG (E:=E') (by rw[he];exact hv.2)).1
    ·cases h
   ·cases h
  ·cases h
theorem Ih{ob:Ob}{cut:FC->Option FC}{d':FC}{us:List (Nat×Nat)}{p:Prop}(h:qX ob cut d'=some (us,p))(hp:p):∃d,ob=.frz d/\cut d=some d'/\us=[]:=by
 unfold qX at h;split at h
 ·split at h
  ·rename_i d0 h0
   split at h
   ·rename_i p' hp'
    cases h;have:=fW hp' hp
    subst this;exact⟨_,rfl,h0,rfl⟩
   ·cases h
  ·cases h
 ·cases h
theorem Ii{rc:RC}{d:FC}(h:qW rc=some d):rc=.ro d:=by
 unfold qW at h;split at h
 ·cases h;rfl
 ·cases h
theorem Ij{i:Nat}{c:SC}{rc:RC}{us:List (Nat×Nat)}{p:Prop}(hm:qZ σ i c rc=some (us,p))(hp:p)(h:St C σ mu a w)(hM:∀i o ob,(i,o)∈us->σ.H o=some (some ob)->∀b∈(mu o).blocks,Nw b){u:Value}
  (hu:ag (σ.env C.wF mu) c u):∃m,g9 Nw w C.wF m rc u/\kL σ mu us i m:=by
 unfold qZ at hm;split at hm
 ·split at hm
  ·split at hm
   ·rename_i hk
    cases hm;subst hk;subst hp;exact⟨⟨undef,[]⟩,hu,kM rfl⟩
   ·cases hm
  ·cases hm
 ·split at hm
  ·cases hm;subst hp
   exact⟨⟨undef,[]⟩,hu,kM rfl⟩
  ·cases hm
 ·split at hm
  ·cases hm;subst hp
   exact⟨⟨undef,[]⟩,hu,kM rfl⟩
  ·cases hm
 ·have hu':u=.slice none 0 0:=hu
  subst hu';unfold QJ at hm;split at hm
  all_goals first
   | (rename_i es d
      split at hm
      ·rename_i hc
       cases hm;rw[AL]at hc;have hes:=AY hc.1
       have hT:bf w es (bp (.slice none 0 0) []) d:=Ha hes.symm hp fun h0=>by
        have h2:=hc.2
        cases d<;>first|exact⟨_,_,rfl⟩|(simp[FC.dep]at h0;done)|(simp[QI]at h2;done)
       have hB:=(d9 hT).trans (Hb _)
       exact⟨dr es.length (bp (.slice none 0 0) []),⟨rfl,⟨_,rfl,hT⟩,by rw[hB];simp,by rw[hB];simp⟩,fun b hb=>by rw[hB]at hb;simp at hb⟩
      ·cases hm
       done)
   |skip
  all_goals refine⟨⟨.slice none 0 0,[]⟩,?_,kM rfl⟩
  all_goals first
   |(cases hm;obtain⟨⟨rfl,rfl⟩,rfl⟩:=hp;exact⟨.inl ⟨rfl,rfl,rfl,rfl⟩,AE _,⟨⟨by simp,.inl ⟨rfl,rfl⟩⟩,rfl,by simp⟩,by simp[Img.blocks,ae],by simp[Img.blocks,ae]⟩)
   |(cases hm;subst hp;exact⟨rfl,⟨rfl,by simp,.inl ⟨rfl,rfl⟩⟩,by simp[Img.blocks,ae],by simp[Img.blocks,ae]⟩)
   |(cases hm;subst hp;exact⟨rfl,⟨⟨by simp,.inl ⟨rfl,rfl⟩⟩,rfl,by simp⟩,by simp[Img.blocks,ae],by simp[Img.blocks,ae]⟩)
   |(cases hm;subst hp;exact⟨_,_,_,rfl,rfl⟩)
   | (split at hm
      ·cases hm
      ·rename_i hs
       cases hm;exact⟨⟨_,_,_,rfl,AE _⟩,Qp hs hp _⟩)
   | (split at hm
      ·cases hm
      ·rename_i hs
       cases hm;have hp:_=_:=hp
       exact⟨rfl,⟨rfl,[],by rw[hp];exact World.ownsRow_nil _ _ _ _,fun i u hi=>by simp at hi⟩,by simp[Img.blocks,ae],by simp[Img.blocks,ae]⟩)
   |cases hm
 ·rename_i o
  split at hm
  ·rename_i ob ho
   split at hm
   ·rename_i d' hro
    obtain⟨d,rfl,h2,rfl⟩:=Ih hm hp;cases h2;have:=Ii hro
    subst this;have h3:=hu.2
    have e:(σ.env C.wF mu).st o=.frz _:=fE ho
    rw[e]at h3;exact⟨⟨undef,[]⟩,h3,kM rfl⟩
   have hnf:ob.isFz=false:=by
    cases ob with
    |frz d=>cases hq:qY rc<;>simp[hq,Ob.len?,qU]at hm
    |mp l=>cases hq:qY rc<;>simp[hq,Ob.len?,qU]at hm
    |qu e k l=>cases hq:qY rc<;>simp[hq,Ob.len?,qU]at hm
    |rowsH ver e ei k l hs=>rfl
    |_=>rfl
   have hu':u=(mu o).hd:=aK ho hu
   subst hu';have hnd:=h.nd o ob ho
   have χ:=h.ob o ob ho
   split at hm
   ·rename_i b hb
    split at hm
    ·rename_i n hn
     cases hm;obtain⟨hp1,hp2⟩:=hp;subst hp1;have hrc:rc=.nilq false:=by
      unfold qY at hb;split at hb
      ·cases hb;rfl
      ·cases hb
     subst hrc;obtain⟨hv,_⟩:=qt hn χ;refine⟨⟨undef,[]⟩,?_,kM rfl⟩
     rcases hv with⟨_,_,_,h0⟩|⟨g,len,cap,ao,h1,h2,_⟩
     ·exact absurd h0 hp2
     ·exact⟨_,_,_,h2,rfl⟩
    ·cases hm
   refine⟨mu o,?_⟩
   unfold qU at hm;split at hm
   ·split at hm
    ·split at hm
     ·rename_i he
      obtain⟨rfl,rfl⟩:=he;cases hm;subst hp;exact⟨⟨rfl,χ.env,hnd.1,fun b hb=>hM i o _ (by simp) ho b hb⟩,fun b hb=>⟨o,_,by simp,ho,hb⟩⟩
     ·cases hm
    ·cases hm
   ·split at hm
    ·split at hm
     ·rename_i he
      subst he;cases hm;subst hp;exact⟨⟨rfl,χ.env,hnd.1,fun b hb=>hM i o _ (by simp) ho b hb⟩,fun b hb=>⟨o,_,by simp,ho,hb⟩⟩
     ·cases hm
    ·cases hm
   ·split at hm
    ·split at hm
     ·rename_i he
      obtain⟨rfl,rfl,rfl⟩:=he;cases hm;subst hp;exact⟨⟨rfl,χ.env.ver,hnd.1,fun b hb=>hM i o _ (by simp) ho b hb⟩,fun b hb=>⟨o,_,by simp,ho,hb⟩⟩
     ·cases hm
    ·split at hm
     ·rename_i he
      obtain⟨rfl,rfl,rfl⟩:=he;cases hm;obtain⟨rfl,rfl,rfl⟩:=hp;exact⟨⟨cH χ.1,by omega,χ.env.ver,hnd.1,fun b hb=>hM i o _ (by simp) ho b hb⟩,fun b hb=>⟨o,_,by simp,ho,hb⟩⟩
     ·cases hm
    ·cases hm
   ·split at hm
    ·split at hm
     ·rename_i he
      subst he;cases hm;subst hp;exact⟨⟨rfl,χ.env,hnd.1,fun b hb=>hM i o _ (by simp) ho b hb⟩,fun b hb=>⟨o,_,by simp,ho,hb⟩⟩
     ·cases hm
    ·cases hm
   ·split at hm
    ·split at hm
     ·rename_i he
      subst he;split at hm
      ·rename_i hd
       cases hm;have:=fW hd hp
       subst this;exact⟨⟨rfl,χ,hnd.1,fun b hb=>hM i o _ (by simp) ho b hb⟩,fun b hb=>⟨o,_,by simp,ho,hb⟩⟩
      ·cases hm
     ·cases hm
    ·cases hm
   ·cases hm
   ·cases hm
   ·cases hm
   ·cases hm
   ·cases hm
   ·cases hm
   ·cases hm
   ·cases hm
   ·split at hm
    ·split at hm
     ·rename_i he
      have he:=i7 he
      subst he;split at hm
      ·rename_i hd
       cases hm;have:=fW hd hp
       subst this;exact⟨⟨rfl,χ,hnd.1,fun b hb=>hM i o _ (by simp) ho b hb⟩,fun b hb=>⟨o,_,by simp,ho,hb⟩⟩
      ·cases hm
     ·cases hm
    ·cases hm
  ·cases hm
 ·rename_i o n
  split at hm
  ·rename_i ob ho
   split at hm
   ·rename_i d' hro
    obtain⟨d,rfl,h2,rfl⟩:=Ih hm hp;have:=Ii hro
    subst this;have h3:=hu.2
    have e:(σ.env C.wF mu).st o=.frz d:=fE ho
    rw[e]at h3;obtain⟨d'',h4,h5⟩:=h3;rw[h2]at h4;cases h4;exact⟨⟨undef,[]⟩,h5,kM rfl⟩
   have hnf:ob.isFz=false:=by
    cases ob with
    |frz d=>simp[qV]at hm
    |mp l=>simp[qV]at hm
    |qu e k l=>simp[qV]at hm
    |rowsH ver e ei k l hs=>rfl
    |_=>rfl
   obtain⟨hle,hview⟩:=aK ho hu;have hnd:=h.nd o ob ho
   have χ:=h.ob o ob ho
   have hbl:∀b∈(⟨u,[]⟩:Img).blocks,b∈(mu o).blocks:=fun b hb=>by
    simp only[Img.blocks,Hg hview,A6,Ac]at hb⊢;exact BM _ hb
   have hndu:(⟨u,[]⟩:Img).blocks.Nodup:=by
    simp only[Img.blocks,A6,Ac];cases ae u<;>simp
   unfold qV at hm;split at hm
   ·split at hm
    ·split at hm
     ·rename_i l _ _ _ _ _ he
      obtain⟨rfl,rfl⟩:=he;cases hm;subst hp;have hle':n<=l.length:=hle
      have:=Hf χ.2 hview hle'
      rw[<-CR]at this;refine⟨⟨u,[]⟩,⟨rfl,⟨rfl,?_⟩,hndu,fun b hb=>hM i o _ (by simp) ho b (hbl b hb)⟩,fun b hb=>⟨o,_,by simp,ho,hbl b hb⟩⟩
      rw[AT,B9 hle'];exact this
     ·cases hm
    ·cases hm
   ·split at hm
    ·split at hm
     ·rename_i l _ _ _ _ he
      subst he;cases hm;subst hp;have hle':n<=l.length:=hle
      have:=Hf χ.2 hview hle'
      rw[<-CR]at this;refine⟨⟨u,[]⟩,⟨rfl,⟨rfl,?_⟩,hndu,fun b hb=>hM i o _ (by simp) ho b (hbl b hb)⟩,fun b hb=>⟨o,_,by simp,ho,hbl b hb⟩⟩
      rw[AT,B9 hle'];exact this
     ·cases hm
    ·cases hm
   ·split at hm
    ·split at hm
     ·rename_i he
      obtain⟨rfl,rfl,rfl⟩:=he;cases hm;obtain⟨rfl,rfl,rfl⟩:=hp;exact⟨mu o,⟨hview,Ar (Nat.le_of_eq (AJ n)) hle,χ.env.ver,hnd.1,fun b hb=>hM i o _ (by simp) ho b hb⟩,fun b hb=>⟨o,_,by simp,ho,hb⟩⟩
     ·cases hm
    ·cases hm
   ·cases hm
  ·cases hm
 ·rename_i o off n
  split at hm
  ·rename_i ob ho
   split at hm
   ·rename_i d' hro
    obtain⟨d,rfl,h2,rfl⟩:=Ih hm hp;have:=Ii hro
    subst this;have h3:=hu.2
    have e:(σ.env C.wF mu).st o=.frz d:=fE ho
    rw[e]at h3;obtain⟨d'',h4,h5⟩:=h3;rw[h2]at h4;cases h4;exact⟨⟨undef,[]⟩,h5,kM rfl⟩
   split at hm
   case h_2=>cases hm
   rename_i ver e ei k l;split at hm
   ·split at hm
    ·rename_i he
     obtain⟨rfl,rfl,rfl⟩:=he;cases hm;obtain⟨rfl,rfl,rfl⟩:=hp;obtain⟨hle,hview⟩:=aK ho hu;have hnd:=h.nd o _ ho
     have χ:=h.ob o _ ho
     refine⟨mu o,⟨hview,hle,χ.env.ver,hnd.1,fun b hb=>hM i o _ (by simp) ho b hb⟩,fun b hb=>⟨o,_,by simp,ho,hb⟩⟩
    ·cases hm
   ·cases hm
  ·cases hm
 ·rename_i o x
  split at hm
  ·split at hm
   ·rename_i cs ho
    split at hm
    ·rename_i ds hds
     split at hm
     ·rename_i p' hp'
      cases hm;have hrc:rc=.bx ds:=by
       unfold wO at hds;split at hds
       ·cases hds;rfl
       ·cases hds
      subst hrc;obtain⟨b,arr,t,k1,k2,k3,k4,k5⟩:=h.ob o _ ho;obtain⟨q1,q2⟩:=QL hp' hp.2;obtain⟨_,b',hb',hu'⟩:=aK ho hu;have hb':ae (mu o).hd=some b':=hb'
      have hbb:b'=b:=by rw[k1]at hb';simpa[ae]using hb'.symm
      have hbl:∀c∈(⟨(mu o).hd,[]⟩:Img).blocks,c∈(mu o).blocks:=fun c hc=>by
       simp only[Img.blocks,A6,Ac,BY]at hc;exact cz hc
      refine⟨⟨(mu o).hd,[]⟩,⟨by rw[hu',hbb,k1],⟨b,arr,t,k1,by simp,k3,by rw[k4,AR,q1],fun j c hj=>?_⟩,?_,fun c hc=>hM i o _ (by simp) ho c (hbl c hc),hp.1⟩,fun c hc=>⟨o,_,by simp,ho,hbl c hc⟩⟩
      ·rw[Ai]at hj
       cases hd:ds[j]? with
       |none=>rw[hd]at hj;cases hj
       |some d =>
        rw[hd]at hj;simp at hj
        subst hj;obtain⟨c,r1,r2⟩:=q2 j d hd;obtain⟨y,r3,r4,r5⟩:=k5 j c r1;exact⟨y,r3,r4,r2 (σ.env C.wF mu) _ y rfl r5⟩
      ·simp only[Img.blocks,A6,Ac]
       cases ae (mu o).hd<;>simp
     ·cases hm
    ·cases hm
   ·cases hm
  ·cases hm
 ·rename_i d
  split at hm
  ·split at hm
   ·rename_i p' hp'
    cases hm;have:=fW hp' hp
    subst this;exact⟨⟨undef,[]⟩,hu,kM rfl⟩
   ·cases hm
  ·cases hm
 ·cases hm
theorem Ik(h:St C σ mu a w):∀{cs:List SC} {rcs:List RC} {i:Nat} {us:List (Nat×Nat)} {p:Prop},nw σ i cs rcs=some (us,p)->p->(∀i o ob,(i,o)∈us->σ.H o=some (some ob)->∀b∈(mu o).blocks,Nw b) ->
  rcs.length=cs.length/\∀arr:Array Value,c7 (σ.env C.wF mu) cs arr->∃img:Nat->Img,∀(j:Nat) (x:RC),rcs[j]?=some x->∃u,arr[j]?=some u/\g9 Nw w C.wF (img (i+j)) x u/\kL σ mu us (i+j) (img (i+j))
 | [],[],i,us,p,_,_,_=>⟨rfl,fun arr _=>⟨fun _=>⟨undef,[]⟩,fun j x hx=>by simp at hx⟩⟩
 |c::cs,rc::rcs,i,us,p,hm,hp,hM=>by
  simp only[nw]at hm;split at hm
  ·rename_i u1 p1 h1
   split at hm
   ·rename_i u2 p2 h2
    cases hm;have hM1:∀i o ob,(i,o)∈u1->σ.H o=some (some ob)->∀b∈(mu o).blocks,Nw b:=fun i o ob hm=>hM i o ob (BM _ hm)
    have hM2:∀i o ob,(i,o)∈u2->σ.H o=some (some ob)->∀b∈(mu o).blocks,Nw b:=fun i o ob hm=>hM i o ob (BK _ hm)
    obtain⟨hl,hr⟩:=Ik h h2 hp.2 hM2;refine⟨by simp[hl],fun arr harr=>?_⟩
    obtain⟨hsz,hcs⟩:=harr;obtain⟨u,hu1,_,hu2⟩:=hcs 0 c rfl;obtain⟨m,hm1,hm2⟩:=Ij h1 hp.1 h hM1 hu2;obtain⟨img,himg⟩:=hr arr.toList.tail.toArray ⟨by simp[hsz],fun j c' hj=>by
     obtain⟨u',q1,q2⟩:=hcs (j+1) c' (by simpa using hj)
     refine⟨u',?_,q2⟩
     rw[<-q1];simp[DH]⟩
    refine⟨fun k=>if k=i then m else img k,fun j x hx=>?_⟩
    cases j with
    |zero =>
     simp only[CT,AC]at hx;subst hx;simp only[Bc,AV];exact⟨u,hu1,hm1,hm2.mono fun x hx=>BM _ hx⟩
    |succ j =>
     simp only[Bp]at hx;obtain⟨u',q1,q2,q3⟩:=himg j x hx;rw[show i+1+j=i+(j+1) by omega]at q2 q3
     have hne:¬ i+(j+1)=i:=by omega
     simp only[hne,Al];refine⟨u',?_,q2,q3.mono fun x hx=>BK _ hx⟩
     rw[<-q1];simp[DH]
   ·cases hm
  ·cases hm
 | [],_::_,_,_,_,hm,_,_=>by simp[nw]at hm
 |_::_,[],_,_,_,hm,_,_=>by simp[nw]at hm
theorem ab8(h:St C σ mu a w){s:Nat}{sv:SV}{x:RC ⊕ List RC}{us:List (Nat×Nat)}{p:Prop}(hm:ph σ (16*s) sv x=some (us,p))(hp:p)(hM:∀i o ob,(i,o)∈us->σ.H o=some (some ob)->∀b∈(mu o).blocks,Nw b){v:Value}
  (hv:av C.P (σ.env C.wF mu) sv v):∃img:Nat->Img,qC Nw w C.wF img (16*s) x v/\∀k rc,vZ s k rc x->kL σ mu us k (img k):=by
 unfold ph at hm;split at hm
 ·split at hm
  ·obtain⟨m,h1,h2⟩:=Ij hm hp h hM hv
   refine⟨fun _=>m,h1,fun k rc hk=>?_⟩
   obtain⟨_,rfl⟩:=hk;exact h2
  ·cases hm
 ·split at hm
  ·split at hm
   ·rename_i hle
    obtain⟨arr,rfl,harr⟩:=hv;obtain⟨hl,hr⟩:=Ik h hm hp hM;obtain⟨img,himg⟩:=hr arr harr;refine⟨img,⟨arr,rfl,by rw[harr.1,hl],fun j y hy=>?_⟩,fun k rc hk=>?_⟩
    ·obtain⟨u,q1,q2,_⟩:=himg j y hy
     exact⟨u,q1,q2⟩
    ·obtain⟨j,hj,rfl⟩:=hk
     obtain⟨u,q1,q2,q3⟩:=himg j rc hj;exact q3
   ·cases hm
  ·cases hm
theorem QM{s k:Nat}{rc:RC}{sv:SV}{x:RC ⊕ List RC}{us:List (Nat×Nat)}{p:Prop}(hm:ph σ (16*s) sv x=some (us,p))(hk:vZ s k rc x):16*s<=k/\k<16*(s+1):=by
 unfold ph at hm;split at hm
 ·obtain⟨_,rfl⟩:=hk
  omega
 ·split at hm
  ·split at hm
   ·obtain⟨j,hj,rfl⟩:=hk
    have:=(AN.1 hj).1
    omega
   ·cases hm
  ·cases hm
theorem ab9{w0:Nat->Prop}{w wF:World}{img img':Nat->Img}{s:Nat}{sv:SV}{x:RC ⊕ List RC}{us:List (Nat×Nat)}{p:Prop}(hm:ph σ (16*s) sv x=some (us,p)){v:Value}(h:qC w0 w wF img (16*s) x v)
  (he:∀k,16*s<=k->k<16*(s+1)->img' k=img k):qC w0 w wF img' (16*s) x v:=by
 cases x with
 |inl rc =>
  show g9 _ _ _ _ _ _
  rw[he _ (by omega) (by omega)]
  exact h
 |inr rcs =>
  obtain⟨arr,h1,h2,h3⟩:=h;refine⟨arr,h1,h2,fun j y hy=>?_⟩
  obtain⟨u,h4,h5⟩:=h3 j y hy;have ψ:=QM (rc:=y) (k:=16*s+j) hm ⟨j,hy,rfl⟩
  rw[he _ ψ.1 ψ.2];exact⟨u,h4,h5⟩
theorem QN(h:St C σ mu a w):∀{svs:List SV} {l:List (RC ⊕ List RC)} {s:Nat} {us:List (Nat×Nat)} {p:Prop},pi σ s svs l=some (us,p)->p->(∀i o ob,(i,o)∈us->σ.H o=some (some ob)->∀b∈(mu o).blocks,Nw b) ->
  l.length=svs.length/\∀vs:List Value,vs.length=svs.length->(∀(i:Nat) (sv:SV),svs[i]?=some sv->∃v,vs[i]?=some v/\av C.P (σ.env C.wF mu) sv v) ->
   ∃img:Nat->Img,∀(j:Nat) (x:RC ⊕ List RC),l[j]?=some x->(∃u,vs[j]?=some u/\qC Nw w C.wF img (16*(s+j)) x u)/\∀k rc,vZ (s+j) k rc x->kL σ mu us k (img k)
 | [],[],s,us,p,_,_,_=>⟨rfl,fun vs _ _=>⟨fun _=>⟨undef,[]⟩,fun j x hx=>by simp at hx⟩⟩
 |sv::svs,x::l,s,us,p,hm,hp,hM=>by
  simp only[pi]at hm;split at hm
  ·rename_i u1 p1 h1
   split at hm
   ·rename_i u2 p2 h2
    cases hm;have hM1:∀i o ob,(i,o)∈u1->σ.H o=some (some ob)->∀b∈(mu o).blocks,Nw b:=fun i o ob hm=>hM i o ob (BM _ hm)
    have hM2:∀i o ob,(i,o)∈u2->σ.H o=some (some ob)->∀b∈(mu o).blocks,Nw b:=fun i o ob hm=>hM i o ob (BK _ hm)
    obtain⟨hl,hr⟩:=QN h h2 hp.2 hM2;refine⟨by simp[hl],fun vs hvl hvs=>?_⟩
    obtain⟨v,hv1,hv2⟩:=hvs 0 sv rfl;obtain⟨img1,hi1,hi2⟩:=ab8 h h1 hp.1 hM1 hv2;obtain⟨img2,hj⟩:=hr vs.tail (by simp[hvl]) (fun j sv' hj=>by
     obtain⟨u',q1,q2⟩:=hvs (j+1) sv' (by simpa using hj)
     exact⟨u',by simpa[DH]using q1,q2⟩)
    refine⟨fun k=>if k<16*(s+1)then img1 k else img2 k,fun j y hy=>?_⟩
    cases j with
    |zero =>
     simp only[CT,AC]at hy;subst hy;refine⟨⟨v,hv1,ab9 h1 hi1 fun k _ hk=>by simp only[hk,AV]⟩,fun k rc hk=>?_⟩
     have:=QM h1 hk
     simp only[this.2,AV];exact(hi2 k rc hk).mono fun x hx=>BM _ hx
    |succ j =>
     simp only[Bp]at hy;obtain⟨⟨u,q1,q2⟩,q3⟩:=hj j y hy;rw[show s+1+j=s+(j+1) by omega]at q2 q3
     refine⟨⟨u,by simpa[DH]using q1,?_⟩,fun k rc hk=>?_⟩
     ·cases y with
      |inl rc =>
       have hne:¬ 16*(s+(j+1))<16*(s+1):=by omega
       show g9 _ _ _ _ _ _
       simp only[hne,Al];exact q2
      |inr rcs =>
       obtain⟨arr,h1,h2,h3⟩:=q2;refine⟨arr,h1,h2,fun t y hy=>?_⟩
       obtain⟨u,h4,h5⟩:=h3 t y hy;have hne:¬ 16*(s+(j+1))+t<16*(s+1):=by omega
       simp only[hne,Al];exact⟨u,h4,h5⟩
     ·have hne:¬ k<16*(s+1):=by
       cases y with
       |inl rc=>obtain⟨_,rfl⟩:=hk;omega
       |inr rcs=>obtain⟨t,_,rfl⟩:=hk;omega
      simp only[hne,Al];exact(q3 k rc hk).mono fun x hx=>BK _ hx
   ·cases hm
  ·cases hm
 | [],_::_,_,_,_,hm,_,_=>by simp[pi]at hm
 |_::_,[],_,_,_,hm,_,_=>by simp[pi]at hm
theorem ac0(h:St C σ mu a w){svs:List SV}{rv:RV}{us:List (Nat×Nat)}{p:Prop}(hm:wP σ svs rv=some (us,p))(hp:p)(hM:∀i o ob,(i,o)∈us->σ.H o=some (some ob)->∀b∈(mu o).blocks,Nw b)(hn:(us.map (·.2)).Nodup)
  {vs:List Value}(hl:vs.length=svs.length)(hvs:∀(i:Nat) (sv:SV),svs[i]?=some sv->∃v,vs[i]?=some v/\av C.P (σ.env C.wF mu) sv v) :
  ∃img,RetRep Nw w C.wF img rv (lX vs):=by
 have key:∃img,vS Nw w C.wF img rv (lX vs)/\∀k rc,(k,rc)∈dj rv->kL σ mu us k (img k):=by
  unfold wP at hm;split at hm
  ·split at hm
   ·rename_i c
    obtain⟨v,h1,h2⟩:=hvs 0 _ rfl;obtain⟨m,h3,h4⟩:=Ij hm hp h hM h2;match vs,hl,h1 with
    | [v'],_,h1 =>
     cases h1;exact⟨fun _=>m,h3,fun k rc hk=>by simp[dj]at hk;rw[hk.1];exact h4⟩
   ·cases hm
  ·split at hm
   ·rename_i cs
    obtain⟨v,h1,h2⟩:=hvs 0 _ rfl;obtain⟨arr,h3,h4⟩:=h2;obtain⟨hl',hr⟩:=Ik h hm hp hM;obtain⟨img,himg⟩:=hr arr h4;match vs,hl,h1 with
    | [v'],_,h1 =>
     cases h1;refine⟨img,⟨arr,h3,by rw[h4.1,hl'],fun j x hx=>?_⟩,fun k rc hk=>?_⟩
     ·obtain⟨u,q1,q2,_⟩:=himg j x hx
      exact⟨u,q1,q2⟩
     ·obtain⟨j,q1,rfl⟩:=qG.1 hk
      obtain⟨u,_,_,q3⟩:=himg j rc q1;exact q3
   ·cases hm
  ·split at hm
   ·cases hm
   ·rename_i l svs hns
    obtain⟨hl',hr⟩:=QN h hm hp hM;obtain⟨img,himg⟩:=hr vs hl hvs;have hv:lX vs=Value.tuple vs.toArray:=by
     cases vs with
     |nil=>rfl
     |cons x vs =>
      cases vs with
      |nil =>
       exfalso
       simp only[AS,Bn]at hl;obtain⟨y,hy⟩:=List.length_eq_one_iff.1 hl.symm;exact hns y hy
      |cons y l=>rfl
    rw[hv];refine⟨img,⟨vs.toArray,rfl,by simp[hl,hl'],fun j x hx=>?_⟩,fun k rc hk=>?_⟩
    ·obtain⟨⟨u,q1,q2⟩,_⟩:=himg j x hx
     rw[AJ]at q2;exact⟨u,by simpa using q1,q2⟩
    ·obtain⟨j,x,q1,q2⟩:=o9.1 hk
     exact(himg j x q1).2 k rc q2
  ·cases hm
 obtain⟨img,h1,h2⟩:=key;refine⟨img,h1,fun i j x y hi hj hne _ _ b hb hb'=>?_,fun q u hq i x hi _ hb=>by
  obtain⟨o,ob,q1,q2,q3⟩:=h2 i x hi _ hb;exact(h.cells q u hq).1 o ob q2 q3⟩
 obtain⟨o,ob,q1,q2,q3⟩:=h2 i x hi b hb;obtain⟨o',ob',r1,r2,r3⟩:=h2 j y hj b hb';by_cases ho:o=o'
 ·subst ho
  obtain⟨s,hs⟩:=Ah q1;obtain⟨t,ht⟩:=Ah r1;have h3:(us.map (·.2))[s]?=some o:=by simp[hs]
  have h4:(us.map (·.2))[t]?=some o:=by simp[ht]
  have:s=t:=(DF (AN.1 h3).1 hn).1 (h3.trans h4.symm)
  subst this;rw[hs]at ht;cases ht;exact hne rfl
 ·exact h.sep o o' ob ob' ho q2 r2 b q3 r3
end
end Go.Sx
end
section
namespace Go.Sx
open Go.RowKit
theorem QO:∀{mt:List (Nat×Nat)} {i j x:Nat},mt[x]?=some (i,j)->∃y,bT mt i j=some y
 | [],_,_,_,h=>by simp at h
 |(a,b)::l,i,j,x,h=>by
  simp only[bT];split
  ·exact⟨0,rfl⟩
  ·rename_i hne
   cases x with
   |zero=>simp at h;exact absurd h hne
   |succ x =>
    obtain⟨y,hy⟩:=QO (mt:=l) (x:=x) (by simpa using h)
    exact⟨y+1,by simp[hy]⟩
theorem jp{mt:List (Nat×Nat)}{x:Nat}{i j:Nat}(h:mt[x]?=some (i,j)):(dW mt)[x]?=some (cI i j):=by simp[dW,h]
theorem wS{mt:List (Nat×Nat)}(hn:(dW mt).Nodup){x y o:Nat}(hx:(dW mt)[x]?=some o)(hy:(dW mt)[y]?=some o):x=y :=
 (DF (AN.1 hx).1 hn).1 (hx.trans hy.symm)
theorem Il{mt:List (Nat×Nat)}(hn:(dW mt).Nodup){x i j:Nat}(h:mt[x]?=some (i,j)):bT mt i j=some x:=by
 obtain⟨y,hy⟩:=QO h;rw[hy,wS hn (jp (jk hy)) (jp h)]
theorem rn{ds:List AD}:∀{mt:List (Nat×Nat)} {wrs:List RC} {hp:List (Nat×Option Ob)},jS ds mt wrs=some hp->∀o x,lk hp o=some x ->
  ∃(k i j:Nat) (ob:Ob) (rc:RC),mt[k]?=some (i,j)/\o=cI i j/\wrs[k]?=some rc/\nu ds i j rc=some ob/\x=some ob
 | [],[],hp,h,o,x,hx=>by simp[jS]at h;subst h;simp[lk]at hx
 |y::mt,rc::wrs,hp,h,o,x,hx=>by
  simp only[jS]at h;split at h
  ·rename_i ob hob
   split at h
   ·rename_i l hl
    cases h;rw[bm]at hx;split at hx
    ·rename_i ho
     cases hx;exact⟨0,y.1,y.2,ob,rc,rfl,ho.symm,rfl,hob,rfl⟩
    ·obtain⟨k,i,j,ob',rc',h1,h2,h3,h4,h5⟩:=rn hl o x hx
     exact⟨k+1,i,j,ob',rc',by simpa using h1,h2,by simpa using h3,h4,h5⟩
   ·cases h
  ·cases h
 | [],_::_,_,h,_,_,_=>by simp[jS]at h
 |_::_,[],_,h,_,_,_=>by simp[jS]at h
theorem ac1{ds:List AD}{i j:Nat}{rc:RC}{ob:Ob}(h:nu ds i j rc=some ob):ob.isFz=false:=by
 unfold nu at h;split at h
 ·split at h
  ·split at h
   ·cases h;rfl
   ·cases h
  ·cases h
 ·split at h
  ·unfold gJ at h
   repeat' split at h
   all_goals first|cases h;done|(cases h;rfl)
  ·cases h
theorem Im{ds:List AD}:∀{mt:List (Nat×Nat)} {wrs:List RC} {hp:List (Nat×Option Ob)},jS ds mt wrs=some hp->∀o∈dW mt,∃ob,lk hp o=some (some ob)
 | [],_,_,_,o,ho=>by simp[dW]at ho
 |y::mt,rc::wrs,hp,h,o,ho=>by
  simp only[jS]at h;split at h
  ·rename_i ob hob
   split at h
   ·rename_i l hl
    cases h;rw[bm];split
    ·exact⟨ob,rfl⟩
    ·rename_i hne
     simp only[dW,Ax,AG]at ho;exact Im hl o (ho.resolve_left (fun hc=>hne hc.symm))
   ·cases h
  ·cases h
 |_::_,[],_,h,_,_=>by simp[jS]at h
theorem QP{o:Nat}:∀{ds:List FC} {j k:Nat} {c:SC},(jR o j ds)[k]?=some c->∃d,ds[k]?=some d/\c=if dn d then di d else .orig o (j+k) d
 | [],j,k,c,h=>by simp[jR]at h
 |d::ds,j,k,c,h=>by
  simp only[jR]at h;cases k with
  |zero=>simp at h;exact⟨d,rfl,by rw[Bc,h]⟩
  |succ k =>
   obtain⟨d',h1,h2⟩:=QP (k:=k) (by simpa using h)
   exact⟨d',by simpa using h1,by rw[h2,show j+1+k=j+(k+1) by omega]⟩
theorem In{o:Nat}:∀{ds:List FC} {j:Nat},(jR o j ds).length=ds.length
 | [],_=>rfl
 |d::ds,j=>by simp[jR,In (ds:=ds)]
theorem ac2{ds:List AD}{i j:Nat}{cs:List FC}(h:nt ds i j=some cs):j=0/\(ds[i]?=some (.box cs)\/∃F s,ds[i]?=some (.fvs F s)/\cs=[.int .i64 s]):=by
 unfold nt at h;split at h
 ·split at h
  ·cases h;exact⟨rfl,.inl (by assumption)⟩
  ·cases h
 ·split at h
  ·cases h;exact⟨rfl,.inr ⟨_,_,by assumption,rfl⟩⟩
  ·cases h
 ·cases h
theorem QQ{mt:List (Nat×Nat)}:∀{ds:List AD} {i t:Nat} {sv:SV},lk (pf mt i ds) t=some sv->∃j d,ds[j]?=some d/\t=i+j/\sv=QH mt t d
 | [],i,t,sv,h=>by simp[pf,lk]at h
 |d::ds,i,t,sv,h=>by
  simp only[pf]at h;rw[bm]at h;split at h
  ·rename_i ht
   cases h;exact⟨0,d,rfl,by omega,by rw[ht]⟩
  ·obtain⟨j,d',h1,h2,h3⟩:=QQ h
   exact⟨j+1,d',by simpa using h1,by omega,h3⟩
theorem QR{mt:List (Nat×Nat)}{i:Nat}:∀{cs:List FC} {s k:Nat} {c:SC},(nr mt i s cs)[k]?=some c->∃d,cs[k]?=some d/\c=qT mt i (s+k) d
 | [],s,k,c,h=>by simp[nr]at h
 |d::cs,s,k,c,h=>by
  simp only[nr]at h;cases k with
  |zero=>simp at h;exact⟨d,rfl,h.symm⟩
  |succ k =>
   obtain⟨d',h1,h2⟩:=QR (k:=k) (by simpa using h)
   exact⟨d',by simpa using h1,by rw[h2];congr 1;omega⟩
theorem QS{mt:List (Nat×Nat)}{i:Nat}:∀{cs:List FC} {s:Nat},(nr mt i s cs).length=cs.length
 | [],_=>rfl
 |_::cs,s=>by simp[nr,QS (cs:=cs)]
theorem ac3{E:Env}{wF w:World}(hk:bL wF E.wF){m:Img}{ob ob0 ob1:Ob}{rc:RC}{d:FC}{q:Prop}(h1:fC ob=some d)(h2:dt ob rc=some (ob1,q))(h3:gJ d rc=some ob0)(h:aO (E0 wF) w m ob) :
  aO E w m ob0/\ob0.shp.ver=0:=by
 unfold dt at h2;split at h2
 ·cases h1
  split at h2
  ·rename_i he
   obtain⟨rfl,rfl⟩:=he;simp only[gJ,AV,AC]at h3;subst h3;exact⟨h,rfl⟩
  ·cases h2
 ·cases h1
  split at h2
  ·rename_i he
   subst he;simp only[gJ,AC]at h3;subst h3;exact⟨h,rfl⟩
  ·cases h2
 ·cases h1
  split at h2
  ·rename_i he
   obtain⟨rfl,rfl,rfl⟩:=he;simp only[gJ,AV,AC]at h3;subst h3;exact⟨h,rfl⟩
  ·cases h2
 ·cases h1
 ·cases h1
  split at h2
  ·rename_i he
   rw[AL]at he;have he:=i7 he.1
   subst he;have h4:∀(es:List TypeId) (x:FC),gJ d (.tr es x)=some ob0->ob0=.tr 0 es d:=fun es x h5=>by
    cases d<;>(simp only[gJ,AC]at h5;exact h5.symm)
   rw[h4 _ _ h3];exact⟨h,rfl⟩
  ·cases h2
 ·obtain⟨rfl,hs⟩:=qy h1
  split at h2
  ·rename_i he
   subst he;obtain⟨q1,vs,q2,q3⟩:=h;have fin:aO E w m (.lst 0 _ d):=⟨q1,vs,q2,fun i u hi=>let⟨r1,fc,r2,r3⟩:=q3 i u hi;⟨r1,fc,r2,r3.mono hk⟩⟩
   cases d<;>simp only[gJ,reduceCtorEq,AC]at h3<;>subst h3<;>exact⟨fin,rfl⟩
  ·cases h2
 ·cases h1
  split at h2
  ·rename_i he
   obtain⟨rfl,rfl⟩:=he;simp only[gJ,AV,AC]at h3;subst h3;exact⟨h,rfl⟩
  ·cases h2
 ·cases h1
  split at h2
  ·rename_i he
   obtain⟨rfl,rfl,rfl⟩:=he;simp only[gJ,AV,AC]at h3;subst h3;exact⟨h,rfl⟩
  ·cases h2
 ·cases h2
theorem QT{E:Env}{m:Img}{o:Nat}(hm:E.mu o=m)(hs:∃s,E.st o=.live s/\s.ver=0):∀{cs:List SC} {ds:List FC} {j:Nat} {p:Prop},kK o j cs ds=some p->p ->
  ds.length=cs.length/\∀(k:Nat) (d:FC),ds[k]?=some d->∃c,cs[k]?=some c/\∀v,ag E c v->lg m (j+k) d v
 | [],ds,j,p,h,_=>by
  cases ds with
  |nil=>exact⟨rfl,fun k d hk=>by simp at hk⟩
  |cons d ds=>simp[kK]at h
 |c::cs,[],j,p,h,_=>by cases c<;>simp[kK]at h
 |c::cs,d::ds,j,p,h,hp=>by
  have fin:∀{q:Prop},kK o (j+1) cs ds=some q->q->(∀v,ag E c v->lg m j d v) ->
    (d::ds).length=(c::cs).length/\∀(k:Nat) (x:FC),(d::ds)[k]?=some x->∃y,(c::cs)[k]?=some y/\∀v,ag E y v->lg m (j+k) x v:=fun {q} hq hq2 h0=>by
   obtain⟨h1,h2⟩:=QT hm hs hq hq2;refine⟨by simp[h1],fun k x hx=>?_⟩
   cases k with
   |zero=>simp at hx;subst hx;exact⟨c,rfl,h0⟩
   |succ k =>
    obtain⟨y,h3,h4⟩:=h2 k x (by simpa using hx)
    exact⟨y,by simpa using h3,fun v hv=>by rw[show j+(k+1)=j+1+k by omega];exact h4 v hv⟩
  unfold kK at h;split at h
  ·rename_i h1 h2;cases h1
  ·rename_i h1 h2
   cases h1;cases h2;split at h
   ·rename_i hk
    subst hk;split at h
    ·rename_i q hq
     cases h;exact fin hq hp.2 fun v hv=>by rw[<-hp.1];exact hv
    ·cases h
   ·cases h
  ·rename_i h1 h2
   cases h1;cases h2;split at h
   ·rename_i q hq
    cases h;exact fin hq hp.2 fun v hv=>by rw[<-hp.1];exact hv
   ·cases h
  ·rename_i h1 h2
   cases h1;cases h2;split at h
   ·rename_i hoj
    split at h
    ·rename_i q0 hq0
     split at h
     ·rename_i hsc
      split at h
      ·rename_i q hq
       cases h;have:=fW hq0 hp.1
       subst this;rw[AL]at hoj;have e1:=AY hoj.1
       have e2:=AY hoj.2
       subst e1;subst e2;refine fin hq hp.2 fun v hv=>?_
       obtain⟨s,k1,k2⟩:=hs;have h5:=hv.2.2
       rw[k1]at h5;have h6:=h5 k2
       rw[hm]at h6;unfold lg;split
       ·cases hsc
       ·cases hsc
       ·cases hsc
       ·exact h6
      ·cases h
     ·cases h
    ·cases h
   ·cases h
  ·cases h
theorem ac4{o:Nat}{obf:Ob}{rc:RC}{p:Prop}(h:ia o obf rc=some p):obf.shp.ver=0:=by
 cases obf with
 |box cs=>rfl
 |bx cs=>cases h
 |strs e l=>cases h
 |lst ver e d=>cases h
 |frz d=>cases h
 |mp l=>cases h
 |qu e k l=>cases h
 |rowsH ver e ei k l hs=>cases h
 |ints e k l=>rfl
 |bools e l=>rfl
 |rows ver e ei k l =>
  cases rc<;>simp only[ia,reduceCtorEq]at h
  split at h
  ·rename_i he;exact he.1
  ·cases h
 |yd yv Y pre g=>cases h
 |trk ver es d n=>cases h
 |tr ver es d =>
  cases rc<;>simp only[ia,reduceCtorEq]at h
  split at h
  ·rename_i he
   rw[AL]at he;exact AY he.1
  ·cases h
theorem ac5{o:Nat}{obf:Ob}{rc:RC}{p:Prop}(h:ia o obf rc=some p):obf.isFz=false:=by cases obf<;>first|rfl|cases h
theorem ac6{E:Env}{w w0:World}{m:Img}{o:Nat}{ob ob1 obf:Ob}{rc:RC}{q p:Prop}(h2:dt ob rc=some (ob1,q))(h3:ia o obf rc=some p)(hp:p)(h:aO E w m obf)
  (hm:E.mu o=m)(hs:E.st o=.live obf.shp):aO (E0 w0) w m ob1:=by
 cases obf with
 |bx cs=>cases h3
 |strs e l=>cases h3
 |lst ver e d=>cases h3
 |frz d=>cases h3
 |mp l=>cases h3
 |qu e k l=>cases h3
 |rowsH ver e ei k l hs=>cases h3
 |yd yv Y pre g=>cases h3
 |trk ver es d n=>cases h3
 |tr ver es d =>
  cases rc<;>simp only[ia,reduceCtorEq]at h3
  rename_i es' d';split at h3
  ·rename_i he
   rw[AL]at he;have he2:=i7 he.2
   subst he2;have:=fW h3 hp
   subst this;cases ob<;>simp only[dt,reduceCtorEq]at h2
   split at h2
   ·rename_i he3
    rw[AL]at he3;have he3:=i7 he3.1
    subst he3;cases h2;exact h
   ·cases h2
  ·cases h3
 |box cs =>
  cases rc<;>simp only[ia,wO,reduceCtorEq]at h3
  rename_i ds;obtain⟨q1,q2⟩:=QT hm ⟨_,hs,rfl⟩ h3 hp;obtain⟨b,arr,t,k1,k2,k3,k4,k5⟩:=h;have hob:ob1=.bx ds:=by
   cases ob<;>simp only[dt,reduceCtorEq]at h2
   split at h2
   ·cases h2;rfl
   ·cases h2
  subst hob;refine⟨b,arr,t,k1,k2,k3,by rw[k4,q1],fun j d hj=>?_⟩
  obtain⟨c,r1,r2⟩:=q2 j d hj;obtain⟨u,r3,r4,r5⟩:=k5 j c r1;have r6:=r2 u r5
  rw[AJ]at r6;exact⟨u,r3,r4,r6⟩
 |ints e k l =>
  cases rc<;>simp only[ia,reduceCtorEq]at h3
  split at h3
  ·rename_i he
   obtain⟨rfl,rfl⟩:=he;cases h3;subst hp;cases ob<;>simp only[dt,reduceCtorEq]at h2
   split at h2
   ·rename_i he
    obtain⟨rfl,rfl⟩:=he;cases h2;exact h
   ·cases h2
  ·cases h3
 |bools e l =>
  cases rc<;>simp only[ia,reduceCtorEq]at h3
  split at h3
  ·rename_i he
   subst he;cases h3;subst hp;cases ob<;>simp only[dt,reduceCtorEq]at h2
   split at h2
   ·rename_i he
    subst he;cases h2;exact h
   ·cases h2
  ·cases h3
 |rows ver e ei k l =>
  cases rc<;>simp only[ia,reduceCtorEq]at h3
  split at h3
  ·rename_i he
   obtain⟨rfl,rfl,rfl,rfl⟩:=he;cases h3;subst hp;cases ob<;>simp only[dt,reduceCtorEq]at h2
   split at h2
   ·rename_i he
    obtain⟨rfl,rfl,rfl⟩:=he;cases h2;exact h
   ·cases h2
  ·cases h3
section
variable {σ:State}
theorem QU{c:SC}{rc:RC}:dG σ (wQ σ c rc):=by
 unfold wQ;split
 ·exact pc
 ·exact pc
 ·exact pc
 ·exact Qv
 ·exact .nil
theorem QV:∀{cs:List SC} {rcs:List RC},dG σ (Id σ cs rcs)
 | [],_=>.nil
 |_::_,[]=>.nil
 |_::_,_::_=>dG.app QU QV
theorem Io{sv:SV}{x:RC ⊕ List RC}:dG σ (re σ sv x):=by
 unfold re;split
 ·split
  ·exact QU
  ·exact .nil
 ·split
  ·exact QV
  ·exact .nil
theorem QW:∀{svs:List SV} {l:List (RC ⊕ List RC)},dG σ (Ie σ svs l)
 | [],_=>.nil
 |_::_,[]=>.nil
 |_::_,_::_=>dG.app Io QW
theorem ac7{svs:List SV}{rv:RV}:dG σ (If σ svs rv):=by
 unfold If;split
 ·split
  ·exact Io
  ·exact .nil
 ·split
  ·exact Io
  ·exact .nil
 ·exact QW
 ·exact .nil
end
theorem QX{o:Nat}:∀{l:List Nat},cA o l=false->o∈l
 | [],h=>by cases h
 |x::l,h=>by
  simp only[cA]at h;split at h
  ·rename_i hx;rw[AY hx];exact AX ..
  ·exact AO _ (QX h)
theorem QY:∀{mt:List (Nat×Nat)} {wrs:List RC} {x i j:Nat} {rc:RC},mt[x]?=some (i,j)->wrs[x]?=some rc->rc.isGone=false->∃y:Nat,(eo mt wrs)[y]?=some (cI i j)/\(lW wrs)[y]?=some rc
 | [],_,x,i,j,rc,h,_,_=>by simp at h
 |_::_,[],x,i,j,rc,_,h,_=>by simp at h
 |(i0,j0)::mt,rc0::wrs,x,i,j,rc,h1,h2,h3=>by
  cases x with
  |zero =>
   simp at h1 h2
   obtain⟨rfl,rfl⟩:=h1;subst h2;exact⟨0,by simp[eo,h3],by simp[lW,h3]⟩
  |succ x =>
   obtain⟨y,h4,h5⟩:=QY (mt:=mt) (wrs:=wrs) (by simpa using h1) (by simpa using h2) h3
   cases hg:rc0.isGone with
   |true=>exact⟨y,by simpa[eo,hg]using h4,by simpa[lW,hg]using h5⟩
   |false=>exact⟨y+1,by simpa[eo,hg]using h4,by simpa[lW,hg]using h5⟩
theorem QZ{σ:State}:∀{os:List Nat} {rcs:List RC} {p:Prop},nz σ os rcs=some p->p->∀(x o:Nat) (rc:RC),os[x]?=some o->rcs[x]?=some rc ->
  ∃ob q,σ.H o=some (some ob)/\ia o ob rc=some q/\q
 | [],[],_,_,_,x,o,rc,h,_=>by simp at h
 |o::os,rc::rcs,p,hm,hp,x,o',rc',h1,h2=>by
  simp only[nz]at hm;split at hm
  ·rename_i ob ho
   split at hm
   ·rename_i q hq
    split at hm
    ·rename_i q' hq'
     cases hm;cases x with
     |zero=>simp at h1 h2;subst h1;subst h2;exact⟨ob,q,ho,hq,hp.1⟩
     |succ x=>exact QZ hq' hp.2 x o' rc' (by simpa using h1) (by simpa using h2)
    ·cases hm
   ·cases hm
  ·cases hm
 | [],_::_,_,h,_,_,_,_,_,_=>by simp[nz]at h
 |_::_,[],_,h,_,_,_,_,_,_=>by simp[nz]at h
end Go.Sx
end
