/- SxW -/
import Derived.Test.YtkmldclpaniclaaGreatSxU
set_option linter.unusedSimpArgs false
set_option linter.unusedVariables false
set_option linter.defProp false
section
namespace Go.Sx
open Go.RowKit
section
variable {Nw:Nat->Prop} {C:Cx} {σ:State} {mu:Nat->Img} {a:Act} {w:World}
def lg(σ:State)(mu:Nat->Img)(us:List (Nat×Nat))(i:Nat)(m:Img):Prop :=
 ∀b∈m.blocks,∃o ob,(i,o)∈us/\σ.H o=some (some ob)/\b∈(mu o).blocks
theorem lg.mono{us us':List (Nat×Nat)}{i:Nat}{m:Img}(h:lg σ mu us i m)(hs:∀x∈us,x∈us'):lg σ mu us' i m:=fun b hb=>by
 obtain⟨o,ob,h1,h2,h3⟩:=h b hb;exact⟨o,ob,hs _ h1,h2,h3⟩
theorem lh{us:List (Nat×Nat)}{i:Nat}{v:Value}(hv:ac v=none):lg σ mu us i ⟨v,[]⟩:=fun b hb=>by simp[Img.blocks,hv]at hb
theorem Q4:∀{cs:List SC} {ds:List FC} {p:Prop},ld cs ds=some p->p->ds.length=cs.length/\∀(j:Nat) (d:FC),ds[j]?=some d->∃c,cs[j]?=some c/\∀(E E':Env) (v:Value),E'.wF=E.wF->ai E c v->ai E' (dm d) v
 | [],ds,p,h,_=>by
  cases ds with
  |nil=>exact⟨rfl,fun j d hj=>by simp at hj⟩
  |cons d ds=>simp[ld]at h
 |c::cs,[],p,h,_=>by cases c<;>simp[ld]at h
 |c::cs,d::ds,p,h,hp=>by
  have fin:∀{q:Prop},ld cs ds=some q->q->(∀(E E':Env) (v:Value),E'.wF=E.wF->ai E c v->ai E' (dm d) v) ->
    (d::ds).length=(c::cs).length/\∀(j:Nat) (x:FC),(d::ds)[j]?=some x->∃y,(c::cs)[j]?=some y/\∀(E E':Env) (v:Value),E'.wF=E.wF->ai E y v->ai E' (dm x) v:=fun {q} hq hq2 h0=>by
   obtain⟨h1,h2⟩:=Q4 hq hq2;refine⟨by simp[h1],fun j x hx=>?_⟩
   cases j with
   |zero=>simp at hx;subst hx;exact⟨c,rfl,h0⟩
   |succ j=>simpa using h2 j x (by simpa using hx)
  unfold ld at h;split at h
  ·rename_i h1 h2;cases h1
  ·rename_i h1 h2
   cases h1;cases h2;split at h
   ·rename_i hk
    subst hk;split at h
    ·rename_i q hq
     cases h;exact fin hq hp.2 fun E E' v _ hv=>by rw[<-hp.1];exact hv
    ·cases h
   ·cases h
  ·rename_i h1 h2
   cases h1;cases h2;split at h
   ·rename_i q hq
    cases h;exact fin hq hp.2 fun E E' v _ hv=>by rw[<-hp.1];exact hv
   ·cases h
  ·rename_i h1 h2
   cases h1;cases h2;split at h
   ·rename_i q0 hq0
    split at h
    ·rename_i q hq
     cases h;have:=fU hq0 hp.1
     subst this;exact fin hq hp.2 fun E E' v he hv=>(jY (E:=E') (by rw[he];exact hv.2)).1
    ·cases h
   ·cases h
  ·cases h
theorem IV{ob:Ob}{cut:FC->Option FC}{d':FC}{us:List (Nat×Nat)}{p:Prop}(h:rL ob cut d'=some (us,p))(hp:p):∃d,ob=.frz d/\cut d=some d'/\us=[]:=by
 unfold rL at h;split at h
 ·split at h
  ·rename_i d0 h0
   split at h
   ·rename_i p' hp'
    cases h;have:=fU hp' hp
    subst this;exact⟨_,rfl,h0,rfl⟩
   ·cases h
  ·cases h
 ·cases h
theorem IW{rc:RC}{d:FC}(h:rK rc=some d):rc=.ro d:=by
 unfold rK at h;split at h
 ·cases h;rfl
 ·cases h
theorem IX{i:Nat}{c:SC}{rc:RC}{us:List (Nat×Nat)}{p:Prop}(hm:rN σ i c rc=some (us,p))(hp:p)(h:St C σ mu a w)(hM:∀i o ob,(i,o)∈us->σ.H o=some (some ob)->∀b∈(mu o).blocks,Nw b){u:Value}
  (hu:ai (σ.env C.wF mu) c u):∃m,io Nw w C.wF m rc u/\lg σ mu us i m:=by
 unfold rN at hm;split at hm
 ·split at hm
  ·split at hm
   ·rename_i hk
    cases hm;subst hk;subst hp;exact⟨⟨undef,[]⟩,hu,lh rfl⟩
   ·cases hm
  ·cases hm
 ·split at hm
  ·cases hm;subst hp
   exact⟨⟨undef,[]⟩,hu,lh rfl⟩
  ·cases hm
 ·split at hm
  ·cases hm;subst hp
   exact⟨⟨undef,[]⟩,hu,lh rfl⟩
  ·cases hm
 ·have hu':u=.slice none 0 0:=hu
  subst hu';unfold Q3 at hm;split at hm
  all_goals first
   | (rename_i es d
      split at hm
      ·rename_i hc
       cases hm;rw[AG]at hc;have hes:=AX hc.1
       have hT:br w es (bu (.slice none 0 0) []) d:=HE hes.symm hp fun h0=>by
        have h2:=hc.2
        cases d<;>first|exact⟨_,_,rfl⟩|(simp[FC.dep]at h0;done)|(simp[Q2]at h2;done)
       have hB:=(ef hT).trans (HF _)
       exact⟨dw es.length (bu (.slice none 0 0) []),⟨rfl,⟨_,rfl,hT⟩,by rw[hB];simp,by rw[hB];simp⟩,fun b hb=>by rw[hB]at hb;simp at hb⟩
      ·cases hm
       done)
   |skip
  all_goals refine⟨⟨.slice none 0 0,[]⟩,?_,lh rfl⟩
  all_goals first
   |(cases hm;obtain⟨⟨rfl,rfl⟩,rfl⟩:=hp;exact⟨.inl ⟨rfl,rfl,rfl,rfl⟩,AE _,⟨⟨by simp,.inl ⟨rfl,rfl⟩⟩,rfl,by simp⟩,by simp[Img.blocks,ac],by simp[Img.blocks,ac]⟩)
   |(cases hm;subst hp;exact⟨rfl,⟨rfl,by simp,.inl ⟨rfl,rfl⟩⟩,by simp[Img.blocks,ac],by simp[Img.blocks,ac]⟩)
   |(cases hm;subst hp;exact⟨rfl,⟨⟨by simp,.inl ⟨rfl,rfl⟩⟩,rfl,by simp⟩,by simp[Img.blocks,ac],by simp[Img.blocks,ac]⟩)
   |(cases hm;subst hp;exact⟨_,_,_,rfl,rfl⟩)
   | (split at hm
      ·cases hm
      ·rename_i hs
       cases hm;exact⟨⟨_,_,_,rfl,AE _⟩,QK hs hp _⟩)
   | (split at hm
      ·cases hm
      ·rename_i hs
       cases hm;have hp:_=_:=hp
       exact⟨rfl,⟨rfl,[],by rw[hp];exact World.ownsRow_nil _ _ _ _,fun i u hi=>by simp at hi⟩,by simp[Img.blocks,ac],by simp[Img.blocks,ac]⟩)
   |cases hm
 ·rename_i o
  split at hm
  ·rename_i ob ho
   split at hm
   ·rename_i d' hro
    obtain⟨d,rfl,h2,rfl⟩:=IV hm hp;cases h2;have:=IW hro
    subst this;have h3:=hu.2
    have e:(σ.env C.wF mu).st o=.frz _:=fD ho
    rw[e]at h3;exact⟨⟨undef,[]⟩,h3,lh rfl⟩
   have hnf:ob.isFz=false:=by
    cases ob with
    |frz d=>cases hq:rM rc<;>simp[hq,Ob.len?,rI]at hm
    |mp l=>cases hq:rM rc<;>simp[hq,Ob.len?,rI]at hm
    |qu e k l=>cases hq:rM rc<;>simp[hq,Ob.len?,rI]at hm
    |rowsH ver e ei k l hs=>rfl
    |_=>rfl
   have hu':u=(mu o).hd:=aP ho hu
   subst hu';have hnd:=h.nd o ob ho
   have χ:=h.ob o ob ho
   split at hm
   ·rename_i b hb
    split at hm
    ·rename_i n hn
     cases hm;obtain⟨hp1,hp2⟩:=hp;subst hp1;have hrc:rc=.nilq false:=by
      unfold rM at hb;split at hb
      ·cases hb;rfl
      ·cases hb
     subst hrc;obtain⟨hv,_⟩:=qM hn χ;refine⟨⟨undef,[]⟩,?_,lh rfl⟩
     rcases hv with⟨_,_,_,h0⟩|⟨g,len,cap,ao,h1,h2,_⟩
     ·exact absurd h0 hp2
     ·exact⟨_,_,_,h2,rfl⟩
    ·cases hm
   refine⟨mu o,?_⟩
   unfold rI at hm;split at hm
   ·split at hm
    ·split at hm
     ·rename_i he
      obtain⟨rfl,rfl⟩:=he;cases hm;subst hp;exact⟨⟨rfl,χ.env,hnd.1,fun b hb=>hM i o _ (by simp) ho b hb⟩,fun b hb=>⟨o,_,by simp,ho,hb⟩⟩
     ·cases hm
    ·cases hm
   ·split at hm
    ·split at hm
     ·rename_i he
      subst he;cases hm;subst hp;exact⟨⟨rfl,χ.env,hnd.1,fun b hb=>hM i o _ (by simp) ho b hb⟩,fun b hb=>⟨o,_,by simp,ho,hb⟩⟩
     ·cases hm
    ·cases hm
   ·split at hm
    ·split at hm
     ·rename_i he
      obtain⟨rfl,rfl,rfl⟩:=he;cases hm;subst hp;exact⟨⟨rfl,χ.env.ver,hnd.1,fun b hb=>hM i o _ (by simp) ho b hb⟩,fun b hb=>⟨o,_,by simp,ho,hb⟩⟩
     ·cases hm
    ·split at hm
     ·rename_i he
      obtain⟨rfl,rfl,rfl⟩:=he;cases hm;obtain⟨rfl,rfl,rfl⟩:=hp;exact⟨⟨cL χ.1,by omega,χ.env.ver,hnd.1,fun b hb=>hM i o _ (by simp) ho b hb⟩,fun b hb=>⟨o,_,by simp,ho,hb⟩⟩
     ·cases hm
    ·cases hm
   ·split at hm
    ·split at hm
     ·rename_i he
      subst he;cases hm;subst hp;exact⟨⟨rfl,χ.env,hnd.1,fun b hb=>hM i o _ (by simp) ho b hb⟩,fun b hb=>⟨o,_,by simp,ho,hb⟩⟩
     ·cases hm
    ·cases hm
   ·split at hm
    ·split at hm
     ·rename_i he
      subst he;split at hm
      ·rename_i hd
       cases hm;have:=fU hd hp
       subst this;exact⟨⟨rfl,χ,hnd.1,fun b hb=>hM i o _ (by simp) ho b hb⟩,fun b hb=>⟨o,_,by simp,ho,hb⟩⟩
      ·cases hm
     ·cases hm
    ·cases hm
   ·cases hm
   ·cases hm
   ·cases hm
   ·cases hm
   ·cases hm
   ·cases hm
   ·cases hm
   ·cases hm
   ·split at hm
    ·split at hm
     ·rename_i he
      have he:=jk he
      subst he;split at hm
      ·rename_i hd
       cases hm;have:=fU hd hp
       subst this;exact⟨⟨rfl,χ,hnd.1,fun b hb=>hM i o _ (by simp) ho b hb⟩,fun b hb=>⟨o,_,by simp,ho,hb⟩⟩
      ·cases hm
     ·cases hm
    ·cases hm
  ·cases hm
 ·rename_i o n
  split at hm
  ·rename_i ob ho
   split at hm
   ·rename_i d' hro
    obtain⟨d,rfl,h2,rfl⟩:=IV hm hp;have:=IW hro
    subst this;have h3:=hu.2
    have e:(σ.env C.wF mu).st o=.frz d:=fD ho
    rw[e]at h3;obtain⟨d'',h4,h5⟩:=h3;rw[h2]at h4;cases h4;exact⟨⟨undef,[]⟩,h5,lh rfl⟩
   have hnf:ob.isFz=false:=by
    cases ob with
    |frz d=>simp[rJ]at hm
    |mp l=>simp[rJ]at hm
    |qu e k l=>simp[rJ]at hm
    |rowsH ver e ei k l hs=>rfl
    |_=>rfl
   obtain⟨hle,hview⟩:=aP ho hu;have hnd:=h.nd o ob ho
   have χ:=h.ob o ob ho
   have hbl:∀b∈(⟨u,[]⟩:Img).blocks,b∈(mu o).blocks:=fun b hb=>by
    simp only[Img.blocks,HK hview,Ax,Af]at hb⊢;exact BF _ hb
   have hndu:(⟨u,[]⟩:Img).blocks.Nodup:=by
    simp only[Img.blocks,Ax,Af];cases ac u<;>simp
   unfold rJ at hm;split at hm
   ·split at hm
    ·split at hm
     ·rename_i l _ _ _ _ _ he
      obtain⟨rfl,rfl⟩:=he;cases hm;subst hp;have hle':n<=l.length:=hle
      have:=HJ χ.2 hview hle'
      rw[<-B5]at this;refine⟨⟨u,[]⟩,⟨rfl,⟨rfl,?_⟩,hndu,fun b hb=>hM i o _ (by simp) ho b (hbl b hb)⟩,fun b hb=>⟨o,_,by simp,ho,hbl b hb⟩⟩
      rw[AS,CD hle'];exact this
     ·cases hm
    ·cases hm
   ·split at hm
    ·split at hm
     ·rename_i l _ _ _ _ he
      subst he;cases hm;subst hp;have hle':n<=l.length:=hle
      have:=HJ χ.2 hview hle'
      rw[<-B5]at this;refine⟨⟨u,[]⟩,⟨rfl,⟨rfl,?_⟩,hndu,fun b hb=>hM i o _ (by simp) ho b (hbl b hb)⟩,fun b hb=>⟨o,_,by simp,ho,hbl b hb⟩⟩
      rw[AS,CD hle'];exact this
     ·cases hm
    ·cases hm
   ·split at hm
    ·split at hm
     ·rename_i he
      obtain⟨rfl,rfl,rfl⟩:=he;cases hm;obtain⟨rfl,rfl,rfl⟩:=hp;exact⟨mu o,⟨hview,An (Nat.le_of_eq (AK n)) hle,χ.env.ver,hnd.1,fun b hb=>hM i o _ (by simp) ho b hb⟩,fun b hb=>⟨o,_,by simp,ho,hb⟩⟩
     ·cases hm
    ·cases hm
   ·cases hm
  ·cases hm
 ·rename_i o off n
  split at hm
  ·rename_i ob ho
   split at hm
   ·rename_i d' hro
    obtain⟨d,rfl,h2,rfl⟩:=IV hm hp;have:=IW hro
    subst this;have h3:=hu.2
    have e:(σ.env C.wF mu).st o=.frz d:=fD ho
    rw[e]at h3;obtain⟨d'',h4,h5⟩:=h3;rw[h2]at h4;cases h4;exact⟨⟨undef,[]⟩,h5,lh rfl⟩
   split at hm
   case h_2=>cases hm
   rename_i ver e ei k l;split at hm
   ·split at hm
    ·rename_i he
     obtain⟨rfl,rfl,rfl⟩:=he;cases hm;obtain⟨rfl,rfl,rfl⟩:=hp;obtain⟨hle,hview⟩:=aP ho hu;have hnd:=h.nd o _ ho
     have χ:=h.ob o _ ho
     refine⟨mu o,⟨hview,hle,χ.env.ver,hnd.1,fun b hb=>hM i o _ (by simp) ho b hb⟩,fun b hb=>⟨o,_,by simp,ho,hb⟩⟩
    ·cases hm
   ·cases hm
  ·cases hm
 ·rename_i o x
  split at hm
  ·split at hm
   ·rename_i cs ho
    split at hm
    ·rename_i ds hds
     split at hm
     ·rename_i p' hp'
      cases hm;have hrc:rc=.bx ds:=by
       unfold xX at hds;split at hds
       ·cases hds;rfl
       ·cases hds
      subst hrc;obtain⟨b,arr,t,k1,k2,k3,k4,k5⟩:=h.ob o _ ho;obtain⟨q1,q2⟩:=Q4 hp' hp.2;obtain⟨_,b',hb',hu'⟩:=aP ho hu;have hb':ac (mu o).hd=some b':=hb'
      have hbb:b'=b:=by rw[k1]at hb';simpa[ac]using hb'.symm
      have hbl:∀c∈(⟨(mu o).hd,[]⟩:Img).blocks,c∈(mu o).blocks:=fun c hc=>by
       simp only[Img.blocks,Ax,Af,BK]at hc;exact cD hc
      refine⟨⟨(mu o).hd,[]⟩,⟨by rw[hu',hbb,k1],⟨b,arr,t,k1,by simp,k3,by rw[k4,Ae,q1],fun j c hj=>?_⟩,?_,fun c hc=>hM i o _ (by simp) ho c (hbl c hc),hp.1⟩,fun c hc=>⟨o,_,by simp,ho,hbl c hc⟩⟩
      ·rw[Aj]at hj
       cases hd:ds[j]? with
       |none=>rw[hd]at hj;cases hj
       |some d =>
        rw[hd]at hj;simp at hj
        subst hj;obtain⟨c,r1,r2⟩:=q2 j d hd;obtain⟨y,r3,r4,r5⟩:=k5 j c r1;exact⟨y,r3,r4,r2 (σ.env C.wF mu) _ y rfl r5⟩
      ·simp only[Img.blocks,Ax,Af]
       cases ac (mu o).hd<;>simp
     ·cases hm
    ·cases hm
   ·cases hm
  ·cases hm
 ·rename_i d
  split at hm
  ·split at hm
   ·rename_i p' hp'
    cases hm;have:=fU hp' hp
    subst this;exact⟨⟨undef,[]⟩,hu,lh rfl⟩
   ·cases hm
  ·cases hm
 ·cases hm
theorem IY(h:St C σ mu a w):∀{cs:List SC} {rcs:List RC} {i:Nat} {us:List (Nat×Nat)} {p:Prop},nI σ i cs rcs=some (us,p)->p->(∀i o ob,(i,o)∈us->σ.H o=some (some ob)->∀b∈(mu o).blocks,Nw b) ->
  rcs.length=cs.length/\∀arr:Array Value,c9 (σ.env C.wF mu) cs arr->∃img:Nat->Img,∀(j:Nat) (x:RC),rcs[j]?=some x->∃u,arr[j]?=some u/\io Nw w C.wF (img (i+j)) x u/\lg σ mu us (i+j) (img (i+j))
 | [],[],i,us,p,_,_,_=>⟨rfl,fun arr _=>⟨fun _=>⟨undef,[]⟩,fun j x hx=>by simp at hx⟩⟩
 |c::cs,rc::rcs,i,us,p,hm,hp,hM=>by
  simp only[nI]at hm;split at hm
  ·rename_i u1 p1 h1
   split at hm
   ·rename_i u2 p2 h2
    cases hm;have hM1:∀i o ob,(i,o)∈u1->σ.H o=some (some ob)->∀b∈(mu o).blocks,Nw b:=fun i o ob hm=>hM i o ob (BF _ hm)
    have hM2:∀i o ob,(i,o)∈u2->σ.H o=some (some ob)->∀b∈(mu o).blocks,Nw b:=fun i o ob hm=>hM i o ob (BG _ hm)
    obtain⟨hl,hr⟩:=IY h h2 hp.2 hM2;refine⟨by simp[hl],fun arr harr=>?_⟩
    obtain⟨hsz,hcs⟩:=harr;obtain⟨u,hu1,_,hu2⟩:=hcs 0 c rfl;obtain⟨m,hm1,hm2⟩:=IX h1 hp.1 h hM1 hu2;obtain⟨img,himg⟩:=hr arr.toList.tail.toArray ⟨by simp[hsz],fun j c' hj=>by
     obtain⟨u',q1,q2⟩:=hcs (j+1) c' (by simpa using hj)
     refine⟨u',?_,q2⟩
     rw[<-q1];simp[Cj]⟩
    refine⟨fun k=>if k=i then m else img k,fun j x hx=>?_⟩
    cases j with
    |zero =>
     simp only[B7,AC]at hx;subst hx;simp only[Bc,AV];exact⟨u,hu1,hm1,hm2.mono fun x hx=>BF _ hx⟩
    |succ j =>
     simp only[BX]at hx;obtain⟨u',q1,q2,q3⟩:=himg j x hx;rw[show i+1+j=i+(j+1) by omega]at q2 q3
     have hne:¬ i+(j+1)=i:=by omega
     simp only[hne,Ag];refine⟨u',?_,q2,q3.mono fun x hx=>BG _ hx⟩
     rw[<-q1];simp[Cj]
   ·cases hm
  ·cases hm
 | [],_::_,_,_,_,hm,_,_=>by simp[nI]at hm
 |_::_,[],_,_,_,hm,_,_=>by simp[nI]at hm
theorem ak1(h:St C σ mu a w){s:Nat}{sv:SV}{x:RC ⊕ List RC}{us:List (Nat×Nat)}{p:Prop}(hm:pk σ (16*s) sv x=some (us,p))(hp:p)(hM:∀i o ob,(i,o)∈us->σ.H o=some (some ob)->∀b∈(mu o).blocks,Nw b){v:Value}
  (hv:aw C.P (σ.env C.wF mu) sv v):∃img:Nat->Img,qZ Nw w C.wF img (16*s) x v/\∀k rc,xr s k rc x->lg σ mu us k (img k):=by
 unfold pk at hm;split at hm
 ·split at hm
  ·obtain⟨m,h1,h2⟩:=IX hm hp h hM hv
   refine⟨fun _=>m,h1,fun k rc hk=>?_⟩
   obtain⟨_,rfl⟩:=hk;exact h2
  ·cases hm
 ·split at hm
  ·split at hm
   ·rename_i hle
    obtain⟨arr,rfl,harr⟩:=hv;obtain⟨hl,hr⟩:=IY h hm hp hM;obtain⟨img,himg⟩:=hr arr harr;refine⟨img,⟨arr,rfl,by rw[harr.1,hl],fun j y hy=>?_⟩,fun k rc hk=>?_⟩
    ·obtain⟨u,q1,q2,_⟩:=himg j y hy
     exact⟨u,q1,q2⟩
    ·obtain⟨j,hj,rfl⟩:=hk
     obtain⟨u,q1,q2,q3⟩:=himg j rc hj;exact q3
   ·cases hm
  ·cases hm
theorem Q5{s k:Nat}{rc:RC}{sv:SV}{x:RC ⊕ List RC}{us:List (Nat×Nat)}{p:Prop}(hm:pk σ (16*s) sv x=some (us,p))(hk:xr s k rc x):16*s<=k/\k<16*(s+1):=by
 unfold pk at hm;split at hm
 ·obtain⟨_,rfl⟩:=hk
  omega
 ·split at hm
  ·split at hm
   ·obtain⟨j,hj,rfl⟩:=hk
    have:=(AJ.1 hj).1
    omega
   ·cases hm
  ·cases hm
theorem ak2{w0:Nat->Prop}{w wF:World}{img img':Nat->Img}{s:Nat}{sv:SV}{x:RC ⊕ List RC}{us:List (Nat×Nat)}{p:Prop}(hm:pk σ (16*s) sv x=some (us,p)){v:Value}(h:qZ w0 w wF img (16*s) x v)
  (he:∀k,16*s<=k->k<16*(s+1)->img' k=img k):qZ w0 w wF img' (16*s) x v:=by
 cases x with
 |inl rc =>
  show io _ _ _ _ _ _
  rw[he _ (by omega) (by omega)]
  exact h
 |inr rcs =>
  obtain⟨arr,h1,h2,h3⟩:=h;refine⟨arr,h1,h2,fun j y hy=>?_⟩
  obtain⟨u,h4,h5⟩:=h3 j y hy;have ψ:=Q5 (rc:=y) (k:=16*s+j) hm ⟨j,hy,rfl⟩
  rw[he _ ψ.1 ψ.2];exact⟨u,h4,h5⟩
theorem Q6(h:St C σ mu a w):∀{svs:List SV} {l:List (RC ⊕ List RC)} {s:Nat} {us:List (Nat×Nat)} {p:Prop},po σ s svs l=some (us,p)->p->(∀i o ob,(i,o)∈us->σ.H o=some (some ob)->∀b∈(mu o).blocks,Nw b) ->
  l.length=svs.length/\∀vs:List Value,vs.length=svs.length->(∀(i:Nat) (sv:SV),svs[i]?=some sv->∃v,vs[i]?=some v/\aw C.P (σ.env C.wF mu) sv v) ->
   ∃img:Nat->Img,∀(j:Nat) (x:RC ⊕ List RC),l[j]?=some x->(∃u,vs[j]?=some u/\qZ Nw w C.wF img (16*(s+j)) x u)/\∀k rc,xr (s+j) k rc x->lg σ mu us k (img k)
 | [],[],s,us,p,_,_,_=>⟨rfl,fun vs _ _=>⟨fun _=>⟨undef,[]⟩,fun j x hx=>by simp at hx⟩⟩
 |sv::svs,x::l,s,us,p,hm,hp,hM=>by
  simp only[po]at hm;split at hm
  ·rename_i u1 p1 h1
   split at hm
   ·rename_i u2 p2 h2
    cases hm;have hM1:∀i o ob,(i,o)∈u1->σ.H o=some (some ob)->∀b∈(mu o).blocks,Nw b:=fun i o ob hm=>hM i o ob (BF _ hm)
    have hM2:∀i o ob,(i,o)∈u2->σ.H o=some (some ob)->∀b∈(mu o).blocks,Nw b:=fun i o ob hm=>hM i o ob (BG _ hm)
    obtain⟨hl,hr⟩:=Q6 h h2 hp.2 hM2;refine⟨by simp[hl],fun vs hvl hvs=>?_⟩
    obtain⟨v,hv1,hv2⟩:=hvs 0 sv rfl;obtain⟨img1,hi1,hi2⟩:=ak1 h h1 hp.1 hM1 hv2;obtain⟨img2,hj⟩:=hr vs.tail (by simp[hvl]) (fun j sv' hj=>by
     obtain⟨u',q1,q2⟩:=hvs (j+1) sv' (by simpa using hj)
     exact⟨u',by simpa[Cj]using q1,q2⟩)
    refine⟨fun k=>if k<16*(s+1)then img1 k else img2 k,fun j y hy=>?_⟩
    cases j with
    |zero =>
     simp only[B7,AC]at hy;subst hy;refine⟨⟨v,hv1,ak2 h1 hi1 fun k _ hk=>by simp only[hk,AV]⟩,fun k rc hk=>?_⟩
     have:=Q5 h1 hk
     simp only[this.2,AV];exact(hi2 k rc hk).mono fun x hx=>BF _ hx
    |succ j =>
     simp only[BX]at hy;obtain⟨⟨u,q1,q2⟩,q3⟩:=hj j y hy;rw[show s+1+j=s+(j+1) by omega]at q2 q3
     refine⟨⟨u,by simpa[Cj]using q1,?_⟩,fun k rc hk=>?_⟩
     ·cases y with
      |inl rc =>
       have hne:¬ 16*(s+(j+1))<16*(s+1):=by omega
       show io _ _ _ _ _ _
       simp only[hne,Ag];exact q2
      |inr rcs =>
       obtain⟨arr,h1,h2,h3⟩:=q2;refine⟨arr,h1,h2,fun t y hy=>?_⟩
       obtain⟨u,h4,h5⟩:=h3 t y hy;have hne:¬ 16*(s+(j+1))+t<16*(s+1):=by omega
       simp only[hne,Ag];exact⟨u,h4,h5⟩
     ·have hne:¬ k<16*(s+1):=by
       cases y with
       |inl rc=>obtain⟨_,rfl⟩:=hk;omega
       |inr rcs=>obtain⟨t,_,rfl⟩:=hk;omega
      simp only[hne,Ag];exact(q3 k rc hk).mono fun x hx=>BG _ hx
   ·cases hm
  ·cases hm
 | [],_::_,_,_,_,hm,_,_=>by simp[po]at hm
 |_::_,[],_,_,_,hm,_,_=>by simp[po]at hm
theorem ak3(h:St C σ mu a w){svs:List SV}{rv:RV}{us:List (Nat×Nat)}{p:Prop}(hm:xY σ svs rv=some (us,p))(hp:p)(hM:∀i o ob,(i,o)∈us->σ.H o=some (some ob)->∀b∈(mu o).blocks,Nw b)(hn:(us.map (·.2)).Nodup)
  {vs:List Value}(hl:vs.length=svs.length)(hvs:∀(i:Nat) (sv:SV),svs[i]?=some sv->∃v,vs[i]?=some v/\aw C.P (σ.env C.wF mu) sv v) :
  ∃img,RetRep Nw w C.wF img rv (nK vs):=by
 have key:∃img,xm Nw w C.wF img rv (nK vs)/\∀k rc,(k,rc)∈dn rv->lg σ mu us k (img k):=by
  unfold xY at hm;split at hm
  ·split at hm
   ·rename_i c
    obtain⟨v,h1,h2⟩:=hvs 0 _ rfl;obtain⟨m,h3,h4⟩:=IX hm hp h hM h2;match vs,hl,h1 with
    | [v'],_,h1 =>
     cases h1;exact⟨fun _=>m,h3,fun k rc hk=>by simp[dn]at hk;rw[hk.1];exact h4⟩
   ·cases hm
  ·split at hm
   ·rename_i cs
    obtain⟨v,h1,h2⟩:=hvs 0 _ rfl;obtain⟨arr,h3,h4⟩:=h2;obtain⟨hl',hr⟩:=IY h hm hp hM;obtain⟨img,himg⟩:=hr arr h4;match vs,hl,h1 with
    | [v'],_,h1 =>
     cases h1;refine⟨img,⟨arr,h3,by rw[h4.1,hl'],fun j x hx=>?_⟩,fun k rc hk=>?_⟩
     ·obtain⟨u,q1,q2,_⟩:=himg j x hx
      exact⟨u,q1,q2⟩
     ·obtain⟨j,q1,rfl⟩:=rn.1 hk
      obtain⟨u,_,_,q3⟩:=himg j rc q1;exact q3
   ·cases hm
  ·split at hm
   ·cases hm
   ·rename_i l svs hns
    obtain⟨hl',hr⟩:=Q6 h hm hp hM;obtain⟨img,himg⟩:=hr vs hl hvs;have hv:nK vs=Value.tuple vs.toArray:=by
     cases vs with
     |nil=>rfl
     |cons x vs =>
      cases vs with
      |nil =>
       exfalso
       simp only[AR,BV]at hl;obtain⟨y,hy⟩:=List.length_eq_one_iff.1 hl.symm;exact hns y hy
      |cons y l=>rfl
    rw[hv];refine⟨img,⟨vs.toArray,rfl,by simp[hl,hl'],fun j x hx=>?_⟩,fun k rc hk=>?_⟩
    ·obtain⟨⟨u,q1,q2⟩,_⟩:=himg j x hx
     rw[AK]at q2;exact⟨u,by simpa using q1,q2⟩
    ·obtain⟨j,x,q1,q2⟩:=pb.1 hk
     exact(himg j x q1).2 k rc q2
  ·cases hm
 obtain⟨img,h1,h2⟩:=key;refine⟨img,h1,fun i j x y hi hj hne _ _ b hb hb'=>?_,fun q u hq i x hi _ hb=>by
  obtain⟨o,ob,q1,q2,q3⟩:=h2 i x hi _ hb;exact(h.cells q u hq).1 o ob q2 q3⟩
 obtain⟨o,ob,q1,q2,q3⟩:=h2 i x hi b hb;obtain⟨o',ob',r1,r2,r3⟩:=h2 j y hj b hb';by_cases ho:o=o'
 ·subst ho
  obtain⟨s,hs⟩:=Ah q1;obtain⟨t,ht⟩:=Ah r1;have h3:(us.map (·.2))[s]?=some o:=by simp[hs]
  have h4:(us.map (·.2))[t]?=some o:=by simp[ht]
  have:s=t:=(Cg (AJ.1 h3).1 hn).1 (h3.trans h4.symm)
  subst this;rw[hs]at ht;cases ht;exact hne rfl
 ·exact h.sep o o' ob ob' ho q2 r2 b q3 r3
end
end Go.Sx
end
section
namespace Go.Sx
open Go.RowKit
theorem Q7:∀{mt:List (Nat×Nat)} {i j x:Nat},mt[x]?=some (i,j)->∃y,bY mt i j=some y
 | [],_,_,_,h=>by simp at h
 |(a,b)::l,i,j,x,h=>by
  simp only[bY];split
  ·exact⟨0,rfl⟩
  ·rename_i hne
   cases x with
   |zero=>simp at h;exact absurd h hne
   |succ x =>
    obtain⟨y,hy⟩:=Q7 (mt:=l) (x:=x) (by simpa using h)
    exact⟨y+1,by simp[hy]⟩
theorem jB{mt:List (Nat×Nat)}{x:Nat}{i j:Nat}(h:mt[x]?=some (i,j)):(dZ mt)[x]?=some (cM i j):=by simp[dZ,h]
theorem yb{mt:List (Nat×Nat)}(hn:(dZ mt).Nodup){x y o:Nat}(hx:(dZ mt)[x]?=some o)(hy:(dZ mt)[y]?=some o):x=y :=
 (Cg (AJ.1 hx).1 hn).1 (hx.trans hy.symm)
theorem IZ{mt:List (Nat×Nat)}(hn:(dZ mt).Nodup){x i j:Nat}(h:mt[x]?=some (i,j)):bY mt i j=some x:=by
 obtain⟨y,hy⟩:=Q7 h;rw[hy,yb hn (jB (jw hy)) (jB h)]
theorem rQ{ds:List AD}:∀{mt:List (Nat×Nat)} {wrs:List RC} {hp:List (Nat×Option Ob)},kp ds mt wrs=some hp->∀o x,lk hp o=some x ->
  ∃(k i j:Nat) (ob:Ob) (rc:RC),mt[k]?=some (i,j)/\o=cM i j/\wrs[k]?=some rc/\nH ds i j rc=some ob/\x=some ob
 | [],[],hp,h,o,x,hx=>by simp[kp]at h;subst h;simp[lk]at hx
 |y::mt,rc::wrs,hp,h,o,x,hx=>by
  simp only[kp]at h;split at h
  ·rename_i ob hob
   split at h
   ·rename_i l hl
    cases h;rw[bt]at hx;split at hx
    ·rename_i ho
     cases hx;exact⟨0,y.1,y.2,ob,rc,rfl,ho.symm,rfl,hob,rfl⟩
    ·obtain⟨k,i,j,ob',rc',h1,h2,h3,h4,h5⟩:=rQ hl o x hx
     exact⟨k+1,i,j,ob',rc',by simpa using h1,h2,by simpa using h3,h4,h5⟩
   ·cases h
  ·cases h
 | [],_::_,_,h,_,_,_=>by simp[kp]at h
 |_::_,[],_,h,_,_,_=>by simp[kp]at h
theorem ak4{ds:List AD}{i j:Nat}{rc:RC}{ob:Ob}(h:nH ds i j rc=some ob):ob.isFz=false:=by
 unfold nH at h;split at h
 ·split at h
  ·split at h
   ·cases h;rfl
   ·cases h
  ·cases h
 ·split at h
  ·unfold gS at h
   repeat' split at h
   all_goals first|cases h;done|(cases h;rfl)
  ·cases h
theorem I0{ds:List AD}:∀{mt:List (Nat×Nat)} {wrs:List RC} {hp:List (Nat×Option Ob)},kp ds mt wrs=some hp->∀o∈dZ mt,∃ob,lk hp o=some (some ob)
 | [],_,_,_,o,ho=>by simp[dZ]at ho
 |y::mt,rc::wrs,hp,h,o,ho=>by
  simp only[kp]at h;split at h
  ·rename_i ob hob
   split at h
   ·rename_i l hl
    cases h;rw[bt];split
    ·exact⟨ob,rfl⟩
    ·rename_i hne
     simp only[dZ,BP,AH]at ho;exact I0 hl o (ho.resolve_left (fun hc=>hne hc.symm))
   ·cases h
  ·cases h
 |_::_,[],_,h,_,_=>by simp[kp]at h
theorem Q8{o:Nat}:∀{ds:List FC} {j k:Nat} {c:SC},(ko o j ds)[k]?=some c->∃d,ds[k]?=some d/\c=if dt d then dm d else .orig o (j+k) d
 | [],j,k,c,h=>by simp[ko]at h
 |d::ds,j,k,c,h=>by
  simp only[ko]at h;cases k with
  |zero=>simp at h;exact⟨d,rfl,by rw[Bc,h]⟩
  |succ k =>
   obtain⟨d',h1,h2⟩:=Q8 (k:=k) (by simpa using h)
   exact⟨d',by simpa using h1,by rw[h2,show j+1+k=j+(k+1) by omega]⟩
theorem I2{o:Nat}:∀{ds:List FC} {j:Nat},(ko o j ds).length=ds.length
 | [],_=>rfl
 |d::ds,j=>by simp[ko,I2 (ds:=ds)]
theorem ak5{ds:List AD}{i j:Nat}{cs:List FC}(h:nG ds i j=some cs):j=0/\(ds[i]?=some (.box cs)\/∃F s,ds[i]?=some (.fvs F s)/\cs=[.int .i64 s]):=by
 unfold nG at h;split at h
 ·split at h
  ·cases h;exact⟨rfl,.inl (by assumption)⟩
  ·cases h
 ·split at h
  ·cases h;exact⟨rfl,.inr ⟨_,_,by assumption,rfl⟩⟩
  ·cases h
 ·cases h
theorem Q9{mt:List (Nat×Nat)}:∀{ds:List AD} {i t:Nat} {sv:SV},lk (ph mt i ds) t=some sv->∃j d,ds[j]?=some d/\t=i+j/\sv=QZ mt t d
 | [],i,t,sv,h=>by simp[ph,lk]at h
 |d::ds,i,t,sv,h=>by
  simp only[ph]at h;rw[bt]at h;split at h
  ·rename_i ht
   cases h;exact⟨0,d,rfl,by omega,by rw[ht]⟩
  ·obtain⟨j,d',h1,h2,h3⟩:=Q9 h
   exact⟨j+1,d',by simpa using h1,by omega,h3⟩
theorem Ra{mt:List (Nat×Nat)}{i:Nat}:∀{cs:List FC} {s k:Nat} {c:SC},(nF mt i s cs)[k]?=some c->∃d,cs[k]?=some d/\c=rH mt i (s+k) d
 | [],s,k,c,h=>by simp[nF]at h
 |d::cs,s,k,c,h=>by
  simp only[nF]at h;cases k with
  |zero=>simp at h;exact⟨d,rfl,h.symm⟩
  |succ k =>
   obtain⟨d',h1,h2⟩:=Ra (k:=k) (by simpa using h)
   exact⟨d',by simpa using h1,by rw[h2];congr 1;omega⟩
theorem Rb{mt:List (Nat×Nat)}{i:Nat}:∀{cs:List FC} {s:Nat},(nF mt i s cs).length=cs.length
 | [],_=>rfl
 |_::cs,s=>by simp[nF,Rb (cs:=cs)]
theorem ak6{E:Env}{wF w:World}(hk:bJ wF E.wF){m:Img}{ob ob0 ob1:Ob}{rc:RC}{d:FC}{q:Prop}(h1:fA ob=some d)(h2:dz ob rc=some (ob1,q))(h3:gS d rc=some ob0)(h:aR (E0 wF) w m ob) :
  aR E w m ob0/\ob0.shp.ver=0:=by
 unfold dz at h2;split at h2
 ·cases h1
  split at h2
  ·rename_i he
   obtain⟨rfl,rfl⟩:=he;simp only[gS,AV,AC]at h3;subst h3;exact⟨h,rfl⟩
  ·cases h2
 ·cases h1
  split at h2
  ·rename_i he
   subst he;simp only[gS,AC]at h3;subst h3;exact⟨h,rfl⟩
  ·cases h2
 ·cases h1
  split at h2
  ·rename_i he
   obtain⟨rfl,rfl,rfl⟩:=he;simp only[gS,AV,AC]at h3;subst h3;exact⟨h,rfl⟩
  ·cases h2
 ·cases h1
 ·cases h1
  split at h2
  ·rename_i he
   rw[AG]at he;have he:=jk he.1
   subst he;have h4:∀(es:List TypeId) (x:FC),gS d (.tr es x)=some ob0->ob0=.tr 0 es d:=fun es x h5=>by
    cases d<;>(simp only[gS,AC]at h5;exact h5.symm)
   rw[h4 _ _ h3];exact⟨h,rfl⟩
  ·cases h2
 ·obtain⟨rfl,hs⟩:=qT h1
  split at h2
  ·rename_i he
   subst he;obtain⟨q1,vs,q2,q3⟩:=h;have fin:aR E w m (.lst 0 _ d):=⟨q1,vs,q2,fun i u hi=>let⟨r1,fc,r2,r3⟩:=q3 i u hi;⟨r1,fc,r2,r3.mono hk⟩⟩
   cases d<;>simp only[gS,reduceCtorEq,AC]at h3<;>subst h3<;>exact⟨fin,rfl⟩
  ·cases h2
 ·cases h1
  split at h2
  ·rename_i he
   obtain⟨rfl,rfl⟩:=he;simp only[gS,AV,AC]at h3;subst h3;exact⟨h,rfl⟩
  ·cases h2
 ·cases h1
  split at h2
  ·rename_i he
   obtain⟨rfl,rfl,rfl⟩:=he;simp only[gS,AV,AC]at h3;subst h3;exact⟨h,rfl⟩
  ·cases h2
 ·cases h2
theorem Rc{E:Env}{m:Img}{o:Nat}(hm:E.mu o=m)(hs:∃s,E.st o=.live s/\s.ver=0):∀{cs:List SC} {ds:List FC} {j:Nat} {p:Prop},lf o j cs ds=some p->p ->
  ds.length=cs.length/\∀(k:Nat) (d:FC),ds[k]?=some d->∃c,cs[k]?=some c/\∀v,ai E c v->lG m (j+k) d v
 | [],ds,j,p,h,_=>by
  cases ds with
  |nil=>exact⟨rfl,fun k d hk=>by simp at hk⟩
  |cons d ds=>simp[lf]at h
 |c::cs,[],j,p,h,_=>by cases c<;>simp[lf]at h
 |c::cs,d::ds,j,p,h,hp=>by
  have fin:∀{q:Prop},lf o (j+1) cs ds=some q->q->(∀v,ai E c v->lG m j d v) ->
    (d::ds).length=(c::cs).length/\∀(k:Nat) (x:FC),(d::ds)[k]?=some x->∃y,(c::cs)[k]?=some y/\∀v,ai E y v->lG m (j+k) x v:=fun {q} hq hq2 h0=>by
   obtain⟨h1,h2⟩:=Rc hm hs hq hq2;refine⟨by simp[h1],fun k x hx=>?_⟩
   cases k with
   |zero=>simp at hx;subst hx;exact⟨c,rfl,h0⟩
   |succ k =>
    obtain⟨y,h3,h4⟩:=h2 k x (by simpa using hx)
    exact⟨y,by simpa using h3,fun v hv=>by rw[show j+(k+1)=j+1+k by omega];exact h4 v hv⟩
  unfold lf at h;split at h
  ·rename_i h1 h2;cases h1
  ·rename_i h1 h2
   cases h1;cases h2;split at h
   ·rename_i hk
    subst hk;split at h
    ·rename_i q hq
     cases h;exact fin hq hp.2 fun v hv=>by rw[<-hp.1];exact hv
    ·cases h
   ·cases h
  ·rename_i h1 h2
   cases h1;cases h2;split at h
   ·rename_i q hq
    cases h;exact fin hq hp.2 fun v hv=>by rw[<-hp.1];exact hv
   ·cases h
  ·rename_i h1 h2
   cases h1;cases h2;split at h
   ·rename_i hoj
    split at h
    ·rename_i q0 hq0
     split at h
     ·rename_i hsc
      split at h
      ·rename_i q hq
       cases h;have:=fU hq0 hp.1
       subst this;rw[AG]at hoj;have e1:=AX hoj.1
       have e2:=AX hoj.2
       subst e1;subst e2;refine fin hq hp.2 fun v hv=>?_
       obtain⟨s,k1,k2⟩:=hs;have h5:=hv.2.2
       rw[k1]at h5;have h6:=h5 k2
       rw[hm]at h6;unfold lG;split
       ·cases hsc
       ·cases hsc
       ·cases hsc
       ·exact h6
      ·cases h
     ·cases h
    ·cases h
   ·cases h
  ·cases h
theorem ak7{o:Nat}{obf:Ob}{rc:RC}{p:Prop}(h:iq o obf rc=some p):obf.shp.ver=0:=by
 cases obf with
 |box cs=>rfl
 |bx cs=>cases h
 |strs e l=>cases h
 |lst ver e d=>cases h
 |frz d=>cases h
 |mp l=>cases h
 |qu e k l=>cases h
 |rowsH ver e ei k l hs=>cases h
 |ints e k l=>rfl
 |bools e l=>rfl
 |rows ver e ei k l =>
  cases rc<;>simp only[iq,reduceCtorEq]at h
  split at h
  ·rename_i he;exact he.1
  ·cases h
 |yd yv Y pre g=>cases h
 |trk ver es d n=>cases h
 |tr ver es d =>
  cases rc<;>simp only[iq,reduceCtorEq]at h
  split at h
  ·rename_i he
   rw[AG]at he;exact AX he.1
  ·cases h
theorem ak8{o:Nat}{obf:Ob}{rc:RC}{p:Prop}(h:iq o obf rc=some p):obf.isFz=false:=by cases obf<;>first|rfl|cases h
theorem ak9{E:Env}{w w0:World}{m:Img}{o:Nat}{ob ob1 obf:Ob}{rc:RC}{q p:Prop}(h2:dz ob rc=some (ob1,q))(h3:iq o obf rc=some p)(hp:p)(h:aR E w m obf)
  (hm:E.mu o=m)(hs:E.st o=.live obf.shp):aR (E0 w0) w m ob1:=by
 cases obf with
 |bx cs=>cases h3
 |strs e l=>cases h3
 |lst ver e d=>cases h3
 |frz d=>cases h3
 |mp l=>cases h3
 |qu e k l=>cases h3
 |rowsH ver e ei k l hs=>cases h3
 |yd yv Y pre g=>cases h3
 |trk ver es d n=>cases h3
 |tr ver es d =>
  cases rc<;>simp only[iq,reduceCtorEq]at h3
  rename_i es' d';split at h3
  ·rename_i he
   rw[AG]at he;have he2:=jk he.2
   subst he2;have:=fU h3 hp
   subst this;cases ob<;>simp only[dz,reduceCtorEq]at h2
   split at h2
   ·rename_i he3
    rw[AG]at he3;have he3:=jk he3.1
    subst he3;cases h2;exact h
   ·cases h2
  ·cases h3
 |box cs =>
  cases rc<;>simp only[iq,xX,reduceCtorEq]at h3
  rename_i ds;obtain⟨q1,q2⟩:=Rc hm ⟨_,hs,rfl⟩ h3 hp;obtain⟨b,arr,t,k1,k2,k3,k4,k5⟩:=h;have hob:ob1=.bx ds:=by
   cases ob<;>simp only[dz,reduceCtorEq]at h2
   split at h2
   ·cases h2;rfl
   ·cases h2
  subst hob;refine⟨b,arr,t,k1,k2,k3,by rw[k4,q1],fun j d hj=>?_⟩
  obtain⟨c,r1,r2⟩:=q2 j d hj;obtain⟨u,r3,r4,r5⟩:=k5 j c r1;have r6:=r2 u r5
  rw[AK]at r6;exact⟨u,r3,r4,r6⟩
 |ints e k l =>
  cases rc<;>simp only[iq,reduceCtorEq]at h3
  split at h3
  ·rename_i he
   obtain⟨rfl,rfl⟩:=he;cases h3;subst hp;cases ob<;>simp only[dz,reduceCtorEq]at h2
   split at h2
   ·rename_i he
    obtain⟨rfl,rfl⟩:=he;cases h2;exact h
   ·cases h2
  ·cases h3
 |bools e l =>
  cases rc<;>simp only[iq,reduceCtorEq]at h3
  split at h3
  ·rename_i he
   subst he;cases h3;subst hp;cases ob<;>simp only[dz,reduceCtorEq]at h2
   split at h2
   ·rename_i he
    subst he;cases h2;exact h
   ·cases h2
  ·cases h3
 |rows ver e ei k l =>
  cases rc<;>simp only[iq,reduceCtorEq]at h3
  split at h3
  ·rename_i he
   obtain⟨rfl,rfl,rfl,rfl⟩:=he;cases h3;subst hp;cases ob<;>simp only[dz,reduceCtorEq]at h2
   split at h2
   ·rename_i he
    obtain⟨rfl,rfl,rfl⟩:=he;cases h2;exact h
   ·cases h2
  ·cases h3
section
variable {σ:State}
theorem Re{c:SC}{rc:RC}:dF σ (xZ σ c rc):=by
 unfold xZ;split
 ·exact pf
 ·exact pf
 ·exact pf
 ·exact QP
 ·exact .nil
theorem Rf:∀{cs:List SC} {rcs:List RC},dF σ (IR σ cs rcs)
 | [],_=>.nil
 |_::_,[]=>.nil
 |_::_,_::_=>dF.app Re Rf
theorem I3{sv:SV}{x:RC ⊕ List RC}:dF σ (rO σ sv x):=by
 unfold rO;split
 ·split
  ·exact Re
  ·exact .nil
 ·split
  ·exact Rf
  ·exact .nil
theorem Rg:∀{svs:List SV} {l:List (RC ⊕ List RC)},dF σ (IS σ svs l)
 | [],_=>.nil
 |_::_,[]=>.nil
 |_::_,_::_=>dF.app I3 Rg
theorem al0{svs:List SV}{rv:RV}:dF σ (IT σ svs rv):=by
 unfold IT;split
 ·split
  ·exact I3
  ·exact .nil
 ·split
  ·exact I3
  ·exact .nil
 ·exact Rg
 ·exact .nil
end
theorem Rh{o:Nat}:∀{l:List Nat},cE o l=false->o∈l
 | [],h=>by cases h
 |x::l,h=>by
  simp only[cE]at h;split at h
  ·rename_i hx;rw[AX hx];exact At ..
  ·exact Ab _ (Rh h)
theorem Ri:∀{mt:List (Nat×Nat)} {wrs:List RC} {x i j:Nat} {rc:RC},mt[x]?=some (i,j)->wrs[x]?=some rc->rc.isGone=false->∃y:Nat,(ek mt wrs)[y]?=some (cM i j)/\(mf wrs)[y]?=some rc
 | [],_,x,i,j,rc,h,_,_=>by simp at h
 |_::_,[],x,i,j,rc,_,h,_=>by simp at h
 |(i0,j0)::mt,rc0::wrs,x,i,j,rc,h1,h2,h3=>by
  cases x with
  |zero =>
   simp at h1 h2
   obtain⟨rfl,rfl⟩:=h1;subst h2;exact⟨0,by simp[ek,h3],by simp[mf,h3]⟩
  |succ x =>
   obtain⟨y,h4,h5⟩:=Ri (mt:=mt) (wrs:=wrs) (by simpa using h1) (by simpa using h2) h3
   cases hg:rc0.isGone with
   |true=>exact⟨y,by simpa[ek,hg]using h4,by simpa[mf,hg]using h5⟩
   |false=>exact⟨y+1,by simpa[ek,hg]using h4,by simpa[mf,hg]using h5⟩
theorem Rj{σ:State}:∀{os:List Nat} {rcs:List RC} {p:Prop},nJ σ os rcs=some p->p->∀(x o:Nat) (rc:RC),os[x]?=some o->rcs[x]?=some rc ->
  ∃ob q,σ.H o=some (some ob)/\iq o ob rc=some q/\q
 | [],[],_,_,_,x,o,rc,h,_=>by simp at h
 |o::os,rc::rcs,p,hm,hp,x,o',rc',h1,h2=>by
  simp only[nJ]at hm;split at hm
  ·rename_i ob ho
   split at hm
   ·rename_i q hq
    split at hm
    ·rename_i q' hq'
     cases hm;cases x with
     |zero=>simp at h1 h2;subst h1;subst h2;exact⟨ob,q,ho,hq,hp.1⟩
     |succ x=>exact Rj hq' hp.2 x o' rc' (by simpa using h1) (by simpa using h2)
    ·cases hm
   ·cases hm
  ·cases hm
 | [],_::_,_,h,_,_,_,_,_,_=>by simp[nJ]at h
 |_::_,[],_,h,_,_,_,_,_,_=>by simp[nJ]at h
end Go.Sx
end
