/- SxV -/
import Derived.Test.YtkmldclpaniclaaSxU
namespace Go.Sx
open Go.RowKit
section
variable {Nw:Nat→Prop} {C:Cx} {σ:State} {mu:Nat→Img} {a:Act} {w:World}
def je (σ:State) (mu:Nat→Img) (us:List (Nat×Nat)) (i:Nat) (m:Img):Prop :=
 ∀b∈m.blocks,∃o ob,(i,o)∈us∧σ.H o=some (some ob)∧b∈(mu o).blocks
theorem je.mono {us us':List (Nat×Nat)} {i:Nat} {m:Img} (h:je σ mu us i m) (hs:∀x∈us,x∈us'):je σ mu us' i m:=fun b hb=>by
 obtain ⟨o,ob,h1,h2,h3⟩:=h b hb;exact ⟨o,ob,hs _ h1,h2,h3⟩
theorem jf {us:List (Nat×Nat)} {i:Nat} {v:Value} (hv:ab v=none):je σ mu us i ⟨v,[]⟩:=fun b hb=>by simp [Img.blocks,hv] at hb
theorem G9:∀{cs:List SC} {ds:List FC} {p:Prop},jc cs ds=some p→p→ds.length=cs.length∧∀(j:Nat) (d:FC),ds[j]?=some d→∃c,cs[j]?=some c∧∀(E E':Env) (v:Value),E'.wF=E.wF→ac E c v→ac E' (cI d) v
 | [],ds,p,h,_=>by
  cases ds with
  | nil=>exact ⟨rfl,fun j d hj=>by simp at hj⟩
  | cons d ds=>simp [jc] at h
 | c::cs,[],p,h,_=>by cases c <;> simp [jc] at h
 | c::cs,d::ds,p,h,hp=>by
  have fin:∀{q:Prop},jc cs ds=some q→q→(∀(E E':Env) (v:Value),E'.wF=E.wF→ac E c v→ac E' (cI d) v) →
    (d::ds).length=(c::cs).length∧∀(j:Nat) (x:FC),(d::ds)[j]?=some x→∃y,(c::cs)[j]?=some y∧∀(E E':Env) (v:Value),E'.wF=E.wF→ac E y v→ac E' (cI x) v:=fun {q} hq hq2 h0=>by
   obtain ⟨h1,h2⟩:=G9 hq hq2;refine ⟨by simp [h1],fun j x hx=>?_⟩
   cases j with
   | zero=>simp at hx;subst hx;exact ⟨c,rfl,h0⟩
   | succ j=>simpa using h2 j x (by simpa using hx)
  unfold jc at h;split at h
  ·rename_i h1 h2;cases h1
  ·rename_i h1 h2
   cases h1;cases h2;split at h
   ·rename_i hk
    subst hk;split at h
    ·rename_i q hq
     cases h;exact fin hq hp.2 fun E E' v _ hv=>by rw [←hp.1];exact hv
    ·cases h
   ·cases h
  ·rename_i h1 h2
   cases h1;cases h2;split at h
   ·rename_i q hq
    cases h;exact fin hq hp.2 fun E E' v _ hv=>by rw [←hp.1];exact hv
   ·cases h
  ·rename_i h1 h2
   cases h1;cases h2;split at h
   ·rename_i q0 hq0
    split at h
    ·rename_i q hq
     cases h;have:=ft hq0 hp.1
     subst this;exact fin hq hp.2 fun E E' v he hv=>(kE (E:=E') (by rw [he];exact hv.2)).1
    ·cases h
   ·cases h
  ·cases h
theorem Ag {ob:Ob} {cut:FC→Option FC} {d':FC} {us:List (Nat×Nat)} {p:Prop} (h:oC ob cut d'=some (us,p)) (hp:p):∃d,ob=.frz d∧cut d=some d'∧us=[]:=by
 unfold oC at h;split at h
 ·split at h
  ·rename_i d0 h0
   split at h
   ·rename_i p' hp'
    cases h;have:=ft hp' hp
    subst this;exact ⟨_,rfl,h0,rfl⟩
   ·cases h
  ·cases h
 ·cases h
theorem Ah {rc:RC} {d:FC} (h:oB rc=some d):rc=.ro d:=by
 unfold oB at h;split at h
 ·cases h;rfl
 ·cases h
theorem Ai {i:Nat} {c:SC} {rc:RC} {us:List (Nat×Nat)} {p:Prop} (hm:oE σ i c rc=some (us,p)) (hp:p) (h:St C σ mu a w) (hM:∀i o ob,(i,o)∈us→σ.H o=some (some ob)→∀b∈(mu o).blocks,Nw b) {u:Value}
  (hu:ac (σ.env C.wF mu) c u):∃m,fS Nw w C.wF m rc u∧je σ mu us i m:=by
 unfold oE at hm;split at hm
 ·split at hm
  ·split at hm
   ·rename_i hk
    cases hm;subst hk;subst hp;exact ⟨⟨undef,[]⟩,hu,jf rfl⟩
   ·cases hm
  ·cases hm
 ·split at hm
  ·cases hm;subst hp
   exact ⟨⟨undef,[]⟩,hu,jf rfl⟩
  ·cases hm
 ·split at hm
  ·cases hm;subst hp
   exact ⟨⟨undef,[]⟩,hu,jf rfl⟩
  ·cases hm
 ·have hu':u=.slice none 0 0:=hu
  subst hu';unfold G7 at hm;split at hm
  all_goals first
   | (rename_i es d
      split at hm
      ·rename_i hc
       cases hm;rw [Bool.and_eq_true] at hc;have hes:=Nat.eq_of_beq_eq_true hc.1
       have hT:bd w es (bp (.slice none 0 0) []) d:=yW hes.symm hp fun h0=>by
        have h2:=hc.2
        cases d <;> first | exact ⟨_,_,rfl⟩ | (simp [FC.dep] at h0;done) | (simp [G6] at h2;done)
       have hB:=(dH hT).trans (Fg _)
       exact ⟨dm es.length (bp (.slice none 0 0) []),⟨rfl,⟨_,rfl,hT⟩,by rw [hB];simp,by rw [hB];simp⟩,fun b hb=>by rw [hB] at hb;simp at hb⟩
      ·cases hm
       done)
   | skip
  all_goals refine ⟨⟨.slice none 0 0,[]⟩,?_,jf rfl⟩
  all_goals first
   | (cases hm;obtain ⟨⟨rfl,rfl⟩,rfl⟩:=hp;exact ⟨.inl ⟨rfl,rfl,rfl,rfl⟩,Nat.le_refl _,⟨⟨by simp,.inl ⟨rfl,rfl⟩⟩,rfl,by simp⟩,by simp [Img.blocks,ab],by simp [Img.blocks,ab]⟩)
   | (cases hm;subst hp;exact ⟨rfl,⟨rfl,by simp,.inl ⟨rfl,rfl⟩⟩,by simp [Img.blocks,ab],by simp [Img.blocks,ab]⟩)
   | (cases hm;subst hp;exact ⟨rfl,⟨⟨by simp,.inl ⟨rfl,rfl⟩⟩,rfl,by simp⟩,by simp [Img.blocks,ab],by simp [Img.blocks,ab]⟩)
   | (cases hm;subst hp;exact ⟨_,_,_,rfl,rfl⟩)
   | (split at hm
      ·cases hm
      ·rename_i hs
       cases hm;exact ⟨⟨_,_,_,rfl,Nat.le_refl _⟩,GO hs hp _⟩)
   | (split at hm
      ·cases hm
      ·rename_i hs
       cases hm;have hp:_=_:=hp
       exact ⟨rfl,⟨rfl,[],by rw [hp];exact World.ownsRow_nil _ _ _ _,fun i u hi=>by simp at hi⟩,by simp [Img.blocks,ab],by simp [Img.blocks,ab]⟩)
   | cases hm
 ·rename_i o
  split at hm
  ·rename_i ob ho
   split at hm
   ·rename_i d' hro
    obtain ⟨d,rfl,h2,rfl⟩:=Ag hm hp;cases h2;have:=Ah hro
    subst this;have h3:=hu.2
    have e:(σ.env C.wF mu).st o=.frz _:=eK ho
    rw [e] at h3;exact ⟨⟨undef,[]⟩,h3,jf rfl⟩
   have hnf:ob.isFz=false:=by
    cases ob with
    | frz d=>cases hq:oD rc <;> simp [hq,Ob.len?,oz] at hm
    | mp l=>cases hq:oD rc <;> simp [hq,Ob.len?,oz] at hm
    | qu e k l=>cases hq:oD rc <;> simp [hq,Ob.len?,oz] at hm
    | rowsH ver e ei k l hs=>rfl
    | _=>rfl
   have hu':u=(mu o).hd:=az ho hu
   subst hu';have hnd:=h.nd o ob ho
   have hrep:=h.ob o ob ho
   split at hm
   ·rename_i b hb
    split at hm
    ·rename_i n hn
     cases hm;obtain ⟨hp1,hp2⟩:=hp;subst hp1;have hrc:rc=.nilq false:=by
      unfold oD at hb;split at hb
      ·cases hb;rfl
      ·cases hb
     subst hrc;obtain ⟨hv,_⟩:=kF hn hrep;refine ⟨⟨undef,[]⟩,?_,jf rfl⟩
     rcases hv with ⟨_,_,_,h0⟩ | ⟨g,len,cap,ao,h1,h2,_⟩
     ·exact absurd h0 hp2
     ·exact ⟨_,_,_,h2,rfl⟩
    ·cases hm
   refine ⟨mu o,?_⟩
   unfold oz at hm;split at hm
   ·split at hm
    ·split at hm
     ·rename_i he
      obtain ⟨rfl,rfl⟩:=he;cases hm;subst hp;exact ⟨⟨rfl,hrep.env,hnd.1,fun b hb=>hM i o _ (by simp) ho b hb⟩,fun b hb=>⟨o,_,by simp,ho,hb⟩⟩
     ·cases hm
    ·cases hm
   ·split at hm
    ·split at hm
     ·rename_i he
      subst he;cases hm;subst hp;exact ⟨⟨rfl,hrep.env,hnd.1,fun b hb=>hM i o _ (by simp) ho b hb⟩,fun b hb=>⟨o,_,by simp,ho,hb⟩⟩
     ·cases hm
    ·cases hm
   ·split at hm
    ·split at hm
     ·rename_i he
      obtain ⟨rfl,rfl,rfl⟩:=he;cases hm;subst hp;exact ⟨⟨rfl,hrep.env.ver,hnd.1,fun b hb=>hM i o _ (by simp) ho b hb⟩,fun b hb=>⟨o,_,by simp,ho,hb⟩⟩
     ·cases hm
    ·split at hm
     ·rename_i he
      obtain ⟨rfl,rfl,rfl⟩:=he;cases hm;obtain ⟨rfl,rfl,rfl⟩:=hp;exact ⟨⟨de hrep.1,by omega,hrep.env.ver,hnd.1,fun b hb=>hM i o _ (by simp) ho b hb⟩,fun b hb=>⟨o,_,by simp,ho,hb⟩⟩
     ·cases hm
    ·cases hm
   ·split at hm
    ·split at hm
     ·rename_i he
      subst he;cases hm;subst hp;exact ⟨⟨rfl,hrep.env,hnd.1,fun b hb=>hM i o _ (by simp) ho b hb⟩,fun b hb=>⟨o,_,by simp,ho,hb⟩⟩
     ·cases hm
    ·cases hm
   ·split at hm
    ·split at hm
     ·rename_i he
      subst he;split at hm
      ·rename_i hd
       cases hm;have:=ft hd hp
       subst this;exact ⟨⟨rfl,hrep,hnd.1,fun b hb=>hM i o _ (by simp) ho b hb⟩,fun b hb=>⟨o,_,by simp,ho,hb⟩⟩
      ·cases hm
     ·cases hm
    ·cases hm
   ·cases hm
   ·cases hm
   ·cases hm
   ·cases hm
   ·cases hm
   ·cases hm
   ·cases hm
   ·split at hm
    ·split at hm
     ·rename_i he
      have he:=g8 he
      subst he;split at hm
      ·rename_i hd
       cases hm;have:=ft hd hp
       subst this;exact ⟨⟨rfl,hrep,hnd.1,fun b hb=>hM i o _ (by simp) ho b hb⟩,fun b hb=>⟨o,_,by simp,ho,hb⟩⟩
      ·cases hm
     ·cases hm
    ·cases hm
  ·cases hm
 ·rename_i o n
  split at hm
  ·rename_i ob ho
   split at hm
   ·rename_i d' hro
    obtain ⟨d,rfl,h2,rfl⟩:=Ag hm hp;have:=Ah hro
    subst this;have h3:=hu.2
    have e:(σ.env C.wF mu).st o=.frz d:=eK ho
    rw [e] at h3;obtain ⟨d'',h4,h5⟩:=h3;rw [h2] at h4;cases h4;exact ⟨⟨undef,[]⟩,h5,jf rfl⟩
   have hnf:ob.isFz=false:=by
    cases ob with
    | frz d=>simp [oA] at hm
    | mp l=>simp [oA] at hm
    | qu e k l=>simp [oA] at hm
    | rowsH ver e ei k l hs=>rfl
    | _=>rfl
   obtain ⟨hle,hview⟩:=az ho hu;have hnd:=h.nd o ob ho
   have hrep:=h.ob o ob ho
   have hbl:∀b∈(⟨u,[]⟩:Img).blocks,b∈(mu o).blocks:=fun b hb=>by
    simp only [Img.blocks,yX hview,List.filterMap_nil,List.append_nil] at hb ⊢;exact List.mem_append_left _ hb
   have hndu:(⟨u,[]⟩:Img).blocks.Nodup:=by
    simp only [Img.blocks,List.filterMap_nil,List.append_nil];cases ab u <;> simp
   unfold oA at hm;split at hm
   ·split at hm
    ·split at hm
     ·rename_i l _ _ _ _ _ he
      obtain ⟨rfl,rfl⟩:=he;cases hm;subst hp;have hle':n≤l.length:=hle
      have:=rR hrep.2 hview hle'
      rw [←List.map_take] at this;refine ⟨⟨u,[]⟩,⟨rfl,⟨rfl,?_⟩,hndu,fun b hb=>hM i o _ (by simp) ho b (hbl b hb)⟩,fun b hb=>⟨o,_,by simp,ho,hbl b hb⟩⟩
      rw [List.length_take,Nat.min_eq_left hle'];exact this
     ·cases hm
    ·cases hm
   ·split at hm
    ·split at hm
     ·rename_i l _ _ _ _ he
      subst he;cases hm;subst hp;have hle':n≤l.length:=hle
      have:=rR hrep.2 hview hle'
      rw [←List.map_take] at this;refine ⟨⟨u,[]⟩,⟨rfl,⟨rfl,?_⟩,hndu,fun b hb=>hM i o _ (by simp) ho b (hbl b hb)⟩,fun b hb=>⟨o,_,by simp,ho,hbl b hb⟩⟩
      rw [List.length_take,Nat.min_eq_left hle'];exact this
     ·cases hm
    ·cases hm
   ·split at hm
    ·split at hm
     ·rename_i he
      obtain ⟨rfl,rfl,rfl⟩:=he;cases hm;obtain ⟨rfl,rfl,rfl⟩:=hp;exact ⟨mu o,⟨hview,Nat.le_trans (Nat.le_of_eq (Nat.zero_add n)) hle,hrep.env.ver,hnd.1,fun b hb=>hM i o _ (by simp) ho b hb⟩,fun b hb=>⟨o,_,by simp,ho,hb⟩⟩
     ·cases hm
    ·cases hm
   ·cases hm
  ·cases hm
 ·rename_i o off n
  split at hm
  ·rename_i ob ho
   split at hm
   ·rename_i d' hro
    obtain ⟨d,rfl,h2,rfl⟩:=Ag hm hp;have:=Ah hro
    subst this;have h3:=hu.2
    have e:(σ.env C.wF mu).st o=.frz d:=eK ho
    rw [e] at h3;obtain ⟨d'',h4,h5⟩:=h3;rw [h2] at h4;cases h4;exact ⟨⟨undef,[]⟩,h5,jf rfl⟩
   split at hm
   case h_2=>cases hm
   rename_i ver e ei k l;split at hm
   ·split at hm
    ·rename_i he
     obtain ⟨rfl,rfl,rfl⟩:=he;cases hm;obtain ⟨rfl,rfl,rfl⟩:=hp;obtain ⟨hle,hview⟩:=az ho hu;have hnd:=h.nd o _ ho
     have hrep:=h.ob o _ ho
     refine ⟨mu o,⟨hview,hle,hrep.env.ver,hnd.1,fun b hb=>hM i o _ (by simp) ho b hb⟩,fun b hb=>⟨o,_,by simp,ho,hb⟩⟩
    ·cases hm
   ·cases hm
  ·cases hm
 ·rename_i o x
  split at hm
  ·split at hm
   ·rename_i cs ho
    split at hm
    ·rename_i ds hds
     split at hm
     ·rename_i p' hp'
      cases hm;have hrc:rc=.bx ds:=by
       unfold tf at hds;split at hds
       ·cases hds;rfl
       ·cases hds
      subst hrc;obtain ⟨b,arr,t,k1,k2,k3,k4,k5⟩:=h.ob o _ ho;obtain ⟨q1,q2⟩:=G9 hp' hp.2;obtain ⟨_,b',hb',hu'⟩:=az ho hu;have hb':ab (mu o).hd=some b':=hb'
      have hbb:b'=b:=by rw [k1] at hb';simpa [ab] using hb'.symm
      have hbl:∀c∈(⟨(mu o).hd,[]⟩:Img).blocks,c∈(mu o).blocks:=fun c hc=>by
       simp only [Img.blocks,List.filterMap_nil,List.append_nil,Option.mem_toList] at hc;exact bz hc
      refine ⟨⟨(mu o).hd,[]⟩,⟨by rw [hu',hbb,k1],⟨b,arr,t,k1,by simp,k3,by rw [k4,List.length_map,q1],fun j c hj=>?_⟩,?_,fun c hc=>hM i o _ (by simp) ho c (hbl c hc),hp.1⟩,fun c hc=>⟨o,_,by simp,ho,hbl c hc⟩⟩
      ·rw [List.getElem?_map] at hj
       cases hd:ds[j]? with
       | none=>rw [hd] at hj;cases hj
       | some d =>
        rw [hd] at hj;simp at hj
        subst hj;obtain ⟨c,r1,r2⟩:=q2 j d hd;obtain ⟨y,r3,r4,r5⟩:=k5 j c r1;exact ⟨y,r3,r4,r2 (σ.env C.wF mu) _ y rfl r5⟩
      ·simp only [Img.blocks,List.filterMap_nil,List.append_nil]
       cases ab (mu o).hd <;> simp
     ·cases hm
    ·cases hm
   ·cases hm
  ·cases hm
 ·rename_i d
  split at hm
  ·split at hm
   ·rename_i p' hp'
    cases hm;have:=ft hp' hp
    subst this;exact ⟨⟨undef,[]⟩,hu,jf rfl⟩
   ·cases hm
  ·cases hm
 ·cases hm
theorem Aj (h:St C σ mu a w):∀{cs:List SC} {rcs:List RC} {i:Nat} {us:List (Nat×Nat)} {p:Prop},ld σ i cs rcs=some (us,p)→p→(∀i o ob,(i,o)∈us→σ.H o=some (some ob)→∀b∈(mu o).blocks,Nw b) →
  rcs.length=cs.length∧∀arr:Array Value,cw (σ.env C.wF mu) cs arr→∃img:Nat→Img,∀(j:Nat) (x:RC),rcs[j]?=some x→∃u,arr[j]?=some u∧fS Nw w C.wF (img (i+j)) x u∧je σ mu us (i+j) (img (i+j))
 | [],[],i,us,p,_,_,_=>⟨rfl,fun arr _=>⟨fun _=>⟨undef,[]⟩,fun j x hx=>by simp at hx⟩⟩
 | c::cs,rc::rcs,i,us,p,hm,hp,hM=>by
  simp only [ld] at hm;split at hm
  ·rename_i u1 p1 h1
   split at hm
   ·rename_i u2 p2 h2
    cases hm;have hM1:∀i o ob,(i,o)∈u1→σ.H o=some (some ob)→∀b∈(mu o).blocks,Nw b:=fun i o ob hm=>hM i o ob (List.mem_append_left _ hm)
    have hM2:∀i o ob,(i,o)∈u2→σ.H o=some (some ob)→∀b∈(mu o).blocks,Nw b:=fun i o ob hm=>hM i o ob (List.mem_append_right _ hm)
    obtain ⟨hl,hr⟩:=Aj h h2 hp.2 hM2;refine ⟨by simp [hl],fun arr harr=>?_⟩
    obtain ⟨hsz,hcs⟩:=harr;obtain ⟨u,hu1,_,hu2⟩:=hcs 0 c rfl;obtain ⟨m,hm1,hm2⟩:=Ai h1 hp.1 h hM1 hu2;obtain ⟨img,himg⟩:=hr (arr.toList.tail.toArray) ⟨by simp [hsz],fun j c' hj=>by
     obtain ⟨u',q1,q2⟩:=hcs (j+1) c' (by simpa using hj)
     refine ⟨u',?_,q2⟩
     rw [←q1];simp [List.getElem?_tail]⟩
    refine ⟨fun k=>if k=i then m else img k,fun j x hx=>?_⟩
    cases j with
    | zero =>
     simp only [List.getElem?_cons_zero,Option.some.injEq] at hx;subst hx;simp only [Nat.add_zero,if_true];exact ⟨u,hu1,hm1,hm2.mono fun x hx=>List.mem_append_left _ hx⟩
    | succ j =>
     simp only [List.getElem?_cons_succ] at hx;obtain ⟨u',q1,q2,q3⟩:=himg j x hx;rw [show i+1+j=i+(j+1) by omega] at q2 q3
     have hne:¬ i+(j+1)=i:=by omega
     simp only [hne,if_false];refine ⟨u',?_,q2,q3.mono fun x hx=>List.mem_append_right _ hx⟩
     rw [←q1];simp [List.getElem?_tail]
   ·cases hm
  ·cases hm
 | [],_::_,_,_,_,hm,_,_=>by simp [ld] at hm
 | _::_,[],_,_,_,hm,_,_=>by simp [ld] at hm
theorem PX (h:St C σ mu a w) {s:Nat} {sv:SV} {x:RC ⊕ List RC} {us:List (Nat×Nat)} {p:Prop} (hm:mL σ (16 * s) sv x=some (us,p)) (hp:p) (hM:∀i o ob,(i,o)∈us→σ.H o=some (some ob)→∀b∈(mu o).blocks,Nw b) {v:Value}
  (hv:ak C.P (σ.env C.wF mu) sv v):∃img:Nat→Img,n5 Nw w C.wF img (16 * s) x v∧∀k rc,sw s k rc x→je σ mu us k (img k):=by
 unfold mL at hm;split at hm
 ·split at hm
  ·obtain ⟨m,h1,h2⟩:=Ai hm hp h hM hv
   refine ⟨fun _=>m,h1,fun k rc hk=>?_⟩
   obtain ⟨_,rfl⟩:=hk;exact h2
  ·cases hm
 ·split at hm
  ·split at hm
   ·rename_i hle
    obtain ⟨arr,rfl,harr⟩:=hv;obtain ⟨hl,hr⟩:=Aj h hm hp hM;obtain ⟨img,himg⟩:=hr arr harr;refine ⟨img,⟨arr,rfl,by rw [harr.1,hl],fun j y hy=>?_⟩,fun k rc hk=>?_⟩
    ·obtain ⟨u,q1,q2,_⟩:=himg j y hy
     exact ⟨u,q1,q2⟩
    ·obtain ⟨j,hj,rfl⟩:=hk
     obtain ⟨u,q1,q2,q3⟩:=himg j rc hj;exact q3
   ·cases hm
  ·cases hm
theorem Ha {s k:Nat} {rc:RC} {sv:SV} {x:RC ⊕ List RC} {us:List (Nat×Nat)} {p:Prop} (hm:mL σ (16 * s) sv x=some (us,p)) (hk:sw s k rc x):16 * s≤k∧k<16 * (s+1):=by
 unfold mL at hm;split at hm
 ·obtain ⟨_,rfl⟩:=hk
  omega
 ·split at hm
  ·split at hm
   ·obtain ⟨j,hj,rfl⟩:=hk
    have:=(List.getElem?_eq_some_iff.1 hj).1
    omega
   ·cases hm
  ·cases hm
theorem PY {w0:Nat→Prop} {w wF:World} {img img':Nat→Img} {s:Nat} {sv:SV} {x:RC ⊕ List RC} {us:List (Nat×Nat)} {p:Prop} (hm:mL σ (16 * s) sv x=some (us,p)) {v:Value} (h:n5 w0 w wF img (16 * s) x v)
  (he:∀k,16 * s≤k→k<16 * (s+1)→img' k=img k):n5 w0 w wF img' (16 * s) x v:=by
 cases x with
 | inl rc =>
  show fS _ _ _ _ _ _
  rw [he _ (by omega) (by omega)]
  exact h
 | inr rcs =>
  obtain ⟨arr,h1,h2,h3⟩:=h;refine ⟨arr,h1,h2,fun j y hy=>?_⟩
  obtain ⟨u,h4,h5⟩:=h3 j y hy;have hlt:=Ha (rc:=y) (k:=16 * s+j) hm ⟨j,hy,rfl⟩
  rw [he _ hlt.1 hlt.2];exact ⟨u,h4,h5⟩
theorem Hb (h:St C σ mu a w):∀{svs:List SV} {l:List (RC ⊕ List RC)} {s:Nat} {us:List (Nat×Nat)} {p:Prop},mM σ s svs l=some (us,p)→p→(∀i o ob,(i,o)∈us→σ.H o=some (some ob)→∀b∈(mu o).blocks,Nw b) →
  l.length=svs.length∧∀vs:List Value,vs.length=svs.length→(∀(i:Nat) (sv:SV),svs[i]?=some sv→∃v,vs[i]?=some v∧ak C.P (σ.env C.wF mu) sv v) →
   ∃img:Nat→Img,∀(j:Nat) (x:RC ⊕ List RC),l[j]?=some x→(∃u,vs[j]?=some u∧n5 Nw w C.wF img (16 * (s+j)) x u)∧∀k rc,sw (s+j) k rc x→je σ mu us k (img k)
 | [],[],s,us,p,_,_,_=>⟨rfl,fun vs _ _=>⟨fun _=>⟨undef,[]⟩,fun j x hx=>by simp at hx⟩⟩
 | sv::svs,x::l,s,us,p,hm,hp,hM=>by
  simp only [mM] at hm;split at hm
  ·rename_i u1 p1 h1
   split at hm
   ·rename_i u2 p2 h2
    cases hm;have hM1:∀i o ob,(i,o)∈u1→σ.H o=some (some ob)→∀b∈(mu o).blocks,Nw b:=fun i o ob hm=>hM i o ob (List.mem_append_left _ hm)
    have hM2:∀i o ob,(i,o)∈u2→σ.H o=some (some ob)→∀b∈(mu o).blocks,Nw b:=fun i o ob hm=>hM i o ob (List.mem_append_right _ hm)
    obtain ⟨hl,hr⟩:=Hb h h2 hp.2 hM2;refine ⟨by simp [hl],fun vs hvl hvs=>?_⟩
    obtain ⟨v,hv1,hv2⟩:=hvs 0 sv rfl;obtain ⟨img1,hi1,hi2⟩:=PX h h1 hp.1 hM1 hv2;obtain ⟨img2,hj⟩:=hr vs.tail (by simp [hvl]) (fun j sv' hj=>by
     obtain ⟨u',q1,q2⟩:=hvs (j+1) sv' (by simpa using hj)
     exact ⟨u',by simpa [List.getElem?_tail] using q1,q2⟩)
    refine ⟨fun k=>if k<16 * (s+1) then img1 k else img2 k,fun j y hy=>?_⟩
    cases j with
    | zero =>
     simp only [List.getElem?_cons_zero,Option.some.injEq] at hy;subst hy;refine ⟨⟨v,hv1,PY h1 hi1 fun k _ hk=>by simp only [hk,if_true]⟩,fun k rc hk=>?_⟩
     have:=Ha h1 hk
     simp only [this.2,if_true];exact (hi2 k rc hk).mono fun x hx=>List.mem_append_left _ hx
    | succ j =>
     simp only [List.getElem?_cons_succ] at hy;obtain ⟨⟨u,q1,q2⟩,q3⟩:=hj j y hy;rw [show s+1+j=s+(j+1) by omega] at q2 q3
     refine ⟨⟨u,by simpa [List.getElem?_tail] using q1,?_⟩,fun k rc hk=>?_⟩
     ·cases y with
      | inl rc =>
       have hne:¬ 16 * (s+(j+1))<16 * (s+1):=by omega
       show fS _ _ _ _ _ _
       simp only [hne,if_false];exact q2
      | inr rcs =>
       obtain ⟨arr,h1,h2,h3⟩:=q2;refine ⟨arr,h1,h2,fun t y hy=>?_⟩
       obtain ⟨u,h4,h5⟩:=h3 t y hy;have hne:¬ 16 * (s+(j+1))+t<16 * (s+1):=by omega
       simp only [hne,if_false];exact ⟨u,h4,h5⟩
     ·have hne:¬ k<16 * (s+1):=by
       cases y with
       | inl rc=>obtain ⟨_,rfl⟩:=hk;omega
       | inr rcs=>obtain ⟨t,_,rfl⟩:=hk;omega
      simp only [hne,if_false];exact (q3 k rc hk).mono fun x hx=>List.mem_append_right _ hx
   ·cases hm
  ·cases hm
 | [],_::_,_,_,_,hm,_,_=>by simp [mM] at hm
 | _::_,[],_,_,_,hm,_,_=>by simp [mM] at hm
theorem PZ (h:St C σ mu a w) {svs:List SV} {rv:RV} {us:List (Nat×Nat)} {p:Prop} (hm:tg σ svs rv=some (us,p)) (hp:p) (hM:∀i o ob,(i,o)∈us→σ.H o=some (some ob)→∀b∈(mu o).blocks,Nw b) (hn:(us.map (·.2)).Nodup)
  {vs:List Value} (hl:vs.length=svs.length) (hvs:∀(i:Nat) (sv:SV),svs[i]?=some sv→∃v,vs[i]?=some v∧ak C.P (σ.env C.wF mu) sv v) :
  ∃img,RetRep Nw w C.wF img rv (jM vs):=by
 have key:∃img,sk Nw w C.wF img rv (jM vs)∧∀k rc,(k,rc)∈bY rv→je σ mu us k (img k):=by
  unfold tg at hm;split at hm
  ·split at hm
   ·rename_i c
    obtain ⟨v,h1,h2⟩:=hvs 0 _ rfl;obtain ⟨m,h3,h4⟩:=Ai hm hp h hM h2;match vs,hl,h1 with
    | [v'],_,h1 =>
     cases h1;exact ⟨fun _=>m,h3,fun k rc hk=>by simp [bY] at hk;rw [hk.1];exact h4⟩
   ·cases hm
  ·split at hm
   ·rename_i cs
    obtain ⟨v,h1,h2⟩:=hvs 0 _ rfl;obtain ⟨arr,h3,h4⟩:=h2;obtain ⟨hl',hr⟩:=Aj h hm hp hM;obtain ⟨img,himg⟩:=hr arr h4;match vs,hl,h1 with
    | [v'],_,h1 =>
     cases h1;refine ⟨img,⟨arr,h3,by rw [h4.1,hl'],fun j x hx=>?_⟩,fun k rc hk=>?_⟩
     ·obtain ⟨u,q1,q2,_⟩:=himg j x hx
      exact ⟨u,q1,q2⟩
     ·obtain ⟨j,q1,rfl⟩:=n9.1 hk
      obtain ⟨u,_,_,q3⟩:=himg j rc q1;exact q3
   ·cases hm
  ·split at hm
   ·cases hm
   ·rename_i l svs hns
    obtain ⟨hl',hr⟩:=Hb h hm hp hM;obtain ⟨img,himg⟩:=hr vs hl hvs;have hv:jM vs=Value.tuple vs.toArray:=by
     cases vs with
     | nil=>rfl
     | cons x vs =>
      cases vs with
      | nil =>
       exfalso
       simp only [List.length_cons,List.length_nil] at hl;obtain ⟨y,hy⟩:=List.length_eq_one_iff.1 hl.symm;exact hns y hy
      | cons y l=>rfl
    rw [hv];refine ⟨img,⟨vs.toArray,rfl,by simp [hl,hl'],fun j x hx=>?_⟩,fun k rc hk=>?_⟩
    ·obtain ⟨⟨u,q1,q2⟩,_⟩:=himg j x hx
     rw [Nat.zero_add] at q2;exact ⟨u,by simpa using q1,q2⟩
    ·obtain ⟨j,x,q1,q2⟩:=mB.1 hk
     exact (himg j x q1).2 k rc q2
  ·cases hm
 obtain ⟨img,h1,h2⟩:=key;refine ⟨img,h1,fun i j x y hi hj hne _ _ b hb hb'=>?_,fun q u hq i x hi _ hb=>by
  obtain ⟨o,ob,q1,q2,q3⟩:=h2 i x hi _ hb;exact (h.cells q u hq).1 o ob q2 q3⟩
 obtain ⟨o,ob,q1,q2,q3⟩:=h2 i x hi b hb;obtain ⟨o',ob',r1,r2,r3⟩:=h2 j y hj b hb';by_cases ho:o=o'
 ·subst ho
  obtain ⟨s,hs⟩:=List.getElem?_of_mem q1;obtain ⟨t,ht⟩:=List.getElem?_of_mem r1;have h3:(us.map (·.2))[s]?=some o:=by simp [hs]
  have h4:(us.map (·.2))[t]?=some o:=by simp [ht]
  have:s=t:=(List.getElem?_inj (List.getElem?_eq_some_iff.1 h3).1 hn).1 (h3.trans h4.symm)
  subst this;rw [hs] at ht;cases ht;exact hne rfl
 ·exact h.sep o o' ob ob' ho q2 r2 b q3 r3
end
end Go.Sx
