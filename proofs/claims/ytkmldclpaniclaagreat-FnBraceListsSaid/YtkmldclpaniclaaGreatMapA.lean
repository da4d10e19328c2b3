/- MapA -/
import Derived.Test.YtkmldclpaniclaaGreatMapQ
set_option linter.unusedSimpArgs false
set_option linter.unusedVariables false
set_option linter.defProp false
open Go Go.Proofs
namespace Go.Sx
def fN(a b:D8)(f:D6)(k x y:Nat):Bool :=
 decide ((f.length:Int)-1<en (a.getD k []) x y)||(decide ((x:Int)<(f.length:Int)-1)&&(decide ((y:Int)<(f.length:Int)-1)&&decide (en (a.getD k []) x y<(f.length:Int)-1))) ||
  decide (f.getD (en (a.getD k []) x y).toNat 0=en (b.getD k []) (f.getD x 0).toNat (f.getD y 0).toNat)
def mZ(a b:D8)(f:D6)(k x:Nat):Bool:=(List.range f.length).all (fN a b f k x)
def m6(a b:D8)(f:D6)(k:Nat):Bool:=(List.range f.length).all (mZ a b f k)
def dV(a b:D8)(f:D6):Bool:=(List.range a.length).all (m6 a b f)
def m8(a b:D8)(f:D6):Prop:=∀k x y,k<a.length->x<f.length->y<f.length->en (a.getD k []) x y<(f.length:Int) ->
 f.getD (en (a.getD k []) x y).toNat 0=en (b.getD k []) (f.getD x 0).toNat (f.getD y 0).toNat
def Gk{a b:D8}{f:D6}:dV a b f=true↔∀k x y,k<a.length->x<f.length->y<f.length->fN a b f k x y=true:=by
 simp only[dV,m6,mZ,Ac,Af];exact⟨λh k x y hk hx hy=>h k hk x hx y hy,λh k hk x hx y hy=>h k x y hk hx hy⟩
def vF{n:Nat}{a b:D8}(ha:bK n a){f:D6}{y:Int}(hf:f.length<n):m8 a b (f++[y])↔m8 a b f/\dV a b (f++[y])=true:=by
 have L:(f++[y]).length=f.length+1:=by simp
 have lo:∀i,i<f.length->(f++[y]).getD i 0=f.getD i 0:=λi hi=>getD_append_left' _ _ _ _ hi
 constructor
 ·intro h
  refine⟨λk x z hk hx hz hv=>?_,Gk.2 λk x z hk hx hz=>?_⟩
  ·have h0:=(((ha k hk).2 x (by omega)).2 z (by omega)).1
   have:=h k x z hk (by omega) (by omega) (by omega)
   rwa[lo _ (by omega),lo _ hx,lo _ hz]at this
  ·rw[fN,BK,BK]
   by_cases q:en (a.getD k []) x z<((f++[y]).length:Int)
   ·exact .inr (Ab (h k x z hk hx hz q))
   ·exact .inl (.inl (Ab (by omega)))
 ·rintro⟨h1,h2⟩ k x z hk hx hz hv
  have h3:=Gk.1 h2 k x z hk hx hz
  rw[fN,BK,BK]at h3;rcases h3 with(h3|h3)|h3
  ·have:=CT h3;omega
  ·rw[AO,AO,Ai,Ai,Ai]at h3
   obtain⟨q1,q2,q3⟩:=h3;have h0:=(((ha k hk).2 x (by omega)).2 z (by omega)).1
   rw[lo _ (by omega),lo _ (by omega),lo _ (by omega)]
   exact h1 k x z hk (by omega) (by omega) (by omega)
  ·exact CT h3
structure isoL (n:Nat) (a b:D8) (g:D6):Prop where
 len:g.length=n
 rng:∀i,i<n->0<=g.getD i 0/\g.getD i 0<(n:Int)
 nd:g.Nodup
 ok:m8 a b g
theorem isoL.g{n:Nat}{a b:D8}{g:D6}(h:isoL n a b g)(ha:bK n a):IsoG n a b λx=>(g.getD x 0).toNat where
 lt x hx:=by have:=h.rng x hx;omega
 inj x y hx hy e:=by
  have h1:=h.rng x hx
  have h2:=h.rng y hy
  have e:g.getD x 0=g.getD y 0:=by omega
  have l:=h.len
  rw[bM g 0 x (by omega),bM g 0 y (by omega)]at e
  exact(CM h.nd).1 e
 map k x y hk hx hy:=by
  have hv:=((ha k hk).2 x hx).2 y hy
  have l:=h.len
  rw[<-h.ok k x y hk (by omega) (by omega) (by omega)]
  have:=h.rng (en (a.getD k []) x y).toNat (by omega)
  omega
def dm(n:Nat)(a b:D8):Nat->D6->D7
 |0,f=>[f]
 |k+1,f=>(List.range n).flatMap λy:Nat=>if(y:Int)∈f\/dV a b (f++[(y:Int)])=false then []else dm n a b k (f++[(y:Int)])
structure preL (n:Nat) (a b:D8) (f:D6):Prop where
 rng:∀i,i<f.length->0<=f.getD i 0/\f.getD i 0<(n:Int)
 nd:f.Nodup
 ok:m8 a b f
theorem preL.snoc{n:Nat}{a b:D8}(ha:bK n a){f:D6}(h:preL n a b f){y:Nat}(hf:f.length<n)(hy:y<n)(h1:¬ (y:Int)∈f)(h2:dV a b (f++[(y:Int)])=true):preL n a b (f++[(y:Int)]) where
 rng i hi:=by
  simp at hi
  by_cases q:i<f.length
  ·rw[getD_append_left' _ _ _ _ q];exact h.rng i q
  ·rw[getD_append_right' _ _ _ _ (by omega),show i-f.length=0 by omega]
   simp;omega
 nd:=by rw[Ae];exact⟨h.nd,by simp,λx hx z hz=>by simp at hz;subst hz;intro e;subst e;exact h1 hx⟩
 ok:=(vF ha hf).2 ⟨h.ok,h2⟩
def o8(n:Nat)(a b:D8):∀(k:Nat) (f g:D6),g∈dm n a b k f->f <+: g/\g.length=f.length+k
 |0,f,g,h=>by simp[dm]at h;subst h;exact⟨List.prefix_refl _,rfl⟩
 |k+1,f,g,h=>by
  rw[dm]at h;obtain⟨y,_,h⟩:=Am.1 h;split at h
  ·cases h
  ·obtain⟨h1,h2⟩:=o8 n a b k _ g h
   exact⟨(List.prefix_append f [(y:Int)]).trans h1,by rw[h2];simp;omega⟩
def o9{n:Nat}{a b:D8}(ha:bK n a):∀(k:Nat) (f g:D6),f.length+k=n->preL n a b f->g∈dm n a b k f->isoL n a b g
 |0,f,g,hl,hp,h=>by
  simp[dm]at h;subst h
  exact⟨by omega,λi hi=>hp.rng i (by omega),hp.nd,hp.ok⟩
 |k+1,f,g,hl,hp,h=>by
  rw[dm]at h;obtain⟨y,hy,h⟩:=Am.1 h;split at h
  ·cases h
  ·rename_i hc
   exact o9 ha k _ g (by simp;omega) (hp.snoc ha (by omega) (Af.1 hy) (λq=>hc (.inl q)) (by cases e:dV a b (f++[(y:Int)]);exact absurd (.inr e) hc;rfl)) h
def OQ{a b:D8}{n:Nat}(ha:bK n a){g:D6}(hg:g.length=n)(h:m8 a b g)(i:Nat)(hi:i<=n):m8 a b (g.take i):=λk x y hk hx hy hv=>by
 rw[AP]at hx hy hv;have h0:=(((ha k hk).2 x (by omega)).2 y (by omega)).1
 rw[qg _ _ _ _ (by omega),qg _ _ _ _ (by omega),qg _ _ _ _ (by omega)]
 exact h k x y hk (by omega) (by omega) (by omega)
def OR{n:Nat}{a b:D8}(ha:bK n a){g:D6}(h:isoL n a b g):∀(k i:Nat),i+k=n->g∈dm n a b k (g.take i)
 |0,i,hi=>by
  have:=h.len
  rw[AU (by omega)];simp[dm]
 |k+1,i,hi=>by
  have L:=h.len
  have r:=h.rng i (by omega)
  have e:g.take (i+1)=g.take i++[(((g.getD i 0).toNat:Nat):Int)]:=by rw[Bj r.1,dZ g 0 i (by omega)]
  rw[dm];refine Am.2 ⟨(g.getD i 0).toNat,Af.2 (by omega),?_⟩
  have ok:=OQ ha L h.ok (i+1) (by omega)
  rw[e]at ok;have ok2:=((vF ha (by rw[AP];omega)).1 ok).2
  rw[AB,<-e]
  ·exact OR ha h k (i+1) (by omega)
  ·rintro(q|q)
   ·have nd:(g.take (i+1)).Nodup:=h.nd.sublist (DX _ _)
    rw[e,Ae]at nd;exact nd.2.2 _ q _ (by simp) rfl
   ·rw[ok2]at q;cases q
def OS:∀(p a b:D6),bw (p++a) (p++b)=bw a b
 | [],_,_=>rfl
 |x::p,a,b=>by rw[Bk,Bk,bw,AA rfl];exact OS p a b
def OT(n:Nat)(a b:D8):∀(k:Nat) (f:D6),fO (dm n a b k f)
 |0,f=>by simp[dm,fO]
 |k+1,f=>by
  rw[dm,fO,CZ];refine⟨λy _=>?_,?_⟩
  ·split
   ·exact List.Pairwise.nil
   ·exact OT n a b k _
  ·refine List.Pairwise.imp ?_ (List.pairwise_lt_range (n:=n))
   intro y z hyz p hp q hq
   split at hp
   ·cases hp
   ·split at hq
    ·cases hq
    ·obtain⟨⟨p',e1⟩,_⟩:=o8 n a b k _ p hp
     obtain⟨⟨q',e2⟩,_⟩:=o8 n a b k _ q hq;rw[<-e1,<-e2,Ap,Ap,OS];simp only[DB,bw];rw[AB (by omega)];simp;omega
/- The search. -/
def dA(g:Nat->D7->D7)(out:D7):Nat->D7
 |0=>out
 |y+1=>g y (dA g out y)
def eU(n:Nat)(a b:D8)(ζ:Nat)(rec:D6->D6->D6->D7->D7)(f c d:D6)(y:Nat)(o:D7):D7 :=
 if o.length<ζ then
  (if(y:Int)∈f\/¬ c.getD f.length 0=d.getD y 0\/dV a b (f++[(y:Int)])=false then o
   else match gR n a b (c.set f.length 60) (d.set y 60)with
    |none=>o
    |some (l,r)=>rec (f++[(y:Int)]) l r o)
 else o
def em(n:Nat)(a b:D8)(ζ:Nat):Nat->D6->D6->D6->D7->D7
 |0,f,_,_,out=>out++[f]
 |k+1,f,c,d,out=>dA (eU n a b ζ (em n a b ζ k) f c d) out n
def OU{n:Nat}{a b:D8}{ζ:Nat}{rec:D6->D6->D6->D7->D7}{f c d:D6}{out:D7}{y:Nat}(h:ζ<=(dA (eU n a b ζ rec f c d) out y).length) :
  ∀j,dA (eU n a b ζ rec f c d) out (y+j)=dA (eU n a b ζ rec f c d) out y
 |0=>rfl
 |j+1=>by
  rw[<-BU,dA,eU,OU h j,AB (by omega)]
def qO{n:Nat}{a b:D8}:∀(fuel num:Nat) (c d c' d':D6),ig n a b fuel num c d=some (c',d')->c'.length=n/\d'.length=n/\(∀x,x<n->0<=c'.getD x 0/\c'.getD x 0<2*(n:Int))/\∀x,x<n->0<=d'.getD x 0/\d'.getD x 0<2*(n:Int)
 |0,num,c,d,c',d',h=>by cases h
 |fuel+1,num,c,d,c',d',h=>by
  rw[ig]at h;split at h
  ·cases h
  ·rename_i c1 d1 m e
   have:=GV e
   obtain⟨l1,l2,l3,_,l5,l6⟩:=this;split at h
   ·cases h
    exact⟨l1,l2,λx hx=>⟨(l5 x hx).1,by have:=(l5 x hx).2;omega⟩,λx hx=>⟨(l6 x hx).1,by have:=(l6 x hx).2;omega⟩⟩
   ·exact qO fuel m c1 d1 c' d' h
def OW{n:Nat}{a b:D8}(ha:bK n a)(hab:b.length=a.length){ζ:Nat}:∀(k:Nat) (f c d:D6) (out:D7),f.length+k=n->preL n a b f->c.length=n->d.length=n->out.length<ζ ->
  (∀g,g∈dm n a b k f->∀x,x<n->c.getD x 0=d.getD (g.getD x 0).toNat 0)->em n a b ζ k f c d out=out++(dm n a b k f).take (ζ-out.length)
 |0,f,c,d,out,hl,hp,hc,hd,ho,hg=>by
  rw[em,dm,AU (by simp;omega)]
 |k+1,f,c,d,out,hl,hp,hc,hd,ho,hg=>by
  rw[em,dm];have key:∀y,y<=n->dA (eU n a b ζ (em n a b ζ k) f c d) out y=out++((List.range y).flatMap λy:Nat=>if(y:Int)∈f\/dV a b (f++[(y:Int)])=false then []else dm n a b k (f++[(y:Int)])).take (ζ-out.length):=λy=>by
   induction y with
   |zero=>intro _;simp[dA]
   |succ y ih =>
    intro hy
    have ih:=ih (by omega)
    rw[dA,ih,Br,Bz];simp only[Av,BX,AV];generalize hA:(List.range y).flatMap (λy:Nat=>if(y:Int)∈f\/dV a b (f++[(y:Int)])=false then []else dm n a b k (f++[(y:Int)]))=A
    rw[eU];by_cases ψ:(out++A.take (ζ-out.length)).length<ζ
    ·rw[AA ψ]
     have hA2:A.length<ζ-out.length:=by rw[Ag,AP]at ψ;omega
     rw[AU (by omega)]at ψ⊢
     rw[List.take_append,AU (l:=A) (by omega)]
     by_cases h1:(y:Int)∈f\/dV a b (f++[(y:Int)])=false
     ·rw[AA h1,AA (by rcases h1 with h1|h1;exact .inl h1;exact .inr (.inr h1))]
      simp
     ·rw[AB h1]
      have pre':preL n a b (f++[(y:Int)]):=hp.snoc ha (by omega) (by omega) (λq=>h1 (.inl q)) (by cases e:dV a b (f++[(y:Int)]);exact absurd (.inr e) h1;rfl)
      have sub:∀g,g∈dm n a b k (f++[(y:Int)])->g∈dm n a b (k+1) f/\g.getD f.length 0=(y:Int):=λg hg'=>by
       refine⟨by rw[dm];exact Am.2 ⟨y,Af.2 (by omega),by rw[AB h1];exact hg'⟩,?_⟩
       obtain⟨⟨g',e⟩,_⟩:=o8 n a b k _ g hg';rw[<-e,Ap,getD_append_right' _ _ _ _ (by omega)]
       simp
      by_cases h2:c.getD f.length 0=d.getD y 0
      ·rw[AB (by rintro(q|q|q);exact h1 (.inl q);exact q h2;exact h1 (.inr q))]
       have hcc:∀g,g∈dm n a b k (f++[(y:Int)])->∀x,x<n->(c.set f.length 60).getD x 0=(d.set y 60).getD (g.getD x 0).toNat 0:=λg hg' x hx=>by
        obtain⟨q1,q2⟩:=sub g hg';have iso:=o9 ha k _ g (by simp;omega) pre' hg'
        have hi:=(iso.g ha).lt x hx
        have inj:=(iso.g ha).inj x f.length hx (by omega)
        try dsimp only at hi inj
        rw[q2,An]at inj;rw[jb _ _ _ _ (by omega),jb _ _ _ _ (by omega)]
        by_cases e:x=f.length
        ·subst e;rw[AA rfl,AA (by rw[q2];simp)]
        ·rw[AB e,AB (λq=>e (inj q))]
         exact hg g q1 x hx
       cases hr:gR n a b (c.set f.length 60) (d.set y 60)with
       |none =>
        have:dm n a b k (f++[(y:Int)])=[]:=by
         cases hx:dm n a b k (f++[(y:Int)])with
         |nil=>rfl
         |cons g r =>
          have hg':g∈dm n a b k (f++[(y:Int)]):=by rw[hx];simp
          have iso:=o9 ha k _ g (by simp;omega) pre' hg'
          obtain⟨_,_,e,_⟩:=vY (iso.g ha) ha hab (c:=c.set f.length 60) (d:=d.set y 60) (by simpa using hc) (by simpa using hd) (hcc g hg')
          rw[hr]at e;cases e
        rw[this];simp
       |some lr =>
        obtain⟨l,r⟩:=lr;simp only;obtain⟨e1,e2,_,_⟩:=qO _ _ _ _ _ _ hr;rw[OW ha hab k _ l r _ (by simp;omega) pre' e1 e2 ψ λg hg'=>?_]
        ·rw[Ap,show ζ-(out++A).length=ζ-out.length-A.length by rw[Ag];omega]
        ·have iso:=o9 ha k _ g (by simp;omega) pre' hg'
         obtain⟨c',d',e,h3⟩:=vY (iso.g ha) ha hab (c:=c.set f.length 60) (d:=d.set y 60) (by simpa using hc) (by simpa using hd) (hcc g hg')
         rw[hr]at e;cases e;exact h3
      ·rw[AA (.inr (.inl h2))]
       have:dm n a b k (f++[(y:Int)])=[]:=by
        cases hx:dm n a b k (f++[(y:Int)])with
        |nil=>rfl
        |cons g r =>
         obtain⟨q1,q2⟩:=sub g (by rw[hx];simp)
         have:=hg g q1 f.length (by omega)
         rw[q2,An]at this;exact absurd this h2
       rw[this];simp
    ·rw[AB ψ]
     have:ζ-out.length<=A.length:=by rw[Ag,AP]at ψ;omega
     rw[List.take_append_of_le_length this]
  exact key n (AE _)
def m9(n:Nat)(a b:D8)(ζ:Nat):D7 :=
 if dV a b [0]=false then []else match gR n a b ((List.replicate n 0).set 0 60) ((List.replicate n 0).set 0 60)with
  |none=>[]
  |some (l,r)=>em n a b ζ (n-1) [0] l r []
def dL(n:Nat)(a b:D8):D7:=if dV a b [0]=false then []else dm n a b (n-1) [0]
def OX{n:Nat}{a b:D8}(ha:bK n a)(hn:1<=n)(h:dV a b [0]=true):preL n a b [0] where
 rng i hi:=by simp at hi;subst hi;simp;omega
 nd:=by simp
 ok:=((vF (f:=[]) (y:=0) ha (by simp;omega)).2 ⟨λk x y _ hx=>by simp at hx,h⟩)
def pa{n:Nat}{a b:D8}(ha:bK n a)(hab:b.length=a.length)(hn:1<=n){ζ:Nat}(hm:1<=ζ):m9 n a b ζ=(dL n a b).take ζ:=by
 rw[m9,dL];by_cases h:dV a b [0]=false
 ·rw[AA h,AA h,List.take_nil]
 ·rw[AB h,AB h]
  have h':dV a b [0]=true:=by cases e:dV a b [0];exact absurd e h;rfl
  have pre:=OX ha hn h'
  have l0:((List.replicate n (0:Int)).set 0 60).length=n:=by simp
  have hcc:∀g,g∈dm n a b (n-1) [0]->isoL n a b g/\∀x,x<n->((List.replicate n (0:Int)).set 0 60).getD x 0=((List.replicate n (0:Int)).set 0 60).getD (g.getD x 0).toNat 0:=λg hg=>by
   have iso:=o9 ha (n-1) _ g (by simp;omega) pre hg
   obtain⟨⟨g',e⟩,_⟩:=o8 n a b (n-1) _ g hg;have g0:g.getD 0 0=0:=by rw[<-e];rfl
   refine⟨iso,λx hx=>?_⟩
   have hi:=(iso.g ha).lt x hx
   have inj:=(iso.g ha).inj x 0 hx (by omega)
   try dsimp only at hi inj
   rw[g0]at inj;rw[jb _ _ _ _ (by simpa using hx),jb _ _ _ _ (by simpa using hi)]
   by_cases ex:x=0
   ·subst ex;rw[AA rfl,AA (by rw[g0];rfl)]
   ·rw[AB ex,AB (λq=>ex (inj (by simpa using q)))]
    have z:∀i,i<n->(List.replicate n (0:Int)).getD i 0=0:=λi hi=>by simp[AM,hi]
    rw[z _ hx,z _ hi]
  cases hr:gR n a b ((List.replicate n 0).set 0 60) ((List.replicate n 0).set 0 60)with
  |none =>
   have:dm n a b (n-1) [0]=[]:=by
    cases hx:dm n a b (n-1) [0]with
    |nil=>rfl
    |cons g r =>
     obtain⟨iso,h2⟩:=hcc g (by rw[hx];simp)
     obtain⟨_,_,e,_⟩:=vY (iso.g ha) ha hab l0 l0 h2;rw[hr]at e;cases e
   rw[this,List.take_nil]
  |some lr =>
   obtain⟨l,r⟩:=lr;simp only;obtain⟨e1,e2,_,_⟩:=qO _ _ _ _ _ _ hr;rw[OW ha hab (n-1) [0] l r [] (by simp;omega) pre e1 e2 (by simp;omega) λg hg=>?_]
   ·simp
   ·obtain⟨iso,h2⟩:=hcc g hg
    obtain⟨c',d',e,h3⟩:=vY (iso.g ha) ha hab l0 l0 h2;rw[hr]at e;cases e;exact h3
def na{n:Nat}{a b:D8}(ha:bK n a)(hn:1<=n){g:D6}:g∈dL n a b↔isoL n a b g/\g.getD 0 0=0:=by
 constructor
 ·intro h
  rw[dL]at h;split at h
  ·cases h
  ·rename_i h'
   have h':dV a b [0]=true:=by cases e:dV a b [0];exact absurd e h';rfl
   obtain⟨⟨g',e⟩,_⟩:=o8 n a b (n-1) _ g h;exact⟨o9 ha (n-1) _ g (by simp;omega) (OX ha hn h') h,by rw[<-e];rfl⟩
 ·rintro⟨h,h0⟩
  have t1:g.take 1=[0]:=by
   have:=h.len
   rw[<-dZ g 0 0 (by omega),h0];rfl
  have ok:=OQ ha h.len h.ok 1 hn
  rw[t1]at ok;have h':=((vF (f:=[]) (y:=0) ha (by simp;omega)).1 ok).2
  have h':dV a b [0]=true:=h'
  rw[dL,AB (by rw[h'];simp)]
  have:=OR ha h (n-1) 1 (by omega)
  rwa[t1]at this
def OY(n:Nat)(a b:D8):fO (dL n a b):=by
 rw[dL];split
 ·exact List.Pairwise.nil
 ·exact OT _ _ _ _ _
def Y6{a b:D6}{i:Nat}(ha:i<a.length)(hb:i<b.length):bw (a.drop i) (b.drop i)=if a.getD i 0=b.getD i 0 then bw (a.drop (i+1)) (b.drop (i+1))else decide (a.getD i 0<b.getD i 0):=by
 rw[drop_cons' a 0 i ha,drop_cons' b 0 i hb,bw]
def OZ{a b:D6}{i:Nat}(ha:i<=a.length)(hb:i<=b.length)(h:¬ (i<a.length/\i<b.length)):bw (a.drop i) (b.drop i)=decide (a.length<b.length):=by
 by_cases q:i<b.length
 ·rw[drop_cons' b 0 i q,BE (by omega),bw]
  exact(Ab (by omega)).symm
 ·rw[BE (l:=b) (by omega)]
  cases a.drop i<;>exact(Ad (by omega)).symm
def vH:List AD->Option Post
 | [.c (.ints .i64 a),.c (.ints .i64 b)]=>some ⟨au a.length,.c (.bool (bw a b)),[]⟩
 |_=>none
def O0(a:D6)(b:D6):Nat->Option Ann
 |0=>Q' λi=>⟨⟨[(0,D' a),(1,D' b),(5,A' i)],[]⟩,i<=a.length/\i<=b.length/\bw a b=bw (a.drop i) (b.drop i),a.length-i⟩
 |_=>none
def O6:Fits Tryz.prog 203 ⟨[],vH⟩:=by
 refine ffv (Γ:=ah []) aN Tryz.func203 λds p h ξ=>?_
 unfold vH at h;split at h<;>cases h
 rename_i a b
 refine⟨aj,O0 a b,(∃x0:Nat,(x0<=a.length/\x0<=b.length/\bw a b=bw (List.drop x0 a) (List.drop x0 b))/\a=a/\b=b/\(0:Int)=(x0:Int))/\∀x1:Nat,x1<=a.length/\x1<=b.length/\bw a b=bw (List.drop x1 a) (List.drop x1 b)->ab (decide ((x1:Int)<(a.length:Int))) (ab (decide ((x1:Int)<(b.length:Int))) (ac (x1:Int) a.length/\ac (x1:Int) b.length/\ab (a.getD (x1:Int).toNat (0:Int) != b.getD (x1:Int).toNat (0:Int)) (ac (x1:Int) a.length/\ac (x1:Int) b.length/\decide (a.getD (x1:Int).toNat (0:Int)<b.getD (x1:Int).toNat (0:Int))=bw a b/\True) (ae ((x1:Int)+(1:Int))/\∃x2:Nat,(x2<=a.length/\x2<=b.length/\bw a b=bw (List.drop x2 a) (List.drop x2 b))/\a.length-x2<a.length-x1/\a=a/\b=b/\(x1:Int)+(1:Int)=(x2:Int))) (decide ((a.length:Int)<(b.length:Int))=bw a b/\True)) (decide ((a.length:Int)<(b.length:Int))=bw a b/\True),by kernel_rfl,?_⟩
 simp only[aO]at ξ⊢;refine⟨⟨0,⟨by omega,by omega,rfl⟩,rfl⟩,λi ⟨h1,h2,h3⟩=>⟨λha=>⟨λhb=>?_,λhb=>?_⟩,λha=>?_⟩⟩
 ·have s:=Y6 (a:=a) (b:=b) (i:=i) (by omega) (by omega)
  refine⟨by omega,by omega,λq=>⟨by omega,by omega,?_⟩,λq=>⟨by omega,i+1,⟨by omega,by omega,?_⟩,by omega,by omega⟩⟩
  ·rw[h3,s,AB q]
  ·rw[h3,s,AA q]
 ·rw[h3,OZ h1 h2 (by omega)];exact decide_eq_decide.2 (by omega)
 ·rw[h3,OZ h1 h2 (by omega)];exact decide_eq_decide.2 (by omega)
def nT(a:D8):Nat:=(a.getD 0 []).length
def O7{a b:D8}{f:D6}{k x y:Nat}(h:(f.length:Int)-1<en (a.getD k []) x y\/((x:Int)<(f.length:Int)-1/\(y:Int)<(f.length:Int)-1/\en (a.getD k []) x y<(f.length:Int)-1)):fN a b f k x y=true:=by
 rw[fN,BK,BK];rcases h with h|⟨h1,h2,h3⟩
 ·exact .inl (.inl (Ab h))
 ·exact .inl (.inr (by rw[Ab h1,Ab h2,Ab h3];rfl))
def Y9{a b:D8}{f:D6}{k x y:Nat}(h:¬ ((f.length:Int)-1<en (a.getD k []) x y\/((x:Int)<(f.length:Int)-1/\(y:Int)<(f.length:Int)-1/\en (a.getD k []) x y<(f.length:Int)-1))) :
  fN a b f k x y=decide (f.getD (en (a.getD k []) x y).toNat 0=en (b.getD k []) (f.getD x 0).toNat (f.getD y 0).toNat):=by
 rw[fN];have h1:decide ((f.length:Int)-1<en (a.getD k []) x y)=false:=Ad λq=>h (.inl q)
 have h2:(decide ((x:Int)<(f.length:Int)-1)&&(decide ((y:Int)<(f.length:Int)-1)&&decide (en (a.getD k []) x y<(f.length:Int)-1)))=false:=by
  rw[<-C4,AO,AO,Ai,Ai,Ai];exact λq=>h (.inr q)
 rw[h1,h2];rfl
def vJ:List AD->Option Post
 | [.c (.r3 .i64 a),.c (.r3 .i64 b),.c (.ints .i64 f)]=>some ⟨a.length<=1000/\nT a<=1000/\1<=f.length/\f.length<=nT a/\b.length=a.length/\bK (nT a) a/\bK (nT a) b/\(∀i,i<f.length->0<=f.getD i 0/\f.getD i 0<(nT a:Int)),.c (.bool (dV a b f)),[]⟩
 |_=>none
def O8(a:D8)(b:D8)(f:D6):Nat->Option Ann
 |0=>T' (λk=>⟨⟨[(0,I' a),(1,I' b),(2,D' f),(7,A' ((f.length:Int)-1)),(8,A' k)],[]⟩,(k<=a.length/\(∀k1,k1<k->m6 a b f k1=true)),a.length-k⟩) (λk b_=>match b_ with|2=>T' (λi=>⟨⟨[(0,I' a),(1,I' b),(2,D' f),(7,A' ((f.length:Int)-1)),(8,A' k),(9,A' i)],[]⟩,(k<a.length/\i<=f.length/\(∀i1,i1<i->mZ a b f k i1=true)),f.length-i⟩) (λi b_=>match b_ with|4=>T' (λj=>⟨⟨[(0,I' a),(1,I' b),(2,D' f),(7,A' ((f.length:Int)-1)),(8,A' k),(9,A' i),(10,A' j)],[]⟩,(i<f.length/\j<=f.length/\(∀j1,j1<j->fN a b f k i j1=true)),f.length-j⟩) (λj b_=>match b_ with|1013=>some (Ann.mk ((Unit)) (λu=>⟨[(0,I' a),(1,I' b),(2,D' f),(7,A' ((f.length:Int)-1)),(8,A' k),(9,A' i),(10,A' j),(11,A' (en (a.getD k []) i j))],[]⟩) (λu=>j<f.length/\¬ ((f.length:Int)-1<en (a.getD k []) i j\/((i:Int)<(f.length:Int)-1/\(j:Int)<(f.length:Int)-1/\en (a.getD k []) i j<(f.length:Int)-1))) (λu=>0) (λ_=>ar))|_=>none)|_=>none)|_=>none)
 |_=>none
def Pa:Fits Tryz.prog 176 ⟨[],vJ⟩:=by
 refine ffv (Γ:=ah []) aN Tryz.func176 λds p h ξ=>?_
 unfold vJ at h;split at h<;>cases h
 rename_i a b f
 refine⟨aj,O8 a b f,ae ((f.length:Int)-(1:Int))/\(∃x0:Nat,(x0<=a.length/\∀(k1:Nat),k1<x0->m6 a b f k1=true)/\a=a/\b=b/\f=f/\(f.length:Int)-(1:Int)=(f.length:Int)-(1:Int)/\(0:Int)=(x0:Int))/\∀x1:Nat,(x1<=a.length/\∀(k1:Nat),k1<x1->m6 a b f k1=true)->ab (decide ((x1:Int)<(a.length:Int))) ((∃x2:Nat,(x1<a.length/\x2<=f.length/\∀(i1:Nat),i1<x2->mZ a b f x1 i1=true)/\a=a/\b=b/\f=f/\(f.length:Int)-(1:Int)=(f.length:Int)-(1:Int)/\(x1:Int)=(x1:Int)/\(0:Int)=(x2:Int))/\∀x3:Nat,(x1<a.length/\x3<=f.length/\∀(i1:Nat),i1<x3->mZ a b f x1 i1=true)->ab (decide ((x3:Int)<=(f.length:Int)-(1:Int))) ((∃x4:Nat,(x3<f.length/\x4<=f.length/\∀(j1:Nat),j1<x4->fN a b f x1 x3 j1=true)/\a=a/\b=b/\f=f/\(f.length:Int)-(1:Int)=(f.length:Int)-(1:Int)/\(x1:Int)=(x1:Int)/\(x3:Int)=(x3:Int)/\(0:Int)=(x4:Int))/\∀x5:Nat,(x3<f.length/\x5<=f.length/\∀(j1:Nat),j1<x5->fN a b f x1 x3 j1=true)->ab (decide ((x5:Int)<=(f.length:Int)-(1:Int))) (ac (x1:Int) a.length/\ac (x3:Int) ((a.getD (x1:Int).toNat ([]:D7)).length)/\ac (x5:Int) (((List.getD a (x1:Int).toNat ([]:D7)).getD (x3:Int).toNat []).length)/\ab (decide ((f.length:Int)-(1:Int)<(List.getD (List.getD a (x1:Int).toNat ([]:D7)) (x3:Int).toNat []).getD (x5:Int).toNat (0:Int))) (ae ((x5:Int)+(1:Int))/\∃x6:Nat,(x3<f.length/\x6<=f.length/\∀(j1:Nat),j1<x6->fN a b f x1 x3 j1=true)/\f.length-x6<f.length-x5/\a=a/\b=b/\f=f/\(f.length:Int)-(1:Int)=(f.length:Int)-(1:Int)/\(x1:Int)=(x1:Int)/\(x3:Int)=(x3:Int)/\(x5:Int)+(1:Int)=(x6:Int)) (ab (decide ((x3:Int)<(f.length:Int)-(1:Int))) (ab (decide ((x5:Int)<(f.length:Int)-(1:Int))) (ab (decide ((List.getD (List.getD a (x1:Int).toNat ([]:D7)) (x3:Int).toNat []).getD (x5:Int).toNat (0:Int)<(f.length:Int)-(1:Int))) (ae ((x5:Int)+(1:Int))/\∃x7:Nat,(x3<f.length/\x7<=f.length/\∀(j1:Nat),j1<x7->fN a b f x1 x3 j1=true)/\f.length-x7<f.length-x5/\a=a/\b=b/\f=f/\(f.length:Int)-(1:Int)=(f.length:Int)-(1:Int)/\(x1:Int)=(x1:Int)/\(x3:Int)=(x3:Int)/\(x5:Int)+(1:Int)=(x7:Int)) (∃x8:Unit,(x5<f.length/\(¬((f.length:Int)-(1:Int)<en (a.getD x1 ([]:D7)) x3 x5\/(x3:Int)<(f.length:Int)-(1:Int)/\(x5:Int)<(f.length:Int)-(1:Int)/\en (a.getD x1 ([]:D7)) x3 x5<(f.length:Int)-(1:Int))))/\a=a/\b=b/\f=f/\(f.length:Int)-(1:Int)=(f.length:Int)-(1:Int)/\(x1:Int)=(x1:Int)/\(x3:Int)=(x3:Int)/\(x5:Int)=(x5:Int)/\(List.getD (List.getD a (x1:Int).toNat ([]:D7)) (x3:Int).toNat []).getD (x5:Int).toNat (0:Int)=en (a.getD x1 ([]:D7)) x3 x5)) (∃x9:Unit,(x5<f.length/\(¬((f.length:Int)-(1:Int)<en (a.getD x1 ([]:D7)) x3 x5\/(x3:Int)<(f.length:Int)-(1:Int)/\(x5:Int)<(f.length:Int)-(1:Int)/\en (a.getD x1 ([]:D7)) x3 x5<(f.length:Int)-(1:Int))))/\a=a/\b=b/\f=f/\(f.length:Int)-(1:Int)=(f.length:Int)-(1:Int)/\(x1:Int)=(x1:Int)/\(x3:Int)=(x3:Int)/\(x5:Int)=(x5:Int)/\(List.getD (List.getD a (x1:Int).toNat ([]:D7)) (x3:Int).toNat []).getD (x5:Int).toNat (0:Int)=en (a.getD x1 ([]:D7)) x3 x5)) (∃x10:Unit,(x5<f.length/\(¬((f.length:Int)-(1:Int)<en (a.getD x1 ([]:D7)) x3 x5\/(x3:Int)<(f.length:Int)-(1:Int)/\(x5:Int)<(f.length:Int)-(1:Int)/\en (a.getD x1 ([]:D7)) x3 x5<(f.length:Int)-(1:Int))))/\a=a/\b=b/\f=f/\(f.length:Int)-(1:Int)=(f.length:Int)-(1:Int)/\(x1:Int)=(x1:Int)/\(x3:Int)=(x3:Int)/\(x5:Int)=(x5:Int)/\(List.getD (List.getD a (x1:Int).toNat ([]:D7)) (x3:Int).toNat []).getD (x5:Int).toNat (0:Int)=en (a.getD x1 ([]:D7)) x3 x5))/\∀x11:Unit,x5<f.length/\(¬((f.length:Int)-(1:Int)<en (a.getD x1 ([]:D7)) x3 x5\/(x3:Int)<(f.length:Int)-(1:Int)/\(x5:Int)<(f.length:Int)-(1:Int)/\en (a.getD x1 ([]:D7)) x3 x5<(f.length:Int)-(1:Int)))->ac (en (a.getD x1 ([]:D7)) x3 x5) f.length/\ac (x1:Int) b.length/\ac (x3:Int) f.length/\ac (f.getD (x3:Int).toNat (0:Int)) ((b.getD (x1:Int).toNat ([]:D7)).length)/\ac (x5:Int) f.length/\ac (f.getD (x5:Int).toNat (0:Int)) (((List.getD b (x1:Int).toNat ([]:D7)).getD ((f.getD (x3:Int).toNat (0:Int)).toNat) []).length)/\ab (f.getD ((en (a.getD x1 ([]:D7)) x3 x5).toNat) (0:Int) != (List.getD (List.getD b (x1:Int).toNat ([]:D7)) ((List.getD f (x3:Int).toNat (0:Int)).toNat) []).getD ((f.getD (x5:Int).toNat (0:Int)).toNat) (0:Int)) (false=dV a b f/\True) (ae ((x5:Int)+(1:Int))/\∃x12:Nat,(x3<f.length/\x12<=f.length/\∀(j1:Nat),j1<x12->fN a b f x1 x3 j1=true)/\f.length-x12<f.length-x5/\a=a/\b=b/\f=f/\(f.length:Int)-(1:Int)=(f.length:Int)-(1:Int)/\(x1:Int)=(x1:Int)/\(x3:Int)=(x3:Int)/\(x5:Int)+(1:Int)=(x12:Int))) (ae ((x3:Int)+(1:Int))/\∃x13:Nat,(x1<a.length/\x13<=f.length/\∀(i1:Nat),i1<x13->mZ a b f x1 i1=true)/\f.length-x13<f.length-x3/\a=a/\b=b/\f=f/\(f.length:Int)-(1:Int)=(f.length:Int)-(1:Int)/\(x1:Int)=(x1:Int)/\(x3:Int)+(1:Int)=(x13:Int))) (ae ((x1:Int)+(1:Int))/\∃x14:Nat,(x14<=a.length/\∀(k1:Nat),k1<x14->m6 a b f k1=true)/\a.length-x14<a.length-x1/\a=a/\b=b/\f=f/\(f.length:Int)-(1:Int)=(f.length:Int)-(1:Int)/\(x1:Int)+(1:Int)=(x14:Int))) (true=dV a b f/\True),by kernel_rfl,?_⟩
 simp only[aO]at ξ⊢;obtain⟨h1,h2,h3,h4,h5,h6,h7,h8⟩:=ξ;refine⟨by omega,⟨0,⟨by omega,λ_ h=>by omega⟩,rfl⟩,λk ⟨hk,ik⟩=>⟨λhk2=>⟨⟨0,⟨by omega,by omega,λ_ h=>by omega⟩,rfl⟩,λi ⟨hka,hi,ii⟩=>⟨λhi2=>⟨⟨0,⟨by omega,by omega,λ_ h=>by omega⟩,rfl⟩,λj ⟨hia,hj,ij⟩=>⟨λhj2=>?_,λhj2=>?_⟩⟩,λhi2=>?_⟩⟩,λhk2=>?_⟩⟩
 ·have A:=h6 k hka
  have E:=(A.2 i (by omega)).2 j (by omega)
  have L1:(a.getD k []).length=nT a:=A.1
  have L2:=(A.2 i (by omega)).1
  have next:fN a b f k i j=true->∀j1,j1<j+1->fN a b f k i j1=true:=λh j1 q=>by
   by_cases e:j1=j
   ·subst e;exact h
   ·exact ij j1 (by omega)
  refine⟨by omega,by omega,by omega,⟨λq=>⟨by omega,j+1,⟨by omega,by omega,next (O7 (.inl q))⟩,by omega,by omega⟩,λq=>⟨λq2=>⟨λq3=>⟨λq4=>⟨by omega,j+1,⟨by omega,by omega,next (O7 (.inr ⟨q2,q3,q4⟩))⟩,by omega,by omega⟩,λq4=>⟨⟨⟩,⟨by omega,?_⟩,rfl⟩⟩,λq3=>⟨⟨⟩,⟨by omega,?_⟩,rfl⟩⟩,λq2=>⟨⟨⟩,⟨by omega,?_⟩,rfl⟩⟩⟩,λu ⟨_,hn⟩=>?_⟩
  ·rintro(z|⟨_,_,z⟩)
   ·exact q z
   ·exact q4 z
  ·rintro(z|⟨_,z,_⟩)
   ·exact q z
   ·exact q3 z
  ·rintro(z|⟨z,_,_⟩)
   ·exact q z
   ·exact q2 z
  ·have B:=h7 k (by omega)
   have L3:(b.getD k []).length=nT a:=B.1
   have fi:=h8 i (by omega)
   have fj:=h8 j (by omega)
   have L4:=(B.2 (f.getD i 0).toNat (by omega)).1
   have T:fN a b f k i j=decide (f.getD (en (a.getD k []) i j).toNat 0=((b.getD k []).getD (f.getD i 0).toNat []).getD (f.getD j 0).toNat 0):=Y9 hn
   have v:en (a.getD k []) i j<(f.length:Int):=by
    have:=λz=>hn (.inl z)
    omega
   refine⟨by omega,by omega,by omega,by omega,by omega,by omega,λq=>?_,λq=>⟨by omega,j+1,⟨by omega,by omega,next ?_⟩,by omega,by omega⟩⟩
   ·rw[Ad q]at T
    cases z:dV a b f
    ·rfl
    ·rw[Gk.1 z k i j (by omega) (by omega) (by omega)]at T;cases T
   ·rw[T];exact Ab q
 ·refine⟨by omega,i+1,⟨by omega,by omega,λi1 q=>?_⟩,by omega,by omega⟩
  by_cases e:i1=i
  ·subst e
   rw[mZ,Ac];intro y hy
   exact ij y (by have:=Af.1 hy;omega)
  ·exact ii i1 (by omega)
 ·refine⟨by omega,k+1,⟨by omega,λk1 q=>?_⟩,by omega,by omega⟩
  by_cases e:k1=k
  ·subst e
   rw[m6,Ac];intro y hy
   exact ii y (by have:=Af.1 hy;omega)
  ·exact ik k1 (by omega)
 ·symm
  rw[dV,Ac];intro y hy
  exact ik y (by have:=Af.1 hy;omega)
end Go.Sx
