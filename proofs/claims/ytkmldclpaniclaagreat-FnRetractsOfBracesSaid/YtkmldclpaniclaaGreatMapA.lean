/- MapA -/
import Derived.Test.YtkmldclpaniclaaGreatMapQ
set_option linter.unusedSimpArgs false
set_option linter.unusedVariables false
set_option linter.defProp false
open Go Go.Proofs
namespace Go.Sx
def fq(a b:Dd)(f:Db)(k x y:Nat):Bool :=
 decide ((f.length:Int)-1<en (a.getD k []) x y)||(decide ((x:Int)<(f.length:Int)-1)&&(decide ((y:Int)<(f.length:Int)-1)&&decide (en (a.getD k []) x y<(f.length:Int)-1))) ||
  decide (f.getD (en (a.getD k []) x y).toNat 0=en (b.getD k []) (f.getD x 0).toNat (f.getD y 0).toNat)
def mA(a b:Dd)(f:Db)(k x:Nat):Bool:=(List.range f.length).all (fq a b f k x)
def mB(a b:Dd)(f:Db)(k:Nat):Bool:=(List.range f.length).all (mA a b f k)
def dD(a b:Dd)(f:Db):Bool:=(List.range a.length).all (mB a b f)
def ol(a b:Dd)(f:Db):Prop:=∀k x y,k<a.length->x<f.length->y<f.length->en (a.getD k []) x y<(f.length:Int) ->
 f.getD (en (a.getD k []) x y).toNat 0=en (b.getD k []) (f.getD x 0).toNat (f.getD y 0).toNat
theorem Dx{a b:Dd}{f:Db}:dD a b f=true↔∀k x y,k<a.length->x<f.length->y<f.length->fq a b f k x y=true:=by
 simp only[dD,mB,mA,AM,AW];exact⟨fun h k x y hk hx hy=>h k hk x hx y hy,fun h k hk x hx y hy=>h k x y hk hx hy⟩
theorem tW{n:Nat}{a b:Dd}(ha:bN n a){f:Db}{y:Int}(hf:f.length<n):ol a b (f++[y])↔ol a b f/\dD a b (f++[y])=true:=by
 have L:(f++[y]).length=f.length+1:=by simp
 have lo:∀i,i<f.length->(f++[y]).getD i 0=f.getD i 0:=fun i hi=>getD_append_left' _ _ _ _ hi
 constructor
 ·intro h
  refine⟨fun k x z hk hx hz hv=>?_,Dx.2 fun k x z hk hx hz=>?_⟩
  ·have h0:=(((ha k hk).2 x (by omega)).2 z (by omega)).1
   have:=h k x z hk (by omega) (by omega) (by omega)
   rwa[lo _ (by omega),lo _ hx,lo _ hz]at this
  ·rw[fq,BI,BI]
   by_cases q:en (a.getD k []) x z<((f++[y]).length:Int)
   ·exact .inr (AY (h k x z hk hx hz q))
   ·exact .inl (.inl (AY (by omega)))
 ·rintro⟨h1,h2⟩ k x z hk hx hz hv
  have h3:=Dx.1 h2 k x z hk hx hz
  rw[fq,BI,BI]at h3;rcases h3 with(h3|h3)|h3
  ·have:=BS h3;omega
  ·rw[AG,AG,AQ,AQ,AQ]at h3
   obtain⟨q1,q2,q3⟩:=h3;have h0:=(((ha k hk).2 x (by omega)).2 z (by omega)).1
   rw[lo _ (by omega),lo _ (by omega),lo _ (by omega)]
   exact h1 k x z hk (by omega) (by omega) (by omega)
  ·exact BS h3
structure isoL (n:Nat) (a b:Dd) (g:Db):Prop where
 len:g.length=n
 rng:∀i,i<n->0<=g.getD i 0/\g.getD i 0<(n:Int)
 nd:g.Nodup
 ok:ol a b g
theorem isoL.g{n:Nat}{a b:Dd}{g:Db}(h:isoL n a b g)(ha:bN n a):IsoG n a b fun x=>(g.getD x 0).toNat where
 lt x hx:=by have:=h.rng x hx;omega
 inj x y hx hy e:=by
  have h1:=h.rng x hx
  have h2:=h.rng y hy
  have e:g.getD x 0=g.getD y 0:=by omega
  have l:=h.len
  rw[cg g 0 x (by omega),cg g 0 y (by omega)]at e
  exact(Cm h.nd).1 e
 map k x y hk hx hy:=by
  have hv:=((ha k hk).2 x hx).2 y hy
  have l:=h.len
  rw[<-h.ok k x y hk (by omega) (by omega) (by omega)]
  have:=h.rng (en (a.getD k []) x y).toNat (by omega)
  omega
def c8(n:Nat)(a b:Dd):Nat->Db->Dc
 |0,f=>[f]
 |k+1,f=>(List.range n).flatMap fun y:Nat=>if(y:Int)∈f\/dD a b (f++[(y:Int)])=false then []else c8 n a b k (f++[(y:Int)])
structure preL (n:Nat) (a b:Dd) (f:Db):Prop where
 rng:∀i,i<f.length->0<=f.getD i 0/\f.getD i 0<(n:Int)
 nd:f.Nodup
 ok:ol a b f
theorem preL.snoc{n:Nat}{a b:Dd}(ha:bN n a){f:Db}(h:preL n a b f){y:Nat}(hf:f.length<n)(hy:y<n)(h1:¬ (y:Int)∈f)(h2:dD a b (f++[(y:Int)])=true):preL n a b (f++[(y:Int)]) where
 rng i hi:=by
  simp at hi
  by_cases q:i<f.length
  ·rw[getD_append_left' _ _ _ _ q];exact h.rng i q
  ·rw[getD_append_right' _ _ _ _ (by omega),show i-f.length=0 by omega]
   simp;omega
 nd:=by rw[Ak];exact⟨h.nd,by simp,fun x hx z hz=>by simp at hz;subst hz;intro e;subst e;exact h1 hx⟩
 ok:=(tW ha hf).2 ⟨h.ok,h2⟩
theorem om(n:Nat)(a b:Dd):∀(k:Nat) (f g:Db),g∈c8 n a b k f->f <+: g/\g.length=f.length+k
 |0,f,g,h=>by simp[c8]at h;subst h;exact⟨List.prefix_refl _,rfl⟩
 |k+1,f,g,h=>by
  rw[c8]at h;obtain⟨y,_,h⟩:=Ao.1 h;split at h
  ·cases h
  ·obtain⟨h1,h2⟩:=om n a b k _ g h
   exact⟨(List.prefix_append f [(y:Int)]).trans h1,by rw[h2];simp;omega⟩
theorem oo{n:Nat}{a b:Dd}(ha:bN n a):∀(k:Nat) (f g:Db),f.length+k=n->preL n a b f->g∈c8 n a b k f->isoL n a b g
 |0,f,g,hl,hp,h=>by
  simp[c8]at h;subst h
  exact⟨by omega,fun i hi=>hp.rng i (by omega),hp.nd,hp.ok⟩
 |k+1,f,g,hl,hp,h=>by
  rw[c8]at h;obtain⟨y,hy,h⟩:=Ao.1 h;split at h
  ·cases h
  ·rename_i hc
   exact oo ha k _ g (by simp;omega) (hp.snoc ha (by omega) (AW.1 hy) (fun q=>hc (.inl q)) (by cases e:dD a b (f++[(y:Int)]);exact absurd (.inr e) hc;rfl)) h
theorem LC{a b:Dd}{n:Nat}(ha:bN n a){g:Db}(hg:g.length=n)(h:ol a b g)(i:Nat)(hi:i<=n):ol a b (g.take i):=fun k x y hk hx hy hv=>by
 rw[AS]at hx hy hv;have h0:=(((ha k hk).2 x (by omega)).2 y (by omega)).1
 rw[pq _ _ _ _ (by omega),pq _ _ _ _ (by omega),pq _ _ _ _ (by omega)]
 exact h k x y hk (by omega) (by omega) (by omega)
theorem LD{n:Nat}{a b:Dd}(ha:bN n a){g:Db}(h:isoL n a b g):∀(k i:Nat),i+k=n->g∈c8 n a b k (g.take i)
 |0,i,hi=>by
  have:=h.len
  rw[AU (by omega)];simp[c8]
 |k+1,i,hi=>by
  have L:=h.len
  have r:=h.rng i (by omega)
  have e:g.take (i+1)=g.take i++[(((g.getD i 0).toNat:Nat):Int)]:=by rw[CR r.1,eo g 0 i (by omega)]
  rw[c8];refine Ao.2 ⟨(g.getD i 0).toNat,AW.2 (by omega),?_⟩
  have ok:=LC ha L h.ok (i+1) (by omega)
  rw[e]at ok;have ok2:=((tW ha (by rw[AS];omega)).1 ok).2
  rw[AB,<-e]
  ·exact LD ha h k (i+1) (by omega)
  ·rintro(q|q)
   ·have nd:(g.take (i+1)).Nodup:=h.nd.sublist (Cu _ _)
    rw[e,Ak]at nd;exact nd.2.2 _ q _ (by simp) rfl
   ·rw[ok2]at q;cases q
theorem LE:∀(p a b:Db),bj (p++a) (p++b)=bj a b
 | [],_,_=>rfl
 |x::p,a,b=>by rw[BT,BT,bj,AA rfl];exact LE p a b
theorem LF(n:Nat)(a b:Dd):∀(k:Nat) (f:Db),f5 (c8 n a b k f)
 |0,f=>by simp[c8,f5]
 |k+1,f=>by
  rw[c8,f5,Cw];refine⟨fun y _=>?_,?_⟩
  ·split
   ·exact List.Pairwise.nil
   ·exact LF n a b k _
  ·refine List.Pairwise.imp ?_ (List.pairwise_lt_range (n:=n))
   intro y z hyz p hp q hq
   split at hp
   ·cases hp
   ·split at hq
    ·cases hq
    ·obtain⟨⟨p',e1⟩,_⟩:=om n a b k _ p hp
     obtain⟨⟨q',e2⟩,_⟩:=om n a b k _ q hq;rw[<-e1,<-e2,Ap,Ap,LE];simp only[CP,bj];rw[AB (by omega)];simp;omega
/- The search. -/
def dk(g:Nat->Dc->Dc)(out:Dc):Nat->Dc
 |0=>out
 |y+1=>g y (dk g out y)
def eA(n:Nat)(a b:Dd)(ζ:Nat)(rec:Db->Db->Db->Dc->Dc)(f c d:Db)(y:Nat)(o:Dc):Dc :=
 if o.length<ζ then
  (if(y:Int)∈f\/¬ c.getD f.length 0=d.getD y 0\/dD a b (f++[(y:Int)])=false then o
   else match gF n a b (c.set f.length 60) (d.set y 60)with
    |none=>o
    |some (l,r)=>rec (f++[(y:Int)]) l r o)
 else o
def dT(n:Nat)(a b:Dd)(ζ:Nat):Nat->Db->Db->Db->Dc->Dc
 |0,f,_,_,out=>out++[f]
 |k+1,f,c,d,out=>dk (eA n a b ζ (dT n a b ζ k) f c d) out n
theorem LG{n:Nat}{a b:Dd}{ζ:Nat}{rec:Db->Db->Db->Dc->Dc}{f c d:Db}{out:Dc}{y:Nat}(h:ζ<=(dk (eA n a b ζ rec f c d) out y).length) :
  ∀j,dk (eA n a b ζ rec f c d) out (y+j)=dk (eA n a b ζ rec f c d) out y
 |0=>rfl
 |j+1=>by
  rw[<-A0,dk,eA,LG h j,AB (by omega)]
theorem pV{n:Nat}{a b:Dd}:∀(fuel num:Nat) (c d c' d':Db),g4 n a b fuel num c d=some (c',d')->c'.length=n/\d'.length=n/\(∀x,x<n->0<=c'.getD x 0/\c'.getD x 0<2*(n:Int))/\∀x,x<n->0<=d'.getD x 0/\d'.getD x 0<2*(n:Int)
 |0,num,c,d,c',d',h=>by cases h
 |fuel+1,num,c,d,c',d',h=>by
  rw[g4]at h;split at h
  ·cases h
  ·rename_i c1 d1 m e
   have:=Ex e
   obtain⟨l1,l2,l3,_,l5,l6⟩:=this;split at h
   ·cases h
    exact⟨l1,l2,fun x hx=>⟨(l5 x hx).1,by have:=(l5 x hx).2;omega⟩,fun x hx=>⟨(l6 x hx).1,by have:=(l6 x hx).2;omega⟩⟩
   ·exact pV fuel m c1 d1 c' d' h
theorem LH{n:Nat}{a b:Dd}(ha:bN n a)(hab:b.length=a.length){ζ:Nat}:∀(k:Nat) (f c d:Db) (out:Dc),f.length+k=n->preL n a b f->c.length=n->d.length=n->out.length<ζ ->
  (∀g,g∈c8 n a b k f->∀x,x<n->c.getD x 0=d.getD (g.getD x 0).toNat 0)->dT n a b ζ k f c d out=out++(c8 n a b k f).take (ζ-out.length)
 |0,f,c,d,out,hl,hp,hc,hd,ho,hg=>by
  rw[dT,c8,AU (by simp;omega)]
 |k+1,f,c,d,out,hl,hp,hc,hd,ho,hg=>by
  rw[dT,c8];have key:∀y,y<=n->dk (eA n a b ζ (dT n a b ζ k) f c d) out y=out++((List.range y).flatMap fun y:Nat=>if(y:Int)∈f\/dD a b (f++[(y:Int)])=false then []else c8 n a b k (f++[(y:Int)])).take (ζ-out.length):=fun y=>by
   induction y with
   |zero=>intro _;simp[dk]
   |succ y ih =>
    intro hy
    have ih:=ih (by omega)
    rw[dk,ih,BR,Cy];simp only[Ba,List.flatMap_nil,Af];generalize hA:(List.range y).flatMap (fun y:Nat=>if(y:Int)∈f\/dD a b (f++[(y:Int)])=false then []else c8 n a b k (f++[(y:Int)]))=A
    rw[eA];by_cases ψ:(out++A.take (ζ-out.length)).length<ζ
    ·rw[AA ψ]
     have hA2:A.length<ζ-out.length:=by rw[Al,AS]at ψ;omega
     rw[AU (by omega)]at ψ⊢
     rw[List.take_append,AU (l:=A) (by omega)]
     by_cases h1:(y:Int)∈f\/dD a b (f++[(y:Int)])=false
     ·rw[AA h1,AA (by rcases h1 with h1|h1;exact .inl h1;exact .inr (.inr h1))]
      simp
     ·rw[AB h1]
      have pre':preL n a b (f++[(y:Int)]):=hp.snoc ha (by omega) (by omega) (fun q=>h1 (.inl q)) (by cases e:dD a b (f++[(y:Int)]);exact absurd (.inr e) h1;rfl)
      have sub:∀g,g∈c8 n a b k (f++[(y:Int)])->g∈c8 n a b (k+1) f/\g.getD f.length 0=(y:Int):=fun g hg'=>by
       refine⟨by rw[c8];exact Ao.2 ⟨y,AW.2 (by omega),by rw[AB h1];exact hg'⟩,?_⟩
       obtain⟨⟨g',e⟩,_⟩:=om n a b k _ g hg';rw[<-e,Ap,getD_append_right' _ _ _ _ (by omega)]
       simp
      by_cases h2:c.getD f.length 0=d.getD y 0
      ·rw[AB (by rintro(q|q|q);exact h1 (.inl q);exact q h2;exact h1 (.inr q))]
       have hcc:∀g,g∈c8 n a b k (f++[(y:Int)])->∀x,x<n->(c.set f.length 60).getD x 0=(d.set y 60).getD (g.getD x 0).toNat 0:=fun g hg' x hx=>by
        obtain⟨q1,q2⟩:=sub g hg';have iso:=oo ha k _ g (by simp;omega) pre' hg'
        have hi:=(iso.g ha).lt x hx
        have inj:=(iso.g ha).inj x f.length hx (by omega)
        try dsimp only at hi inj
        rw[q2,AP]at inj;rw[kq _ _ _ _ (by omega),kq _ _ _ _ (by omega)]
        by_cases e:x=f.length
        ·subst e;rw[AA rfl,AA (by rw[q2];simp)]
        ·rw[AB e,AB (fun q=>e (inj q))]
         exact hg g q1 x hx
       cases hr:gF n a b (c.set f.length 60) (d.set y 60)with
       |none =>
        have:c8 n a b k (f++[(y:Int)])=[]:=by
         cases hx:c8 n a b k (f++[(y:Int)])with
         |nil=>rfl
         |cons g r =>
          have hg':g∈c8 n a b k (f++[(y:Int)]):=by rw[hx];simp
          have iso:=oo ha k _ g (by simp;omega) pre' hg'
          obtain⟨_,_,e,_⟩:=ur (iso.g ha) ha hab (c:=c.set f.length 60) (d:=d.set y 60) (by simpa using hc) (by simpa using hd) (hcc g hg')
          rw[hr]at e;cases e
        rw[this];simp
       |some lr =>
        obtain⟨l,r⟩:=lr;simp only;obtain⟨e1,e2,_,_⟩:=pV _ _ _ _ _ _ hr;rw[LH ha hab k _ l r _ (by simp;omega) pre' e1 e2 ψ fun g hg'=>?_]
        ·rw[Ap,show ζ-(out++A).length=ζ-out.length-A.length by rw[Al];omega]
        ·have iso:=oo ha k _ g (by simp;omega) pre' hg'
         obtain⟨c',d',e,h3⟩:=ur (iso.g ha) ha hab (c:=c.set f.length 60) (d:=d.set y 60) (by simpa using hc) (by simpa using hd) (hcc g hg')
         rw[hr]at e;cases e;exact h3
      ·rw[AA (.inr (.inl h2))]
       have:c8 n a b k (f++[(y:Int)])=[]:=by
        cases hx:c8 n a b k (f++[(y:Int)])with
        |nil=>rfl
        |cons g r =>
         obtain⟨q1,q2⟩:=sub g (by rw[hx];simp)
         have:=hg g q1 f.length (by omega)
         rw[q2,AP]at this;exact absurd this h2
       rw[this];simp
    ·rw[AB ψ]
     have:ζ-out.length<=A.length:=by rw[Al,AS]at ψ;omega
     rw[List.take_append_of_le_length this]
  exact key n (AE _)
def mC(n:Nat)(a b:Dd)(ζ:Nat):Dc :=
 if dD a b [0]=false then []else match gF n a b ((List.replicate n 0).set 0 60) ((List.replicate n 0).set 0 60)with
  |none=>[]
  |some (l,r)=>dT n a b ζ (n-1) [0] l r []
def ff(n:Nat)(a b:Dd):Dc:=if dD a b [0]=false then []else c8 n a b (n-1) [0]
theorem LI{n:Nat}{a b:Dd}(ha:bN n a)(hn:1<=n)(h:dD a b [0]=true):preL n a b [0] where
 rng i hi:=by simp at hi;subst hi;simp;omega
 nd:=by simp
 ok:=((tW (f:=[]) (y:=0) ha (by simp;omega)).2 ⟨fun k x y _ hx=>by simp at hx,h⟩)
theorem LJ{n:Nat}{a b:Dd}(ha:bN n a)(hab:b.length=a.length)(hn:1<=n){ζ:Nat}(hm:1<=ζ):mC n a b ζ=(ff n a b).take ζ:=by
 rw[mC,ff];by_cases h:dD a b [0]=false
 ·rw[AA h,AA h,List.take_nil]
 ·rw[AB h,AB h]
  have h':dD a b [0]=true:=by cases e:dD a b [0];exact absurd e h;rfl
  have pre:=LI ha hn h'
  have l0:((List.replicate n (0:Int)).set 0 60).length=n:=by simp
  have hcc:∀g,g∈c8 n a b (n-1) [0]->isoL n a b g/\∀x,x<n->((List.replicate n (0:Int)).set 0 60).getD x 0=((List.replicate n (0:Int)).set 0 60).getD (g.getD x 0).toNat 0:=fun g hg=>by
   have iso:=oo ha (n-1) _ g (by simp;omega) pre hg
   obtain⟨⟨g',e⟩,_⟩:=om n a b (n-1) _ g hg;have g0:g.getD 0 0=0:=by rw[<-e];rfl
   refine⟨iso,fun x hx=>?_⟩
   have hi:=(iso.g ha).lt x hx
   have inj:=(iso.g ha).inj x 0 hx (by omega)
   try dsimp only at hi inj
   rw[g0]at inj;rw[kq _ _ _ _ (by simpa using hx),kq _ _ _ _ (by simpa using hi)]
   by_cases ex:x=0
   ·subst ex;rw[AA rfl,AA (by rw[g0];rfl)]
   ·rw[AB ex,AB (fun q=>ex (inj (by simpa using q)))]
    have z:∀i,i<n->(List.replicate n (0:Int)).getD i 0=0:=fun i hi=>by simp[AN,hi]
    rw[z _ hx,z _ hi]
  cases hr:gF n a b ((List.replicate n 0).set 0 60) ((List.replicate n 0).set 0 60)with
  |none =>
   have:c8 n a b (n-1) [0]=[]:=by
    cases hx:c8 n a b (n-1) [0]with
    |nil=>rfl
    |cons g r =>
     obtain⟨iso,h2⟩:=hcc g (by rw[hx];simp)
     obtain⟨_,_,e,_⟩:=ur (iso.g ha) ha hab l0 l0 h2;rw[hr]at e;cases e
   rw[this,List.take_nil]
  |some lr =>
   obtain⟨l,r⟩:=lr;simp only;obtain⟨e1,e2,_,_⟩:=pV _ _ _ _ _ _ hr;rw[LH ha hab (n-1) [0] l r [] (by simp;omega) pre e1 e2 (by simp;omega) fun g hg=>?_]
   ·simp
   ·obtain⟨iso,h2⟩:=hcc g hg
    obtain⟨c',d',e,h3⟩:=ur (iso.g ha) ha hab l0 l0 h2;rw[hr]at e;cases e;exact h3
theorem Dy{n:Nat}{a b:Dd}(ha:bN n a)(hn:1<=n){g:Db}:g∈ff n a b↔isoL n a b g/\g.getD 0 0=0:=by
 constructor
 ·intro h
  rw[ff]at h;split at h
  ·cases h
  ·rename_i h'
   have h':dD a b [0]=true:=by cases e:dD a b [0];exact absurd e h';rfl
   obtain⟨⟨g',e⟩,_⟩:=om n a b (n-1) _ g h;exact⟨oo ha (n-1) _ g (by simp;omega) (LI ha hn h') h,by rw[<-e];rfl⟩
 ·rintro⟨h,h0⟩
  have t1:g.take 1=[0]:=by
   have:=h.len
   rw[<-eo g 0 0 (by omega),h0];rfl
  have ok:=LC ha h.len h.ok 1 hn
  rw[t1]at ok;have h':=((tW (f:=[]) (y:=0) ha (by simp;omega)).1 ok).2
  have h':dD a b [0]=true:=h'
  rw[ff,AB (by rw[h'];simp)]
  have:=LD ha h (n-1) 1 (by omega)
  rwa[t1]at this
theorem UO(n:Nat)(a b:Dd):f5 (ff n a b):=by
 rw[ff];split
 ·exact List.Pairwise.nil
 ·exact LF _ _ _ _ _
theorem UP{a b:Db}{i:Nat}(ha:i<a.length)(hb:i<b.length):bj (a.drop i) (b.drop i)=if a.getD i 0=b.getD i 0 then bj (a.drop (i+1)) (b.drop (i+1))else decide (a.getD i 0<b.getD i 0):=by
 rw[drop_cons' a 0 i ha,drop_cons' b 0 i hb,bj]
theorem LK{a b:Db}{i:Nat}(ha:i<=a.length)(hb:i<=b.length)(h:¬ (i<a.length/\i<b.length)):bj (a.drop i) (b.drop i)=decide (a.length<b.length):=by
 by_cases q:i<b.length
 ·rw[drop_cons' b 0 i q,A4 (by omega),bj]
  exact(AY (by omega)).symm
 ·rw[A4 (l:=b) (by omega)]
  cases a.drop i<;>exact(AZ (by omega)).symm
def pW:List AD->Option Post
 | [.c (.ints .i64 a),.c (.ints .i64 b)]=>some ⟨ar a.length,.c (.bool (bj a b)),[]⟩
 |_=>none
def LL(a:Db)(b:Db):Nat->Option Ann
 |0=>U' fun i=>⟨⟨[(0,G' a),(1,G' b),(5,D' i)],[]⟩,i<=a.length/\i<=b.length/\bj a b=bj (a.drop i) (b.drop i),a.length-i⟩
 |_=>none
theorem D5:Fits Tryz.prog 203 ⟨[],pW⟩:=by
 refine ffv (Γ:=af []) aG Tryz.func203 fun ds p h ξ=>?_
 unfold pW at h;split at h<;>cases h
 rename_i a b
 refine⟨ah,LL a b,(∃x0:Nat,(x0<=a.length/\x0<=b.length/\bj a b=bj (List.drop x0 a) (List.drop x0 b))/\a=a/\b=b/\(0:Int)=(x0:Int))/\∀x1:Nat,x1<=a.length/\x1<=b.length/\bj a b=bj (List.drop x1 a) (List.drop x1 b)->ab (decide ((x1:Int)<(a.length:Int))) (ab (decide ((x1:Int)<(b.length:Int))) (aa (x1:Int) a.length/\aa (x1:Int) b.length/\ab (a.getD (x1:Int).toNat (0:Int) != b.getD (x1:Int).toNat (0:Int)) (aa (x1:Int) a.length/\aa (x1:Int) b.length/\decide (a.getD (x1:Int).toNat (0:Int)<b.getD (x1:Int).toNat (0:Int))=bj a b/\True) (ae ((x1:Int)+(1:Int))/\∃x2:Nat,(x2<=a.length/\x2<=b.length/\bj a b=bj (List.drop x2 a) (List.drop x2 b))/\a.length-x2<a.length-x1/\a=a/\b=b/\(x1:Int)+(1:Int)=(x2:Int))) (decide ((a.length:Int)<(b.length:Int))=bj a b/\True)) (decide ((a.length:Int)<(b.length:Int))=bj a b/\True),by kernel_rfl,?_⟩
 simp only[aH]at ξ⊢;refine⟨⟨0,⟨by omega,by omega,rfl⟩,rfl⟩,fun i ⟨h1,h2,h3⟩=>⟨fun ha=>⟨fun hb=>?_,fun hb=>?_⟩,fun ha=>?_⟩⟩
 ·have s:=UP (a:=a) (b:=b) (i:=i) (by omega) (by omega)
  refine⟨by omega,by omega,fun q=>⟨by omega,by omega,?_⟩,fun q=>⟨by omega,i+1,⟨by omega,by omega,?_⟩,by omega,by omega⟩⟩
  ·rw[h3,s,AB q]
  ·rw[h3,s,AA q]
 ·rw[h3,LK h1 h2 (by omega)];exact decide_eq_decide.2 (by omega)
 ·rw[h3,LK h1 h2 (by omega)];exact decide_eq_decide.2 (by omega)
def nT(a:Dd):Nat:=(a.getD 0 []).length
theorem LN{a b:Dd}{f:Db}{k x y:Nat}(h:(f.length:Int)-1<en (a.getD k []) x y\/((x:Int)<(f.length:Int)-1/\(y:Int)<(f.length:Int)-1/\en (a.getD k []) x y<(f.length:Int)-1)):fq a b f k x y=true:=by
 rw[fq,BI,BI];rcases h with h|⟨h1,h2,h3⟩
 ·exact .inl (.inl (AY h))
 ·exact .inl (.inr (by rw[AY h1,AY h2,AY h3];rfl))
theorem US{a b:Dd}{f:Db}{k x y:Nat}(h:¬ ((f.length:Int)-1<en (a.getD k []) x y\/((x:Int)<(f.length:Int)-1/\(y:Int)<(f.length:Int)-1/\en (a.getD k []) x y<(f.length:Int)-1))) :
  fq a b f k x y=decide (f.getD (en (a.getD k []) x y).toNat 0=en (b.getD k []) (f.getD x 0).toNat (f.getD y 0).toNat):=by
 rw[fq];have h1:decide ((f.length:Int)-1<en (a.getD k []) x y)=false:=AZ fun q=>h (.inl q)
 have h2:(decide ((x:Int)<(f.length:Int)-1)&&(decide ((y:Int)<(f.length:Int)-1)&&decide (en (a.getD k []) x y<(f.length:Int)-1)))=false:=by
  rw[<-CU,AG,AG,AQ,AQ,AQ];exact fun q=>h (.inr q)
 rw[h1,h2];rfl
def tZ:List AD->Option Post
 | [.c (.r3 .i64 a),.c (.r3 .i64 b),.c (.ints .i64 f)]=>some ⟨a.length<=1000/\nT a<=1000/\1<=f.length/\f.length<=nT a/\b.length=a.length/\bN (nT a) a/\bN (nT a) b/\(∀i,i<f.length->0<=f.getD i 0/\f.getD i 0<(nT a:Int)),.c (.bool (dD a b f)),[]⟩
 |_=>none
def LO(a:Dd)(b:Dd)(f:Db):Nat->Option Ann
 |0=>V' (fun k=>⟨⟨[(0,J' a),(1,J' b),(2,G' f),(7,D' ((f.length:Int)-1)),(8,D' k)],[]⟩,(k<=a.length/\(∀k1,k1<k->mB a b f k1=true)),a.length-k⟩) (fun k b_=>match b_ with|2=>V' (fun i=>⟨⟨[(0,J' a),(1,J' b),(2,G' f),(7,D' ((f.length:Int)-1)),(8,D' k),(9,D' i)],[]⟩,(k<a.length/\i<=f.length/\(∀i1,i1<i->mA a b f k i1=true)),f.length-i⟩) (fun i b_=>match b_ with|4=>V' (fun j=>⟨⟨[(0,J' a),(1,J' b),(2,G' f),(7,D' ((f.length:Int)-1)),(8,D' k),(9,D' i),(10,D' j)],[]⟩,(i<f.length/\j<=f.length/\(∀j1,j1<j->fq a b f k i j1=true)),f.length-j⟩) (fun j b_=>match b_ with|1013=>some (Ann.mk ((Unit)) (fun u=>⟨[(0,J' a),(1,J' b),(2,G' f),(7,D' ((f.length:Int)-1)),(8,D' k),(9,D' i),(10,D' j),(11,D' (en (a.getD k []) i j))],[]⟩) (fun u=>j<f.length/\¬ ((f.length:Int)-1<en (a.getD k []) i j\/((i:Int)<(f.length:Int)-1/\(j:Int)<(f.length:Int)-1/\en (a.getD k []) i j<(f.length:Int)-1))) (fun u=>0) (fun _=>ak))|_=>none)|_=>none)|_=>none)
 |_=>none
theorem LQ:Fits Tryz.prog 176 ⟨[],tZ⟩:=by
 refine ffv (Γ:=af []) aG Tryz.func176 fun ds p h ξ=>?_
 unfold tZ at h;split at h<;>cases h
 rename_i a b f
 refine⟨ah,LO a b f,ae ((f.length:Int)-(1:Int))/\(∃x0:Nat,(x0<=a.length/\∀(k1:Nat),k1<x0->mB a b f k1=true)/\a=a/\b=b/\f=f/\(f.length:Int)-(1:Int)=(f.length:Int)-(1:Int)/\(0:Int)=(x0:Int))/\∀x1:Nat,(x1<=a.length/\∀(k1:Nat),k1<x1->mB a b f k1=true)->ab (decide ((x1:Int)<(a.length:Int))) ((∃x2:Nat,(x1<a.length/\x2<=f.length/\∀(i1:Nat),i1<x2->mA a b f x1 i1=true)/\a=a/\b=b/\f=f/\(f.length:Int)-(1:Int)=(f.length:Int)-(1:Int)/\(x1:Int)=(x1:Int)/\(0:Int)=(x2:Int))/\∀x3:Nat,(x1<a.length/\x3<=f.length/\∀(i1:Nat),i1<x3->mA a b f x1 i1=true)->ab (decide ((x3:Int)<=(f.length:Int)-(1:Int))) ((∃x4:Nat,(x3<f.length/\x4<=f.length/\∀(j1:Nat),j1<x4->fq a b f x1 x3 j1=true)/\a=a/\b=b/\f=f/\(f.length:Int)-(1:Int)=(f.length:Int)-(1:Int)/\(x1:Int)=(x1:Int)/\(x3:Int)=(x3:Int)/\(0:Int)=(x4:Int))/\∀x5:Nat,(x3<f.length/\x5<=f.length/\∀(j1:Nat),j1<x5->fq a b f x1 x3 j1=true)->ab (decide ((x5:Int)<=(f.length:Int)-(1:Int))) (aa (x1:Int) a.length/\aa (x3:Int) ((a.getD (x1:Int).toNat ([]:Dc)).length)/\aa (x5:Int) (((List.getD a (x1:Int).toNat ([]:Dc)).getD (x3:Int).toNat []).length)/\ab (decide ((f.length:Int)-(1:Int)<(List.getD (List.getD a (x1:Int).toNat ([]:Dc)) (x3:Int).toNat []).getD (x5:Int).toNat (0:Int))) (ae ((x5:Int)+(1:Int))/\∃x6:Nat,(x3<f.length/\x6<=f.length/\∀(j1:Nat),j1<x6->fq a b f x1 x3 j1=true)/\f.length-x6<f.length-x5/\a=a/\b=b/\f=f/\(f.length:Int)-(1:Int)=(f.length:Int)-(1:Int)/\(x1:Int)=(x1:Int)/\(x3:Int)=(x3:Int)/\(x5:Int)+(1:Int)=(x6:Int)) (ab (decide ((x3:Int)<(f.length:Int)-(1:Int))) (ab (decide ((x5:Int)<(f.length:Int)-(1:Int))) (ab (decide ((List.getD (List.getD a (x1:Int).toNat ([]:Dc)) (x3:Int).toNat []).getD (x5:Int).toNat (0:Int)<(f.length:Int)-(1:Int))) (ae ((x5:Int)+(1:Int))/\∃x7:Nat,(x3<f.length/\x7<=f.length/\∀(j1:Nat),j1<x7->fq a b f x1 x3 j1=true)/\f.length-x7<f.length-x5/\a=a/\b=b/\f=f/\(f.length:Int)-(1:Int)=(f.length:Int)-(1:Int)/\(x1:Int)=(x1:Int)/\(x3:Int)=(x3:Int)/\(x5:Int)+(1:Int)=(x7:Int)) (∃x8:Unit,(x5<f.length/\(¬((f.length:Int)-(1:Int)<en (a.getD x1 ([]:Dc)) x3 x5\/(x3:Int)<(f.length:Int)-(1:Int)/\(x5:Int)<(f.length:Int)-(1:Int)/\en (a.getD x1 ([]:Dc)) x3 x5<(f.length:Int)-(1:Int))))/\a=a/\b=b/\f=f/\(f.length:Int)-(1:Int)=(f.length:Int)-(1:Int)/\(x1:Int)=(x1:Int)/\(x3:Int)=(x3:Int)/\(x5:Int)=(x5:Int)/\(List.getD (List.getD a (x1:Int).toNat ([]:Dc)) (x3:Int).toNat []).getD (x5:Int).toNat (0:Int)=en (a.getD x1 ([]:Dc)) x3 x5)) (∃x9:Unit,(x5<f.length/\(¬((f.length:Int)-(1:Int)<en (a.getD x1 ([]:Dc)) x3 x5\/(x3:Int)<(f.length:Int)-(1:Int)/\(x5:Int)<(f.length:Int)-(1:Int)/\en (a.getD x1 ([]:Dc)) x3 x5<(f.length:Int)-(1:Int))))/\a=a/\b=b/\f=f/\(f.length:Int)-(1:Int)=(f.length:Int)-(1:Int)/\(x1:Int)=(x1:Int)/\(x3:Int)=(x3:Int)/\(x5:Int)=(x5:Int)/\(List.getD (List.getD a (x1:Int).toNat ([]:Dc)) (x3:Int).toNat []).getD (x5:Int).toNat (0:Int)=en (a.getD x1 ([]:Dc)) x3 x5)) (∃x10:Unit,(x5<f.length/\(¬((f.length:Int)-(1:Int)<en (a.getD x1 ([]:Dc)) x3 x5\/(x3:Int)<(f.length:Int)-(1:Int)/\(x5:Int)<(f.length:Int)-(1:Int)/\en (a.getD x1 ([]:Dc)) x3 x5<(f.length:Int)-(1:Int))))/\a=a/\b=b/\f=f/\(f.length:Int)-(1:Int)=(f.length:Int)-(1:Int)/\(x1:Int)=(x1:Int)/\(x3:Int)=(x3:Int)/\(x5:Int)=(x5:Int)/\(List.getD (List.getD a (x1:Int).toNat ([]:Dc)) (x3:Int).toNat []).getD (x5:Int).toNat (0:Int)=en (a.getD x1 ([]:Dc)) x3 x5))/\∀x11:Unit,x5<f.length/\(¬((f.length:Int)-(1:Int)<en (a.getD x1 ([]:Dc)) x3 x5\/(x3:Int)<(f.length:Int)-(1:Int)/\(x5:Int)<(f.length:Int)-(1:Int)/\en (a.getD x1 ([]:Dc)) x3 x5<(f.length:Int)-(1:Int)))->aa (en (a.getD x1 ([]:Dc)) x3 x5) f.length/\aa (x1:Int) b.length/\aa (x3:Int) f.length/\aa (f.getD (x3:Int).toNat (0:Int)) ((b.getD (x1:Int).toNat ([]:Dc)).length)/\aa (x5:Int) f.length/\aa (f.getD (x5:Int).toNat (0:Int)) (((List.getD b (x1:Int).toNat ([]:Dc)).getD ((f.getD (x3:Int).toNat (0:Int)).toNat) []).length)/\ab (f.getD ((en (a.getD x1 ([]:Dc)) x3 x5).toNat) (0:Int) != (List.getD (List.getD b (x1:Int).toNat ([]:Dc)) ((List.getD f (x3:Int).toNat (0:Int)).toNat) []).getD ((f.getD (x5:Int).toNat (0:Int)).toNat) (0:Int)) (false=dD a b f/\True) (ae ((x5:Int)+(1:Int))/\∃x12:Nat,(x3<f.length/\x12<=f.length/\∀(j1:Nat),j1<x12->fq a b f x1 x3 j1=true)/\f.length-x12<f.length-x5/\a=a/\b=b/\f=f/\(f.length:Int)-(1:Int)=(f.length:Int)-(1:Int)/\(x1:Int)=(x1:Int)/\(x3:Int)=(x3:Int)/\(x5:Int)+(1:Int)=(x12:Int))) (ae ((x3:Int)+(1:Int))/\∃x13:Nat,(x1<a.length/\x13<=f.length/\∀(i1:Nat),i1<x13->mA a b f x1 i1=true)/\f.length-x13<f.length-x3/\a=a/\b=b/\f=f/\(f.length:Int)-(1:Int)=(f.length:Int)-(1:Int)/\(x1:Int)=(x1:Int)/\(x3:Int)+(1:Int)=(x13:Int))) (ae ((x1:Int)+(1:Int))/\∃x14:Nat,(x14<=a.length/\∀(k1:Nat),k1<x14->mB a b f k1=true)/\a.length-x14<a.length-x1/\a=a/\b=b/\f=f/\(f.length:Int)-(1:Int)=(f.length:Int)-(1:Int)/\(x1:Int)+(1:Int)=(x14:Int))) (true=dD a b f/\True),by kernel_rfl,?_⟩
 simp only[aH]at ξ⊢;obtain⟨h1,h2,h3,h4,h5,h6,h7,h8⟩:=ξ;refine⟨by omega,⟨0,⟨by omega,fun _ h=>by omega⟩,rfl⟩,fun k ⟨hk,ik⟩=>⟨fun hk2=>⟨⟨0,⟨by omega,by omega,fun _ h=>by omega⟩,rfl⟩,fun i ⟨hka,hi,ii⟩=>⟨fun hi2=>⟨⟨0,⟨by omega,by omega,fun _ h=>by omega⟩,rfl⟩,fun j ⟨hia,hj,ij⟩=>⟨fun hj2=>?_,fun hj2=>?_⟩⟩,fun hi2=>?_⟩⟩,fun hk2=>?_⟩⟩
 ·have A:=h6 k hka
  have E:=(A.2 i (by omega)).2 j (by omega)
  have L1:(a.getD k []).length=nT a:=A.1
  have L2:=(A.2 i (by omega)).1
  have next:fq a b f k i j=true->∀j1,j1<j+1->fq a b f k i j1=true:=fun h j1 q=>by
   by_cases e:j1=j
   ·subst e;exact h
   ·exact ij j1 (by omega)
  refine⟨by omega,by omega,by omega,⟨fun q=>⟨by omega,j+1,⟨by omega,by omega,next (LN (.inl q))⟩,by omega,by omega⟩,fun q=>⟨fun q2=>⟨fun q3=>⟨fun q4=>⟨by omega,j+1,⟨by omega,by omega,next (LN (.inr ⟨q2,q3,q4⟩))⟩,by omega,by omega⟩,fun q4=>⟨⟨⟩,⟨by omega,?_⟩,rfl⟩⟩,fun q3=>⟨⟨⟩,⟨by omega,?_⟩,rfl⟩⟩,fun q2=>⟨⟨⟩,⟨by omega,?_⟩,rfl⟩⟩⟩,fun u ⟨_,hn⟩=>?_⟩
  ·rintro(z|⟨_,_,z⟩)
   ·exact q z
   ·exact q4 z
  ·rintro(z|⟨_,z,_⟩)
   ·exact q z
   ·exact q3 z
  ·rintro(z|⟨z,_,_⟩)
   ·exact q z
   ·exact q2 z
  ·have B:=h7 k (by omega)
   have L3:(b.getD k []).length=nT a:=B.1
   have fi:=h8 i (by omega)
   have fj:=h8 j (by omega)
   have L4:=(B.2 (f.getD i 0).toNat (by omega)).1
   have T:fq a b f k i j=decide (f.getD (en (a.getD k []) i j).toNat 0=((b.getD k []).getD (f.getD i 0).toNat []).getD (f.getD j 0).toNat 0):=US hn
   have v:en (a.getD k []) i j<(f.length:Int):=by
    have:=fun z=>hn (.inl z)
    omega
   refine⟨by omega,by omega,by omega,by omega,by omega,by omega,fun q=>?_,fun q=>⟨by omega,j+1,⟨by omega,by omega,next ?_⟩,by omega,by omega⟩⟩
   ·rw[AZ q]at T
    cases z:dD a b f
    ·rfl
    ·rw[Dx.1 z k i j (by omega) (by omega) (by omega)]at T;cases T
   ·rw[T];exact AY q
 ·refine⟨by omega,i+1,⟨by omega,by omega,fun i1 q=>?_⟩,by omega,by omega⟩
  by_cases e:i1=i
  ·subst e
   rw[mA,AM];intro y hy
   exact ij y (by have:=AW.1 hy;omega)
  ·exact ii i1 (by omega)
 ·refine⟨by omega,k+1,⟨by omega,fun k1 q=>?_⟩,by omega,by omega⟩
  by_cases e:k1=k
  ·subst e
   rw[mB,AM];intro y hy
   exact ii y (by have:=AW.1 hy;omega)
  ·exact ik k1 (by omega)
 ·symm
  rw[dD,AM];intro y hy
  exact ik y (by have:=AW.1 hy;omega)
end Go.Sx
