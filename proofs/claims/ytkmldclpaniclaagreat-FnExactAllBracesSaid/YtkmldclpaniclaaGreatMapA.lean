/- MapA -/
import Derived.Test.YtkmldclpaniclaaGreatMapQ
open Go Go.Proofs
namespace Go.Sx
set_option linter.unusedSimpArgs false
set_option linter.unusedVariables false
def eQ(a b:List (List (List Int)))(f:List Int)(k x y:Nat):Bool :=
 decide ((f.length:Int)-1<en (a.getD k []) x y)||(decide ((x:Int)<(f.length:Int)-1)&&(decide ((y:Int)<(f.length:Int)-1)&&decide (en (a.getD k []) x y<(f.length:Int)-1))) ||
  decide (f.getD (en (a.getD k []) x y).toNat 0=en (b.getD k []) (f.getD x 0).toNat (f.getD y 0).toNat)
def kN(a b:List (List (List Int)))(f:List Int)(k x:Nat):Bool:=(List.range f.length).all (eQ a b f k x)
def kO(a b:List (List (List Int)))(f:List Int)(k:Nat):Bool:=(List.range f.length).all (kN a b f k)
def di(a b:List (List (List Int)))(f:List Int):Bool:=(List.range a.length).all (kO a b f)
def kP(a b:List (List (List Int)))(f:List Int):Prop:=∀k x y,k<a.length->x<f.length->y<f.length->en (a.getD k []) x y<(f.length:Int) ->
 f.getD (en (a.getD k []) x y).toNat 0=en (b.getD k []) (f.getD x 0).toNat (f.getD y 0).toNat
theorem wM{a b:List (List (List Int))}{f:List Int}:di a b f=true↔∀k x y,k<a.length->x<f.length->y<f.length->eQ a b f k x y=true:=by
 simp only[di,kO,kN,List.all_eq_true,List.mem_range];exact⟨fun h k x y hk hx hy=>h k hk x hx y hy,fun h k hk x hx y hy=>h k x y hk hx hy⟩
theorem qT{n:Nat}{a b:List (List (List Int))}(ha:bA n a){f:List Int}{y:Int}(hf:f.length<n):kP a b (f++[y])↔kP a b f/\di a b (f++[y])=true:=by
 have L:(f++[y]).length=f.length+1:=by simp
 have lo:∀i,i<f.length->(f++[y]).getD i 0=f.getD i 0:=fun i hi=>getD_append_left' _ _ _ _ hi
 constructor
 ·intro h
  refine⟨fun k x z hk hx hz hv=>?_,wM.2 fun k x z hk hx hz=>?_⟩
  ·have h0:=(((ha k hk).2 x (by omega)).2 z (by omega)).1
   have:=h k x z hk (by omega) (by omega) (by omega)
   rwa[lo _ (by omega),lo _ hx,lo _ hz]at this
  ·rw[eQ,Bool.or_eq_true,Bool.or_eq_true]
   by_cases q:en (a.getD k []) x z<((f++[y]).length:Int)
   ·exact .inr (decide_eq_true (h k x z hk hx hz q))
   ·exact .inl (.inl (decide_eq_true (by omega)))
 ·rintro⟨h1,h2⟩ k x z hk hx hz hv
  have h3:=wM.1 h2 k x z hk hx hz
  rw[eQ,Bool.or_eq_true,Bool.or_eq_true]at h3;rcases h3 with(h3|h3)|h3
  ·have:=of_decide_eq_true h3;omega
  ·rw[Bool.and_eq_true,Bool.and_eq_true,decide_eq_true_eq,decide_eq_true_eq,decide_eq_true_eq]at h3
   obtain⟨q1,q2,q3⟩:=h3;have h0:=(((ha k hk).2 x (by omega)).2 z (by omega)).1
   rw[lo _ (by omega),lo _ (by omega),lo _ (by omega)]
   exact h1 k x z hk (by omega) (by omega) (by omega)
  ·exact of_decide_eq_true h3
structure isoL (n:Nat) (a b:List (List (List Int))) (g:List Int):Prop where
 len:g.length=n
 rng:∀i,i<n->0<=g.getD i 0/\g.getD i 0<(n:Int)
 nd:g.Nodup
 ok:kP a b g
theorem isoL.g{n:Nat}{a b:List (List (List Int))}{g:List Int}(h:isoL n a b g)(ha:bA n a):IsoG n a b fun x=>(g.getD x 0).toNat where
 lt x hx:=by have:=h.rng x hx;omega
 inj x y hx hy e:=by
  have h1:=h.rng x hx
  have h2:=h.rng y hy
  have e:g.getD x 0=g.getD y 0:=by omega
  have l:=h.len
  rw[bG g 0 x (by omega),bG g 0 y (by omega)]at e
  exact(List.getElem_inj h.nd).1 e
 map k x y hk hx hy:=by
  have hv:=((ha k hk).2 x hx).2 y hy
  have l:=h.len
  rw[<-h.ok k x y hk (by omega) (by omega) (by omega)]
  have:=h.rng (en (a.getD k []) x y).toNat (by omega)
  omega
def cH(n:Nat)(a b:List (List (List Int))):Nat->List Int->List (List Int)
 |0,f=>[f]
 |k+1,f=>(List.range n).flatMap fun y:Nat=>if(y:Int)∈f\/di a b (f++[(y:Int)])=false then []else cH n a b k (f++[(y:Int)])
structure preL (n:Nat) (a b:List (List (List Int))) (f:List Int):Prop where
 rng:∀i,i<f.length->0<=f.getD i 0/\f.getD i 0<(n:Int)
 nd:f.Nodup
 ok:kP a b f
theorem preL.snoc{n:Nat}{a b:List (List (List Int))}(ha:bA n a){f:List Int}(h:preL n a b f){y:Nat}(hf:f.length<n)(hy:y<n)(h1:¬ (y:Int)∈f)(h2:di a b (f++[(y:Int)])=true):preL n a b (f++[(y:Int)]) where
 rng i hi:=by
  simp at hi
  by_cases q:i<f.length
  ·rw[getD_append_left' _ _ _ _ q];exact h.rng i q
  ·rw[getD_append_right' _ _ _ _ (by omega),show i-f.length=0 by omega]
   simp;omega
 nd:=by rw[List.nodup_append];exact⟨h.nd,by simp,fun x hx z hz=>by simp at hz;subst hz;intro e;subst e;exact h1 hx⟩
 ok:=(qT ha hf).2 ⟨h.ok,h2⟩
theorem mC(n:Nat)(a b:List (List (List Int))):∀(k:Nat) (f g:List Int),g∈cH n a b k f->f <+: g/\g.length=f.length+k
 |0,f,g,h=>by simp[cH]at h;subst h;exact⟨List.prefix_refl _,rfl⟩
 |k+1,f,g,h=>by
  rw[cH]at h;obtain⟨y,_,h⟩:=List.mem_flatMap.1 h;split at h
  ·cases h
  ·obtain⟨h1,h2⟩:=mC n a b k _ g h
   exact⟨(List.prefix_append f [(y:Int)]).trans h1,by rw[h2];simp;omega⟩
theorem mD{n:Nat}{a b:List (List (List Int))}(ha:bA n a):∀(k:Nat) (f g:List Int),f.length+k=n->preL n a b f->g∈cH n a b k f->isoL n a b g
 |0,f,g,hl,hp,h=>by
  simp[cH]at h;subst h
  exact⟨by omega,fun i hi=>hp.rng i (by omega),hp.nd,hp.ok⟩
 |k+1,f,g,hl,hp,h=>by
  rw[cH]at h;obtain⟨y,hy,h⟩:=List.mem_flatMap.1 h;split at h
  ·cases h
  ·rename_i hc
   exact mD ha k _ g (by simp;omega) (hp.snoc ha (by omega) (List.mem_range.1 hy) (fun q=>hc (.inl q)) (by cases e:di a b (f++[(y:Int)]);exact absurd (.inr e) hc;rfl)) h
theorem EM{a b:List (List (List Int))}{n:Nat}(ha:bA n a){g:List Int}(hg:g.length=n)(h:kP a b g)(i:Nat)(hi:i<=n):kP a b (g.take i):=fun k x y hk hx hy hv=>by
 rw[List.length_take]at hx hy hv;have h0:=(((ha k hk).2 x (by omega)).2 y (by omega)).1
 rw[nM _ _ _ _ (by omega),nM _ _ _ _ (by omega),nM _ _ _ _ (by omega)]
 exact h k x y hk (by omega) (by omega) (by omega)
theorem EN{n:Nat}{a b:List (List (List Int))}(ha:bA n a){g:List Int}(h:isoL n a b g):∀(k i:Nat),i+k=n->g∈cH n a b k (g.take i)
 |0,i,hi=>by
  have:=h.len
  rw[List.take_of_length_le (by omega)];simp[cH]
 |k+1,i,hi=>by
  have L:=h.len
  have r:=h.rng i (by omega)
  have e:g.take (i+1)=g.take i++[(((g.getD i 0).toNat:Nat):Int)]:=by rw[Int.toNat_of_nonneg r.1,du g 0 i (by omega)]
  rw[cH];refine List.mem_flatMap.2 ⟨(g.getD i 0).toNat,List.mem_range.2 (by omega),?_⟩
  have ok:=EM ha L h.ok (i+1) (by omega)
  rw[e]at ok;have ok2:=((qT ha (by rw[List.length_take];omega)).1 ok).2
  rw[if_neg,<-e]
  ·exact EN ha h k (i+1) (by omega)
  ·rintro(q|q)
   ·have nd:(g.take (i+1)).Nodup:=h.nd.sublist (List.take_sublist _ _)
    rw[e,List.nodup_append]at nd;exact nd.2.2 _ q _ (by simp) rfl
   ·rw[ok2]at q;cases q
theorem EO:∀(p a b:List Int),bh (p++a) (p++b)=bh a b
 | [],_,_=>rfl
 |x::p,a,b=>by rw[List.cons_append,List.cons_append,bh,if_pos rfl];exact EO p a b
theorem EP(n:Nat)(a b:List (List (List Int))):∀(k:Nat) (f:List Int),eR (cH n a b k f)
 |0,f=>by simp[cH,eR]
 |k+1,f=>by
  rw[cH,eR,List.pairwise_flatMap];refine⟨fun y _=>?_,?_⟩
  ·split
   ·exact List.Pairwise.nil
   ·exact EP n a b k _
  ·refine List.Pairwise.imp ?_ (List.pairwise_lt_range (n:=n))
   intro y z hyz p hp q hq
   split at hp
   ·cases hp
   ·split at hq
    ·cases hq
    ·obtain⟨⟨p',e1⟩,_⟩:=mC n a b k _ p hp
     obtain⟨⟨q',e2⟩,_⟩:=mC n a b k _ q hq;rw[<-e1,<-e2,List.append_assoc,List.append_assoc,EO];simp only[List.singleton_append,bh];rw[if_neg (by omega)];simp;omega
/- The search. -/
def cU(g:Nat->List (List Int)->List (List Int))(out:List (List Int)):Nat->List (List Int)
 |0=>out
 |y+1=>g y (cU g out y)
def dV(n:Nat)(a b:List (List (List Int)))(Yi:Nat)(rec:List Int->List Int->List Int->List (List Int)->List (List Int))(f c d:List Int)(y:Nat)(o:List (List Int)):List (List Int) :=
 if o.length<Yi then
  (if(y:Int)∈f\/¬ c.getD f.length 0=d.getD y 0\/di a b (f++[(y:Int)])=false then o
   else match fP n a b (c.set f.length 60) (d.set y 60)with
    |none=>o
    |some (l,r)=>rec (f++[(y:Int)]) l r o)
 else o
def dE(n:Nat)(a b:List (List (List Int)))(Yi:Nat):Nat->List Int->List Int->List Int->List (List Int)->List (List Int)
 |0,f,_,_,out=>out++[f]
 |k+1,f,c,d,out=>cU (dV n a b Yi (dE n a b Yi k) f c d) out n
theorem EQ{n:Nat}{a b:List (List (List Int))}{Yi:Nat}{rec:List Int->List Int->List Int->List (List Int)->List (List Int)}{f c d:List Int}{out:List (List Int)}{y:Nat}(h:Yi<=(cU (dV n a b Yi rec f c d) out y).length) :
  ∀j,cU (dV n a b Yi rec f c d) out (y+j)=cU (dV n a b Yi rec f c d) out y
 |0=>rfl
 |j+1=>by
  rw[<-Nat.add_assoc,cU,dV,EQ h j,if_neg (by omega)]
theorem nY{n:Nat}{a b:List (List (List Int))}:∀(fuel num:Nat) (c d c' d':List Int),ga n a b fuel num c d=some (c',d')->c'.length=n/\d'.length=n/\(∀x,x<n->0<=c'.getD x 0/\c'.getD x 0<2*(n:Int))/\∀x,x<n->0<=d'.getD x 0/\d'.getD x 0<2*(n:Int)
 |0,num,c,d,c',d',h=>by cases h
 |fuel+1,num,c,d,c',d',h=>by
  rw[ga]at h;split at h
  ·cases h
  ·rename_i c1 d1 m e
   have:=xk e
   obtain⟨l1,l2,l3,_,l5,l6⟩:=this;split at h
   ·cases h
    exact⟨l1,l2,fun x hx=>⟨(l5 x hx).1,by have:=(l5 x hx).2;omega⟩,fun x hx=>⟨(l6 x hx).1,by have:=(l6 x hx).2;omega⟩⟩
   ·exact nY fuel m c1 d1 c' d' h
theorem ER{n:Nat}{a b:List (List (List Int))}(ha:bA n a)(hab:b.length=a.length){Yi:Nat}:∀(k:Nat) (f c d:List Int) (out:List (List Int)),f.length+k=n->preL n a b f->c.length=n->d.length=n->out.length<Yi ->
  (∀g,g∈cH n a b k f->∀x,x<n->c.getD x 0=d.getD (g.getD x 0).toNat 0)->dE n a b Yi k f c d out=out++(cH n a b k f).take (Yi-out.length)
 |0,f,c,d,out,hl,hp,hc,hd,ho,hg=>by
  rw[dE,cH,List.take_of_length_le (by simp;omega)]
 |k+1,f,c,d,out,hl,hp,hc,hd,ho,hg=>by
  rw[dE,cH];have key:∀y,y<=n->cU (dV n a b Yi (dE n a b Yi k) f c d) out y=out++((List.range y).flatMap fun y:Nat=>if(y:Int)∈f\/di a b (f++[(y:Int)])=false then []else cH n a b k (f++[(y:Int)])).take (Yi-out.length):=fun y=>by
   induction y with
   |zero=>intro _;simp[cU]
   |succ y ih =>
    intro hy
    have ih:=ih (by omega)
    rw[cU,ih,List.range_succ,List.flatMap_append];simp only[List.flatMap_cons,List.flatMap_nil,List.append_nil];generalize hA:(List.range y).flatMap (fun y:Nat=>if(y:Int)∈f\/di a b (f++[(y:Int)])=false then []else cH n a b k (f++[(y:Int)]))=A
    rw[dV];by_cases hlt:(out++A.take (Yi-out.length)).length<Yi
    ·rw[if_pos hlt]
     have hA2:A.length<Yi-out.length:=by rw[List.length_append,List.length_take]at hlt;omega
     rw[List.take_of_length_le (by omega)]at hlt⊢
     rw[List.take_append,List.take_of_length_le (l:=A) (by omega)]
     by_cases h1:(y:Int)∈f\/di a b (f++[(y:Int)])=false
     ·rw[if_pos h1,if_pos (by rcases h1 with h1|h1;exact .inl h1;exact .inr (.inr h1))]
      simp
     ·rw[if_neg h1]
      have pre':preL n a b (f++[(y:Int)]):=hp.snoc ha (by omega) (by omega) (fun q=>h1 (.inl q)) (by cases e:di a b (f++[(y:Int)]);exact absurd (.inr e) h1;rfl)
      have sub:∀g,g∈cH n a b k (f++[(y:Int)])->g∈cH n a b (k+1) f/\g.getD f.length 0=(y:Int):=fun g hg'=>by
       refine⟨by rw[cH];exact List.mem_flatMap.2 ⟨y,List.mem_range.2 (by omega),by rw[if_neg h1];exact hg'⟩,?_⟩
       obtain⟨⟨g',e⟩,_⟩:=mC n a b k _ g hg';rw[<-e,List.append_assoc,getD_append_right' _ _ _ _ (by omega)]
       simp
      by_cases h2:c.getD f.length 0=d.getD y 0
      ·rw[if_neg (by rintro(q|q|q);exact h1 (.inl q);exact q h2;exact h1 (.inr q))]
       have hcc:∀g,g∈cH n a b k (f++[(y:Int)])->∀x,x<n->(c.set f.length 60).getD x 0=(d.set y 60).getD (g.getD x 0).toNat 0:=fun g hg' x hx=>by
        obtain⟨q1,q2⟩:=sub g hg';have iso:=mD ha k _ g (by simp;omega) pre' hg'
        have hi:=(iso.g ha).lt x hx
        have inj:=(iso.g ha).inj x f.length hx (by omega)
        try dsimp only at hi inj
        rw[q2,Int.toNat_natCast]at inj;rw[gW _ _ _ _ (by omega),gW _ _ _ _ (by omega)]
        by_cases e:x=f.length
        ·subst e;rw[if_pos rfl,if_pos (by rw[q2];simp)]
        ·rw[if_neg e,if_neg (fun q=>e (inj q))]
         exact hg g q1 x hx
       cases hr:fP n a b (c.set f.length 60) (d.set y 60)with
       |none =>
        have:cH n a b k (f++[(y:Int)])=[]:=by
         cases hx:cH n a b k (f++[(y:Int)])with
         |nil=>rfl
         |cons g r =>
          have hg':g∈cH n a b k (f++[(y:Int)]):=by rw[hx];simp
          have iso:=mD ha k _ g (by simp;omega) pre' hg'
          obtain⟨_,_,e,_⟩:=rx (iso.g ha) ha hab (c:=c.set f.length 60) (d:=d.set y 60) (by simpa using hc) (by simpa using hd) (hcc g hg')
          rw[hr]at e;cases e
        rw[this];simp
       |some lr =>
        obtain⟨l,r⟩:=lr;simp only;obtain⟨e1,e2,_,_⟩:=nY _ _ _ _ _ _ hr;rw[ER ha hab k _ l r _ (by simp;omega) pre' e1 e2 hlt fun g hg'=>?_]
        ·rw[List.append_assoc,show Yi-(out++A).length=Yi-out.length-A.length by rw[List.length_append];omega]
        ·have iso:=mD ha k _ g (by simp;omega) pre' hg'
         obtain⟨c',d',e,h3⟩:=rx (iso.g ha) ha hab (c:=c.set f.length 60) (d:=d.set y 60) (by simpa using hc) (by simpa using hd) (hcc g hg')
         rw[hr]at e;cases e;exact h3
      ·rw[if_pos (.inr (.inl h2))]
       have:cH n a b k (f++[(y:Int)])=[]:=by
        cases hx:cH n a b k (f++[(y:Int)])with
        |nil=>rfl
        |cons g r =>
         obtain⟨q1,q2⟩:=sub g (by rw[hx];simp)
         have:=hg g q1 f.length (by omega)
         rw[q2,Int.toNat_natCast]at this;exact absurd this h2
       rw[this];simp
    ·rw[if_neg hlt]
     have:Yi-out.length<=A.length:=by rw[List.length_append,List.length_take]at hlt;omega
     rw[List.take_append_of_le_length this]
  exact key n (Nat.le_refl _)
def kQ(n:Nat)(a b:List (List (List Int)))(Yi:Nat):List (List Int) :=
 if di a b [0]=false then []else match fP n a b ((List.replicate n 0).set 0 60) ((List.replicate n 0).set 0 60)with
  |none=>[]
  |some (l,r)=>dE n a b Yi (n-1) [0] l r []
def eE(n:Nat)(a b:List (List (List Int))):List (List Int):=if di a b [0]=false then []else cH n a b (n-1) [0]
theorem ES{n:Nat}{a b:List (List (List Int))}(ha:bA n a)(hn:1<=n)(h:di a b [0]=true):preL n a b [0] where
 rng i hi:=by simp at hi;subst hi;simp;omega
 nd:=by simp
 ok:=((qT (f:=[]) (y:=0) ha (by simp;omega)).2 ⟨fun k x y _ hx=>by simp at hx,h⟩)
theorem ET{n:Nat}{a b:List (List (List Int))}(ha:bA n a)(hab:b.length=a.length)(hn:1<=n){Yi:Nat}(hm:1<=Yi):kQ n a b Yi=(eE n a b).take Yi:=by
 rw[kQ,eE];by_cases h:di a b [0]=false
 ·rw[if_pos h,if_pos h,List.take_nil]
 ·rw[if_neg h,if_neg h]
  have h':di a b [0]=true:=by cases e:di a b [0];exact absurd e h;rfl
  have pre:=ES ha hn h'
  have l0:((List.replicate n (0:Int)).set 0 60).length=n:=by simp
  have hcc:∀g,g∈cH n a b (n-1) [0]->isoL n a b g/\∀x,x<n->((List.replicate n (0:Int)).set 0 60).getD x 0=((List.replicate n (0:Int)).set 0 60).getD (g.getD x 0).toNat 0:=fun g hg=>by
   have iso:=mD ha (n-1) _ g (by simp;omega) pre hg
   obtain⟨⟨g',e⟩,_⟩:=mC n a b (n-1) _ g hg;have g0:g.getD 0 0=0:=by rw[<-e];rfl
   refine⟨iso,fun x hx=>?_⟩
   have hi:=(iso.g ha).lt x hx
   have inj:=(iso.g ha).inj x 0 hx (by omega)
   try dsimp only at hi inj
   rw[g0]at inj;rw[gW _ _ _ _ (by simpa using hx),gW _ _ _ _ (by simpa using hi)]
   by_cases ex:x=0
   ·subst ex;rw[if_pos rfl,if_pos (by rw[g0];rfl)]
   ·rw[if_neg ex,if_neg (fun q=>ex (inj (by simpa using q)))]
    have z:∀i,i<n->(List.replicate n (0:Int)).getD i 0=0:=fun i hi=>by simp[List.getD_eq_getElem?_getD,hi]
    rw[z _ hx,z _ hi]
  cases hr:fP n a b ((List.replicate n 0).set 0 60) ((List.replicate n 0).set 0 60)with
  |none =>
   have:cH n a b (n-1) [0]=[]:=by
    cases hx:cH n a b (n-1) [0]with
    |nil=>rfl
    |cons g r =>
     obtain⟨iso,h2⟩:=hcc g (by rw[hx];simp)
     obtain⟨_,_,e,_⟩:=rx (iso.g ha) ha hab l0 l0 h2;rw[hr]at e;cases e
   rw[this,List.take_nil]
  |some lr =>
   obtain⟨l,r⟩:=lr;simp only;obtain⟨e1,e2,_,_⟩:=nY _ _ _ _ _ _ hr;rw[ER ha hab (n-1) [0] l r [] (by simp;omega) pre e1 e2 (by simp;omega) fun g hg=>?_]
   ·simp
   ·obtain⟨iso,h2⟩:=hcc g hg
    obtain⟨c',d',e,h3⟩:=rx (iso.g ha) ha hab l0 l0 h2;rw[hr]at e;cases e;exact h3
theorem nZ{n:Nat}{a b:List (List (List Int))}(ha:bA n a)(hn:1<=n){g:List Int}:g∈eE n a b↔isoL n a b g/\g.getD 0 0=0:=by
 constructor
 ·intro h
  rw[eE]at h;split at h
  ·cases h
  ·rename_i h'
   have h':di a b [0]=true:=by cases e:di a b [0];exact absurd e h';rfl
   obtain⟨⟨g',e⟩,_⟩:=mC n a b (n-1) _ g h;exact⟨mD ha (n-1) _ g (by simp;omega) (ES ha hn h') h,by rw[<-e];rfl⟩
 ·rintro⟨h,h0⟩
  have t1:g.take 1=[0]:=by
   have:=h.len
   rw[<-du g 0 0 (by omega),h0];rfl
  have ok:=EM ha h.len h.ok 1 hn
  rw[t1]at ok;have h':=((qT (f:=[]) (y:=0) ha (by simp;omega)).1 ok).2
  have h':di a b [0]=true:=h'
  rw[eE,if_neg (by rw[h'];simp)]
  have:=EN ha h (n-1) 1 (by omega)
  rwa[t1]at this
theorem EU(n:Nat)(a b:List (List (List Int))):eR (eE n a b):=by
 rw[eE];split
 ·exact List.Pairwise.nil
 ·exact EP _ _ _ _ _
theorem My{a b:List Int}{i:Nat}(ha:i<a.length)(hb:i<b.length):bh (a.drop i) (b.drop i)=if a.getD i 0=b.getD i 0 then bh (a.drop (i+1)) (b.drop (i+1))else decide (a.getD i 0<b.getD i 0):=by
 rw[drop_cons' a 0 i ha,drop_cons' b 0 i hb,bh]
theorem EW{a b:List Int}{i:Nat}(ha:i<=a.length)(hb:i<=b.length)(h:¬ (i<a.length/\i<b.length)):bh (a.drop i) (b.drop i)=decide (a.length<b.length):=by
 by_cases q:i<b.length
 ·rw[drop_cons' b 0 i q,List.drop_of_length_le (by omega),bh]
  exact(decide_eq_true (by omega)).symm
 ·rw[List.drop_of_length_le (l:=b) (by omega)]
  cases a.drop i<;>exact(decide_eq_false (by omega)).symm
def qU(a:List Int)(b:List Int):Post:=⟨ah a.length,.c (.bool (bh a b)),[]⟩
def qV:List AD->Option Post
 | [.c (.ints .i64 a),.c (.ints .i64 b)]=>some (qU a b)
 |_=>none
def EX(a:List Int)(b:List Int):Nat->Option Ann
 |0=>some (Ann.mk ((Nat)) (fun i=>⟨[(0,.c (.ro (.ints .i64 a))),(1,.c (.ro (.ints .i64 b))),(5,.c (.int .i64 ((i:Int))))],[]⟩) (fun i=>i<=a.length/\i<=b.length/\bh a b=bh (a.drop i) (b.drop i)) (fun i=>a.length-i) (fun _=>av))
 |_=>none
def EY:List (Nat×Ctr):=[]
def wN(a:List Int)(b:List Int):Prop :=
 (∃x0:Nat,(x0<=a.length/\x0<=b.length/\bh a b=bh (List.drop x0 a) (List.drop x0 b))/\a=a/\b=b/\(0:Int)=(x0:Int))/\∀x1:Nat,x1<=a.length/\x1<=b.length/\bh a b=bh (List.drop x1 a) (List.drop x1 b)->ae (decide ((x1:Int)<(a.length:Int))) (ae (decide ((x1:Int)<(b.length:Int))) (ab (x1:Int) a.length/\ab (x1:Int) b.length/\ae (a.getD (x1:Int).toNat (0:Int) != b.getD (x1:Int).toNat (0:Int)) (ab (x1:Int) a.length/\ab (x1:Int) b.length/\decide (a.getD (x1:Int).toNat (0:Int)<b.getD (x1:Int).toNat (0:Int))=bh a b/\True) (ac ((x1:Int)+(1:Int))/\∃x2:Nat,(x2<=a.length/\x2<=b.length/\bh a b=bh (List.drop x2 a) (List.drop x2 b))/\a.length-x2<a.length-x1/\a=a/\b=b/\(x1:Int)+(1:Int)=(x2:Int))) (decide ((a.length:Int)<(b.length:Int))=bh a b/\True)) (decide ((a.length:Int)<(b.length:Int))=bh a b/\True)
theorem Mz(a:List Int)(b:List Int):aY Tryz.prog (aj EY) am (EX a b) Tryz.f203 (aP Tryz.f203) [] [.c (.ints .i64 a),.c (.ints .i64 b)] (qU a b)=wN a b:=by kernel_rfl
theorem MB(a:List Int)(b:List Int)(Yh:(qU a b).pre):wN a b:=by
 simp only[qU,wN,aX,u1,u2,u3,u4,u5,u6,u7,u8,u9,v1,v2,v3,v4,v5,v6,v7,v8,v9,w1,w2,w3,w4,aN,ab,ac,ah,ax]at Yh⊢;refine⟨⟨0,⟨by omega,by omega,rfl⟩,rfl⟩,fun i ⟨h1,h2,h3⟩=>⟨fun ha=>⟨fun hb=>?_,fun hb=>?_⟩,fun ha=>?_⟩⟩
 ·have s:=My (a:=a) (b:=b) (i:=i) (by omega) (by omega)
  refine⟨by omega,by omega,fun q=>⟨by omega,by omega,?_⟩,fun q=>⟨by omega,i+1,⟨by omega,by omega,?_⟩,by omega,by omega⟩⟩
  ·rw[h3,s,if_neg q]
  ·rw[h3,s,if_pos q]
 ·rw[h3,EW h1 h2 (by omega)];exact decide_eq_decide.2 (by omega)
 ·rw[h3,EW h1 h2 (by omega)];exact decide_eq_decide.2 (by omega)
theorem EZ:Fits Tryz.prog 203 ⟨[],qV⟩:=by
 refine bf (Γ:=aj EY) aW Tryz.func203 fun ds p h hp=>?_
 unfold qV at h;split at h
 ·cases h
  exact⟨am,EX _ _ ,by rw[Mz];exact MB _ _  hp⟩
 ·cases h
def nT(a:List (List (List Int))):Nat:=(a.getD 0 []).length
theorem E3{a b:List (List (List Int))}{f:List Int}{k x y:Nat}(h:(f.length:Int)-1<en (a.getD k []) x y\/((x:Int)<(f.length:Int)-1/\(y:Int)<(f.length:Int)-1/\en (a.getD k []) x y<(f.length:Int)-1)):eQ a b f k x y=true:=by
 rw[eQ,Bool.or_eq_true,Bool.or_eq_true];rcases h with h|⟨h1,h2,h3⟩
 ·exact .inl (.inl (decide_eq_true h))
 ·exact .inl (.inr (by rw[decide_eq_true h1,decide_eq_true h2,decide_eq_true h3];rfl))
theorem ME{a b:List (List (List Int))}{f:List Int}{k x y:Nat}(h:¬ ((f.length:Int)-1<en (a.getD k []) x y\/((x:Int)<(f.length:Int)-1/\(y:Int)<(f.length:Int)-1/\en (a.getD k []) x y<(f.length:Int)-1))) :
  eQ a b f k x y=decide (f.getD (en (a.getD k []) x y).toNat 0=en (b.getD k []) (f.getD x 0).toNat (f.getD y 0).toNat):=by
 rw[eQ];have h1:decide ((f.length:Int)-1<en (a.getD k []) x y)=false:=decide_eq_false fun q=>h (.inl q)
 have h2:(decide ((x:Int)<(f.length:Int)-1)&&(decide ((y:Int)<(f.length:Int)-1)&&decide (en (a.getD k []) x y<(f.length:Int)-1)))=false:=by
  rw[<-Bool.not_eq_true,Bool.and_eq_true,Bool.and_eq_true,decide_eq_true_eq,decide_eq_true_eq,decide_eq_true_eq];exact fun q=>h (.inr q)
 rw[h1,h2];rfl
def qW(a:List (List (List Int)))(b:List (List (List Int)))(f:List Int):Post:=⟨a.length<=1000/\nT a<=1000/\1<=f.length/\f.length<=nT a/\b.length=a.length/\bA (nT a) a/\bA (nT a) b/\(∀i,i<f.length->0<=f.getD i 0/\f.getD i 0<(nT a:Int)),.c (.bool (di a b f)),[]⟩
def qX:List AD->Option Post
 | [.c (.r3 .i64 a),.c (.r3 .i64 b),.c (.ints .i64 f)]=>some (qW a b f)
 |_=>none
def E4(a:List (List (List Int)))(b:List (List (List Int)))(f:List Int):Nat->Option Ann
 |0=>some (Ann.mk ((Nat)) (fun k=>⟨[(0,.c (.ro (.r3 .i64 a))),(1,.c (.ro (.r3 .i64 b))),(2,.c (.ro (.ints .i64 f))),(7,.c (.int .i64 ((f.length:Int)-1))),(8,.c (.int .i64 ((k:Int))))],[]⟩) (fun k=>k<=a.length/\(∀k1,k1<k->kO a b f k1=true)) (fun k=>a.length-k) (fun k=>fun b_=>match b_ with|2=>some (Ann.mk ((Nat)) (fun i=>⟨[(0,.c (.ro (.r3 .i64 a))),(1,.c (.ro (.r3 .i64 b))),(2,.c (.ro (.ints .i64 f))),(7,.c (.int .i64 ((f.length:Int)-1))),(8,.c (.int .i64 ((k:Int)))),(9,.c (.int .i64 ((i:Int))))],[]⟩) (fun i=>k<a.length/\i<=f.length/\(∀i1,i1<i->kN a b f k i1=true)) (fun i=>f.length-i) (fun i=>fun b_=>match b_ with|4=>some (Ann.mk ((Nat)) (fun j=>⟨[(0,.c (.ro (.r3 .i64 a))),(1,.c (.ro (.r3 .i64 b))),(2,.c (.ro (.ints .i64 f))),(7,.c (.int .i64 ((f.length:Int)-1))),(8,.c (.int .i64 ((k:Int)))),(9,.c (.int .i64 ((i:Int)))),(10,.c (.int .i64 ((j:Int))))],[]⟩) (fun j=>i<f.length/\j<=f.length/\(∀j1,j1<j->eQ a b f k i j1=true)) (fun j=>f.length-j) (fun j=>fun b_=>match b_ with|1013=>some (Ann.mk ((Unit)) (fun u=>⟨[(0,.c (.ro (.r3 .i64 a))),(1,.c (.ro (.r3 .i64 b))),(2,.c (.ro (.ints .i64 f))),(7,.c (.int .i64 ((f.length:Int)-1))),(8,.c (.int .i64 ((k:Int)))),(9,.c (.int .i64 ((i:Int)))),(10,.c (.int .i64 ((j:Int)))),(11,.c (.int .i64 (en (a.getD k []) i j)))],[]⟩) (fun u=>j<f.length/\¬ ((f.length:Int)-1<en (a.getD k []) i j\/((i:Int)<(f.length:Int)-1/\(j:Int)<(f.length:Int)-1/\en (a.getD k []) i j<(f.length:Int)-1))) (fun u=>0) (fun _=>av))|_=>none))|_=>none))|_=>none))
 |_=>none
def E5:List (Nat×Ctr):=[]
def wO(a:List (List (List Int)))(b:List (List (List Int)))(f:List Int):Prop :=
 (ac ((f.length:Int)-(1:Int))/\((∃x0:Nat,(x0<=a.length/\∀(k1:Nat),k1<x0->kO a b f k1=true)/\a=a/\b=b/\f=f/\(f.length:Int)-(1:Int)=(f.length:Int)-(1:Int)/\(0:Int)=(x0:Int))/\(∀x1:Nat,((x1<=a.length/\∀(k1:Nat),k1<x1->kO a b f k1=true)->(ae (decide ((x1:Int)<(a.length:Int))) ((∃x2:Nat,(x1<a.length/\x2<=f.length/\∀(i1:Nat),i1<x2->kN a b f x1 i1=true)/\a=a/\b=b/\f=f/\(f.length:Int)-(1:Int)=(f.length:Int)-(1:Int)/\(x1:Int)=(x1:Int)/\(0:Int)=(x2:Int))/\(∀x3:Nat,((x1<a.length/\x3<=f.length/\∀(i1:Nat),i1<x3->kN a b f x1 i1=true)->(ae (decide ((x3:Int)<=(f.length:Int)-(1:Int))) ((∃x4:Nat,(x3<f.length/\x4<=f.length/\∀(j1:Nat),j1<x4->eQ a b f x1 x3 j1=true)/\a=a/\b=b/\f=f/\(f.length:Int)-(1:Int)=(f.length:Int)-(1:Int)/\(x1:Int)=(x1:Int)/\(x3:Int)=(x3:Int)/\(0:Int)=(x4:Int))/\(∀x5:Nat,((x3<f.length/\x5<=f.length/\∀(j1:Nat),j1<x5->eQ a b f x1 x3 j1=true)->(ae (decide ((x5:Int)<=(f.length:Int)-(1:Int))) (ab (x1:Int) a.length/\(ab (x3:Int) ((a.getD (x1:Int).toNat ([]:List (List Int))).length)/\((ab (x5:Int) (((List.getD a (x1:Int).toNat ([]:List (List Int))).getD (x3:Int).toNat []).length)) /\
 ((ae (decide ((f.length:Int)-(1:Int)<(List.getD (List.getD a (x1:Int).toNat ([]:List (List Int))) (x3:Int).toNat []).getD (x5:Int).toNat (0:Int))) (ac ((x5:Int)+(1:Int))/\∃x6:Nat,(x3<f.length/\x6<=f.length/\∀(j1:Nat),j1<x6->eQ a b f x1 x3 j1=true)/\f.length-x6<f.length-x5/\a=a/\b=b/\f=f/\(f.length:Int)-(1:Int)=(f.length:Int)-(1:Int)/\(x1:Int)=(x1:Int)/\(x3:Int)=(x3:Int)/\(x5:Int)+(1:Int)=(x6:Int)) (ae (decide ((x3:Int)<(f.length:Int)-(1:Int))) (ae (decide ((x5:Int)<(f.length:Int)-(1:Int))) (ae (decide ((List.getD (List.getD a (x1:Int).toNat ([]:List (List Int))) (x3:Int).toNat []).getD (x5:Int).toNat (0:Int)<(f.length:Int)-(1:Int))) (ac ((x5:Int)+(1:Int))/\∃x7:Nat,(x3<f.length/\x7<=f.length/\∀(j1:Nat),j1<x7->eQ a b f x1 x3 j1=true)/\f.length-x7<f.length-x5/\a=a/\b=b/\f=f/\(f.length:Int)-(1:Int)=(f.length:Int)-(1:Int)/\(x1:Int)=(x1:Int)/\(x3:Int)=(x3:Int)/\(x5:Int)+(1:Int)=(x7:Int)) (∃x8:Unit,((x5<f.length/\(¬((f.length:Int)-(1:Int)<en (a.getD x1 ([]:List (List Int))) x3 x5\/(x3:Int)<(f.length:Int)-(1:Int)/\(x5:Int)<(f.length:Int)-(1:Int)/\en (a.getD x1 ([]:List (List Int))) x3 x5<(f.length:Int)-(1:Int))))/\(a=a/\(b=b/\(f=f/\(((f.length:Int)-(1:Int)=(f.length:Int)-(1:Int)) /\
 (((x1:Int)=(x1:Int))/\(((x3:Int)=(x3:Int))/\(((x5:Int)=(x5:Int))/\((List.getD (List.getD a (x1:Int).toNat ([]:List (List Int))) (x3:Int).toNat []).getD (x5:Int).toNat (0:Int)=en (a.getD x1 ([]:List (List Int))) x3 x5))))))))))) (∃x9:Unit,(((x5<f.length)/\(¬((f.length:Int)-(1:Int)<en (a.getD x1 ([]:List (List Int))) x3 x5\/(x3:Int)<(f.length:Int)-(1:Int)/\(x5:Int)<(f.length:Int)-(1:Int)/\en (a.getD x1 ([]:List (List Int))) x3 x5<(f.length:Int)-(1:Int))))/\((a=a)/\((b=b)/\((f=f)/\(((f.length:Int)-(1:Int)=(f.length:Int)-(1:Int))/\(((x1:Int)=(x1:Int))/\(((x3:Int)=(x3:Int))/\(((x5:Int)=(x5:Int))/\((List.getD (List.getD a (x1:Int).toNat ([]:List (List Int))) (x3:Int).toNat []).getD (x5:Int).toNat (0:Int)=en (a.getD x1 ([]:List (List Int))) x3 x5))))))))))) (∃x10:Unit,(((x5<f.length)/\(¬((f.length:Int)-(1:Int)<en (a.getD x1 ([]:List (List Int))) x3 x5\/(x3:Int)<(f.length:Int)-(1:Int)/\(x5:Int)<(f.length:Int)-(1:Int)/\en (a.getD x1 ([]:List (List Int))) x3 x5<(f.length:Int)-(1:Int))))/\((a=a)/\((b=b)/\((f=f)/\(((f.length:Int)-(1:Int)=(f.length:Int)-(1:Int))/\(((x1:Int)=(x1:Int))/\(((x3:Int)=(x3:Int))/\(((x5:Int)=(x5:Int))/\((List.getD (List.getD a (x1:Int).toNat ([]:List (List Int))) (x3:Int).toNat []).getD (x5:Int).toNat (0:Int)=en (a.getD x1 ([]:List (List Int))) x3 x5)))))))))))) /\
 (∀x11:Unit,(((x5<f.length)/\(¬((f.length:Int)-(1:Int)<en (a.getD x1 ([]:List (List Int))) x3 x5\/(x3:Int)<(f.length:Int)-(1:Int)/\(x5:Int)<(f.length:Int)-(1:Int)/\en (a.getD x1 ([]:List (List Int))) x3 x5<(f.length:Int)-(1:Int))))->((ab (en (a.getD x1 ([]:List (List Int))) x3 x5) f.length)/\((ab (x1:Int) b.length)/\((ab (x3:Int) f.length)/\((ab (f.getD (x3:Int).toNat (0:Int)) ((b.getD (x1:Int).toNat ([]:List (List Int))).length))/\((ab (x5:Int) f.length)/\((ab (f.getD (x5:Int).toNat (0:Int)) (((List.getD b (x1:Int).toNat ([]:List (List Int))).getD ((f.getD (x3:Int).toNat (0:Int)).toNat) []).length))/\(ae (f.getD ((en (a.getD x1 ([]:List (List Int))) x3 x5).toNat) (0:Int) != (List.getD (List.getD b (x1:Int).toNat ([]:List (List Int))) ((List.getD f (x3:Int).toNat (0:Int)).toNat) []).getD ((f.getD (x5:Int).toNat (0:Int)).toNat) (0:Int)) ((false=di a b f)/\True) ((ac ((x5:Int)+(1:Int)))/\(∃x12:Nat,(((x3<f.length)/\((x12<=f.length)/\(∀(j1:Nat),j1<x12->eQ a b f x1 x3 j1=true)))/\((f.length-x12<f.length-x5)/\((a=a)/\((b=b)/\((f=f)/\(((f.length:Int)-(1:Int)=(f.length:Int)-(1:Int))/\(((x1:Int)=(x1:Int))/\(((x3:Int)=(x3:Int))/\((x5:Int)+(1:Int)=(x12:Int))))))))))))))))))))))))) ((ac ((x3:Int)+(1:Int)))/\(∃x13:Nat,(((x1<a.length)/\((x13<=f.length)/\(∀(i1:Nat),i1<x13->kN a b f x1 i1=true)))/\((f.length-x13<f.length-x3) /\
 ((a=a)/\((b=b)/\((f=f)/\(((f.length:Int)-(1:Int)=(f.length:Int)-(1:Int))/\(((x1:Int)=(x1:Int))/\((x3:Int)+(1:Int)=(x13:Int))))))))))))))) ((ac ((x1:Int)+(1:Int)))/\(∃x14:Nat,(((x14<=a.length)/\(∀(k1:Nat),k1<x14->kO a b f k1=true))/\((a.length-x14<a.length-x1)/\((a=a)/\((b=b)/\((f=f)/\(((f.length:Int)-(1:Int)=(f.length:Int)-(1:Int))/\((x1:Int)+(1:Int)=(x14:Int)))))))))))))) ((true=di a b f)/\True))))))
theorem MF(a:List (List (List Int)))(b:List (List (List Int)))(f:List Int):aY Tryz.prog (aj E5) am (E4 a b f) Tryz.f176 (aP Tryz.f176) [] [.c (.r3 .i64 a),.c (.r3 .i64 b),.c (.ints .i64 f)] (qW a b f)=wO a b f:=by kernel_rfl
theorem MG(a:List (List (List Int)))(b:List (List (List Int)))(f:List Int)(Yh:(qW a b f).pre):wO a b f:=by
 simp only[qW,wO,aX,u1,u2,u3,u4,u5,u6,u7,u8,u9,v1,v2,v3,v4,v5,v6,v7,v8,v9,w1,w2,w3,w4,aN,ab,ac,ah,ax]at Yh⊢;obtain⟨h1,h2,h3,h4,h5,h6,h7,h8⟩:=Yh;refine⟨by omega,⟨0,⟨by omega,fun _ h=>by omega⟩,rfl⟩,fun k ⟨hk,ik⟩=>⟨fun hk2=>⟨⟨0,⟨by omega,by omega,fun _ h=>by omega⟩,rfl⟩,fun i ⟨hka,hi,ii⟩=>⟨fun hi2=>⟨⟨0,⟨by omega,by omega,fun _ h=>by omega⟩,rfl⟩,fun j ⟨hia,hj,ij⟩=>⟨fun hj2=>?_,fun hj2=>?_⟩⟩,fun hi2=>?_⟩⟩,fun hk2=>?_⟩⟩
 ·have A:=h6 k hka
  have E:=(A.2 i (by omega)).2 j (by omega)
  have L1:(a.getD k []).length=nT a:=A.1
  have L2:=(A.2 i (by omega)).1
  have next:eQ a b f k i j=true->∀j1,j1<j+1->eQ a b f k i j1=true:=fun h j1 q=>by
   by_cases e:j1=j
   ·subst e;exact h
   ·exact ij j1 (by omega)
  refine⟨by omega,by omega,by omega,⟨fun q=>⟨by omega,j+1,⟨by omega,by omega,next (E3 (.inl q))⟩,by omega,by omega⟩,fun q=>⟨fun q2=>⟨fun q3=>⟨fun q4=>⟨by omega,j+1,⟨by omega,by omega,next (E3 (.inr ⟨q2,q3,q4⟩))⟩,by omega,by omega⟩,fun q4=>⟨⟨⟩,⟨by omega,?_⟩,rfl⟩⟩,fun q3=>⟨⟨⟩,⟨by omega,?_⟩,rfl⟩⟩,fun q2=>⟨⟨⟩,⟨by omega,?_⟩,rfl⟩⟩⟩,fun u ⟨_,hn⟩=>?_⟩
  ·rintro(z|⟨_,_,z⟩)
   ·exact q z
   ·exact q4 z
  ·rintro(z|⟨_,z,_⟩)
   ·exact q z
   ·exact q3 z
  ·rintro(z|⟨z,_,_⟩)
   ·exact q z
   ·exact q2 z
  ·have B:=h7 k (by omega)
   have L3:(b.getD k []).length=nT a:=B.1
   have fi:=h8 i (by omega)
   have fj:=h8 j (by omega)
   have L4:=(B.2 (f.getD i 0).toNat (by omega)).1
   have T:eQ a b f k i j=decide (f.getD (en (a.getD k []) i j).toNat 0=((b.getD k []).getD (f.getD i 0).toNat []).getD (f.getD j 0).toNat 0):=ME hn
   have v:en (a.getD k []) i j<(f.length:Int):=by
    have:=fun z=>hn (.inl z)
    omega
   refine⟨by omega,by omega,by omega,by omega,by omega,by omega,fun q=>?_,fun q=>⟨by omega,j+1,⟨by omega,by omega,next ?_⟩,by omega,by omega⟩⟩
   ·rw[decide_eq_false q]at T
    cases z:di a b f
    ·rfl
    ·rw[wM.1 z k i j (by omega) (by omega) (by omega)]at T;cases T
   ·rw[T];exact decide_eq_true q
 ·refine⟨by omega,i+1,⟨by omega,by omega,fun i1 q=>?_⟩,by omega,by omega⟩
  by_cases e:i1=i
  ·subst e
   rw[kN,List.all_eq_true];intro y hy
   exact ij y (by have:=List.mem_range.1 hy;omega)
  ·exact ii i1 (by omega)
 ·refine⟨by omega,k+1,⟨by omega,fun k1 q=>?_⟩,by omega,by omega⟩
  by_cases e:k1=k
  ·subst e
   rw[kO,List.all_eq_true];intro y hy
   exact ii y (by have:=List.mem_range.1 hy;omega)
  ·exact ik k1 (by omega)
 ·symm
  rw[di,List.all_eq_true];intro y hy
  exact ik y (by have:=List.mem_range.1 hy;omega)
theorem E6:Fits Tryz.prog 176 ⟨[],qX⟩:=by
 refine bf (Γ:=aj E5) aW Tryz.func176 fun ds p h hp=>?_
 unfold qX at h;split at h
 ·cases h
  exact⟨am,E4 _ _ _ ,by rw[MF];exact MG _ _ _  hp⟩
 ·cases h
end Go.Sx
