/- MapA -/
import Derived.Test.YtkmldclpaniclaaGreatMapQ
open Go Go.Proofs
namespace Go.Sx
set_option linter.unusedSimpArgs false
set_option linter.unusedVariables false
def eX(a b:V9)(f:V7)(k x y:Nat):Bool :=
 decide ((f.length:Int)-1<en (a.getD k []) x y)||(decide ((x:Int)<(f.length:Int)-1)&&(decide ((y:Int)<(f.length:Int)-1)&&decide (en (a.getD k []) x y<(f.length:Int)-1))) ||
  decide (f.getD (en (a.getD k []) x y).toNat 0=en (b.getD k []) (f.getD x 0).toNat (f.getD y 0).toNat)
def lu(a b:V9)(f:V7)(k x:Nat):Bool:=(List.range f.length).all (eX a b f k x)
def lv(a b:V9)(f:V7)(k:Nat):Bool:=(List.range f.length).all (lu a b f k)
def dm(a b:V9)(f:V7):Bool:=(List.range a.length).all (lv a b f)
def lw(a b:V9)(f:V7):Prop:=∀k x y,k<a.length->x<f.length->y<f.length->en (a.getD k []) x y<(f.length:Int) ->
 f.getD (en (a.getD k []) x y).toNat 0=en (b.getD k []) (f.getD x 0).toNat (f.getD y 0).toNat
theorem yH{a b:V9}{f:V7}:dm a b f=true↔∀k x y,k<a.length->x<f.length->y<f.length->eX a b f k x y=true:=by
 simp only[dm,lv,lu,List.all_eq_true,List.mem_range];exact⟨fun h k x y hk hx hy=>h k hk x hx y hy,fun h k hk x hx y hy=>h k x y hk hx hy⟩
theorem sq{n:Nat}{a b:V9}(ha:bt n a){f:V7}{y:Int}(hf:f.length<n):lw a b (f++[y])↔lw a b f/\dm a b (f++[y])=true:=by
 have L:(f++[y]).length=f.length+1:=by simp
 have lo:∀i,i<f.length->(f++[y]).getD i 0=f.getD i 0:=fun i hi=>getD_append_left' _ _ _ _ hi
 constructor
 ·intro h
  refine⟨fun k x z hk hx hz hv=>?_,yH.2 fun k x z hk hx hz=>?_⟩
  ·have h0:=(((ha k hk).2 x (by omega)).2 z (by omega)).1
   have:=h k x z hk (by omega) (by omega) (by omega)
   rwa[lo _ (by omega),lo _ hx,lo _ hz]at this
  ·rw[eX,Bool.or_eq_true,Bool.or_eq_true]
   by_cases q:en (a.getD k []) x z<((f++[y]).length:Int)
   ·exact .inr (decide_eq_true (h k x z hk hx hz q))
   ·exact .inl (.inl (decide_eq_true (by omega)))
 ·rintro⟨h1,h2⟩ k x z hk hx hz hv
  have h3:=yH.1 h2 k x z hk hx hz
  rw[eX,Bool.or_eq_true,Bool.or_eq_true]at h3;rcases h3 with(h3|h3)|h3
  ·have:=of_decide_eq_true h3;omega
  ·rw[Bool.and_eq_true,Bool.and_eq_true,decide_eq_true_eq,decide_eq_true_eq,decide_eq_true_eq]at h3
   obtain⟨q1,q2,q3⟩:=h3;have h0:=(((ha k hk).2 x (by omega)).2 z (by omega)).1
   rw[lo _ (by omega),lo _ (by omega),lo _ (by omega)]
   exact h1 k x z hk (by omega) (by omega) (by omega)
  ·exact of_decide_eq_true h3
structure isoL (n:Nat) (a b:V9) (g:V7):Prop where
 len:g.length=n
 rng:∀i,i<n->0<=g.getD i 0/\g.getD i 0<(n:Int)
 nd:g.Nodup
 ok:lw a b g
theorem isoL.g{n:Nat}{a b:V9}{g:V7}(h:isoL n a b g)(ha:bt n a):IsoG n a b fun x=>(g.getD x 0).toNat where
 lt x hx:=by have:=h.rng x hx;omega
 inj x y hx hy e:=by
  have h1:=h.rng x hx
  have h2:=h.rng y hy
  have e:g.getD x 0=g.getD y 0:=by omega
  have l:=h.len
  rw[bF g 0 x (by omega),bF g 0 y (by omega)]at e
  exact(List.getElem_inj h.nd).1 e
 map k x y hk hx hy:=by
  have hv:=((ha k hk).2 x hx).2 y hy
  have l:=h.len
  rw[<-h.ok k x y hk (by omega) (by omega) (by omega)]
  have:=h.rng (en (a.getD k []) x y).toNat (by omega)
  omega
def cO(n:Nat)(a b:V9):Nat->V7->V8
 |0,f=>[f]
 |k+1,f=>(List.range n).flatMap fun y:Nat=>if(y:Int)∈f\/dm a b (f++[(y:Int)])=false then []else cO n a b k (f++[(y:Int)])
structure preL (n:Nat) (a b:V9) (f:V7):Prop where
 rng:∀i,i<f.length->0<=f.getD i 0/\f.getD i 0<(n:Int)
 nd:f.Nodup
 ok:lw a b f
theorem preL.snoc{n:Nat}{a b:V9}(ha:bt n a){f:V7}(h:preL n a b f){y:Nat}(hf:f.length<n)(hy:y<n)(h1:¬ (y:Int)∈f)(h2:dm a b (f++[(y:Int)])=true):preL n a b (f++[(y:Int)]) where
 rng i hi:=by
  simp at hi
  by_cases q:i<f.length
  ·rw[getD_append_left' _ _ _ _ q];exact h.rng i q
  ·rw[getD_append_right' _ _ _ _ (by omega),show i-f.length=0 by omega]
   simp;omega
 nd:=by rw[List.nodup_append];exact⟨h.nd,by simp,fun x hx z hz=>by simp at hz;subst hz;intro e;subst e;exact h1 hx⟩
 ok:=(sq ha hf).2 ⟨h.ok,h2⟩
theorem m6(n:Nat)(a b:V9):∀(k:Nat) (f g:V7),g∈cO n a b k f->f <+: g/\g.length=f.length+k
 |0,f,g,h=>by simp[cO]at h;subst h;exact⟨List.prefix_refl _,rfl⟩
 |k+1,f,g,h=>by
  rw[cO]at h;obtain⟨y,_,h⟩:=List.mem_flatMap.1 h;split at h
  ·cases h
  ·obtain⟨h1,h2⟩:=m6 n a b k _ g h
   exact⟨(List.prefix_append f [(y:Int)]).trans h1,by rw[h2];simp;omega⟩
theorem m7{n:Nat}{a b:V9}(ha:bt n a):∀(k:Nat) (f g:V7),f.length+k=n->preL n a b f->g∈cO n a b k f->isoL n a b g
 |0,f,g,hl,hp,h=>by
  simp[cO]at h;subst h
  exact⟨by omega,fun i hi=>hp.rng i (by omega),hp.nd,hp.ok⟩
 |k+1,f,g,hl,hp,h=>by
  rw[cO]at h;obtain⟨y,hy,h⟩:=List.mem_flatMap.1 h;split at h
  ·cases h
  ·rename_i hc
   exact m7 ha k _ g (by simp;omega) (hp.snoc ha (by omega) (List.mem_range.1 hy) (fun q=>hc (.inl q)) (by cases e:dm a b (f++[(y:Int)]);exact absurd (.inr e) hc;rfl)) h
theorem GO{a b:V9}{n:Nat}(ha:bt n a){g:V7}(hg:g.length=n)(h:lw a b g)(i:Nat)(hi:i<=n):lw a b (g.take i):=fun k x y hk hx hy hv=>by
 rw[List.length_take]at hx hy hv;have h0:=(((ha k hk).2 x (by omega)).2 y (by omega)).1
 rw[oq _ _ _ _ (by omega),oq _ _ _ _ (by omega),oq _ _ _ _ (by omega)]
 exact h k x y hk (by omega) (by omega) (by omega)
theorem GP{n:Nat}{a b:V9}(ha:bt n a){g:V7}(h:isoL n a b g):∀(k i:Nat),i+k=n->g∈cO n a b k (g.take i)
 |0,i,hi=>by
  have:=h.len
  rw[List.take_of_length_le (by omega)];simp[cO]
 |k+1,i,hi=>by
  have L:=h.len
  have r:=h.rng i (by omega)
  have e:g.take (i+1)=g.take i++[(((g.getD i 0).toNat:Nat):Int)]:=by rw[Int.toNat_of_nonneg r.1,dF g 0 i (by omega)]
  rw[cO];refine List.mem_flatMap.2 ⟨(g.getD i 0).toNat,List.mem_range.2 (by omega),?_⟩
  have ok:=GO ha L h.ok (i+1) (by omega)
  rw[e]at ok;have ok2:=((sq ha (by rw[List.length_take];omega)).1 ok).2
  rw[if_neg,<-e]
  ·exact GP ha h k (i+1) (by omega)
  ·rintro(q|q)
   ·have nd:(g.take (i+1)).Nodup:=h.nd.sublist (List.take_sublist _ _)
    rw[e,List.nodup_append]at nd;exact nd.2.2 _ q _ (by simp) rfl
   ·rw[ok2]at q;cases q
theorem GQ:∀(p a b:V7),bj (p++a) (p++b)=bj a b
 | [],_,_=>rfl
 |x::p,a,b=>by rw[List.cons_append,List.cons_append,bj,if_pos rfl];exact GQ p a b
theorem GR(n:Nat)(a b:V9):∀(k:Nat) (f:V7),eY (cO n a b k f)
 |0,f=>by simp[cO,eY]
 |k+1,f=>by
  rw[cO,eY,List.pairwise_flatMap];refine⟨fun y _=>?_,?_⟩
  ·split
   ·exact List.Pairwise.nil
   ·exact GR n a b k _
  ·refine List.Pairwise.imp ?_ (List.pairwise_lt_range (n:=n))
   intro y z hyz p hp q hq
   split at hp
   ·cases hp
   ·split at hq
    ·cases hq
    ·obtain⟨⟨p',e1⟩,_⟩:=m6 n a b k _ p hp
     obtain⟨⟨q',e2⟩,_⟩:=m6 n a b k _ q hq;rw[<-e1,<-e2,List.append_assoc,List.append_assoc,GQ];simp only[List.singleton_append,bj];rw[if_neg (by omega)];simp;omega
/- The search. -/
def c8(g:Nat->V8->V8)(out:V8):Nat->V8
 |0=>out
 |y+1=>g y (c8 g out y)
def dZ(n:Nat)(a b:V9)(Yi:Nat)(rec:V7->V7->V7->V8->V8)(f c d:V7)(y:Nat)(o:V8):V8 :=
 if o.length<Yi then
  (if(y:Int)∈f\/¬ c.getD f.length 0=d.getD y 0\/dm a b (f++[(y:Int)])=false then o
   else match fY n a b (c.set f.length 60) (d.set y 60)with
    |none=>o
    |some (l,r)=>rec (f++[(y:Int)]) l r o)
 else o
def dI(n:Nat)(a b:V9)(Yi:Nat):Nat->V7->V7->V7->V8->V8
 |0,f,_,_,out=>out++[f]
 |k+1,f,c,d,out=>c8 (dZ n a b Yi (dI n a b Yi k) f c d) out n
theorem GS{n:Nat}{a b:V9}{Yi:Nat}{rec:V7->V7->V7->V8->V8}{f c d:V7}{out:V8}{y:Nat}(h:Yi<=(c8 (dZ n a b Yi rec f c d) out y).length) :
  ∀j,c8 (dZ n a b Yi rec f c d) out (y+j)=c8 (dZ n a b Yi rec f c d) out y
 |0=>rfl
 |j+1=>by
  rw[<-Nat.add_assoc,c8,dZ,GS h j,if_neg (by omega)]
theorem oG{n:Nat}{a b:V9}:∀(fuel num:Nat) (c d c' d':V7),gp n a b fuel num c d=some (c',d')->c'.length=n/\d'.length=n/\(∀x,x<n->0<=c'.getD x 0/\c'.getD x 0<2*(n:Int))/\∀x,x<n->0<=d'.getD x 0/\d'.getD x 0<2*(n:Int)
 |0,num,c,d,c',d',h=>by cases h
 |fuel+1,num,c,d,c',d',h=>by
  rw[gp]at h;split at h
  ·cases h
  ·rename_i c1 d1 m e
   have:=zg e
   obtain⟨l1,l2,l3,_,l5,l6⟩:=this;split at h
   ·cases h
    exact⟨l1,l2,fun x hx=>⟨(l5 x hx).1,by have:=(l5 x hx).2;omega⟩,fun x hx=>⟨(l6 x hx).1,by have:=(l6 x hx).2;omega⟩⟩
   ·exact oG fuel m c1 d1 c' d' h
theorem GT{n:Nat}{a b:V9}(ha:bt n a)(hab:b.length=a.length){Yi:Nat}:∀(k:Nat) (f c d:V7) (out:V8),f.length+k=n->preL n a b f->c.length=n->d.length=n->out.length<Yi ->
  (∀g,g∈cO n a b k f->∀x,x<n->c.getD x 0=d.getD (g.getD x 0).toNat 0)->dI n a b Yi k f c d out=out++(cO n a b k f).take (Yi-out.length)
 |0,f,c,d,out,hl,hp,hc,hd,ho,hg=>by
  rw[dI,cO,List.take_of_length_le (by simp;omega)]
 |k+1,f,c,d,out,hl,hp,hc,hd,ho,hg=>by
  rw[dI,cO];have key:∀y,y<=n->c8 (dZ n a b Yi (dI n a b Yi k) f c d) out y=out++((List.range y).flatMap fun y:Nat=>if(y:Int)∈f\/dm a b (f++[(y:Int)])=false then []else cO n a b k (f++[(y:Int)])).take (Yi-out.length):=fun y=>by
   induction y with
   |zero=>intro _;simp[c8]
   |succ y ih =>
    intro hy
    have ih:=ih (by omega)
    rw[c8,ih,List.range_succ,List.flatMap_append];simp only[List.flatMap_cons,List.flatMap_nil,List.append_nil];generalize hA:(List.range y).flatMap (fun y:Nat=>if(y:Int)∈f\/dm a b (f++[(y:Int)])=false then []else cO n a b k (f++[(y:Int)]))=A
    rw[dZ];by_cases hlt:(out++A.take (Yi-out.length)).length<Yi
    ·rw[if_pos hlt]
     have hA2:A.length<Yi-out.length:=by rw[List.length_append,List.length_take]at hlt;omega
     rw[List.take_of_length_le (by omega)]at hlt⊢
     rw[List.take_append,List.take_of_length_le (l:=A) (by omega)]
     by_cases h1:(y:Int)∈f\/dm a b (f++[(y:Int)])=false
     ·rw[if_pos h1,if_pos (by rcases h1 with h1|h1;exact .inl h1;exact .inr (.inr h1))]
      simp
     ·rw[if_neg h1]
      have pre':preL n a b (f++[(y:Int)]):=hp.snoc ha (by omega) (by omega) (fun q=>h1 (.inl q)) (by cases e:dm a b (f++[(y:Int)]);exact absurd (.inr e) h1;rfl)
      have sub:∀g,g∈cO n a b k (f++[(y:Int)])->g∈cO n a b (k+1) f/\g.getD f.length 0=(y:Int):=fun g hg'=>by
       refine⟨by rw[cO];exact List.mem_flatMap.2 ⟨y,List.mem_range.2 (by omega),by rw[if_neg h1];exact hg'⟩,?_⟩
       obtain⟨⟨g',e⟩,_⟩:=m6 n a b k _ g hg';rw[<-e,List.append_assoc,getD_append_right' _ _ _ _ (by omega)]
       simp
      by_cases h2:c.getD f.length 0=d.getD y 0
      ·rw[if_neg (by rintro(q|q|q);exact h1 (.inl q);exact q h2;exact h1 (.inr q))]
       have hcc:∀g,g∈cO n a b k (f++[(y:Int)])->∀x,x<n->(c.set f.length 60).getD x 0=(d.set y 60).getD (g.getD x 0).toNat 0:=fun g hg' x hx=>by
        obtain⟨q1,q2⟩:=sub g hg';have iso:=m7 ha k _ g (by simp;omega) pre' hg'
        have hi:=(iso.g ha).lt x hx
        have inj:=(iso.g ha).inj x f.length hx (by omega)
        try dsimp only at hi inj
        rw[q2,Int.toNat_natCast]at inj;rw[hZ _ _ _ _ (by omega),hZ _ _ _ _ (by omega)]
        by_cases e:x=f.length
        ·subst e;rw[if_pos rfl,if_pos (by rw[q2];simp)]
        ·rw[if_neg e,if_neg (fun q=>e (inj q))]
         exact hg g q1 x hx
       cases hr:fY n a b (c.set f.length 60) (d.set y 60)with
       |none =>
        have:cO n a b k (f++[(y:Int)])=[]:=by
         cases hx:cO n a b k (f++[(y:Int)])with
         |nil=>rfl
         |cons g r =>
          have hg':g∈cO n a b k (f++[(y:Int)]):=by rw[hx];simp
          have iso:=m7 ha k _ g (by simp;omega) pre' hg'
          obtain⟨_,_,e,_⟩:=sI (iso.g ha) ha hab (c:=c.set f.length 60) (d:=d.set y 60) (by simpa using hc) (by simpa using hd) (hcc g hg')
          rw[hr]at e;cases e
        rw[this];simp
       |some lr =>
        obtain⟨l,r⟩:=lr;simp only;obtain⟨e1,e2,_,_⟩:=oG _ _ _ _ _ _ hr;rw[GT ha hab k _ l r _ (by simp;omega) pre' e1 e2 hlt fun g hg'=>?_]
        ·rw[List.append_assoc,show Yi-(out++A).length=Yi-out.length-A.length by rw[List.length_append];omega]
        ·have iso:=m7 ha k _ g (by simp;omega) pre' hg'
         obtain⟨c',d',e,h3⟩:=sI (iso.g ha) ha hab (c:=c.set f.length 60) (d:=d.set y 60) (by simpa using hc) (by simpa using hd) (hcc g hg')
         rw[hr]at e;cases e;exact h3
      ·rw[if_pos (.inr (.inl h2))]
       have:cO n a b k (f++[(y:Int)])=[]:=by
        cases hx:cO n a b k (f++[(y:Int)])with
        |nil=>rfl
        |cons g r =>
         obtain⟨q1,q2⟩:=sub g (by rw[hx];simp)
         have:=hg g q1 f.length (by omega)
         rw[q2,Int.toNat_natCast]at this;exact absurd this h2
       rw[this];simp
    ·rw[if_neg hlt]
     have:Yi-out.length<=A.length:=by rw[List.length_append,List.length_take]at hlt;omega
     rw[List.take_append_of_le_length this]
  exact key n (Nat.le_refl _)
def lz(n:Nat)(a b:V9)(Yi:Nat):V8 :=
 if dm a b [0]=false then []else match fY n a b ((List.replicate n 0).set 0 60) ((List.replicate n 0).set 0 60)with
  |none=>[]
  |some (l,r)=>dI n a b Yi (n-1) [0] l r []
def d4(n:Nat)(a b:V9):V8:=if dm a b [0]=false then []else cO n a b (n-1) [0]
theorem GU{n:Nat}{a b:V9}(ha:bt n a)(hn:1<=n)(h:dm a b [0]=true):preL n a b [0] where
 rng i hi:=by simp at hi;subst hi;simp;omega
 nd:=by simp
 ok:=((sq (f:=[]) (y:=0) ha (by simp;omega)).2 ⟨fun k x y _ hx=>by simp at hx,h⟩)
theorem yI{n:Nat}{a b:V9}(ha:bt n a)(hab:b.length=a.length)(hn:1<=n){Yi:Nat}(hm:1<=Yi):lz n a b Yi=(d4 n a b).take Yi:=by
 rw[lz,d4];by_cases h:dm a b [0]=false
 ·rw[if_pos h,if_pos h,List.take_nil]
 ·rw[if_neg h,if_neg h]
  have h':dm a b [0]=true:=by cases e:dm a b [0];exact absurd e h;rfl
  have pre:=GU ha hn h'
  have l0:((List.replicate n (0:Int)).set 0 60).length=n:=by simp
  have hcc:∀g,g∈cO n a b (n-1) [0]->isoL n a b g/\∀x,x<n->((List.replicate n (0:Int)).set 0 60).getD x 0=((List.replicate n (0:Int)).set 0 60).getD (g.getD x 0).toNat 0:=fun g hg=>by
   have iso:=m7 ha (n-1) _ g (by simp;omega) pre hg
   obtain⟨⟨g',e⟩,_⟩:=m6 n a b (n-1) _ g hg;have g0:g.getD 0 0=0:=by rw[<-e];rfl
   refine⟨iso,fun x hx=>?_⟩
   have hi:=(iso.g ha).lt x hx
   have inj:=(iso.g ha).inj x 0 hx (by omega)
   try dsimp only at hi inj
   rw[g0]at inj;rw[hZ _ _ _ _ (by simpa using hx),hZ _ _ _ _ (by simpa using hi)]
   by_cases ex:x=0
   ·subst ex;rw[if_pos rfl,if_pos (by rw[g0];rfl)]
   ·rw[if_neg ex,if_neg (fun q=>ex (inj (by simpa using q)))]
    have z:∀i,i<n->(List.replicate n (0:Int)).getD i 0=0:=fun i hi=>by simp[List.getD_eq_getElem?_getD,hi]
    rw[z _ hx,z _ hi]
  cases hr:fY n a b ((List.replicate n 0).set 0 60) ((List.replicate n 0).set 0 60)with
  |none =>
   have:cO n a b (n-1) [0]=[]:=by
    cases hx:cO n a b (n-1) [0]with
    |nil=>rfl
    |cons g r =>
     obtain⟨iso,h2⟩:=hcc g (by rw[hx];simp)
     obtain⟨_,_,e,_⟩:=sI (iso.g ha) ha hab l0 l0 h2;rw[hr]at e;cases e
   rw[this,List.take_nil]
  |some lr =>
   obtain⟨l,r⟩:=lr;simp only;obtain⟨e1,e2,_,_⟩:=oG _ _ _ _ _ _ hr;rw[GT ha hab (n-1) [0] l r [] (by simp;omega) pre e1 e2 (by simp;omega) fun g hg=>?_]
   ·simp
   ·obtain⟨iso,h2⟩:=hcc g hg
    obtain⟨c',d',e,h3⟩:=sI (iso.g ha) ha hab l0 l0 h2;rw[hr]at e;cases e;exact h3
theorem lA{n:Nat}{a b:V9}(ha:bt n a)(hn:1<=n){g:V7}:g∈d4 n a b↔isoL n a b g/\g.getD 0 0=0:=by
 constructor
 ·intro h
  rw[d4]at h;split at h
  ·cases h
  ·rename_i h'
   have h':dm a b [0]=true:=by cases e:dm a b [0];exact absurd e h';rfl
   obtain⟨⟨g',e⟩,_⟩:=m6 n a b (n-1) _ g h;exact⟨m7 ha (n-1) _ g (by simp;omega) (GU ha hn h') h,by rw[<-e];rfl⟩
 ·rintro⟨h,h0⟩
  have t1:g.take 1=[0]:=by
   have:=h.len
   rw[<-dF g 0 0 (by omega),h0];rfl
  have ok:=GO ha h.len h.ok 1 hn
  rw[t1]at ok;have h':=((sq (f:=[]) (y:=0) ha (by simp;omega)).1 ok).2
  have h':dm a b [0]=true:=h'
  rw[d4,if_neg (by rw[h'];simp)]
  have:=GP ha h (n-1) 1 (by omega)
  rwa[t1]at this
theorem GV(n:Nat)(a b:V9):eY (d4 n a b):=by
 rw[d4];split
 ·exact List.Pairwise.nil
 ·exact GR _ _ _ _ _
theorem Qi{a b:V7}{i:Nat}(ha:i<a.length)(hb:i<b.length):bj (a.drop i) (b.drop i)=if a.getD i 0=b.getD i 0 then bj (a.drop (i+1)) (b.drop (i+1))else decide (a.getD i 0<b.getD i 0):=by
 rw[drop_cons' a 0 i ha,drop_cons' b 0 i hb,bj]
theorem GW{a b:V7}{i:Nat}(ha:i<=a.length)(hb:i<=b.length)(h:¬ (i<a.length/\i<b.length)):bj (a.drop i) (b.drop i)=decide (a.length<b.length):=by
 by_cases q:i<b.length
 ·rw[drop_cons' b 0 i q,List.drop_of_length_le (by omega),bj]
  exact(decide_eq_true (by omega)).symm
 ·rw[List.drop_of_length_le (l:=b) (by omega)]
  cases a.drop i<;>exact(decide_eq_false (by omega)).symm
def sr(a:V7)(b:V7):Post:=⟨af a.length,.c (.bool (bj a b)),[]⟩
def ss:List AD->Option Post
 | [.c (.ints .i64 a),.c (.ints .i64 b)]=>some (sr a b)
 |_=>none
def GX(a:V7)(b:V7):Nat->Option Ann
 |0=>some (Ann.mk ((Nat)) (fun i=>⟨[(0,.c (.ro (.ints .i64 a))),(1,.c (.ro (.ints .i64 b))),(5,.c (.int .i64 ((i:Int))))],[]⟩) (fun i=>i<=a.length/\i<=b.length/\bj a b=bj (a.drop i) (b.drop i)) (fun i=>a.length-i) (fun _=>am))
 |_=>none
def GY:List (Nat×Ctr):=[]
def yJ(a:V7)(b:V7):Prop :=
 (∃x0:Nat,(x0<=a.length/\x0<=b.length/\bj a b=bj (List.drop x0 a) (List.drop x0 b))/\a=a/\b=b/\(0:Int)=(x0:Int))/\∀x1:Nat,x1<=a.length/\x1<=b.length/\bj a b=bj (List.drop x1 a) (List.drop x1 b)->ae (decide ((x1:Int)<(a.length:Int))) (ae (decide ((x1:Int)<(b.length:Int))) (aa (x1:Int) a.length/\aa (x1:Int) b.length/\ae (a.getD (x1:Int).toNat (0:Int) != b.getD (x1:Int).toNat (0:Int)) (aa (x1:Int) a.length/\aa (x1:Int) b.length/\decide (a.getD (x1:Int).toNat (0:Int)<b.getD (x1:Int).toNat (0:Int))=bj a b/\True) (ac ((x1:Int)+(1:Int))/\∃x2:Nat,(x2<=a.length/\x2<=b.length/\bj a b=bj (List.drop x2 a) (List.drop x2 b))/\a.length-x2<a.length-x1/\a=a/\b=b/\(x1:Int)+(1:Int)=(x2:Int))) (decide ((a.length:Int)<(b.length:Int))=bj a b/\True)) (decide ((a.length:Int)<(b.length:Int))=bj a b/\True)
theorem Qj(a:V7)(b:V7):aJ Tryz.prog (ai GY) ak (GX a b) Tryz.f203 (aE Tryz.f203) [] [.c (.ints .i64 a),.c (.ints .i64 b)] (sr a b)=yJ a b:=by kernel_rfl
theorem Qk(a:V7)(b:V7)(Yh:(sr a b).pre):yJ a b:=by
 simp only[sr,yJ,aG,u1,u2,u3,u4,u5,u6,u7,u8,u9,v1,v2,v3,v4,v5,v6,v7,v8,v9,w1,w2,w3,w4,aH,aa,ac,af,ar]at Yh⊢;refine⟨⟨0,⟨by omega,by omega,rfl⟩,rfl⟩,fun i ⟨h1,h2,h3⟩=>⟨fun ha=>⟨fun hb=>?_,fun hb=>?_⟩,fun ha=>?_⟩⟩
 ·have s:=Qi (a:=a) (b:=b) (i:=i) (by omega) (by omega)
  refine⟨by omega,by omega,fun q=>⟨by omega,by omega,?_⟩,fun q=>⟨by omega,i+1,⟨by omega,by omega,?_⟩,by omega,by omega⟩⟩
  ·rw[h3,s,if_neg q]
  ·rw[h3,s,if_pos q]
 ·rw[h3,GW h1 h2 (by omega)];exact decide_eq_decide.2 (by omega)
 ·rw[h3,GW h1 h2 (by omega)];exact decide_eq_decide.2 (by omega)
theorem GZ:Fits Tryz.prog 203 ⟨[],ss⟩:=by
 refine aO (Γ:=ai GY) aF Tryz.func203 fun ds p h hp=>?_
 unfold ss at h;split at h
 ·cases h
  exact⟨ak,GX _ _ ,by rw[Qj];exact Qk _ _  hp⟩
 ·cases h
def nT(a:V9):Nat:=(a.getD 0 []).length
theorem G0{a b:V9}{f:V7}{k x y:Nat}(h:(f.length:Int)-1<en (a.getD k []) x y\/((x:Int)<(f.length:Int)-1/\(y:Int)<(f.length:Int)-1/\en (a.getD k []) x y<(f.length:Int)-1)):eX a b f k x y=true:=by
 rw[eX,Bool.or_eq_true,Bool.or_eq_true];rcases h with h|⟨h1,h2,h3⟩
 ·exact .inl (.inl (decide_eq_true h))
 ·exact .inl (.inr (by rw[decide_eq_true h1,decide_eq_true h2,decide_eq_true h3];rfl))
theorem Ql{a b:V9}{f:V7}{k x y:Nat}(h:¬ ((f.length:Int)-1<en (a.getD k []) x y\/((x:Int)<(f.length:Int)-1/\(y:Int)<(f.length:Int)-1/\en (a.getD k []) x y<(f.length:Int)-1))) :
  eX a b f k x y=decide (f.getD (en (a.getD k []) x y).toNat 0=en (b.getD k []) (f.getD x 0).toNat (f.getD y 0).toNat):=by
 rw[eX];have h1:decide ((f.length:Int)-1<en (a.getD k []) x y)=false:=decide_eq_false fun q=>h (.inl q)
 have h2:(decide ((x:Int)<(f.length:Int)-1)&&(decide ((y:Int)<(f.length:Int)-1)&&decide (en (a.getD k []) x y<(f.length:Int)-1)))=false:=by
  rw[<-Bool.not_eq_true,Bool.and_eq_true,Bool.and_eq_true,decide_eq_true_eq,decide_eq_true_eq,decide_eq_true_eq];exact fun q=>h (.inr q)
 rw[h1,h2];rfl
def su(a:V9)(b:V9)(f:V7):Post:=⟨a.length<=1000/\nT a<=1000/\1<=f.length/\f.length<=nT a/\b.length=a.length/\bt (nT a) a/\bt (nT a) b/\(∀i,i<f.length->0<=f.getD i 0/\f.getD i 0<(nT a:Int)),.c (.bool (dm a b f)),[]⟩
def sw:List AD->Option Post
 | [.c (.r3 .i64 a),.c (.r3 .i64 b),.c (.ints .i64 f)]=>some (su a b f)
 |_=>none
def G1(a:V9)(b:V9)(f:V7):Nat->Option Ann
 |0=>some (Ann.mk ((Nat)) (fun k=>⟨[(0,.c (.ro (.r3 .i64 a))),(1,.c (.ro (.r3 .i64 b))),(2,.c (.ro (.ints .i64 f))),(7,.c (.int .i64 ((f.length:Int)-1))),(8,.c (.int .i64 ((k:Int))))],[]⟩) (fun k=>k<=a.length/\(∀k1,k1<k->lv a b f k1=true)) (fun k=>a.length-k) (fun k=>fun b_=>match b_ with|2=>some (Ann.mk ((Nat)) (fun i=>⟨[(0,.c (.ro (.r3 .i64 a))),(1,.c (.ro (.r3 .i64 b))),(2,.c (.ro (.ints .i64 f))),(7,.c (.int .i64 ((f.length:Int)-1))),(8,.c (.int .i64 ((k:Int)))),(9,.c (.int .i64 ((i:Int))))],[]⟩) (fun i=>k<a.length/\i<=f.length/\(∀i1,i1<i->lu a b f k i1=true)) (fun i=>f.length-i) (fun i=>fun b_=>match b_ with|4=>some (Ann.mk ((Nat)) (fun j=>⟨[(0,.c (.ro (.r3 .i64 a))),(1,.c (.ro (.r3 .i64 b))),(2,.c (.ro (.ints .i64 f))),(7,.c (.int .i64 ((f.length:Int)-1))),(8,.c (.int .i64 ((k:Int)))),(9,.c (.int .i64 ((i:Int)))),(10,.c (.int .i64 ((j:Int))))],[]⟩) (fun j=>i<f.length/\j<=f.length/\(∀j1,j1<j->eX a b f k i j1=true)) (fun j=>f.length-j) (fun j=>fun b_=>match b_ with|1013=>some (Ann.mk ((Unit)) (fun u=>⟨[(0,.c (.ro (.r3 .i64 a))),(1,.c (.ro (.r3 .i64 b))),(2,.c (.ro (.ints .i64 f))),(7,.c (.int .i64 ((f.length:Int)-1))),(8,.c (.int .i64 ((k:Int)))),(9,.c (.int .i64 ((i:Int)))),(10,.c (.int .i64 ((j:Int)))),(11,.c (.int .i64 (en (a.getD k []) i j)))],[]⟩) (fun u=>j<f.length/\¬ ((f.length:Int)-1<en (a.getD k []) i j\/((i:Int)<(f.length:Int)-1/\(j:Int)<(f.length:Int)-1/\en (a.getD k []) i j<(f.length:Int)-1))) (fun u=>0) (fun _=>am))|_=>none))|_=>none))|_=>none))
 |_=>none
def G2:List (Nat×Ctr):=[]
def yK(a:V9)(b:V9)(f:V7):Prop :=
 (ac ((f.length:Int)-(1:Int))/\((∃x0:Nat,(x0<=a.length/\∀(k1:Nat),k1<x0->lv a b f k1=true)/\a=a/\b=b/\f=f/\(f.length:Int)-(1:Int)=(f.length:Int)-(1:Int)/\(0:Int)=(x0:Int))/\(∀x1:Nat,((x1<=a.length/\∀(k1:Nat),k1<x1->lv a b f k1=true)->(ae (decide ((x1:Int)<(a.length:Int))) ((∃x2:Nat,(x1<a.length/\x2<=f.length/\∀(i1:Nat),i1<x2->lu a b f x1 i1=true)/\a=a/\b=b/\f=f/\(f.length:Int)-(1:Int)=(f.length:Int)-(1:Int)/\(x1:Int)=(x1:Int)/\(0:Int)=(x2:Int))/\(∀x3:Nat,((x1<a.length/\x3<=f.length/\∀(i1:Nat),i1<x3->lu a b f x1 i1=true)->(ae (decide ((x3:Int)<=(f.length:Int)-(1:Int))) ((∃x4:Nat,(x3<f.length/\x4<=f.length/\∀(j1:Nat),j1<x4->eX a b f x1 x3 j1=true)/\a=a/\b=b/\f=f/\(f.length:Int)-(1:Int)=(f.length:Int)-(1:Int)/\(x1:Int)=(x1:Int)/\(x3:Int)=(x3:Int)/\(0:Int)=(x4:Int))/\(∀x5:Nat,((x3<f.length/\x5<=f.length/\∀(j1:Nat),j1<x5->eX a b f x1 x3 j1=true)->(ae (decide ((x5:Int)<=(f.length:Int)-(1:Int))) (aa (x1:Int) a.length/\(aa (x3:Int) ((a.getD (x1:Int).toNat ([]:V8)).length)/\((aa (x5:Int) (((List.getD a (x1:Int).toNat ([]:V8)).getD (x3:Int).toNat []).length)) /\
 ((ae (decide ((f.length:Int)-(1:Int)<(List.getD (List.getD a (x1:Int).toNat ([]:V8)) (x3:Int).toNat []).getD (x5:Int).toNat (0:Int))) (ac ((x5:Int)+(1:Int))/\∃x6:Nat,(x3<f.length/\x6<=f.length/\∀(j1:Nat),j1<x6->eX a b f x1 x3 j1=true)/\f.length-x6<f.length-x5/\a=a/\b=b/\f=f/\(f.length:Int)-(1:Int)=(f.length:Int)-(1:Int)/\(x1:Int)=(x1:Int)/\(x3:Int)=(x3:Int)/\(x5:Int)+(1:Int)=(x6:Int)) (ae (decide ((x3:Int)<(f.length:Int)-(1:Int))) (ae (decide ((x5:Int)<(f.length:Int)-(1:Int))) (ae (decide ((List.getD (List.getD a (x1:Int).toNat ([]:V8)) (x3:Int).toNat []).getD (x5:Int).toNat (0:Int)<(f.length:Int)-(1:Int))) (ac ((x5:Int)+(1:Int))/\∃x7:Nat,(x3<f.length/\x7<=f.length/\∀(j1:Nat),j1<x7->eX a b f x1 x3 j1=true)/\f.length-x7<f.length-x5/\a=a/\b=b/\f=f/\(f.length:Int)-(1:Int)=(f.length:Int)-(1:Int)/\(x1:Int)=(x1:Int)/\(x3:Int)=(x3:Int)/\(x5:Int)+(1:Int)=(x7:Int)) (∃x8:Unit,((x5<f.length/\(¬((f.length:Int)-(1:Int)<en (a.getD x1 ([]:V8)) x3 x5\/(x3:Int)<(f.length:Int)-(1:Int)/\(x5:Int)<(f.length:Int)-(1:Int)/\en (a.getD x1 ([]:V8)) x3 x5<(f.length:Int)-(1:Int))))/\(a=a/\(b=b/\(f=f/\(((f.length:Int)-(1:Int)=(f.length:Int)-(1:Int)) /\
 (((x1:Int)=(x1:Int))/\(((x3:Int)=(x3:Int))/\(((x5:Int)=(x5:Int))/\((List.getD (List.getD a (x1:Int).toNat ([]:V8)) (x3:Int).toNat []).getD (x5:Int).toNat (0:Int)=en (a.getD x1 ([]:V8)) x3 x5))))))))))) (∃x9:Unit,(((x5<f.length)/\(¬((f.length:Int)-(1:Int)<en (a.getD x1 ([]:V8)) x3 x5\/(x3:Int)<(f.length:Int)-(1:Int)/\(x5:Int)<(f.length:Int)-(1:Int)/\en (a.getD x1 ([]:V8)) x3 x5<(f.length:Int)-(1:Int))))/\((a=a)/\((b=b)/\((f=f)/\(((f.length:Int)-(1:Int)=(f.length:Int)-(1:Int))/\(((x1:Int)=(x1:Int))/\(((x3:Int)=(x3:Int))/\(((x5:Int)=(x5:Int))/\((List.getD (List.getD a (x1:Int).toNat ([]:V8)) (x3:Int).toNat []).getD (x5:Int).toNat (0:Int)=en (a.getD x1 ([]:V8)) x3 x5))))))))))) (∃x10:Unit,(((x5<f.length)/\(¬((f.length:Int)-(1:Int)<en (a.getD x1 ([]:V8)) x3 x5\/(x3:Int)<(f.length:Int)-(1:Int)/\(x5:Int)<(f.length:Int)-(1:Int)/\en (a.getD x1 ([]:V8)) x3 x5<(f.length:Int)-(1:Int))))/\((a=a)/\((b=b)/\((f=f)/\(((f.length:Int)-(1:Int)=(f.length:Int)-(1:Int))/\(((x1:Int)=(x1:Int))/\(((x3:Int)=(x3:Int))/\(((x5:Int)=(x5:Int))/\((List.getD (List.getD a (x1:Int).toNat ([]:V8)) (x3:Int).toNat []).getD (x5:Int).toNat (0:Int)=en (a.getD x1 ([]:V8)) x3 x5)))))))))))) /\
 (∀x11:Unit,(((x5<f.length)/\(¬((f.length:Int)-(1:Int)<en (a.getD x1 ([]:V8)) x3 x5\/(x3:Int)<(f.length:Int)-(1:Int)/\(x5:Int)<(f.length:Int)-(1:Int)/\en (a.getD x1 ([]:V8)) x3 x5<(f.length:Int)-(1:Int))))->((aa (en (a.getD x1 ([]:V8)) x3 x5) f.length)/\((aa (x1:Int) b.length)/\((aa (x3:Int) f.length)/\((aa (f.getD (x3:Int).toNat (0:Int)) ((b.getD (x1:Int).toNat ([]:V8)).length))/\((aa (x5:Int) f.length)/\((aa (f.getD (x5:Int).toNat (0:Int)) (((List.getD b (x1:Int).toNat ([]:V8)).getD ((f.getD (x3:Int).toNat (0:Int)).toNat) []).length))/\(ae (f.getD ((en (a.getD x1 ([]:V8)) x3 x5).toNat) (0:Int) != (List.getD (List.getD b (x1:Int).toNat ([]:V8)) ((List.getD f (x3:Int).toNat (0:Int)).toNat) []).getD ((f.getD (x5:Int).toNat (0:Int)).toNat) (0:Int)) ((false=dm a b f)/\True) ((ac ((x5:Int)+(1:Int)))/\(∃x12:Nat,(((x3<f.length)/\((x12<=f.length)/\(∀(j1:Nat),j1<x12->eX a b f x1 x3 j1=true)))/\((f.length-x12<f.length-x5)/\((a=a)/\((b=b)/\((f=f)/\(((f.length:Int)-(1:Int)=(f.length:Int)-(1:Int))/\(((x1:Int)=(x1:Int))/\(((x3:Int)=(x3:Int))/\((x5:Int)+(1:Int)=(x12:Int))))))))))))))))))))))))) ((ac ((x3:Int)+(1:Int)))/\(∃x13:Nat,(((x1<a.length)/\((x13<=f.length)/\(∀(i1:Nat),i1<x13->lu a b f x1 i1=true)))/\((f.length-x13<f.length-x3) /\
 ((a=a)/\((b=b)/\((f=f)/\(((f.length:Int)-(1:Int)=(f.length:Int)-(1:Int))/\(((x1:Int)=(x1:Int))/\((x3:Int)+(1:Int)=(x13:Int))))))))))))))) ((ac ((x1:Int)+(1:Int)))/\(∃x14:Nat,(((x14<=a.length)/\(∀(k1:Nat),k1<x14->lv a b f k1=true))/\((a.length-x14<a.length-x1)/\((a=a)/\((b=b)/\((f=f)/\(((f.length:Int)-(1:Int)=(f.length:Int)-(1:Int))/\((x1:Int)+(1:Int)=(x14:Int)))))))))))))) ((true=dm a b f)/\True))))))
theorem Qm(a:V9)(b:V9)(f:V7):aJ Tryz.prog (ai G2) ak (G1 a b f) Tryz.f176 (aE Tryz.f176) [] [.c (.r3 .i64 a),.c (.r3 .i64 b),.c (.ints .i64 f)] (su a b f)=yK a b f:=by kernel_rfl
theorem Qn(a:V9)(b:V9)(f:V7)(Yh:(su a b f).pre):yK a b f:=by
 simp only[su,yK,aG,u1,u2,u3,u4,u5,u6,u7,u8,u9,v1,v2,v3,v4,v5,v6,v7,v8,v9,w1,w2,w3,w4,aH,aa,ac,af,ar]at Yh⊢;obtain⟨h1,h2,h3,h4,h5,h6,h7,h8⟩:=Yh;refine⟨by omega,⟨0,⟨by omega,fun _ h=>by omega⟩,rfl⟩,fun k ⟨hk,ik⟩=>⟨fun hk2=>⟨⟨0,⟨by omega,by omega,fun _ h=>by omega⟩,rfl⟩,fun i ⟨hka,hi,ii⟩=>⟨fun hi2=>⟨⟨0,⟨by omega,by omega,fun _ h=>by omega⟩,rfl⟩,fun j ⟨hia,hj,ij⟩=>⟨fun hj2=>?_,fun hj2=>?_⟩⟩,fun hi2=>?_⟩⟩,fun hk2=>?_⟩⟩
 ·have A:=h6 k hka
  have E:=(A.2 i (by omega)).2 j (by omega)
  have L1:(a.getD k []).length=nT a:=A.1
  have L2:=(A.2 i (by omega)).1
  have next:eX a b f k i j=true->∀j1,j1<j+1->eX a b f k i j1=true:=fun h j1 q=>by
   by_cases e:j1=j
   ·subst e;exact h
   ·exact ij j1 (by omega)
  refine⟨by omega,by omega,by omega,⟨fun q=>⟨by omega,j+1,⟨by omega,by omega,next (G0 (.inl q))⟩,by omega,by omega⟩,fun q=>⟨fun q2=>⟨fun q3=>⟨fun q4=>⟨by omega,j+1,⟨by omega,by omega,next (G0 (.inr ⟨q2,q3,q4⟩))⟩,by omega,by omega⟩,fun q4=>⟨⟨⟩,⟨by omega,?_⟩,rfl⟩⟩,fun q3=>⟨⟨⟩,⟨by omega,?_⟩,rfl⟩⟩,fun q2=>⟨⟨⟩,⟨by omega,?_⟩,rfl⟩⟩⟩,fun u ⟨_,hn⟩=>?_⟩
  ·rintro(z|⟨_,_,z⟩)
   ·exact q z
   ·exact q4 z
  ·rintro(z|⟨_,z,_⟩)
   ·exact q z
   ·exact q3 z
  ·rintro(z|⟨z,_,_⟩)
   ·exact q z
   ·exact q2 z
  ·have B:=h7 k (by omega)
   have L3:(b.getD k []).length=nT a:=B.1
   have fi:=h8 i (by omega)
   have fj:=h8 j (by omega)
   have L4:=(B.2 (f.getD i 0).toNat (by omega)).1
   have T:eX a b f k i j=decide (f.getD (en (a.getD k []) i j).toNat 0=((b.getD k []).getD (f.getD i 0).toNat []).getD (f.getD j 0).toNat 0):=Ql hn
   have v:en (a.getD k []) i j<(f.length:Int):=by
    have:=fun z=>hn (.inl z)
    omega
   refine⟨by omega,by omega,by omega,by omega,by omega,by omega,fun q=>?_,fun q=>⟨by omega,j+1,⟨by omega,by omega,next ?_⟩,by omega,by omega⟩⟩
   ·rw[decide_eq_false q]at T
    cases z:dm a b f
    ·rfl
    ·rw[yH.1 z k i j (by omega) (by omega) (by omega)]at T;cases T
   ·rw[T];exact decide_eq_true q
 ·refine⟨by omega,i+1,⟨by omega,by omega,fun i1 q=>?_⟩,by omega,by omega⟩
  by_cases e:i1=i
  ·subst e
   rw[lu,List.all_eq_true];intro y hy
   exact ij y (by have:=List.mem_range.1 hy;omega)
  ·exact ii i1 (by omega)
 ·refine⟨by omega,k+1,⟨by omega,fun k1 q=>?_⟩,by omega,by omega⟩
  by_cases e:k1=k
  ·subst e
   rw[lv,List.all_eq_true];intro y hy
   exact ii y (by have:=List.mem_range.1 hy;omega)
  ·exact ik k1 (by omega)
 ·symm
  rw[dm,List.all_eq_true];intro y hy
  exact ik y (by have:=List.mem_range.1 hy;omega)
theorem G3:Fits Tryz.prog 176 ⟨[],sw⟩:=by
 refine aO (Γ:=ai G2) aF Tryz.func176 fun ds p h hp=>?_
 unfold sw at h;split at h
 ·cases h
  exact⟨ak,G1 _ _ _ ,by rw[Qm];exact Qn _ _ _  hp⟩
 ·cases h
end Go.Sx
