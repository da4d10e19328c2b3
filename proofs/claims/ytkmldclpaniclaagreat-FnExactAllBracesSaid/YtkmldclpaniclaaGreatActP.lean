/- ActP -/
import Derived.Test.YtkmldclpaniclaaGreatCrcR
import Derived.Test.YtkmldclpaniclaaGreatCirP
set_option linter.unusedSimpArgs false
set_option linter.unusedVariables false
open Go Go.Proofs
namespace Go.Sx
section
variable {n:Nat} {t A:List (List Int)}
def aL(A:List (List Int))(K:List Int)(x:Nat):List Int:=A.getD (K.getD x 0).toNat []
structure ClK (n:Nat) (t A:List (List Int)) (K:List Int):Prop where
 ok:KOk n A.length K
 calm:∀x,x<n->∀y,y<n->nU t A K x y
 zero:0<=K.getD 0 0
theorem iH(K:List Int)(x y:Nat):bJ t A K x y=gM t x (ap (aL A K x) y):=rfl
theorem pG{K:List Int}(hK:KOk n A.length K){x:Nat}(hx:x<n)(h:0<=K.getD x 0):aL A K x∈A:=by
 have:=hK.rng x hx
 exact bO A [] _ (by omega)
theorem Cr{p q:List Int}{i:Nat}(hi:i<p.length):ap (aT p q) i=ap q (ap p i):=by
 simp only[ap];rw[fY hi]
theorem ClK.mem(G:GrpT n t)(hA:AuOk n A)(hi:∀p∈A,isoL n [t] [t] p){K:List Int}(h:ClK n t A K){x y:Nat}(hx:x<n)(hy:y<n)(kx:0<=K.getD x 0)(ky:0<=K.getD y 0) :
  bJ t A K x y<n/\0<=K.getD (bJ t A K x y) 0/\aL A K (bJ t A K x y)=aT (aL A K y) (aL A K x):=by
 have z:=kH G.tb hA h.ok hx hy kx
 rcases h.calm x hx y hy with c|c|c
 ·omega
 ·omega
 ·refine⟨z.2.2,c.1,?_⟩
  have w:=mm hA h.ok hx hy kx ky
  rw[aL,c.2,dI,kG,Int.toNat_natCast];exact(jj w.1).2
theorem ClK.assoc(G:GrpT n t)(hA:AuOk n A)(hi:∀p∈A,isoL n [t] [t] p){K:List Int}(h:ClK n t A K){x y w:Nat}(hx:x<n)(hy:y<n)(hw:w<n)(kx:0<=K.getD x 0)(ky:0<=K.getD y 0) :
  bJ t A K (bJ t A K x y) w=bJ t A K x (bJ t A K y w):=by
 obtain⟨z1,z2,z3⟩:=h.mem G hA hi hx hy kx ky;have px:=hi _ (pG h.ok hx kx)
 have py:=hi _ (pG h.ok hy ky)
 rw[iH K (bJ t A K x y) w,z3,Cr (by rw[py.len];exact hw),iH K x (bJ t A K y w),iH K y w,iH K x y,jh G px hy (fe py hw)]
 exact G.asc x _ _ hx (fe px hy) (fe px (fe py hw))
theorem ClK.can(G:GrpT n t)(hi:∀p∈A,isoL n [t] [t] p){K:List Int}(h:ClK n t A K){x y w:Nat}(hx:x<n)(hy:y<n)(hw:w<n)(kx:0<=K.getD x 0)(e:bJ t A K x y=bJ t A K x w):y=w:=by
 have px:=hi _ (pG h.ok hx kx)
 rw[iH,iH]at e;have e:=G.can x _ _ hx (fe px hy) (fe px hw) e
 have a:=px.rng y hy
 have b:=px.rng w hw
 simp only[ap]at e;exact nW px.nd (by rw[px.len];exact hy) (by rw[px.len];exact hw) (by omega)
def ed(n:Nat)(K:List Int):List Nat:=(List.range n).filter fun x=>decide (0<=K.getD x 0)
theorem eC{K:List Int}{x:Nat}:x∈ed n K↔x<n/\0<=K.getD x 0:=by simp[ed]
theorem pH(n:Nat)(K:List Int):(ed n K).Nodup:=List.nodup_range.filter _
theorem Cs{a b:List Nat}(ha:a.Nodup)(h:∀x∈a,x∈b):a.length<=b.length:=by
 have:=li (a:=a.map (fun x:Nat=>(x:Int))) (b:=b.map (fun x:Nat=>(x:Int))) (List.pairwise_map.2 (ha.imp fun hne e=>hne (by omega))) (fun x hx=>by
  obtain⟨y,hy,rfl⟩:=List.mem_map.1 hx;exact List.mem_map.2 ⟨y,h y hy,rfl⟩)
 simpa using this
theorem ClK.inv(G:GrpT n t)(hA:AuOk n A)(hi:∀p∈A,isoL n [t] [t] p){K:List Int}(h:ClK n t A K){x:Nat}(hx:x<n)(kx:0<=K.getD x 0):∃y,y<n/\0<=K.getD y 0/\bJ t A K x y=0:=by
 refine Classical.byContradiction fun hno=>?_
 have nd:(0::(ed n K).map (bJ t A K x)).Nodup:=by
  refine List.nodup_cons.2 ⟨fun hm=>?_,List.pairwise_map.2 (List.Pairwise.imp_of_mem (fun {a b} ha hb hne e=>hne (h.can G hi hx (eC.1 ha).1 (eC.1 hb).1 kx e)) (pH n K))⟩
  obtain⟨y,hy,e⟩:=List.mem_map.1 hm;exact hno ⟨y,(eC.1 hy).1,(eC.1 hy).2,e⟩
 have:=Cs nd (b:=ed n K) (fun y hy=>by
  rcases List.mem_cons.1 hy with rfl|hy
  ·exact eC.2 ⟨G.pos,h.zero⟩
  ·obtain⟨z,hz,rfl⟩:=List.mem_map.1 hy
   have q:=h.mem G hA hi hx (eC.1 hz).1 kx (eC.1 hz).2
   exact eC.2 ⟨q.1,q.2.1⟩)
 rw[List.length_cons,List.length_map]at this;omega
theorem ClK.dbl(G:GrpT n t)(hA:AuOk n A)(hi:∀p∈A,isoL n [t] [t] p){K K':List Int}(h:ClK n t A K)(h':ClK n t A K')(hs:cD n K K'){p:Nat}(hp:p<n)(kp:¬ 0<=K.getD p 0)(kp':0<=K'.getD p 0) :
  2*(ed n K).length<=(ed n K').length:=by
 have up:∀x,x<n->0<=K.getD x 0->0<=K'.getD x 0:=fun x hx k=>by rw[hs x hx k];exact k
 have zz:∀x y,x<n->0<=K.getD x 0->bJ t A K' x y=bJ t A K x y:=fun x y hx k=>by rw[iH,iH,aL,aL,hs x hx k]
 have nd:(ed n K++(ed n K).map (bJ t A K' p)).Nodup:=by
  rw[List.nodup_append];refine⟨pH n K,List.pairwise_map.2 (List.Pairwise.imp_of_mem (fun {a b} ha hb hne e=>hne (h'.can G hi hp (eC.1 ha).1 (eC.1 hb).1 kp' e)) (pH n K)),fun a ha b hb e=>?_⟩
  obtain⟨s,hs1,rfl⟩:=List.mem_map.1 hb;obtain⟨a1,a2⟩:=eC.1 ha;obtain⟨s1,s2⟩:=eC.1 hs1;obtain⟨y,y1,y2,y3⟩:=h.inv G hA hi s1 s2;have has:=h'.assoc G hA hi hp s1 y1 kp' (up s s1 s2)
  rw[<-e,zz s y s1 s2,y3,zz a y a1 a2,iH K' p 0,iL G (hi _ (pG h'.ok hp kp')),G.z2 p hp]at has;have:=(h.mem G hA hi a1 y1 a2 y2).2.1
  rw[has]at this;exact kp this
 have:=Cs nd (b:=ed n K') (fun x hx=>by
  rcases List.mem_append.1 hx with hx|hx
  ·obtain⟨x1,x2⟩:=eC.1 hx
   exact eC.2 ⟨x1,up x x1 x2⟩
  ·obtain⟨s,hs1,rfl⟩:=List.mem_map.1 hx
   obtain⟨s1,s2⟩:=eC.1 hs1;have q:=h'.mem G hA hi hp s1 kp' (up s s1 s2)
   exact eC.2 ⟨q.1,q.2.1⟩)
 simp only[List.length_append,List.length_map]at this;omega
theorem JS(n:Nat)(K:List Int):(ed n K).length<=n:=wg n _ (pH n K) fun x hx=>(eC.1 hx).1
theorem Ct(G:GrpT n t)(hA:AuOk n A)(hi:∀p∈A,isoL n [t] [t] p):∀(d j:Nat) (K:List Int),ClK n t A K->n<2 ^ (j+1)*(ed n K).length->(eP t A d K).length<=A.length ^ j
 |0,j,K,_,_=>Nat.zero_le _
 |d+1,j,K,hK,hj=>by
  rw[eP];by_cases hp:aA K=K.length
  ·rw[if_pos hp]
   exact Nat.one_le_pow j _ hA.pos
  ·rw[if_neg hp]
   have hlt:aA K<K.length:=by have:=mn K;omega
   have hneg:=qh K hlt
   have hpn:aA K<n:=by rw[<-hK.ok.len];exact hlt
   have br:∀i,i<A.length->∀K',cR t A (K.set (aA K) (i:Int))=some K'->ClK n t A K'/\2*(ed n K).length<=(ed n K').length:=fun i hi' K' h=>by
    have hset:=hK.ok.set (aA K) (w:=(i:Int)) ⟨by omega,by omega⟩
    have g1:=(kI G.tb hA hK.ok hlt hi' h).1
    have hfu:ay (K.set (aA K) (i:Int))<t.length+1:=by
     have:=vC (K.set (aA K) (i:Int))
     rw[hset.len]at this;rw[G.tb.1];omega
    obtain⟨f1,f2⟩:=wn G.tb hA _ hset hfu h;have sub:cD n K K':=fun x hx h0=>by
     have ne:x≠aA K:=fun e=>by rw[e]at h0;omega
     have e:=ft (x:=x) (w:=(i:Int)) hlt
     rw[if_neg ne]at e;rw[f1 x hx (by rw[e];exact h0),e]
    have kp:0<=K'.getD (aA K) 0:=by
     have e:=ft (x:=aA K) (w:=(i:Int)) hlt
     rw[if_pos rfl]at e;rw[f1 _ hpn (by rw[e];omega),e];omega
    have c:ClK n t A K':=⟨g1,f2,by rw[sub 0 G.pos hK.zero];exact hK.zero⟩
    exact⟨c,hK.dbl G hA hi c sub hpn (by omega) kp⟩
   cases j with
   |zero =>
    have none:∀i∈List.range A.length,(match cR t A (K.set (aA K) (i:Int))with|none=>[]|some K'=>eP t A d K').length<=0:=fun i hi'=>by
     split
     ·exact Nat.le_refl _
     ·rename_i K' h
      obtain⟨_,b⟩:=br i (by simpa using hi') K' h
      have:=JS n K'
      simp only[Nat.zero_add,Nat.pow_one]at hj;omega
    exact Nat.le_trans (wq _ 0 _ none) (by omega)
   |succ j =>
    have:=wq (fun i:Nat=>match cR t A (K.set (aA K) (i:Int))with|none=>[]|some K'=>eP t A d K') (A.length ^ j) (List.range A.length) (fun i hi'=>by
     split
     ·exact Nat.zero_le _
     ·rename_i K' h
      obtain⟨c,b⟩:=br i (by simpa using hi') K' h
      refine Ct G hA hi d j K' c ?_
      have e:2 ^ (j+1+1)*(ed n K).length=2 ^ (j+1)*(2*(ed n K).length):=by rw[Nat.pow_succ 2 (j+1),Nat.mul_assoc]
      have l:2 ^ (j+1)*(2*(ed n K).length)<=2 ^ (j+1)*(ed n K').length:=Nat.mul_le_mul_left _ b
      omega)
    rw[List.length_range,Nat.mul_comm,<-Nat.pow_succ]at this;exact this
end
theorem Cu:∀(l out:List (List (List Int))),(l.foldl fb out).length=l.length+out.length
 | [],out=>by simp
 |c::l,out=>by
  rw[List.foldl_cons,Cu l,DI];simp;omega
theorem pI{n:Nat}{t:List (List Int)}(G:GrpT n t)(hn:n<=7):(aC t (aa t)).length<=2401:=by
 have e:t.length=n:=G.tb.1
 have hlen:=kL G hn
 have hpos:=G.pos
 obtain⟨hA,h0⟩:=mB G.tb G.pos (by omega)
 have hA0:(aa t).getD 0 []=c8 n:=by rw[qL G.tb G.pos (by omega)];exact(wz G.tb G.pos).2
 have z0:Z0 n ((List.replicate t.length (-1)).set 0 0):=by rw[e];exact vJ
 have get:∀x,x<n->((List.replicate t.length (-1)).set 0 0).getD x 0=if x=0 then 0 else -1:=fun x hx=>by
  rw[ft (by rw[List.length_replicate,e];omega)]
  split
  ·rfl
  ·simp[List.getD,e,hx]
 have cl:ClK n t (aa t) ((List.replicate t.length (-1)).set 0 0):=by
  refine⟨z0.ok hA,fun x hx y hy=>?_,by rw[get 0 hpos];simp⟩
  by_cases x0:x=0
  ·by_cases y0:y=0
   ·subst x0;subst y0
    have g0:=get 0 hpos
    rw[if_pos rfl]at g0;have z:bJ t (aa t) ((List.replicate t.length (-1)).set 0 0) 0 0=0:=by
     rw[iH,aL,g0];have:(0:Int).toNat=0:=rfl
     rw[this,hA0];have:ap (c8 n) 0=0:=by rw[ap,c8,eJ _ _ _ hpos];rfl
     rw[this,G.z1 0 hpos]
    refine .inr (.inr ⟨by rw[z,g0];omega,by rw[z,g0,dI,g0,h0];rfl⟩)
   ·exact .inr (.inl (by rw[get y hy,if_neg y0];omega))
  ·exact .inl (by rw[get x hx,if_neg x0];omega)
 have one:1<=(ed n ((List.replicate t.length (-1)).set 0 0)).length:=List.length_pos_of_mem (eC.2 ⟨hpos,by rw[get 0 hpos];simp⟩)
 have:=Ct G hA (fun p hp=>qE G hn hp) 12 2 _ cl (by omega)
 rw[aC,wo,Cu,List.length_map,List.length_nil,Nat.add_zero];have q:(aa t).length ^ 2<=49 ^ 2:=Nat.pow_le_pow_left hlen 2
 omega
structure IsP (n:Nat) (p:List Int):Prop where
 len:p.length=n
 rng:∀i,i<n->0<=p.getD i 0/\p.getD i 0<(n:Int)
 nd:p.Nodup
theorem isoL.p{n:Nat}{a b:List (List (List Int))}{p:List Int}(h:isoL n a b p):IsP n p:=⟨h.len,h.rng,h.nd⟩
section
variable {n:Nat} {p:List Int}
theorem IsP.lt(h:IsP n p){x:Nat}(hx:x<n):ap p x<n:=by have:=h.rng x hx;simp only[ap];omega
theorem IsP.int(h:IsP n p){x:Nat}(hx:x<n):p.getD x 0=(ap p x:Int):=by have:=h.rng x hx;simp only[ap];omega
theorem IsP.inj(h:IsP n p){x y:Nat}(hx:x<n)(hy:y<n)(e:ap p x=ap p y):x=y:=by
 have a:=h.rng x hx
 have b:=h.rng y hy
 simp only[ap]at e;exact nW h.nd (by rw[h.len];exact hx) (by rw[h.len];exact hy) (by omega)
theorem IsP.onto(h:IsP n p){x:Nat}(hx:x<n):∃k,k<n/\ap p k=x:=by
 have:=(rt (fun x hx=>h.lt hx) (fun x y hx hy e=>h.inj hx hy e)).mem_iff (a:=x)
 have:=this.2 (List.mem_range.2 hx)
 obtain⟨k,hk,e⟩:=List.mem_map.1 this;exact⟨k,List.mem_range.1 hk,e⟩
theorem uD(h:IsP n p):∀(i k:Nat),i<=n->k<i->(eN p i).getD (ap p k) 0=(k:Int)
 |0,_,_,hk=>by omega
 |i+1,k,hi,hk=>by
  have rk:=h.lt (x:=k) (by omega)
  have e0:(p.getD i 0).toNat=ap p i:=rfl
  rw[eN,gW _ _ _ _ (by rw[ml,h.len];omega),e0]
  by_cases e:k=i
  ·rw[e,if_pos rfl]
  ·rw[if_neg fun q=>e (h.inj (by omega) (by omega) q)]
   exact uD h i k (by omega) (by omega)
theorem IsP.back(h:IsP n p){k:Nat}(hk:k<n):ap (cu p) (ap p k)=k:=by
 have:=uD h n k (Nat.le_refl _) hk
 rw[ap,cu,h.len,this];rfl
theorem IsP.bk(h:IsP n p):IsP n (cu p):=by
 have hl:(cu p).length=n:=by rw[cu,ml,h.len]
 have at':∀k,k<n->(cu p).getD (ap p k) 0=(k:Int):=fun k hk=>by rw[cu,h.len];exact uD h n k (Nat.le_refl _) hk
 refine⟨hl,fun i hi=>?_,?_⟩
 ·obtain⟨k,hk,rfl⟩:=h.onto hi
  rw[at' k hk];omega
 ·refine List.pairwise_iff_getElem.2 fun i j hi hj hij e=>?_
  rw[hl]at hi hj;obtain⟨k,hk,rfl⟩:=h.onto hi;obtain⟨l,hl2,rfl⟩:=h.onto hj;have a:=at' k hk
  have b:=at' l hl2
  rw[bG _ _ _ (by omega)]at a b
  have:k=l:=by omega
  subst this;omega
theorem IsP.th{q:List Int}(h:IsP n p)(k:IsP n q):IsP n (aT p q):=by
 have hl:(aT p q).length=n:=by rw[gB,h.len]
 have g:∀i,i<n->(aT p q).getD i 0=(ap q (ap p i):Int):=fun i hi=>by
  rw[fY (by rw[h.len];exact hi)]
  exact k.int (h.lt hi)
 refine⟨hl,fun i hi=>?_,?_⟩
 ·have:=k.lt (h.lt hi)
  rw[g i hi];omega
 ·refine List.pairwise_iff_getElem.2 fun i j hi hj hij e=>?_
  rw[hl]at hi hj;have a:=g i hi
  have b:=g j hj
  rw[bG _ _ _ (by omega)]at a b
  have:=h.inj hi hj (k.inj (h.lt hi) (h.lt hj) (by omega))
  omega
theorem jd{q:List Int}(h:IsP n p){i:Nat}(hi:i<n):ap (aT p q) i=ap q (ap p i):=Cr (by rw[h.len];exact hi)
end
theorem JT{n:Nat}{a b:List (List Int)}(ha:aB n a)(hb:aB n b)(h:∀x y,x<n->y<n->en a x y=en b x y):a=b:=by
 refine List.ext_getElem (by rw[ha.1,hb.1]) fun x h1 h2=>?_
 rw[ha.1]at h1;have ra:=(ha.2 x h1).1
 have rb:=(hb.2 x h1).1
 rw[bG _ _ _ (by rw[ha.1];exact h1)]at ra
 rw[bG _ _ _ (by rw[hb.1];exact h1)]at rb
 refine jc (by omega) fun y hy=>?_
 have:=h x y h1 (by omega)
 simp only[en]at this
 rwa[bG a _ _ (by rw[ha.1];exact h1),bG b _ _ (by rw[hb.1];exact h1)]at this
theorem Cw{n:Nat}{F:Nat->Nat->Int}(h:∀x y,x<n->y<n->0<=F x y/\F x y<(n:Int)):aB n (bQ n F):=by
 refine⟨mR _ _,fun x hx=>⟨by rw[ox _ _ _ hx,eA],fun y hy=>?_⟩⟩
 simp only[en];rw[ox _ _ _ hx,eJ _ _ _ hy];exact h x y hx hy
theorem Cy{n:Nat}{F:Nat->Nat->Int}{x y:Nat}(hx:x<n)(hy:y<n):en (bQ n F) x y=F x y:=by
 simp only[en];rw[ox _ _ _ hx,eJ _ _ _ hy]
structure ImO (n:Nat) (t:List (List Int)) (p:List Int) (c:List (List Int)):Prop where
 tb:aB n c
 eq:∀x y,x<n->y<n->en c (ap p x) (ap p y)=p.getD (gM t x y) 0
theorem ImO.uniq{n:Nat}{t c d:List (List Int)}{p:List Int}(hp:IsP n p)(h:ImO n t p c)(k:ImO n t p d):c=d:=by
 refine JT h.tb k.tb fun x y hx hy=>?_
 obtain⟨a,ha,rfl⟩:=hp.onto hx;obtain⟨b,hb,rfl⟩:=hp.onto hy;rw[h.eq a b ha hb,k.eq a b ha hb]
theorem mg{n:Nat}{t:List (List Int)}(ht:aB n t){x y:Nat}(hx:x<n)(hy:y<n):gM t x y<n:=by
 have:=(ht.2 x hx).2 y hy
 simp only[gM];omega
theorem ImO.th{n:Nat}{t c d:List (List Int)}{p q:List Int}(hp:IsP n p)(hq:IsP n q)(ht:aB n t)(h:ImO n t p c)(k:ImO n c q d):ImO n t (aT p q) d:=⟨k.tb,fun x y hx hy=>by
 have e:=h.eq x y hx hy
 have l:=mg ht hx hy
 rw[jd hp hx,jd hp hy,k.eq _ _ (hp.lt hx) (hp.lt hy),(hp.th hq).int l,jd hp l];rw[hq.int (mg h.tb (hp.lt hx) (hp.lt hy))]
 congr 2
 rw[gM,e];rfl⟩
theorem ImO.back{n:Nat}{t c:List (List Int)}{p:List Int}(hp:IsP n p)(ht:aB n t)(h:ImO n t p c):ImO n c (cu p) t:=⟨ht,fun x y hx hy=>by
 obtain⟨a,ha,rfl⟩:=hp.onto hx;obtain⟨b,hb,rfl⟩:=hp.onto hy;have v:=(ht.2 a ha).2 b hb
 have l:=mg ht ha hb
 have e:=h.eq a b ha hb
 have g:gM c (ap p a) (ap p b)=ap p (gM t a b):=by rw[gM,e];rfl
 rw[hp.back ha,hp.back hb,g,hp.bk.int (hp.lt l),hp.back l,gM];omega⟩
def ef(t:List (List Int))(p:List Int):List (List Int):=bQ t.length fun x y=>p.getD (en t ((cu p).getD x 0).toNat ((cu p).getD y 0).toNat).toNat 0
theorem Cz{n:Nat}{t:List (List Int)}{p:List Int}(ht:aB n t)(hp:IsP n p):ImO n t p (ef t p):=by
 have e:t.length=n:=ht.1
 have el:∀x y,x<n->y<n->en t ((cu p).getD x 0).toNat ((cu p).getD y 0).toNat=en t (ap (cu p) x) (ap (cu p) y):=fun _ _ _ _=>rfl
 refine⟨?_,fun x y hx hy=>?_⟩
 ·rw[ef,e]
  exact Cw fun x y hx hy=>hp.rng _ (mg ht (hp.bk.lt hx) (hp.bk.lt hy))
 ·rw[ef,e,Cy (hp.lt hx) (hp.lt hy),el _ _ (hp.lt hx) (hp.lt hy),hp.back hx,hp.back hy,gM]
/- The reference's image. -/
section
variable {n:Nat} {t:List (List Int)} {p:List Int}
theorem CA{o:List (List Int)}(ho:aB n o){i j x y:Nat}(hi:i<n)(hj:j<n){v:Int}:en (o.set i ((o.getD i []).set j v)) x y=if x=i/\y=j then v else en o x y:=by
 simp only[en];by_cases hx:x=i
 ·subst hx
  have e:(o.set x ((o.getD x []).set j v)).getD x []=(o.getD x []).set j v:=by
   rw[List.getD_eq_getElem?_getD,List.getElem?_set_self (by rw[ho.1];exact hi)];rfl
  rw[e];by_cases hy:y=j
  ·subst hy
   rw[if_pos ⟨rfl,rfl⟩,List.getD_eq_getElem?_getD,List.getElem?_set_self (by rw[(ho.2 x hi).1];exact hj)];rfl
  ·rw[if_neg fun h=>hy h.2,List.getD_eq_getElem?_getD,List.getElem?_set_ne (Ne.symm hy),<-List.getD_eq_getElem?_getD]
 ·rw[if_neg fun h=>hx h.1]
  have e:(o.set i ((o.getD i []).set j v)).getD x []=o.getD x []:=by
   rw[List.getD_eq_getElem?_getD,List.getElem?_set_ne (Ne.symm hx),<-List.getD_eq_getElem?_getD]
  rw[e]
theorem JU{o:List (List Int)}(ho:aB n o){i j:Nat}(hi:i<n)(hj:j<n){v:Int}(hv:0<=v/\v<(n:Int)):aB n (o.set i ((o.getD i []).set j v)):=by
 refine⟨by rw[List.length_set];exact ho.1,fun x hx=>⟨?_,fun y hy=>?_⟩⟩
 ·by_cases hxi:x=i
  ·subst hxi
   have e:(o.set x ((o.getD x []).set j v)).getD x []=(o.getD x []).set j v:=by
    rw[List.getD_eq_getElem?_getD,List.getElem?_set_self (by rw[ho.1];exact hi)];rfl
   rw[e,List.length_set];exact(ho.2 x hi).1
  ·have e:(o.set i ((o.getD i []).set j v)).getD x []=o.getD x []:=by
    rw[List.getD_eq_getElem?_getD,List.getElem?_set_ne (Ne.symm hxi),<-List.getD_eq_getElem?_getD]
   rw[e];exact(ho.2 x hx).1
 ·rw[CA ho hi hj]
  split
  ·exact hv
  ·exact(ho.2 x hx).2 y hy
theorem CB(ht:aB n t)(hp:IsP n p){x:Nat}(hx:x<n){o:List (List Int)}(ho:aB n o):∀y,y<=n->aB n (eM t p x y o) /\
  ∀a b,a<n->b<n->en (eM t p x y o) (ap p a) (ap p b)=if a=x/\b<y then p.getD (gM t a b) 0 else en o (ap p a) (ap p b)
 |0,_=>⟨ho,fun a b _ _=>by rw[if_neg (by omega)];rfl⟩
 |y+1,hy=>by
  obtain⟨h1,h2⟩:=CB ht hp hx ho y (by omega)
  have e1:(p.getD x 0).toNat=ap p x:=rfl
  have e2:(p.getD y 0).toNat=ap p y:=rfl
  have e3:((t.getD x []).getD y 0).toNat=gM t x y:=rfl
  have st:eM t p x (y+1) o=(eM t p x y o).set (ap p x) (((eM t p x y o).getD (ap p x) []).set (ap p y) (p.getD (gM t x y) 0)):=rfl
  rw[st];have lx:=hp.lt hx
  have ly:=hp.lt (x:=y) (by omega)
  refine⟨JU h1 lx ly (hp.rng _ (mg ht hx (by omega))),fun a b ha hb=>?_⟩
  rw[CA h1 lx ly];by_cases hab:ap p a=ap p x/\ap p b=ap p y
  ·have ea:=hp.inj ha hx hab.1
   have eb:=hp.inj hb (by omega) hab.2
   subst ea;subst eb;rw[if_pos hab,if_pos ⟨rfl,by omega⟩]
  ·rw[if_neg hab,h2 a b ha hb]
   by_cases hc:a=x/\b<y
   ·rw[if_pos hc,if_pos ⟨hc.1,by omega⟩]
   ·rw[if_neg hc,if_neg]
    rintro⟨h3,h4⟩
    subst h3;have:b=y:=by omega
    subst this;exact hab ⟨rfl,rfl⟩
theorem uE(ht:aB n t)(hp:IsP n p):∀X,X<=n->aB n (bz t p X)/\∀a b,a<X->b<n->en (bz t p X) (ap p a) (ap p b)=p.getD (gM t a b) 0
 |0,_=>⟨ht,fun a b h=>by omega⟩
 |X+1,hX=>by
  obtain⟨h1,h2⟩:=uE ht hp X (by omega)
  have e:t.length=n:=ht.1
  obtain⟨k1,k2⟩:=CB ht hp (x:=X) (by omega) h1 n (Nat.le_refl _)
  have st:bz t p (X+1)=eM t p X n (bz t p X):=by rw[bz,e]
  rw[st];refine⟨k1,fun a b ha hb=>?_⟩
  rw[k2 a b (by omega) hb]
  by_cases hc:a=X
  ·rw[if_pos ⟨hc,hb⟩]
  ·rw[if_neg fun h=>hc h.1];exact h2 a b (by omega) hb
theorem gy(ht:aB n t)(hp:IsP n p):ImO n t p (bz t p n):=⟨(uE ht hp n (Nat.le_refl _)).1,(uE ht hp n (Nat.le_refl _)).2⟩
theorem CC(ht:aB n t)(hp:IsP n p):ef t p=bz t p n:=(Cz ht hp).uniq hp (gy ht hp)
end
/- Automorphisms. -/
section
variable {n:Nat} {t:List (List Int)}
theorem fW(G:GrpT n t)(hn:n<=7){p:List Int}:p∈aa t↔isoL n [t] [t] p:=by
 have hl:=kL G hn
 rw[qL G.tb G.pos (by omega),nZ (kM G.tb) G.pos]
 refine⟨fun h=>h.1,fun h=>⟨h,?_⟩⟩
 have z:=iL G h
 have:=h.rng 0 G.pos
 simp only[ap]at z;omega
theorem JV(G:GrpT n t){p:List Int}(hp:IsP n p)(h:∀x y,x<n->y<n->ap p (gM t x y)=gM t (ap p x) (ap p y)):isoL n [t] [t] p:=by
 refine⟨hp.len,hp.rng,hp.nd,fun k x y hk hx hy hv=>?_⟩
 have k0:k=0:=by simp at hk;omega
 subst k0;rw[hp.len]at hx hy;have e:[t].getD 0 []=t:=rfl
 rw[e]at hv⊢;have v:=(G.tb.2 x hx).2 y hy
 have q:=h x y hx hy
 have l:=hp.rng _ (mg G.tb hx hy)
 have r:=(G.tb.2 _ (hp.lt hx)).2 _ (hp.lt hy)
 show p.getD (gM t x y) 0=en t (ap p x) (ap p y)
 simp only[gM]at q l⊢;simp only[ap]at q r⊢;omega
theorem uF(G:GrpT n t){p:List Int}(h:isoL n [t] [t] p):isoL n [t] [t] (cu p):=by
 have P:=h.p
 refine JV G P.bk fun x y hx hy=>?_
 obtain⟨a,ha,rfl⟩:=P.onto hx;obtain⟨b,hb,rfl⟩:=P.onto hy;rw[<-jh G h ha hb,P.back (G.lt ha hb),P.back ha,P.back hb]
theorem uG(G:GrpT n t)(hn:n<=7){L:List (List Int)}(hL:SolL n t (aa t) L):aB n (eh t L):=by
 rw[eh,G.tb.1];refine Cw fun x y hx hy=>?_
 have P:=((fW G hn).1 (hL.mem x hx)).p
 exact(G.tb.2 x hx).2 _ (P.lt hy)
theorem pJ(G:GrpT n t){L:List (List Int)}{x y:Nat}(hx:x<n)(hy:y<n):gM (eh t L) x y=gM t x (ap (L.getD x []) y):=by
 rw[gM,eh,G.tb.1,Cy hx hy];rfl
theorem uH(G:GrpT n t)(hn:n<=7){c:List (List Int)}:c∈aC t (aa t)↔∃L,SolL n t (aa t) L/\c=eh t L:=by
 have hlen:=kL G hn
 obtain⟨hA,_⟩:=mB G.tb G.pos (by omega)
 obtain⟨l1,l2⟩:=qD G.tb hA (wp G hn) 9 [] (Nat.zero_le _) (by simp;omega) (fun r hr=>by cases hr) (fun h=>by have:=G.pos;simp at h;omega)
 rw[<-qF G hn,(wt _).mem_iff,qB,List.nil_append,List.mem_map]
 constructor
 ·rintro⟨L,h1,h2⟩;exact⟨L,((l1 L).1 h1).1,h2.symm⟩
 ·rintro⟨L,h1,h2⟩;exact⟨L,(l1 L).2 ⟨h1,rfl⟩,h2.symm⟩
theorem JW(G:GrpT n t)(hn:n<=7){L M:List (List Int)}(hL:SolL n t (aa t) L)(hM:SolL n t (aa t) M)(e:eh t L=eh t M):L=M:=by
 refine List.ext_getElem (by rw[hL.len,hM.len]) fun x h1 h2=>?_
 rw[hL.len]at h1;have PL:=((fW G hn).1 (hL.mem x h1)).p
 have PM:=((fW G hn).1 (hM.mem x h1)).p
 rw[<-bG L [] x (by rw[hL.len];exact h1),<-bG M [] x (by rw[hM.len];exact h1)]
 refine jc (by rw[PL.len,PM.len]) fun y hy=>?_
 rw[PL.len]at hy;have a:=pJ G (L:=L) h1 hy
 rw[e,pJ G h1 hy]at a;have:=G.can x _ _ h1 (PM.lt hy) (PL.lt hy) a
 rw[PL.int hy,PM.int hy,this]
theorem JX(G:GrpT n t)(hn:n<=7):(aC t (aa t)).Nodup:=by
 have hlen:=kL G hn
 obtain⟨hA,_⟩:=mB G.tb G.pos (by omega)
 obtain⟨l1,l2⟩:=qD G.tb hA (wp G hn) 9 [] (Nat.zero_le _) (by simp;omega) (fun r hr=>by cases hr) (fun h=>by have:=G.pos;simp at h;omega)
 rw[<-qF G hn,(wt _).nodup_iff,qB,List.nil_append];exact List.pairwise_map.2 (List.Pairwise.imp_of_mem (fun {L M} h1 h2 hne e=>hne (JW G hn ((l1 L).1 h1).1 ((l1 M).1 h2).1 e)) l2)
theorem JY(G:GrpT n t)(hn:n<=7):iM (aC t (aa t)):=by rw[<-qF G hn];exact El _
theorem JZ(G:GrpT n t)(hn:n<=7){f:List Int}(hf:f∈aa t){c d:List (List Int)}(hc:c∈aC t (aa t))(h:ImO n c f d):d∈aC t (aa t):=by
 obtain⟨L,hL,rfl⟩:=(uH G hn).1 hc;have F:=(fW G hn).1 hf
 have P:=F.p
 have I:=fun x hx=>(fW G hn).1 (hL.mem x hx)
 let L':List (List Int):=(List.range n).map fun u=>aT (cu f) (aT (L.getD (ap (cu f) u) []) f)
 have g:∀x,x<n->L'.getD (ap f x) []=aT (cu f) (aT (L.getD x []) f):=fun x hx=>by
  show((List.range n).map _).getD _ _=_
  rw[me _ _ 0 _ _ (by rw[List.length_range];exact P.lt hx),bG (List.range n) 0 _ (by rw[List.length_range];exact P.lt hx),List.getElem_range,P.back hx]
 have iso:∀x,x<n->isoL n [t] [t] (aT (cu f) (aT (L.getD x []) f)):=fun x hx=>jP G.tb (uF G F) (jP G.tb (I x hx) F)
 have ev:∀x y,x<n->y<n->ap (aT (cu f) (aT (L.getD x []) f)) (ap f y)=ap f (ap (L.getD x []) y):=fun x y hx hy=>by
  rw[jd P.bk (P.lt hy),P.back hy,jd (I x hx).p hy]
 have hL':SolL n t (aa t) L':=by
  refine⟨by show((List.range n).map _).length=n;simp,fun u hu=>?_,fun u v hu hv=>?_⟩
  ·obtain⟨x,hx,rfl⟩:=P.onto hu
   rw[g x hx];exact(fW G hn).2 (iso x hx)
  ·obtain⟨x,hx,rfl⟩:=P.onto hu
   obtain⟨y,hy,rfl⟩:=P.onto hv;have zl:gM t x (ap (L.getD x []) y)<n:=G.lt hx ((I x hx).p.lt hy)
   have z:(en t (ap f x) (en L' (ap f x) (ap f y)).toNat).toNat=ap f (gM t x (ap (L.getD x []) y)):=by
    show gM t (ap f x) (ap (L'.getD (ap f x) []) (ap f y))=_
    rw[g x hx,ev x y hx hy,<-jh G F hx ((I x hx).p.lt hy)]
   have fit:L.getD (gM t x (ap (L.getD x []) y)) []=aT (L.getD y []) (L.getD x []):=hL.fit x y hx hy
   rw[z,g _ zl,g x hx,g y hy,fit];have A1:=jP G.tb (uF G F) (jP G.tb (jP G.tb (I y hy) (I x hx)) F)
   have A2:=jP G.tb (iso y hy) (iso x hx)
   refine jc (by rw[A1.len,A2.len]) fun w hw=>?_
   rw[A1.len]at hw;rw[A1.p.int hw,A2.p.int hw]
   congr 1
   obtain⟨k,hk,rfl⟩:=P.onto hw;rw[jd P.bk (P.lt hk),P.back hk,jd ((I y hy).p.th (I x hx).p) hk,jd (I y hy).p hk,jd (iso y hy).p (P.lt hk),ev y k hy hk,ev x _ hx ((I y hy).p.lt hk)]
 refine(uH G hn).2 ⟨L',hL',?_⟩
 have k:ImO n (eh t L) f (eh t L'):=⟨uG G hn hL',fun x y hx hy=>by
  have v:=(uG G hn hL').2 _ (P.lt hx)
  have v2:=v.2 _ (P.lt hy)
  have e1:=pJ G (L:=L') (P.lt hx) (P.lt hy)
  have l:=G.lt hx ((I x hx).p.lt hy)
  rw[g x hx,ev x y hx hy,<-jh G F hx ((I x hx).p.lt hy)]at e1;rw[pJ G hx hy,P.int l];simp only[gM]at e1⊢;omega⟩
 exact h.uniq P k
end
end Go.Sx
