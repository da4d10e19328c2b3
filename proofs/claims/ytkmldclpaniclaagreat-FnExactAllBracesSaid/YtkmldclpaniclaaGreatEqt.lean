/- Eqt -/
import Derived.Test.YtkmldclpaniclaaGreatMapD
import Derived.Test.YtkmldclpaniclaaGreatCirP
set_option linter.unusedSimpArgs false
set_option linter.unusedVariables false
open Go Go.Proofs
namespace Go.Sx
def gA(K:List (List Int))(m:List Int):Int:=if m∈K then(dN K m:Int)else -1
def qG(K:List (List Int))(m:List Int):Post:=⟨bK K,.c (.int .i64 (gA K m)),[]⟩
def wu:List AD->Option Post
 | [.c (.rows .i64 K),.c (.ints .i64 m)]=>some (qG K m)
 |_=>none
def Em(K:List (List Int))(m:List Int):Nat->Option Ann
 |0=>some (Ann.mk ((Nat)) (fun i=>⟨[(0,.c (.ro (.rows .i64 K))),(1,.c (.ro (.ints .i64 m))),(5,.c (.int .i64 ((i:Int))))],[]⟩) (fun i=>i<=K.length/\(∀j,j<i->K.getD j []≠m)) (fun i=>K.length-i) (fun _=>av))
 |_=>none
def En:List (Nat×Ctr):=[(202,⟨[],nS⟩)]
def wv(K:List (List Int))(m:List Int):Prop :=
 (∃x0:Nat,(x0<=K.length/\∀(j:Nat),j<x0->K.getD j []≠m)/\K=K/\m=m/\(0:Int)=(x0:Int))/\∀x1:Nat,(x1<=K.length/\∀(j:Nat),j<x1->K.getD j []≠m)->ae (decide ((x1:Int)<(K.length:Int))) (ab (x1:Int) K.length/\(ah ((K.getD (x1:Int).toNat []).length)/\True)/\ae (decide (K.getD (x1:Int).toNat []=m)) ((x1:Int)=gA K m/\True) (ac ((x1:Int)+(1:Int))/\∃x2:Nat,(x2<=K.length/\∀(j:Nat),j<x2->K.getD j []≠m)/\K.length-x2<K.length-x1/\K=K/\m=m/\(x1:Int)+(1:Int)=(x2:Int))) ((-1:Int)=gA K m/\True)
theorem Mc(K:List (List Int))(m:List Int):aY Tryz.prog (aj En) am (Em K m) Tryz.f232 (aP Tryz.f232) [] [.c (.rows .i64 K),.c (.ints .i64 m)] (qG K m)=wv K m:=by kernel_rfl
theorem Md(K:List (List Int))(m:List Int)(Yh:(qG K m).pre):wv K m:=by
 simp only[qG,wv,aX,u1,u2,u3,u4,u5,u6,u7,u8,u9,v1,v2,v3,v4,v5,v6,v7,v8,v9,w1,w2,w3,w4,aN,ab,ac,ah,ax]at Yh⊢;have hk:=Yh.1
 refine⟨⟨0,⟨by omega,fun j h=>by omega⟩,rfl⟩,fun i ⟨hi,ih⟩=>⟨fun h=>⟨by omega,?_,fun q=>?_,fun q=>⟨by omega,i+1,⟨by omega,fun j hj=>?_⟩,by omega,by omega⟩⟩,fun h=>?_⟩⟩
 ·exact Yh.2 _ (bO K [] i (by omega))
 ·rw[gA,if_pos (by rw[<-q];exact bO K [] i (by omega)),oa i ih (by omega) q]
 ·by_cases e:j=i
  ·subst e;exact q
  ·exact ih j (by omega)
 ·rw[gA,if_neg]
  intro hm
  obtain⟨q1,q2⟩:=jj hm;exact ih _ (by omega) q2
theorem Me:Fits Tryz.prog 232 ⟨[],wu⟩:=by
 refine bf (Γ:=aj En) (aD vX aW) Tryz.func232 fun ds p h hp=>?_
 unfold wu at h;split at h
 ·cases h
  exact⟨am,Em _ _ ,by rw[Mc];exact Md _ _  hp⟩
 ·cases h
theorem Mf{a b:List (List Int)}(hl:a.length=b.length){i:Nat}(h:i<a.length):bE (a.drop i) (b.drop i)=if a.getD i []=b.getD i []then bE (a.drop (i+1)) (b.drop (i+1))else bh (a.getD i []) (b.getD i []):=by
 rw[drop_cons' a [] i h,drop_cons' b [] i (by omega),bE]
def qH(a:List (List Int))(b:List (List Int)):Post:=⟨bK a/\bK b/\a.length=b.length,.c (.bool (bE a b)),[]⟩
def qI:List AD->Option Post
 | [.c (.r3 .i64 ([a])),.c (.r3 .i64 ([b]))]=>some (qH a b)
 |_=>none
def Eo(a:List (List Int))(b:List (List Int)):Nat->Option Ann
 |0=>some (Ann.mk ((Nat)) (fun k=>⟨[(0,.c (.ro (.r3 .i64 ([a])))),(1,.c (.ro (.r3 .i64 ([b])))),(5,.c (.int .i64 ((k:Int))))],[]⟩) (fun k=>k<=1/\(k=1->bE a b=false)) (fun k=>1-k) (fun k=>fun b_=>match b_ with|2=>some (Ann.mk ((Nat)) (fun i=>⟨[(0,.c (.ro (.r3 .i64 ([a])))),(1,.c (.ro (.r3 .i64 ([b])))),(5,.c (.int .i64 ((k:Int)))),(6,.c (.int .i64 ((i:Int))))],[]⟩) (fun i=>k=0/\i<=a.length/\bE a b=bE (a.drop i) (b.drop i)) (fun i=>a.length-i) (fun _=>av))|_=>none))
 |_=>none
def Ep:List (Nat×Ctr):=[(202,⟨[],nS⟩),(203,⟨[],qV⟩)]
def mA(a:List (List Int))(x0:Nat):=((a::([]:List (List (List Int)))).getD (↑x0:Int).toNat ([]:List (List Int)))
def wx(a:List (List Int))(b:List (List Int)):Prop :=
 ((∃x0:Nat,(x0<=(1:Nat)/\(x0=(1:Nat)->bE a b=false))/\a::([]:List (List (List Int)))=a::([]:List (List (List Int)))/\b::([]:List (List (List Int)))=b::([]:List (List (List Int)))/\(0:Int)=(x0:Int))/\(∀x1:Nat,(x1<=(1:Nat)/\(x1=(1:Nat)->bE a b=false)->(ae (decide ((x1:Int)<(↑((a::([]:List (List (List Int)))).length):Int))) ((∃x2:Nat,(x1=(0:Nat)/\x2<=a.length/\bE a b=bE (List.drop x2 a) (List.drop x2 b))/\a::([]:List (List (List Int)))=a::([]:List (List (List Int)))/\b::([]:List (List (List Int)))=b::([]:List (List (List Int)))/\(x1:Int)=(x1:Int)/\(0:Int)=(x2:Int))/\(∀x3:Nat,(x1=(0:Nat)/\x3<=a.length/\bE a b=bE (List.drop x3 a) (List.drop x3 b)->(ab (x1:Int) ((a::([]:List (List (List Int)))).length)/\(ae (decide ((x3:Int)<(↑(((a::([]:List (List (List Int)))).getD (x1:Int).toNat ([]:List (List Int))).length):Int))) (ab (x1:Int) ((a::([]:List (List (List Int)))).length)/\(ab (x3:Int) (mA a x1).length/\(ab (x1:Int) ((b::([]:List (List (List Int)))).length)/\(ab (x3:Int) (((b::([]:List (List (List Int)))).getD (x1:Int).toNat ([]:List (List Int))).length)/\((ah (((mA a x1).getD (x3:Int).toNat []).length)/\True) /\
 (ae (!decide ((List.getD (a::([]:List (List (List Int)))) (x1:Int).toNat ([]:List (List Int))).getD (x3:Int).toNat []=(List.getD (b::([]:List (List (List Int)))) (x1:Int).toNat ([]:List (List Int))).getD (x3:Int).toNat [])) ((ab (x1:Int) ((a::([]:List (List (List Int)))).length))/\((ab (x3:Int) (mA a x1).length)/\((ab (x1:Int) ((b::([]:List (List (List Int)))).length))/\((ab (x3:Int) (((b::([]:List (List (List Int)))).getD (x1:Int).toNat ([]:List (List Int))).length))/\(((ah (((mA a x1).getD (x3:Int).toNat []).length))/\True)/\((bh ((mA a x1).getD (x3:Int).toNat []) ((List.getD (b::([]:List (List (List Int)))) (x1:Int).toNat ([]:List (List Int))).getD (x3:Int).toNat [])=bE a b)/\True)))))) ((ac ((x3:Int)+(1:Int)))/\(∃x4:Nat,(((x1=(0:Nat))/\((x4<=a.length)/\(bE a b=bE (List.drop x4 a) (List.drop x4 b))))/\((a.length-x4<a.length-x3)/\((a::([]:List (List (List Int)))=a::([]:List (List (List Int))))/\((b::([]:List (List (List Int)))=b::([]:List (List (List Int))))/\(((x1:Int)=(x1:Int))/\((x3:Int)+(1:Int)=(x4:Int))))))))))))))) ((ac ((x1:Int)+(1:Int)))/\(∃x5:Nat,(((x5<=(1:Nat))/\(x5=(1:Nat)->bE a b=false))/\(((1:Nat)-x5<(1:Nat)-x1)/\((a::([]:List (List (List Int)))=a::([]:List (List (List Int))))/\((b::([]:List (List (List Int)))=b::([]:List (List (List Int)))) /\
 ((x1:Int)+(1:Int)=(x5:Int))))))))))))) ((false=bE a b)/\True)))))
theorem Mg(a:List (List Int))(b:List (List Int)):aY Tryz.prog (aj Ep) am (Eo a b) Tryz.f142 (aP Tryz.f142) [] [.c (.r3 .i64 ([a])),.c (.r3 .i64 ([b]))] (qH a b)=wx a b:=by kernel_rfl
theorem Mh(a:List (List Int))(b:List (List Int))(Yh:(qH a b).pre):wx a b:=by
 simp only[qH,wx,mA,aX,u1,u2,u3,u4,u5,u6,u7,u8,u9,v1,v2,v3,v4,v5,v6,v7,v8,v9,w1,w2,w3,w4,aN,ab,ac,ah,ax]at Yh⊢;obtain⟨h1,h2,h3⟩:=Yh;have hk:=h1.1
 refine⟨⟨0,⟨by omega,fun h=>by omega⟩,rfl⟩,fun k ⟨hk,ik⟩=>⟨fun h=>⟨⟨0,⟨by omega,by omega,rfl⟩,rfl⟩,fun i ⟨e,hi,ii⟩=>?_⟩,fun h=>(ik (by omega)).symm⟩⟩
 subst e;have ea:[a].getD 0 []=a:=rfl
 have eb:[b].getD 0 []=b:=rfl
 rw[ea,eb];refine⟨by omega,fun q=>?_,fun q=>⟨by omega,1,⟨by omega,fun _=>?_⟩,by omega,by omega⟩⟩
 ·have s:=Mf h3 (i:=i) (by omega)
  have r:=h1.2 _ (bO a [] i (by omega))
  refine⟨by omega,by omega,by omega,by omega,r,fun z=>⟨by omega,by omega,by omega,by omega,r,?_⟩,fun z=>⟨by omega,i+1,⟨rfl,by omega,?_⟩,by omega,by omega⟩⟩
  ·rw[ii,s,if_neg z]
  ·rw[ii,s,if_pos z]
 ·rw[ii,List.drop_of_length_le (by omega)];simp[bE]
theorem Eq:Fits Tryz.prog 142 ⟨[],qI⟩:=by
 refine bf (Γ:=aj Ep) (aD vX (aD EZ aW)) Tryz.func142 fun ds p h hp=>?_
 unfold qI at h;split at h
 ·cases h
  exact⟨am,Eo _ _ ,by rw[Mg];exact Mh _ _  hp⟩
 ·cases h
def aa(t:List (List Int)):List (List Int):=f7 [t] [t] 1000000
def qJ(t:List (List Int)):Post:=⟨g9 t=true,.c (.rows 62 2 .i64 (aa t)),[]⟩
def qK:List AD->Option Post
 | [.c (.rows .i64 t)]=>some (qJ t)
 |_=>none
def Er:List (Nat×Ctr):=[(128,⟨[],w6⟩)]
def wy(t:List (List Int)):Prop :=
 (([(0:Int)]=[(0:Int)]/\(1:Nat)<=(t::([]:List (List (List Int)))).length/\(t::([]:List (List (List Int)))).length<=(1000:Nat)/\(t::([]:List (List (List Int)))).length=(t::([]:List (List (List Int)))).length/\(1:Nat)<=nT (t::([]:List (List (List Int))))/\nT (t::([]:List (List (List Int))))<=(12:Nat)/\bA (nT (t::([]:List (List (List Int))))) (t::([]:List (List (List Int))))/\bA (nT (t::([]:List (List (List Int))))) (t::([]:List (List (List Int))))/\(1:Int)<=(1000000:Int)/\(1000000:Int)<=(1000000:Int))/\True)/\f7 (t::([]:List (List (List Int)))) (t::([]:List (List (List Int)))) (1000000:Int)=aa t/\True
theorem Mi(t:List (List Int)):aY Tryz.prog (aj Er) am av Tryz.f137 (aP Tryz.f137) [] [.c (.rows .i64 t)] (qJ t)=wy t:=by kernel_rfl
theorem Mj(t:List (List Int))(Yh:(qJ t).pre):wy t:=by
 simp only[qJ,wy,aX,u1,u2,u3,u4,u5,u6,u7,u8,u9,v1,v2,v3,v4,v5,v6,v7,v8,v9,w1,w2,w3,w4,aN,ab,ac,ah,ax]at Yh⊢;obtain⟨h1,h2,h3⟩:=ow Yh;have e:nT [t]=t.length:=rfl
 have T:bA (nT [t]) [t]:=fun k hk=>by
  have:k=0:=by simp at hk;omega
  subst this;refine⟨rfl,fun x hx=>⟨(h3 x hx).1,fun y hy=>?_⟩⟩
  have:=(h3 x hx).2 y hy
  have e2:en t x y=(t.getD x []).getD y 0:=rfl
  show 0<=en t x y/\en t x y<(t.length:Int)
  omega
 exact⟨⟨by omega,by omega,by omega,by omega,T,T,by omega,by omega⟩,rfl⟩
theorem Es:Fits Tryz.prog 137 ⟨[],qK⟩:=by
 refine bf (Γ:=aj Er) (aD Ng aW) Tryz.func137 fun ds p h hp=>?_
 unfold qK at h;split at h
 ·cases h
  exact⟨am,av,by rw[Mi];exact Mj _  hp⟩
 ·cases h
theorem Et:∀(a b:List Int),a.length=b.length->bh a b=true->∃i,i<a.length/\(∀j,j<i->a.getD j 0=b.getD j 0)/\a.getD i 0<b.getD i 0
 | [],[],_,h=>by cases h
 | [],_::_,hl,_=>by simp at hl
 |_::_,[],hl,_=>by simp at hl
 |x::a,y::b,hl,h=>by
  rw[bh]at h;by_cases e:x=y
  ·rw[if_pos e]at h
   obtain⟨i,h1,h2,h3⟩:=Et a b (by simpa using hl) h
   refine⟨i+1,by simp;omega,fun j hj=>?_,h3⟩
   cases j with
   |zero=>exact e
   |succ j=>exact h2 j (by omega)
  ·rw[if_neg e]at h
   exact⟨0,by simp,fun j hj=>by omega,of_decide_eq_true h⟩
def c8(n:Nat):List Int:=ar n fun i=>(i:Int)
theorem fY{p q:List Int}{i:Nat}(h:i<p.length):(aT p q).getD i 0=q.getD (p.getD i 0).toNat 0:=me _ _ _ _ _ h
theorem gB(p q:List Int):(aT p q).length=p.length:=by simp[aT]
theorem nW{g:List Int}(hn:g.Nodup){i j:Nat}(hi:i<g.length)(hj:j<g.length)(e:g.getD i 0=g.getD j 0):i=j:=by
 rw[bG g 0 i hi,bG g 0 j hj]at e;exact(List.getElem_inj hn).1 e
theorem Mk{n:Nat}{g:List Int}(hl:g.length=n)(hr:∀i,i<n->0<=g.getD i 0)(hn:g.Nodup):bh g (c8 n)=false:=by
 cases e:bh g (c8 n)with
 |false=>rfl
 |true =>
  exfalso
  obtain⟨i,h1,h2,h3⟩:=Et g (c8 n) (by rw[hl,c8,eA]) e
  have u:∀j,j<n->(c8 n).getD j 0=(j:Int):=fun j hj=>eJ _ _ _ hj
  rw[u i (by omega)]at h3
  have h0:=hr i (by omega)
  have hj:=h2 (g.getD i 0).toNat (by omega)
  rw[u _ (by omega)]at hj
  have:g.getD (g.getD i 0).toNat 0=g.getD i 0:=by omega
  have:=nW hn (i:=(g.getD i 0).toNat) (j:=i) (by omega) h1 this
  omega
section
variable {n:Nat} {t:List (List Int)}
theorem Eu(ht:aB n t):isoL n [t] [t] (c8 n) where
 len:=eA _ _
 rng i hi:=by rw[c8,eJ _ _ _ hi];omega
 nd:=by
  rw[c8,ar,List.Nodup,List.pairwise_map];exact(List.nodup_range (n:=n)).imp fun {x y} h e=>h (by omega)
 ok k x y hk hx hy hv:=by
  have k0:k=0:=by simp at hk;omega
  subst k0;have hx:x<n:=by rwa[c8,eA]at hx
  have hy:y<n:=by rwa[c8,eA]at hy
  have e:[t].getD 0 []=t:=rfl
  rw[e]at hv⊢;have v:=(ht.2 x hx).2 y hy
  rw[c8,eJ _ _ _ hx,eJ _ _ _ hy,eJ _ _ _ (by omega),Int.toNat_natCast,Int.toNat_natCast,Int.toNat_of_nonneg v.1]
theorem jP(ht:aB n t){g h:List Int}(hg:isoL n [t] [t] g)(hh:isoL n [t] [t] h):isoL n [t] [t] (aT g h) where
 len:=by rw[gB];exact hg.len
 rng i hi:=by
  rw[fY (by rw[hg.len];exact hi)]
  have:=hg.rng i hi
  exact hh.rng _ (by omega)
 nd:=by
  have G:=hg.g (fun k hk=>by have k0:k=0:=(by simp at hk;omega);subst k0;exact ht)
  have H:=hh.g (fun k hk=>by have k0:k=0:=(by simp at hk;omega);subst k0;exact ht)
  have gl:=hg.len
  rw[List.Nodup,List.pairwise_iff_getElem];intro i j hi hj hij e
  rw[gB]at hi hj;rw[<-bG _ 0 i (by rw[gB];exact hi),<-bG _ 0 j (by rw[gB];exact hj),fY hi,fY hj]at e
  have a:=hg.rng i (by omega)
  have b:=hg.rng j (by omega)
  have a2:=hh.rng (g.getD i 0).toNat (by omega)
  have b2:=hh.rng (g.getD j 0).toNat (by omega)
  have q:=H.inj (g.getD i 0).toNat (g.getD j 0).toNat (by omega) (by omega) (by rw[e])
  have:=G.inj i j (by omega) (by omega) q
  omega
 ok k x y hk hx hy hv:=by
  have k0:k=0:=by simp at hk;omega
  subst k0;have gl:=hg.len
  have hl:=hh.len
  rw[gB]at hx hy hv;have e:[t].getD 0 []=t:=rfl
  rw[e]at hv⊢;have v:=(ht.2 x (by omega)).2 y (by omega)
  have a:=hg.rng x (by omega)
  have b:=hg.rng y (by omega)
  rw[fY (by omega),fY (by omega),fY (by omega)]
  have o1:=hg.ok 0 x y (by simp) (by omega) (by omega) (by rw[e];omega)
  rw[e]at o1;rw[o1];have w:=(ht.2 (g.getD x 0).toNat (by omega)).2 (g.getD y 0).toNat (by omega)
  have o2:=hh.ok 0 (g.getD x 0).toNat (g.getD y 0).toNat (by simp) (by omega) (by omega) (by rw[e];omega)
  rw[e]at o2;exact o2
theorem kM(ht:aB n t):bA n [t]:=fun k hk=>by
 have k0:k=0:=by simp at hk;omega
 subst k0;exact ht
theorem wz(ht:aB n t)(hn:1<=n):AuOk n (eE n [t] [t])/\(eE n [t] [t]).getD 0 []=c8 n:=by
 have T:=kM ht
 have U:c8 n∈eE n [t] [t]:=(nZ T hn).2 ⟨Eu ht,by rw[c8,eJ _ _ _ (by omega)];rfl⟩
 have I:∀i,i<(eE n [t] [t]).length->isoL n [t] [t] ((eE n [t] [t]).getD i [])/\((eE n [t] [t]).getD i []).getD 0 0=0:=fun i hi=>(nZ T hn).1 (bO _ [] i hi)
 have P:1<=(eE n [t] [t]).length:=List.length_pos_of_mem U
 refine⟨⟨P,fun i hi=>(I i hi).1.len,fun i x hi hx=>(I i hi).1.rng x hx,fun i j hi hj=>(nZ T hn).2 ⟨jP ht (I i hi).1 (I j hj).1,?_⟩⟩,?_⟩
 ·have a:=(I i hi).1.len
  rw[fY (by omega),(I i hi).2];exact(I j hj).2
 ·obtain⟨j,hj,e⟩:=List.getElem_of_mem U
  by_cases j0:j=0
  ·subst j0;rw[bG _ [] 0 hj,e]
  ·exfalso
   have S:=List.pairwise_iff_getElem.1 (EU n [t] [t]) 0 j (by omega) hj (by omega)
   have a:=(I 0 (by omega)).1
   rw[bG _ [] 0 (by omega)]at a
   have:=Mk a.len (fun i hi=>(a.rng i hi).1) a.nd
   rw[e]at S;rw[S]at this;cases this
theorem qL(ht:aB n t)(hn:1<=n)(h:(aa t).length<=999999):aa t=eE n [t] [t]:=by
 have e:nT [t]=n:=ht.1
 have T:=kM ht
 have E:aa t=(eE n [t] [t]).take 1000000:=by
  rw[aa,f7,if_pos rfl,e];exact ET T rfl hn (by omega)
 rw[E,List.length_take]at h;rw[E,List.take_of_length_le (by omega)]
theorem mB(ht:aB n t)(hn:1<=n)(h:(aa t).length<=999999):AuOk n (aa t)/\kG (aa t) 0 0=0:=by
 rw[qL ht hn h];obtain⟨a,b⟩:=wz ht hn;refine⟨a,?_⟩
 have th:aT (c8 n) (c8 n)=c8 n:=by
  refine jc (by rw[gB]) fun i hi=>?_
  rw[gB,c8,eA]at hi;rw[fY (by rw[c8,eA];exact hi),c8,eJ _ _ _ hi,Int.toNat_natCast,eJ _ _ _ hi]
 have z:(0:Int).toNat=0:=rfl
 rw[kG,z,b,th];exact oa 0 (fun j hj=>by omega) (by have:=a.pos;omega) b
end
def qM(a:List Int)(b:List Int):Post:=⟨a.length<=9223372036854775807/\b.length<=9223372036854775807,.c (.bool (decide (a=b))),[]⟩
def wA:List AD->Option Post
 | [.c (.ints .i64 a),.c (.ints .i64 b)]=>some (qM a b)
 |_=>none
def Ev(a:List Int)(b:List Int):Nat->Option Ann
 |0=>some (Ann.mk ((Nat)) (fun i=>⟨[(0,.c (.ro (.ints .i64 a))),(1,.c (.ro (.ints .i64 b))),(12,.c (.int .i64 ((a.length:Int)))),(13,.c (.int .i64 ((i:Int))))],[]⟩) (fun i=>i<=a.length/\a.length=b.length/\decide (a=b)=decide (a.drop i=b.drop i)) (fun i=>a.length-i) (fun _=>av))
 |_=>none
def Ew:List (Nat×Ctr):=[]
def wB(a:List Int)(b:List Int):Prop :=
 ae ((a.length:Int) != (b.length:Int)) (false=decide (a=b)/\True) ((∃x0:Nat,(x0<=a.length/\a.length=b.length/\decide (a=b)=decide (List.drop x0 a=List.drop x0 b))/\a=a/\b=b/\(a.length:Int)=(a.length:Int)/\(0:Int)=(x0:Int))/\∀x1:Nat,x1<=a.length/\a.length=b.length/\decide (a=b)=decide (List.drop x1 a=List.drop x1 b)->ae (decide ((x1:Int)<(a.length:Int))) (ab (x1:Int) a.length/\ab (x1:Int) b.length/\ae (a.getD (x1:Int).toNat (0:Int) != b.getD (x1:Int).toNat (0:Int)) (false=decide (a=b)/\True) (ac ((x1:Int)+(1:Int))/\∃x2:Nat,(x2<=a.length/\a.length=b.length/\decide (a=b)=decide (List.drop x2 a=List.drop x2 b))/\a.length-x2<a.length-x1/\a=a/\b=b/\(a.length:Int)=(a.length:Int)/\(x1:Int)+(1:Int)=(x2:Int))) (true=decide (a=b)/\True))
theorem Ml(a:List Int)(b:List Int):aY Tryz.prog (aj Ew) am (Ev a b) Tryz.f92 (aP Tryz.f92) [] [.c (.ints .i64 a),.c (.ints .i64 b)] (qM a b)=wB a b:=by kernel_rfl
theorem Mm(a:List Int)(b:List Int)(Yh:(qM a b).pre):wB a b:=by
 simp only[qM,wB,aX,u1,u2,u3,u4,u5,u6,u7,u8,u9,v1,v2,v3,v4,v5,v6,v7,v8,v9,w1,w2,w3,w4,aN,ab,ac,ah,ax]at Yh⊢;refine⟨fun h=>?_,fun h=>⟨⟨0,⟨by omega,by omega,rfl⟩,rfl⟩,fun i ⟨hi,hl,he⟩=>⟨fun h2=>?_,fun h2=>?_⟩⟩⟩
 ·exact(decide_eq_false fun e=>h (by rw[e])).symm
 ·have ea:=drop_cons' a 0 i (by omega)
  have eb:=drop_cons' b 0 i (by omega)
  refine⟨by omega,by omega,fun h3=>?_,fun h3=>⟨by omega,i+1,⟨by omega,hl,?_⟩,by omega,by omega⟩⟩
  ·rw[he,ea,eb]
   exact(decide_eq_false fun e=>h3 (by injection e)).symm
  ·rw[he,ea,eb,h3]
   simp
 ·rw[he,List.drop_eq_nil_of_le (by omega),List.drop_eq_nil_of_le (by omega)];rfl
theorem Mn:Fits Tryz.prog 92 ⟨[],wA⟩:=by
 refine bf (Γ:=aj Ew) aW Tryz.func92 fun ds p h hp=>?_
 unfold wA at h;split at h
 ·cases h
  exact⟨am,Ev _ _ ,by rw[Ml];exact Mm _ _  hp⟩
 ·cases h
def qN(p:List Int)(q:List Int):Post:=⟨p.length<=1000/\iJ q.length p,.c (.ints 2 .i64 (aT p q)),[]⟩
def wD:List AD->Option Post
 | [.c (.ints .i64 p),.c (.ints .i64 q)]=>some (qN p q)
 |_=>none
def Ex(p:List Int)(q:List Int):Nat->Option Ann
 |0=>some (Ann.mk ((Nat)) (fun i=>⟨[(0,.c (.ro (.ints .i64 p))),(1,.c (.ro (.ints .i64 q))),(5,.c (.own 10)),(11,.c (.ro (.ints .i64 p))),(12,.c (.int .i64 ((p.length:Int)))),(13,.c (.int .i64 ((i:Int))))],[(10,some (.ints 2 .i64 ((aT p q).take i++List.replicate ((aT p q).length-i) 0)))]⟩) (fun i=>i<=p.length) (fun i=>p.length-i) (fun _=>av))
 |_=>none
def Ey:List (Nat×Ctr):=[]
def wE(p:List Int)(q:List Int):Prop :=
 ((0:Int)<=(p.length:Int)/\(p.length:Int)<=(p.length:Int)/\ah ((p.length:Int).toNat))/\(∃x0:Nat,x0<=p.length/\p=p/\q=q/\p=p/\(p.length:Int)=(p.length:Int)/\(0:Int)=(x0:Int)/\List.replicate ((p.length:Int).toNat) (0:Int)=List.take x0 (aT p q)++List.replicate ((aT p q).length-x0) (0:Int))/\∀x1:Nat,x1<=p.length->ae (decide ((x1:Int)<(p.length:Int))) (ab (x1:Int) p.length/\ab (p.getD (x1:Int).toNat (0:Int)) q.length/\ab (x1:Int) ((List.take x1 (aT p q)++List.replicate ((aT p q).length-x1) (0:Int)).length)/\ac ((x1:Int)+(1:Int))/\∃x2:Nat,x2<=p.length/\p.length-x2<p.length-x1/\p=p/\q=q/\p=p/\(p.length:Int)=(p.length:Int)/\(x1:Int)+(1:Int)=(x2:Int)/\List.set (List.take x1 (aT p q)++List.replicate ((aT p q).length-x1) (0:Int)) (x1:Int).toNat (q.getD ((p.getD (x1:Int).toNat (0:Int)).toNat) (0:Int))=List.take x2 (aT p q)++List.replicate ((aT p q).length-x2) (0:Int)) (List.take x1 (aT p q)++List.replicate ((aT p q).length-x1) (0:Int)=aT p q/\True)
theorem Mo(p:List Int)(q:List Int):aY Tryz.prog (aj Ey) am (Ex p q) Tryz.f88 (aP Tryz.f88) [] [.c (.ints .i64 p),.c (.ints .i64 q)] (qN p q)=wE p q:=by kernel_rfl
theorem Mp(p:List Int)(q:List Int)(Yh:(qN p q).pre):wE p q:=by
 simp only[qN,wE,aX,u1,u2,u3,u4,u5,u6,u7,u8,u9,v1,v2,v3,v4,v5,v6,v7,v8,v9,w1,w2,w3,w4,aN,ab,ac,ah,ax]at Yh⊢;obtain⟨h1,h3⟩:=Yh;have hl:=gB p q
 refine⟨by omega,⟨0,by omega,rfl,Tb _ _ _ hl⟩,fun i hi=>⟨fun h=>?_,fun h=>?_⟩⟩
 ·have hr:=h3 i (by omega)
  refine⟨by omega,by omega,by omega,by omega,i+1,by omega,by omega,by omega,?_⟩
  rw[<-Cp (aT p q) 0 0 i (by omega),fY (by omega)]
 ·exact Tc _ _ _ (by omega)
theorem Mq:Fits Tryz.prog 88 ⟨[],wD⟩:=by
 refine bf (Γ:=aj Ey) aW Tryz.func88 fun ds p h hp=>?_
 unfold wD at h;split at h
 ·cases h
  exact⟨am,Ex _ _ ,by rw[Mo];exact Mp _ _  hp⟩
 ·cases h
end Go.Sx
