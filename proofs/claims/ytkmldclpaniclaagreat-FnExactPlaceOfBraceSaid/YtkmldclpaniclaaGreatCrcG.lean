/- CrcG -/
import Derived.Test.YtkmldclpaniclaaGreatMapD
import Derived.Test.YtkmldclpaniclaaGreatCirP
import Derived.Test.YtkmldclpaniclaaGreatRack
set_option linter.unusedSimpArgs false
set_option linter.unusedVariables false
open Go Go.Proofs
namespace Go.Sx
def gI(K:V8)(m:V7):Int:=if m∈K then(dS K m:Int)else -1
def rn(K:V8)(m:V7):Post:=⟨aM K,.c (.int .i64 (gI K m)),[]⟩
def xf:List AD->Option Post
 | [.c (.rows .i64 K),.c (.ints .i64 m)]=>some (rn K m)
 |_=>none
def Fn(K:V8)(m:V7):Nat->Option Ann
 |0=>some (Ann.mk ((Nat)) (fun i=>⟨[(0,.c (.ro (.rows .i64 K))),(1,.c (.ro (.ints .i64 m))),(5,.c (.int .i64 ((i:Int))))],[]⟩) (fun i=>i<=K.length/\(∀j,j<i->K.getD j []≠m)) (fun i=>K.length-i) (fun _=>am))
 |_=>none
def Fo:List (Nat×Ctr):=[(202,⟨[],oz⟩)]
def xg(K:V8)(m:V7):Prop :=
 (∃x0:Nat,(x0<=K.length/\∀(j:Nat),j<x0->K.getD j []≠m)/\K=K/\m=m/\(0:Int)=(x0:Int))/\∀x1:Nat,(x1<=K.length/\∀(j:Nat),j<x1->K.getD j []≠m)->ae (decide ((x1:Int)<(K.length:Int))) (aa (x1:Int) K.length/\(af ((K.getD (x1:Int).toNat []).length)/\True)/\ae (decide (K.getD (x1:Int).toNat []=m)) ((x1:Int)=gI K m/\True) (ac ((x1:Int)+(1:Int))/\∃x2:Nat,(x2<=K.length/\∀(j:Nat),j<x2->K.getD j []≠m)/\K.length-x2<K.length-x1/\K=K/\m=m/\(x1:Int)+(1:Int)=(x2:Int))) ((-1:Int)=gI K m/\True)
theorem NX(K:V8)(m:V7):aJ Tryz.prog (ai Fo) ak (Fn K m) Tryz.f232 (aE Tryz.f232) [] [.c (.rows .i64 K),.c (.ints .i64 m)] (rn K m)=xg K m:=by kernel_rfl
theorem NY(K:V8)(m:V7)(Yh:(rn K m).pre):xg K m:=by
 simp only[rn,xg,aG,u1,u2,u3,u4,u5,u6,u7,u8,u9,v1,v2,v3,v4,v5,v6,v7,v8,v9,w1,w2,w3,w4,aH,aa,ac,af,ar]at Yh⊢;have hk:=Yh.1
 refine⟨⟨0,⟨by omega,fun j h=>by omega⟩,rfl⟩,fun i ⟨hi,ih⟩=>⟨fun h=>⟨by omega,?_,fun q=>?_,fun q=>⟨by omega,i+1,⟨by omega,fun j hj=>?_⟩,by omega,by omega⟩⟩,fun h=>?_⟩⟩
 ·exact Yh.2 _ (bM K [] i (by omega))
 ·rw[gI,if_pos (by rw[<-q];exact bM K [] i (by omega)),oK i ih (by omega) q]
 ·by_cases e:j=i
  ·subst e;exact q
  ·exact ih j (by omega)
 ·rw[gI,if_neg]
  intro hm
  obtain⟨q1,q2⟩:=jx hm;exact ih _ (by omega) q2
theorem NZ:Fits Tryz.prog 232 ⟨[],xf⟩:=by
 refine aO (Γ:=ai Fo) (aw xe aF) Tryz.func232 fun ds p h hp=>?_
 unfold xf at h;split at h
 ·cases h
  exact⟨ak,Fn _ _ ,by rw[NX];exact NY _ _  hp⟩
 ·cases h
theorem N0{a b:V8}(hl:a.length=b.length){i:Nat}(h:i<a.length):bD (a.drop i) (b.drop i)=if a.getD i []=b.getD i []then bD (a.drop (i+1)) (b.drop (i+1))else bj (a.getD i []) (b.getD i []):=by
 rw[drop_cons' a [] i h,drop_cons' b [] i (by omega),bD]
def rp(a:V8)(b:V8):Post:=⟨aM a/\aM b/\a.length=b.length,.c (.bool (bD a b)),[]⟩
def rq:List AD->Option Post
 | [.c (.r3 .i64 ([a])),.c (.r3 .i64 ([b]))]=>some (rp a b)
 |_=>none
def Fp(a:V8)(b:V8):Nat->Option Ann
 |0=>some (Ann.mk ((Nat)) (fun k=>⟨[(0,.c (.ro (.r3 .i64 ([a])))),(1,.c (.ro (.r3 .i64 ([b])))),(5,.c (.int .i64 ((k:Int))))],[]⟩) (fun k=>k<=1/\(k=1->bD a b=false)) (fun k=>1-k) (fun k=>fun b_=>match b_ with|2=>some (Ann.mk ((Nat)) (fun i=>⟨[(0,.c (.ro (.r3 .i64 ([a])))),(1,.c (.ro (.r3 .i64 ([b])))),(5,.c (.int .i64 ((k:Int)))),(6,.c (.int .i64 ((i:Int))))],[]⟩) (fun i=>k=0/\i<=a.length/\bD a b=bD (a.drop i) (b.drop i)) (fun i=>a.length-i) (fun _=>am))|_=>none))
 |_=>none
def Fq:List (Nat×Ctr):=[(202,⟨[],oz⟩),(203,⟨[],ss⟩)]
def mO(a:V8)(x0:Nat):=((a::([]:V9)).getD (↑x0:Int).toNat ([]:V8))
def xh(a:V8)(b:V8):Prop :=
 ((∃x0:Nat,(x0<=(1:Nat)/\(x0=(1:Nat)->bD a b=false))/\a::([]:V9)=a::([]:V9)/\b::([]:V9)=b::([]:V9)/\(0:Int)=(x0:Int))/\(∀x1:Nat,(x1<=(1:Nat)/\(x1=(1:Nat)->bD a b=false)->(ae (decide ((x1:Int)<(↑((a::([]:V9)).length):Int))) ((∃x2:Nat,(x1=(0:Nat)/\x2<=a.length/\bD a b=bD (List.drop x2 a) (List.drop x2 b))/\a::([]:V9)=a::([]:V9)/\b::([]:V9)=b::([]:V9)/\(x1:Int)=(x1:Int)/\(0:Int)=(x2:Int))/\(∀x3:Nat,(x1=(0:Nat)/\x3<=a.length/\bD a b=bD (List.drop x3 a) (List.drop x3 b)->(aa (x1:Int) ((a::([]:V9)).length)/\(ae (decide ((x3:Int)<(↑(((a::([]:V9)).getD (x1:Int).toNat ([]:V8)).length):Int))) (aa (x1:Int) ((a::([]:V9)).length)/\(aa (x3:Int) (mO a x1).length/\(aa (x1:Int) ((b::([]:V9)).length)/\(aa (x3:Int) (((b::([]:V9)).getD (x1:Int).toNat ([]:V8)).length)/\((af (((mO a x1).getD (x3:Int).toNat []).length)/\True) /\
 (ae (!decide ((List.getD (a::([]:V9)) (x1:Int).toNat ([]:V8)).getD (x3:Int).toNat []=(List.getD (b::([]:V9)) (x1:Int).toNat ([]:V8)).getD (x3:Int).toNat [])) ((aa (x1:Int) ((a::([]:V9)).length))/\((aa (x3:Int) (mO a x1).length)/\((aa (x1:Int) ((b::([]:V9)).length))/\((aa (x3:Int) (((b::([]:V9)).getD (x1:Int).toNat ([]:V8)).length))/\(((af (((mO a x1).getD (x3:Int).toNat []).length))/\True)/\((bj ((mO a x1).getD (x3:Int).toNat []) ((List.getD (b::([]:V9)) (x1:Int).toNat ([]:V8)).getD (x3:Int).toNat [])=bD a b)/\True)))))) ((ac ((x3:Int)+(1:Int)))/\(∃x4:Nat,(((x1=(0:Nat))/\((x4<=a.length)/\(bD a b=bD (List.drop x4 a) (List.drop x4 b))))/\((a.length-x4<a.length-x3)/\((a::([]:V9)=a::([]:V9))/\((b::([]:V9)=b::([]:V9))/\(((x1:Int)=(x1:Int))/\((x3:Int)+(1:Int)=(x4:Int))))))))))))))) ((ac ((x1:Int)+(1:Int)))/\(∃x5:Nat,(((x5<=(1:Nat))/\(x5=(1:Nat)->bD a b=false))/\(((1:Nat)-x5<(1:Nat)-x1)/\((a::([]:V9)=a::([]:V9))/\((b::([]:V9)=b::([]:V9)) /\
 ((x1:Int)+(1:Int)=(x5:Int))))))))))))) ((false=bD a b)/\True)))))
theorem N1(a:V8)(b:V8):aJ Tryz.prog (ai Fq) ak (Fp a b) Tryz.f142 (aE Tryz.f142) [] [.c (.r3 .i64 ([a])),.c (.r3 .i64 ([b]))] (rp a b)=xh a b:=by kernel_rfl
theorem N2(a:V8)(b:V8)(Yh:(rp a b).pre):xh a b:=by
 simp only[rp,xh,mO,aG,u1,u2,u3,u4,u5,u6,u7,u8,u9,v1,v2,v3,v4,v5,v6,v7,v8,v9,w1,w2,w3,w4,aH,aa,ac,af,ar]at Yh⊢;obtain⟨h1,h2,h3⟩:=Yh;have hk:=h1.1
 refine⟨⟨0,⟨by omega,fun h=>by omega⟩,rfl⟩,fun k ⟨hk,ik⟩=>⟨fun h=>⟨⟨0,⟨by omega,by omega,rfl⟩,rfl⟩,fun i ⟨e,hi,ii⟩=>?_⟩,fun h=>(ik (by omega)).symm⟩⟩
 subst e;have ea:[a].getD 0 []=a:=rfl
 have eb:[b].getD 0 []=b:=rfl
 rw[ea,eb];refine⟨by omega,fun q=>?_,fun q=>⟨by omega,1,⟨by omega,fun _=>?_⟩,by omega,by omega⟩⟩
 ·have s:=N0 h3 (i:=i) (by omega)
  have r:=h1.2 _ (bM a [] i (by omega))
  refine⟨by omega,by omega,by omega,by omega,r,fun z=>⟨by omega,by omega,by omega,by omega,r,?_⟩,fun z=>⟨by omega,i+1,⟨rfl,by omega,?_⟩,by omega,by omega⟩⟩
  ·rw[ii,s,if_neg z]
  ·rw[ii,s,if_pos z]
 ·rw[ii,List.drop_of_length_le (by omega)];simp[bD]
theorem Fr:Fits Tryz.prog 142 ⟨[],rq⟩:=by
 refine aO (Γ:=ai Fq) (aw xe (aw GZ aF)) Tryz.func142 fun ds p h hp=>?_
 unfold rq at h;split at h
 ·cases h
  exact⟨ak,Fp _ _ ,by rw[N1];exact N2 _ _  hp⟩
 ·cases h
def ab(t:V8):V8:=dB [t] [t] 1000000
def rt(t:V8):Post:=⟨b6 t=true,.c (.rows 62 2 .i64 (ab t)),[]⟩
def rx:List AD->Option Post
 | [.c (.rows .i64 t)]=>some (rt t)
 |_=>none
def Fs:List (Nat×Ctr):=[(128,⟨[],sF⟩)]
def xi(t:V8):Prop :=
 (([(0:Int)]=[(0:Int)]/\(1:Nat)<=(t::([]:V9)).length/\(t::([]:V9)).length<=(1000:Nat)/\(t::([]:V9)).length=(t::([]:V9)).length/\(1:Nat)<=nT (t::([]:V9))/\nT (t::([]:V9))<=(12:Nat)/\bt (nT (t::([]:V9))) (t::([]:V9))/\bt (nT (t::([]:V9))) (t::([]:V9))/\(1:Int)<=(1000000:Int)/\(1000000:Int)<=(1000000:Int))/\True)/\dB (t::([]:V9)) (t::([]:V9)) (1000000:Int)=ab t/\True
theorem N3(t:V8):aJ Tryz.prog (ai Fs) ak am Tryz.f137 (aE Tryz.f137) [] [.c (.rows .i64 t)] (rt t)=xi t:=by kernel_rfl
theorem N4(t:V8)(Yh:(rt t).pre):xi t:=by
 simp only[rt,xi,aG,u1,u2,u3,u4,u5,u6,u7,u8,u9,v1,v2,v3,v4,v5,v6,v7,v8,v9,w1,w2,w3,w4,aH,aa,ac,af,ar]at Yh⊢;obtain⟨h1,h2,h3⟩:=gu Yh;have e:nT [t]=t.length:=rfl
 have T:bt (nT [t]) [t]:=fun k hk=>by
  have:k=0:=by simp at hk;omega
  subst this;refine⟨rfl,fun x hx=>⟨(h3 x hx).1,fun y hy=>?_⟩⟩
  have:=(h3 x hx).2 y hy
  have e2:en t x y=(t.getD x []).getD y 0:=rfl
  show 0<=en t x y/\en t x y<(t.length:Int)
  omega
 exact⟨⟨by omega,by omega,by omega,by omega,T,T,by omega,by omega⟩,rfl⟩
theorem Ft:Fits Tryz.prog 137 ⟨[],rx⟩:=by
 refine aO (Γ:=ai Fs) (aw Hi aF) Tryz.func137 fun ds p h hp=>?_
 unfold rx at h;split at h
 ·cases h
  exact⟨ak,am,by rw[N3];exact N4 _  hp⟩
 ·cases h
theorem Fu:∀(a b:V7),a.length=b.length->bj a b=true->∃i,i<a.length/\(∀j,j<i->a.getD j 0=b.getD j 0)/\a.getD i 0<b.getD i 0
 | [],[],_,h=>by cases h
 | [],_::_,hl,_=>by simp at hl
 |_::_,[],hl,_=>by simp at hl
 |x::a,y::b,hl,h=>by
  rw[bj]at h;by_cases e:x=y
  ·rw[if_pos e]at h
   obtain⟨i,h1,h2,h3⟩:=Fu a b (by simpa using hl) h
   refine⟨i+1,by simp;omega,fun j hj=>?_,h3⟩
   cases j with
   |zero=>exact e
   |succ j=>exact h2 j (by omega)
  ·rw[if_neg e]at h
   exact⟨0,by simp,fun j hj=>by omega,of_decide_eq_true h⟩
def dc(n:Nat):V7:=au n fun i=>(i:Int)
theorem gh{p q:V7}{i:Nat}(h:i<p.length):(aY p q).getD i 0=q.getD (p.getD i 0).toNat 0:=mF _ _ _ _ _ h
theorem gJ(p q:V7):(aY p q).length=p.length:=by simp[aY]
theorem oA{g:V7}(hn:g.Nodup){i j:Nat}(hi:i<g.length)(hj:j<g.length)(e:g.getD i 0=g.getD j 0):i=j:=by
 rw[bF g 0 i hi,bF g 0 j hj]at e;exact(List.getElem_inj hn).1 e
theorem N5{n:Nat}{g:V7}(hl:g.length=n)(hr:∀i,i<n->0<=g.getD i 0)(hn:g.Nodup):bj g (dc n)=false:=by
 cases e:bj g (dc n)with
 |false=>rfl
 |true =>
  exfalso
  obtain⟨i,h1,h2,h3⟩:=Fu g (dc n) (by rw[hl,dc,eu]) e
  have u:∀j,j<n->(dc n).getD j 0=(j:Int):=fun j hj=>eJ _ _ _ hj
  rw[u i (by omega)]at h3
  have h0:=hr i (by omega)
  have hj:=h2 (g.getD i 0).toNat (by omega)
  rw[u _ (by omega)]at hj
  have:g.getD (g.getD i 0).toNat 0=g.getD i 0:=by omega
  have:=oA hn (i:=(g.getD i 0).toNat) (j:=i) (by omega) h1 this
  omega
section
variable {n:Nat} {t:V8}
theorem Fv(ht:ay n t):isoL n [t] [t] (dc n) where
 len:=eu _ _
 rng i hi:=by rw[dc,eJ _ _ _ hi];omega
 nd:=by
  rw[dc,au,List.Nodup,List.pairwise_map];exact(List.nodup_range (n:=n)).imp fun {x y} h e=>h (by omega)
 ok k x y hk hx hy hv:=by
  have k0:k=0:=by simp at hk;omega
  subst k0;have hx:x<n:=by rwa[dc,eu]at hx
  have hy:y<n:=by rwa[dc,eu]at hy
  have e:[t].getD 0 []=t:=rfl
  rw[e]at hv⊢;have v:=(ht.2 x hx).2 y hy
  rw[dc,eJ _ _ _ hx,eJ _ _ _ hy,eJ _ _ _ (by omega),Int.toNat_natCast,Int.toNat_natCast,Int.toNat_of_nonneg v.1]
theorem kb(ht:ay n t){g h:V7}(hg:isoL n [t] [t] g)(hh:isoL n [t] [t] h):isoL n [t] [t] (aY g h) where
 len:=by rw[gJ];exact hg.len
 rng i hi:=by
  rw[gh (by rw[hg.len];exact hi)]
  have:=hg.rng i hi
  exact hh.rng _ (by omega)
 nd:=by
  have G:=hg.g (fun k hk=>by have k0:k=0:=(by simp at hk;omega);subst k0;exact ht)
  have H:=hh.g (fun k hk=>by have k0:k=0:=(by simp at hk;omega);subst k0;exact ht)
  have gl:=hg.len
  rw[List.Nodup,List.pairwise_iff_getElem];intro i j hi hj hij e
  rw[gJ]at hi hj;rw[<-bF _ 0 i (by rw[gJ];exact hi),<-bF _ 0 j (by rw[gJ];exact hj),gh hi,gh hj]at e
  have a:=hg.rng i (by omega)
  have b:=hg.rng j (by omega)
  have a2:=hh.rng (g.getD i 0).toNat (by omega)
  have b2:=hh.rng (g.getD j 0).toNat (by omega)
  have q:=H.inj (g.getD i 0).toNat (g.getD j 0).toNat (by omega) (by omega) (by rw[e])
  have:=G.inj i j (by omega) (by omega) q
  omega
 ok k x y hk hx hy hv:=by
  have k0:k=0:=by simp at hk;omega
  subst k0;have gl:=hg.len
  have hl:=hh.len
  rw[gJ]at hx hy hv;have e:[t].getD 0 []=t:=rfl
  rw[e]at hv⊢;have v:=(ht.2 x (by omega)).2 y (by omega)
  have a:=hg.rng x (by omega)
  have b:=hg.rng y (by omega)
  rw[gh (by omega),gh (by omega),gh (by omega)]
  have o1:=hg.ok 0 x y (by simp) (by omega) (by omega) (by rw[e];omega)
  rw[e]at o1;rw[o1];have w:=(ht.2 (g.getD x 0).toNat (by omega)).2 (g.getD y 0).toNat (by omega)
  have o2:=hh.ok 0 (g.getD x 0).toNat (g.getD y 0).toNat (by simp) (by omega) (by omega) (by rw[e];omega)
  rw[e]at o2;exact o2
theorem lh(ht:ay n t):bt n [t]:=fun k hk=>by
 have k0:k=0:=by simp at hk;omega
 subst k0;exact ht
theorem xj(ht:ay n t)(hn:1<=n):AuOk n (d4 n [t] [t])/\(d4 n [t] [t]).getD 0 []=dc n:=by
 have T:=lh ht
 have U:dc n∈d4 n [t] [t]:=(lA T hn).2 ⟨Fv ht,by rw[dc,eJ _ _ _ (by omega)];rfl⟩
 have I:∀i,i<(d4 n [t] [t]).length->isoL n [t] [t] ((d4 n [t] [t]).getD i [])/\((d4 n [t] [t]).getD i []).getD 0 0=0:=fun i hi=>(lA T hn).1 (bM _ [] i hi)
 have P:1<=(d4 n [t] [t]).length:=List.length_pos_of_mem U
 refine⟨⟨P,fun i hi=>(I i hi).1.len,fun i x hi hx=>(I i hi).1.rng x hx,fun i j hi hj=>(lA T hn).2 ⟨kb ht (I i hi).1 (I j hj).1,?_⟩⟩,?_⟩
 ·have a:=(I i hi).1.len
  rw[gh (by omega),(I i hi).2];exact(I j hj).2
 ·obtain⟨j,hj,e⟩:=List.getElem_of_mem U
  by_cases j0:j=0
  ·subst j0;rw[bF _ [] 0 hj,e]
  ·exfalso
   have S:=List.pairwise_iff_getElem.1 (GV n [t] [t]) 0 j (by omega) hj (by omega)
   have a:=(I 0 (by omega)).1
   rw[bF _ [] 0 (by omega)]at a
   have:=N5 a.len (fun i hi=>(a.rng i hi).1) a.nd
   rw[e]at S;rw[S]at this;cases this
theorem ry(ht:ay n t)(hn:1<=n)(h:(ab t).length<=999999):ab t=d4 n [t] [t]:=by
 have e:nT [t]=n:=ht.1
 have T:=lh ht
 have E:ab t=(d4 n [t] [t]).take 1000000:=by
  rw[ab,dB,if_pos rfl,e];exact yI T rfl hn (by omega)
 rw[E,List.length_take]at h;rw[E,List.take_of_length_le (by omega)]
theorem mP(ht:ay n t)(hn:1<=n)(h:(ab t).length<=999999):AuOk n (ab t)/\ld (ab t) 0 0=0:=by
 rw[ry ht hn h];obtain⟨a,b⟩:=xj ht hn;refine⟨a,?_⟩
 have th:aY (dc n) (dc n)=dc n:=by
  refine jn (by rw[gJ]) fun i hi=>?_
  rw[gJ,dc,eu]at hi;rw[gh (by rw[dc,eu];exact hi),dc,eJ _ _ _ hi,Int.toNat_natCast,eJ _ _ _ hi]
 have z:(0:Int).toNat=0:=rfl
 rw[ld,z,b,th];exact oK 0 (fun j hj=>by omega) (by have:=a.pos;omega) b
end
def rz(a:V7)(b:V7):Post:=⟨a.length<=9223372036854775807/\b.length<=9223372036854775807,.c (.bool (decide (a=b))),[]⟩
def xk:List AD->Option Post
 | [.c (.ints .i64 a),.c (.ints .i64 b)]=>some (rz a b)
 |_=>none
def Fw(a:V7)(b:V7):Nat->Option Ann
 |0=>some (Ann.mk ((Nat)) (fun i=>⟨[(0,.c (.ro (.ints .i64 a))),(1,.c (.ro (.ints .i64 b))),(12,.c (.int .i64 ((a.length:Int)))),(13,.c (.int .i64 ((i:Int))))],[]⟩) (fun i=>i<=a.length/\a.length=b.length/\decide (a=b)=decide (a.drop i=b.drop i)) (fun i=>a.length-i) (fun _=>am))
 |_=>none
def Fx:List (Nat×Ctr):=[]
def xm(a:V7)(b:V7):Prop :=
 ae ((a.length:Int) != (b.length:Int)) (false=decide (a=b)/\True) ((∃x0:Nat,(x0<=a.length/\a.length=b.length/\decide (a=b)=decide (List.drop x0 a=List.drop x0 b))/\a=a/\b=b/\(a.length:Int)=(a.length:Int)/\(0:Int)=(x0:Int))/\∀x1:Nat,x1<=a.length/\a.length=b.length/\decide (a=b)=decide (List.drop x1 a=List.drop x1 b)->ae (decide ((x1:Int)<(a.length:Int))) (aa (x1:Int) a.length/\aa (x1:Int) b.length/\ae (a.getD (x1:Int).toNat (0:Int) != b.getD (x1:Int).toNat (0:Int)) (false=decide (a=b)/\True) (ac ((x1:Int)+(1:Int))/\∃x2:Nat,(x2<=a.length/\a.length=b.length/\decide (a=b)=decide (List.drop x2 a=List.drop x2 b))/\a.length-x2<a.length-x1/\a=a/\b=b/\(a.length:Int)=(a.length:Int)/\(x1:Int)+(1:Int)=(x2:Int))) (true=decide (a=b)/\True))
theorem N6(a:V7)(b:V7):aJ Tryz.prog (ai Fx) ak (Fw a b) Tryz.f92 (aE Tryz.f92) [] [.c (.ints .i64 a),.c (.ints .i64 b)] (rz a b)=xm a b:=by kernel_rfl
theorem N7(a:V7)(b:V7)(Yh:(rz a b).pre):xm a b:=by
 simp only[rz,xm,aG,u1,u2,u3,u4,u5,u6,u7,u8,u9,v1,v2,v3,v4,v5,v6,v7,v8,v9,w1,w2,w3,w4,aH,aa,ac,af,ar]at Yh⊢;refine⟨fun h=>?_,fun h=>⟨⟨0,⟨by omega,by omega,rfl⟩,rfl⟩,fun i ⟨hi,hl,he⟩=>⟨fun h2=>?_,fun h2=>?_⟩⟩⟩
 ·exact(decide_eq_false fun e=>h (by rw[e])).symm
 ·have ea:=drop_cons' a 0 i (by omega)
  have eb:=drop_cons' b 0 i (by omega)
  refine⟨by omega,by omega,fun h3=>?_,fun h3=>⟨by omega,i+1,⟨by omega,hl,?_⟩,by omega,by omega⟩⟩
  ·rw[he,ea,eb]
   exact(decide_eq_false fun e=>h3 (by injection e)).symm
  ·rw[he,ea,eb,h3]
   simp
 ·rw[he,List.drop_eq_nil_of_le (by omega),List.drop_eq_nil_of_le (by omega)];rfl
theorem N8:Fits Tryz.prog 92 ⟨[],xk⟩:=by
 refine aO (Γ:=ai Fx) aF Tryz.func92 fun ds p h hp=>?_
 unfold xk at h;split at h
 ·cases h
  exact⟨ak,Fw _ _ ,by rw[N6];exact N7 _ _  hp⟩
 ·cases h
def rA(p:V7)(q:V7):Post:=⟨p.length<=1000/\iS q.length p,.c (.ints 2 .i64 (aY p q)),[]⟩
def xn:List AD->Option Post
 | [.c (.ints .i64 p),.c (.ints .i64 q)]=>some (rA p q)
 |_=>none
def Fy(p:V7)(q:V7):Nat->Option Ann
 |0=>some (Ann.mk ((Nat)) (fun i=>⟨[(0,.c (.ro (.ints .i64 p))),(1,.c (.ro (.ints .i64 q))),(5,.c (.own 10)),(11,.c (.ro (.ints .i64 p))),(12,.c (.int .i64 ((p.length:Int)))),(13,.c (.int .i64 ((i:Int))))],[(10,some (.ints 2 .i64 ((aY p q).take i++List.replicate ((aY p q).length-i) 0)))]⟩) (fun i=>i<=p.length) (fun i=>p.length-i) (fun _=>am))
 |_=>none
def Fz:List (Nat×Ctr):=[]
def xo(p:V7)(q:V7):Prop :=
 ((0:Int)<=(p.length:Int)/\(p.length:Int)<=(p.length:Int)/\af (p.length:Int).toNat)/\(∃x0:Nat,x0<=p.length/\p=p/\q=q/\p=p/\(p.length:Int)=(p.length:Int)/\(0:Int)=(x0:Int)/\List.replicate (p.length:Int).toNat (0:Int)=List.take x0 (aY p q)++List.replicate ((aY p q).length-x0) (0:Int))/\∀x1:Nat,x1<=p.length->ae (decide ((x1:Int)<(p.length:Int))) (aa (x1:Int) p.length/\aa (p.getD (x1:Int).toNat (0:Int)) q.length/\aa (x1:Int) ((List.take x1 (aY p q)++List.replicate ((aY p q).length-x1) (0:Int)).length)/\ac ((x1:Int)+(1:Int))/\∃x2:Nat,x2<=p.length/\p.length-x2<p.length-x1/\p=p/\q=q/\p=p/\(p.length:Int)=(p.length:Int)/\(x1:Int)+(1:Int)=(x2:Int)/\List.set (List.take x1 (aY p q)++List.replicate ((aY p q).length-x1) (0:Int)) (x1:Int).toNat (q.getD ((p.getD (x1:Int).toNat (0:Int)).toNat) (0:Int))=List.take x2 (aY p q)++List.replicate ((aY p q).length-x2) (0:Int)) (List.take x1 (aY p q)++List.replicate ((aY p q).length-x1) (0:Int)=aY p q/\True)
theorem N9(p:V7)(q:V7):aJ Tryz.prog (ai Fz) ak (Fy p q) Tryz.f88 (aE Tryz.f88) [] [.c (.ints .i64 p),.c (.ints .i64 q)] (rA p q)=xo p q:=by kernel_rfl
theorem Oa(p:V7)(q:V7)(Yh:(rA p q).pre):xo p q:=by
 simp only[rA,xo,aG,u1,u2,u3,u4,u5,u6,u7,u8,u9,v1,v2,v3,v4,v5,v6,v7,v8,v9,w1,w2,w3,w4,aH,aa,ac,af,ar]at Yh⊢;obtain⟨h1,h3⟩:=Yh;have hl:=gJ p q
 refine⟨by omega,⟨0,by omega,rfl,V5 _ _ _ hl⟩,fun i hi=>⟨fun h=>?_,fun h=>?_⟩⟩
 ·have hr:=h3 i (by omega)
  refine⟨by omega,by omega,by omega,by omega,i+1,by omega,by omega,by omega,?_⟩
  rw[<-oo (aY p q) 0 0 i (by omega),gh (by omega)]
 ·exact D1 _ _ _ (by omega)
theorem Oc:Fits Tryz.prog 88 ⟨[],xn⟩:=by
 refine aO (Γ:=ai Fz) aF Tryz.func88 fun ds p h hp=>?_
 unfold xn at h;split at h
 ·cases h
  exact⟨ak,Fy _ _ ,by rw[N9];exact Oa _ _  hp⟩
 ·cases h
def jr(t L:V8)(x y:Nat):Bool:=!decide ((en t x (en L x y).toNat).toNat<L.length)||decide (L.getD (en t x (en L x y).toNat).toNat []=aY (L.getD y []) (L.getD x []))
def mQ(t L:V8)(x:Nat):Bool:=(List.range L.length).all (jr t L x)
def ie(t L:V8):Bool:=(List.range L.length).all (mQ t L)
def iT(n:Nat)(L:V8):Prop:=∀r∈L,r.length=n/\∀i,i<n->0<=r.getD i 0/\r.getD i 0<(n:Int)
def rB(t:V8)(A:V8)(L:V8)(fd:V9):Post:=⟨t.length<=7/\ay t.length t/\iT t.length L/\L.length<=t.length,.c (.bool (ie t L)),[]⟩
def xp:List AD->Option Post
 | [.box [.rows .i64 t,.rows .i64 A,.rows .i64 L,.r3 .i64 fd]]=>some (rB t A L fd)
 |_=>none
def FA(t:V8)(A:V8)(L:V8)(fd:V9):Nat->Option Ann
 |0=>some (Ann.mk ((Nat)) (fun x=>⟨[(0,.c (.rob [.rows .i64 t,.rows .i64 A,.rows .i64 L,.r3 .i64 fd] 0)),(11,.c (.ro (.rows .i64 L))),(12,.c (.int .i64 ((L.length:Int)))),(13,.c (.int .i64 ((x:Int))))],[]⟩) (fun x=>x<=L.length/\(∀x',x'<x->mQ t L x'=true)) (fun x=>L.length-x) (fun x=>fun b_=>match b_ with|2=>some (Ann.mk ((Nat)) (fun y=>⟨[(0,.c (.rob [.rows .i64 t,.rows .i64 A,.rows .i64 L,.r3 .i64 fd] 0)),(11,.c (.ro (.rows .i64 L))),(12,.c (.int .i64 ((L.length:Int)))),(13,.c (.int .i64 ((x:Int)))),(3,.c (.int .i64 ((x:Int)))),(4,.c (.ro (.ints .i64 ((L.getD x []))))),(21,.c (.ro (.rows .i64 L))),(22,.c (.int .i64 ((L.length:Int)))),(23,.c (.int .i64 ((y:Int))))],[]⟩) (fun y=>y<=L.length/\x<L.length/\(∀y',y'<y->jr t L x y'=true)) (fun y=>L.length-y) (fun _=>am))|_=>none))
 |_=>none
def FB:List (Nat×Ctr):=[(92,⟨[],xk⟩),(88,⟨[],xn⟩)]
def xq(t:V8)(A:V8)(L:V8)(fd:V9):Prop :=
 ((∃x0:Nat,(x0<=L.length/\∀(x':Nat),x'<x0->mQ t L x'=true)/\[FC.rows IntKind.i64 t,FC.rows IntKind.i64 A,FC.rows IntKind.i64 L,FC.r3 IntKind.i64 fd]=[FC.rows IntKind.i64 t,FC.rows IntKind.i64 A,FC.rows IntKind.i64 L,FC.r3 IntKind.i64 fd]/\(0:Nat)=(0:Nat)/\L=L/\(L.length:Int)=(L.length:Int)/\(0:Int)=(x0:Int))/\(∀x1:Nat,((x1<=L.length/\∀(x':Nat),x'<x1->mQ t L x'=true)->(ae (decide ((x1:Int)<(L.length:Int))) (aa (x1:Int) L.length/\((∃x2:Nat,(x2<=L.length/\x1<L.length/\∀(y':Nat),y'<x2->jr t L x1 y'=true)/\[FC.rows IntKind.i64 t,FC.rows IntKind.i64 A,FC.rows IntKind.i64 L,FC.r3 IntKind.i64 fd]=[FC.rows IntKind.i64 t,FC.rows IntKind.i64 A,FC.rows IntKind.i64 L,FC.r3 IntKind.i64 fd]/\(0:Nat)=(0:Nat)/\L=L/\(L.length:Int)=(L.length:Int)/\(x1:Int)=(x1:Int)/\(x1:Int)=(x1:Int)/\L.getD (x1:Int).toNat []=L.getD x1 []/\L=L/\(L.length:Int)=(L.length:Int)/\(0:Int)=(x2:Int))/\(∀x3:Nat,((x3<=L.length/\x1<L.length/\∀(y':Nat),y'<x3->jr t L x1 y'=true)->(ae (decide ((x3:Int)<(L.length:Int))) (aa (x3:Int) L.length/\(aa (x1:Int) t.length/\(aa (x3:Int) (L.getD x1 []).length/\((aa ((List.getD L x1 []).getD (x3:Int).toNat (0:Int)) ((t.getD (x1:Int).toNat []).length)) /\
 (ae (decide ((List.getD t (x1:Int).toNat []).getD (((List.getD L x1 []).getD (x3:Int).toNat (0:Int)).toNat) (0:Int)<(L.length:Int))) (aa ((List.getD t (x1:Int).toNat []).getD (((List.getD L x1 []).getD (x3:Int).toNat (0:Int)).toNat) (0:Int)) L.length/\(((L.getD (x3:Int).toNat []).length<=(1000:Nat)/\iS (L.getD x1 []).length (L.getD (x3:Int).toNat []))/\True)/\(((L.getD (((List.getD t (x1:Int).toNat []).getD (((List.getD L x1 []).getD (x3:Int).toNat (0:Int)).toNat) (0:Int)).toNat) []).length<=(9223372036854775807:Nat)/\(aY (L.getD (x3:Int).toNat []) (L.getD x1 [])).length<=(9223372036854775807:Nat))/\True)/\ae (!decide (L.getD (((List.getD t (x1:Int).toNat []).getD (((List.getD L x1 []).getD (x3:Int).toNat (0:Int)).toNat) (0:Int)).toNat) []=aY (L.getD (x3:Int).toNat []) (L.getD x1 []))) (false=ie t L/\True) (ac ((x3:Int)+(1:Int))/\∃x4:Nat,(x4<=L.length/\x1<L.length/\∀(y':Nat),y'<x4->jr t L x1 y'=true)/\L.length-x4<L.length-x3/\[FC.rows IntKind.i64 t,FC.rows IntKind.i64 A,FC.rows IntKind.i64 L,FC.r3 IntKind.i64 fd]=[FC.rows IntKind.i64 t,FC.rows IntKind.i64 A,FC.rows IntKind.i64 L,FC.r3 IntKind.i64 fd]/\(0:Nat)=(0:Nat)/\L=L/\(L.length:Int)=(L.length:Int)/\(x1:Int)=(x1:Int)/\(x1:Int)=(x1:Int)/\L.getD x1 []=L.getD x1 []/\L=L/\(L.length:Int)=(L.length:Int)/\(x3:Int)+(1:Int)=(x4:Int)))
 ((ac ((x3:Int)+(1:Int)))/\(∃x5:Nat,(((x5<=L.length)/\((x1<L.length)/\(∀(y':Nat),y'<x5->jr t L x1 y'=true)))/\((L.length-x5<L.length-x3)/\(([FC.rows IntKind.i64 t,FC.rows IntKind.i64 A,FC.rows IntKind.i64 L,FC.r3 IntKind.i64 fd]=[FC.rows IntKind.i64 t,FC.rows IntKind.i64 A,FC.rows IntKind.i64 L,FC.r3 IntKind.i64 fd])/\(((0:Nat)=(0:Nat))/\((L=L)/\(((L.length:Int)=(L.length:Int))/\(((x1:Int)=(x1:Int))/\(((x1:Int)=(x1:Int))/\((L.getD x1 []=L.getD x1 [])/\((L=L)/\(((L.length:Int)=(L.length:Int))/\((x3:Int)+(1:Int)=(x5:Int)))))))))))))))))))) ((ac ((x1:Int)+(1:Int)))/\(∃x6:Nat,(((x6<=L.length)/\(∀(x':Nat),x'<x6->mQ t L x'=true))/\((L.length-x6<L.length-x1)/\(([FC.rows IntKind.i64 t,FC.rows IntKind.i64 A,FC.rows IntKind.i64 L,FC.r3 IntKind.i64 fd]=[FC.rows IntKind.i64 t,FC.rows IntKind.i64 A,FC.rows IntKind.i64 L,FC.r3 IntKind.i64 fd])/\(((0:Nat)=(0:Nat))/\((L=L)/\(((L.length:Int)=(L.length:Int))/\((x1:Int)+(1:Int)=(x6:Int))))))))))))))) ((true=ie t L)/\True)))))
theorem Od(t:V8)(A:V8)(L:V8)(fd:V9):aJ Tryz.prog (ai FB) ak (FA t A L fd) Tryz.f185 (aE Tryz.f185) [] [.box [.rows .i64 t,.rows .i64 A,.rows .i64 L,.r3 .i64 fd]] (rB t A L fd)=xq t A L fd:=by kernel_rfl
theorem Oe(t:V8)(A:V8)(L:V8)(fd:V9)(Yh:(rB t A L fd).pre):xq t A L fd:=by
 simp only[rB,xq,aG,u1,u2,u3,u4,u5,u6,u7,u8,u9,v1,v2,v3,v4,v5,v6,v7,v8,v9,w1,w2,w3,w4,aH,aa,ac,af,ar]at Yh⊢;obtain⟨h1,h2,h3,h4⟩:=Yh;have row:∀z,z<L.length->(L.getD z []).length=t.length/\∀i,i<t.length->0<=(L.getD z []).getD i 0/\(L.getD z []).getD i 0<(t.length:Int):=fun z hz=>h3 _ (bM L [] z hz)
 refine⟨⟨0,⟨by omega,fun x' hx=>by omega⟩,rfl⟩,fun x ⟨hx,hX⟩=>⟨fun hlt=>⟨by omega,⟨0,⟨by omega,by omega,fun y' hy=>by omega⟩,rfl⟩,fun y ⟨hy,hxl,hY⟩=>⟨fun hylt=>?_,fun hyge=>?_⟩⟩,fun hge=>?_⟩⟩
 ·have hyl:y<L.length:=by omega
  obtain⟨r1,r2⟩:=row x hxl;obtain⟨q1,q2⟩:=row y hyl;obtain⟨t1,t2⟩:=h2.2 x (by omega)
  have v:=r2 y (by omega)
  have ht:=t2 ((L.getD x []).getD y 0).toNat (by omega)
  simp only[en]at ht;have hf:jr t L x y=(!decide (((t.getD x []).getD ((L.getD x []).getD y 0).toNat 0).toNat<L.length)||decide (L.getD ((t.getD x []).getD ((L.getD x []).getD y 0).toNat 0).toNat []=aY (L.getD y []) (L.getD x []))):=rfl
  generalize (t.getD x []).getD ((L.getD x []).getD y 0).toNat 0=z at *
  refine⟨by omega,by omega,by omega,by omega,fun hz=>?_,fun hz=>?_⟩
  ·have hzl:z.toNat<L.length:=by omega
   refine⟨⟨by omega,hz⟩,⟨by omega,fun i hi=>by rw[r1];exact q2 i (by omega)⟩,⟨by rw[(row _ hzl).1];omega,by rw[gJ];omega⟩,fun hne=>?_,fun he=>⟨by omega,y+1,⟨by omega,hxl,fun y' hy'=>?_⟩,by omega,by omega⟩⟩
   ·rw[decide_eq_true hzl,decide_eq_false hne]at hf
    have hf:jr t L x y=false:=hf
    symm
    rw[<-Bool.not_eq_true];intro hall
    have:=List.all_eq_true.1 (List.all_eq_true.1 hall x (by simpa using hxl)) y (by simpa using hyl)
    rw[hf]at this;cases this
   ·by_cases e:y'=y
    ·subst e;rw[hf,decide_eq_true he];simp
    ·exact hY y' (by omega)
  ·refine⟨by omega,y+1,⟨by omega,hxl,fun y' hy'=>?_⟩,by omega,by omega⟩
   by_cases e:y'=y
   ·subst e;rw[hf,decide_eq_false (by omega)];rfl
   ·exact hY y' (by omega)
 ·refine⟨by omega,x+1,⟨by omega,fun x' hx'=>?_⟩,by omega,by omega⟩
  by_cases e:x'=x
  ·subst e; exact List.all_eq_true.2 fun y hy' => hY y (by have:y<L.length:=by simpa using hy'
                                                           omega)
  ·exact hX x' (by omega)
 ·exact (List.all_eq_true.2 fun x' hx' => hX x' (by have:x'<L.length:=by simpa using hx'
                                                    omega)).symm
theorem Of:Fits Tryz.prog 185 ⟨[],xp⟩:=by
 refine aO (Γ:=ai FB) (aw N8 (aw Oc aF)) Tryz.func185 fun ds p h hp=>?_
 unfold xp at h;split at h
 ·cases h
  exact⟨ak,FA _ _ _ _ ,by rw[Od];exact Oe _ _ _ _  hp⟩
 ·cases h
def rC(x:Int)(y:Int)(t:V8)(A:V8)(L:V8)(fd:V9):Post:=⟨ay t.length t/\iT t.length L/\0<=x/\x<(t.length:Int)/\x<(L.length:Int)/\0<=y/\y<(t.length:Int),.c (.int .i64 (en t x.toNat (en L x.toNat y.toNat).toNat)),[]⟩
def mR:List AD->Option Post
 | [.c (.int .i64 x),.c (.int .i64 y),.bb [.rows .i64 t,.rows .i64 A,.rows .i64 L,.r3 .i64 fd]]=>some (rC x y t A L fd)
 |_=>none
def FD:List (Nat×Ctr):=[]
def xr(x:Int)(y:Int)(t:V8)(A:V8)(L:V8)(fd:V9):Prop :=
 aa x t.length/\aa x L.length/\aa y (L.getD x.toNat []).length/\aa ((List.getD L x.toNat []).getD y.toNat (0:Int)) (t.getD x.toNat []).length/\(List.getD t x.toNat []).getD (((List.getD L x.toNat []).getD y.toNat (0:Int)).toNat) (0:Int)=en t x.toNat (en L x.toNat y.toNat).toNat/\True
theorem Og(x:Int)(y:Int)(t:V8)(A:V8)(L:V8)(fd:V9):aJ Tryz.prog (ai FD) ak am Tryz.f184 (aE Tryz.f184) [] [.c (.int .i64 x),.c (.int .i64 y),.bb [.rows .i64 t,.rows .i64 A,.rows .i64 L,.r3 .i64 fd]] (rC x y t A L fd)=xr x y t A L fd:=by kernel_rfl
theorem Oh(x:Int)(y:Int)(t:V8)(A:V8)(L:V8)(fd:V9)(Yh:(rC x y t A L fd).pre):xr x y t A L fd:=by
 simp only[rC,xr,aG,u1,u2,u3,u4,u5,u6,u7,u8,u9,v1,v2,v3,v4,v5,v6,v7,v8,v9,w1,w2,w3,w4,aH,aa,ac,af,ar]at Yh⊢;obtain⟨h2,h3,x0,x1,x2,y0,y1⟩:=Yh;obtain⟨r1,r2⟩:=h3 _ (bM L [] x.toNat (by omega))
 obtain⟨t1,t2⟩:=h2.2 x.toNat (by omega)
 have v:=r2 y.toNat (by omega)
 exact⟨by omega,by omega,by omega,by omega,rfl⟩
theorem Oi:Fits Tryz.prog 184 ⟨[],mR⟩:=by
 refine aO (Γ:=ai FD) aF Tryz.func184 fun ds p h hp=>?_
 unfold mR at h;split at h
 ·cases h
  exact⟨ak,am,by rw[Og];exact Oh _ _ _ _ _ _  hp⟩
 ·cases h
def eE(t L:V8):V8:=bN t.length fun x y=>en t x (en L x y).toNat
def dH(t:V8)(A L:V8)(rec:V8->V9->V9)(fd:V9):Nat->V9
 |0=>fd
 |i+1=>if ie t (L++[A.getD i []])=true then rec (L++[A.getD i []]) (dH t A L rec fd i)else dH t A L rec fd i
def cj(t A:V8):Nat->V8->V9->V9
 |0,_,fd=>fd
 |d+1,L,fd=>if L.length=t.length then fd++[eE t L]else dH t A L (cj t A d) fd A.length
theorem xt{t A L:V8}{rec:V8->V9->V9}{fd:V9}{M:Nat}(h:∀i fd',i<A.length->(rec (L++[A.getD i []]) fd').length<=fd'.length+M):∀i,i<=A.length->(dH t A L rec fd i).length<=fd.length+i*M
 |0,_=>by simp[dH]
 |i+1,hi=>by
  have:=xt (t:=t) (fd:=fd) h i (by omega)
  have e:(i+1)*M=i*M+M:=Nat.succ_mul i M
  rw[dH];split
  ·have:=h i (dH t A L rec fd i) (by omega)
   omega
  ·omega
theorem xu{t A:V8}(hA:A.length<=49):∀(d:Nat) (L:V8) (fd:V9),L.length<=t.length->(cj t A d L fd).length<=fd.length+49 ^ (t.length-L.length)
 |0,L,fd,_=>by simp[cj]
 |d+1,L,fd,h=>by
  rw[cj];split
  ·rename_i e
   rw[e];simp
  ·rename_i e
   have h1:=xt (t:=t) (A:=A) (L:=L) (rec:=cj t A d) (fd:=fd) (M:=49 ^ (t.length-(L.length+1))) (fun i fd' hi=>by
    have:=xu (t:=t) hA d (L++[A.getD i []]) fd' (by simp;omega)
    simpa using this) A.length (Nat.le_refl _)
   have h2:49 ^ (t.length-L.length)=49*49 ^ (t.length-(L.length+1)):=by
    rw[show t.length-L.length=(t.length-(L.length+1))+1 by omega,Nat.pow_succ,Nat.mul_comm]
   have h3:A.length*49 ^ (t.length-(L.length+1))<=49*49 ^ (t.length-(L.length+1)):=Nat.mul_le_mul_right _ hA
   omega
def FE(d:Nat)(t:V8)(A:V8)(L:V8)(fd:V9):SV:=.tup []
def FF(d:Nat)(t:V8)(A:V8)(L:V8)(fd:V9):List MA:=[.box [.c (.rows .i64 t),.c (.rows .i64 A),.ob (.lst 0 62 (.rows .i64 L)),.ob (.tr 0 [22,62,2] (.r3 .i64 ((cj t A d L fd))))]]
def FG(d:Nat)(t:V8)(A:V8)(L:V8)(fd:V9):List (Nat×Ob):=[]
def mS(d:Nat)(t:V8)(A:V8)(L:V8)(fd:V9):Post:=⟨t.length<=7/\ay t.length t/\iT t.length A/\iT t.length L/\A.length<=49/\L.length<=t.length/\t.length<d+L.length/\fd.length+49 ^ (t.length-L.length)<=1099511627776,.st (FE d t A L fd) (FG d t A L fd) (FF d t A L fd),[]⟩
def mT(d:Nat):List AD->Option Post
 | [.ma (.box [.c (.rows .i64 t),.c (.rows .i64 A),.ob (.lst 0 62 (.rows .i64 L)),.ob (.tr 0 [22,62,2] (.r3 .i64 fd))])]=>some (mS d t A L fd)
 |_=>none
def FH(d:Nat)(t:V8)(A:V8)(L:V8)(fd:V9):Nat->Option Ann
 |0=>some (Ann.mk ((Nat)) (fun i=>⟨[(1,.c (.ptr 500 0)),(2,.c (.int .i64 ((L.length:Int)))),(32,.c (.ro (.rows .i64 A))),(33,.c (.int .i64 ((A.length:Int)))),(34,.c (.int .i64 ((i:Int))))],[(500,some (.box [.ptr 7000 0])),(7000,some (.box [.ro (.rows .i64 t),.ro (.rows .i64 A),.own 7003,.own 7004])),(7003,some (.lst 0 62 (.rows .i64 L))),(7004,some (.tr 0 [22,62,2] (.r3 .i64 (dH t A L (cj t A (d-1)) fd i))))]⟩) (fun i=>i<=A.length/\L.length≠t.length) (fun i=>A.length-i) (fun _=>am))
 |_=>none
def FI(t:Nat):Bool:=[2000025,4000058].contains t
def FJ(d:Nat):List (Nat×Ctr):=[(185,⟨[],xp⟩),(184,⟨[],mR⟩),(124,⟨[],lK⟩),(133,⟨[(0,93),(0,93)],mT d⟩)]
def gK(A:V8)(L:V8)(x0:Nat):=(L++A.getD (↑x0:Int).toNat []::([]:V8))
def xv(d:Nat)(t:V8)(A:V8)(L:V8)(fd:V9):Prop :=
 (ae ((↑(FC.len (FC.rows IntKind.i64 L)):Int) == (t.length:Int)) ((((0:Int)<=(↑(FC.len (FC.rows IntKind.i64 L)):Int)/\(↑(FC.len (FC.rows IntKind.i64 L)):Int)<=(144:Int)/\∀(x y:Int),(0:Int)<=x->x<(↑(FC.len (FC.rows IntKind.i64 L)):Int)->(0:Int)<=y->y<(↑(FC.len (FC.rows IntKind.i64 L)):Int)->iC (mR [AD.c (FC.int IntKind.i64 x),AD.c (FC.int IntKind.i64 y),AD.bb [FC.rows IntKind.i64 t,FC.rows IntKind.i64 A,FC.rows IntKind.i64 L,FC.r3 IntKind.i64 fd]]))/\True)/\af (FC.len (FC.r3 IntKind.i64 fd)+FC.len (FC.r3 IntKind.i64 ((bN ((↑(FC.len (FC.rows IntKind.i64 L)):Int).toNat) fun(x y:Nat)=>iB (mR [AD.c (FC.int IntKind.i64 (x:Int)),AD.c (FC.int IntKind.i64 (y:Int)),AD.bb [FC.rows IntKind.i64 t,FC.rows IntKind.i64 A,FC.rows IntKind.i64 L,FC.r3 IntKind.i64 fd]]))::([]:V9))))/\t=t/\A=A/\L=L/\fd++(bN ((↑(FC.len (FC.rows IntKind.i64 L)):Int).toNat) fun(x y:Nat)=>iB (mR [AD.c (FC.int IntKind.i64 (x:Int)),AD.c (FC.int IntKind.i64 (y:Int)),AD.bb [FC.rows IntKind.i64 t,FC.rows IntKind.i64 A,FC.rows IntKind.i64 L,FC.r3 IntKind.i64 fd]]))::([]:V9)=cj t A (d+(1:Nat)) L fd) ((∃x0:Nat,((x0<=A.length/\L.length≠t.length)/\((↑(FC.len (FC.rows IntKind.i64 L)):Int)=(L.length:Int)/\(A=A/\((A.length:Int)=(A.length:Int)/\((0:Int)=(x0:Int)/\(t=t/\(A=A/\((L=L) /\
 (fd=dH t A L (cj t A (d+(1:Nat)-(1:Nat))) fd x0))))))))))/\(∀x1:Nat,(((x1<=A.length)/\(L.length≠t.length))->(ae (decide ((x1:Int)<(A.length:Int))) ((aa (x1:Int) A.length)/\((af (FC.len (FC.rows IntKind.i64 L)+FC.len (FC.rows IntKind.i64 (A.getD (x1:Int).toNat []::([]:V8)))))/\((((t.length<=(7:Nat))/\((ay t.length t)/\((iT t.length (gK A L x1))/\((gK A L x1).length<=t.length))))/\True)/\(ae (ie t (L++A.getD (x1:Int).toNat []::([]:V8))) (((t.length<=(7:Nat))/\((ay t.length t)/\((iT t.length A)/\((iT t.length (gK A L x1))/\((A.length<=(49:Nat))/\(((gK A L x1).length<=t.length)/\((t.length<d+(gK A L x1).length)/\((dH t A L (cj t A (d+(1:Nat)-(1:Nat))) fd x1).length+(49:Nat) ^ (t.length-(gK A L x1).length)<=(1099511627776:Nat)))))))))/\((((0:Int)<=(L.length:Int))/\((L.length:Int)<=(↑((gK A L x1).length):Int)))/\((ac ((x1:Int)+(1:Int)))/\(∃x2:Nat,(((x2<=A.length)/\(L.length≠t.length))/\((A.length-x2<A.length-x1)/\(((L.length:Int)=(L.length:Int))/\((A=A)/\(((A.length:Int)=(A.length:Int))/\(((x1:Int)+(1:Int)=(x2:Int))/\((t=t)/\((A=A)/\((List.take (L.length:Int).toNat (gK A L x1)=L)/\(cj t A d (gK A L x1) (dH t A L (cj t A (d+(1:Nat)-(1:Nat))) fd x1)=dH t A L (cj t A (d+(1:Nat)-(1:Nat))) fd x2)))))))))))))) ((((0:Int)<=(L.length:Int)) /\
 ((L.length:Int)<=(↑((gK A L x1).length):Int)))/\((ac ((x1:Int)+(1:Int)))/\(∃x3:Nat,(((x3<=A.length)/\(L.length≠t.length))/\((A.length-x3<A.length-x1)/\(((L.length:Int)=(L.length:Int))/\((A=A)/\(((A.length:Int)=(A.length:Int))/\(((x1:Int)+(1:Int)=(x3:Int))/\((t=t)/\((A=A)/\((List.take (L.length:Int).toNat (gK A L x1)=L)/\(dH t A L (cj t A (d+(1:Nat)-(1:Nat))) fd x1=dH t A L (cj t A (d+(1:Nat)-(1:Nat))) fd x3))))))))))))))))) ((t=t)/\((A=A)/\((L=L)/\(dH t A L (cj t A (d+(1:Nat)-(1:Nat))) fd x1=cj t A (d+(1:Nat)) L fd)))))))))
theorem Oj(d:Nat)(t:V8)(A:V8)(L:V8)(fd:V9):kW Tryz.prog (ai (FJ d)) FI (FH (d+1) t A L fd) Tryz.f133 (aE Tryz.f133) [.box [.c (.rows .i64 t),.c (.rows .i64 A),.ob (.lst 0 62 (.rows .i64 L)),.ob (.tr 0 [22,62,2] (.r3 .i64 fd))]] (FE (d+1) t A L fd) (gy 0 (FF (d+1) t A L fd)++gV (FG (d+1) t A L fd))=xv d t A L fd:=by kernel_rfl
theorem Ok(d:Nat)(t:V8)(A:V8)(L:V8)(fd:V9)(Yh:(mS (d+1) t A L fd).pre):xv d t A L fd:=by
 simp only[mS,xv,gK,aG,u1,u2,u3,u4,u5,u6,u7,u8,u9,v1,v2,v3,v4,v5,v6,v7,v8,v9,w1,w2,w3,w4,aH,aa,ac,af,ar]at Yh⊢;obtain⟨h1,h2,h3,h4,h5,h6,h7,h8⟩:=Yh;simp only[FC.len,Nat.add_sub_cancel];refine⟨fun e=>⟨⟨by omega,by omega,fun x y x0 x1 y0 y1=>⟨h2,h4,x0,by omega,x1,y0,by omega⟩⟩,?_,?_⟩,fun ne=>?_⟩
 ·have:t.length-L.length=0:=by omega
  rw[this]at h8
  simpa using h8
 ·have e:L.length=t.length:=by omega
  rw[cj,if_pos e]
  congr 2
  rw[eE,e];rfl
 ·have ne:L.length≠t.length:=by omega
  refine⟨⟨0,⟨Nat.zero_le _,ne⟩,by trivial,by trivial,by trivial⟩,fun i ⟨hi,_⟩=>⟨fun hlt=>?_,fun hge=>?_⟩⟩
  ·have hil:i<A.length:=by omega
   have hL:iT t.length (L++[A.getD i []]):=fun r hr=>by
    rcases List.mem_append.1 hr with hr|hr
    ·exact h4 r hr
    ·rw[List.mem_singleton]at hr
     subst hr;exact h3 _ (bM A [] i hil)
   have hM:=xt (t:=t) (A:=A) (L:=L) (rec:=cj t A d) (fd:=fd) (M:=49 ^ (t.length-(L.length+1))) (fun k fd' hk=>by
    have:=xu (t:=t) h5 d (L++[A.getD k []]) fd' (by simp;omega)
    simpa using this) i hi
   have h9:49 ^ (t.length-L.length)=49*49 ^ (t.length-(L.length+1)):=by
    rw[show t.length-L.length=(t.length-(L.length+1))+1 by omega,Nat.pow_succ,Nat.mul_comm]
   have h10:(i+1)*49 ^ (t.length-(L.length+1))<=49*49 ^ (t.length-(L.length+1)):=Nat.mul_le_mul_right _ (by omega)
   have h11:(i+1)*49 ^ (t.length-(L.length+1))=i*49 ^ (t.length-(L.length+1))+49 ^ (t.length-(L.length+1)):=Nat.succ_mul _ _
   have tk:List.take L.length (L++[A.getD i []])=L:=by simp
   refine⟨⟨by omega,hlt⟩,by simp only[List.length_singleton];omega,⟨h1,h2,hL,by omega⟩,fun hf=>⟨⟨h1,h2,h3,hL,h5,by omega,by omega,by rw[Nat.zero_add];omega⟩,⟨by omega,by omega⟩,by omega,i+1,⟨by omega,ne⟩,by omega,by omega,tk,?_⟩,fun hf=>⟨⟨by omega,by omega⟩,by omega,i+1,⟨by omega,ne⟩,by omega,by omega,tk,?_⟩⟩
   ·show _=dH t A L (cj t A d) fd (i+1)
    rw[dH,if_pos hf]
   ·show _=dH t A L (cj t A d) fd (i+1)
    rw[dH,if_neg (by rw[hf];simp)]
  ·have:i=A.length:=by omega
   rw[this]
   show _=cj t A (d+1) L fd
   rw[cj,if_neg ne]
theorem Ol(t:V8)(A:V8)(L:V8)(fd:V9)(h:(mS 0 t A L fd).pre):False:=by
 simp only[mS]at h;omega
theorem Om(d:Nat):Fits Tryz.prog 133 ⟨[(0,93),(0,93)],mT d⟩:=by
 induction d with
 |zero =>
  refine D0 ⟨Tryz.f133,Tryz.func133,by kernel_rfl,by kernel_rfl⟩ fun ds p h hp=>?_
  unfold mT at h;split at h
  ·cases h
   exact Ol _ _ _ _  hp
  ·cases h
 |succ d ih =>
  refine om (Γ:=ai (FJ d)) (aw Of (aw Oi (aw o5 (aw ih aF)))) Tryz.func133 (by kernel_rfl) (by kernel_rfl) (fun ads p h=>?_) fun mas q sv ex outs h hq=>?_
  ·unfold mT at h
   split at h
   ·cases h;rfl
   ·cases h
  ·unfold mT at h
   split at h
   ·rename_i heq
    have heq:=mE (l:=[_]) heq
    subst heq;unfold mS at h;cases h;exact⟨FI,FH _ _ _ _ _ ,by rw[Oj];exact Ok _ _ _ _ _  hq⟩
   ·cases h
end Go.Sx
