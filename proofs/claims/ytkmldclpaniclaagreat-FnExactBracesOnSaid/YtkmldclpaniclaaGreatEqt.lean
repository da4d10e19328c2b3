/- Eqt -/
import Derived.Test.YtkmldclpaniclaaGreatMapD
import Derived.Test.YtkmldclpaniclaaGreatCirP
set_option linter.unusedSimpArgs false
set_option linter.unusedVariables false
open Go Go.Proofs
namespace Go.Sx
def gC(K:List (List Int))(m:List Int):Int:=if m∈K then(dM K m:Int)else -1
def qJ(K:List (List Int))(m:List Int):Post:=⟨aY K,.c (.int .i64 (gC K m)),[]⟩
def xc:List AD->Option Post
 | [.c (.rows .i64 K),.c (.ints .i64 m)]=>some (qJ K m)
 |_=>none
def EC(K:List (List Int))(m:List Int):Nat->Option Ann
 |0=>some (Ann.mk ((Nat)) (fun i=>⟨[(0,.c (.ro (.rows .i64 K))),(1,.c (.ro (.ints .i64 m))),(5,.c (.int .i64 ((i:Int))))],[]⟩) (fun i=>i<=K.length/\(∀j,j<i->K.getD j []≠m)) (fun i=>K.length-i) (fun _=>ar))
 |_=>none
def ED:List (Nat×Ctr):=[(202,⟨[],nN⟩)]
def xd(K:List (List Int))(m:List Int):Prop :=
 (∃x0:Nat,(x0<=K.length/\∀(j:Nat),j<x0->K.getD j []≠m)/\K=K/\m=m/\(0:Int)=(x0:Int))/\∀x1:Nat,(x1<=K.length/\∀(j:Nat),j<x1->K.getD j []≠m)->af (decide ((x1:Int)<(K.length:Int))) (ab (x1:Int) K.length/\(ag ((K.getD (x1:Int).toNat []).length)/\True)/\af (decide (K.getD (x1:Int).toNat []=m)) ((x1:Int)=gC K m/\True) (ae ((x1:Int)+(1:Int))/\∃x2:Nat,(x2<=K.length/\∀(j:Nat),j<x2->K.getD j []≠m)/\K.length-x2<K.length-x1/\K=K/\m=m/\(x1:Int)+(1:Int)=(x2:Int))) ((-1:Int)=gC K m/\True)
theorem M9(K:List (List Int))(m:List Int):aP Tryz.prog (ai ED) aj (EC K m) Tryz.f232 (aF Tryz.f232) [] [.c (.rows .i64 K),.c (.ints .i64 m)] (qJ K m)=xd K m:=by kernel_rfl
theorem Na(K:List (List Int))(m:List Int)(Yh:(qJ K m).pre):xd K m:=by
 simp only[qJ,xd,aK,u1,u2,u3,u4,u5,u6,u7,u8,u9,v1,v2,v3,v4,v5,v6,v7,v8,v9,w1,w2,w3,w4,aC,ab,ae,ag,av]at Yh⊢;have hk:=Yh.1
 refine⟨⟨0,⟨by omega,fun j h=>by omega⟩,rfl⟩,fun i ⟨hi,ih⟩=>⟨fun h=>⟨by omega,?_,fun q=>?_,fun q=>⟨by omega,i+1,⟨by omega,fun j hj=>?_⟩,by omega,by omega⟩⟩,fun h=>?_⟩⟩
 ·exact Yh.2 _ (bE K [] i (by omega))
 ·rw[gC,if_pos (by rw[<-q];exact bE K [] i (by omega)),n8 i ih (by omega) q]
 ·by_cases e:j=i
  ·subst e;exact q
  ·exact ih j (by omega)
 ·rw[gC,if_neg]
  intro hm
  obtain⟨q1,q2⟩:=jk hm;exact ih _ (by omega) q2
theorem Nb:Fits Tryz.prog 232 ⟨[],xc⟩:=by
 refine aW (Γ:=ai ED) (az wt aJ) Tryz.func232 fun ds p h hp=>?_
 unfold xc at h;split at h
 ·cases h
  exact⟨aj,EC _ _ ,by rw[M9];exact Na _ _  hp⟩
 ·cases h
theorem Nc{a b:List (List Int)}(hl:a.length=b.length){i:Nat}(h:i<a.length):bB (a.drop i) (b.drop i)=if a.getD i []=b.getD i []then bB (a.drop (i+1)) (b.drop (i+1))else bh (a.getD i []) (b.getD i []):=by
 rw[drop_cons' a [] i h,drop_cons' b [] i (by omega),bB]
def qK(a:List (List Int))(b:List (List Int)):Post:=⟨aY a/\aY b/\a.length=b.length,.c (.bool (bB a b)),[]⟩
def qL:List AD->Option Post
 | [.c (.r3 .i64 ([a])),.c (.r3 .i64 ([b]))]=>some (qK a b)
 |_=>none
def EE(a:List (List Int))(b:List (List Int)):Nat->Option Ann
 |0=>some (Ann.mk ((Nat)) (fun k=>⟨[(0,.c (.ro (.r3 .i64 ([a])))),(1,.c (.ro (.r3 .i64 ([b])))),(5,.c (.int .i64 ((k:Int))))],[]⟩) (fun k=>k<=1/\(k=1->bB a b=false)) (fun k=>1-k) (fun k=>fun b_=>match b_ with|2=>some (Ann.mk ((Nat)) (fun i=>⟨[(0,.c (.ro (.r3 .i64 ([a])))),(1,.c (.ro (.r3 .i64 ([b])))),(5,.c (.int .i64 ((k:Int)))),(6,.c (.int .i64 ((i:Int))))],[]⟩) (fun i=>k=0/\i<=a.length/\bB a b=bB (a.drop i) (b.drop i)) (fun i=>a.length-i) (fun _=>ar))|_=>none))
 |_=>none
def EF:List (Nat×Ctr):=[(202,⟨[],nN⟩),(203,⟨[],rQ⟩)]
def mr(a:List (List Int))(x0:Nat):=((a::([]:List (List (List Int)))).getD (↑x0:Int).toNat ([]:List (List Int)))
def xe(a:List (List Int))(b:List (List Int)):Prop :=
 ((∃x0:Nat,(x0<=(1:Nat)/\(x0=(1:Nat)->bB a b=false))/\a::([]:List (List (List Int)))=a::([]:List (List (List Int)))/\b::([]:List (List (List Int)))=b::([]:List (List (List Int)))/\(0:Int)=(x0:Int))/\(∀x1:Nat,(x1<=(1:Nat)/\(x1=(1:Nat)->bB a b=false)->(af (decide ((x1:Int)<(↑((a::([]:List (List (List Int)))).length):Int))) ((∃x2:Nat,(x1=(0:Nat)/\x2<=a.length/\bB a b=bB (List.drop x2 a) (List.drop x2 b))/\a::([]:List (List (List Int)))=a::([]:List (List (List Int)))/\b::([]:List (List (List Int)))=b::([]:List (List (List Int)))/\(x1:Int)=(x1:Int)/\(0:Int)=(x2:Int))/\(∀x3:Nat,(x1=(0:Nat)/\x3<=a.length/\bB a b=bB (List.drop x3 a) (List.drop x3 b)->(ab (x1:Int) ((a::([]:List (List (List Int)))).length)/\(af (decide ((x3:Int)<(↑(((a::([]:List (List (List Int)))).getD (x1:Int).toNat ([]:List (List Int))).length):Int))) (ab (x1:Int) ((a::([]:List (List (List Int)))).length)/\(ab (x3:Int) (mr a x1).length/\(ab (x1:Int) ((b::([]:List (List (List Int)))).length)/\(ab (x3:Int) (((b::([]:List (List (List Int)))).getD (x1:Int).toNat ([]:List (List Int))).length)/\((ag (((mr a x1).getD (x3:Int).toNat []).length)/\True) /\
 (af (!decide ((List.getD (a::([]:List (List (List Int)))) (x1:Int).toNat ([]:List (List Int))).getD (x3:Int).toNat []=(List.getD (b::([]:List (List (List Int)))) (x1:Int).toNat ([]:List (List Int))).getD (x3:Int).toNat [])) ((ab (x1:Int) ((a::([]:List (List (List Int)))).length))/\((ab (x3:Int) (mr a x1).length)/\((ab (x1:Int) ((b::([]:List (List (List Int)))).length))/\((ab (x3:Int) (((b::([]:List (List (List Int)))).getD (x1:Int).toNat ([]:List (List Int))).length))/\(((ag (((mr a x1).getD (x3:Int).toNat []).length))/\True)/\((bh ((mr a x1).getD (x3:Int).toNat []) ((List.getD (b::([]:List (List (List Int)))) (x1:Int).toNat ([]:List (List Int))).getD (x3:Int).toNat [])=bB a b)/\True)))))) ((ae ((x3:Int)+(1:Int)))/\(∃x4:Nat,(((x1=(0:Nat))/\((x4<=a.length)/\(bB a b=bB (List.drop x4 a) (List.drop x4 b))))/\((a.length-x4<a.length-x3)/\((a::([]:List (List (List Int)))=a::([]:List (List (List Int))))/\((b::([]:List (List (List Int)))=b::([]:List (List (List Int))))/\(((x1:Int)=(x1:Int))/\((x3:Int)+(1:Int)=(x4:Int))))))))))))))) ((ae ((x1:Int)+(1:Int)))/\(∃x5:Nat,(((x5<=(1:Nat))/\(x5=(1:Nat)->bB a b=false))/\(((1:Nat)-x5<(1:Nat)-x1)/\((a::([]:List (List (List Int)))=a::([]:List (List (List Int))))/\((b::([]:List (List (List Int)))=b::([]:List (List (List Int)))) /\
 ((x1:Int)+(1:Int)=(x5:Int))))))))))))) ((false=bB a b)/\True)))))
theorem Nd(a:List (List Int))(b:List (List Int)):aP Tryz.prog (ai EF) aj (EE a b) Tryz.f142 (aF Tryz.f142) [] [.c (.r3 .i64 ([a])),.c (.r3 .i64 ([b]))] (qK a b)=xe a b:=by kernel_rfl
theorem Nf(a:List (List Int))(b:List (List Int))(Yh:(qK a b).pre):xe a b:=by
 simp only[qK,xe,mr,aK,u1,u2,u3,u4,u5,u6,u7,u8,u9,v1,v2,v3,v4,v5,v6,v7,v8,v9,w1,w2,w3,w4,aC,ab,ae,ag,av]at Yh⊢;obtain⟨h1,h2,h3⟩:=Yh;have hk:=h1.1
 refine⟨⟨0,⟨by omega,fun h=>by omega⟩,rfl⟩,fun k ⟨hk,ik⟩=>⟨fun h=>⟨⟨0,⟨by omega,by omega,rfl⟩,rfl⟩,fun i ⟨e,hi,ii⟩=>?_⟩,fun h=>(ik (by omega)).symm⟩⟩
 subst e;have ea:[a].getD 0 []=a:=rfl
 have eb:[b].getD 0 []=b:=rfl
 rw[ea,eb];refine⟨by omega,fun q=>?_,fun q=>⟨by omega,1,⟨by omega,fun _=>?_⟩,by omega,by omega⟩⟩
 ·have s:=Nc h3 (i:=i) (by omega)
  have r:=h1.2 _ (bE a [] i (by omega))
  refine⟨by omega,by omega,by omega,by omega,r,fun z=>⟨by omega,by omega,by omega,by omega,r,?_⟩,fun z=>⟨by omega,i+1,⟨rfl,by omega,?_⟩,by omega,by omega⟩⟩
  ·rw[ii,s,if_neg z]
  ·rw[ii,s,if_pos z]
 ·rw[ii,List.drop_of_length_le (by omega)];simp[bB]
theorem EG:Fits Tryz.prog 142 ⟨[],qL⟩:=by
 refine aW (Γ:=ai EF) (az wt (az FL aJ)) Tryz.func142 fun ds p h hp=>?_
 unfold qL at h;split at h
 ·cases h
  exact⟨aj,EE _ _ ,by rw[Nd];exact Nf _ _  hp⟩
 ·cases h
def aa(t:List (List Int)):List (List Int):=ga [t] [t] 1000000
def qM(t:List (List Int)):Post:=⟨cd t=true,.c (.rows 62 2 .i64 (aa t)),[]⟩
def qN:List AD->Option Post
 | [.c (.rows .i64 t)]=>some (qM t)
 |_=>none
def EH:List (Nat×Ctr):=[(128,⟨[],yr⟩)]
def xf(t:List (List Int)):Prop :=
 (([(0:Int)]=[(0:Int)]/\(1:Nat)<=(t::([]:List (List (List Int)))).length/\(t::([]:List (List (List Int)))).length<=(1000:Nat)/\(t::([]:List (List (List Int)))).length=(t::([]:List (List (List Int)))).length/\(1:Nat)<=nT (t::([]:List (List (List Int))))/\nT (t::([]:List (List (List Int))))<=(12:Nat)/\bw (nT (t::([]:List (List (List Int))))) (t::([]:List (List (List Int))))/\bw (nT (t::([]:List (List (List Int))))) (t::([]:List (List (List Int))))/\(1:Int)<=(1000000:Int)/\(1000000:Int)<=(1000000:Int))/\True)/\ga (t::([]:List (List (List Int)))) (t::([]:List (List (List Int)))) (1000000:Int)=aa t/\True
theorem Ng(t:List (List Int)):aP Tryz.prog (ai EH) aj ar Tryz.f137 (aF Tryz.f137) [] [.c (.rows .i64 t)] (qM t)=xf t:=by kernel_rfl
theorem Nh(t:List (List Int))(Yh:(qM t).pre):xf t:=by
 simp only[qM,xf,aK,u1,u2,u3,u4,u5,u6,u7,u8,u9,v1,v2,v3,v4,v5,v6,v7,v8,v9,w1,w2,w3,w4,aC,ab,ae,ag,av]at Yh⊢;obtain⟨h1,h2,h3⟩:=mO Yh;have e:nT [t]=t.length:=rfl
 have T:bw (nT [t]) [t]:=fun k hk=>by
  have:k=0:=by simp at hk;omega
  subst this;refine⟨rfl,fun x hx=>⟨(h3 x hx).1,fun y hy=>?_⟩⟩
  have:=(h3 x hx).2 y hy
  have e2:en t x y=(t.getD x []).getD y 0:=rfl
  show 0<=en t x y/\en t x y<(t.length:Int)
  omega
 exact⟨⟨by omega,by omega,by omega,by omega,T,T,by omega,by omega⟩,rfl⟩
theorem EI:Fits Tryz.prog 137 ⟨[],qN⟩:=by
 refine aW (Γ:=ai EH) (az OY aJ) Tryz.func137 fun ds p h hp=>?_
 unfold qN at h;split at h
 ·cases h
  exact⟨aj,ar,by rw[Ng];exact Nh _  hp⟩
 ·cases h
theorem EJ:∀(a b:List Int),a.length=b.length->bh a b=true->∃i,i<a.length/\(∀j,j<i->a.getD j 0=b.getD j 0)/\a.getD i 0<b.getD i 0
 | [],[],_,h=>by cases h
 | [],_::_,hl,_=>by simp at hl
 |_::_,[],hl,_=>by simp at hl
 |x::a,y::b,hl,h=>by
  rw[bh]at h;by_cases e:x=y
  ·rw[if_pos e]at h
   obtain⟨i,h1,h2,h3⟩:=EJ a b (by simpa using hl) h
   refine⟨i+1,by simp;omega,fun j hj=>?_,h3⟩
   cases j with
   |zero=>exact e
   |succ j=>exact h2 j (by omega)
  ·rw[if_neg e]at h
   exact⟨0,by simp,fun j hj=>by omega,of_decide_eq_true h⟩
def cZ(n:Nat):List Int:=aM n fun i=>(i:Int)
theorem f7{p q:List Int}{i:Nat}(h:i<p.length):(aU p q).getD i 0=q.getD (p.getD i 0).toNat 0:=l8 _ _ _ _ _ h
theorem gD(p q:List Int):(aU p q).length=p.length:=by simp[aU]
theorem nR{g:List Int}(hn:g.Nodup){i j:Nat}(hi:i<g.length)(hj:j<g.length)(e:g.getD i 0=g.getD j 0):i=j:=by
 rw[bD g 0 i hi,bD g 0 j hj]at e;exact(List.getElem_inj hn).1 e
theorem Ni{n:Nat}{g:List Int}(hl:g.length=n)(hr:∀i,i<n->0<=g.getD i 0)(hn:g.Nodup):bh g (cZ n)=false:=by
 cases e:bh g (cZ n)with
 |false=>rfl
 |true =>
  exfalso
  obtain⟨i,h1,h2,h3⟩:=EJ g (cZ n) (by rw[hl,cZ,fL]) e
  have u:∀j,j<n->(cZ n).getD j 0=(j:Int):=fun j hj=>eY _ _ _ hj
  rw[u i (by omega)]at h3
  have h0:=hr i (by omega)
  have hj:=h2 (g.getD i 0).toNat (by omega)
  rw[u _ (by omega)]at hj
  have:g.getD (g.getD i 0).toNat 0=g.getD i 0:=by omega
  have:=nR hn (i:=(g.getD i 0).toNat) (j:=i) (by omega) h1 this
  omega
section
variable {n:Nat} {t:List (List Int)}
theorem EK(ht:aT n t):isoL n [t] [t] (cZ n) where
 len:=fL _ _
 rng i hi:=by rw[cZ,eY _ _ _ hi];omega
 nd:=by
  rw[cZ,aM,List.Nodup,List.pairwise_map];exact(List.nodup_range (n:=n)).imp fun {x y} h e=>h (by omega)
 ok k x y hk hx hy hv:=by
  have k0:k=0:=by simp at hk;omega
  subst k0;have hx:x<n:=by rwa[cZ,fL]at hx
  have hy:y<n:=by rwa[cZ,fL]at hy
  have e:[t].getD 0 []=t:=rfl
  rw[e]at hv⊢;have v:=(ht.2 x hx).2 y hy
  rw[cZ,eY _ _ _ hx,eY _ _ _ hy,eY _ _ _ (by omega),Int.toNat_natCast,Int.toNat_natCast,Int.toNat_of_nonneg v.1]
theorem jN(ht:aT n t){g h:List Int}(hg:isoL n [t] [t] g)(hh:isoL n [t] [t] h):isoL n [t] [t] (aU g h) where
 len:=by rw[gD];exact hg.len
 rng i hi:=by
  rw[f7 (by rw[hg.len];exact hi)]
  have:=hg.rng i hi
  exact hh.rng _ (by omega)
 nd:=by
  have G:=hg.g (fun k hk=>by have k0:k=0:=(by simp at hk;omega);subst k0;exact ht)
  have H:=hh.g (fun k hk=>by have k0:k=0:=(by simp at hk;omega);subst k0;exact ht)
  have gl:=hg.len
  rw[List.Nodup,List.pairwise_iff_getElem];intro i j hi hj hij e
  rw[gD]at hi hj;rw[<-bD _ 0 i (by rw[gD];exact hi),<-bD _ 0 j (by rw[gD];exact hj),f7 hi,f7 hj]at e
  have a:=hg.rng i (by omega)
  have b:=hg.rng j (by omega)
  have a2:=hh.rng (g.getD i 0).toNat (by omega)
  have b2:=hh.rng (g.getD j 0).toNat (by omega)
  have q:=H.inj (g.getD i 0).toNat (g.getD j 0).toNat (by omega) (by omega) (by rw[e])
  have:=G.inj i j (by omega) (by omega) q
  omega
 ok k x y hk hx hy hv:=by
  have k0:k=0:=by simp at hk;omega
  subst k0;have gl:=hg.len
  have hl:=hh.len
  rw[gD]at hx hy hv;have e:[t].getD 0 []=t:=rfl
  rw[e]at hv⊢;have v:=(ht.2 x (by omega)).2 y (by omega)
  have a:=hg.rng x (by omega)
  have b:=hg.rng y (by omega)
  rw[f7 (by omega),f7 (by omega),f7 (by omega)]
  have o1:=hg.ok 0 x y (by simp) (by omega) (by omega) (by rw[e];omega)
  rw[e]at o1;rw[o1];have w:=(ht.2 (g.getD x 0).toNat (by omega)).2 (g.getD y 0).toNat (by omega)
  have o2:=hh.ok 0 (g.getD x 0).toNat (g.getD y 0).toNat (by simp) (by omega) (by omega) (by rw[e];omega)
  rw[e]at o2;exact o2
theorem kK(ht:aT n t):bw n [t]:=fun k hk=>by
 have k0:k=0:=by simp at hk;omega
 subst k0;exact ht
theorem xg(ht:aT n t)(hn:1<=n):AuOk n (eC n [t] [t])/\(eC n [t] [t]).getD 0 []=cZ n:=by
 have T:=kK ht
 have U:cZ n∈eC n [t] [t]:=(nX T hn).2 ⟨EK ht,by rw[cZ,eY _ _ _ (by omega)];rfl⟩
 have I:∀i,i<(eC n [t] [t]).length->isoL n [t] [t] ((eC n [t] [t]).getD i [])/\((eC n [t] [t]).getD i []).getD 0 0=0:=fun i hi=>(nX T hn).1 (bE _ [] i hi)
 have P:1<=(eC n [t] [t]).length:=List.length_pos_of_mem U
 refine⟨⟨P,fun i hi=>(I i hi).1.len,fun i x hi hx=>(I i hi).1.rng x hx,fun i j hi hj=>(nX T hn).2 ⟨jN ht (I i hi).1 (I j hj).1,?_⟩⟩,?_⟩
 ·have a:=(I i hi).1.len
  rw[f7 (by omega),(I i hi).2];exact(I j hj).2
 ·obtain⟨j,hj,e⟩:=List.getElem_of_mem U
  by_cases j0:j=0
  ·subst j0;rw[bD _ [] 0 hj,e]
  ·exfalso
   have S:=List.pairwise_iff_getElem.1 (FH n [t] [t]) 0 j (by omega) hj (by omega)
   have a:=(I 0 (by omega)).1
   rw[bD _ [] 0 (by omega)]at a
   have:=Ni a.len (fun i hi=>(a.rng i hi).1) a.nd
   rw[e]at S;rw[S]at this;cases this
theorem qO(ht:aT n t)(hn:1<=n)(h:(aa t).length<=999999):aa t=eC n [t] [t]:=by
 have e:nT [t]=n:=ht.1
 have T:=kK ht
 have E:aa t=(eC n [t] [t]).take 1000000:=by
  rw[aa,ga,if_pos rfl,e];exact FG T rfl hn (by omega)
 rw[E,List.length_take]at h;rw[E,List.take_of_length_le (by omega)]
theorem mw(ht:aT n t)(hn:1<=n)(h:(aa t).length<=999999):AuOk n (aa t)/\kE (aa t) 0 0=0:=by
 rw[qO ht hn h];obtain⟨a,b⟩:=xg ht hn;refine⟨a,?_⟩
 have th:aU (cZ n) (cZ n)=cZ n:=by
  refine jc (by rw[gD]) fun i hi=>?_
  rw[gD,cZ,fL]at hi;rw[f7 (by rw[cZ,fL];exact hi),cZ,eY _ _ _ hi,Int.toNat_natCast,eY _ _ _ hi]
 have z:(0:Int).toNat=0:=rfl
 rw[kE,z,b,th];exact n8 0 (fun j hj=>by omega) (by have:=a.pos;omega) b
end
def qP(a:List Int)(b:List Int):Post:=⟨a.length<=9223372036854775807/\b.length<=9223372036854775807,.c (.bool (decide (a=b))),[]⟩
def xh:List AD->Option Post
 | [.c (.ints .i64 a),.c (.ints .i64 b)]=>some (qP a b)
 |_=>none
def EL(a:List Int)(b:List Int):Nat->Option Ann
 |0=>some (Ann.mk ((Nat)) (fun i=>⟨[(0,.c (.ro (.ints .i64 a))),(1,.c (.ro (.ints .i64 b))),(12,.c (.int .i64 ((a.length:Int)))),(13,.c (.int .i64 ((i:Int))))],[]⟩) (fun i=>i<=a.length/\a.length=b.length/\decide (a=b)=decide (a.drop i=b.drop i)) (fun i=>a.length-i) (fun _=>ar))
 |_=>none
def EM:List (Nat×Ctr):=[]
def xi(a:List Int)(b:List Int):Prop :=
 af ((a.length:Int) != (b.length:Int)) (false=decide (a=b)/\True) ((∃x0:Nat,(x0<=a.length/\a.length=b.length/\decide (a=b)=decide (List.drop x0 a=List.drop x0 b))/\a=a/\b=b/\(a.length:Int)=(a.length:Int)/\(0:Int)=(x0:Int))/\∀x1:Nat,x1<=a.length/\a.length=b.length/\decide (a=b)=decide (List.drop x1 a=List.drop x1 b)->af (decide ((x1:Int)<(a.length:Int))) (ab (x1:Int) a.length/\ab (x1:Int) b.length/\af (a.getD (x1:Int).toNat (0:Int) != b.getD (x1:Int).toNat (0:Int)) (false=decide (a=b)/\True) (ae ((x1:Int)+(1:Int))/\∃x2:Nat,(x2<=a.length/\a.length=b.length/\decide (a=b)=decide (List.drop x2 a=List.drop x2 b))/\a.length-x2<a.length-x1/\a=a/\b=b/\(a.length:Int)=(a.length:Int)/\(x1:Int)+(1:Int)=(x2:Int))) (true=decide (a=b)/\True))
theorem Nj(a:List Int)(b:List Int):aP Tryz.prog (ai EM) aj (EL a b) Tryz.f92 (aF Tryz.f92) [] [.c (.ints .i64 a),.c (.ints .i64 b)] (qP a b)=xi a b:=by kernel_rfl
theorem Nk(a:List Int)(b:List Int)(Yh:(qP a b).pre):xi a b:=by
 simp only[qP,xi,aK,u1,u2,u3,u4,u5,u6,u7,u8,u9,v1,v2,v3,v4,v5,v6,v7,v8,v9,w1,w2,w3,w4,aC,ab,ae,ag,av]at Yh⊢;refine⟨fun h=>?_,fun h=>⟨⟨0,⟨by omega,by omega,rfl⟩,rfl⟩,fun i ⟨hi,hl,he⟩=>⟨fun h2=>?_,fun h2=>?_⟩⟩⟩
 ·exact(decide_eq_false fun e=>h (by rw[e])).symm
 ·have ea:=drop_cons' a 0 i (by omega)
  have eb:=drop_cons' b 0 i (by omega)
  refine⟨by omega,by omega,fun h3=>?_,fun h3=>⟨by omega,i+1,⟨by omega,hl,?_⟩,by omega,by omega⟩⟩
  ·rw[he,ea,eb]
   exact(decide_eq_false fun e=>h3 (by injection e)).symm
  ·rw[he,ea,eb,h3]
   simp
 ·rw[he,List.drop_eq_nil_of_le (by omega),List.drop_eq_nil_of_le (by omega)];rfl
theorem Nl:Fits Tryz.prog 92 ⟨[],xh⟩:=by
 refine aW (Γ:=ai EM) aJ Tryz.func92 fun ds p h hp=>?_
 unfold xh at h;split at h
 ·cases h
  exact⟨aj,EL _ _ ,by rw[Nj];exact Nk _ _  hp⟩
 ·cases h
def qQ(p:List Int)(q:List Int):Post:=⟨p.length<=1000/\iG q.length p,.c (.ints 2 .i64 (aU p q)),[]⟩
def xj:List AD->Option Post
 | [.c (.ints .i64 p),.c (.ints .i64 q)]=>some (qQ p q)
 |_=>none
def EN(p:List Int)(q:List Int):Nat->Option Ann
 |0=>some (Ann.mk ((Nat)) (fun i=>⟨[(0,.c (.ro (.ints .i64 p))),(1,.c (.ro (.ints .i64 q))),(5,.c (.own 10)),(11,.c (.ro (.ints .i64 p))),(12,.c (.int .i64 ((p.length:Int)))),(13,.c (.int .i64 ((i:Int))))],[(10,some (.ints 2 .i64 ((aU p q).take i++List.replicate ((aU p q).length-i) 0)))]⟩) (fun i=>i<=p.length) (fun i=>p.length-i) (fun _=>ar))
 |_=>none
def EO:List (Nat×Ctr):=[]
def xk(p:List Int)(q:List Int):Prop :=
 ((0:Int)<=(p.length:Int)/\(p.length:Int)<=(p.length:Int)/\ag ((p.length:Int).toNat))/\(∃x0:Nat,x0<=p.length/\p=p/\q=q/\p=p/\(p.length:Int)=(p.length:Int)/\(0:Int)=(x0:Int)/\List.replicate ((p.length:Int).toNat) (0:Int)=List.take x0 (aU p q)++List.replicate ((aU p q).length-x0) (0:Int))/\∀x1:Nat,x1<=p.length->af (decide ((x1:Int)<(p.length:Int))) (ab (x1:Int) p.length/\ab (p.getD (x1:Int).toNat (0:Int)) q.length/\ab (x1:Int) ((List.take x1 (aU p q)++List.replicate ((aU p q).length-x1) (0:Int)).length)/\ae ((x1:Int)+(1:Int))/\∃x2:Nat,x2<=p.length/\p.length-x2<p.length-x1/\p=p/\q=q/\p=p/\(p.length:Int)=(p.length:Int)/\(x1:Int)+(1:Int)=(x2:Int)/\List.set (List.take x1 (aU p q)++List.replicate ((aU p q).length-x1) (0:Int)) (x1:Int).toNat (q.getD ((p.getD (x1:Int).toNat (0:Int)).toNat) (0:Int))=List.take x2 (aU p q)++List.replicate ((aU p q).length-x2) (0:Int)) (List.take x1 (aU p q)++List.replicate ((aU p q).length-x1) (0:Int)=aU p q/\True)
theorem Nm(p:List Int)(q:List Int):aP Tryz.prog (ai EO) aj (EN p q) Tryz.f88 (aF Tryz.f88) [] [.c (.ints .i64 p),.c (.ints .i64 q)] (qQ p q)=xk p q:=by kernel_rfl
theorem Nn(p:List Int)(q:List Int)(Yh:(qQ p q).pre):xk p q:=by
 simp only[qQ,xk,aK,u1,u2,u3,u4,u5,u6,u7,u8,u9,v1,v2,v3,v4,v5,v6,v7,v8,v9,w1,w2,w3,w4,aC,ab,ae,ag,av]at Yh⊢;obtain⟨h1,h3⟩:=Yh;have hl:=gD p q
 refine⟨by omega,⟨0,by omega,rfl,T5 _ _ _ hl⟩,fun i hi=>⟨fun h=>?_,fun h=>?_⟩⟩
 ·have hr:=h3 i (by omega)
  refine⟨by omega,by omega,by omega,by omega,i+1,by omega,by omega,by omega,?_⟩
  rw[<-po (aU p q) 0 0 i (by omega),f7 (by omega)]
 ·exact Cz _ _ _ (by omega)
theorem No:Fits Tryz.prog 88 ⟨[],xj⟩:=by
 refine aW (Γ:=ai EO) aJ Tryz.func88 fun ds p h hp=>?_
 unfold xj at h;split at h
 ·cases h
  exact⟨aj,EN _ _ ,by rw[Nm];exact Nn _ _  hp⟩
 ·cases h
end Go.Sx
