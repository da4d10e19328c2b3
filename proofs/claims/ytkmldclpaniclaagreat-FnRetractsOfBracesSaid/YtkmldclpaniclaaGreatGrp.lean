/- Grp -/
import Derived.Test.YtkmldclpaniclaaGreatOwn2
import Derived.Test.YtkmldclpaniclaaGreatCirP
import Derived.Test.YtkmldclpaniclaaGreatTable
import Derived.Test.YtkmldclpaniclaaGreatMapQ
set_option linter.unusedSimpArgs false
set_option linter.unusedVariables false
set_option linter.defProp false
open Go Go.Proofs
namespace Go.Sx
def fW(K:Dc)(m:Db):Int:=if m∈K then(f6 K m:Int)else -1
def sU:List AD->Option Post
 | [.c (.rows .i64 K),.c (.ints .i64 m)]=>some ⟨aD K,.c (.int .i64 (fW K m)),[]⟩
 |_=>none
def KB(K:Dc)(m:Db):Nat->Option Ann
 |0=>U' fun i=>⟨⟨[(0,I' K),(1,G' m),(5,D' i)],[]⟩,(i<=K.length/\(∀j,j<i->K.getD j []≠m)),K.length-i⟩
 |_=>none
theorem KD:Fits Tryz.prog 232 ⟨[],sU⟩:=by
 refine ffv (Γ:=af [(202,⟨[],n9⟩)]) (aj sS aG) Tryz.func232 fun ds p h ξ=>?_
 unfold sU at h;split at h<;>cases h
 rename_i K m
 refine⟨ah,KB K m,(∃x0:Nat,(x0<=K.length/\∀(j:Nat),j<x0->K.getD j []≠m)/\K=K/\m=m/\(0:Int)=(x0:Int))/\∀x1:Nat,(x1<=K.length/\∀(j:Nat),j<x1->K.getD j []≠m)->ab (decide ((x1:Int)<(K.length:Int))) (aa (x1:Int) K.length/\(ar ((K.getD (x1:Int).toNat []).length)/\True)/\ab (decide (K.getD (x1:Int).toNat []=m)) ((x1:Int)=fW K m/\True) (ae ((x1:Int)+(1:Int))/\∃x2:Nat,(x2<=K.length/\∀(j:Nat),j<x2->K.getD j []≠m)/\K.length-x2<K.length-x1/\K=K/\m=m/\(x1:Int)+(1:Int)=(x2:Int))) ((-1:Int)=fW K m/\True),by kernel_rfl,?_⟩
 simp only[aH]at ξ⊢;have hk:=ξ.1
 refine⟨⟨0,⟨by omega,fun j h=>by omega⟩,rfl⟩,fun i ⟨hi,ih⟩=>⟨fun h=>⟨by omega,?_,fun q=>?_,fun q=>⟨by omega,i+1,⟨by omega,fun j hj=>?_⟩,by omega,by omega⟩⟩,fun h=>?_⟩⟩
 ·exact ξ.2 _ (cU K [] i (by omega))
 ·rw[fW,AA (by rw[<-q];exact cU K [] i (by omega)),p7 i ih (by omega) q]
 ·by_cases e:j=i
  ·subst e;exact q
  ·exact ih j (by omega)
 ·rw[fW,AB]
  intro hm
  obtain⟨q1,q2⟩:=p6 hm;exact ih _ (by omega) q2
theorem Tq{a b:Dc}(hl:a.length=b.length){i:Nat}(h:i<a.length):dj (a.drop i) (b.drop i)=if a.getD i []=b.getD i []then dj (a.drop (i+1)) (b.drop (i+1))else bj (a.getD i []) (b.getD i []):=by
 rw[drop_cons' a [] i h,drop_cons' b [] i (by omega),dj]
def zz:List AD->Option Post
 | [.c (.r3 .i64 ([a])),.c (.r3 .i64 ([b]))]=>some ⟨aD a/\aD b/\a.length=b.length,.c (.bool (dj a b)),[]⟩
 |_=>none
def KF(a:Dc)(b:Dc):Nat->Option Ann
 |0=>V' (fun k=>⟨⟨[(0,J' ([a])),(1,J' ([b])),(5,D' k)],[]⟩,k<=1/\(k=1->dj a b=false),1-k⟩) (fun k b_=>match b_ with|2=>U' fun i=>⟨⟨[(0,J' ([a])),(1,J' ([b])),(5,D' k),(6,D' i)],[]⟩,k=0/\i<=a.length/\dj a b=dj (a.drop i) (b.drop i),a.length-i⟩|_=>none)
 |_=>none
def oa(a:Dc)(x0:Nat):=((a::([]:Dd)).getD (↑x0:Int).toNat ([]:Dc))
theorem Tu:Fits Tryz.prog 142 ⟨[],zz⟩:=by
 refine ffv (Γ:=af [(202,⟨[],n9⟩),(203,⟨[],pW⟩)]) (aj sS (aj D5 aG)) Tryz.func142 fun ds p h ξ=>?_
 unfold zz at h;split at h<;>cases h
 rename_i a b
 refine⟨ah,KF a b,(∃x0:Nat,(x0<=(1:Nat)/\(x0=(1:Nat)->dj a b=false))/\a::([]:Dd)=a::([]:Dd)/\b::([]:Dd)=b::([]:Dd)/\(0:Int)=(x0:Int))/\∀x1:Nat,x1<=(1:Nat)/\(x1=(1:Nat)->dj a b=false)->ab (decide ((x1:Int)<(↑((a::([]:Dd)).length):Int))) ((∃x2:Nat,(x1=(0:Nat)/\x2<=a.length/\dj a b=dj (List.drop x2 a) (List.drop x2 b))/\a::([]:Dd)=a::([]:Dd)/\b::([]:Dd)=b::([]:Dd)/\(x1:Int)=(x1:Int)/\(0:Int)=(x2:Int))/\∀x3:Nat,x1=(0:Nat)/\x3<=a.length/\dj a b=dj (List.drop x3 a) (List.drop x3 b)->aa (x1:Int) ((a::([]:Dd)).length)/\ab (decide ((x3:Int)<(↑(((a::([]:Dd)).getD (x1:Int).toNat ([]:Dc)).length):Int))) (aa (x1:Int) ((a::([]:Dd)).length)/\aa (x3:Int) (oa a x1).length/\aa (x1:Int) ((b::([]:Dd)).length)/\aa (x3:Int) (((b::([]:Dd)).getD (x1:Int).toNat ([]:Dc)).length)/\(ar (((oa a x1).getD (x3:Int).toNat []).length)/\True)/\ab (!decide ((List.getD (a::([]:Dd)) (x1:Int).toNat ([]:Dc)).getD (x3:Int).toNat []=(List.getD (b::([]:Dd)) (x1:Int).toNat ([]:Dc)).getD (x3:Int).toNat [])) (aa (x1:Int) ((a::([]:Dd)).length)/\aa (x3:Int) (oa a x1).length/\aa (x1:Int) ((b::([]:Dd)).length)/\aa (x3:Int) (((b::([]:Dd)).getD (x1:Int).toNat ([]:Dc)).length)/\(ar (((oa a x1).getD (x3:Int).toNat []).length)/\True)/\bj ((oa a x1).getD (x3:Int).toNat []) ((List.getD (b::([]:Dd)) (x1:Int).toNat ([]:Dc)).getD (x3:Int).toNat [])=dj a b/\True) (ae ((x3:Int)+(1:Int))/\∃x4:Nat,(x1=(0:Nat)/\x4<=a.length/\dj a b=dj (List.drop x4 a) (List.drop x4 b))/\a.length-x4<a.length-x3/\a::([]:Dd)=a::([]:Dd)/\b::([]:Dd)=b::([]:Dd)/\(x1:Int)=(x1:Int)/\(x3:Int)+(1:Int)=(x4:Int))) (ae ((x1:Int)+(1:Int))/\∃x5:Nat,(x5<=(1:Nat)/\(x5=(1:Nat)->dj a b=false))/\(1:Nat)-x5<(1:Nat)-x1/\a::([]:Dd)=a::([]:Dd)/\b::([]:Dd)=b::([]:Dd)/\(x1:Int)+(1:Int)=(x5:Int))) (false=dj a b/\True),by kernel_rfl,?_⟩
 simp only[oa,aH]at ξ⊢;obtain⟨h1,h2,h3⟩:=ξ;have hk:=h1.1
 refine⟨⟨0,⟨by omega,fun h=>by omega⟩,rfl⟩,fun k ⟨hk,ik⟩=>⟨fun h=>⟨⟨0,⟨by omega,by omega,rfl⟩,rfl⟩,fun i ⟨e,hi,ii⟩=>?_⟩,fun h=>(ik (by omega)).symm⟩⟩
 subst e;have ea:[a].getD 0 []=a:=rfl
 have eb:[b].getD 0 []=b:=rfl
 rw[ea,eb];refine⟨by omega,fun q=>?_,fun q=>⟨by omega,1,⟨by omega,fun _=>?_⟩,by omega,by omega⟩⟩
 ·have s:=Tq h3 (i:=i) (by omega)
  have r:=h1.2 _ (cU a [] i (by omega))
  refine⟨by omega,by omega,by omega,by omega,r,fun z=>⟨by omega,by omega,by omega,by omega,r,?_⟩,fun z=>⟨by omega,i+1,⟨rfl,by omega,?_⟩,by omega,by omega⟩⟩
  ·rw[ii,s,AB z]
  ·rw[ii,s,AA z]
 ·rw[ii,A4 (by omega)];simp[dj]
def cJ(t:Dc):Dc:=g5 [t] [t] 1000000
def zB:List AD->Option Post
 | [.c (.rows .i64 t)]=>some ⟨aM t=true,.c (.rows 62 2 .i64 (cJ t)),[]⟩
 |_=>none
theorem Tx:Fits Tryz.prog 137 ⟨[],zB⟩:=by
 refine ffv (Γ:=af [(128,⟨[],ET⟩)]) (aj V5 aG) Tryz.func137 fun ds p h ξ=>?_
 unfold zB at h;split at h<;>cases h
 rename_i t
 refine⟨ah,ak,(([(0:Int)]=[(0:Int)]/\(1:Nat)<=(t::([]:Dd)).length/\(t::([]:Dd)).length<=(1000:Nat)/\(t::([]:Dd)).length=(t::([]:Dd)).length/\(1:Nat)<=nT (t::([]:Dd))/\nT (t::([]:Dd))<=(12:Nat)/\bN (nT (t::([]:Dd))) (t::([]:Dd))/\bN (nT (t::([]:Dd))) (t::([]:Dd))/\(1:Int)<=(1000000:Int)/\(1000000:Int)<=(1000000:Int))/\True)/\g5 (t::([]:Dd)) (t::([]:Dd)) (1000000:Int)=cJ t/\True,by kernel_rfl,?_⟩
 simp only[aH]at ξ⊢;obtain⟨h1,h2,h3⟩:=bT ξ;have e:nT [t]=t.length:=rfl
 have T:bN (nT [t]) [t]:=fun k hk=>by
  have:k=0:=by simp at hk;omega
  subst this;refine⟨rfl,fun x hx=>⟨(h3 x hx).1,fun y hy=>?_⟩⟩
  have:=(h3 x hx).2 y hy
  have e2:en t x y=(t.getD x []).getD y 0:=rfl
  show 0<=en t x y/\en t x y<(t.length:Int)
  omega
 exact⟨⟨by omega,by omega,by omega,by omega,T,T,by omega,by omega⟩,rfl⟩
theorem KI:∀(a b:Db),a.length=b.length->bj a b=true->∃i,i<a.length/\(∀j,j<i->a.getD j 0=b.getD j 0)/\a.getD i 0<b.getD i 0
 | [],[],_,h=>by cases h
 | [],_::_,hl,_=>by simp at hl
 |_::_,[],hl,_=>by simp at hl
 |x::a,y::b,hl,h=>by
  rw[bj]at h;by_cases e:x=y
  ·rw[AA e]at h
   obtain⟨i,h1,h2,h3⟩:=KI a b (by simpa using hl) h
   refine⟨i+1,by simp;omega,fun j hj=>?_,h3⟩
   cases j with
   |zero=>exact e
   |succ j=>exact h2 j (by omega)
  ·rw[AB e]at h
   exact⟨0,by simp,fun j hj=>by omega,BS h⟩
def eN(n:Nat):Db:=ap n fun i=>(i:Int)
theorem lw{p q:Db}{i:Nat}(h:i<p.length):(bA p q).getD i 0=q.getD (p.getD i 0).toNat 0:=rS _ _ _ _ _ h
theorem mo(p q:Db):(bA p q).length=p.length:=by simp[bA]
theorem Ty{g:Db}(hn:g.Nodup){i j:Nat}(hi:i<g.length)(hj:j<g.length)(e:g.getD i 0=g.getD j 0):i=j:=by
 rw[cg g 0 i hi,cg g 0 j hj]at e;exact(Cm hn).1 e
theorem Tz{n:Nat}{g:Db}(hl:g.length=n)(hr:∀i,i<n->0<=g.getD i 0)(hn:g.Nodup):bj g (eN n)=false:=by
 cases e:bj g (eN n)with
 |false=>rfl
 |true =>
  exfalso
  obtain⟨i,h1,h2,h3⟩:=KI g (eN n) (by rw[hl,eN,bK]) e
  have u:∀j,j<n->(eN n).getD j 0=(j:Int):=fun j hj=>cj _ _ _ hj
  rw[u i (by omega)]at h3
  have h0:=hr i (by omega)
  have hj:=h2 (g.getD i 0).toNat (by omega)
  rw[u _ (by omega)]at hj
  have:g.getD (g.getD i 0).toNat 0=g.getD i 0:=by omega
  have:=Ty hn (i:=(g.getD i 0).toNat) (j:=i) (by omega) h1 this
  omega
section
variable {n:Nat} {t:Dc}
theorem TA(ht:ba n t):isoL n [t] [t] (eN n) where
 len:=bK _ _
 rng i hi:=by rw[eN,cj _ _ _ hi];omega
 nd:=by
  rw[eN,ap,List.Nodup,Cn];exact(Bt (n:=n)).imp fun {x y} h e=>h (by omega)
 ok k x y hk hx hy hv:=by
  have k0:k=0:=by simp at hk;omega
  subst k0;have hx:x<n:=by rwa[eN,bK]at hx
  have hy:y<n:=by rwa[eN,bK]at hy
  have e:[t].getD 0 []=t:=rfl
  rw[e]at hv⊢;have v:=(ht.2 x hx).2 y hy
  rw[eN,cj _ _ _ hx,cj _ _ _ hy,cj _ _ _ (by omega),AP,AP,CR v.1]
theorem TB(ht:ba n t){g h:Db}(hg:isoL n [t] [t] g)(hh:isoL n [t] [t] h):isoL n [t] [t] (bA g h) where
 len:=by rw[mo];exact hg.len
 rng i hi:=by
  rw[lw (by rw[hg.len];exact hi)]
  have:=hg.rng i hi
  exact hh.rng _ (by omega)
 nd:=by
  have G:=hg.g (fun k hk=>by have k0:k=0:=(by simp at hk;omega);subst k0;exact ht)
  have H:=hh.g (fun k hk=>by have k0:k=0:=(by simp at hk;omega);subst k0;exact ht)
  have gl:=hg.len
  rw[List.Nodup,Bu];intro i j hi hj hij e
  rw[mo]at hi hj;rw[<-cg _ 0 i (by rw[mo];exact hi),<-cg _ 0 j (by rw[mo];exact hj),lw hi,lw hj]at e
  have a:=hg.rng i (by omega)
  have b:=hg.rng j (by omega)
  have a2:=hh.rng (g.getD i 0).toNat (by omega)
  have b2:=hh.rng (g.getD j 0).toNat (by omega)
  have q:=H.inj (g.getD i 0).toNat (g.getD j 0).toNat (by omega) (by omega) (by rw[e])
  have:=G.inj i j (by omega) (by omega) q
  omega
 ok k x y hk hx hy hv:=by
  have k0:k=0:=by simp at hk;omega
  subst k0;have gl:=hg.len
  have hl:=hh.len
  rw[mo]at hx hy hv;have e:[t].getD 0 []=t:=rfl
  rw[e]at hv⊢;have v:=(ht.2 x (by omega)).2 y (by omega)
  have a:=hg.rng x (by omega)
  have b:=hg.rng y (by omega)
  rw[lw (by omega),lw (by omega),lw (by omega)]
  have o1:=hg.ok 0 x y (by simp) (by omega) (by omega) (by rw[e];omega)
  rw[e]at o1;rw[o1];have w:=(ht.2 (g.getD x 0).toNat (by omega)).2 (g.getD y 0).toNat (by omega)
  have o2:=hh.ok 0 (g.getD x 0).toNat (g.getD y 0).toNat (by simp) (by omega) (by omega) (by rw[e];omega)
  rw[e]at o2;exact o2
theorem zD(ht:ba n t):bN n [t]:=fun k hk=>by
 have k0:k=0:=by simp at hk;omega
 subst k0;exact ht
theorem TC(ht:ba n t)(hn:1<=n):AuOk n (ff n [t] [t])/\(ff n [t] [t]).getD 0 []=eN n:=by
 have T:=zD ht
 have U:eN n∈ff n [t] [t]:=(Dy T hn).2 ⟨TA ht,by rw[eN,cj _ _ _ (by omega)];rfl⟩
 have I:∀i,i<(ff n [t] [t]).length->isoL n [t] [t] ((ff n [t] [t]).getD i [])/\((ff n [t] [t]).getD i []).getD 0 0=0:=fun i hi=>(Dy T hn).1 (cU _ [] i hi)
 have P:1<=(ff n [t] [t]).length:=CT U
 refine⟨⟨P,fun i hi=>(I i hi).1.len,fun i x hi hx=>(I i hi).1.rng x hx,fun i j hi hj=>(Dy T hn).2 ⟨TB ht (I i hi).1 (I j hj).1,?_⟩⟩,?_⟩
 ·have a:=(I i hi).1.len
  rw[lw (by omega),(I i hi).2];exact(I j hj).2
 ·obtain⟨j,hj,e⟩:=Ay U
  by_cases j0:j=0
  ·subst j0;rw[cg _ [] 0 hj,e]
  ·exfalso
   have S:=Bu.1 (UO n [t] [t]) 0 j (by omega) hj (by omega)
   have a:=(I 0 (by omega)).1
   rw[cg _ [] 0 (by omega)]at a
   have:=Tz a.len (fun i hi=>(a.rng i hi).1) a.nd
   rw[e]at S;rw[S]at this;cases this
theorem TD(ht:ba n t)(hn:1<=n)(h:(cJ t).length<=999999):cJ t=ff n [t] [t]:=by
 have e:nT [t]=n:=ht.1
 have T:=zD ht
 have E:cJ t=(ff n [t] [t]).take 1000000:=by
  rw[cJ,g5,AA rfl,e];exact LJ T rfl hn (by omega)
 rw[E,AS]at h;rw[E,AU (by omega)]
theorem TE(ht:ba n t)(hn:1<=n)(h:(cJ t).length<=999999):AuOk n (cJ t)/\ja (cJ t) 0 0=0:=by
 rw[TD ht hn h];obtain⟨a,b⟩:=TC ht hn;refine⟨a,?_⟩
 have th:bA (eN n) (eN n)=eN n:=by
  refine Rm (by rw[mo]) fun i hi=>?_
  rw[mo,eN,bK]at hi;rw[lw (by rw[eN,bK];exact hi),eN,cj _ _ _ hi,AP,cj _ _ _ hi]
 have z:(0:Int).toNat=0:=rfl
 rw[ja,z,b,th];exact p7 0 (fun j hj=>by omega) (by have:=a.pos;omega) b
end
def bitB(s:Int)(x:Nat):Bool:=s.toNat.testBit x
theorem zE{s:Int}(h:0<=s)(k:Nat):s / 2 ^ k=((s.toNat / 2 ^ k:Nat):Int):=by
 obtain⟨m,rfl⟩:∃m:Nat,s=(m:Int):=⟨s.toNat,by omega⟩
 rw[AP,Int.natCast_ediv,Bv];rfl
theorem KJ{s:Int}(h:0<=s)(k:Nat):((((s / 2 ^ k).toNat &&& 1:Nat):Int)=1)↔bitB s k=true:=by
 rw[zE h,AP,Nat.and_one_is_mod,bitB,Nat.testBit_eq_decide_div_mod_eq,decide_eq_true_iff];omega
theorem KK{s:Int}(h:0<=s)(k:Nat):((((s / 2 ^ k).toNat &&& Int.toNat 1:Nat):Int)=1)↔bitB s k=true:=KJ h k
theorem TF{s:Int}(h:0<=s)(k:Nat):((((s / 2 ^ k).toNat &&& Int.toNat 1:Nat):Int)≠1)↔bitB s k=false:=by
 rw[ne_eq,KK h,CU]
theorem KM{a:Int}(h:0<=a/\a<=9223372036854775807):IntKind.u64.wrap a=a:=by
 show a % 18446744073709551616=a
 exact Co h.1 (by omega)
theorem KN{s:Int}(h:0<=s)(k:Nat)(hs:s<=9223372036854775807):0<=s / 2 ^ k/\s / 2 ^ k<=9223372036854775807:=by
 rw[zE h];have h1:=BW (s.toNat / 2 ^ k)
 have h2:((s.toNat / 2 ^ k:Nat):Int)<=(s.toNat:Int):=Int.ofNat_le.2 (Nat.div_le_self s.toNat (2 ^ k))
 exact⟨h1,by omega⟩
theorem KO{s:Int}(h:0<=s)(k:Nat):0<s / 2 ^ k↔2 ^ k<=s.toNat:=by
 rw[zE h];have:0<s.toNat / 2 ^ k↔2 ^ k<=s.toNat:=Nat.div_pos_iff.trans ⟨fun h=>h.2,fun h=>⟨Nat.two_pow_pos k,h⟩⟩
 omega
def ag(s:Int)(k:Nat):Db:=((List.range k).filter (bitB s)).map fun i:Nat=>(i:Int)
theorem sX(s:Int)(k:Nat):ag s (k+1)=if bitB s k=true then ag s k++[(k:Int)]else ag s k:=by
 simp only[ag,BR,List.filter_append,List.filter_cons,List.filter_nil];split<;>simp
theorem KP{s:Int}{k:Nat}(h:s.toNat<2 ^ k){m:Nat}(hm:k<=m):bitB s m=false :=
 Nat.testBit_lt_two_pow (Nat.lt_of_lt_of_le h (Bh (by omega) hm))
theorem sY{s:Int}{k:Nat}(h:s.toNat<2 ^ k):∀j,ag s (k+j)=ag s k
 |0=>rfl
 |j+1=>by rw[<-A0,sX,KP h (by omega),AB (by decide),sY h j]
theorem TG(s:Int)(k:Nat)(f:Int->Bool):(ag s k).all f=(List.range k).all fun x=>!bitB s x||f (x:Int):=by
 simp[ag,List.all_map,List.all_filter,Function.comp_def]
theorem pK(s:Int)(k:Nat):(ag s k).length<=k:=by
 have:=List.length_filter_le (bitB s) (List.range k)
 simpa[ag]using this
theorem TH(s:Int)(k:Nat):∀x∈ag s k,0<=x/\x<(k:Int):=fun x hx=>by
 simp only[ag,AT,BH,AW]at hx;obtain⟨a,⟨ha,_⟩,rfl⟩:=hx;omega
def iD(p:Nat->Bool):Nat->Nat
 |0=>0
 |i+1=>if p i=true then iD p i ||| 2 ^ i else iD p i
theorem zF(p:Nat->Bool):∀i,iD p i<2 ^ i
 |0=>by simp[iD]
 |i+1=>by
  have h:=zF p i
  have h2:iD p i<2 ^ (i+1):=by rw[Bg];omega
  simp only[iD];split
  ·exact Nat.or_lt_two_pow h2 (by rw[Bg];have:=Nat.two_pow_pos i;omega)
  ·exact h2
theorem mq(f:Nat->Bool){i N:Nat}(h:i<N):(List.range' i (N-i)).all f=(f i&&(List.range' (i+1) (N-(i+1))).all f):=by
 rw[show N-i=(N-(i+1))+1 by omega,Cp];rfl
theorem mr(f:Nat->Bool){i N:Nat}(h:N<=i):(List.range' i (N-i)).all f=true:=by
 rw[show N-i=0 by omega];rfl
theorem mw(f:Nat->Bool)(N:Nat):(List.range N).all f=(List.range' 0 (N-0)).all f:=by
 rw[Cq,CV]
def oc:List AD->Option Post
 | [.c (.int .i64 s),.c (.int .i64 x)]=>some ⟨0<=s/\s<=9223372036854775807/\0<=x/\x<=62,.c (.bool (bitB s x.toNat)),[]⟩
 |_=>none
theorem s8:Fits Tryz.prog 166 ⟨[],oc⟩:=by
 refine ffv (Γ:=af []) aG Tryz.func166 fun ds p h ξ=>?_
 unfold oc at h;split at h<;>cases h
 rename_i s x
 refine⟨ah,ak,((0:Int)<=x/\x<=(62:Int))/\(IntKind.i64=IntKind.i64/\((0:Int)<=s / (2:Int) ^ x.toNat/\s / (2:Int) ^ x.toNat<=(9223372036854775807:Int))/\(0:Int)<=(1:Int)/\(1:Int)<=(9223372036854775807:Int))/\((↑((s / (2:Int) ^ x.toNat).toNat &&& (1:Int).toNat):Int) == (1:Int))=bitB s x.toNat/\True,by kernel_rfl,?_⟩
 simp only[aH]at ξ⊢;obtain⟨h0,h1,h2,h3⟩:=ξ;refine⟨by omega,⟨KN h0 _ h1,by omega,by omega⟩,?_⟩
 rw[Bf,beq_iff_eq];exact KJ h0 _
def oe:List AD->Option Post
 | [.c (.int .i64 s)]=>some ⟨0<=s/\s<4096,.c (.ints 2 .i64 (ag s 12)),[]⟩
 |_=>none
def KT(s:Int):Nat->Option Ann
 |0=>U' fun i=>⟨⟨[(0,D' s),(3,M' 3),(4,D' i)],[(3,Q' (ag s i))]⟩,i<=12,12-i⟩
 |_=>none
theorem td:Fits Tryz.prog 153 ⟨[],oe⟩:=by
 refine ffv (Γ:=af [(166,⟨[],oc⟩)]) (aj s8 aG) Tryz.func153 fun ds p h ξ=>?_
 unfold oe at h;split at h<;>cases h
 rename_i s
 refine⟨ah,KT s,(∃x0:Nat,x0<=(12:Nat)/\s=s/\(0:Int)=(x0:Int)/\ag s x0=[])/\∀x1:Nat,x1<=(12:Nat)->((0:Int)<=(x1:Int)/\(x1:Int)<=(62:Int))/\ab (decide ((0:Int)<s / (2:Int) ^ (x1:Int).toNat)) ((((0:Int)<=s/\s<=(9223372036854775807:Int)/\(0:Int)<=(x1:Int)/\(x1:Int)<=(62:Int))/\True)/\ab (bitB s (x1:Int).toNat) (ar ((ag s x1).length+[(x1:Int)].length)/\ae ((x1:Int)+(1:Int))/\∃x2:Nat,x2<=(12:Nat)/\(12:Nat)-x2<(12:Nat)-x1/\s=s/\(x1:Int)+(1:Int)=(x2:Int)/\ag s x1++[(x1:Int)]=ag s x2) (ae ((x1:Int)+(1:Int))/\∃x3:Nat,x3<=(12:Nat)/\(12:Nat)-x3<(12:Nat)-x1/\s=s/\(x1:Int)+(1:Int)=(x3:Int)/\ag s x1=ag s x3)) (ag s x1=ag s (12:Nat)/\True),by kernel_rfl,?_⟩
 simp only[aH]at ξ⊢;obtain⟨h0,h1⟩:=ξ;refine⟨⟨0,by omega,rfl,rfl⟩,fun i hi=>⟨by omega,fun h=>?_,fun h=>?_⟩⟩
 ·have hp:=(KO h0 i).1 h
  have hi2:i<12:=by
   rcases Nat.lt_or_ge i 12 with h|h
   ·exact h
   ·have e:i=12:=by omega
    subst e;omega
  have hl:=pK s i
  refine⟨by omega,fun hb=>⟨by omega,by omega,i+1,by omega,by omega,by omega,by rw[sX,AA hb]⟩,fun hb=>⟨by omega,i+1,by omega,by omega,by omega,by rw[sX,AB (by rw[hb];decide)]⟩⟩
 ·have hp:s.toNat<2 ^ i:=by
   rcases Nat.lt_or_ge s.toNat (2 ^ i)with h2|h2
   ·exact h2
   ·exact absurd ((KO h0 i).2 h2) h
  have:=sY hp (12-i)
  rwa[show i+(12-i)=12 by omega,eq_comm]at this
theorem te{α:Type}{n:Nat}{q:Nat->Option α}{r:α}:∀{k:Nat},cb n q k=some r->∃i,q i=some r
 |0,h=>by cases h
 |k+1,h=>by
  simp only[cb,Option.or_eq_some_iff]at h;rcases h with h|⟨_,h⟩
  ·exact⟨_,h⟩
  ·exact te h
theorem og(t:Dc)(f:Db->Bool):t.all f=(List.range t.length).all fun x=>f (t.getD x []):=by
 rw[Bf,AM,AM]
 constructor
 ·intro h x hx
  rw[AW]at hx;exact h _ (cU t [] x hx)
 ·intro h r hr
  obtain⟨k,hk,rfl⟩:=Ay hr;have:=h k (by simpa using hk)
  rwa[cg _ _ _ hk]at this
theorem TN(l:List Nat)(f g:Nat->Bool):(l.all f&&l.all g)=l.all fun x=>f x&&g x:=by
 rw[Bf];simp only[AG,AM];exact⟨fun h x hx=>⟨h.1 x hx,h.2 x hx⟩,fun h=>⟨fun x hx=>(h x hx).1,fun x hx=>(h x hx).2⟩⟩
def jG(t:Dc)(x y z:Nat):Bool:=decide (en t (en t x y).toNat z=en t x (en t y z).toNat)
def gW(t:Dc)(x y:Nat):Bool:=(List.range t.length).all (jG t x y)
def my(t:Dc)(x:Nat):Bool:=(List.range t.length).all (gW t x)
def gX(t:Dc)(x:Nat):Bool:=decide (en t 0 x=(x:Int))&&decide (en t x 0=(x:Int))
def fX(t:Dc)(x:Nat):Bool:=gX t x&&my t x
def gB(t:Dc)(x:Nat):Bool:=gX t x&&(cB (t.getD x [])&&my t x)
def bd(t:Dc):Bool:=aM t&&(t.all cB&&(List.range t.length).all (fX t))
theorem TO(t:Dc):bd t=(aM t&&(List.range t.length).all (gB t)):=by
 rw[bd,og,TN]
 congr 2
 funext x
 simp only[fX,gB];cases cB (t.getD x [])<;>cases gX t x<;>simp
theorem gC{t:Dc}(h:bd t=true):aM t=true:=by
 rw[bd,AG]at h;exact h.1
def bk(t:Dc)(x:Nat):Int:=bm 0 (t.getD x []) 0
theorem pL(x:Int):∀(l:Db) (k:Int),0<=k->bm x l k<k+(l.length:Int)
 | [],k,h=>by simp[bm];omega
 |y::l,k,h=>by
  simp only[bm,AR];split
  ·omega
  ·have:=pL x l (k+1) (by omega)
   omega
theorem KW{l:Db}(h:cB l=true){x:Int}(h0:0<=x)(h1:x<(l.length:Int)):x∈l:=Eb.1 h x h0 h1
theorem zI{t:Dc}(h:bd t=true){x:Nat}(hx:x<t.length):0<=bk t x/\bk t x<=(t.length:Int)-1:=by
 have ht:=bT (gC h)
 have hr:=(ht.2.2 x hx).1
 rw[bd,AG,AG]at h;have hp:cB (t.getD x [])=true:=by
  have:=h.2.1
  rw[og,AM]at this;exact this x (by simpa using hx)
 have hm:=KW hp (x:=0) (by omega) (by omega)
 have h1:=ud 0 (t.getD x []) 0 (by omega)
 have h2:=pL 0 (t.getD x []) 0 (by omega)
 rw[AY hm]at h1;have h3:=BS h1
 unfold bk;omega
def bB(t:Dc):Db:=ap t.length (bk t)
theorem pM(t:Dc):(bB t).length=t.length:=bK _ _
theorem pN(t:Dc)(x:Nat)(h:x<t.length):(bB t).getD x 0=bk t x:=cj _ _ _ h
def iE(a c:Dc)(x y z:Nat):Option Db :=
 if en c x (en a y z).toNat=en a (en a (en c x y).toNat (bk a x).toNat).toNat (en c x z).toNat then none else some [(x:Int),(y:Int),(z:Int)]
def gY(a c:Dc)(x y:Nat):Option Db:=cb a.length (iE a c x y) a.length
def fY(a c:Dc)(x:Nat):Option Db:=cb a.length (gY a c x) a.length
def cG(a c:Dc):Option Db:=cb a.length (fY a c) a.length
def bM(a c:Dc):Bool:=bd a&&bd c&&decide (a.length=c.length)&&(cG a c).isNone
theorem jc{a c:Dc}(h:bM a c=true):bd a=true/\bd c=true/\a.length=c.length/\(cG a c).isNone=true:=by
 simp only[bM,AG,AQ]at h;exact⟨h.1.1.1,h.1.1.2,h.1.2,h.2⟩
theorem TP{a c:Dc}{l:Db}(h:cG a c=some l):l≠[]:=by
 obtain⟨x,hx⟩:=te h;obtain⟨y,hy⟩:=te hx;obtain⟨z,hz⟩:=te hy;unfold iE at hz;split at hz
 ·cases hz
 ·cases hz;simp
def gD(a c:Dc)(x y:Nat):Int:=en a (bk a x).toNat (en c x y).toNat
def aS(a c:Dc):Dc:=bq a.length (gD a c)
end Go.Sx
