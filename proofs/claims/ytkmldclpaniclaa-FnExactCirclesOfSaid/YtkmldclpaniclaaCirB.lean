/- CirB -/
import Derived.Test.YtkmldclpaniclaaMapD
import Derived.Test.YtkmldclpaniclaaCirP
import Derived.Test.YtkmldclpaniclaaLists
open Go Go.Proofs
namespace Go.Sx
set_option linter.unusedSimpArgs false
set_option linter.unusedVariables false
def fV (K:List (List Int)) (m:List Int):Int:=if m∈K then (du K m:Int) else -1
def oK (K:List (List Int)) (m:List Int):Post:=⟨bk K,.c (.int .i64 (fV K m)),[]⟩
def tE:List AD→Option Post
 | [.c (.rows .i64 (K)),.c (.ints .i64 (m))]=>some (oK K m)
 | _=>none
def AH (K:List (List Int)) (m:List Int):Nat→Option Ann
 | 0=>some (Ann.mk ((Nat)) (fun i=>⟨[(0,.c (.ro (.rows .i64 (K)))),(1,.c (.ro (.ints .i64 (m)))),(5,.c (.int .i64 ((i:Int))))],[]⟩) (fun i=>i≤K.length∧(∀j,j<i→K.getD j []≠m)) (fun i=>K.length - i) (fun _=>ax))
 | _=>none
def AI:List (Nat×Ctr):=[(85,⟨[],mW⟩)]
def tF (K:List (List Int)) (m:List Int):Prop :=
 ((∃x0:Nat,(((x0≤K.length)∧(∀(j:Nat),j<x0→K.getD j []≠m))∧((K=K)∧((m=m)∧((0:Int)=(↑x0:Int))))))∧(∀x1:Nat,(((x1≤K.length)∧(∀(j:Nat),j<x1→K.getD j []≠m))→(ae (decide ((↑x1:Int)<(↑(K.length):Int))) ((aa (↑x1:Int) (K.length))∧(((ag ((K.getD ((↑x1:Int).toNat) []).length))∧True)∧(ae (decide (K.getD ((↑x1:Int).toNat) []=m)) (((↑x1:Int)=fV K m)∧True) ((af ((↑x1:Int)+(1:Int)))∧(∃x2:Nat,(((x2≤K.length)∧(∀(j:Nat),j<x2→K.getD j []≠m))∧((K.length - x2<K.length - x1)∧((K=K)∧((m=m)∧((↑x1:Int)+(1:Int)=(↑x2:Int))))))))))) (((-1:Int)=fV K m)∧True)))))
theorem HD (K:List (List Int)) (m:List Int):aS Try.prog (ai AI) aj (AH K m) Try.f100 (aM Try.f100) [] [.c (.rows .i64 (K)),.c (.ints .i64 (m))] (oK K m)=tF K m:=by kernel_rfl
theorem HE (K:List (List Int)) (m:List Int) (Yh:(oK K m).pre):tF K m:=by
 simp only [oK,tF,aR,u1,u2,u3,u4,u5,u6,u7,u8,u9,v1,v2,v3,v4,v5,v6,v7,v8,v9,w1,w2,w3,w4,aI,aa,af,ag,aw] at Yh ⊢;have hk:=Yh.1
 refine ⟨⟨0,⟨by omega,fun j h=>by omega⟩,rfl⟩,fun i ⟨hi,ih⟩=>⟨fun h=>⟨by omega,?_,fun q=>?_,fun q=>⟨by omega,i+1,⟨by omega,fun j hj=>?_⟩,by omega,by omega⟩⟩,fun h=>?_⟩⟩
 ·exact Yh.2 _ (bN K [] i (by omega))
 ·rw [fV,if_pos (by rw [←q];exact bN K [] i (by omega)),nc i ih (by omega) q]
 ·by_cases e:j=i
  ·subst e;exact q
  ·exact ih j (by omega)
 ·rw [fV,if_neg]
  intro hm
  obtain ⟨q1,q2⟩:=iL hm;exact ih _ (by omega) q2
theorem HF:Fits Try.prog 100 ⟨[],tE⟩:=by
 refine aY (Γ:=ai AI) (aC uj aQ) Try.func100 fun ds p h hp=>?_
 unfold tE at h;split at h
 ·cases h
  exact ⟨aj,AH _ _ ,by rw [HD];exact HE _ _  hp⟩
 ·cases h
theorem HG {a b:List (List Int)} (hl:a.length=b.length) {i:Nat} (h:i<a.length):bV (a.drop i) (b.drop i)=if a.getD i []=b.getD i [] then bV (a.drop (i+1)) (b.drop (i+1)) else aW (a.getD i []) (b.getD i []):=by
 rw [drop_cons' a [] i h,drop_cons' b [] i (by omega),bV]
def oL (a:List (List Int)) (b:List (List Int)):Post:=⟨bk a∧bk b∧a.length=b.length,.c (.bool (bV a b)),[]⟩
def tG:List AD→Option Post
 | [.c (.r3 .i64 ([a])),.c (.r3 .i64 ([b]))]=>some (oL a b)
 | _=>none
def AJ (a:List (List Int)) (b:List (List Int)):Nat→Option Ann
 | 0=>some (Ann.mk ((Nat)) (fun k=>⟨[(0,.c (.ro (.r3 .i64 ([a])))),(1,.c (.ro (.r3 .i64 ([b])))),(5,.c (.int .i64 ((k:Int))))],[]⟩) (fun k=>k≤1∧(k=1→bV a b=false)) (fun k=>1 - k) (fun k=>fun b_=>match b_ with | 2=>some (Ann.mk ((Nat)) (fun i=>⟨[(0,.c (.ro (.r3 .i64 ([a])))),(1,.c (.ro (.r3 .i64 ([b])))),(5,.c (.int .i64 ((k:Int)))),(6,.c (.int .i64 ((i:Int))))],[]⟩) (fun i=>k=0∧i≤a.length∧bV a b=bV (a.drop i) (b.drop i)) (fun i=>a.length - i) (fun _=>ax)) | _=>none))
 | _=>none
def AK:List (Nat×Ctr):=[(85,⟨[],mW⟩),(42,⟨[],ql⟩)]
def lj (a:List (List Int)) (x0:Nat):=((a::([]:List (List (List Int)))).getD ((↑x0:Int).toNat) ([]:List (List Int)))
def tH (a:List (List Int)) (b:List (List Int)):Prop :=
 ((∃x0:Nat,(((x0≤(1:Nat))∧(x0=(1:Nat)→bV a b=false))∧((a::([]:List (List (List Int)))=a::([]:List (List (List Int))))∧((b::([]:List (List (List Int)))=b::([]:List (List (List Int))))∧((0:Int)=(↑x0:Int))))))∧(∀x1:Nat,(((x1≤(1:Nat))∧(x1=(1:Nat)→bV a b=false))→(ae (decide ((↑x1:Int)<(↑((a::([]:List (List (List Int)))).length):Int))) ((∃x2:Nat,(((x1=(0:Nat))∧((x2≤a.length)∧(bV a b=bV (List.drop x2 a) (List.drop x2 b))))∧((a::([]:List (List (List Int)))=a::([]:List (List (List Int))))∧((b::([]:List (List (List Int)))=b::([]:List (List (List Int))))∧(((↑x1:Int)=(↑x1:Int))∧((0:Int)=(↑x2:Int)))))))∧(∀x3:Nat,(((x1=(0:Nat))∧((x3≤a.length)∧(bV a b=bV (List.drop x3 a) (List.drop x3 b))))→((aa (↑x1:Int) ((a::([]:List (List (List Int)))).length))∧(ae (decide ((↑x3:Int)<(↑(((a::([]:List (List (List Int)))).getD ((↑x1:Int).toNat) ([]:List (List Int))).length):Int))) ((aa (↑x1:Int) ((a::([]:List (List (List Int)))).length))∧((aa (↑x3:Int) ((lj a x1).length))∧((aa (↑x1:Int) ((b::([]:List (List (List Int)))).length))∧((aa (↑x3:Int) (((b::([]:List (List (List Int)))).getD ((↑x1:Int).toNat) ([]:List (List Int))).length))∧(((ag (((lj a x1).getD ((↑x3:Int).toNat) []).length))∧True) ∧
 (ae (!decide ((List.getD (a::([]:List (List (List Int)))) ((↑x1:Int).toNat) ([]:List (List Int))).getD ((↑x3:Int).toNat) []=(List.getD (b::([]:List (List (List Int)))) ((↑x1:Int).toNat) ([]:List (List Int))).getD ((↑x3:Int).toNat) [])) ((aa (↑x1:Int) ((a::([]:List (List (List Int)))).length))∧((aa (↑x3:Int) ((lj a x1).length))∧((aa (↑x1:Int) ((b::([]:List (List (List Int)))).length))∧((aa (↑x3:Int) (((b::([]:List (List (List Int)))).getD ((↑x1:Int).toNat) ([]:List (List Int))).length))∧(((ag (((lj a x1).getD ((↑x3:Int).toNat) []).length))∧True)∧((aW ((lj a x1).getD ((↑x3:Int).toNat) []) ((List.getD (b::([]:List (List (List Int)))) ((↑x1:Int).toNat) ([]:List (List Int))).getD ((↑x3:Int).toNat) [])=bV a b)∧True)))))) ((af ((↑x3:Int)+(1:Int)))∧(∃x4:Nat,(((x1=(0:Nat))∧((x4≤a.length)∧(bV a b=bV (List.drop x4 a) (List.drop x4 b))))∧((a.length - x4<a.length - x3)∧((a::([]:List (List (List Int)))=a::([]:List (List (List Int))))∧((b::([]:List (List (List Int)))=b::([]:List (List (List Int))))∧(((↑x1:Int)=(↑x1:Int))∧((↑x3:Int)+(1:Int)=(↑x4:Int))))))))))))))) ((af ((↑x1:Int)+(1:Int)))∧(∃x5:Nat,(((x5≤(1:Nat))∧(x5=(1:Nat)→bV a b=false))∧(((1:Nat) - x5<(1:Nat) - x1)∧((a::([]:List (List (List Int)))=a::([]:List (List (List Int))))∧((b::([]:List (List (List Int)))=b::([]:List (List (List Int)))) ∧
 ((↑x1:Int)+(1:Int)=(↑x5:Int))))))))))))) ((false=bV a b)∧True)))))
theorem HH (a:List (List Int)) (b:List (List Int)):aS Try.prog (ai AK) aj (AJ a b) Try.f74 (aM Try.f74) [] [.c (.r3 .i64 ([a])),.c (.r3 .i64 ([b]))] (oL a b)=tH a b:=by kernel_rfl
theorem HI (a:List (List Int)) (b:List (List Int)) (Yh:(oL a b).pre):tH a b:=by
 simp only [oL,tH,lj,aR,u1,u2,u3,u4,u5,u6,u7,u8,u9,v1,v2,v3,v4,v5,v6,v7,v8,v9,w1,w2,w3,w4,aI,aa,af,ag,aw] at Yh ⊢;obtain ⟨h1,h2,h3⟩:=Yh;have hk:=h1.1
 refine ⟨⟨0,⟨by omega,fun h=>by omega⟩,rfl⟩,fun k ⟨hk,ik⟩=>⟨fun h=>⟨⟨0,⟨by omega,by omega,rfl⟩,rfl⟩,fun i ⟨e,hi,ii⟩=>?_⟩,fun h=>(ik (by omega)).symm⟩⟩
 subst e;have ea:[a].getD 0 []=a:=rfl
 have eb:[b].getD 0 []=b:=rfl
 rw [ea,eb];refine ⟨by omega,fun q=>?_,fun q=>⟨by omega,1,⟨by omega,fun _=>?_⟩,by omega,by omega⟩⟩
 ·have s:=HG h3 (i:=i) (by omega)
  have r:=h1.2 _ (bN a [] i (by omega))
  refine ⟨by omega,by omega,by omega,by omega,r,fun z=>⟨by omega,by omega,by omega,by omega,r,?_⟩,fun z=>⟨by omega,i+1,⟨rfl,by omega,?_⟩,by omega,by omega⟩⟩
  ·rw [ii,s,if_neg z]
  ·rw [ii,s,if_pos z]
 ·rw [ii,List.drop_of_length_le (by omega)];simp [bV]
theorem HJ:Fits Try.prog 74 ⟨[],tG⟩:=by
 refine aY (Γ:=ai AK) (aC uj (aC Dd aQ)) Try.func74 fun ds p h hp=>?_
 unfold tG at h;split at h
 ·cases h
  exact ⟨aj,AJ _ _ ,by rw [HH];exact HI _ _  hp⟩
 ·cases h
def bg (t:List (List Int)):List (List Int):=fE [t] [t] 1000000
def oM (t:List (List Int)):Post:=⟨cf t=true,.c (.rows 42 2 .i64 (bg t)),[]⟩
def tI:List AD→Option Post
 | [.c (.rows .i64 (t))]=>some (oM t)
 | _=>none
def AL:List (Nat×Ctr):=[(41,⟨[],wy⟩)]
def tJ (t:List (List Int)):Prop :=
 (((([(0:Int)]=[(0:Int)])∧(((1:Nat)≤(t::([]:List (List (List Int)))).length)∧(((t::([]:List (List (List Int)))).length≤(1000:Nat))∧(((t::([]:List (List (List Int)))).length=(t::([]:List (List (List Int)))).length)∧(((1:Nat)≤nT (t::([]:List (List (List Int)))))∧((nT (t::([]:List (List (List Int))))≤(12:Nat))∧((bn (nT (t::([]:List (List (List Int))))) (t::([]:List (List (List Int)))))∧((bn (nT (t::([]:List (List (List Int))))) (t::([]:List (List (List Int)))))∧(((1:Int)≤(1000000:Int))∧((1000000:Int)≤(1000000:Int)))))))))))∧True)∧((fE (t::([]:List (List (List Int)))) (t::([]:List (List (List Int)))) (1000000:Int)=bg t)∧True))
theorem HK (t:List (List Int)):aS Try.prog (ai AL) aj ax Try.f21 (aM Try.f21) [] [.c (.rows .i64 (t))] (oM t)=tJ t:=by kernel_rfl
theorem HL (t:List (List Int)) (Yh:(oM t).pre):tJ t:=by
 simp only [oM,tJ,aR,u1,u2,u3,u4,u5,u6,u7,u8,u9,v1,v2,v3,v4,v5,v6,v7,v8,v9,w1,w2,w3,w4,aI,aa,af,ag,aw] at Yh ⊢;obtain ⟨h1,h2,h3⟩:=mQ Yh;have e:nT [t]=t.length:=rfl
 have T:bn (nT [t]) [t]:=fun k hk=>by
  have:k=0:=by simp at hk;omega
  subst this;refine ⟨rfl,fun x hx=>⟨(h3 x hx).1,fun y hy=>?_⟩⟩
  have:=(h3 x hx).2 y hy
  have e2:en t x y=(t.getD x []).getD y 0:=rfl
  show 0≤en t x y∧en t x y<(t.length:Int)
  omega
 exact ⟨⟨by omega,by omega,by omega,by omega,T,T,by omega,by omega⟩,rfl⟩
theorem HM:Fits Try.prog 21 ⟨[],tI⟩:=by
 refine aY (Γ:=ai AL) (aC Le aQ) Try.func21 fun ds p h hp=>?_
 unfold tI at h;split at h
 ·cases h
  exact ⟨aj,ax,by rw [HK];exact HL _  hp⟩
 ·cases h
theorem AM:∀(a b:List Int),a.length=b.length→aW a b=true→∃i,i<a.length∧(∀j,j<i→a.getD j 0=b.getD j 0)∧a.getD i 0<b.getD i 0
 | [],[],_,h=>by cases h
 | [],_::_,hl,_=>by simp at hl
 | _::_,[],hl,_=>by simp at hl
 | x::a,y::b,hl,h=>by
  rw [aW] at h;by_cases e:x=y
  ·rw [if_pos e] at h
   obtain ⟨i,h1,h2,h3⟩:=AM a b (by simpa using hl) h
   refine ⟨i+1,by simp;omega,fun j hj=>?_,h3⟩
   cases j with
   | zero=>exact e
   | succ j=>exact h2 j (by omega)
  ·rw [if_neg e] at h
   exact ⟨0,by simp,fun j hj=>by omega,of_decide_eq_true h⟩
def cR (n:Nat):List Int:=aE n fun i=>(i:Int)
theorem fW {p q:List Int} {i:Nat} (h:i<p.length):(ba p q).getD i 0=q.getD (p.getD i 0).toNat 0:=lh _ _ _ _ _ h
theorem gz (p q:List Int):(ba p q).length=p.length:=by simp [ba]
theorem oN {g:List Int} (hn:g.Nodup) {i j:Nat} (hi:i<g.length) (hj:j<g.length) (e:g.getD i 0=g.getD j 0):i=j:=by
 rw [bU g 0 i hi,bU g 0 j hj] at e;exact (List.getElem_inj hn).1 e
theorem HN {n:Nat} {g:List Int} (hl:g.length=n) (hr:∀i,i<n→0≤g.getD i 0) (hn:g.Nodup):aW g (cR n)=false:=by
 cases e:aW g (cR n) with
 | false=>rfl
 | true =>
  exfalso
  obtain ⟨i,h1,h2,h3⟩:=AM g (cR n) (by rw [hl,cR,fA]) e
  have u:∀j,j<n→(cR n).getD j 0=(j:Int):=fun j hj=>eY _ _ _ hj
  rw [u i (by omega)] at h3
  have h0:=hr i (by omega)
  have hj:=h2 (g.getD i 0).toNat (by omega)
  rw [u _ (by omega)] at hj
  have:g.getD (g.getD i 0).toNat 0=g.getD i 0:=by omega
  have:=oN hn (i:=(g.getD i 0).toNat) (j:=i) (by omega) h1 this
  omega
section
variable {n:Nat} {t:List (List Int)}
theorem HO (ht:bi n t):isoL n [t] [t] (cR n) where
 len:=fA _ _
 rng i hi:=by rw [cR,eY _ _ _ hi];omega
 nd:=by
  rw [cR,aE,List.Nodup,List.pairwise_map];exact (List.nodup_range (n:=n)).imp fun {x y} h e=>h (by omega)
 ok k x y hk hx hy hv:=by
  have k0:k=0:=by simp at hk;omega
  subst k0;have hx:x<n:=by rwa [cR,fA] at hx
  have hy:y<n:=by rwa [cR,fA] at hy
  have e:[t].getD 0 []=t:=rfl
  rw [e] at hv ⊢;have v:=(ht.2 x hx).2 y hy
  rw [cR,eY _ _ _ hx,eY _ _ _ hy,eY _ _ _ (by omega),Int.toNat_natCast,Int.toNat_natCast,Int.toNat_of_nonneg v.1]
theorem HP (ht:bi n t) {g h:List Int} (hg:isoL n [t] [t] g) (hh:isoL n [t] [t] h):isoL n [t] [t] (ba g h) where
 len:=by rw [gz];exact hg.len
 rng i hi:=by
  rw [fW (by rw [hg.len];exact hi)]
  have:=hg.rng i hi
  exact hh.rng _ (by omega)
 nd:=by
  have G:=hg.g (fun k hk=>by have k0:k=0:=(by simp at hk;omega);subst k0;exact ht)
  have H:=hh.g (fun k hk=>by have k0:k=0:=(by simp at hk;omega);subst k0;exact ht)
  have gl:=hg.len
  rw [List.Nodup,List.pairwise_iff_getElem];intro i j hi hj hij e
  rw [gz] at hi hj;rw [←bU _ 0 i (by rw [gz];exact hi),←bU _ 0 j (by rw [gz];exact hj),fW hi,fW hj] at e
  have a:=hg.rng i (by omega)
  have b:=hg.rng j (by omega)
  have a2:=hh.rng (g.getD i 0).toNat (by omega)
  have b2:=hh.rng (g.getD j 0).toNat (by omega)
  have q:=H.inj (g.getD i 0).toNat (g.getD j 0).toNat (by omega) (by omega) (by rw [e])
  have:=G.inj i j (by omega) (by omega) q
  omega
 ok k x y hk hx hy hv:=by
  have k0:k=0:=by simp at hk;omega
  subst k0;have gl:=hg.len
  have hl:=hh.len
  rw [gz] at hx hy hv;have e:[t].getD 0 []=t:=rfl
  rw [e] at hv ⊢;have v:=(ht.2 x (by omega)).2 y (by omega)
  have a:=hg.rng x (by omega)
  have b:=hg.rng y (by omega)
  rw [fW (by omega),fW (by omega),fW (by omega)]
  have o1:=hg.ok 0 x y (by simp) (by omega) (by omega) (by rw [e];omega)
  rw [e] at o1;rw [o1];have w:=(ht.2 (g.getD x 0).toNat (by omega)).2 (g.getD y 0).toNat (by omega)
  have o2:=hh.ok 0 (g.getD x 0).toNat (g.getD y 0).toNat (by simp) (by omega) (by omega) (by rw [e];omega)
  rw [e] at o2;exact o2
theorem lm (ht:bi n t):bn n [t]:=fun k hk=>by
 have k0:k=0:=by simp at hk;omega
 subst k0;exact ht
theorem tK (ht:bi n t) (hn:1≤n):AuOk n (dW n [t] [t])∧(dW n [t] [t]).getD 0 []=cR n:=by
 have T:=lm ht
 have U:cR n∈dW n [t] [t]:=(qj T hn).2 ⟨HO ht,by rw [cR,eY _ _ _ (by omega)];rfl⟩
 have I:∀i,i<(dW n [t] [t]).length→isoL n [t] [t] ((dW n [t] [t]).getD i [])∧((dW n [t] [t]).getD i []).getD 0 0=0:=fun i hi=>(qj T hn).1 (bN _ [] i hi)
 have P:1≤(dW n [t] [t]).length:=List.length_pos_of_mem U
 refine ⟨⟨P,fun i hi=>(I i hi).1.len,fun i x hi hx=>(I i hi).1.rng x hx,fun i j hi hj=>(qj T hn).2 ⟨HP ht (I i hi).1 (I j hj).1,?_⟩⟩,?_⟩
 ·have a:=(I i hi).1.len
  rw [fW (by omega),(I i hi).2];exact (I j hj).2
 ·obtain ⟨j,hj,e⟩:=List.getElem_of_mem U
  by_cases j0:j=0
  ·subst j0;rw [bU _ [] 0 hj,e]
  ·exfalso
   have S:=List.pairwise_iff_getElem.1 (C9 n [t] [t]) 0 j (by omega) hj (by omega)
   have a:=(I 0 (by omega)).1
   rw [bU _ [] 0 (by omega)] at a
   have:=HN a.len (fun i hi=>(a.rng i hi).1) a.nd
   rw [e] at S;rw [S] at this;cases this
theorem tL (ht:bi n t) (hn:1≤n) (h:(bg t).length≤999999):bg t=dW n [t] [t]:=by
 have e:nT [t]=n:=ht.1
 have T:=lm ht
 have E:bg t=(dW n [t] [t]).take 1000000:=by
  rw [bg,fE,if_pos rfl,e];exact C8 T rfl hn (by omega)
 rw [E,List.length_take] at h;rw [E,List.take_of_length_le (by omega)]
theorem mR (ht:bi n t) (hn:1≤n) (h:(bg t).length≤999999):AuOk n (bg t)∧fB (bg t) 0 0=0:=by
 rw [tL ht hn h];obtain ⟨a,b⟩:=tK ht hn;refine ⟨a,?_⟩
 have th:ba (cR n) (cR n)=cR n:=by
  refine li (by rw [gz]) fun i hi=>?_
  rw [gz,cR,fA] at hi;rw [fW (by rw [cR,fA];exact hi),cR,eY _ _ _ hi,Int.toNat_natCast,eY _ _ _ hi]
 have z:(0:Int).toNat=0:=rfl
 rw [fB,z,b,th];exact nc 0 (fun j hj=>by omega) (by have:=a.pos;omega) b
end
theorem lp (f:Nat→Bool) {i N:Nat} (h:i<N):(List.range' i (N - i)).all f=(f i&&(List.range' (i+1) (N - (i+1))).all f):=by
 rw [show N - i=(N - (i+1))+1 by omega,List.range'_succ];rfl
theorem lq (f:Nat→Bool) {i N:Nat} (h:N≤i):(List.range' i (N - i)).all f=true:=by
 rw [show N - i=0 by omega];rfl
theorem lu (f:Nat→Bool) (N:Nat):(List.range N).all f=(List.range' 0 (N - 0)).all f:=by
 rw [List.range_eq_range',Nat.sub_zero]
def dr (t A:List (List Int)) (K:List Int):List Int×Bool :=
 match cD t A K with
 | none=>([],false)
 | some o=>(o,true)
theorem AN {t A:List (List Int)} {o:List Int} {x y:Nat} (h:cS t A o x y=none):∀k,cS t A o x (y+k)=none
 | 0=>h
 | k+1=>by rw [←Nat.add_assoc,cS,AN h k];rfl
theorem AO {t A:List (List Int)} {o:List Int} {x:Nat} (h:dE t A o x=none):∀k,dE t A o (x+k)=none
 | 0=>h
 | k+1=>by rw [←Nat.add_assoc,dE,AO h k];rfl
theorem HQ {t A:List (List Int)} {K o c e:List Int} {fu i j:Nat} (hr:cD t A K=dR t A (fu+1) o) (hx:dE t A o i=some c) (hy:cS t A c i j=some e) (hi:i<t.length) (hj:j<t.length) (h:eu t A e i j=none):dr t A K=([],false):=by
 have h1:cS t A c i (j+1)=none:=by rw [cS,hy];exact h
 have h2:=AN h1 (t.length - (j+1))
 rw [show j+1+(t.length - (j+1))=t.length by omega] at h2
 have h3:dE t A o (i+1)=none:=by rw [dE,hx];exact h2
 have h4:=AO h3 (t.length - (i+1))
 rw [show i+1+(t.length - (i+1))=t.length by omega] at h4
 rw [dr,hr,dR,h4]
def oO (t:List (List Int)) (A:List (List Int)) (K:List Int):Post:=⟨t.length≤12∧bi t.length t∧AuOk t.length A∧A.length≤1000000∧KOk t.length A.length K,.tup [.inl (.ints 2 .i64 ((dr t A K).1)),.inl (.bool ((dr t A K).2))],[]⟩
def tM:List AD→Option Post
 | [.c (.rows .i64 (t)),.c (.rows .i64 (A)),.c (.ints .i64 (K))]=>some (oO t A K)
 | _=>none
def AP (t:List (List Int)) (A:List (List Int)) (K:List Int):Nat→Option Ann
 | 0=>some (Ann.mk ((Nat)×(List Int)×(Bool)) (fun x=>match x with | (fu,o,g)=>⟨[(0,.c (.ro (.rows .i64 (t)))),(1,.c (.ro (.rows .i64 (A)))),(8,.c (.own (8))),(9,.c (.bool (g)))],[(8,some (.ints 2 .i64 (o)))]⟩) (fun x=>match x with | (fu,o,g)=>KOk t.length A.length o∧(g=true→au o<fu∧cD t A K=dR t A fu o)∧(g=false→cD t A K=some o)) (fun x=>match x with | (fu,o,g)=>2 * fu+(if g=true then 1 else 0)) (fun x=>match x with | (fu,o,g)=>fun b_=>match b_ with | 2=>some (Ann.mk ((Nat)×(List Int)) (fun x=>match x with | (i,c)=>⟨[(0,.c (.ro (.rows .i64 (t)))),(1,.c (.ro (.rows .i64 (A)))),(8,.c (.own (8))),(9,.c (.bool (decide (au c<au o)))),(10,.c (.int .i64 ((i:Int))))],[(8,some (.ints 2 .i64 (c)))]⟩) (fun x=>match x with | (i,c)=>i≤t.length∧g=true∧KOk t.length A.length c∧dE t A o i=some c∧au c≤au o) (fun x=>match x with | (i,c)=>t.length - i) (fun x=>match x with | (i,c)=>fun b_=>match b_ with | 4=>some (Ann.mk ((Nat)×(List Int)) (fun x=>match x with | (j,e)=>⟨[(0,.c (.ro (.rows .i64 (t)))),(1,.c (.ro (.rows .i64 (A)))),(8,.c (.own (8))),(9,.c (.bool (decide (au e<au o)))),(10,.c (.int .i64 ((i:Int)))),(11,.c (.int .i64 ((j:Int))))],[(8,some (.ints 2 .i64 (e)))]⟩) (fun x=>match x with | (j,e)=>i<t.length∧j≤t.length∧KOk t.length A.length e∧cS t A c i j=some e∧au e≤au c) (fun x=>match x with | (j,e)=>t.length - j) (fun _=>ax)) | _=>none)) | _=>none))
 | _=>none
def AQ:List (Nat×Ctr):=[(75,⟨[],m8⟩),(22,⟨[],oQ⟩),(100,⟨[],tE⟩)]
def jO (t:List (List Int)) (A:List (List Int)) (x0:Nat×List Int) (x1:Nat×List Int):=((List.getD t ((↑x0.1:Int).toNat) []).getD (((List.getD A ((List.getD x1.2 ((↑x0.1:Int).toNat) (0:Int)).toNat) []).getD ((↑x1.1:Int).toNat) (0:Int)).toNat) (0:Int))
def tN (t:List (List Int)) (A:List (List Int)) (K:List Int):Prop :=
 (((ag (K.length))∧True)∧((∃x0:Nat×List Int×Bool,(((KOk (t.length) (A.length) (x0.2.1))∧((x0.2.2=true→au (x0.2.1)<x0.1∧cD t A K=dR t A (x0.1) (x0.2.1))∧(x0.2.2=false→cD t A K=Option.some (x0.2.1))))∧((t=t)∧((A=A)∧((true=x0.2.2)∧(K=x0.2.1))))))∧(∀x1:Nat×List Int×Bool,(((KOk (t.length) (A.length) (x1.2.1))∧((x1.2.2=true→au (x1.2.1)<x1.1∧cD t A K=dR t A (x1.1) (x1.2.1))∧(x1.2.2=false→cD t A K=Option.some (x1.2.1))))→(ae (x1.2.2) ((∃x2:Nat×List Int,(((x2.1≤t.length)∧((x1.2.2=true)∧((KOk (t.length) (A.length) (x2.2))∧((dE t A x1.2.1 (x2.1)=Option.some (x2.2))∧(au (x2.2)≤au x1.2.1)))))∧((t=t)∧((A=A)∧((false=decide (au x2.2<au x1.2.1))∧(((0:Int)=(↑x2.1:Int))∧(x1.2.1=x2.2)))))))∧(∀x3:Nat×List Int,(((x3.1≤t.length)∧((x1.2.2=true)∧((KOk (t.length) (A.length) (x3.2))∧((dE t A x1.2.1 (x3.1)=Option.some (x3.2))∧(au (x3.2)≤au x1.2.1)))))→(ae (decide ((↑x3.1:Int)<(↑(t.length):Int))) ((∃x4:Nat×List Int,(((x3.1<t.length)∧((x4.1≤t.length)∧((KOk (t.length) (A.length) (x4.2))∧((cS t A x3.2 x3.1 (x4.1)=Option.some (x4.2))∧(au (x4.2)≤au x3.2)))))∧((t=t)∧((A=A)∧((decide (au x3.2<au x1.2.1)=decide (au x4.2<au x1.2.1))∧(((↑x3.1:Int)=(↑x3.1:Int))∧(((0:Int)=(↑x4.1:Int))∧(x3.2=x4.2))))))))∧(∀x5:Nat×List Int,(((x3.1<t.length)∧((x5.1≤t.length)∧((KOk (t.length) (A.length) (x5.2))∧((cS t A x3.2 x3.1 (x5.1)=Option.some (x5.2)) ∧
 (au (x5.2)≤au x3.2)))))→(ae (decide ((↑x5.1:Int)<(↑(t.length):Int))) ((aa (↑x3.1:Int) (x5.2.length))∧(ae (decide (x5.2.getD ((↑x3.1:Int).toNat) (0:Int)<(0:Int))) ((af ((↑x5.1:Int)+(1:Int)))∧(∃x6:Nat×List Int,(((x3.1<t.length)∧((x6.1≤t.length)∧((KOk (t.length) (A.length) (x6.2))∧((cS t A x3.2 x3.1 (x6.1)=Option.some (x6.2))∧(au (x6.2)≤au x3.2)))))∧((t.length - x6.1<t.length - x5.1)∧((t=t)∧((A=A)∧((decide (au x5.2<au x1.2.1)=decide (au x6.2<au x1.2.1))∧(((↑x3.1:Int)=(↑x3.1:Int))∧(((↑x5.1:Int)+(1:Int)=(↑x6.1:Int))∧(x5.2=x6.2)))))))))) ((aa (↑x5.1:Int) (x5.2.length))∧(ae (decide (x5.2.getD ((↑x5.1:Int).toNat) (0:Int)<(0:Int))) ((af ((↑x5.1:Int)+(1:Int)))∧(∃x7:Nat×List Int,(((x3.1<t.length)∧((x7.1≤t.length)∧((KOk (t.length) (A.length) (x7.2))∧((cS t A x3.2 x3.1 (x7.1)=Option.some (x7.2))∧(au (x7.2)≤au x3.2)))))∧((t.length - x7.1<t.length - x5.1)∧((t=t)∧((A=A)∧((decide (au x5.2<au x1.2.1)=decide (au x7.2<au x1.2.1))∧(((↑x3.1:Int)=(↑x3.1:Int))∧(((↑x5.1:Int)+(1:Int)=(↑x7.1:Int))∧(x5.2=x7.2)))))))))) ((aa (↑x3.1:Int) (t.length))∧((aa (↑x3.1:Int) (x5.2.length))∧((aa (x5.2.getD ((↑x3.1:Int).toNat) (0:Int)) (A.length))∧((aa (↑x5.1:Int) ((A.getD ((x5.2.getD ((↑x3.1:Int).toNat) (0:Int)).toNat) []).length))∧((aa ((List.getD A ((List.getD x5.2 ((↑x3.1:Int).toNat) (0:Int)).toNat) []).getD ((↑x5.1:Int).toNat) (0:Int)) ((t.getD ((↑x3.1:Int).toNat) []).length)) ∧
 ((aa (↑x5.1:Int) (x5.2.length))∧((aa (x5.2.getD ((↑x5.1:Int).toNat) (0:Int)) (A.length))∧((aa (↑x3.1:Int) (x5.2.length))∧((aa (x5.2.getD ((↑x3.1:Int).toNat) (0:Int)) (A.length))∧((((ag ((A.getD ((x5.2.getD ((↑x5.1:Int).toNat) (0:Int)).toNat) []).length))∧(lv ((A.getD ((x5.2.getD ((↑x3.1:Int).toNat) (0:Int)).toNat) []).length) (A.getD ((x5.2.getD ((↑x5.1:Int).toNat) (0:Int)).toNat) [])))∧True)∧(((bk A)∧True)∧((aa (jO t A x3 x5) (x5.2.length))∧(ae (decide (x5.2.getD (((List.getD t ((↑x3.1:Int).toNat) []).getD (((List.getD A ((List.getD x5.2 ((↑x3.1:Int).toNat) (0:Int)).toNat) []).getD ((↑x5.1:Int).toNat) (0:Int)).toNat) (0:Int)).toNat) (0:Int)<(0:Int))) ((aa (jO t A x3 x5) (x5.2.length))∧((aa (jO t A x3 x5) ((List.set x5.2 ((jO t A x3 x5).toNat) (fV A (ba (A.getD ((x5.2.getD ((↑x5.1:Int).toNat) (0:Int)).toNat) []) (A.getD ((x5.2.getD ((↑x3.1:Int).toNat) (0:Int)).toNat) [])))).length)) ∧
 (ae ((List.set x5.2 ((List.getD (List.getD t ((↑x3.1:Int).toNat) []) ((List.getD (List.getD A ((List.getD x5.2 ((↑x3.1:Int).toNat) (0:Int)).toNat) []) ((↑x5.1:Int).toNat) (0:Int)).toNat) (0:Int)).toNat) (fV A (ba (List.getD A ((List.getD x5.2 ((↑x5.1:Int).toNat) (0:Int)).toNat) []) (List.getD A ((List.getD x5.2 ((↑x3.1:Int).toNat) (0:Int)).toNat) [])))).getD (((List.getD t ((↑x3.1:Int).toNat) []).getD (((List.getD A ((List.getD x5.2 ((↑x3.1:Int).toNat) (0:Int)).toNat) []).getD ((↑x5.1:Int).toNat) (0:Int)).toNat) (0:Int)).toNat) (0:Int) != fV A (ba (A.getD ((x5.2.getD ((↑x5.1:Int).toNat) (0:Int)).toNat) []) (A.getD ((x5.2.getD ((↑x3.1:Int).toNat) (0:Int)).toNat) []))) ((([]=(dr t A K).1)∧((false=(dr t A K).2)∧True))∧True) ((af ((↑x5.1:Int)+(1:Int)))∧(∃x8:Nat×List Int,(((x3.1<t.length)∧((x8.1≤t.length)∧((KOk (t.length) (A.length) (x8.2))∧((cS t A x3.2 x3.1 (x8.1)=Option.some (x8.2))∧(au (x8.2)≤au x3.2)))))∧((t.length - x8.1<t.length - x5.1)∧((t=t)∧((A=A)∧((true=decide (au x8.2<au x1.2.1))∧(((↑x3.1:Int)=(↑x3.1:Int))∧(((↑x5.1:Int)+(1:Int)=(↑x8.1:Int))∧(List.set x5.2 ((jO t A x3 x5).toNat) (fV A (ba (A.getD ((x5.2.getD ((↑x5.1:Int).toNat) (0:Int)).toNat) []) (A.getD ((x5.2.getD ((↑x3.1:Int).toNat) (0:Int)).toNat) [])))=x8.2))))))))))))) ((aa (jO t A x3 x5) (x5.2.length)) ∧
 (ae (x5.2.getD (((List.getD t ((↑x3.1:Int).toNat) []).getD (((List.getD A ((List.getD x5.2 ((↑x3.1:Int).toNat) (0:Int)).toNat) []).getD ((↑x5.1:Int).toNat) (0:Int)).toNat) (0:Int)).toNat) (0:Int) != fV A (ba (A.getD ((x5.2.getD ((↑x5.1:Int).toNat) (0:Int)).toNat) []) (A.getD ((x5.2.getD ((↑x3.1:Int).toNat) (0:Int)).toNat) []))) ((([]=(dr t A K).1)∧((false=(dr t A K).2)∧True))∧True) ((af ((↑x5.1:Int)+(1:Int)))∧(∃x9:Nat×List Int,(((x3.1<t.length)∧((x9.1≤t.length)∧((KOk (t.length) (A.length) (x9.2))∧((cS t A x3.2 x3.1 (x9.1)=Option.some (x9.2))∧(au (x9.2)≤au x3.2)))))∧((t.length - x9.1<t.length - x5.1)∧((t=t)∧((A=A)∧((decide (au x5.2<au x1.2.1)=decide (au x9.2<au x1.2.1))∧(((↑x3.1:Int)=(↑x3.1:Int))∧(((↑x5.1:Int)+(1:Int)=(↑x9.1:Int))∧(x5.2=x9.2))))))))))))))))))))))))))))) ((af ((↑x3.1:Int)+(1:Int)))∧(∃x10:Nat×List Int,(((x10.1≤t.length)∧((x1.2.2=true)∧((KOk (t.length) (A.length) (x10.2))∧((dE t A x1.2.1 (x10.1)=Option.some (x10.2))∧(au (x10.2)≤au x1.2.1)))))∧((t.length - x10.1<t.length - x3.1)∧((t=t)∧((A=A)∧((decide (au x5.2<au x1.2.1)=decide (au x10.2<au x1.2.1))∧(((↑x3.1:Int)+(1:Int)=(↑x10.1:Int))∧(x5.2=x10.2))))))))))))) (∃x11:Nat×List Int×Bool,(((KOk (t.length) (A.length) (x11.2.1))∧((x11.2.2=true→au (x11.2.1)<x11.1∧cD t A K=dR t A (x11.1) (x11.2.1))∧(x11.2.2=false→cD t A K=Option.some (x11.2.1)))) ∧
 ((((2:Nat) * x11.1+if x11.2.2=true then (1:Nat) else (0:Nat))<(2:Nat) * x1.1+if x1.2.2=true then (1:Nat) else (0:Nat))∧((t=t)∧((A=A)∧((decide (au x3.2<au x1.2.1)=x11.2.2)∧(x3.2=x11.2.1))))))))))) (((x1.2.1=(dr t A K).1)∧((true=(dr t A K).2)∧True))∧True))))))
theorem HR (t:List (List Int)) (A:List (List Int)) (K:List Int):aS Try.prog (ai AQ) aj (AP t A K) Try.f76 (aM Try.f76) [] [.c (.rows .i64 (t)),.c (.rows .i64 (A)),.c (.ints .i64 (K))] (oO t A K)=tN t A K:=by kernel_rfl
theorem HS (t:List (List Int)) (A:List (List Int)) (K:List Int) (Yh:(oO t A K).pre):tN t A K:=by
 simp only [oO,tN,jO,aR,u1,u2,u3,u4,u5,u6,u7,u8,u9,v1,v2,v3,v4,v5,v6,v7,v8,v9,w1,w2,w3,w4,aI,aa,af,ag,aw] at Yh ⊢;obtain ⟨h1,h2,h3,h4,h5⟩:=Yh;have kl:=h5.len
 have ng:=tP K
 refine ⟨by omega,⟨⟨t.length+1,K,true⟩,⟨h5,fun _=>⟨by dsimp only;omega,rfl⟩,fun h=>by cases h⟩,rfl,rfl⟩,fun ⟨fu,o,g⟩ ⟨o1,o2,o3⟩=>?_⟩
 dsimp only at o1 o2 o3 ⊢;refine ⟨fun hg=>?_,fun hg=>?_⟩
 ·subst hg
  obtain ⟨o2,o4⟩:=o2 rfl;obtain ⟨fu,rfl⟩:∃m,fu=m+1:=⟨fu - 1,by omega⟩
  refine ⟨⟨⟨0,o⟩,⟨Nat.zero_le _,rfl,o1,rfl,Nat.le_refl _⟩,(decide_eq_false (Nat.lt_irrefl _)).symm,rfl,rfl⟩,fun ⟨i,c⟩ ⟨c1,_,c2,c3,c4⟩=>?_⟩
  dsimp only at c1 c2 c3 c4 ⊢;refine ⟨fun hi=>⟨⟨⟨0,c⟩,⟨by omega,Nat.zero_le _,c2,rfl,Nat.le_refl _⟩,rfl,rfl,rfl⟩,fun ⟨j,e⟩ ⟨_,e1,e2,e3,e4⟩=>?_⟩,fun hi=>?_⟩
  ·dsimp only at e1 e2 e3 e4 ⊢
   refine ⟨fun hj=>?_,fun hj=>?_⟩
   ·have el:=e2.len
    have ri:=e2.rng i (by omega)
    have rj:=e2.rng j (by omega)
    have same:eu t A e i j=some e→cS t A c i (j+1)=some e:=fun h=>by rw [cS,e3];exact h
    refine ⟨by omega,fun q=>⟨by omega,⟨j+1,e⟩,⟨by omega,by dsimp only;omega,e2,same (by unfold eu;rw [if_pos (.inl q)]),e4⟩,by dsimp only;omega,rfl,by dsimp only;omega,rfl⟩,fun q=>⟨by omega,fun q2=>⟨by omega,⟨j+1,e⟩,⟨by omega,by dsimp only;omega,e2,same (by unfold eu;rw [if_pos (.inr q2)]),e4⟩,by dsimp only;omega,rfl,by dsimp only;omega,rfl⟩,fun q2=>?_⟩⟩
    have W:=lw h3 e2 (x:=i) (y:=j) (by omega) (by omega) (by omega) (by omega)
    have Z:=jP h2 h3 e2 (x:=i) (y:=j) (by omega) (by omega) (by omega)
    have Lt:(t.getD i []).length=t.length:=(h2.2 i (by omega)).1
    have La:=h3.len (e.getD i 0).toNat (by omega)
    have Lb:=h3.len (e.getD j 0).toNat (by omega)
    have hw:fV A (ba (A.getD (e.getD j 0).toNat []) (A.getD (e.getD i 0).toNat []))=c8 A e i j:=by rw [fV,if_pos W.1];rfl
    have hz:((t.getD i []).getD ((A.getD (e.getD i 0).toNat []).getD j 0).toNat 0).toNat=bu t A e i j:=rfl
    have hq:lv (A.getD (e.getD i 0).toNat []).length (A.getD (e.getD j 0).toNat []):=fun x hx=>by
     have:=h3.rng (e.getD j 0).toNat x (by omega) (by omega)
     rw [La];exact this
    have hA:bk A:=⟨by omega,fun r hr=>by
     obtain ⟨x,hx,rfl⟩:=List.getElem_of_mem hr;have:=h3.len x hx
     rw [bU A [] x hx] at this;omega⟩
    have Z1:0≤(A.getD (e.getD i 0).toNat []).getD j 0∧(A.getD (e.getD i 0).toNat []).getD j 0<(t.length:Int):=Z.1
    have Z2:0≤(t.getD i []).getD ((A.getD (e.getD i 0).toNat []).getD j 0).toNat 0∧(t.getD i []).getD ((A.getD (e.getD i 0).toNat []).getD j 0).toNat 0<(t.length:Int):=Z.2.1
    rw [hw,hz];have SS:eu t A e i j=if e.getD (bu t A e i j) 0<0 then some (e.set (bu t A e i j) (c8 A e i j)) else if e.getD (bu t A e i j) 0=c8 A e i j then some e else none:=by
     conv=>lhs;unfold eu
     rw [if_neg (by omega)]
    have gs:e.getD (bu t A e i j) 0<0→(e.set (bu t A e i j) (c8 A e i j)).getD (bu t A e i j) 0=c8 A e i j:=fun _=>by
     rw [iE _ _ _ _ (by rw [el];exact Z.2.2),if_pos rfl]
    refine ⟨by omega,by omega,by omega,by omega,by omega,by omega,by omega,by omega,by omega,⟨by omega,hq⟩,hA,by omega,fun z=>⟨by omega,by omega,fun y=>absurd (gs z) y,fun y=>?_⟩,fun z=>⟨by omega,fun y=>?_,fun y=>?_⟩⟩
    ·have N:=mS (K:=e) (z:=bu t A e i j) (w:=c8 A e i j) (by rw [el];exact Z.2.2) z W.2.1
     refine ⟨by omega,⟨j+1,e.set (bu t A e i j) (c8 A e i j)⟩,⟨by omega,by dsimp only;omega,e2.set _ ⟨by omega,W.2.2⟩,?_,by dsimp only;omega⟩,by dsimp only;omega,?_,by dsimp only;omega,rfl⟩
     ·dsimp only;rw [cS,e3];show eu t A e i j=_;rw [SS,if_pos z]
     ·exact (decide_eq_true (by dsimp only;omega)).symm
    ·rw [HQ o4 c3 e3 (by omega) (by omega) (by rw [SS,if_neg z,if_neg y])];exact ⟨rfl,rfl⟩
    ·refine ⟨by omega,⟨j+1,e⟩,⟨by omega,by dsimp only;omega,e2,same (by rw [SS,if_neg z,if_pos y]),e4⟩,by dsimp only;omega,rfl,by dsimp only;omega,rfl⟩
   ·refine ⟨by omega,⟨i+1,e⟩,⟨by dsimp only;omega,rfl,e2,?_,by dsimp only;omega⟩,by dsimp only;omega,rfl,by dsimp only;omega,rfl⟩
    dsimp only;rw [dE,c3]
    show cS t A c i t.length=_
    rw [show t.length=j by omega];exact e3
  ·have ei:i=t.length:=by omega
   rw [ei] at c3;by_cases q:au c<au o
   ·refine ⟨⟨fu,c,true⟩,⟨c2,fun _=>⟨by dsimp only;omega,?_⟩,fun h=>by cases h⟩,?_,decide_eq_true q,rfl⟩
    ·dsimp only;rw [o4,dR,c3];simp only;rw [if_pos q]
    ·dsimp only;first | omega | (simp;done) | (simp;omega)
   ·refine ⟨⟨fu,c,false⟩,⟨c2,fun h=>(by cases h),fun _=>?_⟩,?_,decide_eq_false q,rfl⟩
    ·dsimp only;rw [o4,dR,c3];simp only;rw [if_neg q]
    ·dsimp only;first | omega | (simp;done) | (simp;omega)
 ·rw [dr,o3 hg];exact ⟨rfl,rfl⟩
theorem HT:Fits Try.prog 76 ⟨[],tM⟩:=by
 refine aY (Γ:=ai AQ) (aC wu (aC AT (aC HF aQ))) Try.func76 fun ds p h hp=>?_
 unfold tM at h;split at h
 ·cases h
  exact ⟨aj,AP _ _ _ ,by rw [HR];exact HS _ _ _  hp⟩
 ·cases h
end Go.Sx
