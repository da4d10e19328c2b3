/- Grp -/
import Derived.Test.YtcdmndagoafcgaaOwn2
import Derived.Test.YtcdmndagoafcgaaCirP
import Derived.Test.YtcdmndagoafcgaaTable
import Derived.Test.YtcdmndagoafcgaaRack
open Go Go.Proofs
namespace Go.Sx
set_option linter.unusedSimpArgs false
set_option linter.unusedVariables false
def fdF (K:List (List Int)) (m:List Int):Int:=if m∈K then (idK K m:Int) else -1
def l04Find_p (K:List (List Int)) (m:List Int):Post:=⟨roomR K,.c (.int .i64 (fdF K m)),[]⟩
def l04Find_ct:List AD→Option Post
 | [.c (.rows .i64 (K)),.c (.ints .i64 (m))]=>some (l04Find_p K m)
 | _=>none
def l04Find_ann (K:List (List Int)) (m:List Int):Nat→Option Ann
 | 0=>some (Ann.mk ((Nat)) (fun i=>⟨[(0,.c (.ro (.rows .i64 (K)))),(1,.c (.ro (.ints .i64 (m)))),(5,.c (.int .i64 ((i:Int))))],[]⟩) (fun i=>i≤K.length∧(∀j,j<i→K.getD j []≠m)) (fun i=>K.length - i) (fun _=>noAnn))
 | _=>none
def l04Find_G:List (Nat×Ctr):=[(81,⟨[],l01Same_ct⟩)]
def l04Find_V (K:List (List Int)) (m:List Int):Prop :=
 ((∃x0:Nat,(((x0≤K.length)∧(∀(j:Nat),j<x0→K.getD j []≠m))∧((K=K)∧((m=m)∧((0:Int)=(↑x0:Int))))))∧(∀x1:Nat,(((x1≤K.length)∧(∀(j:Nat),j<x1→K.getD j []≠m))→(BrP (decide ((↑x1:Int)<(↑(K.length):Int))) ((inB (↑x1:Int) (K.length))∧(((room ((K.getD ((↑x1:Int).toNat) []).length))∧True)∧(BrP (decide (K.getD ((↑x1:Int).toNat) []=m)) (((↑x1:Int)=fdF K m)∧True) ((InR ((↑x1:Int)+(1:Int)))∧(∃x2:Nat,(((x2≤K.length)∧(∀(j:Nat),j<x2→K.getD j []≠m))∧((K.length - x2<K.length - x1)∧((K=K)∧((m=m)∧((↑x1:Int)+(1:Int)=(↑x2:Int))))))))))) (((-1:Int)=fdF K m)∧True)))))
theorem l04Find_vc (K:List (List Int)) (m:List Int):runF Try.prog (gam l04Find_G) noWr (l04Find_ann K m) Try.f177 (bodyOf Try.f177) [] [.c (.rows .i64 (K)),.c (.ints .i64 (m))] (l04Find_p K m)=l04Find_V K m:=by kernel_rfl
theorem l04Find_ok (K:List (List Int)) (m:List Int) (hpre:(l04Find_p K m).pre):l04Find_V K m:=by
 simp only [l04Find_p,l04Find_V,BrP_iff,u1,u2,u3,u4,u5,u6,u7,u8,u9,v1,v2,v3,v4,v5,v6,v7,v8,v9,w1,w2,w3,w4,markL_length,inB,InR,room,bdsOk] at hpre ⊢
 have hk:=hpre.1
 refine ⟨⟨0,⟨by omega,fun j h=>by omega⟩,rfl⟩,fun i ⟨hi,ih⟩=>⟨fun h=>⟨by omega,?_,fun q=>?_,fun q=>⟨by omega,i+1,⟨by omega,fun j hj=>?_⟩,by omega,by omega⟩⟩,fun h=>?_⟩⟩
 ·exact hpre.2 _ (getD_mem K [] i (by omega))
 ·rw [fdF,if_pos (by rw [←q];exact getD_mem K [] i (by omega)),idK_from i ih (by omega) q]
 ·by_cases e:j=i
  ·subst e;exact q
  ·exact ih j (by omega)
 ·rw [fdF,if_neg]
  intro hm
  obtain ⟨q1,q2⟩:=idK_lt hm
  exact ih _ (by omega) q2
theorem l04Find_fits:Fits Try.prog 177 ⟨[],l04Find_ct⟩:=by
 refine ffn (Γ:=gam l04Find_G) (gok_cons l01Same_fits gok_nil) Try.func177 fun ds p h hp=>?_
 unfold l04Find_ct at h
 split at h
 ·cases h
  exact ⟨noWr,l04Find_ann _ _ ,by rw [l04Find_vc];exact l04Find_ok _ _  hp⟩
 ·cases h
theorem lexR_step {a b:List (List Int)} (hl:a.length=b.length) {i:Nat} (h:i<a.length):lexR (a.drop i) (b.drop i)=if a.getD i []=b.getD i [] then lexR (a.drop (i+1)) (b.drop (i+1)) else lexB (a.getD i []) (b.getD i []):=by
 rw [drop_cons' a [] i h,drop_cons' b [] i (by omega),lexR]
def l03Before_p (a:List (List Int)) (b:List (List Int)):Post:=⟨roomR a∧roomR b∧a.length=b.length,.c (.bool (lexR a b)),[]⟩
def l03Before_ct:List AD→Option Post
 | [.c (.r3 .i64 ([a])),.c (.r3 .i64 ([b]))]=>some (l03Before_p a b)
 | _=>none
def l03Before_ann (a:List (List Int)) (b:List (List Int)):Nat→Option Ann
 | 0=>some (Ann.mk ((Nat)) (fun k=>⟨[(0,.c (.ro (.r3 .i64 ([a])))),(1,.c (.ro (.r3 .i64 ([b])))),(5,.c (.int .i64 ((k:Int))))],[]⟩) (fun k=>k≤1∧(k=1→lexR a b=false)) (fun k=>1 - k) (fun k=>fun b_=>match b_ with | 2=>some (Ann.mk ((Nat)) (fun i=>⟨[(0,.c (.ro (.r3 .i64 ([a])))),(1,.c (.ro (.r3 .i64 ([b])))),(5,.c (.int .i64 ((k:Int)))),(6,.c (.int .i64 ((i:Int))))],[]⟩) (fun i=>k=0∧i≤a.length∧lexR a b=lexR (a.drop i) (b.drop i)) (fun i=>a.length - i) (fun _=>noAnn)) | _=>none))
 | _=>none
def l03Before_G:List (Nat×Ctr):=[(81,⟨[],l01Same_ct⟩),(108,⟨[],l01Less_ct⟩)]
def l03Before_c1 (a:List (List Int)) (x0:Nat):=((a::([]:List (List (List Int)))).getD ((↑x0:Int).toNat) ([]:List (List Int)))
def l03Before_V (a:List (List Int)) (b:List (List Int)):Prop :=
 ((∃x0:Nat,(((x0≤(1:Nat))∧(x0=(1:Nat)→lexR a b=false))∧((a::([]:List (List (List Int)))=a::([]:List (List (List Int))))∧((b::([]:List (List (List Int)))=b::([]:List (List (List Int))))∧((0:Int)=(↑x0:Int))))))∧(∀x1:Nat,(((x1≤(1:Nat))∧(x1=(1:Nat)→lexR a b=false))→(BrP (decide ((↑x1:Int)<(↑((a::([]:List (List (List Int)))).length):Int))) ((∃x2:Nat,(((x1=(0:Nat))∧((x2≤a.length)∧(lexR a b=lexR (List.drop x2 a) (List.drop x2 b))))∧((a::([]:List (List (List Int)))=a::([]:List (List (List Int))))∧((b::([]:List (List (List Int)))=b::([]:List (List (List Int))))∧(((↑x1:Int)=(↑x1:Int))∧((0:Int)=(↑x2:Int)))))))∧(∀x3:Nat,(((x1=(0:Nat))∧((x3≤a.length)∧(lexR a b=lexR (List.drop x3 a) (List.drop x3 b))))→((inB (↑x1:Int) ((a::([]:List (List (List Int)))).length))∧(BrP (decide ((↑x3:Int)<(↑(((a::([]:List (List (List Int)))).getD ((↑x1:Int).toNat) ([]:List (List Int))).length):Int))) ((inB (↑x1:Int) ((a::([]:List (List (List Int)))).length))∧((inB (↑x3:Int) ((l03Before_c1 a x1).length))∧((inB (↑x1:Int) ((b::([]:List (List (List Int)))).length))∧((inB (↑x3:Int) (((b::([]:List (List (List Int)))).getD ((↑x1:Int).toNat) ([]:List (List Int))).length))∧(((room (((l03Before_c1 a x1).getD ((↑x3:Int).toNat) []).length))∧True) ∧
 (BrP (!decide ((List.getD (a::([]:List (List (List Int)))) ((↑x1:Int).toNat) ([]:List (List Int))).getD ((↑x3:Int).toNat) []=(List.getD (b::([]:List (List (List Int)))) ((↑x1:Int).toNat) ([]:List (List Int))).getD ((↑x3:Int).toNat) [])) ((inB (↑x1:Int) ((a::([]:List (List (List Int)))).length))∧((inB (↑x3:Int) ((l03Before_c1 a x1).length))∧((inB (↑x1:Int) ((b::([]:List (List (List Int)))).length))∧((inB (↑x3:Int) (((b::([]:List (List (List Int)))).getD ((↑x1:Int).toNat) ([]:List (List Int))).length))∧(((room (((l03Before_c1 a x1).getD ((↑x3:Int).toNat) []).length))∧True)∧((lexB ((l03Before_c1 a x1).getD ((↑x3:Int).toNat) []) ((List.getD (b::([]:List (List (List Int)))) ((↑x1:Int).toNat) ([]:List (List Int))).getD ((↑x3:Int).toNat) [])=lexR a b)∧True)))))) ((InR ((↑x3:Int)+(1:Int)))∧(∃x4:Nat,(((x1=(0:Nat))∧((x4≤a.length)∧(lexR a b=lexR (List.drop x4 a) (List.drop x4 b))))∧((a.length - x4<a.length - x3)∧((a::([]:List (List (List Int)))=a::([]:List (List (List Int))))∧((b::([]:List (List (List Int)))=b::([]:List (List (List Int))))∧(((↑x1:Int)=(↑x1:Int))∧((↑x3:Int)+(1:Int)=(↑x4:Int))))))))))))))) ((InR ((↑x1:Int)+(1:Int)))∧(∃x5:Nat,(((x5≤(1:Nat))∧(x5=(1:Nat)→lexR a b=false))∧(((1:Nat) - x5<(1:Nat) - x1)∧((a::([]:List (List (List Int)))=a::([]:List (List (List Int))))∧((b::([]:List (List (List Int)))=b::([]:List (List (List Int)))) ∧
 ((↑x1:Int)+(1:Int)=(↑x5:Int))))))))))))) ((false=lexR a b)∧True)))))
theorem l03Before_vc (a:List (List Int)) (b:List (List Int)):runF Try.prog (gam l03Before_G) noWr (l03Before_ann a b) Try.f153 (bodyOf Try.f153) [] [.c (.r3 .i64 ([a])),.c (.r3 .i64 ([b]))] (l03Before_p a b)=l03Before_V a b:=by kernel_rfl
theorem l03Before_ok (a:List (List Int)) (b:List (List Int)) (hpre:(l03Before_p a b).pre):l03Before_V a b:=by
 simp only [l03Before_p,l03Before_V,l03Before_c1,BrP_iff,u1,u2,u3,u4,u5,u6,u7,u8,u9,v1,v2,v3,v4,v5,v6,v7,v8,v9,w1,w2,w3,w4,markL_length,inB,InR,room,bdsOk] at hpre ⊢
 obtain ⟨h1,h2,h3⟩:=hpre
 have hk:=h1.1
 refine ⟨⟨0,⟨by omega,fun h=>by omega⟩,rfl⟩,fun k ⟨hk,ik⟩=>⟨fun h=>⟨⟨0,⟨by omega,by omega,rfl⟩,rfl⟩,fun i ⟨e,hi,ii⟩=>?_⟩,fun h=>(ik (by omega)).symm⟩⟩
 subst e
 have ea:[a].getD 0 []=a:=rfl
 have eb:[b].getD 0 []=b:=rfl
 rw [ea,eb]
 refine ⟨by omega,fun q=>?_,fun q=>⟨by omega,1,⟨by omega,fun _=>?_⟩,by omega,by omega⟩⟩
 ·have s:=lexR_step h3 (i:=i) (by omega)
  have r:=h1.2 _ (getD_mem a [] i (by omega))
  refine ⟨by omega,by omega,by omega,by omega,r,fun z=>⟨by omega,by omega,by omega,by omega,r,?_⟩,fun z=>⟨by omega,i+1,⟨rfl,by omega,?_⟩,by omega,by omega⟩⟩
  ·rw [ii,s,if_neg z]
  ·rw [ii,s,if_pos z]
 ·rw [ii,List.drop_of_length_le (by omega)];simp [lexR]
theorem l03Before_fits:Fits Try.prog 153 ⟨[],l03Before_ct⟩:=by
 refine ffn (Γ:=gam l03Before_G) (gok_cons l01Same_fits (gok_cons l01Less_fits gok_nil)) Try.func153 fun ds p h hp=>?_
 unfold l03Before_ct at h
 split at h
 ·cases h
  exact ⟨noWr,l03Before_ann _ _ ,by rw [l03Before_vc];exact l03Before_ok _ _  hp⟩
 ·cases h
def auF (t:List (List Int)):List (List Int):=mpR [t] [t] 1000000
def l10Automorphisms_p (t:List (List Int)):Post:=⟨tabB t=true,.c (.rows 22 2 .i64 (auF t)),[]⟩
def l10Automorphisms_ct:List AD→Option Post
 | [.c (.rows .i64 (t))]=>some (l10Automorphisms_p t)
 | _=>none
def l10Automorphisms_G:List (Nat×Ctr):=[(107,⟨[],l03Maps_ct⟩)]
def l10Automorphisms_V (t:List (List Int)):Prop :=
 (((([(0:Int)]=[(0:Int)])∧(((1:Nat)≤(t::([]:List (List (List Int)))).length)∧(((t::([]:List (List (List Int)))).length≤(1000:Nat))∧(((t::([]:List (List (List Int)))).length=(t::([]:List (List (List Int)))).length)∧(((1:Nat)≤nT (t::([]:List (List (List Int)))))∧((nT (t::([]:List (List (List Int))))≤(12:Nat))∧((tsN (nT (t::([]:List (List (List Int))))) (t::([]:List (List (List Int)))))∧((tsN (nT (t::([]:List (List (List Int))))) (t::([]:List (List (List Int)))))∧(((1:Int)≤(1000000:Int))∧((1000000:Int)≤(1000000:Int)))))))))))∧True)∧((mpR (t::([]:List (List (List Int)))) (t::([]:List (List (List Int)))) (1000000:Int)=auF t)∧True))
theorem l10Automorphisms_vc (t:List (List Int)):runF Try.prog (gam l10Automorphisms_G) noWr noAnn Try.f60 (bodyOf Try.f60) [] [.c (.rows .i64 (t))] (l10Automorphisms_p t)=l10Automorphisms_V t:=by kernel_rfl
theorem l10Automorphisms_ok (t:List (List Int)) (hpre:(l10Automorphisms_p t).pre):l10Automorphisms_V t:=by
 simp only [l10Automorphisms_p,l10Automorphisms_V,BrP_iff,u1,u2,u3,u4,u5,u6,u7,u8,u9,v1,v2,v3,v4,v5,v6,v7,v8,v9,w1,w2,w3,w4,markL_length,inB,InR,room,bdsOk] at hpre ⊢
 obtain ⟨h1,h2,h3⟩:=tabB_of hpre
 have e:nT [t]=t.length:=rfl
 have T:tsN (nT [t]) [t]:=fun k hk=>by
  have:k=0:=by simp at hk;omega
  subst this
  refine ⟨rfl,fun x hx=>⟨(h3 x hx).1,fun y hy=>?_⟩⟩
  have:=(h3 x hx).2 y hy
  have e2:en t x y=(t.getD x []).getD y 0:=rfl
  show 0≤en t x y∧en t x y<(t.length:Int)
  omega
 exact ⟨⟨by omega,by omega,by omega,by omega,T,T,by omega,by omega⟩,rfl⟩
theorem l10Automorphisms_fits:Fits Try.prog 60 ⟨[],l10Automorphisms_ct⟩:=by
 refine ffn (Γ:=gam l10Automorphisms_G) (gok_cons l03Maps_fits gok_nil) Try.func60 fun ds p h hp=>?_
 unfold l10Automorphisms_ct at h
 split at h
 ·cases h
  exact ⟨noWr,noAnn,by rw [l10Automorphisms_vc];exact l10Automorphisms_ok _  hp⟩
 ·cases h
theorem lexB_wit:∀(a b:List Int),a.length=b.length→lexB a b=true→∃i,i<a.length∧(∀j,j<i→a.getD j 0=b.getD j 0)∧a.getD i 0<b.getD i 0
 | [],[],_,h=>by cases h
 | [],_::_,hl,_=>by simp at hl
 | _::_,[],hl,_=>by simp at hl
 | x::a,y::b,hl,h=>by
  rw [lexB] at h
  by_cases e:x=y
  ·rw [if_pos e] at h
   obtain ⟨i,h1,h2,h3⟩:=lexB_wit a b (by simpa using hl) h
   refine ⟨i+1,by simp;omega,fun j hj=>?_,h3⟩
   cases j with
   | zero=>exact e
   | succ j=>exact h2 j (by omega)
  ·rw [if_neg e] at h
   exact ⟨0,by simp,fun j hj=>by omega,of_decide_eq_true h⟩
def unI (n:Nat):List Int:=tab n fun i=>(i:Int)
theorem thL_get {p q:List Int} {i:Nat} (h:i<p.length):(thL p q).getD i 0=q.getD (p.getD i 0).toNat 0:=getD_map _ _ _ _ _ h
theorem thL_length (p q:List Int):(thL p q).length=p.length:=by simp [thL]
theorem nodup_at {g:List Int} (hn:g.Nodup) {i j:Nat} (hi:i<g.length) (hj:j<g.length) (e:g.getD i 0=g.getD j 0):i=j:=by
 rw [getD_lt g 0 i hi,getD_lt g 0 j hj] at e
 exact (List.getElem_inj hn).1 e
theorem un_least {n:Nat} {g:List Int} (hl:g.length=n) (hr:∀i,i<n→0≤g.getD i 0) (hn:g.Nodup):lexB g (unI n)=false:=by
 cases e:lexB g (unI n) with
 | false=>rfl
 | true =>
  exfalso
  obtain ⟨i,h1,h2,h3⟩:=lexB_wit g (unI n) (by rw [hl,unI,tab_length]) e
  have u:∀j,j<n→(unI n).getD j 0=(j:Int):=fun j hj=>tab_getD _ _ _ hj
  rw [u i (by omega)] at h3
  have h0:=hr i (by omega)
  have hj:=h2 (g.getD i 0).toNat (by omega)
  rw [u _ (by omega)] at hj
  have:g.getD (g.getD i 0).toNat 0=g.getD i 0:=by omega
  have:=nodup_at hn (i:=(g.getD i 0).toNat) (j:=i) (by omega) h1 this
  omega
section
variable {n:Nat} {t:List (List Int)}
theorem un_iso (ht:tbN n t):isoL n [t] [t] (unI n) where
 len:=tab_length _ _
 rng i hi:=by rw [unI,tab_getD _ _ _ hi];omega
 nd:=by
  rw [unI,tab,List.Nodup,List.pairwise_map]
  exact (List.nodup_range (n:=n)).imp fun {x y} h e=>h (by omega)
 ok k x y hk hx hy hv:=by
  have k0:k=0:=by simp at hk;omega
  subst k0
  have hx:x<n:=by rwa [unI,tab_length] at hx
  have hy:y<n:=by rwa [unI,tab_length] at hy
  have e:[t].getD 0 []=t:=rfl
  rw [e] at hv ⊢
  have v:=(ht.2 x hx).2 y hy
  rw [unI,tab_getD _ _ _ hx,tab_getD _ _ _ hy,tab_getD _ _ _ (by omega),Int.toNat_natCast,Int.toNat_natCast,Int.toNat_of_nonneg v.1]
theorem iso_th (ht:tbN n t) {g h:List Int} (hg:isoL n [t] [t] g) (hh:isoL n [t] [t] h):isoL n [t] [t] (thL g h) where
 len:=by rw [thL_length];exact hg.len
 rng i hi:=by
  rw [thL_get (by rw [hg.len];exact hi)]
  have:=hg.rng i hi
  exact hh.rng _ (by omega)
 nd:=by
  have G:=hg.g (fun k hk=>by have k0:k=0:=(by simp at hk;omega);subst k0;exact ht)
  have H:=hh.g (fun k hk=>by have k0:k=0:=(by simp at hk;omega);subst k0;exact ht)
  have gl:=hg.len
  rw [List.Nodup,List.pairwise_iff_getElem]
  intro i j hi hj hij e
  rw [thL_length] at hi hj
  rw [←getD_lt _ 0 i (by rw [thL_length];exact hi),←getD_lt _ 0 j (by rw [thL_length];exact hj),thL_get hi,thL_get hj] at e
  have a:=hg.rng i (by omega)
  have b:=hg.rng j (by omega)
  have a2:=hh.rng (g.getD i 0).toNat (by omega)
  have b2:=hh.rng (g.getD j 0).toNat (by omega)
  have q:=H.inj (g.getD i 0).toNat (g.getD j 0).toNat (by omega) (by omega) (by rw [e])
  have:=G.inj i j (by omega) (by omega) q
  omega
 ok k x y hk hx hy hv:=by
  have k0:k=0:=by simp at hk;omega
  subst k0
  have gl:=hg.len
  have hl:=hh.len
  rw [thL_length] at hx hy hv
  have e:[t].getD 0 []=t:=rfl
  rw [e] at hv ⊢
  have v:=(ht.2 x (by omega)).2 y (by omega)
  have a:=hg.rng x (by omega)
  have b:=hg.rng y (by omega)
  rw [thL_get (by omega),thL_get (by omega),thL_get (by omega)]
  have o1:=hg.ok 0 x y (by simp) (by omega) (by omega) (by rw [e];omega)
  rw [e] at o1
  rw [o1]
  have w:=(ht.2 (g.getD x 0).toNat (by omega)).2 (g.getD y 0).toNat (by omega)
  have o2:=hh.ok 0 (g.getD x 0).toNat (g.getD y 0).toNat (by simp) (by omega) (by omega) (by rw [e];omega)
  rw [e] at o2
  exact o2
theorem ts1 (ht:tbN n t):tsN n [t]:=fun k hk=>by
 have k0:k=0:=by simp at hk;omega
 subst k0;exact ht
theorem auL_ok (ht:tbN n t) (hn:1≤n):AuOk n (auL n [t] [t])∧(auL n [t] [t]).getD 0 []=unI n:=by
 have T:=ts1 ht
 have U:unI n∈auL n [t] [t]:=(auL_mem T hn).2 ⟨un_iso ht,by rw [unI,tab_getD _ _ _ (by omega)];rfl⟩
 have I:∀i,i<(auL n [t] [t]).length→isoL n [t] [t] ((auL n [t] [t]).getD i [])∧((auL n [t] [t]).getD i []).getD 0 0=0:=fun i hi=>(auL_mem T hn).1 (getD_mem _ [] i hi)
 have P:1≤(auL n [t] [t]).length:=List.length_pos_of_mem U
 refine ⟨⟨P,fun i hi=>(I i hi).1.len,fun i x hi hx=>(I i hi).1.rng x hx,fun i j hi hj=>(auL_mem T hn).2 ⟨iso_th ht (I i hi).1 (I j hj).1,?_⟩⟩,?_⟩
 ·have a:=(I i hi).1.len
  rw [thL_get (by omega),(I i hi).2];exact (I j hj).2
 ·obtain ⟨j,hj,e⟩:=List.getElem_of_mem U
  by_cases j0:j=0
  ·subst j0;rw [getD_lt _ [] 0 hj,e]
  ·exfalso
   have S:=List.pairwise_iff_getElem.1 (auL_srt n [t] [t]) 0 j (by omega) hj (by omega)
   have a:=(I 0 (by omega)).1
   rw [getD_lt _ [] 0 (by omega)] at a
   have:=un_least a.len (fun i hi=>(a.rng i hi).1) a.nd
   rw [e] at S
   rw [S] at this;cases this
theorem auF_eq (ht:tbN n t) (hn:1≤n) (h:(auF t).length≤999999):auF t=auL n [t] [t]:=by
 have e:nT [t]=n:=ht.1
 have T:=ts1 ht
 have E:auF t=(auL n [t] [t]).take 1000000:=by
  rw [auF,mpR,if_pos rfl,e]
  exact mpL_eq T rfl hn (by omega)
 rw [E,List.length_take] at h
 rw [E,List.take_of_length_le (by omega)]
theorem auF_ok (ht:tbN n t) (hn:1≤n) (h:(auF t).length≤999999):AuOk n (auF t)∧cmI (auF t) 0 0=0:=by
 rw [auF_eq ht hn h]
 obtain ⟨a,b⟩:=auL_ok ht hn
 refine ⟨a,?_⟩
 have th:thL (unI n) (unI n)=unI n:=by
  refine list_ext (by rw [thL_length]) fun i hi=>?_
  rw [thL_length,unI,tab_length] at hi
  rw [thL_get (by rw [unI,tab_length];exact hi),unI,tab_getD _ _ _ hi,Int.toNat_natCast,tab_getD _ _ _ hi]
 have z:(0:Int).toNat=0:=rfl
 rw [cmI,z,b,th]
 exact idK_from 0 (fun j hj=>by omega) (by have:=a.pos;omega) b
end
def bitB (s:Int) (x:Nat):Bool:=s.toNat.testBit x
def mskN (p:Nat→Bool):Nat→Nat
 | 0=>0
 | i+1=>if p i=true then mskN p i ||| 2 ^ i else mskN p i
theorem mskN_lt (p:Nat→Bool):∀i,mskN p i<2 ^ i
 | 0=>by simp [mskN]
 | i+1=>by
  have h:=mskN_lt p i
  have h2:mskN p i<2 ^ (i+1):=by rw [Nat.pow_succ];omega
  simp only [mskN]
  split
  ·exact Nat.or_lt_two_pow h2 (by rw [Nat.pow_succ];have:=Nat.two_pow_pos i;omega)
  ·exact h2
theorem rg_step (f:Nat→Bool) {i N:Nat} (h:i<N):(List.range' i (N - i)).all f=(f i&&(List.range' (i+1) (N - (i+1))).all f):=by
 rw [show N - i=(N - (i+1))+1 by omega,List.range'_succ];rfl
theorem rg_end (f:Nat→Bool) {i N:Nat} (h:N≤i):(List.range' i (N - i)).all f=true:=by
 rw [show N - i=0 by omega];rfl
theorem rg_start (f:Nat→Bool) (N:Nat):(List.range N).all f=(List.range' 0 (N - 0)).all f:=by
 rw [List.range_eq_range',Nat.sub_zero]
theorem firstO_some {α:Type} {n:Nat} {q:Nat→Option α} {r:α}:∀{k:Nat},firstO n q k=some r→∃i,q i=some r
 | 0,h=>by cases h
 | k+1,h=>by
  simp only [firstO,Option.or_eq_some_iff] at h
  rcases h with h | ⟨_,h⟩
  ·exact ⟨_,h⟩
  ·exact firstO_some h
theorem all_idx (t:List (List Int)) (f:List Int→Bool):t.all f=(List.range t.length).all fun x=>f (t.getD x []):=by
 rw [Bool.eq_iff_iff,List.all_eq_true,List.all_eq_true]
 constructor
 ·intro h x hx
  rw [List.mem_range] at hx
  exact h _ (getD_mem t [] x hx)
 ·intro h r hr
  obtain ⟨k,hk,rfl⟩:=List.getElem_of_mem hr
  have:=h k (by simpa using hk)
  rwa [getD_lt _ _ _ hk] at this
theorem all_and (l:List Nat) (f g:Nat→Bool):(l.all f&&l.all g)=l.all fun x=>f x&&g x:=by
 rw [Bool.eq_iff_iff]
 simp only [Bool.and_eq_true,List.all_eq_true]
 exact ⟨fun h x hx=>⟨h.1 x hx,h.2 x hx⟩,fun h=>⟨fun x hx=>(h x hx).1,fun x hx=>(h x hx).2⟩⟩
def asZ (t:List (List Int)) (x y z:Nat):Bool:=decide (en t (en t x y).toNat z=en t x (en t y z).toNat)
def asY (t:List (List Int)) (x y:Nat):Bool:=(List.range t.length).all (asZ t x y)
def asX (t:List (List Int)) (x:Nat):Bool:=(List.range t.length).all (asY t x)
def zrX (t:List (List Int)) (x:Nat):Bool:=decide (en t 0 x=(x:Int))&&decide (en t x 0=(x:Int))
def gpX (t:List (List Int)) (x:Nat):Bool:=zrX t x&&asX t x
def hpX (t:List (List Int)) (x:Nat):Bool:=zrX t x&&(permB (t.getD x [])&&asX t x)
def grpB (t:List (List Int)):Bool:=tabB t&&(t.all permB&&(List.range t.length).all (gpX t))
theorem grp_eq (t:List (List Int)):grpB t=(tabB t&&(List.range t.length).all (hpX t)):=by
 rw [grpB,all_idx,all_and]
 congr 2
 funext x
 simp only [gpX,hpX]
 cases permB (t.getD x []) <;> cases zrX t x <;> simp
theorem grp_tab {t:List (List Int)} (h:grpB t=true):tabB t=true:=by
 rw [grpB,Bool.and_eq_true] at h;exact h.1
def bk (t:List (List Int)) (x:Nat):Int:=idxL 0 (t.getD x []) 0
theorem idxL_lt (x:Int):∀(l:List Int) (k:Int),0≤k→idxL x l k<k+(l.length:Int)
 | [],k,h=>by simp [idxL];omega
 | y::l,k,h=>by
  simp only [idxL,List.length_cons]
  split
  ·omega
  ·have:=idxL_lt x l (k+1) (by omega)
   omega
theorem perm_has {l:List Int} (h:permB l=true) {x:Int} (h0:0≤x) (h1:x<(l.length:Int)):x∈l:=perm_all.1 h x h0 h1
theorem bk_in {t:List (List Int)} (h:grpB t=true) {x:Nat} (hx:x<t.length):0≤bk t x∧bk t x≤(t.length:Int) - 1:=by
 have ht:=tabB_of (grp_tab h)
 have hr:=(ht.2.2 x hx).1
 rw [grpB,Bool.and_eq_true,Bool.and_eq_true] at h
 have hp:permB (t.getD x [])=true:=by
  have:=h.2.1
  rw [all_idx,List.all_eq_true] at this
  exact this x (by simpa using hx)
 have hm:=perm_has hp (x:=0) (by omega) (by omega)
 have h1:=idxL_mem 0 (t.getD x []) 0 (by omega)
 have h2:=idxL_lt 0 (t.getD x []) 0 (by omega)
 rw [decide_eq_true hm] at h1
 have h3:=of_decide_eq_true h1
 unfold bk
 omega
def bkL (t:List (List Int)):List Int:=tab t.length (bk t)
theorem bkL_length (t:List (List Int)):(bkL t).length=t.length:=tab_length _ _
theorem bkL_getD (t:List (List Int)) (x:Nat) (h:x<t.length):(bkL t).getD x 0=bk t x:=tab_getD _ _ _ h
def brZ (a c:List (List Int)) (x y z:Nat):Option (List Int) :=
 if en c x (en a y z).toNat=en a (en a (en c x y).toNat (bk a x).toNat).toNat (en c x z).toNat then none else some [(x:Int),(y:Int),(z:Int)]
def brY (a c:List (List Int)) (x y:Nat):Option (List Int):=firstO a.length (brZ a c x y) a.length
def brX (a c:List (List Int)) (x:Nat):Option (List Int):=firstO a.length (brY a c x) a.length
def brF (a c:List (List Int)):Option (List Int):=firstO a.length (brX a c) a.length
def brcB (a c:List (List Int)):Bool:=grpB a&&grpB c&&decide (a.length=c.length)&&(brF a c).isNone
theorem brcB_of {a c:List (List Int)} (h:brcB a c=true):grpB a=true∧grpB c=true∧a.length=c.length∧(brF a c).isNone=true:=by
 simp only [brcB,Bool.and_eq_true,decide_eq_true_eq] at h
 exact ⟨h.1.1.1,h.1.1.2,h.1.2,h.2⟩
theorem brF_some {a c:List (List Int)} {l:List Int} (h:brF a c=some l):l≠[]:=by
 obtain ⟨x,hx⟩:=firstO_some h
 obtain ⟨y,hy⟩:=firstO_some hx
 obtain ⟨z,hz⟩:=firstO_some hy
 unfold brZ at hz
 split at hz
 ·cases hz
 ·cases hz;simp
end Go.Sx
