/- CbdI -/
import Derived.Test.YtbppifmljnnogaaGreatCbdP
import Derived.Test.YtbppifmljnnogaaGreatDrawY
open Go Go.Proofs
namespace Go.Sx
set_option linter.unusedSimpArgs false
set_option linter.unusedVariables false
def seF (m:Int) (g:List Int) (a:Int):Int:=a.tdiv m * m+(a.tmod m+g.getD (a.tdiv m).toNat 0).tmod m
def seL (n m:Int) (g:List Int):List Int:=tab (n * m).toNat fun i=>seF m g (i:Int)
theorem bk_at {p:List Int} (h:permB p=true):∀(i k:Nat),i≤p.length→k<i→(bkN p i).getD (p.getD k 0).toNat 0=(k:Int)
 | 0,_,_,hk=>by omega
 | i+1,k,hi,hk=>by
  simp only [permB,decide_eq_true_eq] at h
  have rg:∀j,j<p.length→0≤p.getD j 0∧p.getD j 0<(p.length:Int):=fun j hj=>h.1 _ (getD_mem p 0 j hj)
  have rk:=rg k (by omega)
  have ri:=rg i (by omega)
  rw [bkN,getD_set _ _ _ _ (by rw [bkN_length];omega)]
  by_cases e:k=i
  ·rw [e,if_pos rfl]
  ·rw [if_neg]
   ·exact bk_at (by simp only [permB,decide_eq_true_eq];exact h) i k (by omega) (by omega)
   ·intro q
    have q:p.getD k 0=p.getD i 0:=by omega
    rw [getD_lt p 0 k (by omega),getD_lt p 0 i (by omega)] at q
    exact e ((List.getElem_inj h.2).1 q)
def rnT (t:List (List Int)) (p:List Int):List (List Int):=tabR t.length fun x y=>p.getD (en t ((bkL p).getD x 0).toNat ((bkL p).getD y 0).toNat).toNat 0
theorem se_at {n M:Nat} {g:List Int} (hg:g.length=n) (hg2:∀k,k<n→0≤g.getD k 0) {x s:Nat} (hx:x<n) (hs:s<M) :
  (seL (n:Int) (M:Int) g).getD (x * M+s) 0=((x * M+(s+(g.getD x 0).toNat) % M:Nat):Int):=by
 have eK:((n:Int) * (M:Int)).toNat=n * M:=by rw [←Int.natCast_mul];rfl
 rw [seL,eK,tab_getD _ _ _ (dm_lt hx hs),seF]
 have d1:(((x * M+s:Nat):Int)).tdiv (M:Int)=(x:Int):=by
  rw [Int.tdiv_eq_ediv_of_nonneg (by omega)]
  have:(x * M+s) / M=x:=by rw [Nat.mul_comm,Nat.mul_add_div (by omega),Nat.div_eq_of_lt hs,Nat.add_zero]
  exact_mod_cast this
 have d2:(((x * M+s:Nat):Int)).tmod (M:Int)=(s:Int):=by
  rw [Int.tmod_eq_emod_of_nonneg (by omega)]
  have:(x * M+s) % M=s:=by rw [Nat.mul_comm,Nat.mul_add_mod,Nat.mod_eq_of_lt hs]
  exact_mod_cast this
 rw [d1,d2,Int.toNat_natCast]
 have e:g.getD x 0=(((g.getD x 0).toNat:Nat):Int):=by have:=hg2 x hx;omega
 rw [e,Int.tmod_eq_emod_of_nonneg (by omega)]
 simp
theorem se_len (n M:Nat) (g:List Int):(seL (n:Int) (M:Int) g).length=n * M:=by
 rw [seL,tab_length,←Int.natCast_mul];rfl
theorem se_pre {M s v:Nat} (hs:s<M) (hv:v<M):((s+(M - v)) % M+v) % M=s:=by
 rw [Nat.mod_add_mod,show s+(M - v)+v=s+M by omega,Nat.add_mod_right,Nat.mod_eq_of_lt hs]
section
variable {t f:List (List Int)} {m:Int} {g:List Int}
theorem sm_mat (h1:tabB t=true) (h2:matB (t.length:Int) m f=true) (h3:shiftB (t.length:Int) m g=true):matB (t.length:Int) m (tabR t.length (smF t m f g))=true:=by
 obtain ⟨m1,m2,m3,hg⟩:=shiftB_of h3
 obtain ⟨_,_,f3,hf⟩:=matB_of h2
 simp only [matB,matsB,Bool.and_eq_true,decide_eq_true_eq,List.all_eq_true]
 refine ⟨⟨m1,m2⟩,by rw [tabR_length],fun r hr=>?_⟩
 obtain ⟨x,hx,rfl⟩:=List.getElem_of_mem hr
 rw [tabR_length] at hx
 rw [←getD_lt _ [] x (by rw [tabR_length];exact hx),tabR_getD _ _ _ hx]
 simp only [numsB,Bool.and_eq_true,decide_eq_true_eq]
 refine ⟨?_,by rw [tab_length]⟩
 rw [allW,List.all_eq_true]
 intro v hv
 obtain ⟨y,hy,rfl⟩:=List.getElem_of_mem hv
 rw [tab_length] at hy
 rw [←getD_lt _ 0 y (by rw [tab_length];exact hy),tab_getD _ _ _ hy]
 have:=cbF_in h1 h3 x y hx hy
 have b:=(hf x (by omega)).2 y (by have:=(hf x (by omega)).1;omega)
 have:0≤smF t m f g x y∧smF t m f g x y≤m - 1:=tmod_in (by omega) m1
 simp only [decide_eq_true_eq];omega
theorem en_tab {n:Nat} {F:Nat→Nat→Int} {x y:Nat} (hx:x<n) (hy:y<n):en (tabR n F) x y=F x y:=by
 rw [en,tabR_getD _ _ _ hx,tab_getD _ _ _ hy]
theorem sm_at (h1:tabB t=true) (h2:matB (t.length:Int) m f=true) (h3:shiftB (t.length:Int) m g=true) {x y:Nat} (hx:x<t.length) (hy:y<t.length) :
  (smF t m f g x y).toNat=((en f x y).toNat+((g.getD (en t x y).toNat 0).toNat+(m.toNat - (g.getD y 0).toNat)) % m.toNat) % m.toNat:=by
 obtain ⟨m1,m2,m3,hg⟩:=shiftB_of h3
 obtain ⟨_,_,f3,hf⟩:=matB_of h2
 have q:=cb_in h1 h3 x y hx hy
 have b:=(hf x (by omega)).2 y (by have:=(hf x (by omega)).1;omega)
 have c:=cbF_in h1 h3 x y hx hy
 have e1:cbF t m g x y=((((g.getD (en t x y).toNat 0).toNat+(m.toNat - (g.getD y 0).toNat)) % m.toNat:Nat):Int):=by
  unfold cbF
  rw [Int.tmod_eq_emod_of_nonneg (by omega),Int.natCast_emod]
  have:g.getD ((t.getD x []).getD y 0).toNat 0 - g.getD y 0+m=(((g.getD (en t x y).toNat 0).toNat+(m.toNat - (g.getD y 0).toNat):Nat):Int):=by unfold en;omega
  rw [this]
  congr 1
  omega
 have e2:(f.getD x []).getD y 0=(((en f x y).toNat:Nat):Int):=by unfold en;omega
 have e3:m=((m.toNat:Nat):Int):=by omega
 have e:smF t m f g x y=((((en f x y).toNat+((g.getD (en t x y).toNat 0).toNat+(m.toNat - (g.getD y 0).toNat)) % m.toNat) % m.toNat:Nat):Int):=by
  unfold smF
  rw [e1,e2]
  conv=>lhs;arg 2;rw [e3]
  rw [Int.tmod_eq_emod_of_nonneg (by omega)]
  simp
 rw [e];rfl
theorem se_perm (h1:tabB t=true) (h3:shiftB (t.length:Int) m g=true):permB (seL (t.length:Int) m g)=true:=by
 obtain ⟨m1,m2,m3,hg⟩:=shiftB_of h3
 obtain ⟨M,rfl⟩:∃M:Nat,m=(M:Int):=⟨m.toNat,by omega⟩
 refine perm_all.2 fun a ha ha2=>?_
 rw [se_len] at ha2
 obtain ⟨x,s,hx,hs,e⟩:=dm_of (show a.toNat<t.length * M by omega)
 have gx:=hg x (by omega)
 have hv:(g.getD x 0).toNat<M:=by omega
 have k:=se_at (n:=t.length) (M:=M) (g:=g) (by omega) (fun k hk=>(hg k (by omega)).1) hx (Nat.mod_lt (s+(M - (g.getD x 0).toNat)) (show 0<M by omega))
 rw [se_pre hs hv,←e] at k
 have l:x * M+(s+(M - (g.getD x 0).toNat)) % M<(seL (t.length:Int) (M:Int) g).length:=by rw [se_len];exact dm_lt hx (Nat.mod_lt _ (by omega))
 have:=getD_mem _ 0 _ l
 rw [k] at this
 rwa [show ((a.toNat:Nat):Int)=a by omega] at this
theorem rn_ext (h1:tabB t=true) (h2:matB (t.length:Int) m f=true) (h3:shiftB (t.length:Int) m g=true) :
  rnT (exR t m f) (seL (t.length:Int) m g)=exR t m (tabR t.length (smF t m f g)):=by
 have P:=se_perm h1 h3
 have M2:=sm_mat h1 h2 h3
 obtain ⟨m1,m2,m3,hg⟩:=shiftB_of h3
 have L:=ex_len (t:=t) (f:=f) m1
 obtain ⟨n1,n2,ht⟩:=tabB_of h1
 have eK:((t.length:Int) * m).toNat=t.length * m.toNat:=by
  have:(t.length:Int) * m=((t.length * m.toNat:Nat):Int):=by rw [Int.natCast_mul];congr 1;omega
  rw [this];rfl
 have M0:0<m.toNat:=by omega
 have em:((m.toNat:Nat):Int)=m:=by omega
 have sL:(seL (t.length:Int) m g).length=t.length * m.toNat:=by rw [←em];exact se_len _ _ _
 have gl:∀k,k<t.length→0≤g.getD k 0:=fun k hk=>(hg k (by omega)).1
 have vl:∀k,k<t.length→(g.getD k 0).toNat<m.toNat:=fun k hk=>by have:=hg k (by omega);omega
 have at_:∀x s,x<t.length→s<m.toNat→(seL (t.length:Int) m g).getD (x * m.toNat+s) 0=((x * m.toNat+(s+(g.getD x 0).toNat) % m.toNat:Nat):Int):=fun x s hx hs=>by
  have:=se_at (n:=t.length) (M:=m.toNat) (g:=g) (by omega) gl hx hs
  rwa [em] at this
 have back:∀x s,x<t.length→s<m.toNat→((bkL (seL (t.length:Int) m g)).getD (x * m.toNat+s) 0).toNat=x * m.toNat+(s+(m.toNat - (g.getD x 0).toNat)) % m.toNat:=fun x s hx hs=>by
  have l:x * m.toNat+(s+(m.toNat - (g.getD x 0).toNat)) % m.toNat<(seL (t.length:Int) m g).length:=by rw [sL];exact dm_lt hx (Nat.mod_lt _ M0)
  have b:=bk_at P _ _ (Nat.le_refl _) l
  rw [at_ x _ hx (Nat.mod_lt _ M0),se_pre hs (vl x hx),Int.toNat_natCast] at b
  rw [bkL,b,Int.toNat_natCast]
 rw [rnT,L]
 conv=>rhs;rw [exR,eK]
 refine tabR_ext fun a b ha hb=>?_
 obtain ⟨x,s,hx,hs,rfl⟩:=dm_of ha
 obtain ⟨y,u,hy,hu,rfl⟩:=dm_of hb
 have R:=ex_en h1 M2 hx hs hy hu
 rw [exR,eK,en_tab ha hb] at R
 rw [R,back x s hx hs,back y u hy hu,ex_en h1 h2 hx (Nat.mod_lt _ M0) hy (Nat.mod_lt _ M0),Int.toNat_natCast]
 have lz:(en t x y).toNat<t.length:=by have:=(ht x hx).2 y hy;unfold en;omega
 rw [at_ _ _ lz (Nat.mod_lt _ M0),en_tab hx hy,sm_at h1 h2 h3 hx hy]
 congr 2
 have vz:=vl _ lz
 have vy:=vl y hy
 generalize (g.getD (en t x y).toNat 0).toNat=p at *
 generalize (g.getD y 0).toNat=q at *
 generalize (en f x y).toNat=w at *
 generalize m.toNat=M at *
 simp only [Nat.mod_add_mod,Nat.add_mod_mod]
 congr 1
 omega
end
def inverseG_p (p:List Int):Post:=⟨room p.length∧inQ p.length p,.c (.ints 2 .i64 (bkL p)),[]⟩
def inverseG_ct:List AD→Option Post
 | [.c (.ints .i64 (p))]=>some (inverseG_p p)
 | _=>none
def inverseG_ann (p:List Int):Nat→Option Ann
 | 0=>some (Ann.mk ((Nat)) (fun i=>⟨[(0,.c (.ro (.ints .i64 (p)))),(3,.c (.own (8))),(9,.c (.ro (.ints .i64 (p)))),(10,.c (.int .i64 ((p.length:Int)))),(11,.c (.int .i64 ((i:Int))))],[(8,some (.ints 2 .i64 (bkN p i)))]⟩) (fun i=>i≤p.length) (fun i=>p.length - i) (fun _=>noAnn))
 | _=>none
def inverseG_G:List (Nat×Ctr):=[]
def inverseG_V (p:List Int):Prop :=
 ((((0:Int)≤(↑(p.length):Int))∧(((↑(p.length):Int)≤(↑(p.length):Int))∧(room ((↑(p.length):Int).toNat))))∧((∃x0:Nat,((x0≤p.length)∧((p=p)∧((p=p)∧(((↑(p.length):Int)=(↑(p.length):Int))∧(((0:Int)=(↑x0:Int))∧(List.replicate ((↑(p.length):Int).toNat) (0:Int)=bkN p x0)))))))∧(∀x1:Nat,((x1≤p.length)→(BrP (decide ((↑x1:Int)<(↑(p.length):Int))) ((inB (↑x1:Int) (p.length))∧((inB (p.getD ((↑x1:Int).toNat) (0:Int)) ((bkN p x1).length))∧((InR ((↑x1:Int)+(1:Int)))∧(∃x2:Nat,((x2≤p.length)∧((p.length - x2<p.length - x1)∧((p=p)∧((p=p)∧(((↑(p.length):Int)=(↑(p.length):Int))∧(((↑x1:Int)+(1:Int)=(↑x2:Int))∧(List.set (bkN p x1) ((p.getD ((↑x1:Int).toNat) (0:Int)).toNat) (↑x1:Int)=bkN p x2))))))))))) ((bkN p x1=bkL p)∧True))))))
theorem inverseG_vc (p:List Int):runF Tryz.prog (gam inverseG_G) noWr (inverseG_ann p) Tryz.f119 (bodyOf Tryz.f119) [] [.c (.ints .i64 (p))] (inverseG_p p)=inverseG_V p:=by kernel_rfl
theorem inverseG_ok (p:List Int) (hpre:(inverseG_p p).pre):inverseG_V p:=by
 simp only [inverseG_p,inverseG_V,BrP_iff,u1,u2,u3,u4,u5,u6,u7,u8,u9,v1,v2,v3,v4,v5,v6,v7,v8,v9,w1,w2,w3,w4,markL_length,inB,InR,room,bdsOk] at hpre ⊢
 obtain ⟨h1,h2⟩:=hpre
 refine ⟨by omega,⟨0,by omega,rfl,rfl⟩,fun i hi=>⟨fun h=>?_,fun h=>?_⟩⟩
 ·have hr:=h2 i (by omega)
  rw [bkN_length]
  exact ⟨by omega,by omega,by omega,i+1,by omega,by omega,by omega,rfl⟩
 ·rw [show i=p.length by omega];rfl
theorem inverseG_fits:Fits Tryz.prog 119 ⟨[],inverseG_ct⟩:=by
 refine ffn (Γ:=gam inverseG_G) gok_nil Tryz.func119 fun ds p h hp=>?_
 unfold inverseG_ct at h
 split at h
 ·cases h
  exact ⟨noWr,inverseG_ann _ ,by rw [inverseG_vc];exact inverseG_ok _  hp⟩
 ·cases h
def renamed1_p (x:Int) (y:Int) (p:List Int) (t:List (List Int)) (q:List Int):Post:=⟨0≤x∧x<(q.length:Int)∧0≤y∧y<(q.length:Int)∧0≤q.getD x.toNat 0∧q.getD x.toNat 0<(t.length:Int)∧0≤q.getD y.toNat 0∧q.getD y.toNat 0<((t.getD (q.getD x.toNat 0).toNat []).length:Int)∧0≤(t.getD (q.getD x.toNat 0).toNat []).getD (q.getD y.toNat 0).toNat 0∧(t.getD (q.getD x.toNat 0).toNat []).getD (q.getD y.toNat 0).toNat 0<(p.length:Int),.c (.int .i64 (p.getD ((t.getD (q.getD x.toNat 0).toNat []).getD (q.getD y.toNat 0).toNat 0).toNat 0)),[]⟩
def renamed1_ct:List AD→Option Post
 | [.c (.int .i64 (x)),.c (.int .i64 (y)),.box [.ints .i64 (p)],.box [.rows .i64 (t)],.box [.ints .i64 (q)]]=>some (renamed1_p x y p t q)
 | _=>none
def renamed1_G:List (Nat×Ctr):=[]
def renamed1_V (x:Int) (y:Int) (p:List Int) (t:List (List Int)) (q:List Int):Prop :=
 ((inB x (q.length))∧((inB (q.getD (x.toNat) (0:Int)) (t.length))∧((inB y (q.length))∧((inB (q.getD (y.toNat) (0:Int)) ((t.getD ((q.getD (x.toNat) (0:Int)).toNat) []).length))∧((inB ((List.getD t ((List.getD q (x.toNat) (0:Int)).toNat) []).getD ((q.getD (y.toNat) (0:Int)).toNat) (0:Int)) (p.length))∧((p.getD (((List.getD t ((List.getD q (x.toNat) (0:Int)).toNat) []).getD ((q.getD (y.toNat) (0:Int)).toNat) (0:Int)).toNat) (0:Int)=p.getD (((List.getD t ((List.getD q (x.toNat) (0:Int)).toNat) []).getD ((q.getD (y.toNat) (0:Int)).toNat) (0:Int)).toNat) (0:Int))∧True))))))
theorem renamed1_vc (x:Int) (y:Int) (p:List Int) (t:List (List Int)) (q:List Int):runF Tryz.prog (gam renamed1_G) noWr noAnn Tryz.f120 (bodyOf Tryz.f120) [] [.c (.int .i64 (x)),.c (.int .i64 (y)),.box [.ints .i64 (p)],.box [.rows .i64 (t)],.box [.ints .i64 (q)]] (renamed1_p x y p t q)=renamed1_V x y p t q:=by kernel_rfl
theorem renamed1_ok (x:Int) (y:Int) (p:List Int) (t:List (List Int)) (q:List Int) (hpre:(renamed1_p x y p t q).pre):renamed1_V x y p t q:=by
 simp only [renamed1_p,renamed1_V,BrP_iff,u1,u2,u3,u4,u5,u6,u7,u8,u9,v1,v2,v3,v4,v5,v6,v7,v8,v9,w1,w2,w3,w4,markL_length,inB,InR,room,bdsOk] at hpre ⊢
 omega
theorem renamed1_fits:Fits Tryz.prog 120 ⟨[],renamed1_ct⟩:=by
 refine ffn (Γ:=gam renamed1_G) gok_nil Tryz.func120 fun ds p h hp=>?_
 unfold renamed1_ct at h
 split at h
 ·cases h
  exact ⟨noWr,noAnn,by rw [renamed1_vc];exact renamed1_ok _ _ _ _ _  hp⟩
 ·cases h
theorem perm_q {p:List Int} (h:permB p=true):inQ p.length p:=fun i hi=>by
 simp only [permB,decide_eq_true_eq] at h
 exact h.1 _ (getD_mem p 0 i hi)
theorem bkN_in {p:List Int} {n:Nat} (hn:p.length≤n) (h0:1≤n):∀i k,i≤p.length→k<p.length→0≤(bkN p i).getD k 0∧(bkN p i).getD k 0<(n:Int)
 | 0,k,_,hk=>by simp [bkN,List.getD_eq_getElem?_getD,hk];omega
 | i+1,k,hi,hk=>by
  rw [bkN,getD_set _ _ _ _ (by rw [bkN_length];exact hk)]
  split
  ·omega
  ·exact bkN_in hn h0 i k (by omega) hk
def renamed_p (t:List (List Int)) (p:List Int):Post:=⟨tabB t=true∧permB p=true∧p.length=t.length,.c (.rows 31 2 .i64 (rnT t p)),[]⟩
def renamed_ct:List AD→Option Post
 | [.c (.rows .i64 (t)),.c (.ints .i64 (p))]=>some (renamed_p t p)
 | _=>none
def renamed_G:List (Nat×Ctr):=[(119,⟨[],inverseG_ct⟩),(82,⟨[],tableBy_ct⟩),(120,⟨[],renamed1_ct⟩)]
def renamed_V (t:List (List Int)) (p:List Int):Prop :=
 ((((room (p.length))∧(inQ (p.length) p))∧True)∧(((((0:Int)≤(↑(t.length):Int))∧(((↑(t.length):Int)≤(144:Int))∧(∀(x y:Int),(0:Int)≤x→x<(↑(t.length):Int)→(0:Int)≤y→y<(↑(t.length):Int)→ctQI (renamed1_ct [AD.c (FC.int IntKind.i64 x),AD.c (FC.int IntKind.i64 y),AD.box [FC.ints IntKind.i64 p],AD.box [FC.rows IntKind.i64 t],AD.box [FC.ints IntKind.i64 (bkL p)]]))))∧True)∧(((tabR ((↑(t.length):Int).toNat) fun (x y:Nat)=>ctI (renamed1_ct [AD.c (FC.int IntKind.i64 (↑x:Int)),AD.c (FC.int IntKind.i64 (↑y:Int)),AD.box [FC.ints IntKind.i64 p],AD.box [FC.rows IntKind.i64 t],AD.box [FC.ints IntKind.i64 (bkL p)]]))=rnT t p)∧True)))
theorem renamed_vc (t:List (List Int)) (p:List Int):runF Tryz.prog (gam renamed_G) noWr noAnn Tryz.f86 (bodyOf Tryz.f86) [] [.c (.rows .i64 (t)),.c (.ints .i64 (p))] (renamed_p t p)=renamed_V t p:=by kernel_rfl
theorem renamed_ok (t:List (List Int)) (p:List Int) (hpre:(renamed_p t p).pre):renamed_V t p:=by
 simp only [renamed_p,renamed_V,BrP_iff,u1,u2,u3,u4,u5,u6,u7,u8,u9,v1,v2,v3,v4,v5,v6,v7,v8,v9,w1,w2,w3,w4,markL_length,inB,InR,room,bdsOk] at hpre ⊢
 obtain ⟨h1,h2,h3⟩:=hpre
 obtain ⟨n1,n2,ht⟩:=tabB_of h1
 have bl:(bkL p).length=t.length:=(bkN_length p _).trans h3
 have bi:∀k,k<t.length→0≤(bkL p).getD k 0∧(bkL p).getD k 0<(t.length:Int):=fun k hk=>bkN_in (by omega) n1 _ k (Nat.le_refl _) (by omega)
 refine ⟨⟨by omega,perm_q h2⟩,⟨by omega,by omega,fun x y a b c d=>?_⟩,tabR_ext fun x y hx hy=>rfl⟩
 have bx:=bi x.toNat (by omega)
 have b2:=bi y.toNat (by omega)
 have r:=ht ((bkL p).getD x.toNat 0).toNat (by omega)
 have r2:=r.2 ((bkL p).getD y.toNat 0).toNat (by omega)
 exact ⟨by omega,by omega,by omega,by omega,by omega,by omega,by omega,by omega,by omega,by omega⟩
theorem renamed_fits:Fits Tryz.prog 86 ⟨[],renamed_ct⟩:=by
 refine ffn (Γ:=gam renamed_G) (gok_cons inverseG_fits (gok_cons tableBy_fits (gok_cons renamed1_fits gok_nil))) Tryz.func86 fun ds p h hp=>?_
 unfold renamed_ct at h
 split at h
 ·cases h
  exact ⟨noWr,noAnn,by rw [renamed_vc];exact renamed_ok _ _  hp⟩
 ·cases h
def IsPerm_p (p:List Int):Post:=⟨p.length≤1099511627776,.c (.bool (decide (1≤(p.length:Int)∧(p.length:Int)≤12)&&permB p)),[]⟩
def IsPerm_ct:List AD→Option Post
 | [.c (.ints .i64 (p))]=>some (IsPerm_p p)
 | _=>none
def IsPerm_G:List (Nat×Ctr):=[(84,⟨[],within_ct⟩),(74,⟨[],isPermuted_ct⟩)]
def IsPerm_V (p:List Int):Prop :=
 ((True∧True)∧(BrP (decide ((1:Int)≤(↑(p.length):Int)∧(↑(p.length):Int)≤(12:Int))) (((p.length≤(1099511627776:Nat))∧True)∧((permB p=(decide ((1:Int)≤(↑(p.length):Int)∧(↑(p.length):Int)≤(12:Int))&&permB p))∧True)) ((false=(decide ((1:Int)≤(↑(p.length):Int)∧(↑(p.length):Int)≤(12:Int))&&permB p))∧True)))
theorem IsPerm_vc (p:List Int):runF Tryz.prog (gam IsPerm_G) noWr noAnn Tryz.f85 (bodyOf Tryz.f85) [] [.c (.ints .i64 (p))] (IsPerm_p p)=IsPerm_V p:=by kernel_rfl
theorem IsPerm_ok (p:List Int) (hpre:(IsPerm_p p).pre):IsPerm_V p:=by
 simp only [IsPerm_p,IsPerm_V,BrP_iff,u1,u2,u3,u4,u5,u6,u7,u8,u9,v1,v2,v3,v4,v5,v6,v7,v8,v9,w1,w2,w3,w4,markL_length,inB,InR,room,bdsOk] at hpre ⊢
 exact ⟨fun h=>⟨hpre,by rw [decide_eq_true h];rfl⟩,fun h=>by rw [decide_eq_false h];rfl⟩
theorem IsPerm_fits:Fits Tryz.prog 85 ⟨[],IsPerm_ct⟩:=by
 refine ffn (Γ:=gam IsPerm_G) (gok_cons within_fits (gok_cons isPermuted_fits gok_nil)) Tryz.func85 fun ds p h hp=>?_
 unfold IsPerm_ct at h
 split at h
 ·cases h
  exact ⟨noWr,noAnn,by rw [IsPerm_vc];exact IsPerm_ok _  hp⟩
 ·cases h
def rnOk (t:List (List Int)) (p:List Int):Bool:=tabB t&&(decide (1≤(p.length:Int)∧(p.length:Int)≤12)&&permB p)&&decide (p.length=t.length)
def rnC (t:List (List Int)) (p:List Int):List (List Int)×Int:=if rnOk t p=true then (rnT t p,0) else ([],1)
def iRn_p (t:List (List Int)) (p:List Int):Post:=⟨roomR t∧p.length≤1099511627776,.tup [.inl (.rows 31 2 .i64 ((rnC t p).1)),.inl (.int .i64 ((rnC t p).2))],[]⟩
def iRn_ct:List AD→Option Post
 | [.c (.rows .i64 (t)),.c (.ints .i64 (p))]=>some (iRn_p t p)
 | _=>none
def iRn_G:List (Nat×Ctr):=[(60,⟨[],IsTable_ct⟩),(85,⟨[],IsPerm_ct⟩),(86,⟨[],renamed_ct⟩)]
def iRn_V (t:List (List Int)) (p:List Int):Prop :=
 (((roomR t)∧True)∧(BrP (!tabB t) ((([]=(rnC t p).1)∧(((1:Int)=(rnC t p).2)∧True))∧True) (((p.length≤(1099511627776:Nat))∧True)∧(BrP (!(decide ((1:Int)≤(↑(p.length):Int)∧(↑(p.length):Int)≤(12:Int))&&permB p)) ((([]=(rnC t p).1)∧(((1:Int)=(rnC t p).2)∧True))∧True) (BrP ((↑(p.length):Int) != (↑(t.length):Int)) ((([]=(rnC t p).1)∧(((1:Int)=(rnC t p).2)∧True))∧True) ((((tabB t=true)∧((permB p=true)∧(p.length=t.length)))∧True)∧(((rnT t p=(rnC t p).1)∧(((0:Int)=(rnC t p).2)∧True))∧True)))))))
theorem iRn_vc (t:List (List Int)) (p:List Int):runF Tryz.prog (gam iRn_G) noWr noAnn Tryz.f33 (bodyOf Tryz.f33) [] [.c (.rows .i64 (t)),.c (.ints .i64 (p))] (iRn_p t p)=iRn_V t p:=by kernel_rfl
theorem iRn_ok (t:List (List Int)) (p:List Int) (hpre:(iRn_p t p).pre):iRn_V t p:=by
 simp only [iRn_p,iRn_V,BrP_iff,u1,u2,u3,u4,u5,u6,u7,u8,u9,v1,v2,v3,v4,v5,v6,v7,v8,v9,w1,w2,w3,w4,markL_length,inB,InR,room,bdsOk] at hpre ⊢
 refine ⟨hpre.1,fun h=>?_,fun h=>⟨hpre.2,fun h2=>?_,fun h2=>⟨fun h3=>?_,fun h3=>?_⟩⟩⟩
 ·rw [rnC,if_neg (by rw [rnOk,h];simp)];exact ⟨rfl,rfl⟩
 ·rw [rnC,if_neg (by rw [rnOk,h2];simp)];exact ⟨rfl,rfl⟩
 ·have e:rnOk t p=false:=by rw [rnOk,decide_eq_false (show ¬ p.length=t.length by omega),Bool.and_false]
  rw [rnC,e];exact ⟨rfl,rfl⟩
 ·have e:rnOk t p=true:=by rw [rnOk,h,h2,decide_eq_true (show p.length=t.length by omega)];rfl
  rw [rnC,if_pos e]
  rw [Bool.and_eq_true] at h2
  exact ⟨⟨h,h2.2,by omega⟩,rfl,rfl⟩
theorem iRn_fits:Fits Tryz.prog 33 ⟨[],iRn_ct⟩:=by
 refine ffn (Γ:=gam iRn_G) (gok_cons IsTable_fits (gok_cons IsPerm_fits (gok_cons renamed_fits gok_nil))) Tryz.func33 fun ds p h hp=>?_
 unfold iRn_ct at h
 split at h
 ·cases h
  exact ⟨noWr,noAnn,by rw [iRn_vc];exact iRn_ok _ _  hp⟩
 ·cases h
def seC (n m:Int) (g:List Int):List Int×Int:=if decide (1≤n∧n≤12)&&shiftB n m g then (if 12<n * m then ([],3) else (seL n m g,0)) else ([],2)
theorem seL_length (n m:Int) (g:List Int):(seL n m g).length=(n * m).toNat:=tab_length _ _
theorem seF_in {n m:Int} {g:List Int} (h:shiftB n m g=true) (i:Nat) (hi:(i:Int)<n * m) :
  0≤(i:Int).tdiv m∧(i:Int).tdiv m<n∧0≤(i:Int).tmod m∧(i:Int).tmod m≤m - 1∧(i:Int).tdiv m≤i∧(i:Int).tdiv m * m≤i∧0≤(i:Int).tdiv m * m ∧
  0≤g.getD ((i:Int).tdiv m).toNat 0∧g.getD ((i:Int).tdiv m).toNat 0≤m - 1 ∧
  0≤((i:Int).tmod m+g.getD ((i:Int).tdiv m).toNat 0).tmod m∧((i:Int).tmod m+g.getD ((i:Int).tdiv m).toNat 0).tmod m≤m - 1:=by
 obtain ⟨hm,hm2,hl,hg⟩:=shiftB_of h
 have e1:(i:Int).tdiv m=i / m:=Int.tdiv_eq_ediv_of_nonneg (by omega)
 have e2:(i:Int).tmod m=i % m:=Int.tmod_eq_emod_of_nonneg (by omega)
 have d1:0≤(i:Int) / m:=Int.ediv_nonneg (by omega) (by omega)
 have d2:(i:Int) / m<n:=Int.ediv_lt_of_lt_mul (by omega) hi
 have d3:(i:Int) / m≤i:=Int.ediv_le_self _ (by omega)
 have d4:=Int.emod_nonneg (i:Int) (show m≠0 by omega)
 have d5:=Int.emod_lt_of_pos (i:Int) (show 0<m by omega)
 have d6:=Int.mul_ediv_add_emod (i:Int) m
 have d7:=Int.mul_comm m ((i:Int) / m)
 have d9:=Int.mul_nonneg d1 (show 0≤m by omega)
 rw [e1,e2]
 have d8:=hg ((i:Int) / m).toNat (by omega)
 rw [Int.tmod_eq_emod_of_nonneg (a:=(i:Int) % m+g.getD ((i:Int) / m).toNat 0) (by omega)]
 have f1:=Int.emod_nonneg ((i:Int) % m+g.getD ((i:Int) / m).toNat 0) (show m≠0 by omega)
 have f2:=Int.emod_lt_of_pos ((i:Int) % m+g.getD ((i:Int) / m).toNat 0) (show 0<m by omega)
 omega
def iSe_p (n:Int) (m:Int) (g:List Int):Post:=⟨room g.length,.tup [.inl (.ints 2 .i64 ((seC n m g).1)),.inl (.int .i64 ((seC n m g).2))],[]⟩
def iSe_ct:List AD→Option Post
 | [.c (.int .i64 (n)),.c (.int .i64 (m)),.c (.ints .i64 (g))]=>some (iSe_p n m g)
 | _=>none
def iSe_ann (n:Int) (m:Int) (g:List Int):Nat→Option Ann
 | 0=>some (Ann.mk ((Nat)) (fun i=>⟨[(0,.c (.int .i64 (n))),(1,.c (.int .i64 (m))),(2,.c (.ro (.ints .i64 (g)))),(8,.c (.own (10))),(31,.c (.int .i64 (n * m))),(32,.c (.int .i64 ((i:Int))))],[(10,some (.ints 2 .i64 ((seL n m g).take i++List.replicate ((seL n m g).length - i) 0)))]⟩) (fun i=>(i:Int)≤n * m∧1≤n∧n≤12∧shiftB n m g=true∧n * m≤12) (fun i=>12 - i) (fun _=>noAnn))
 | _=>none
def iSe_G:List (Nat×Ctr):=[(84,⟨[],within_ct⟩),(61,⟨[],isShift_ct⟩)]
def iSe_V (n:Int) (m:Int) (g:List Int):Prop :=
 ((True∧True)∧(BrP (!decide ((1:Int)≤n∧n≤(12:Int))) ((([]=(seC n m g).1)∧(((2:Int)=(seC n m g).2)∧True))∧True) (((room (g.length))∧True)∧(BrP (!shiftB n m g) ((([]=(seC n m g).1)∧(((2:Int)=(seC n m g).2)∧True))∧True) ((InR (n * m))∧(BrP (decide ((12:Int)<n * m)) ((([]=(seC n m g).1)∧(((3:Int)=(seC n m g).2)∧True))∧True) ((InR (n * m))∧((((0:Int)≤n * m)∧((n * m≤n * m)∧(room ((n * m).toNat))))∧((∃x0:Nat,((((↑x0:Int)≤n * m)∧(((1:Int)≤n)∧((n≤(12:Int))∧((shiftB n m g=true)∧(n * m≤(12:Int))))))∧((n=n)∧((m=m)∧((g=g)∧(((↑((List.replicate ((n * m).toNat) (0:Int)).length):Int)=n * m)∧(((0:Int)=(↑x0:Int))∧(List.replicate ((n * m).toNat) (0:Int)=List.take x0 (seL n m g)++List.replicate ((seL n m g).length - x0) (0:Int)))))))))∧(∀x1:Nat,((((↑x1:Int)≤n * m)∧(((1:Int)≤n)∧((n≤(12:Int))∧((shiftB n m g=true)∧(n * m≤(12:Int))))))→(BrP (decide ((↑x1:Int)<n * m)) (((m≠(0:Int))∧(InR (Int.tdiv (↑x1:Int) m)))∧((m≠(0:Int))∧((InR (Int.tdiv (↑x1:Int) m * m))∧((inB (Int.tdiv (↑x1:Int) m) (g.length))∧((InR (Int.tmod (↑x1:Int) m+g.getD ((Int.tdiv (↑x1:Int) m).toNat) (0:Int)))∧((m≠(0:Int))∧((InR (Int.tdiv (↑x1:Int) m * m+Int.tmod (Int.tmod (↑x1:Int) m+g.getD ((Int.tdiv (↑x1:Int) m).toNat) (0:Int)) m))∧((inB (↑x1:Int) ((List.take x1 (seL n m g)++List.replicate ((seL n m g).length - x1) (0:Int)).length))∧((InR ((↑x1:Int)+(1:Int)))∧(∃x2:Nat,((((↑x2:Int)≤n * m)∧(((1:Int)≤n)∧((n≤(12:Int))∧((shiftB n m g=true) ∧
 (n * m≤(12:Int))))))∧(((12:Nat) - x2<(12:Nat) - x1)∧((n=n)∧((m=m)∧((g=g)∧((n * m=n * m)∧(((↑x1:Int)+(1:Int)=(↑x2:Int))∧(List.set (List.take x1 (seL n m g)++List.replicate ((seL n m g).length - x1) (0:Int)) ((↑x1:Int).toNat) (Int.tdiv (↑x1:Int) m * m+Int.tmod (Int.tmod (↑x1:Int) m+g.getD ((Int.tdiv (↑x1:Int) m).toNat) (0:Int)) m)=List.take x2 (seL n m g)++List.replicate ((seL n m g).length - x2) (0:Int))))))))))))))))))) (((List.take x1 (seL n m g)++List.replicate ((seL n m g).length - x1) (0:Int)=(seC n m g).1)∧(((0:Int)=(seC n m g).2)∧True))∧True)))))))))))))
theorem iSe_vc (n:Int) (m:Int) (g:List Int):runF Tryz.prog (gam iSe_G) noWr (iSe_ann n m g) Tryz.f32 (bodyOf Tryz.f32) [] [.c (.int .i64 (n)),.c (.int .i64 (m)),.c (.ints .i64 (g))] (iSe_p n m g)=iSe_V n m g:=by kernel_rfl
theorem iSe_ok (n:Int) (m:Int) (g:List Int) (hpre:(iSe_p n m g).pre):iSe_V n m g:=by
 simp only [iSe_p,iSe_V,BrP_iff,u1,u2,u3,u4,u5,u6,u7,u8,u9,v1,v2,v3,v4,v5,v6,v7,v8,v9,w1,w2,w3,w4,markL_length,inB,InR,room,bdsOk] at hpre ⊢
 refine ⟨fun h=>?_,fun h1=>⟨hpre,fun h=>?_,fun h3=>?_⟩⟩
 ·rw [seC,decide_eq_false h];exact ⟨rfl,rfl⟩
 ·rw [seC,h,Bool.and_false];exact ⟨rfl,rfl⟩
 have e:seC n m g=if 12<n * m then ([],3) else (seL n m g,0):=by rw [seC,decide_eq_true h1,h3];rfl
 obtain ⟨m1,m2,m3,hg⟩:=shiftB_of h3
 have hp1:0≤n * m:=Int.mul_nonneg (by omega) (by omega)
 have hp2:n * m≤144:=Int.le_trans (Int.mul_le_mul h1.2 m2 (by omega) (by omega)) (by omega)
 have hlen:=seL_length n m g
 refine ⟨by omega,fun h=>?_,fun h4=>⟨by omega,by omega,⟨0,⟨by omega,h1.1,h1.2,h3,by omega⟩,by omega,rfl,fill_start _ _ _ hlen⟩,fun i ⟨hi,_,_⟩=>⟨fun h=>?_,fun h=>?_⟩⟩⟩
 ·rw [e,if_pos h];exact ⟨rfl,rfl⟩
 ·have q:=seF_in h3 i h
  refine ⟨by omega,by omega,by omega,by omega,by omega,by omega,by omega,by omega,by omega,i+1,⟨by omega,h1.1,h1.2,h3,by omega⟩,by omega,by omega,?_⟩
  rw [←fill_step (seL n m g) 0 0 i (by omega),seL,tab_getD _ _ _ (by omega)]
  rfl
 ·rw [fill_end _ _ _ (by omega),e,if_neg h4];exact ⟨rfl,rfl⟩
theorem iSe_fits:Fits Tryz.prog 32 ⟨[],iSe_ct⟩:=by
 refine ffn (Γ:=gam iSe_G) (gok_cons within_fits (gok_cons isShift_fits gok_nil)) Tryz.func32 fun ds p h hp=>?_
 unfold iSe_ct at h
 split at h
 ·cases h
  exact ⟨noWr,iSe_ann _ _ _ ,by rw [iSe_vc];exact iSe_ok _ _ _  hp⟩
 ·cases h
end Go.Sx
