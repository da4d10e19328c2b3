/- MpgA -/
import Derived.Test.YtkmldclpaniclaaRack
import Derived.Test.YtkmldclpaniclaaMapD
import Derived.Test.YtkmldclpaniclaaMapR
import Derived.Test.YtkmldclpaniclaaBase
import Derived.Test.YtkmldclpaniclaaProg
import Derived.Test.YtkmldclpaniclaaSxZ
import Derived.KernelRfl
open Go Go.Proofs
namespace Go.Sx
set_option linter.unusedSimpArgs false
set_option linter.unusedVariables false
def thL (p q:List Int):List Int:=p.map fun x=>q.getD x.toNat 0
def inQ (n:Nat) (p:List Int):Prop:=∀i,i<p.length→0≤p.getD i 0∧p.getD i 0<(n:Int)
def l01ThenG_p (p:List Int) (q:List Int):Post:=⟨room p.length∧inQ q.length p,.c (.ints 2 .i64 (thL p q)),[]⟩
def l01ThenG_ct:List AD→Option Post
 | [.c (.ints .i64 (p)),.c (.ints .i64 (q))]=>some (l01ThenG_p p q)
 | _=>none
def l01ThenG_ann (p:List Int) (q:List Int):Nat→Option Ann
 | 0=>some (Ann.mk ((Nat)) (fun i=>⟨[(0,.c (.ro (.ints .i64 (p)))),(1,.c (.ro (.ints .i64 (q)))),(5,.c (.own (10))),(6,.c (.int .i64 ((i:Int))))],[(10,some (.ints 2 .i64 (thL (p.take i) q)))]⟩) (fun i=>i≤p.length) (fun i=>p.length - i) (fun _=>noAnn))
 | _=>none
def l01ThenG_G:List (Nat×Ctr):=[]
def l01ThenG_V (p:List Int) (q:List Int):Prop :=
 ((∃x0:Nat,((x0≤p.length)∧((p=p)∧((q=q)∧(((0:Int)=(↑x0:Int))∧([]=thL (List.take x0 p) q))))))∧(∀x1:Nat,((x1≤p.length)→(BrP (decide ((↑x1:Int)<(↑(p.length):Int))) ((inB (↑x1:Int) (p.length))∧((inB (p.getD ((↑x1:Int).toNat) (0:Int)) (q.length))∧((room ((thL (List.take x1 p) q).length+[q.getD ((p.getD ((↑x1:Int).toNat) (0:Int)).toNat) (0:Int)].length))∧((InR ((↑x1:Int)+(1:Int)))∧(∃x2:Nat,((x2≤p.length)∧((p.length - x2<p.length - x1)∧((p=p)∧((q=q)∧(((↑x1:Int)+(1:Int)=(↑x2:Int))∧(thL (List.take x1 p) q++[q.getD ((p.getD ((↑x1:Int).toNat) (0:Int)).toNat) (0:Int)]=thL (List.take x2 p) q))))))))))) ((thL (List.take x1 p) q=thL p q)∧True)))))
theorem l01ThenG_vc (p:List Int) (q:List Int):runF Try.prog (gam l01ThenG_G) noWr (l01ThenG_ann p q) Try.f22 (bodyOf Try.f22) [] [.c (.ints .i64 (p)),.c (.ints .i64 (q))] (l01ThenG_p p q)=l01ThenG_V p q:=by kernel_rfl
theorem l01ThenG_ok (p:List Int) (q:List Int) (hpre:(l01ThenG_p p q).pre):l01ThenG_V p q:=by
 simp only [l01ThenG_p,l01ThenG_V,BrP_iff,u1,u2,u3,u4,u5,u6,u7,u8,u9,v1,v2,v3,v4,v5,v6,v7,v8,v9,w1,w2,w3,w4,markL_length,inB,InR,room,bdsOk] at hpre ⊢
 obtain ⟨h1,h2⟩:=hpre
 refine ⟨⟨0,by omega,rfl,rfl⟩,fun i hi=>⟨fun h=>?_,fun h=>?_⟩⟩
 ·have hr:=h2 i (by omega)
  have hl:(thL (p.take i) q).length=i:=by rw [thL,List.length_map,List.length_take];omega
  refine ⟨by omega,by omega,by omega,by omega,i+1,by omega,by omega,by omega,?_⟩
  rw [←take_snoc p 0 i (by omega),thL,thL,List.map_append];rfl
 ·rw [List.take_of_length_le (by omega)]
theorem l01ThenG_fits:Fits Try.prog 22 ⟨[],l01ThenG_ct⟩:=by
 refine ffn (Γ:=gam l01ThenG_G) gok_nil Try.func22 fun ds p h hp=>?_
 unfold l01ThenG_ct at h
 split at h
 ·cases h
  exact ⟨noWr,l01ThenG_ann _ _ ,by rw [l01ThenG_vc];exact l01ThenG_ok _ _  hp⟩
 ·cases h
/- Permutations of n elements that are closed. -/
structure AuOk (n:Nat) (A:List (List Int)):Prop where
 pos:1≤A.length
 len:∀i,i<A.length→(A.getD i []).length=n
 rng:∀i x,i<A.length→x<n→0≤en A i x∧en A i x<(n:Int)
 cl:∀i j,i<A.length→j<A.length→thL (A.getD i []) (A.getD j [])∈A
structure KOk (n m:Nat) (K:List Int):Prop where
 len:K.length=n
 rng:∀x,x<n→-1≤K.getD x 0∧K.getD x 0<(m:Int)
theorem KOk.set {n m:Nat} {K:List Int} (h:KOk n m K) (z:Nat) {w:Int} (hw:-1≤w∧w<(m:Int)):KOk n m (K.set z w) where
 len:=by rw [List.length_set];exact h.len
 rng x hx:=by
  rw [getD_set _ _ _ _ (by rw [h.len];exact hx)]
  split
  ·exact hw
  ·exact h.rng x hx
section
variable {n:Nat} {t A:List (List Int)}
end
section
variable {n:Nat} {t A:List (List Int)}
def Z0 (n:Nat) (o:List Int):Prop:=o.length=n∧∀x,x<n→o.getD x 0=-1∨o.getD x 0=0
theorem Z0.ok {o:List Int} (z:Z0 n o) (hA:AuOk n A):KOk n A.length o:=⟨z.1,fun x hx=>by
 have:=hA.pos
 rcases z.2 x hx with h | h <;> omega⟩
theorem Z0.set {o:List Int} (z:Z0 n o) (q:Nat):Z0 n (o.set q 0):=⟨by rw [List.length_set];exact z.1,fun x hx=>by
 rw [getD_set _ _ _ _ (by rw [z.1];exact hx)]
 split
 ·exact .inr rfl
 ·exact z.2 x hx⟩
end
def auF (t:List (List Int)):List (List Int):=mpR [t] [t] 1000000
def l10Automorphisms_p (t:List (List Int)):Post:=⟨tabB t=true,.c (.rows 42 2 .i64 (auF t)),[]⟩
def l10Automorphisms_ct:List AD→Option Post
 | [.c (.rows .i64 (t))]=>some (l10Automorphisms_p t)
 | _=>none
def l10Automorphisms_G:List (Nat×Ctr):=[(41,⟨[],l03Maps_ct⟩)]
def l10Automorphisms_V (t:List (List Int)):Prop :=
 (((([(0:Int)]=[(0:Int)])∧(((1:Nat)≤(t::([]:List (List (List Int)))).length)∧(((t::([]:List (List (List Int)))).length≤(1000:Nat))∧(((t::([]:List (List (List Int)))).length=(t::([]:List (List (List Int)))).length)∧(((1:Nat)≤nT (t::([]:List (List (List Int)))))∧((nT (t::([]:List (List (List Int))))≤(12:Nat))∧((tsN (nT (t::([]:List (List (List Int))))) (t::([]:List (List (List Int)))))∧((tsN (nT (t::([]:List (List (List Int))))) (t::([]:List (List (List Int)))))∧(((1:Int)≤(1000000:Int))∧((1000000:Int)≤(1000000:Int)))))))))))∧True)∧((mpR (t::([]:List (List (List Int)))) (t::([]:List (List (List Int)))) (1000000:Int)=auF t)∧True))
theorem l10Automorphisms_vc (t:List (List Int)):runF Try.prog (gam l10Automorphisms_G) noWr noAnn Try.f21 (bodyOf Try.f21) [] [.c (.rows .i64 (t))] (l10Automorphisms_p t)=l10Automorphisms_V t:=by kernel_rfl
theorem l10Automorphisms_ok (t:List (List Int)) (hpre:(l10Automorphisms_p t).pre):l10Automorphisms_V t:=by
 simp only [l10Automorphisms_p,l10Automorphisms_V,BrP_iff,u1,u2,u3,u4,u5,u6,u7,u8,u9,v1,v2,v3,v4,v5,v6,v7,v8,v9,w1,w2,w3,w4,markL_length,inB,InR,room,bdsOk] at hpre ⊢
 obtain ⟨h1,h2,h3⟩:=tabB_of hpre
 have e:nT [t]=t.length:=rfl
 have T:tsN (nT [t]) [t]:=fun k hk=>by
  have:k=0:=by simp at hk;omega
  subst this
  refine ⟨rfl,fun x hx=>⟨(h3 x hx).1,fun y hy=>?_⟩⟩
  have:=(h3 x hx).2 y hy
  have e2:en t x y=(t.getD x []).getD y 0:=rfl
  show 0≤en t x y∧en t x y<(t.length:Int)
  omega
 exact ⟨⟨by omega,by omega,by omega,by omega,T,T,by omega,by omega⟩,rfl⟩
theorem l10Automorphisms_fits:Fits Try.prog 21 ⟨[],l10Automorphisms_ct⟩:=by
 refine ffn (Γ:=gam l10Automorphisms_G) (gok_cons l03Maps_fits gok_nil) Try.func21 fun ds p h hp=>?_
 unfold l10Automorphisms_ct at h
 split at h
 ·cases h
  exact ⟨noWr,noAnn,by rw [l10Automorphisms_vc];exact l10Automorphisms_ok _  hp⟩
 ·cases h
theorem thL_get {p q:List Int} {i:Nat} (h:i<p.length):(thL p q).getD i 0=q.getD (p.getD i 0).toNat 0:=getD_map _ _ _ _ _ h
theorem thL_length (p q:List Int):(thL p q).length=p.length:=by simp [thL]
theorem nodup_at {g:List Int} (hn:g.Nodup) {i j:Nat} (hi:i<g.length) (hj:j<g.length) (e:g.getD i 0=g.getD j 0):i=j:=by
 rw [getD_lt g 0 i hi,getD_lt g 0 j hj] at e
 exact (List.getElem_inj hn).1 e
section
variable {n:Nat} {t:List (List Int)}
theorem ts1 (ht:tbN n t):tsN n [t]:=fun k hk=>by
 have k0:k=0:=by simp at hk;omega
 subst k0;exact ht
end
theorem rg_step (f:Nat→Bool) {i N:Nat} (h:i<N):(List.range' i (N - i)).all f=(f i&&(List.range' (i+1) (N - (i+1))).all f):=by
 rw [show N - i=(N - (i+1))+1 by omega,List.range'_succ];rfl
theorem rg_end (f:Nat→Bool) {i N:Nat} (h:N≤i):(List.range' i (N - i)).all f=true:=by
 rw [show N - i=0 by omega];rfl
theorem rg_start (f:Nat→Bool) (N:Nat):(List.range N).all f=(List.range' 0 (N - 0)).all f:=by
 rw [List.range_eq_range',Nat.sub_zero]
def Clone_p (l:List Int):Post:=⟨l.length≠0∧room l.length,.c (.ints 2 .i64 (l)),[]⟩
def Clone_ct:List AD→Option Post
 | [.c (.ints .i64 (l))]=>some (Clone_p l)
 | _=>none
def Clone_G:List (Nat×Ctr):=[]
def Clone_V (l:List Int):Prop :=
 ((FC.len (FC.ints IntKind.i64 l)≠(0:Nat))∧((room (([]:List Int).length+l.length))∧(([]++l=l)∧True)))
theorem Clone_vc (l:List Int):runF Try.prog (gam Clone_G) noWr noAnn Try.f46 (bodyOf Try.f46) [] [.c (.ints .i64 (l))] (Clone_p l)=Clone_V l:=by kernel_rfl
theorem Clone_ok (l:List Int) (hpre:(Clone_p l).pre):Clone_V l:=by
 simp only [Clone_p,Clone_V,BrP_iff,u1,u2,u3,u4,u5,u6,u7,u8,u9,v1,v2,v3,v4,v5,v6,v7,v8,v9,w1,w2,w3,w4,markL_length,inB,InR,room,bdsOk] at hpre ⊢
 obtain ⟨a,b⟩:=hpre
 exact ⟨a,by omega,rfl⟩
theorem Clone_fits:Fits Try.prog 46 ⟨[],Clone_ct⟩:=by
 refine ffn (Γ:=gam Clone_G) gok_nil Try.func46 fun ds p h hp=>?_
 unfold Clone_ct at h
 split at h
 ·cases h
  exact ⟨noWr,noAnn,by rw [Clone_vc];exact Clone_ok _  hp⟩
 ·cases h
def compactF_p (l:List (List Int)) (q:List Int→List Int→Prop) (p:List Int→List Int→Bool):Post:=⟨room l.length∧∀i,0<i→i<l.length→q (l.getD i []) (l.getD (i - 1) [])∧p (l.getD i []) (l.getD (i - 1) [])=false,.c (.rows 42 2 .i64 (l)),[.gone (.rows 42 2 .i64 (l))]⟩
def compactF_ct:List AD→Option Post
 | [.c (.rows .i64 (l)),.fv (.llb q p)]=>some (compactF_p l q p)
 | _=>none
def compactF_ann (l:List (List Int)) (q:List Int→List Int→Prop) (p:List Int→List Int→Bool):Nat→Option Ann
 | 0=>some (Ann.mk ((Nat)) (fun k=>⟨[(0,.c (.own (790))),(1,.fv (.llb q p)),(5,.c (.int .i64 (k)))],[(790,some (.rows 0 42 2 .i64 (l)))]⟩) (fun k=>1≤k∧k≤l.length) (fun k=>l.length - k) (fun _=>noAnn))
 | _=>none
def compactF_G:List (Nat×Ctr):=[]
def compactF_V (l:List (List Int)) (q:List Int→List Int→Prop) (p:List Int→List Int→Bool):Prop :=
 (BrP (decide ((↑(l.length):Int)<(2:Int))) ((l=l)∧True) ((∃x0:Nat,((((1:Nat)≤x0)∧(x0≤l.length))∧((FV.llb q p=FV.llb q p)∧(((1:Int)=(↑x0:Int))∧(l=l)))))∧(∀x1:Nat,((((1:Nat)≤x1)∧(x1≤l.length))→(BrP (decide ((↑x1:Int)<(↑(l.length):Int))) ((inB (↑x1:Int) (l.length))∧((InR ((↑x1:Int) - (1:Int)))∧((inB ((↑x1:Int) - (1:Int)) (l.length))∧((q (l.getD ((↑x1:Int).toNat) []) (l.getD (((↑x1:Int) - (1:Int)).toNat) []))∧(BrP (p (l.getD ((↑x1:Int).toNat) []) (l.getD (((↑x1:Int) - (1:Int)).toNat) [])) ((bdsOk (l.length) (Option.some (↑x1:Int)) Option.none)∧(False)) ((InR ((↑x1:Int)+(1:Int)))∧(∃x2:Nat,((((1:Nat)≤x2)∧(x2≤l.length))∧((l.length - x2<l.length - x1)∧((FV.llb q p=FV.llb q p)∧(((↑x1:Int)+(1:Int)=(↑x2:Int))∧(l=l)))))))))))) ((l=l)∧True))))))
theorem compactF_vc (l:List (List Int)) (q:List Int→List Int→Prop) (p:List Int→List Int→Bool):runF Try.prog (gam compactF_G) noWr (compactF_ann l q p) Try.f30 (bodyOf Try.f30) [(0,0)] [.c (.rows .i64 (l)),.fv (.llb q p)] (compactF_p l q p)=compactF_V l q p:=by kernel_rfl
theorem compactF_ok (l:List (List Int)) (q:List Int→List Int→Prop) (p:List Int→List Int→Bool) (hpre:(compactF_p l q p).pre):compactF_V l q p:=by
 simp only [compactF_p,compactF_V,BrP_iff,u1,u2,u3,u4,u5,u6,u7,u8,u9,v1,v2,v3,v4,v5,v6,v7,v8,v9,w1,w2,w3,w4,markL_length,inB,InR,room,bdsOk] at hpre ⊢
 obtain ⟨h1,h2⟩:=hpre
 refine ⟨fun _=>trivial,fun h=>⟨⟨1,by omega,rfl⟩,fun k ⟨hk1,hk2⟩=>⟨fun hlt=>?_,fun _=>trivial⟩⟩⟩
 have e:((k:Int) - 1).toNat=k - 1:=by omega
 rw [e]
 obtain ⟨a,b⟩:=h2 k hk1 (by omega)
 exact ⟨by omega,by omega,by omega,a,fun hh=>(by rw [b] at hh;cases hh),fun _=>⟨by omega,k+1,by omega,by omega,by omega⟩⟩
theorem compactF_fits:Fits Try.prog 30 ⟨[(0,0)],compactF_ct⟩:=by
 refine ffn (Γ:=gam compactF_G) gok_nil Try.func30 fun ds p h hp=>?_
 unfold compactF_ct at h
 split at h
 ·cases h
  exact ⟨noWr,compactF_ann _ _ _ ,by rw [compactF_vc];exact compactF_ok _ _ _  hp⟩
 ·cases h
theorem all_idx (t:List (List Int)) (f:List Int→Bool):t.all f=(List.range t.length).all fun x=>f (t.getD x []):=by
 rw [Bool.eq_iff_iff,List.all_eq_true,List.all_eq_true]
 constructor
 ·intro h x hx
  rw [List.mem_range] at hx
  exact h _ (getD_mem t [] x hx)
 ·intro h r hr
  obtain ⟨k,hk,rfl⟩:=List.getElem_of_mem hr
  have:=h k (by simpa using hk)
  rwa [getD_lt _ _ _ hk] at this
theorem all_and (l:List Nat) (f g:Nat→Bool):(l.all f&&l.all g)=l.all fun x=>f x&&g x:=by
 rw [Bool.eq_iff_iff]
 simp only [Bool.and_eq_true,List.all_eq_true]
 exact ⟨fun h x hx=>⟨h.1 x hx,h.2 x hx⟩,fun h=>⟨fun x hx=>(h x hx).1,fun x hx=>(h x hx).2⟩⟩
def asZ (t:List (List Int)) (x y z:Nat):Bool:=decide (en t (en t x y).toNat z=en t x (en t y z).toNat)
def asY (t:List (List Int)) (x y:Nat):Bool:=(List.range t.length).all (asZ t x y)
def asX (t:List (List Int)) (x:Nat):Bool:=(List.range t.length).all (asY t x)
def zrX (t:List (List Int)) (x:Nat):Bool:=decide (en t 0 x=(x:Int))&&decide (en t x 0=(x:Int))
def gpX (t:List (List Int)) (x:Nat):Bool:=zrX t x&&asX t x
def hpX (t:List (List Int)) (x:Nat):Bool:=zrX t x&&(permB (t.getD x [])&&asX t x)
def grpB (t:List (List Int)):Bool:=tabB t&&(t.all permB&&(List.range t.length).all (gpX t))
theorem grp_eq (t:List (List Int)):grpB t=(tabB t&&(List.range t.length).all (hpX t)):=by
 rw [grpB,all_idx,all_and]
 congr 2
 funext x
 simp only [gpX,hpX]
 cases permB (t.getD x []) <;> cases zrX t x <;> simp
theorem grp_tab {t:List (List Int)} (h:grpB t=true):tabB t=true:=by
 rw [grpB,Bool.and_eq_true] at h;exact h.1
theorem perm_has {l:List Int} (h:permB l=true) {x:Int} (h0:0≤x) (h1:x<(l.length:Int)):x∈l:=perm_all.1 h x h0 h1
def unF:List Int→List Int→List Bool→List Int×List Bool
 | [],im,us=>(im,us)
 | x::l,im,us=>unF l (im.set x.toNat (-1)) (us.set (im.getD x.toNat 0).toNat false)
def unOk:List Int→List Int→List Bool→Prop
 | [],_,_=>True
 | x::l,im,us=>(0≤x∧x<(im.length:Int))∧(0≤im.getD x.toNat 0∧im.getD x.toNat 0<(us.length:Int))∧unOk l (im.set x.toNat (-1)) (us.set (im.getD x.toNat 0).toNat false)
def undo_sv (fr:List (List (List Int))) (tt:List (List (List Int))) (im:List Int) (us:List Bool) (st:List Int) (c:Int):SV:=.tup []
def undo_outs (fr:List (List (List Int))) (tt:List (List (List Int))) (im:List Int) (us:List Bool) (st:List Int) (c:Int):List MA:=[.box [.c (.r3 .i64 (fr)),.c (.r3 .i64 (tt)),.ob (.ints 2 .i64 ((unF (st.drop c.toNat) im us).1)),.ob (.bools 4 ((unF (st.drop c.toNat) im us).2)),.ob (.ints 2 .i64 ((st.take c.toNat)))],.m (.c (.int .i64 (c)))]
def undo_ex (fr:List (List (List Int))) (tt:List (List (List Int))) (im:List Int) (us:List Bool) (st:List Int) (c:Int):List (Nat×Ob):=[]
def undo_p (fr:List (List (List Int))) (tt:List (List (List Int))) (im:List Int) (us:List Bool) (st:List Int) (c:Int):Post:=⟨0≤c∧c≤(st.length:Int)∧st.length≤1000∧unOk (st.drop c.toNat) im us,.st (undo_sv fr tt im us st c) (undo_ex fr tt im us st c) (undo_outs fr tt im us st c),[]⟩
def undo_ct:List AD→Option Post
 | [.ma (.box [.c (.r3 .i64 (fr)),.c (.r3 .i64 (tt)),.ob (.ints 2 .i64 (im)),.ob (.bools 4 (us)),.ob (.ints 2 .i64 (st))]),.ma (.m (.c (.int .i64 (c))))]=>some (undo_p fr tt im us st c)
 | _=>none
def undo_ann (fr:List (List (List Int))) (tt:List (List (List Int))) (im:List Int) (us:List Bool) (st:List Int) (c:Int):Nat→Option Ann
 | 0=>some (Ann.mk ((Nat)×(List Int)×(List Bool)) (fun x=>match x with | (i,a,b)=>⟨[(0,.c (.ptr 7000 0)),(1,.c (.int .i64 (c))),(11,.c (.sub 7005 (Int.toNat c) (List.length st - Int.toNat c))),(12,.c (.int .i64 (((List.length st - Int.toNat c:Nat):Int)))),(13,.c (.int .i64 ((i:Int))))],[(7000,some (.box [.ro (.r3 .i64 (fr)),.ro (.r3 .i64 (tt)),.own (7003),.own (7004),.own (7005)])),(7003,some (.ints 2 .i64 (a))),(7004,some (.bools 4 (b))),(7005,some (.ints 2 .i64 (st)))]⟩) (fun x=>match x with | (i,a,b)=>i≤st.length - c.toNat∧unF ((st.drop c.toNat).drop i) a b=unF (st.drop c.toNat) im us∧unOk ((st.drop c.toNat).drop i) a b) (fun x=>match x with | (i,a,b)=>st.length - i) (fun _=>noAnn))
 | _=>none
def undo_wr (t:Nat):Bool:=[4000042].contains t
def undo_G:List (Nat×Ctr):=[]
def undo_V (fr:List (List (List Int))) (tt:List (List (List Int))) (im:List Int) (us:List Bool) (st:List Int) (c:Int):Prop :=
 ((bdsOk (st.length) (Option.some c) Option.none)∧((∃x0:Nat×List Int×List Bool,(((x0.1≤st.length - c.toNat)∧((unF (List.drop (x0.1) (List.drop (c.toNat) st)) (x0.2.1) (x0.2.2)=unF (List.drop (c.toNat) st) im us)∧(unOk (List.drop (x0.1) (List.drop (c.toNat) st)) (x0.2.1) (x0.2.2))))∧((c=c)∧((c.toNat=c.toNat)∧((st.length - c.toNat=st.length - c.toNat)∧(((↑(st.length - c.toNat):Int)=(↑(st.length - c.toNat):Int))∧(((0:Int)=(↑x0.1:Int))∧((fr=fr)∧((tt=tt)∧((im=x0.2.1)∧((us=x0.2.2)∧(st=st))))))))))))∧(∀x1:Nat×List Int×List Bool,(((x1.1≤st.length - c.toNat)∧((unF (List.drop (x1.1) (List.drop (c.toNat) st)) (x1.2.1) (x1.2.2)=unF (List.drop (c.toNat) st) im us)∧(unOk (List.drop (x1.1) (List.drop (c.toNat) st)) (x1.2.1) (x1.2.2))))→(BrP (decide ((↑x1.1:Int)<(↑(st.length - c.toNat):Int))) ((inB (↑x1.1:Int) (st.length - c.toNat))∧((inB (st.getD (c.toNat+(↑x1.1:Int).toNat) (0:Int)) (x1.2.1.length))∧((inB (x1.2.1.getD ((st.getD (c.toNat+(↑x1.1:Int).toNat) (0:Int)).toNat) (0:Int)) (x1.2.2.length))∧((inB (st.getD (c.toNat+(↑x1.1:Int).toNat) (0:Int)) (x1.2.1.length))∧((InR ((↑x1.1:Int)+(1:Int)))∧(∃x2:Nat×List Int×List Bool,(((x2.1≤st.length - c.toNat)∧((unF (List.drop (x2.1) (List.drop (c.toNat) st)) (x2.2.1) (x2.2.2)=unF (List.drop (c.toNat) st) im us)∧(unOk (List.drop (x2.1) (List.drop (c.toNat) st)) (x2.2.1) (x2.2.2))))∧((st.length - x2.1<st.length - x1.1)∧((c=c)∧((c.toNat=c.toNat) ∧
 ((st.length - c.toNat=st.length - c.toNat)∧(((↑(st.length - c.toNat):Int)=(↑(st.length - c.toNat):Int))∧(((↑x1.1:Int)+(1:Int)=(↑x2.1:Int))∧((fr=fr)∧((tt=tt)∧((List.set x1.2.1 ((st.getD (c.toNat+(↑x1.1:Int).toNat) (0:Int)).toNat) (-1:Int)=x2.2.1)∧((List.set x1.2.2 ((x1.2.1.getD ((st.getD (c.toNat+(↑x1.1:Int).toNat) (0:Int)).toNat) (0:Int)).toNat) false=x2.2.2)∧(st=st)))))))))))))))))) ((((0:Int)≤c)∧(c≤(↑(st.length):Int)))∧((fr=fr)∧((tt=tt)∧((x1.2.1=(unF (List.drop (c.toNat) st) im us).1)∧((x1.2.2=(unF (List.drop (c.toNat) st) im us).2)∧(List.take (c.toNat) st=List.take (c.toNat) st)))))))))))
theorem undo_vc (fr:List (List (List Int))) (tt:List (List (List Int))) (im:List Int) (us:List Bool) (st:List Int) (c:Int):runS Try.prog (gam undo_G) undo_wr (undo_ann fr tt im us st c) Try.f94 (bodyOf Try.f94) [.box [.c (.r3 .i64 (fr)),.c (.r3 .i64 (tt)),.ob (.ints 2 .i64 (im)),.ob (.bools 4 (us)),.ob (.ints 2 .i64 (st))],.m (.c (.int .i64 (c)))] (undo_sv fr tt im us st c) (masO 0 (undo_outs fr tt im us st c)++exO (undo_ex fr tt im us st c))=undo_V fr tt im us st c:=by kernel_rfl
theorem undo_ok (fr:List (List (List Int))) (tt:List (List (List Int))) (im:List Int) (us:List Bool) (st:List Int) (c:Int) (hpre:(undo_p fr tt im us st c).pre):undo_V fr tt im us st c:=by
 simp only [undo_p,undo_V,BrP_iff,u1,u2,u3,u4,u5,u6,u7,u8,u9,v1,v2,v3,v4,v5,v6,v7,v8,v9,w1,w2,w3,w4,markL_length,inB,InR,room,bdsOk] at hpre ⊢
 obtain ⟨h1,h2,h3,h4⟩:=hpre
 refine ⟨⟨h1,h2⟩,⟨(0,im,us),⟨by omega,by simp,by simpa using h4⟩,by simp⟩,?_⟩
 rintro ⟨i,a,b⟩ ⟨hi,hF,hO⟩
 simp only at hi hF hO ⊢
 refine ⟨fun hlt=>?_,fun hge=>?_⟩
 ·have hi2:i<st.length - c.toNat:=by omega
  have hd:(st.drop c.toNat).drop i=st.getD (c.toNat+i) 0::(st.drop c.toNat).drop (i+1):=by
   rw [drop_cons' (st.drop c.toNat) 0 i (by rw [List.length_drop];omega)]
   congr 1
   simp [List.getD,List.getElem?_drop]
  rw [hd] at hF hO
  simp only [unF] at hF
  obtain ⟨q1,q2,q3⟩:=hO
  refine ⟨⟨by omega,by omega⟩,q1,q2,q1,by constructor <;> omega,(i+1,a.set (st.getD (c.toNat+i) 0).toNat (-1),b.set (a.getD (st.getD (c.toNat+i) 0).toNat 0).toNat false),⟨by omega,hF,q3⟩,by omega,by simp,rfl,rfl⟩
 ·have hi2:i=st.length - c.toNat:=by omega
  have hd:(st.drop c.toNat).drop i=[]:=List.drop_eq_nil_of_le (by rw [List.length_drop];omega)
  rw [hd] at hF
  simp only [unF] at hF
  refine ⟨⟨h1,h2⟩,by rw [←hF],by rw [←hF]⟩
theorem undo_fits:Fits Try.prog 94 ⟨[(0,93),(0,93)],undo_ct⟩:=by
 refine fits_sfn (Γ:=gam undo_G) gok_nil Try.func94 (by kernel_rfl) (by kernel_rfl) (fun ads p h=>?_) fun mas q sv ex outs h hq=>?_
 ·unfold undo_ct at h
  split at h
  ·cases h;rfl
  ·cases h
 ·unfold undo_ct at h
  split at h
  ·rename_i heq
   have heq:=ma_inj (l:=[_,_]) heq
   subst heq
   unfold undo_p at h
   cases h
   exact ⟨undo_wr,undo_ann _ _ _ _ _ _ ,by rw [undo_vc];exact undo_ok _ _ _ _ _ _  hq⟩
  ·cases h
end Go.Sx
