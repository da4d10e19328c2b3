/- Grp -/
import Derived.Test.YtcdmndagoafcgaaGreatOwn2
import Derived.Test.YtcdmndagoafcgaaGreatCirP
import Derived.Test.YtcdmndagoafcgaaGreatTable
import Derived.Test.YtcdmndagoafcgaaGreatMapQ
open Go Go.Proofs
namespace Go.Sx
set_option linter.unusedSimpArgs false
set_option linter.unusedVariables false
def ic (K:List (List Int)) (m:List Int):Int:=if m∈K then (f7 K m:Int) else -1
def rZ (K:List (List Int)) (m:List Int):Post:=⟨au K,.c (.int .i64 (ic K m)),[]⟩
def ze:List AD→Option Post
 | [.c (.rows .i64 (K)),.c (.ints .i64 (m))]=>some (rZ K m)
 | _=>none
def G7 (K:List (List Int)) (m:List Int):Nat→Option Ann
 | 0=>some (Ann.mk ((Nat)) (fun i=>⟨[(0,.c (.ro (.rows .i64 (K)))),(1,.c (.ro (.ints .i64 (m)))),(5,.c (.int .i64 ((i:Int))))],[]⟩) (fun i=>i≤K.length∧(∀j,j<i→K.getD j []≠m)) (fun i=>K.length - i) (fun _=>am))
 | _=>none
def G8:List (Nat×Ctr):=[(239,⟨[],oU⟩)]
def zf (K:List (List Int)) (m:List Int):Prop :=
 ((∃x0:Nat,(((x0≤K.length)∧(∀(j:Nat),j<x0→K.getD j []≠m))∧((K=K)∧((m=m)∧((0:Int)=(↑x0:Int))))))∧(∀x1:Nat,(((x1≤K.length)∧(∀(j:Nat),j<x1→K.getD j []≠m))→(ac (decide ((↑x1:Int)<(↑(K.length):Int))) ((aa (↑x1:Int) (K.length))∧(((ae ((K.getD ((↑x1:Int).toNat) []).length))∧True)∧(ac (decide (K.getD ((↑x1:Int).toNat) []=m)) (((↑x1:Int)=ic K m)∧True) ((ab ((↑x1:Int)+(1:Int)))∧(∃x2:Nat,(((x2≤K.length)∧(∀(j:Nat),j<x2→K.getD j []≠m))∧((K.length - x2<K.length - x1)∧((K=K)∧((m=m)∧((↑x1:Int)+(1:Int)=(↑x2:Int))))))))))) (((-1:Int)=ic K m)∧True)))))
theorem OW (K:List (List Int)) (m:List Int):aC Tryz.prog (af G8) ah (G7 K m) Tryz.f268 (aE Tryz.f268) [] [.c (.rows .i64 (K)),.c (.ints .i64 (m))] (rZ K m)=zf K m:=by kernel_rfl
theorem OX (K:List (List Int)) (m:List Int) (Yh:(rZ K m).pre):zf K m:=by
 simp only [rZ,zf,aG,u1,u2,u3,u4,u5,u6,u7,u8,u9,v1,v2,v3,v4,v5,v6,v7,v8,v9,w1,w2,w3,w4,aH,aa,ab,ae,ar] at Yh ⊢;have hk:=Yh.1
 refine ⟨⟨0,⟨by omega,fun j h=>by omega⟩,rfl⟩,fun i ⟨hi,ih⟩=>⟨fun h=>⟨by omega,?_,fun q=>?_,fun q=>⟨by omega,i+1,⟨by omega,fun j hj=>?_⟩,by omega,by omega⟩⟩,fun h=>?_⟩⟩
 ·exact Yh.2 _ (cE K [] i (by omega))
 ·rw [ic,if_pos (by rw [←q];exact cE K [] i (by omega)),pJ i ih (by omega) q]
 ·by_cases e:j=i
  ·subst e;exact q
  ·exact ih j (by omega)
 ·rw [ic,if_neg]
  intro hm
  obtain ⟨q1,q2⟩:=pI hm;exact ih _ (by omega) q2
theorem OY:Fits Tryz.prog 268 ⟨[],ze⟩:=by
 refine aJ (Γ:=af G8) (aj zd aF) Tryz.func268 fun ds p h hp=>?_
 unfold ze at h;split at h
 ·cases h
  exact ⟨ah,G7 _ _ ,by rw [OW];exact OX _ _  hp⟩
 ·cases h
theorem OZ {a b:List (List Int)} (hl:a.length=b.length) {i:Nat} (h:i<a.length):dg (a.drop i) (b.drop i)=if a.getD i []=b.getD i [] then dg (a.drop (i+1)) (b.drop (i+1)) else bE (a.getD i []) (b.getD i []):=by
 rw [drop_cons' a [] i h,drop_cons' b [] i (by omega),dg]
def sa (a:List (List Int)) (b:List (List Int)):Post:=⟨au a∧au b∧a.length=b.length,.c (.bool (dg a b)),[]⟩
def zg:List AD→Option Post
 | [.c (.r3 .i64 ([a])),.c (.r3 .i64 ([b]))]=>some (sa a b)
 | _=>none
def G9 (a:List (List Int)) (b:List (List Int)):Nat→Option Ann
 | 0=>some (Ann.mk ((Nat)) (fun k=>⟨[(0,.c (.ro (.r3 .i64 ([a])))),(1,.c (.ro (.r3 .i64 ([b])))),(5,.c (.int .i64 ((k:Int))))],[]⟩) (fun k=>k≤1∧(k=1→dg a b=false)) (fun k=>1 - k) (fun k=>fun b_=>match b_ with | 2=>some (Ann.mk ((Nat)) (fun i=>⟨[(0,.c (.ro (.r3 .i64 ([a])))),(1,.c (.ro (.r3 .i64 ([b])))),(5,.c (.int .i64 ((k:Int)))),(6,.c (.int .i64 ((i:Int))))],[]⟩) (fun i=>k=0∧i≤a.length∧dg a b=dg (a.drop i) (b.drop i)) (fun i=>a.length - i) (fun _=>am)) | _=>none))
 | _=>none
def Ha:List (Nat×Ctr):=[(239,⟨[],oU⟩),(240,⟨[],t9⟩)]
def nu (a:List (List Int)) (x0:Nat):=((a::([]:List (List (List Int)))).getD ((↑x0:Int).toNat) ([]:List (List Int)))
def zh (a:List (List Int)) (b:List (List Int)):Prop :=
 ((∃x0:Nat,(((x0≤(1:Nat))∧(x0=(1:Nat)→dg a b=false))∧((a::([]:List (List (List Int)))=a::([]:List (List (List Int))))∧((b::([]:List (List (List Int)))=b::([]:List (List (List Int))))∧((0:Int)=(↑x0:Int))))))∧(∀x1:Nat,(((x1≤(1:Nat))∧(x1=(1:Nat)→dg a b=false))→(ac (decide ((↑x1:Int)<(↑((a::([]:List (List (List Int)))).length):Int))) ((∃x2:Nat,(((x1=(0:Nat))∧((x2≤a.length)∧(dg a b=dg (List.drop x2 a) (List.drop x2 b))))∧((a::([]:List (List (List Int)))=a::([]:List (List (List Int))))∧((b::([]:List (List (List Int)))=b::([]:List (List (List Int))))∧(((↑x1:Int)=(↑x1:Int))∧((0:Int)=(↑x2:Int)))))))∧(∀x3:Nat,(((x1=(0:Nat))∧((x3≤a.length)∧(dg a b=dg (List.drop x3 a) (List.drop x3 b))))→((aa (↑x1:Int) ((a::([]:List (List (List Int)))).length))∧(ac (decide ((↑x3:Int)<(↑(((a::([]:List (List (List Int)))).getD ((↑x1:Int).toNat) ([]:List (List Int))).length):Int))) ((aa (↑x1:Int) ((a::([]:List (List (List Int)))).length))∧((aa (↑x3:Int) ((nu a x1).length))∧((aa (↑x1:Int) ((b::([]:List (List (List Int)))).length))∧((aa (↑x3:Int) (((b::([]:List (List (List Int)))).getD ((↑x1:Int).toNat) ([]:List (List Int))).length))∧(((ae (((nu a x1).getD ((↑x3:Int).toNat) []).length))∧True) ∧
 (ac (!decide ((List.getD (a::([]:List (List (List Int)))) ((↑x1:Int).toNat) ([]:List (List Int))).getD ((↑x3:Int).toNat) []=(List.getD (b::([]:List (List (List Int)))) ((↑x1:Int).toNat) ([]:List (List Int))).getD ((↑x3:Int).toNat) [])) ((aa (↑x1:Int) ((a::([]:List (List (List Int)))).length))∧((aa (↑x3:Int) ((nu a x1).length))∧((aa (↑x1:Int) ((b::([]:List (List (List Int)))).length))∧((aa (↑x3:Int) (((b::([]:List (List (List Int)))).getD ((↑x1:Int).toNat) ([]:List (List Int))).length))∧(((ae (((nu a x1).getD ((↑x3:Int).toNat) []).length))∧True)∧((bE ((nu a x1).getD ((↑x3:Int).toNat) []) ((List.getD (b::([]:List (List (List Int)))) ((↑x1:Int).toNat) ([]:List (List Int))).getD ((↑x3:Int).toNat) [])=dg a b)∧True)))))) ((ab ((↑x3:Int)+(1:Int)))∧(∃x4:Nat,(((x1=(0:Nat))∧((x4≤a.length)∧(dg a b=dg (List.drop x4 a) (List.drop x4 b))))∧((a.length - x4<a.length - x3)∧((a::([]:List (List (List Int)))=a::([]:List (List (List Int))))∧((b::([]:List (List (List Int)))=b::([]:List (List (List Int))))∧(((↑x1:Int)=(↑x1:Int))∧((↑x3:Int)+(1:Int)=(↑x4:Int))))))))))))))) ((ab ((↑x1:Int)+(1:Int)))∧(∃x5:Nat,(((x5≤(1:Nat))∧(x5=(1:Nat)→dg a b=false))∧(((1:Nat) - x5<(1:Nat) - x1)∧((a::([]:List (List (List Int)))=a::([]:List (List (List Int))))∧((b::([]:List (List (List Int)))=b::([]:List (List (List Int)))) ∧
 ((↑x1:Int)+(1:Int)=(↑x5:Int))))))))))))) ((false=dg a b)∧True)))))
theorem O0 (a:List (List Int)) (b:List (List Int)):aC Tryz.prog (af Ha) ah (G9 a b) Tryz.f181 (aE Tryz.f181) [] [.c (.r3 .i64 ([a])),.c (.r3 .i64 ([b]))] (sa a b)=zh a b:=by kernel_rfl
theorem O5 (a:List (List Int)) (b:List (List Int)) (Yh:(sa a b).pre):zh a b:=by
 simp only [sa,zh,nu,aG,u1,u2,u3,u4,u5,u6,u7,u8,u9,v1,v2,v3,v4,v5,v6,v7,v8,v9,w1,w2,w3,w4,aH,aa,ab,ae,ar] at Yh ⊢;obtain ⟨h1,h2,h3⟩:=Yh;have hk:=h1.1
 refine ⟨⟨0,⟨by omega,fun h=>by omega⟩,rfl⟩,fun k ⟨hk,ik⟩=>⟨fun h=>⟨⟨0,⟨by omega,by omega,rfl⟩,rfl⟩,fun i ⟨e,hi,ii⟩=>?_⟩,fun h=>(ik (by omega)).symm⟩⟩
 subst e;have ea:[a].getD 0 []=a:=rfl
 have eb:[b].getD 0 []=b:=rfl
 rw [ea,eb];refine ⟨by omega,fun q=>?_,fun q=>⟨by omega,1,⟨by omega,fun _=>?_⟩,by omega,by omega⟩⟩
 ·have s:=OZ h3 (i:=i) (by omega)
  have r:=h1.2 _ (cE a [] i (by omega))
  refine ⟨by omega,by omega,by omega,by omega,r,fun z=>⟨by omega,by omega,by omega,by omega,r,?_⟩,fun z=>⟨by omega,i+1,⟨rfl,by omega,?_⟩,by omega,by omega⟩⟩
  ·rw [ii,s,if_neg z]
  ·rw [ii,s,if_pos z]
 ·rw [ii,List.drop_of_length_le (by omega)];simp [dg]
theorem O6:Fits Tryz.prog 181 ⟨[],zg⟩:=by
 refine aJ (Γ:=af Ha) (aj zd (aj IQ aF)) Tryz.func181 fun ds p h hp=>?_
 unfold zg at h;split at h
 ·cases h
  exact ⟨ah,G9 _ _ ,by rw [O0];exact O5 _ _  hp⟩
 ·cases h
def cF (t:List (List Int)):List (List Int):=g4 [t] [t] 1000000
def sc (t:List (List Int)):Post:=⟨aW t=true,.c (.rows 57 2 .i64 (cF t)),[]⟩
def zi:List AD→Option Post
 | [.c (.rows .i64 (t))]=>some (sc t)
 | _=>none
def Hb:List (Nat×Ctr):=[(168,⟨[],BT⟩)]
def zj (t:List (List Int)):Prop :=
 (((([(0:Int)]=[(0:Int)])∧(((1:Nat)≤(t::([]:List (List (List Int)))).length)∧(((t::([]:List (List (List Int)))).length≤(1000:Nat))∧(((t::([]:List (List (List Int)))).length=(t::([]:List (List (List Int)))).length)∧(((1:Nat)≤nT (t::([]:List (List (List Int)))))∧((nT (t::([]:List (List (List Int))))≤(12:Nat))∧((bQ (nT (t::([]:List (List (List Int))))) (t::([]:List (List (List Int)))))∧((bQ (nT (t::([]:List (List (List Int))))) (t::([]:List (List (List Int)))))∧(((1:Int)≤(1000000:Int))∧((1000000:Int)≤(1000000:Int)))))))))))∧True)∧((g4 (t::([]:List (List (List Int)))) (t::([]:List (List (List Int)))) (1000000:Int)=cF t)∧True))
theorem O7 (t:List (List Int)):aC Tryz.prog (af Hb) ah am Tryz.f176 (aE Tryz.f176) [] [.c (.rows .i64 (t))] (sc t)=zj t:=by kernel_rfl
theorem O8 (t:List (List Int)) (Yh:(sc t).pre):zj t:=by
 simp only [sc,zj,aG,u1,u2,u3,u4,u5,u6,u7,u8,u9,v1,v2,v3,v4,v5,v6,v7,v8,v9,w1,w2,w3,w4,aH,aa,ab,ae,ar] at Yh ⊢;obtain ⟨h1,h2,h3⟩:=bA Yh;have e:nT [t]=t.length:=rfl
 have T:bQ (nT [t]) [t]:=fun k hk=>by
  have:k=0:=by simp at hk;omega
  subst this;refine ⟨rfl,fun x hx=>⟨(h3 x hx).1,fun y hy=>?_⟩⟩
  have:=(h3 x hx).2 y hy
  have e2:en t x y=(t.getD x []).getD y 0:=rfl
  show 0≤en t x y∧en t x y<(t.length:Int)
  omega
 exact ⟨⟨by omega,by omega,by omega,by omega,T,T,by omega,by omega⟩,rfl⟩
theorem O9:Fits Tryz.prog 176 ⟨[],zi⟩:=by
 refine aJ (Γ:=af Hb) (aj Tn aF) Tryz.func176 fun ds p h hp=>?_
 unfold zi at h;split at h
 ·cases h
  exact ⟨ah,am,by rw [O7];exact O8 _  hp⟩
 ·cases h
theorem Hc:∀(a b:List Int),a.length=b.length→bE a b=true→∃i,i<a.length∧(∀j,j<i→a.getD j 0=b.getD j 0)∧a.getD i 0<b.getD i 0
 | [],[],_,h=>by cases h
 | [],_::_,hl,_=>by simp at hl
 | _::_,[],hl,_=>by simp at hl
 | x::a,y::b,hl,h=>by
  rw [bE] at h;by_cases e:x=y
  ·rw [if_pos e] at h
   obtain ⟨i,h1,h2,h3⟩:=Hc a b (by simpa using hl) h
   refine ⟨i+1,by simp;omega,fun j hj=>?_,h3⟩
   cases j with
   | zero=>exact e
   | succ j=>exact h2 j (by omega)
  ·rw [if_neg e] at h
   exact ⟨0,by simp,fun j hj=>by omega,of_decide_eq_true h⟩
def eI (n:Nat):List Int:=aq n fun i=>(i:Int)
theorem kS {p q:List Int} {i:Nat} (h:i<p.length):(bU p q).getD i 0=q.getD (p.getD i 0).toNat 0:=qR _ _ _ _ _ h
theorem lP (p q:List Int):(bU p q).length=p.length:=by simp [bU]
theorem Pa {g:List Int} (hn:g.Nodup) {i j:Nat} (hi:i<g.length) (hj:j<g.length) (e:g.getD i 0=g.getD j 0):i=j:=by
 rw [ce g 0 i hi,ce g 0 j hj] at e;exact (List.getElem_inj hn).1 e
theorem Pb {n:Nat} {g:List Int} (hl:g.length=n) (hr:∀i,i<n→0≤g.getD i 0) (hn:g.Nodup):bE g (eI n)=false:=by
 cases e:bE g (eI n) with
 | false=>rfl
 | true =>
  exfalso
  obtain ⟨i,h1,h2,h3⟩:=Hc g (eI n) (by rw [hl,eI,cf]) e
  have u:∀j,j<n→(eI n).getD j 0=(j:Int):=fun j hj=>cr _ _ _ hj
  rw [u i (by omega)] at h3
  have h0:=hr i (by omega)
  have hj:=h2 (g.getD i 0).toNat (by omega)
  rw [u _ (by omega)] at hj
  have:g.getD (g.getD i 0).toNat 0=g.getD i 0:=by omega
  have:=Pa hn (i:=(g.getD i 0).toNat) (j:=i) (by omega) h1 this
  omega
section
variable {n:Nat} {t:List (List Int)}
theorem Pc (ht:ba n t):isoL n [t] [t] (eI n) where
 len:=cf _ _
 rng i hi:=by rw [eI,cr _ _ _ hi];omega
 nd:=by
  rw [eI,aq,List.Nodup,List.pairwise_map];exact (List.nodup_range (n:=n)).imp fun {x y} h e=>h (by omega)
 ok k x y hk hx hy hv:=by
  have k0:k=0:=by simp at hk;omega
  subst k0;have hx:x<n:=by rwa [eI,cf] at hx
  have hy:y<n:=by rwa [eI,cf] at hy
  have e:[t].getD 0 []=t:=rfl
  rw [e] at hv ⊢;have v:=(ht.2 x hx).2 y hy
  rw [eI,cr _ _ _ hx,cr _ _ _ hy,cr _ _ _ (by omega),Int.toNat_natCast,Int.toNat_natCast,Int.toNat_of_nonneg v.1]
theorem Pd (ht:ba n t) {g h:List Int} (hg:isoL n [t] [t] g) (hh:isoL n [t] [t] h):isoL n [t] [t] (bU g h) where
 len:=by rw [lP];exact hg.len
 rng i hi:=by
  rw [kS (by rw [hg.len];exact hi)]
  have:=hg.rng i hi
  exact hh.rng _ (by omega)
 nd:=by
  have G:=hg.g (fun k hk=>by have k0:k=0:=(by simp at hk;omega);subst k0;exact ht)
  have H:=hh.g (fun k hk=>by have k0:k=0:=(by simp at hk;omega);subst k0;exact ht)
  have gl:=hg.len
  rw [List.Nodup,List.pairwise_iff_getElem];intro i j hi hj hij e
  rw [lP] at hi hj;rw [←ce _ 0 i (by rw [lP];exact hi),←ce _ 0 j (by rw [lP];exact hj),kS hi,kS hj] at e
  have a:=hg.rng i (by omega)
  have b:=hg.rng j (by omega)
  have a2:=hh.rng (g.getD i 0).toNat (by omega)
  have b2:=hh.rng (g.getD j 0).toNat (by omega)
  have q:=H.inj (g.getD i 0).toNat (g.getD j 0).toNat (by omega) (by omega) (by rw [e])
  have:=G.inj i j (by omega) (by omega) q
  omega
 ok k x y hk hx hy hv:=by
  have k0:k=0:=by simp at hk;omega
  subst k0;have gl:=hg.len
  have hl:=hh.len
  rw [lP] at hx hy hv;have e:[t].getD 0 []=t:=rfl
  rw [e] at hv ⊢;have v:=(ht.2 x (by omega)).2 y (by omega)
  have a:=hg.rng x (by omega)
  have b:=hg.rng y (by omega)
  rw [kS (by omega),kS (by omega),kS (by omega)]
  have o1:=hg.ok 0 x y (by simp) (by omega) (by omega) (by rw [e];omega)
  rw [e] at o1;rw [o1];have w:=(ht.2 (g.getD x 0).toNat (by omega)).2 (g.getD y 0).toNat (by omega)
  have o2:=hh.ok 0 (g.getD x 0).toNat (g.getD y 0).toNat (by simp) (by omega) (by omega) (by rw [e];omega)
  rw [e] at o2;exact o2
theorem zk (ht:ba n t):bQ n [t]:=fun k hk=>by
 have k0:k=0:=by simp at hk;omega
 subst k0;exact ht
theorem Pe (ht:ba n t) (hn:1≤n):AuOk n (fe n [t] [t])∧(fe n [t] [t]).getD 0 []=eI n:=by
 have T:=zk ht
 have U:eI n∈fe n [t] [t]:=(A4 T hn).2 ⟨Pc ht,by rw [eI,cr _ _ _ (by omega)];rfl⟩
 have I:∀i,i<(fe n [t] [t]).length→isoL n [t] [t] ((fe n [t] [t]).getD i [])∧((fe n [t] [t]).getD i []).getD 0 0=0:=fun i hi=>(A4 T hn).1 (cE _ [] i hi)
 have P:1≤(fe n [t] [t]).length:=List.length_pos_of_mem U
 refine ⟨⟨P,fun i hi=>(I i hi).1.len,fun i x hi hx=>(I i hi).1.rng x hx,fun i j hi hj=>(A4 T hn).2 ⟨Pd ht (I i hi).1 (I j hj).1,?_⟩⟩,?_⟩
 ·have a:=(I i hi).1.len
  rw [kS (by omega),(I i hi).2];exact (I j hj).2
 ·obtain ⟨j,hj,e⟩:=List.getElem_of_mem U
  by_cases j0:j=0
  ·subst j0;rw [ce _ [] 0 hj,e]
  ·exfalso
   have S:=List.pairwise_iff_getElem.1 (RW n [t] [t]) 0 j (by omega) hj (by omega)
   have a:=(I 0 (by omega)).1
   rw [ce _ [] 0 (by omega)] at a
   have:=Pb a.len (fun i hi=>(a.rng i hi).1) a.nd
   rw [e] at S;rw [S] at this;cases this
theorem Pf (ht:ba n t) (hn:1≤n) (h:(cF t).length≤999999):cF t=fe n [t] [t]:=by
 have e:nT [t]=n:=ht.1
 have T:=zk ht
 have E:cF t=(fe n [t] [t]).take 1000000:=by
  rw [cF,g4,if_pos rfl,e];exact IL T rfl hn (by omega)
 rw [E,List.length_take] at h;rw [E,List.take_of_length_le (by omega)]
theorem Pg (ht:ba n t) (hn:1≤n) (h:(cF t).length≤999999):AuOk n (cF t)∧iW (cF t) 0 0=0:=by
 rw [Pf ht hn h];obtain ⟨a,b⟩:=Pe ht hn;refine ⟨a,?_⟩
 have th:bU (eI n) (eI n)=eI n:=by
  refine Fr (by rw [lP]) fun i hi=>?_
  rw [lP,eI,cf] at hi;rw [kS (by rw [eI,cf];exact hi),eI,cr _ _ _ hi,Int.toNat_natCast,cr _ _ _ hi]
 have z:(0:Int).toNat=0:=rfl
 rw [iW,z,b,th];exact pJ 0 (fun j hj=>by omega) (by have:=a.pos;omega) b
end
def aD (s:Int) (x:Nat):Bool:=s.toNat.testBit x
theorem sd {s:Int} (h:0≤s) (k:Nat):s / 2 ^ k=((s.toNat / 2 ^ k:Nat):Int):=by
 obtain ⟨m,rfl⟩:∃m:Nat,s=(m:Int):=⟨s.toNat,by omega⟩
 rw [Int.toNat_natCast,Int.natCast_ediv,Int.natCast_pow];rfl
theorem Hd {s:Int} (h:0≤s) (k:Nat):((((s / 2 ^ k).toNat &&& 1:Nat):Int)=1)↔aD s k=true:=by
 rw [sd h,Int.toNat_natCast,Nat.and_one_is_mod,aD,Nat.testBit_eq_decide_div_mod_eq,decide_eq_true_iff];omega
theorem Ph {s:Int} (h:0≤s) (k:Nat):((((s / 2 ^ k).toNat &&& 1:Nat):Int)=0)↔aD s k=false:=by
 rw [sd h,Int.toNat_natCast,Nat.and_one_is_mod,aD,Nat.testBit_eq_decide_div_mod_eq,decide_eq_false_iff_not];omega
theorem oV {s:Int} (h:0≤s) (k:Nat):((((s / 2 ^ k).toNat &&& Int.toNat 1:Nat):Int)=1)↔aD s k=true:=Hd h k
theorem se {s:Int} (h:0≤s) (k:Nat):((((s / 2 ^ k).toNat &&& Int.toNat 1:Nat):Int)=0)↔aD s k=false:=Ph h k
theorem sf {s:Int} (h:0≤s) (k:Nat):((((s / 2 ^ k).toNat &&& Int.toNat 1:Nat):Int)≠1)↔aD s k=false:=by
 rw [ne_eq,oV h,Bool.not_eq_true]
theorem zl {s:Int} (h:0≤s) (k:Nat):((((s / 2 ^ k).toNat &&& Int.toNat 1:Nat):Int)≠0)↔aD s k=true:=by
 rw [ne_eq,se h,Bool.not_eq_false]
theorem iX {a:Int} (h:0≤a∧a≤9223372036854775807):IntKind.u64.wrap a=a:=by
 show a % 18446744073709551616=a
 exact Int.emod_eq_of_lt h.1 (by omega)
theorem oW {s:Int} (h:0≤s) (k:Nat) (hs:s≤9223372036854775807):0≤s / 2 ^ k∧s / 2 ^ k≤9223372036854775807:=by
 rw [sd h];have h1:=Int.natCast_nonneg (s.toNat / 2 ^ k)
 have h2:((s.toNat / 2 ^ k:Nat):Int)≤(s.toNat:Int):=Int.ofNat_le.2 (Nat.div_le_self s.toNat (2 ^ k))
 exact ⟨h1,by omega⟩
theorem He {s:Int} (h:0≤s) (k:Nat):0<s / 2 ^ k↔2 ^ k≤s.toNat:=by
 rw [sd h];have:0<s.toNat / 2 ^ k↔2 ^ k≤s.toNat:=Nat.div_pos_iff.trans ⟨fun h=>h.2,fun h=>⟨Nat.two_pow_pos k,h⟩⟩
 omega
def ag (s:Int) (k:Nat):List Int:=((List.range k).filter (aD s)).map fun i:Nat=>(i:Int)
theorem sg (s:Int) (k:Nat):ag s (k+1)=if aD s k=true then ag s k++[(k:Int)] else ag s k:=by
 simp only [ag,List.range_succ,List.filter_append,List.filter_cons,List.filter_nil];split <;> simp
theorem Hf {s:Int} {k:Nat} (h:s.toNat<2 ^ k) {m:Nat} (hm:k≤m):aD s m=false :=
 Nat.testBit_lt_two_pow (Nat.lt_of_lt_of_le h (Nat.pow_le_pow_right (by omega) hm))
theorem sk {s:Int} {k:Nat} (h:s.toNat<2 ^ k):∀j,ag s (k+j)=ag s k
 | 0=>rfl
 | j+1=>by rw [←Nat.add_assoc,sg,Hf h (by omega),if_neg (by decide),sk h j]
theorem Pi (s:Int) (k:Nat) (f:Int→Bool):(ag s k).all f=(List.range k).all fun x=>!aD s x||f (x:Int):=by
 simp [ag,List.all_map,List.all_filter,Function.comp_def]
theorem nv (s:Int) (k:Nat):(ag s k).length≤k:=by
 have:=List.length_filter_le (aD s) (List.range k)
 simpa [ag] using this
theorem Pj (s:Int) (k:Nat):∀x∈ag s k,0≤x∧x<(k:Int):=fun x hx=>by
 simp only [ag,List.mem_map,List.mem_filter,List.mem_range] at hx;obtain ⟨a,⟨ha,_⟩,rfl⟩:=hx;omega
def dW (p:Nat→Bool):Nat→Nat
 | 0=>0
 | i+1=>if p i=true then dW p i ||| 2 ^ i else dW p i
theorem oX (p:Nat→Bool):∀i,dW p i<2 ^ i
 | 0=>by simp [dW]
 | i+1=>by
  have h:=oX p i
  have h2:dW p i<2 ^ (i+1):=by rw [Nat.pow_succ];omega
  simp only [dW];split
  ·exact Nat.or_lt_two_pow h2 (by rw [Nat.pow_succ];have:=Nat.two_pow_pos i;omega)
  ·exact h2
theorem gM (f:Nat→Bool) {i N:Nat} (h:i<N):(List.range' i (N - i)).all f=(f i&&(List.range' (i+1) (N - (i+1))).all f):=by
 rw [show N - i=(N - (i+1))+1 by omega,List.range'_succ];rfl
theorem gN (f:Nat→Bool) {i N:Nat} (h:N≤i):(List.range' i (N - i)).all f=true:=by
 rw [show N - i=0 by omega];rfl
theorem gO (f:Nat→Bool) (N:Nat):(List.range N).all f=(List.range' 0 (N - 0)).all f:=by
 rw [List.range_eq_range',Nat.sub_zero]
def sm (s:Int) (x:Int):Post:=⟨0≤s∧s≤9223372036854775807∧0≤x∧x≤62,.c (.bool (aD s x.toNat)),[]⟩
def nw:List AD→Option Post
 | [.c (.int .i64 (s)),.c (.int .i64 (x))]=>some (sm s x)
 | _=>none
def Hg:List (Nat×Ctr):=[]
def zm (s:Int) (x:Int):Prop :=
 ((((0:Int)≤x)∧(x≤(62:Int)))∧(((IntKind.i64=IntKind.i64)∧((((0:Int)≤s / (2:Int) ^ x.toNat)∧(s / (2:Int) ^ x.toNat≤(9223372036854775807:Int)))∧(((0:Int)≤(1:Int))∧((1:Int)≤(9223372036854775807:Int)))))∧((((↑((s / (2:Int) ^ x.toNat).toNat &&& (1:Int).toNat):Int) == (1:Int))=aD s (x.toNat))∧True)))
theorem Pk (s:Int) (x:Int):aC Tryz.prog (af Hg) ah am Tryz.f161 (aE Tryz.f161) [] [.c (.int .i64 (s)),.c (.int .i64 (x))] (sm s x)=zm s x:=by kernel_rfl
theorem Pl (s:Int) (x:Int) (Yh:(sm s x).pre):zm s x:=by
 simp only [sm,zm,aG,u1,u2,u3,u4,u5,u6,u7,u8,u9,v1,v2,v3,v4,v5,v6,v7,v8,v9,w1,w2,w3,w4,aH,aa,ab,ae,ar] at Yh ⊢;obtain ⟨h0,h1,h2,h3⟩:=Yh;refine ⟨by omega,⟨oW h0 _ h1,by omega,by omega⟩,?_⟩
 rw [Bool.eq_iff_iff,beq_iff_eq];exact Hd h0 _
theorem sq:Fits Tryz.prog 161 ⟨[],nw⟩:=by
 refine aJ (Γ:=af Hg) aF Tryz.func161 fun ds p h hp=>?_
 unfold nw at h;split at h
 ·cases h
  exact ⟨ah,am,by rw [Pk];exact Pl _ _  hp⟩
 ·cases h
def sr (s:Int):Post:=⟨0≤s∧s<4096,.c (.ints 2 .i64 (ag s 12)),[]⟩
def lQ:List AD→Option Post
 | [.c (.int .i64 (s))]=>some (sr s)
 | _=>none
def Hh (s:Int):Nat→Option Ann
 | 0=>some (Ann.mk ((Nat)) (fun i=>⟨[(0,.c (.int .i64 (s))),(3,.c (.own (3))),(4,.c (.int .i64 ((i:Int))))],[(3,some (.ints 2 .i64 (ag s i)))]⟩) (fun i=>i≤12) (fun i=>12 - i) (fun _=>am))
 | _=>none
def Hi:List (Nat×Ctr):=[(161,⟨[],nw⟩)]
def zn (s:Int):Prop :=
 ((∃x0:Nat,((x0≤(12:Nat))∧((s=s)∧(((0:Int)=(↑x0:Int))∧(ag s x0=[])))))∧(∀x1:Nat,((x1≤(12:Nat))→((((0:Int)≤(↑x1:Int))∧((↑x1:Int)≤(62:Int)))∧(ac (decide ((0:Int)<s / (2:Int) ^ (↑x1:Int).toNat)) (((((0:Int)≤s)∧((s≤(9223372036854775807:Int))∧(((0:Int)≤(↑x1:Int))∧((↑x1:Int)≤(62:Int)))))∧True)∧(ac (aD s ((↑x1:Int).toNat)) ((ae ((ag s x1).length+[(↑x1:Int)].length))∧((ab ((↑x1:Int)+(1:Int)))∧(∃x2:Nat,((x2≤(12:Nat))∧(((12:Nat) - x2<(12:Nat) - x1)∧((s=s)∧(((↑x1:Int)+(1:Int)=(↑x2:Int))∧(ag s x1++[(↑x1:Int)]=ag s x2)))))))) ((ab ((↑x1:Int)+(1:Int)))∧(∃x3:Nat,((x3≤(12:Nat))∧(((12:Nat) - x3<(12:Nat) - x1)∧((s=s)∧(((↑x1:Int)+(1:Int)=(↑x3:Int))∧(ag s x1=ag s x3))))))))) ((ag s x1=ag s (12:Nat))∧True))))))
theorem Pm (s:Int):aC Tryz.prog (af Hi) ah (Hh s) Tryz.f92 (aE Tryz.f92) [] [.c (.int .i64 (s))] (sr s)=zn s:=by kernel_rfl
theorem Pn (s:Int) (Yh:(sr s).pre):zn s:=by
 simp only [sr,zn,aG,u1,u2,u3,u4,u5,u6,u7,u8,u9,v1,v2,v3,v4,v5,v6,v7,v8,v9,w1,w2,w3,w4,aH,aa,ab,ae,ar] at Yh ⊢;obtain ⟨h0,h1⟩:=Yh;refine ⟨⟨0,by omega,rfl,rfl⟩,fun i hi=>⟨by omega,fun h=>?_,fun h=>?_⟩⟩
 ·have hp:=(He h0 i).1 h
  have hi2:i<12:=by
   rcases Nat.lt_or_ge i 12 with h | h
   ·exact h
   ·have e:i=12:=by omega
    subst e;omega
  have hl:=nv s i
  refine ⟨by omega,fun hb=>⟨by omega,by omega,i+1,by omega,by omega,by omega,by rw [sg,if_pos hb]⟩,fun hb=>⟨by omega,i+1,by omega,by omega,by omega,by rw [sg,if_neg (by rw [hb];decide)]⟩⟩
 ·have hp:s.toNat<2 ^ i:=by
   rcases Nat.lt_or_ge s.toNat (2 ^ i) with h2 | h2
   ·exact h2
   ·exact absurd ((He h0 i).2 h2) h
  have:=sk hp (12 - i)
  rwa [show i+(12 - i)=12 by omega,eq_comm] at this
theorem oY:Fits Tryz.prog 92 ⟨[],lQ⟩:=by
 refine aJ (Γ:=af Hi) (aj sq aF) Tryz.func92 fun ds p h hp=>?_
 unfold lQ at h;split at h
 ·cases h
  exact ⟨ah,Hh _ ,by rw [Pm];exact Pn _  hp⟩
 ·cases h
theorem ss {α:Type} {n:Nat} {q:Nat→Option α} {r:α}:∀{k:Nat},b7 n q k=some r→∃i,q i=some r
 | 0,h=>by cases h
 | k+1,h=>by
  simp only [b7,Option.or_eq_some_iff] at h;rcases h with h | ⟨_,h⟩
  ·exact ⟨_,h⟩
  ·exact ss h
theorem su (t:List (List Int)) (f:List Int→Bool):t.all f=(List.range t.length).all fun x=>f (t.getD x []):=by
 rw [Bool.eq_iff_iff,List.all_eq_true,List.all_eq_true]
 constructor
 ·intro h x hx
  rw [List.mem_range] at hx;exact h _ (cE t [] x hx)
 ·intro h r hr
  obtain ⟨k,hk,rfl⟩:=List.getElem_of_mem hr;have:=h k (by simpa using hk)
  rwa [ce _ _ _ hk] at this
theorem Po (l:List Nat) (f g:Nat→Bool):(l.all f&&l.all g)=l.all fun x=>f x&&g x:=by
 rw [Bool.eq_iff_iff];simp only [Bool.and_eq_true,List.all_eq_true];exact ⟨fun h x hx=>⟨h.1 x hx,h.2 x hx⟩,fun h=>⟨fun x hx=>(h x hx).1,fun x hx=>(h x hx).2⟩⟩
def ju (t:List (List Int)) (x y z:Nat):Bool:=decide (en t (en t x y).toNat z=en t x (en t y z).toNat)
def gP (t:List (List Int)) (x y:Nat):Bool:=(List.range t.length).all (ju t x y)
def lR (t:List (List Int)) (x:Nat):Bool:=(List.range t.length).all (gP t x)
def gQ (t:List (List Int)) (x:Nat):Bool:=decide (en t 0 x=(x:Int))&&decide (en t x 0=(x:Int))
def f3 (t:List (List Int)) (x:Nat):Bool:=gQ t x&&lR t x
def gq (t:List (List Int)) (x:Nat):Bool:=gQ t x&&(cW (t.getD x [])&&lR t x)
def a9 (t:List (List Int)):Bool:=aW t&&(t.all cW&&(List.range t.length).all (f3 t))
theorem Pp (t:List (List Int)):a9 t=(aW t&&(List.range t.length).all (gq t)):=by
 rw [a9,su,Po]
 congr 2
 funext x
 simp only [f3,gq];cases cW (t.getD x []) <;> cases gQ t x <;> simp
theorem dh {t:List (List Int)} (h:a9 t=true):aW t=true:=by
 rw [a9,Bool.and_eq_true] at h;exact h.1
def bk (t:List (List Int)) (x:Nat):Int:=bo 0 (t.getD x []) 0
theorem oZ (x:Int):∀(l:List Int) (k:Int),0≤k→bo x l k<k+(l.length:Int)
 | [],k,h=>by simp [bo];omega
 | y::l,k,h=>by
  simp only [bo,List.length_cons];split
  ·omega
  ·have:=oZ x l (k+1) (by omega)
   omega
theorem Hj {l:List Int} (h:cW l=true) {x:Int} (h0:0≤x) (h1:x<(l.length:Int)):x∈l:=Bi.1 h x h0 h1
theorem lS {t:List (List Int)} (h:a9 t=true) {x:Nat} (hx:x<t.length):0≤bk t x∧bk t x≤(t.length:Int) - 1:=by
 have ht:=bA (dh h)
 have hr:=(ht.2.2 x hx).1
 rw [a9,Bool.and_eq_true,Bool.and_eq_true] at h;have hp:cW (t.getD x [])=true:=by
  have:=h.2.1
  rw [su,List.all_eq_true] at this;exact this x (by simpa using hx)
 have hm:=Hj hp (x:=0) (by omega) (by omega)
 have h1:=uj 0 (t.getD x []) 0 (by omega)
 have h2:=oZ 0 (t.getD x []) 0 (by omega)
 rw [decide_eq_true hm] at h1;have h3:=of_decide_eq_true h1
 unfold bk;omega
def bH (t:List (List Int)):List Int:=aq t.length (bk t)
theorem o5 (t:List (List Int)):(bH t).length=t.length:=cf _ _
theorem o6 (t:List (List Int)) (x:Nat) (h:x<t.length):(bH t).getD x 0=bk t x:=cr _ _ _ h
def ie (a c:List (List Int)) (x y z:Nat):Option (List Int) :=
 if en c x (en a y z).toNat=en a (en a (en c x y).toNat (bk a x).toNat).toNat (en c x z).toNat then none else some [(x:Int),(y:Int),(z:Int)]
def gR (a c:List (List Int)) (x y:Nat):Option (List Int):=b7 a.length (ie a c x y) a.length
def f4 (a c:List (List Int)) (x:Nat):Option (List Int):=b7 a.length (gR a c x) a.length
def cA (a c:List (List Int)):Option (List Int):=b7 a.length (f4 a c) a.length
def aK (a c:List (List Int)):Bool:=a9 a&&a9 c&&decide (a.length=c.length)&&(cA a c).isNone
theorem dq {a c:List (List Int)} (h:aK a c=true):a9 a=true∧a9 c=true∧a.length=c.length∧(cA a c).isNone=true:=by
 simp only [aK,Bool.and_eq_true,decide_eq_true_eq] at h;exact ⟨h.1.1.1,h.1.1.2,h.1.2,h.2⟩
theorem Pq {a c:List (List Int)} {l:List Int} (h:cA a c=some l):l≠[]:=by
 obtain ⟨x,hx⟩:=ss h;obtain ⟨y,hy⟩:=ss hx;obtain ⟨z,hz⟩:=ss hy;unfold ie at hz;split at hz
 ·cases hz
 ·cases hz;simp
def fP (a c:List (List Int)) (x y:Nat):Int:=en a (bk a x).toNat (en c x y).toNat
def aO (a c:List (List Int)):List (List Int):=aS a.length (fP a c)
def di (a c:List (List Int)) (x y:Nat):Int:=en a (fP a c x y).toNat (bk a y).toNat
end Go.Sx
