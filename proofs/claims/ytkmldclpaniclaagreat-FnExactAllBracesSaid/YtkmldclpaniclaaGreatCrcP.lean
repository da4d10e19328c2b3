/- CrcP -/
import Derived.Test.YtkmldclpaniclaaGreatGrp
import Derived.Test.YtkmldclpaniclaaGreatEqt
import Derived.Test.YtkmldclpaniclaaGreatMpgE
import Derived.Test.YtkmldclpaniclaaGreatCrcG
import Derived.Test.YtkmldclpaniclaaGreatCirP
set_option linter.unusedSimpArgs false
set_option linter.unusedVariables false
open Go Go.Proofs
namespace Go.Sx
def gM(t:List (List Int))(x y:Nat):Nat:=(en t x y).toNat
structure GrpT (n:Nat) (t:List (List Int)):Prop where
 tb:aB n t
 pos:1<=n
 z1:∀x,x<n->gM t 0 x=x
 z2:∀x,x<n->gM t x 0=x
 asc:∀x y z,x<n->y<n->z<n->gM t (gM t x y) z=gM t x (gM t y z)
 can:∀x y z,x<n->y<n->z<n->gM t x y=gM t x z->y=z
 inv:∀x,x<n->∃y,y<n/\gM t x y=0
theorem LP{l:List Int}(h:mT l=true):l.Nodup:=by
 refine List.pairwise_iff_getElem.2 fun i j hi hj hij e=>?_
 have:=li (a:=(List.range l.length).map (fun x:Nat=>(x:Int))) (b:=l.eraseIdx j) (List.pairwise_map.2 (List.nodup_range.imp fun hne e=>hne (by omega))) (fun x hx=>by
  obtain⟨y,hy,rfl⟩:=List.mem_map.1 hx;have hy:y<l.length:=by simpa using hy
  obtain⟨k,hk,ek⟩:=List.mem_iff_getElem.1 (EL h (x:=(y:Int)) (by omega) (by omega))
  rw[List.mem_eraseIdx_iff_getElem];by_cases ej:k=j
  ·subst ej;exact⟨i,hi,by omega,by rw[e];exact ek⟩
  ·exact⟨k,hk,ej,ek⟩)
 rw[List.length_map,List.length_range,List.length_eraseIdx]at this;rw[if_pos hj]at this;omega
theorem LQ{t:List (List Int)}(h:g9 t=true):aB t.length t:=by
 obtain⟨_,_,h3⟩:=ow h;refine⟨rfl,fun x hx=>⟨(h3 x hx).1,fun y hy=>?_⟩⟩
 have:=(h3 x hx).2 y hy
 simp only[en];omega
theorem my{t:List (List Int)}(h:f4 t=true):GrpT t.length t:=by
 have htb:=LQ (qS h)
 have hpos:=(ow (qS h)).1
 rw[f4,Bool.and_eq_true,Bool.and_eq_true]at h;obtain⟨_,hp,hx⟩:=h;have hx:∀x,x<t.length->en t 0 x=x/\en t x 0=x/\∀y,y<t.length->∀z,z<t.length->en t (en t x y).toNat z=en t x (en t y z).toNat:=fun x hxl=>by
  have:=List.all_eq_true.1 hx x (by simpa using hxl)
  simp only[EK,EJ,Bool.and_eq_true,decide_eq_true_eq,EI,EH,EG,List.all_eq_true,List.mem_range]at this;exact⟨this.1.1,this.1.2,fun y hy z hz=>this.2 y hy z hz⟩
 have hperm:∀x,x<t.length->mT (t.getD x [])=true:=fun x hxl=>by
  rw[Mx,List.all_eq_true]at hp;exact hp x (by simpa using hxl)
 have row:∀x,x<t.length->(t.getD x []).length=t.length:=fun x hx=>(htb.2 x hx).1
 refine⟨htb,hpos,fun x hl=>by simp only[gM];rw[(hx x hl).1];simp,fun x hl=>by simp only[gM];rw[(hx x hl).2.1];simp,fun x y z h1 h2 h3=>by simp only[gM];rw[(hx x h1).2.2 y h2 z h3],fun x y z h1 h2 h3 e=>?_,fun x hl=>?_⟩
 ·have hnd:(t.getD x []).Nodup:=LP (hperm x h1)
  have a1:=(htb.2 x h1).2 y h2
  have a2:=(htb.2 x h1).2 z h3
  have e:en t x y=en t x z:=by simp only[gM]at e;omega
  exact nW hnd (by rw[row x h1];exact h2) (by rw[row x h1];exact h3) e
 ·have:=EL (hperm x hl) (x:=0) (by omega) (by rw[row x hl];omega)
  obtain⟨y,hy,e⟩:=List.mem_iff_getElem.1 this;exact⟨y,by rw[<-row x hl];exact hy,by rw[gM,en,bG _ _ _ hy,e];rfl⟩
section
variable {n:Nat} {t:List (List Int)}
theorem GrpT.lt(G:GrpT n t){x y:Nat}(hx:x<n)(hy:y<n):gM t x y<n:=by
 have:=(G.tb.2 x hx).2 y hy
 simp only[gM];omega
theorem GrpT.canR(G:GrpT n t){x y z:Nat}(hx:x<n)(hy:y<n)(hz:z<n)(e:gM t x z=gM t y z):x=y:=by
 obtain⟨w,hw,ew⟩:=G.inv z hz;have h1:=G.asc x z w hx hz hw
 have h2:=G.asc y z w hy hz hw
 rw[ew,G.z2 x hx]at h1;rw[ew,G.z2 y hy]at h2;rw[<-h1,<-h2,e]
def ap(p:List Int)(x:Nat):Nat:=(p.getD x 0).toNat
theorem fe{p:List Int}(h:isoL n [t] [t] p){x:Nat}(hx:x<n):ap p x<n:=by
 have:=h.rng x hx
 simp only[ap];omega
theorem jh(G:GrpT n t){p:List Int}(h:isoL n [t] [t] p){x y:Nat}(hx:x<n)(hy:y<n):ap p (gM t x y)=gM t (ap p x) (ap p y):=by
 have:=(h.g (kM G.tb)).map 0 x y (by simp) hx hy
 simp only[List.getD_cons_zero]at this
 show(p.getD (en t x y).toNat 0).toNat=(en t (p.getD x 0).toNat (p.getD y 0).toNat).toNat
 omega
theorem iL(G:GrpT n t){p:List Int}(h:isoL n [t] [t] p):ap p 0=0:=by
 have hp:=G.pos
 have h0:=fe h (x:=0) (by omega)
 have e:=jh G h (x:=0) (y:=0) (by omega) (by omega)
 rw[G.z1 0 (by omega)]at e
 refine(G.can (ap p 0) (ap p 0) 0 h0 h0 (by omega) ?_)
 rw[<-e,G.z2 _ h0]
theorem wg:∀(n:Nat) (l:List Nat),l.Nodup->(∀x∈l,x<n)->l.length<=n:=fun n l hl h=>by
 have:=li (a:=l.map (fun x:Nat=>(x:Int))) (b:=(List.range n).map (fun x:Nat=>(x:Int))) (List.pairwise_map.2 (hl.imp fun hne e=>hne (by omega))) (fun x hx=>by
  obtain⟨y,hy,rfl⟩:=List.mem_map.1 hx;exact List.mem_map.2 ⟨y,by simpa using h y hy,rfl⟩)
 simpa using this
theorem wh(G:GrpT n t){p q:List Int}(hp:isoL n [t] [t] p)(hq:isoL n [t] [t] q)(S:List Nat)(hS:∀s∈S,s<n/\ap p s=ap q s)(hnd:S.Nodup)(hl:n<2*S.length):p=q:=by
 have all:∀y,y<n->ap p y=ap q y:=fun y hy=>Classical.byContradiction fun hne=>by
  have nd:(S++S.map (gM t y)).Nodup:=by
   rw[List.nodup_append];refine⟨hnd,?_,fun a ha b hb e=>?_⟩
   ·refine List.pairwise_map.2 (List.Pairwise.imp_of_mem (fun {a b} ha hb hne2 e=>hne2 ?_) hnd)
    exact G.can y a b hy (hS a ha).1 (hS b hb).1 e
   ·obtain⟨s,hs,rfl⟩:=List.mem_map.1 hb
    obtain⟨hs1,hs2⟩:=hS s hs;have e2:=(hS a ha).2
    rw[e,jh G hp hy hs1,jh G hq hy hs1,hs2]at e2;exact hne (G.canR (fe hp hy) (fe hq hy) (fe hq hs1) e2)
  have:=wg n _ nd (fun x hx=>by
   rcases List.mem_append.1 hx with hx|hx
   ·exact(hS x hx).1
   ·obtain⟨s,hs,rfl⟩:=List.mem_map.1 hx
    exact G.lt hy (hS s hs).1)
  simp only[List.length_append,List.length_map]at this;omega
 refine jc (by rw[hp.len,hq.len]) fun i hi=>?_
 rw[hp.len]at hi;have:=all i hi
 have h1:=hp.rng i hi
 have h2:=hq.rng i hi
 simp only[ap]at this;omega
theorem LR(G:GrpT n t)(hn:n<=7):∃a b,a<n/\b<n/\∀p q,isoL n [t] [t] p->isoL n [t] [t] q->ap p a=ap q a->ap p b=ap q b->p=q:=by
 have hpos:=G.pos
 by_cases h1:n<=1
 ·exact⟨0,0,by omega,by omega,fun p q hp hq _ _=>wh G hp hq [0] (fun s hs=>by
   simp only[List.mem_singleton]at hs;subst hs;exact⟨by omega,by rw[iL G hp,iL G hq]⟩) (by simp) (by simp;omega)⟩
 ·by_cases h3:n<=3
  ·exact⟨1,1,by omega,by omega,fun p q hp hq e _=>wh G hp hq [0,1] (fun s hs=>by
    simp only[List.mem_cons,List.not_mem_nil,or_false]at hs;rcases hs with rfl|rfl
    ·exact⟨by omega,by rw[iL G hp,iL G hq]⟩
    ·exact⟨by omega,e⟩) (by simp) (by simp;omega)⟩
  ·obtain⟨v,hv,ev⟩:=G.inv 1 (by omega)
   obtain⟨b,hb,hb0,hb1,hbv⟩:∃b,b<n/\b≠0/\b≠1/\b≠v:=by
    by_cases e2:v=2
    ·exact⟨3,by omega,by omega,by omega,by omega⟩
    ·exact⟨2,by omega,by omega,by omega,by omega⟩
   have hm:=G.lt (x:=1) (y:=b) (by omega) hb
   have m0:gM t 1 b≠0:=fun e=>hbv (G.can 1 b v (by omega) hb hv (by rw[e,ev]))
   have m1:gM t 1 b≠1:=fun e=>hb0 (G.can 1 b 0 (by omega) hb (by omega) (by rw[e,G.z2 1 (by omega)]))
   have mb:gM t 1 b≠b:=fun e=>by
    have:=G.canR (x:=1) (y:=0) (z:=b) (by omega) (by omega) hb (by rw[e,G.z1 b hb])
    omega
   refine⟨1,b,by omega,hb,fun p q hp hq e1 e2=>wh G hp hq [0,1,b,gM t 1 b] (fun s hs=>?_) ?_ (by simp;omega)⟩
   ·simp only[List.mem_cons,List.not_mem_nil,or_false]at hs
    rcases hs with rfl|rfl|rfl|rfl
    ·exact⟨by omega,by rw[iL G hp,iL G hq]⟩
    ·exact⟨by omega,e1⟩
    ·exact⟨hb,e2⟩
    ·exact⟨hm,by rw[jh G hp (by omega) hb,jh G hq (by omega) hb,e1,e2]⟩
   ·simp only[List.nodup_cons,List.mem_cons,List.not_mem_nil,or_false,not_or,not_false_eq_true,List.nodup_nil,and_true]
    exact⟨⟨by omega,fun e=>hb0 e.symm,fun e=>m0 e.symm⟩,⟨fun e=>hb1 e.symm,fun e=>m1 e.symm⟩,fun e=>mb e.symm⟩
theorem LS(G:GrpT n t)(hn:n<=7){L:List (List Int)}(hL:∀p∈L,isoL n [t] [t] p)(hnd:L.Nodup):L.length<=49:=by
 obtain⟨a,b,ha,hb,hab⟩:=LR G hn;have hp:=G.pos
 have nd:(L.map fun p=>ap p a*n+ap p b).Nodup:=List.pairwise_map.2 (List.Pairwise.imp_of_mem (fun {p q} h1 h2 hne e=>by
  have p1:=fe (hL p h1) ha
  have p2:=fe (hL p h1) hb
  have q1:=fe (hL q h2) ha
  have q2:=fe (hL q h2) hb
  have e1:ap p a=ap q a:=by
   have:=congrArg (· / n) e
   simp only[Nat.mul_comm _ n]at this
   rwa[Nat.mul_add_div (by omega),Nat.mul_add_div (by omega),Nat.div_eq_of_lt p2,Nat.div_eq_of_lt q2]at this
  rw[e1]at e;exact hne (hab p q (hL p h1) (hL q h2) e1 (by omega))) hnd)
 have:=wg (n*n) _ nd (fun x hx=>by
  obtain⟨p,hp,rfl⟩:=List.mem_map.1 hx;have p1:=fe (hL p hp) ha
  have p2:=fe (hL p hp) hb
  have:(ap p a+1)*n<=n*n:=Nat.mul_le_mul_right n (by omega)
  rw[Nat.add_mul]at this;omega)
 have h2:n*n<=7*7:=Nat.mul_le_mul hn hn
 simp only[List.length_map]at this;omega
theorem kJ(G:GrpT n t)(hn:n<=7):kW [t] [t]:=by
 have e:bu [t]=n:=G.tb.1
 refine⟨by simp,rfl,by simp,by rw[e];omega,?_,fun _=>?_⟩<;>rw[e]<;>exact NK (kM G.tb)
theorem wi(G:GrpT n t)(hn:n<=7):(cX [t] [t]).length<=49:=by
 have e:bu [t]=n:=G.tb.1
 obtain⟨h1,h2⟩:=kX (kJ G hn);exact LS G hn (fun p hp=>by have:=((h1 p).1 hp).2;rwa[e]at this) (n9 h2)
theorem kK(G:GrpT n t)(hn:n<=7):cX [t] [t]=aa t:=by
 have e:bu [t]=n:=G.tb.1
 obtain⟨h1,h2⟩:=kX (kJ G hn);rw[e]at h1;have E:cX [t] [t]=eE n [t] [t]:=NJ h2 (EU n [t] [t]) fun p=>by
  rw[h1 p,nZ (kM G.tb) G.pos];exact⟨fun k=>⟨k.2,by
   have:=iL G k.2
   have r:=k.2.rng 0 G.pos
   simp only[ap]at this;omega⟩,fun k=>⟨rfl,k.1⟩⟩
 have hlen:=wi G hn
 rw[E]at hlen⊢;have e2:nT [t]=n:=G.tb.1
 have F:aa t=(eE n [t] [t]).take 1000000:=by
  rw[aa,f7,if_pos rfl,e2];exact ET (kM G.tb) rfl G.pos (by omega)
 rw[F,List.take_of_length_le (by omega)]
end
theorem wj{P:List (List Int)->Prop}{t A L:List (List Int)}{rec:List (List Int)->List (List (List Int))->List (List (List Int))}{fd:List (List (List Int))}(h:∀L' fd',(∀c∈fd',P c)->∀c∈rec L' fd',P c)(h0:∀c∈fd,P c):∀i,∀c∈dD t A L rec fd i,P c
 |0=>h0
 |i+1=>by
  rw[dD];split
  ·exact h _ _ (wj h h0 i)
  ·exact wj h h0 i
theorem D9{P:List (List Int)->Prop}{t A:List (List Int)}(hP:∀L,P (eh t L)):∀(d:Nat) (L:List (List Int)) (fd:List (List (List Int))),(∀c∈fd,P c)->∀c∈cf t A d L fd,P c
 |0,L,fd,h=>h
 |d+1,L,fd,h=>by
  rw[cf];split
  ·intro c hc
   rcases List.mem_append.1 hc with hc|hc
   ·exact h c hc
   ·rw[List.mem_singleton]at hc
    rw[hc];exact hP L
  ·exact wj (fun L' fd' h'=>D9 hP d L' fd' h') h _
def qA(t:List (List Int)):Post:=⟨f4 t=true/\t.length<=7,.c (.tr [22,62,2] (.r3 .i64 (cS (cf t (aa t) 9 [] [])))),[]⟩
def wk:List AD->Option Post
 | [.c (.rows .i64 t)]=>some (qA t)
 |_=>none
def Ea(t:List (List Int)):Nat->Option Ann
 |1002=>some (Ann.mk ((Unit)) (fun u=>⟨[(3,.c (.ptr 500 0))],[(500,some (.box [.ro (.rows .i64 t),.ro (.rows .i64 ((aa t))),.nil,.nil]))]⟩) (fun u=>True) (fun u=>0) (fun _=>av))
 |_=>none
def Eb:List (Nat×Ctr):=[(87,⟨[],rG⟩),(133,⟨[(0,93),(0,93)],mw 9⟩),(134,⟨[(0,97),(0,97)],nX⟩),(135,⟨[],qt⟩)]
def mz(t:List (List Int)):=(cf t (aa t) (9:Nat) ([]:List (List Int)) ([]:List (List (List Int))))
def wl(t:List (List Int)):Prop :=
 ((((1:Nat)<=t.length/\kW (t::([]:List (List (List Int)))) (t::([]:List (List (List Int))))/\(cX (t::([]:List (List (List Int)))) (t::([]:List (List (List Int))))).length<=(1000000000:Nat))/\True)/\∃x0:Unit,True/\t=t/\cX (t::([]:List (List (List Int)))) (t::([]:List (List (List Int))))=aa t)/\∀x1:Unit,True->(t.length<=(7:Nat)/\aB t.length t/\iK t.length (aa t)/\iK t.length ([]:List (List Int))/\(aa t).length<=(49:Nat)/\([]:List (List Int)).length<=t.length/\t.length<(9:Nat)+([]:List (List Int)).length/\([]:List (List (List Int))).length+(49:Nat) ^ (t.length-([]:List (List Int)).length)<=(1099511627776:Nat))/\(((mz t).length<=(1099511627776:Nat)/\∀(r:List (List Int)),r∈cf t (aa t) (9:Nat) ([]:List (List Int)) ([]:List (List (List Int)))->bK r)/\(cS (mz t)).length=(mz t).length)/\cS (mz t)=cS (mz t)/\True
theorem LT(t:List (List Int)):aY Tryz.prog (aj Eb) am (Ea t) Tryz.f85 (aP Tryz.f85) [] [.c (.rows .i64 t)] (qA t)=wl t:=by kernel_rfl
theorem LU(t:List (List Int))(Yh:(qA t).pre):wl t:=by
 simp only[qA,wl,mz,aX,u1,u2,u3,u4,u5,u6,u7,u8,u9,v1,v2,v3,v4,v5,v6,v7,v8,v9,w1,w2,w3,w4,aN,ab,ac,ah,ax]at Yh⊢;obtain⟨h,hn⟩:=Yh;have G:=my h
 have hl:=wi G hn
 have hA:(aa t).length<=49:=by rw[<-kK G hn];exact hl
 have hpow:(49:Nat) ^ t.length<=49 ^ 7:=Nat.pow_le_pow_right (by omega) hn
 have hpow2:(49:Nat) ^ 7=678223072849:=by decide
 have hlen:=wc (t:=t) hA 9 [] [] (Nat.zero_le _)
 simp only[List.length_nil,Nat.sub_zero,Nat.zero_add]at hlen;have iso:∀p∈aa t,isoL t.length [t] [t] p:=fun p hp=>by
  rw[<-kK G hn]at hp;have e:bu [t]=t.length:=rfl
  exact(((kX (kJ G hn)).1 p).1 hp).2
 refine⟨⟨⟨G.pos,kJ G hn,by omega⟩,(),kK G hn⟩,fun _ _=>⟨⟨hn,G.tb,fun r hr=>⟨(iso r hr).len,(iso r hr).rng⟩,fun r hr=>(by cases hr),hA,Nat.zero_le _,by omega,by rw[Nat.sub_zero,Nat.zero_add];omega⟩,⟨by omega,D9 (P:=bK) (fun L=>Pf _ _ (by omega)) 9 [] [] (fun c hc=>(by cases hc))⟩,qP _⟩⟩
theorem LV:Fits Tryz.prog 85 ⟨[],wk⟩:=by
 refine bf (Γ:=aj Eb) (aD Ge (aD (LO 9) (aD Mt (aD qv aW)))) Tryz.func85 fun ds p h hp=>?_
 unfold wk at h;split at h
 ·cases h
  exact⟨am,Ea _ ,by rw[LT];exact LU _  hp⟩
 ·cases h
structure SolK (n:Nat) (t A:List (List Int)) (K:List Int):Prop where
 len:K.length=n
 rng:∀x,x<n->0<=K.getD x 0/\K.getD x 0<(A.length:Int)
 fit:∀x y,x<n->y<n->K.getD (bJ t A K x y) 0=dI A K x y
def cD(n:Nat)(K K':List Int):Prop:=∀x,x<n->0<=K.getD x 0->K'.getD x 0=K.getD x 0
theorem cD.refl(n:Nat)(K:List Int):cD n K K:=fun _ _ _=>rfl
theorem cD.trans{n:Nat}{a b c:List Int}(h:cD n a b)(k:cD n b c):cD n a c:=fun x hx h0=>by
 have e:=h x hx h0
 rw[k x hx (by rw[e];exact h0),e]
theorem ft{K:List Int}{z x:Nat}{w:Int}(hz:z<K.length):(K.set z w).getD x 0=if x=z then w else K.getD x 0:=by
 by_cases e:x=z
 ·subst e;rw[if_pos rfl];simp[List.getD,hz]
 ·rw[if_neg e];simp[List.getD,List.getElem?_set_ne (Ne.symm e)]
section
variable {n:Nat} {t A:List (List Int)}
theorem SolK.ok{K:List Int}(h:SolK n t A K):KOk n A.length K:=⟨h.len,fun x hx=>by have:=h.rng x hx;omega⟩
theorem cD.zz{K K':List Int}(h:cD n K K'){x y:Nat}(hx:x<n)(h0:0<=K.getD x 0):bJ t A K' x y=bJ t A K x y:=by
 unfold bJ;rw[h x hx h0]
theorem cD.ww{K K':List Int}(h:cD n K K'){x y:Nat}(hx:x<n)(hy:y<n)(h0:0<=K.getD x 0)(h1:0<=K.getD y 0):dI A K' x y=dI A K x y:=by
 unfold dI;rw[h x hx h0,h y hy h1]
theorem LW(ht:aB n t)(hA:AuOk n A){K S:List Int}(hK:KOk n A.length K)(hS:SolK n t A S)(hs:cD n K S){x y:Nat}(hx:x<n)(hy:y<n):∃K',fN t A K x y=some K'/\KOk n A.length K'/\cD n K K'/\cD n K' S:=by
 unfold fN;split
 ·exact⟨K,rfl,hK,.refl _ _,hs⟩
 ·rename_i hn
  have h1:0<=K.getD x 0:=by omega
  have h2:0<=K.getD y 0:=by omega
  have w:=mm hA hK hx hy h1 h2
  have z:=kH ht hA hK hx hy h1
  have f:=hS.fit x y hx hy
  rw[hs.zz hx h1,hs.ww hx hy h1 h2]at f;split
  ·rename_i hz
   have hzl:bJ t A K x y<K.length:=by rw[hK.len];exact z.2.2
   refine⟨_,rfl,hK.set _ ⟨by omega,w.2.2⟩,fun u hu h0=>?_,fun u hu h0=>?_⟩
   ·rw[ft hzl]
    split
    ·rename_i e;subst e;omega
    ·rfl
   ·rw[ft hzl]at h0⊢
    split
    ·rename_i e;rw[e];exact f
    ·rename_i e;rw[if_neg e]at h0;exact hs u hu h0
  ·rename_i hz
   have:=hs _ z.2.2 (by omega)
   rw[if_pos (by rw[<-this];exact f)]
   exact⟨K,rfl,hK,.refl _ _,hs⟩
theorem Ec(ht:aB n t)(hA:AuOk n A){K S:List Int}(hK:KOk n A.length K)(hS:SolK n t A S)(hs:cD n K S){x:Nat}(hx:x<n):∀y,y<=n->∃K',dv t A K x y=some K'/\KOk n A.length K'/\cD n K K'/\cD n K' S
 |0,_=>⟨K,rfl,hK,.refl _ _,hs⟩
 |y+1,hy=>by
  obtain⟨K1,h1,h2,h3,h4⟩:=Ec ht hA hK hS hs hx y (by omega)
  obtain⟨K2,k1,k2,k3,k4⟩:=LW ht hA h2 hS h4 hx (y:=y) (by omega)
  exact⟨K2,by rw[dv,h1];exact k1,k2,h3.trans k3,k4⟩
theorem Ed(ht:aB n t)(hA:AuOk n A){K S:List Int}(hK:KOk n A.length K)(hS:SolK n t A S)(hs:cD n K S):∀x,x<=n->∃K',eg t A K x=some K'/\KOk n A.length K'/\cD n K K'/\cD n K' S
 |0,_=>⟨K,rfl,hK,.refl _ _,hs⟩
 |x+1,hx=>by
  obtain⟨K1,h1,h2,h3,h4⟩:=Ed ht hA hK hS hs x (by omega)
  obtain⟨K2,k1,k2,k3,k4⟩:=Ec ht hA h2 hS h4 (x:=x) (by omega) t.length (by rw[ht.1];exact Nat.le_refl _)
  exact⟨K2,by rw[eg,h1];exact k1,k2,h3.trans k3,k4⟩
theorem wm(ht:aB n t)(hA:AuOk n A){S:List Int}(hS:SolK n t A S):∀(fu:Nat) {K:List Int},KOk n A.length K->cD n K S->∃K',eO t A fu K=some K'/\cD n K' S
 |0,K,_,hs=>⟨K,rfl,hs⟩
 |fu+1,K,hK,hs=>by
  obtain⟨K1,h1,h2,h3,h4⟩:=Ed ht hA hK hS hs t.length (by rw[ht.1];exact Nat.le_refl _)
  rw[eO,h1];simp only;split
  ·exact wm ht hA hS fu h2 h4
  ·exact⟨K1,rfl,h4⟩
/- The spread keeps what is known. -/
theorem LX(ht:aB n t)(hA:AuOk n A){K K':List Int}(hK:KOk n A.length K){x y:Nat}(hx:x<n)(hy:y<n)(h:fN t A K x y=some K'):cD n K K'/\(K'=K\/ay K'<ay K)/\(K'=K->K.getD x 0<0\/K.getD y 0<0\/(0<=K.getD (bJ t A K x y) 0/\K.getD (bJ t A K x y) 0=dI A K x y)):=by
 unfold fN at h;split at h
 ·rename_i h0
  cases h;exact⟨.refl _ _,.inl rfl,fun _=>h0.elim .inl fun h=>.inr (.inl h)⟩
 ·rename_i hn
  have h1:0<=K.getD x 0:=by omega
  have h2:0<=K.getD y 0:=by omega
  have w:=mm hA hK hx hy h1 h2
  have z:=kH ht hA hK hx hy h1
  have hzl:bJ t A K x y<K.length:=by rw[hK.len];exact z.2.2
  split at h
  ·rename_i hz
   cases h;have hl:=nQ (K:=K) (z:=bJ t A K x y) hzl hz w.2.1
   refine⟨fun u hu h0=>?_,.inr (by omega),fun e=>?_⟩
   ·rw[ft hzl]
    split
    ·rename_i e;subst e;omega
    ·rfl
   ·rw[e]at hl;omega
  ·rename_i hz
   split at h
   ·rename_i he
    cases h;exact⟨.refl _ _,.inl rfl,fun _=>.inr (.inr ⟨by omega,he⟩)⟩
   ·cases h
def nU(t A:List (List Int))(K:List Int)(x y:Nat):Prop:=K.getD x 0<0\/K.getD y 0<0\/(0<=K.getD (bJ t A K x y) 0/\K.getD (bJ t A K x y) 0=dI A K x y)
theorem Ee(ht:aB n t)(hA:AuOk n A){K:List Int}(hK:KOk n A.length K){x:Nat}(hx:x<n):∀(y:Nat) {K':List Int},y<=n->dv t A K x y=some K'->cD n K K'/\(K'=K\/ay K'<ay K)/\(K'=K->∀y',y'<y->nU t A K x y')
 |0,K',_,h=>by cases h;exact⟨.refl _ _,.inl rfl,fun _ y' hy'=>by omega⟩
 |y+1,K',hy,h=>by
  rw[dv]at h;obtain⟨K1,h1,h2⟩:=Option.bind_eq_some_iff.1 h;obtain⟨a1,a2,a3⟩:=Ee ht hA hK hx y (by omega) h1
  have ok:=(qf ht hA hK hx y (by omega) h1).1
  obtain⟨b1,b2,b3⟩:=LX ht hA ok hx (by omega) h2
  have b4:=(DG ht hA ok hx (by omega) h2).2
  refine⟨a1.trans b1,?_,fun e y' hy'=>?_⟩
  ·rcases a2 with rfl|a2
   ·exact b2
   ·exact .inr (by omega)
  ·have e1:K1=K:=by
    rcases a2 with a2|a2
    ·exact a2
    ·rw[e]at b4;omega
   subst e1;by_cases ey:y'=y
   ·subst ey;exact b3 e
   ·exact a3 rfl y' (by omega)
theorem Ef(ht:aB n t)(hA:AuOk n A){K:List Int}(hK:KOk n A.length K):∀(x:Nat) {K':List Int},x<=n->eg t A K x=some K'->cD n K K'/\(K'=K\/ay K'<ay K)/\(K'=K->∀x',x'<x->∀y,y<n->nU t A K x' y)
 |0,K',_,h=>by cases h;exact⟨.refl _ _,.inl rfl,fun _ y' hy'=>by omega⟩
 |x+1,K',hx,h=>by
  rw[eg]at h;obtain⟨K1,h1,h2⟩:=Option.bind_eq_some_iff.1 h;obtain⟨a1,a2,a3⟩:=Ef ht hA hK x (by omega) h1
  have ok:=(qg ht hA hK x (by omega) h1).1
  have hn:t.length<=n:=by rw[ht.1];exact Nat.le_refl _
  obtain⟨b1,b2,b3⟩:=Ee ht hA ok (x:=x) (by omega) t.length hn h2
  have b4:=(qf ht hA ok (x:=x) (by omega) t.length hn h2).2
  refine⟨a1.trans b1,?_,fun e x' hx' y hy=>?_⟩
  ·rcases a2 with rfl|a2
   ·exact b2
   ·exact .inr (by omega)
  ·have e1:K1=K:=by
    rcases a2 with a2|a2
    ·exact a2
    ·rw[e]at b4;omega
   subst e1;by_cases ex:x'=x
   ·subst ex;exact b3 e y (by rw[ht.1];exact hy)
   ·exact a3 rfl x' (by omega) y hy
theorem wn(ht:aB n t)(hA:AuOk n A):∀(fu:Nat) {K K':List Int},KOk n A.length K->ay K<fu->eO t A fu K=some K'->cD n K K'/\∀x,x<n->∀y,y<n->nU t A K' x y
 |0,K,K',_,h,_=>by omega
 |fu+1,K,K',hK,hn,h=>by
  rw[eO]at h;split at h
  ·cases h
  ·rename_i K1 h1
   have hl:t.length<=n:=by rw[ht.1];exact Nat.le_refl _
   obtain⟨a1,a2,a3⟩:=Ef ht hA hK t.length hl h1;have ok:=(qg ht hA hK t.length hl h1).1
   split at h
   ·rename_i hlt
    obtain⟨b1,b2⟩:=wn ht hA fu ok (by omega) h
    exact⟨a1.trans b1,b2⟩
   ·rename_i hge
    have h:K1=K':=Option.some.inj h
    subst h;have e:K1=K:=a2.resolve_right hge
    subst e;exact⟨a1,fun x hx y hy=>a3 rfl x (by rw[ht.1];exact hx) y hy⟩
theorem LY{K:List Int}(h:ay K=0){x:Nat}(hx:x<K.length):0<=K.getD x 0:=by
 have:=List.countP_eq_zero.1 h (K.getD x 0) (by rw[List.getD,List.getElem?_eq_getElem hx];exact List.getElem_mem hx)
 simpa using this
theorem LZ{K:List Int}(hK:KOk n A.length K)(hz:∀x,x<n->0<=K.getD x 0)(h:∀x,x<n->∀y,y<n->nU t A K x y):SolK n t A K :=
 ⟨hK.len,fun x hx=>⟨hz x hx,(hK.rng x hx).2⟩,fun x y hx hy=>by
  rcases h x hx y hy with h|h|h
  ·have:=hz x hx;omega
  ·have:=hz y hy;omega
  ·exact h.2⟩
def eP(t A:List (List Int)):Nat->List Int->List (List Int)
 |0,_=>[]
 |d+1,K=>if aA K=K.length then [K]else(List.range A.length).flatMap fun i:Nat=>match cR t A (K.set (aA K) (i:Int))with
  |none=>[]
  |some K'=>eP t A d K'
theorem wo:∀(d:Nat) (K:List Int) (out:List (List (List Int))),cC t A d K out=((eP t A d K).map (bL t A)).foldl fb out
 |0,K,out=>rfl
 |d+1,K,out=>by
  rw[cC,eP];split
  ·rfl
  ·have:∀m,dC (dg t A (cC t A d) K) out m=(((List.range m).flatMap fun i:Nat=>match cR t A (K.set (aA K) (i:Int))with
       |none=>[]
       |some K'=>eP t A d K').map (bL t A)).foldl fb out:=by
    intro m
    induction m with
    |zero=>rfl
    |succ m ih =>
     rw[dC,ih,List.range_succ,List.flatMap_append,List.map_append,List.foldl_append];simp only[List.flatMap_cons,List.flatMap_nil,List.append_nil,dg];cases cR t A (K.set (aA K) (m:Int))with
     |none=>rfl
     |some K'=>exact wo d K' _
   exact this A.length
theorem Eg(ht:aB n t)(hA:AuOk n A):∀(d:Nat) (K:List Int),KOk n A.length K->ay K<d->(ay K=0->SolK n t A K)->(∀S,S∈eP t A d K↔SolK n t A S/\cD n K S)/\(eP t A d K).Nodup
 |0,K,_,h,_=>by omega
 |d+1,K,hK,hd,hz=>by
  rw[eP];by_cases hp:aA K=K.length
  ·rw[if_pos hp]
   have all:=qi K hp
   have z:ay K=0:=List.countP_eq_zero.2 fun k hk=>by
    obtain⟨j,hj,rfl⟩:=List.mem_iff_getElem.1 hk;have:=all j hj
    rw[bG _ _ _ hj]at this
    simpa using this
   refine⟨fun S=>?_,by simp⟩
   rw[List.mem_singleton]
   constructor
   ·rintro rfl;exact⟨hz z,.refl _ _⟩
   ·rintro⟨h1,h2⟩
    refine jc (by rw[h1.len,hK.len]) fun i hi=>?_
    rw[h1.len]at hi;exact h2 i hi (all i (by rw[hK.len];exact hi))
  ·rw[if_neg hp]
   have hlt:aA K<K.length:=by have:=mn K;omega
   have hneg:=qh K hlt
   have hpn:aA K<n:=by rw[<-hK.len];exact hlt
   have br:∀i,i<A.length->∀K',cR t A (K.set (aA K) (i:Int))=some K'->(∀S,S∈eP t A d K'↔SolK n t A S/\cD n K S/\S.getD (aA K) 0=(i:Int))/\(eP t A d K').Nodup:=fun i hi K' h=>by
    have hset:=hK.set (aA K) (w:=(i:Int)) ⟨by omega,by omega⟩
    obtain⟨g1,g2⟩:=kI ht hA hK hlt hi h;have hfu:ay (K.set (aA K) (i:Int))<t.length+1:=by
     have:=vC (K.set (aA K) (i:Int))
     rw[hset.len]at this;rw[ht.1];omega
    obtain⟨f1,f2⟩:=wn ht hA _ hset hfu h;have up:∀S,SolK n t A S->(cD n K' S↔cD n K S/\S.getD (aA K) 0=(i:Int)):=fun S hS=>by
     have base:cD n (K.set (aA K) (i:Int)) S↔cD n K S/\S.getD (aA K) 0=(i:Int):=by
      constructor
      ·intro k
       refine⟨fun x hx h0=>?_,?_⟩
       ·have e:=ft (x:=x) (w:=(i:Int)) hlt
        have ne:x≠aA K:=fun e=>by rw[e]at h0;omega
        rw[if_neg ne]at e;rw[k x hx (by rw[e];exact h0),e]
       ·have e:=ft (x:=aA K) (w:=(i:Int)) hlt
        rw[if_pos rfl]at e;rw[k _ hpn (by rw[e];omega),e]
      ·rintro⟨k1,k2⟩ x hx h0
       rw[ft hlt]at h0⊢;split
       ·rename_i e;rw[e];exact k2
       ·rename_i e;rw[if_neg e]at h0;exact k1 x hx h0
     rw[<-base]
     constructor
     ·intro k;exact f1.trans k
     ·intro k
      obtain⟨K2,q1,q2⟩:=wm ht hA hS (t.length+1) hset k;have h':eO t A (t.length+1) (K.set (aA K) (i:Int))=some K':=h
      rw[h']at q1;cases q1;exact q2
    obtain⟨i1,i2⟩:=Eg ht hA d K' g1 (by omega) (fun z=>LZ g1 (fun x hx=>LY z (by rw[g1.len];exact hx)) f2)
    exact⟨fun S=>by rw[i1 S];exact⟨fun k=>⟨k.1,(up S k.1).1 k.2⟩,fun k=>⟨k.1,(up S k.1).2 k.2⟩⟩,i2⟩
   constructor
   ·intro S
    rw[List.mem_flatMap]
    constructor
    ·rintro⟨i,hi,h⟩
     have hi:i<A.length:=by simpa using hi
     cases hq:cR t A (K.set (aA K) (i:Int))with
     |none=>rw[hq]at h;cases h
     |some K' =>
      rw[hq]at h;have:=((br i hi K' hq).1 S).1 h
      exact⟨this.1,this.2.1⟩
    ·rintro⟨h1,h2⟩
     have r:=h1.rng _ hpn
     have e:S.getD (aA K) 0=((S.getD (aA K) 0).toNat:Int):=by omega
     refine⟨(S.getD (aA K) 0).toNat,List.mem_range.2 (by omega),?_⟩
     have hset:=hK.set (aA K) (w:=((S.getD (aA K) 0).toNat:Int)) ⟨by omega,by omega⟩
     obtain⟨K',q1,q2⟩:=wm ht hA h1 (t.length+1) hset (fun x hx h0=>by
      rw[ft hlt]at h0⊢;split
      ·rename_i e2;rw[e2];exact e
      ·rename_i e2;rw[if_neg e2]at h0;exact h2 x hx h0)
     have q1:cR t A (K.set (aA K) ((S.getD (aA K) 0).toNat:Int))=some K':=q1
     rw[q1];exact((br _ (by omega) K' q1).1 S).2 ⟨h1,h2,e⟩
   ·refine List.pairwise_flatMap.2 ⟨fun i hi=>?_,List.Pairwise.imp_of_mem (fun {i j} hi hj hne S hS S' hS' e=>?_) List.nodup_range⟩
    ·have hi:i<A.length:=by simpa using hi
     cases hq:cR t A (K.set (aA K) (i:Int))with
     |none=>exact List.Pairwise.nil
     |some K'=>exact(br i hi K' hq).2
    ·have hi:i<A.length:=by simpa using hi
     have hj:j<A.length:=by simpa using hj
     subst e;cases hq:cR t A (K.set (aA K) (i:Int))with
     |none=>rw[hq]at hS;cases hS
     |some K' =>
      cases hq2:cR t A (K.set (aA K) (j:Int))with
      |none=>rw[hq2]at hS';cases hS'
      |some K2 =>
       rw[hq]at hS;rw[hq2]at hS';have a:=(((br i hi K' hq).1 S).1 hS).2.2
       have b:=(((br j hj K2 hq2).1 S).1 hS').2.2
       omega
end
end Go.Sx
