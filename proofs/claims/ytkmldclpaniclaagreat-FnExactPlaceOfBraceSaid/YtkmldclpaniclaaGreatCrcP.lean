/- CrcP -/
import Derived.Test.YtkmldclpaniclaaGreatGrp
import Derived.Test.YtkmldclpaniclaaGreatCrcG
import Derived.Test.YtkmldclpaniclaaGreatMpgE
import Derived.Test.YtkmldclpaniclaaGreatCirP
set_option linter.unusedSimpArgs false
set_option linter.unusedVariables false
open Go Go.Proofs
namespace Go.Sx
def gM(t:V8)(x y:Nat):Nat:=(en t x y).toNat
structure GrpT (n:Nat) (t:V8):Prop where
 tb:ay n t
 pos:1<=n
 z1:∀x,x<n->gM t 0 x=x
 z2:∀x,x<n->gM t x 0=x
 asc:∀x y z,x<n->y<n->z<n->gM t (gM t x y) z=gM t x (gM t y z)
 can:∀x y z,x<n->y<n->z<n->gM t x y=gM t x z->y=z
 inv:∀x,x<n->∃y,y<n/\gM t x y=0
theorem On{l:V7}(h:cM l=true):l.Nodup:=by
 refine List.pairwise_iff_getElem.2 fun i j hi hj hij e=>?_
 have:=lL (a:=(List.range l.length).map (fun x:Nat=>(x:Int))) (b:=l.eraseIdx j) (List.pairwise_map.2 (List.nodup_range.imp fun hne e=>hne (by omega))) (fun x hx=>by
  obtain⟨y,hy,rfl⟩:=List.mem_map.1 hx;have hy:y<l.length:=by simpa using hy
  obtain⟨k,hk,ek⟩:=List.mem_iff_getElem.1 (xK h (x:=(y:Int)) (by omega) (by omega))
  rw[List.mem_eraseIdx_iff_getElem];by_cases ej:k=j
  ·subst ej;exact⟨i,hi,by omega,by rw[e];exact ek⟩
  ·exact⟨k,hk,ej,ek⟩)
 rw[List.length_map,List.length_range,List.length_eraseIdx]at this;rw[if_pos hj]at this;omega
theorem Oo{t:V8}(h:b6 t=true):ay t.length t:=by
 obtain⟨_,_,h3⟩:=gu h;refine⟨rfl,fun x hx=>⟨(h3 x hx).1,fun y hy=>?_⟩⟩
 have:=(h3 x hx).2 y hy
 simp only[en];omega
theorem js{t:V8}(h:ba t=true):GrpT t.length t:=by
 have htb:=Oo (ju h)
 have hpos:=(gu (ju h)).1
 rw[ba,Bool.and_eq_true,Bool.and_eq_true]at h;obtain⟨_,hp,hx⟩:=h;have hx:∀x,x<t.length->en t 0 x=x/\en t x 0=x/\∀y,y<t.length->∀z,z<t.length->en t (en t x y).toNat z=en t x (en t y z).toNat:=fun x hxl=>by
  have:=List.all_eq_true.1 hx x (by simpa using hxl)
  simp only[fW,iX,Bool.and_eq_true,decide_eq_true_eq,oD,gL,iW,List.all_eq_true,List.mem_range]at this;exact⟨this.1.1,this.1.2,fun y hy z hz=>this.2 y hy z hz⟩
 have hperm:∀x,x<t.length->cM (t.getD x [])=true:=fun x hxl=>by
  rw[xJ,List.all_eq_true]at hp;exact hp x (by simpa using hxl)
 have row:∀x,x<t.length->(t.getD x []).length=t.length:=fun x hx=>(htb.2 x hx).1
 refine⟨htb,hpos,fun x hl=>by simp only[gM];rw[(hx x hl).1];simp,fun x hl=>by simp only[gM];rw[(hx x hl).2.1];simp,fun x y z h1 h2 h3=>by simp only[gM];rw[(hx x h1).2.2 y h2 z h3],fun x y z h1 h2 h3 e=>?_,fun x hl=>?_⟩
 ·have hnd:(t.getD x []).Nodup:=On (hperm x h1)
  have a1:=(htb.2 x h1).2 y h2
  have a2:=(htb.2 x h1).2 z h3
  have e:en t x y=en t x z:=by simp only[gM]at e;omega
  exact oA hnd (by rw[row x h1];exact h2) (by rw[row x h1];exact h3) e
 ·have:=xK (hperm x hl) (x:=0) (by omega) (by rw[row x hl];omega)
  obtain⟨y,hy,e⟩:=List.mem_iff_getElem.1 this;exact⟨y,by rw[<-row x hl];exact hy,by rw[gM,en,bF _ _ _ hy,e];rfl⟩
section
variable {n:Nat} {t:V8}
theorem GrpT.lt(G:GrpT n t){x y:Nat}(hx:x<n)(hy:y<n):gM t x y<n:=by
 have:=(G.tb.2 x hx).2 y hy
 simp only[gM];omega
theorem GrpT.canR(G:GrpT n t){x y z:Nat}(hx:x<n)(hy:y<n)(hz:z<n)(e:gM t x z=gM t y z):x=y:=by
 obtain⟨w,hw,ew⟩:=G.inv z hz;have h1:=G.asc x z w hx hz hw
 have h2:=G.asc y z w hy hz hw
 rw[ew,G.z2 x hx]at h1;rw[ew,G.z2 y hy]at h2;rw[<-h1,<-h2,e]
def ap(p:V7)(x:Nat):Nat:=(p.getD x 0).toNat
theorem fl{p:V7}(h:isoL n [t] [t] p){x:Nat}(hx:x<n):ap p x<n:=by
 have:=h.rng x hx
 simp only[ap];omega
theorem jt(G:GrpT n t){p:V7}(h:isoL n [t] [t] p){x y:Nat}(hx:x<n)(hy:y<n):ap p (gM t x y)=gM t (ap p x) (ap p y):=by
 have:=(h.g (lh G.tb)).map 0 x y (by simp) hx hy
 simp only[List.getD_cons_zero]at this
 show(p.getD (en t x y).toNat 0).toNat=(en t (p.getD x 0).toNat (p.getD y 0).toNat).toNat
 omega
theorem iU(G:GrpT n t){p:V7}(h:isoL n [t] [t] p):ap p 0=0:=by
 have hp:=G.pos
 have h0:=fl h (x:=0) (by omega)
 have e:=jt G h (x:=0) (y:=0) (by omega) (by omega)
 rw[G.z1 0 (by omega)]at e
 refine(G.can (ap p 0) (ap p 0) 0 h0 h0 (by omega) ?_)
 rw[<-e,G.z2 _ h0]
theorem xw:∀(n:Nat) (l:List Nat),l.Nodup->(∀x∈l,x<n)->l.length<=n:=fun n l hl h=>by
 have:=lL (a:=l.map (fun x:Nat=>(x:Int))) (b:=(List.range n).map (fun x:Nat=>(x:Int))) (List.pairwise_map.2 (hl.imp fun hne e=>hne (by omega))) (fun x hx=>by
  obtain⟨y,hy,rfl⟩:=List.mem_map.1 hx;exact List.mem_map.2 ⟨y,by simpa using h y hy,rfl⟩)
 simpa using this
theorem xx(G:GrpT n t){p q:V7}(hp:isoL n [t] [t] p)(hq:isoL n [t] [t] q)(S:List Nat)(hS:∀s∈S,s<n/\ap p s=ap q s)(hnd:S.Nodup)(hl:n<2*S.length):p=q:=by
 have all:∀y,y<n->ap p y=ap q y:=fun y hy=>Classical.byContradiction fun hne=>by
  have nd:(S++S.map (gM t y)).Nodup:=by
   rw[List.nodup_append];refine⟨hnd,?_,fun a ha b hb e=>?_⟩
   ·refine List.pairwise_map.2 (List.Pairwise.imp_of_mem (fun {a b} ha hb hne2 e=>hne2 ?_) hnd)
    exact G.can y a b hy (hS a ha).1 (hS b hb).1 e
   ·obtain⟨s,hs,rfl⟩:=List.mem_map.1 hb
    obtain⟨hs1,hs2⟩:=hS s hs;have e2:=(hS a ha).2
    rw[e,jt G hp hy hs1,jt G hq hy hs1,hs2]at e2;exact hne (G.canR (fl hp hy) (fl hq hy) (fl hq hs1) e2)
  have:=xw n _ nd (fun x hx=>by
   rcases List.mem_append.1 hx with hx|hx
   ·exact(hS x hx).1
   ·obtain⟨s,hs,rfl⟩:=List.mem_map.1 hx
    exact G.lt hy (hS s hs).1)
  simp only[List.length_append,List.length_map]at this;omega
 refine jn (by rw[hp.len,hq.len]) fun i hi=>?_
 rw[hp.len]at hi;have:=all i hi
 have h1:=hp.rng i hi
 have h2:=hq.rng i hi
 simp only[ap]at this;omega
theorem Oq(G:GrpT n t)(hn:n<=7):∃a b,a<n/\b<n/\∀p q,isoL n [t] [t] p->isoL n [t] [t] q->ap p a=ap q a->ap p b=ap q b->p=q:=by
 have hpos:=G.pos
 by_cases h1:n<=1
 ·exact⟨0,0,by omega,by omega,fun p q hp hq _ _=>xx G hp hq [0] (fun s hs=>by
   simp only[List.mem_singleton]at hs;subst hs;exact⟨by omega,by rw[iU G hp,iU G hq]⟩) (by simp) (by simp;omega)⟩
 ·by_cases h3:n<=3
  ·exact⟨1,1,by omega,by omega,fun p q hp hq e _=>xx G hp hq [0,1] (fun s hs=>by
    simp only[List.mem_cons,List.not_mem_nil,or_false]at hs;rcases hs with rfl|rfl
    ·exact⟨by omega,by rw[iU G hp,iU G hq]⟩
    ·exact⟨by omega,e⟩) (by simp) (by simp;omega)⟩
  ·obtain⟨v,hv,ev⟩:=G.inv 1 (by omega)
   obtain⟨b,hb,hb0,hb1,hbv⟩:∃b,b<n/\b≠0/\b≠1/\b≠v:=by
    by_cases e2:v=2
    ·exact⟨3,by omega,by omega,by omega,by omega⟩
    ·exact⟨2,by omega,by omega,by omega,by omega⟩
   have hm:=G.lt (x:=1) (y:=b) (by omega) hb
   have m0:gM t 1 b≠0:=fun e=>hbv (G.can 1 b v (by omega) hb hv (by rw[e,ev]))
   have m1:gM t 1 b≠1:=fun e=>hb0 (G.can 1 b 0 (by omega) hb (by omega) (by rw[e,G.z2 1 (by omega)]))
   have mb:gM t 1 b≠b:=fun e=>by
    have:=G.canR (x:=1) (y:=0) (z:=b) (by omega) (by omega) hb (by rw[e,G.z1 b hb])
    omega
   refine⟨1,b,by omega,hb,fun p q hp hq e1 e2=>xx G hp hq [0,1,b,gM t 1 b] (fun s hs=>?_) ?_ (by simp;omega)⟩
   ·simp only[List.mem_cons,List.not_mem_nil,or_false]at hs
    rcases hs with rfl|rfl|rfl|rfl
    ·exact⟨by omega,by rw[iU G hp,iU G hq]⟩
    ·exact⟨by omega,e1⟩
    ·exact⟨hb,e2⟩
    ·exact⟨hm,by rw[jt G hp (by omega) hb,jt G hq (by omega) hb,e1,e2]⟩
   ·simp only[List.nodup_cons,List.mem_cons,List.not_mem_nil,or_false,not_or,not_false_eq_true,List.nodup_nil,and_true]
    exact⟨⟨by omega,fun e=>hb0 e.symm,fun e=>m0 e.symm⟩,⟨fun e=>hb1 e.symm,fun e=>m1 e.symm⟩,fun e=>mb e.symm⟩
theorem Ot(G:GrpT n t)(hn:n<=7){L:V8}(hL:∀p∈L,isoL n [t] [t] p)(hnd:L.Nodup):L.length<=49:=by
 obtain⟨a,b,ha,hb,hab⟩:=Oq G hn;have hp:=G.pos
 have nd:(L.map fun p=>ap p a*n+ap p b).Nodup:=List.pairwise_map.2 (List.Pairwise.imp_of_mem (fun {p q} h1 h2 hne e=>by
  have p1:=fl (hL p h1) ha
  have p2:=fl (hL p h1) hb
  have q1:=fl (hL q h2) ha
  have q2:=fl (hL q h2) hb
  have e1:ap p a=ap q a:=by
   have:=congrArg (· / n) e
   simp only[Nat.mul_comm _ n]at this
   rwa[Nat.mul_add_div (by omega),Nat.mul_add_div (by omega),Nat.div_eq_of_lt p2,Nat.div_eq_of_lt q2]at this
  rw[e1]at e;exact hne (hab p q (hL p h1) (hL q h2) e1 (by omega))) hnd)
 have:=xw (n*n) _ nd (fun x hx=>by
  obtain⟨p,hp,rfl⟩:=List.mem_map.1 hx;have p1:=fl (hL p hp) ha
  have p2:=fl (hL p hp) hb
  have:(ap p a+1)*n<=n*n:=Nat.mul_le_mul_right n (by omega)
  rw[Nat.add_mul]at this;omega)
 have h2:n*n<=7*7:=Nat.mul_le_mul hn hn
 simp only[List.length_map]at this;omega
theorem li(G:GrpT n t)(hn:n<=7):jB [t] [t]:=by
 have e:bu [t]=n:=G.tb.1
 refine⟨by simp,rfl,by simp,by rw[e];omega,?_,fun _=>?_⟩<;>rw[e]<;>exact zn (lh G.tb)
theorem xy(G:GrpT n t)(hn:n<=7):(cz [t] [t]).length<=49:=by
 have e:bu [t]=n:=G.tb.1
 obtain⟨h1,h2⟩:=kh (li G hn);exact Ot G hn (fun p hp=>by have:=((h1 p).1 hp).2;rwa[e]at this) (oJ h2)
theorem lj(G:GrpT n t)(hn:n<=7):cz [t] [t]=ab t:=by
 have e:bu [t]=n:=G.tb.1
 obtain⟨h1,h2⟩:=kh (li G hn);rw[e]at h1;have E:cz [t] [t]=d4 n [t] [t]:=Rb h2 (GV n [t] [t]) fun p=>by
  rw[h1 p,lA (lh G.tb) G.pos];exact⟨fun k=>⟨k.2,by
   have:=iU G k.2
   have r:=k.2.rng 0 G.pos
   simp only[ap]at this;omega⟩,fun k=>⟨rfl,k.1⟩⟩
 have hlen:=xy G hn
 rw[E]at hlen⊢;have e2:nT [t]=n:=G.tb.1
 have F:ab t=(d4 n [t] [t]).take 1000000:=by
  rw[ab,dB,if_pos rfl,e2];exact yI (lh G.tb) rfl G.pos (by omega)
 rw[F,List.take_of_length_le (by omega)]
end
theorem xz{P:V8->Prop}{t A L:V8}{rec:V8->V9->V9}{fd:V9}(h:∀L' fd',(∀c∈fd',P c)->∀c∈rec L' fd',P c)(h0:∀c∈fd,P c):∀i,∀c∈dH t A L rec fd i,P c
 |0=>h0
 |i+1=>by
  rw[dH];split
  ·exact h _ _ (xz h h0 i)
  ·exact xz h h0 i
theorem FK{P:V8->Prop}{t A:V8}(hP:∀L,P (eE t L)):∀(d:Nat) (L:V8) (fd:V9),(∀c∈fd,P c)->∀c∈cj t A d L fd,P c
 |0,L,fd,h=>h
 |d+1,L,fd,h=>by
  rw[cj];split
  ·intro c hc
   rcases List.mem_append.1 hc with hc|hc
   ·exact h c hc
   ·rw[List.mem_singleton]at hc
    rw[hc];exact hP L
  ·exact xz (fun L' fd' h'=>FK hP d L' fd' h') h _
def rD(t:V8):Post:=⟨ba t=true/\t.length<=7,.c (.tr [22,62,2] (.r3 .i64 (c7 (cj t (ab t) 9 [] [])))),[]⟩
def xA:List AD->Option Post
 | [.c (.rows .i64 t)]=>some (rD t)
 |_=>none
def FL(t:V8):Nat->Option Ann
 |1002=>some (Ann.mk ((Unit)) (fun u=>⟨[(3,.c (.ptr 500 0))],[(500,some (.box [.ro (.rows .i64 t),.ro (.rows .i64 ((ab t))),.nil,.nil]))]⟩) (fun u=>True) (fun u=>0) (fun _=>am))
 |_=>none
def FM:List (Nat×Ctr):=[(87,⟨[],sO⟩),(133,⟨[(0,93),(0,93)],mT 9⟩),(134,⟨[(0,97),(0,97)],oC⟩),(135,⟨[],qY⟩)]
def mU(t:V8):=(cj t (ab t) (9:Nat) ([]:V8) ([]:V9))
def xB(t:V8):Prop :=
 ((((1:Nat)<=t.length/\jB (t::([]:V9)) (t::([]:V9))/\(cz (t::([]:V9)) (t::([]:V9))).length<=(1000000000:Nat))/\True)/\∃x0:Unit,True/\t=t/\cz (t::([]:V9)) (t::([]:V9))=ab t)/\∀x1:Unit,True->(t.length<=(7:Nat)/\ay t.length t/\iT t.length (ab t)/\iT t.length ([]:V8)/\(ab t).length<=(49:Nat)/\([]:V8).length<=t.length/\t.length<(9:Nat)+([]:V8).length/\([]:V9).length+(49:Nat) ^ (t.length-([]:V8).length)<=(1099511627776:Nat))/\(((mU t).length<=(1099511627776:Nat)/\∀(r:V8),r∈cj t (ab t) (9:Nat) ([]:V8) ([]:V9)->aM r)/\(c7 (mU t)).length=(mU t).length)/\c7 (mU t)=c7 (mU t)/\True
theorem Ou(t:V8):aJ Tryz.prog (ai FM) ak (FL t) Tryz.f85 (aE Tryz.f85) [] [.c (.rows .i64 t)] (rD t)=xB t:=by kernel_rfl
theorem Ov(t:V8)(Yh:(rD t).pre):xB t:=by
 simp only[rD,xB,mU,aG,u1,u2,u3,u4,u5,u6,u7,u8,u9,v1,v2,v3,v4,v5,v6,v7,v8,v9,w1,w2,w3,w4,aH,aa,ac,af,ar]at Yh⊢;obtain⟨h,hn⟩:=Yh;have G:=js h
 have hl:=xy G hn
 have hA:(ab t).length<=49:=by rw[<-lj G hn];exact hl
 have hpow:(49:Nat) ^ t.length<=49 ^ 7:=Nat.pow_le_pow_right (by omega) hn
 have hpow2:(49:Nat) ^ 7=678223072849:=by decide
 have hlen:=xu (t:=t) hA 9 [] [] (Nat.zero_le _)
 simp only[List.length_nil,Nat.sub_zero,Nat.zero_add]at hlen;have iso:∀p∈ab t,isoL t.length [t] [t] p:=fun p hp=>by
  rw[<-lj G hn]at hp;have e:bu [t]=t.length:=rfl
  exact(((kh (li G hn)).1 p).1 hp).2
 refine⟨⟨⟨G.pos,li G hn,by omega⟩,(),lj G hn⟩,fun _ _=>⟨⟨hn,G.tb,fun r hr=>⟨(iso r hr).len,(iso r hr).rng⟩,fun r hr=>(by cases hr),hA,Nat.zero_le _,by omega,by rw[Nat.sub_zero,Nat.zero_add];omega⟩,⟨by omega,FK (P:=aM) (fun L=>Sr _ _ (by omega)) 9 [] [] (fun c hc=>(by cases hc))⟩,rF _⟩⟩
theorem Ow:Fits Tryz.prog 85 ⟨[],xA⟩:=by
 refine aO (Γ:=ai FM) (aw H9 (aw (Om 9) (aw OD (aw qZ aF)))) Tryz.func85 fun ds p h hp=>?_
 unfold xA at h;split at h
 ·cases h
  exact⟨ak,FL _ ,by rw[Ou];exact Ov _  hp⟩
 ·cases h
structure SolK (n:Nat) (t A:V8) (K:V7):Prop where
 len:K.length=n
 rng:∀x,x<n->0<=K.getD x 0/\K.getD x 0<(A.length:Int)
 fit:∀x y,x<n->y<n->K.getD (bI t A K x y) 0=dM A K x y
def cI(n:Nat)(K K':V7):Prop:=∀x,x<n->0<=K.getD x 0->K'.getD x 0=K.getD x 0
theorem cI.refl(n:Nat)(K:V7):cI n K K:=fun _ _ _=>rfl
theorem cI.trans{n:Nat}{a b c:V7}(h:cI n a b)(k:cI n b c):cI n a c:=fun x hx h0=>by
 have e:=h x hx h0
 rw[k x hx (by rw[e];exact h0),e]
theorem fE{K:V7}{z x:Nat}{w:Int}(hz:z<K.length):(K.set z w).getD x 0=if x=z then w else K.getD x 0:=by
 by_cases e:x=z
 ·subst e;rw[if_pos rfl];simp[List.getD,hz]
 ·rw[if_neg e];simp[List.getD,List.getElem?_set_ne (Ne.symm e)]
section
variable {n:Nat} {t A:V8}
theorem SolK.ok{K:V7}(h:SolK n t A K):KOk n A.length K:=⟨h.len,fun x hx=>by have:=h.rng x hx;omega⟩
theorem cI.zz{K K':V7}(h:cI n K K'){x y:Nat}(hx:x<n)(h0:0<=K.getD x 0):bI t A K' x y=bI t A K x y:=by
 unfold bI;rw[h x hx h0]
theorem cI.ww{K K':V7}(h:cI n K K'){x y:Nat}(hx:x<n)(hy:y<n)(h0:0<=K.getD x 0)(h1:0<=K.getD y 0):dM A K' x y=dM A K x y:=by
 unfold dM;rw[h x hx h0,h y hy h1]
theorem Ox(ht:ay n t)(hA:AuOk n A){K S:V7}(hK:KOk n A.length K)(hS:SolK n t A S)(hs:cI n K S){x y:Nat}(hx:x<n)(hy:y<n):∃K',fV t A K x y=some K'/\KOk n A.length K'/\cI n K K'/\cI n K' S:=by
 unfold fV;split
 ·exact⟨K,rfl,hK,.refl _ _,hs⟩
 ·rename_i hn
  have h1:0<=K.getD x 0:=by omega
  have h2:0<=K.getD y 0:=by omega
  have w:=mM hA hK hx hy h1 h2
  have z:=lf ht hA hK hx hy h1
  have f:=hS.fit x y hx hy
  rw[hs.zz hx h1,hs.ww hx hy h1 h2]at f;split
  ·rename_i hz
   have hzl:bI t A K x y<K.length:=by rw[hK.len];exact z.2.2
   refine⟨_,rfl,hK.set _ ⟨by omega,w.2.2⟩,fun u hu h0=>?_,fun u hu h0=>?_⟩
   ·rw[fE hzl]
    split
    ·rename_i e;subst e;omega
    ·rfl
   ·rw[fE hzl]at h0⊢
    split
    ·rename_i e;rw[e];exact f
    ·rename_i e;rw[if_neg e]at h0;exact hs u hu h0
  ·rename_i hz
   have:=hs _ z.2.2 (by omega)
   rw[if_pos (by rw[<-this];exact f)]
   exact⟨K,rfl,hK,.refl _ _,hs⟩
theorem FN(ht:ay n t)(hA:AuOk n A){K S:V7}(hK:KOk n A.length K)(hS:SolK n t A S)(hs:cI n K S){x:Nat}(hx:x<n):∀y,y<=n->∃K',dw t A K x y=some K'/\KOk n A.length K'/\cI n K K'/\cI n K' S
 |0,_=>⟨K,rfl,hK,.refl _ _,hs⟩
 |y+1,hy=>by
  obtain⟨K1,h1,h2,h3,h4⟩:=FN ht hA hK hS hs hx y (by omega)
  obtain⟨K2,k1,k2,k3,k4⟩:=Ox ht hA h2 hS h4 hx (y:=y) (by omega)
  exact⟨K2,by rw[dw,h1];exact k1,k2,h3.trans k3,k4⟩
theorem FO(ht:ay n t)(hA:AuOk n A){K S:V7}(hK:KOk n A.length K)(hS:SolK n t A S)(hs:cI n K S):∀x,x<=n->∃K',eD t A K x=some K'/\KOk n A.length K'/\cI n K K'/\cI n K' S
 |0,_=>⟨K,rfl,hK,.refl _ _,hs⟩
 |x+1,hx=>by
  obtain⟨K1,h1,h2,h3,h4⟩:=FO ht hA hK hS hs x (by omega)
  obtain⟨K2,k1,k2,k3,k4⟩:=FN ht hA h2 hS h4 (x:=x) (by omega) t.length (by rw[ht.1];exact Nat.le_refl _)
  exact⟨K2,by rw[eD,h1];exact k1,k2,h3.trans k3,k4⟩
theorem xC(ht:ay n t)(hA:AuOk n A){S:V7}(hS:SolK n t A S):∀(fu:Nat) {K:V7},KOk n A.length K->cI n K S->∃K',eV t A fu K=some K'/\cI n K' S
 |0,K,_,hs=>⟨K,rfl,hs⟩
 |fu+1,K,hK,hs=>by
  obtain⟨K1,h1,h2,h3,h4⟩:=FO ht hA hK hS hs t.length (by rw[ht.1];exact Nat.le_refl _)
  rw[eV,h1];simp only;split
  ·exact xC ht hA hS fu h2 h4
  ·exact⟨K1,rfl,h4⟩
/- The spread keeps what is known. -/
theorem Oy(ht:ay n t)(hA:AuOk n A){K K':V7}(hK:KOk n A.length K){x y:Nat}(hx:x<n)(hy:y<n)(h:fV t A K x y=some K'):cI n K K'/\(K'=K\/aA K'<aA K)/\(K'=K->K.getD x 0<0\/K.getD y 0<0\/(0<=K.getD (bI t A K x y) 0/\K.getD (bI t A K x y) 0=dM A K x y)):=by
 unfold fV at h;split at h
 ·rename_i h0
  cases h;exact⟨.refl _ _,.inl rfl,fun _=>h0.elim .inl fun h=>.inr (.inl h)⟩
 ·rename_i hn
  have h1:0<=K.getD x 0:=by omega
  have h2:0<=K.getD y 0:=by omega
  have w:=mM hA hK hx hy h1 h2
  have z:=lf ht hA hK hx hy h1
  have hzl:bI t A K x y<K.length:=by rw[hK.len];exact z.2.2
  split at h
  ·rename_i hz
   cases h;have hl:=ox (K:=K) (z:=bI t A K x y) hzl hz w.2.1
   refine⟨fun u hu h0=>?_,.inr (by omega),fun e=>?_⟩
   ·rw[fE hzl]
    split
    ·rename_i e;subst e;omega
    ·rfl
   ·rw[e]at hl;omega
  ·rename_i hz
   split at h
   ·rename_i he
    cases h;exact⟨.refl _ _,.inl rfl,fun _=>.inr (.inr ⟨by omega,he⟩)⟩
   ·cases h
def oB(t A:V8)(K:V7)(x y:Nat):Prop:=K.getD x 0<0\/K.getD y 0<0\/(0<=K.getD (bI t A K x y) 0/\K.getD (bI t A K x y) 0=dM A K x y)
theorem FP(ht:ay n t)(hA:AuOk n A){K:V7}(hK:KOk n A.length K){x:Nat}(hx:x<n):∀(y:Nat) {K':V7},y<=n->dw t A K x y=some K'->cI n K K'/\(K'=K\/aA K'<aA K)/\(K'=K->∀y',y'<y->oB t A K x y')
 |0,K',_,h=>by cases h;exact⟨.refl _ _,.inl rfl,fun _ y' hy'=>by omega⟩
 |y+1,K',hy,h=>by
  rw[dw]at h;obtain⟨K1,h1,h2⟩:=Option.bind_eq_some_iff.1 h;obtain⟨a1,a2,a3⟩:=FP ht hA hK hx y (by omega) h1
  have ok:=(qL ht hA hK hx y (by omega) h1).1
  obtain⟨b1,b2,b3⟩:=Oy ht hA ok hx (by omega) h2
  have b4:=(E3 ht hA ok hx (by omega) h2).2
  refine⟨a1.trans b1,?_,fun e y' hy'=>?_⟩
  ·rcases a2 with rfl|a2
   ·exact b2
   ·exact .inr (by omega)
  ·have e1:K1=K:=by
    rcases a2 with a2|a2
    ·exact a2
    ·rw[e]at b4;omega
   subst e1;by_cases ey:y'=y
   ·subst ey;exact b3 e
   ·exact a3 rfl y' (by omega)
theorem FQ(ht:ay n t)(hA:AuOk n A){K:V7}(hK:KOk n A.length K):∀(x:Nat) {K':V7},x<=n->eD t A K x=some K'->cI n K K'/\(K'=K\/aA K'<aA K)/\(K'=K->∀x',x'<x->∀y,y<n->oB t A K x' y)
 |0,K',_,h=>by cases h;exact⟨.refl _ _,.inl rfl,fun _ y' hy'=>by omega⟩
 |x+1,K',hx,h=>by
  rw[eD]at h;obtain⟨K1,h1,h2⟩:=Option.bind_eq_some_iff.1 h;obtain⟨a1,a2,a3⟩:=FQ ht hA hK x (by omega) h1
  have ok:=(qM ht hA hK x (by omega) h1).1
  have hn:t.length<=n:=by rw[ht.1];exact Nat.le_refl _
  obtain⟨b1,b2,b3⟩:=FP ht hA ok (x:=x) (by omega) t.length hn h2
  have b4:=(qL ht hA ok (x:=x) (by omega) t.length hn h2).2
  refine⟨a1.trans b1,?_,fun e x' hx' y hy=>?_⟩
  ·rcases a2 with rfl|a2
   ·exact b2
   ·exact .inr (by omega)
  ·have e1:K1=K:=by
    rcases a2 with a2|a2
    ·exact a2
    ·rw[e]at b4;omega
   subst e1;by_cases ex:x'=x
   ·subst ex;exact b3 e y (by rw[ht.1];exact hy)
   ·exact a3 rfl x' (by omega) y hy
theorem xD(ht:ay n t)(hA:AuOk n A):∀(fu:Nat) {K K':V7},KOk n A.length K->aA K<fu->eV t A fu K=some K'->cI n K K'/\∀x,x<n->∀y,y<n->oB t A K' x y
 |0,K,K',_,h,_=>by omega
 |fu+1,K,K',hK,hn,h=>by
  rw[eV]at h;split at h
  ·cases h
  ·rename_i K1 h1
   have hl:t.length<=n:=by rw[ht.1];exact Nat.le_refl _
   obtain⟨a1,a2,a3⟩:=FQ ht hA hK t.length hl h1;have ok:=(qM ht hA hK t.length hl h1).1
   split at h
   ·rename_i hlt
    obtain⟨b1,b2⟩:=xD ht hA fu ok (by omega) h
    exact⟨a1.trans b1,b2⟩
   ·rename_i hge
    have h:K1=K':=Option.some.inj h
    subst h;have e:K1=K:=a2.resolve_right hge
    subst e;exact⟨a1,fun x hx y hy=>a3 rfl x (by rw[ht.1];exact hx) y hy⟩
theorem Oz{K:V7}(h:aA K=0){x:Nat}(hx:x<K.length):0<=K.getD x 0:=by
 have:=List.countP_eq_zero.1 h (K.getD x 0) (by rw[List.getD,List.getElem?_eq_getElem hx];exact List.getElem_mem hx)
 simpa using this
theorem OA{K:V7}(hK:KOk n A.length K)(hz:∀x,x<n->0<=K.getD x 0)(h:∀x,x<n->∀y,y<n->oB t A K x y):SolK n t A K :=
 ⟨hK.len,fun x hx=>⟨hz x hx,(hK.rng x hx).2⟩,fun x y hx hy=>by
  rcases h x hx y hy with h|h|h
  ·have:=hz x hx;omega
  ·have:=hz y hy;omega
  ·exact h.2⟩
def eW(t A:V8):Nat->V7->V8
 |0,_=>[]
 |d+1,K=>if aC K=K.length then [K]else(List.range A.length).flatMap fun i:Nat=>match c6 t A (K.set (aC K) (i:Int))with
  |none=>[]
  |some K'=>eW t A d K'
theorem xE:∀(d:Nat) (K:V7) (out:V9),cH t A d K out=((eW t A d K).map (bJ t A)).foldl fk out
 |0,K,out=>rfl
 |d+1,K,out=>by
  rw[cH,eW];split
  ·rfl
  ·have:∀m,dG (dj t A (cH t A d) K) out m=(((List.range m).flatMap fun i:Nat=>match c6 t A (K.set (aC K) (i:Int))with
       |none=>[]
       |some K'=>eW t A d K').map (bJ t A)).foldl fk out:=by
    intro m
    induction m with
    |zero=>rfl
    |succ m ih =>
     rw[dG,ih,List.range_succ,List.flatMap_append,List.map_append,List.foldl_append];simp only[List.flatMap_cons,List.flatMap_nil,List.append_nil,dj];cases c6 t A (K.set (aC K) (m:Int))with
     |none=>rfl
     |some K'=>exact xE d K' _
   exact this A.length
theorem FR(ht:ay n t)(hA:AuOk n A):∀(d:Nat) (K:V7),KOk n A.length K->aA K<d->(aA K=0->SolK n t A K)->(∀S,S∈eW t A d K↔SolK n t A S/\cI n K S)/\(eW t A d K).Nodup
 |0,K,_,h,_=>by omega
 |d+1,K,hK,hd,hz=>by
  rw[eW];by_cases hp:aC K=K.length
  ·rw[if_pos hp]
   have all:=qO K hp
   have z:aA K=0:=List.countP_eq_zero.2 fun k hk=>by
    obtain⟨j,hj,rfl⟩:=List.mem_iff_getElem.1 hk;have:=all j hj
    rw[bF _ _ _ hj]at this
    simpa using this
   refine⟨fun S=>?_,by simp⟩
   rw[List.mem_singleton]
   constructor
   ·rintro rfl;exact⟨hz z,.refl _ _⟩
   ·rintro⟨h1,h2⟩
    refine jn (by rw[h1.len,hK.len]) fun i hi=>?_
    rw[h1.len]at hi;exact h2 i hi (all i (by rw[hK.len];exact hi))
  ·rw[if_neg hp]
   have hlt:aC K<K.length:=by have:=mN K;omega
   have hneg:=qN K hlt
   have hpn:aC K<n:=by rw[<-hK.len];exact hlt
   have br:∀i,i<A.length->∀K',c6 t A (K.set (aC K) (i:Int))=some K'->(∀S,S∈eW t A d K'↔SolK n t A S/\cI n K S/\S.getD (aC K) 0=(i:Int))/\(eW t A d K').Nodup:=fun i hi K' h=>by
    have hset:=hK.set (aC K) (w:=(i:Int)) ⟨by omega,by omega⟩
    obtain⟨g1,g2⟩:=lg ht hA hK hlt hi h;have hfu:aA (K.set (aC K) (i:Int))<t.length+1:=by
     have:=wO (K.set (aC K) (i:Int))
     rw[hset.len]at this;rw[ht.1];omega
    obtain⟨f1,f2⟩:=xD ht hA _ hset hfu h;have up:∀S,SolK n t A S->(cI n K' S↔cI n K S/\S.getD (aC K) 0=(i:Int)):=fun S hS=>by
     have base:cI n (K.set (aC K) (i:Int)) S↔cI n K S/\S.getD (aC K) 0=(i:Int):=by
      constructor
      ·intro k
       refine⟨fun x hx h0=>?_,?_⟩
       ·have e:=fE (x:=x) (w:=(i:Int)) hlt
        have ne:x≠aC K:=fun e=>by rw[e]at h0;omega
        rw[if_neg ne]at e;rw[k x hx (by rw[e];exact h0),e]
       ·have e:=fE (x:=aC K) (w:=(i:Int)) hlt
        rw[if_pos rfl]at e;rw[k _ hpn (by rw[e];omega),e]
      ·rintro⟨k1,k2⟩ x hx h0
       rw[fE hlt]at h0⊢;split
       ·rename_i e;rw[e];exact k2
       ·rename_i e;rw[if_neg e]at h0;exact k1 x hx h0
     rw[<-base]
     constructor
     ·intro k;exact f1.trans k
     ·intro k
      obtain⟨K2,q1,q2⟩:=xC ht hA hS (t.length+1) hset k;have h':eV t A (t.length+1) (K.set (aC K) (i:Int))=some K':=h
      rw[h']at q1;cases q1;exact q2
    obtain⟨i1,i2⟩:=FR ht hA d K' g1 (by omega) (fun z=>OA g1 (fun x hx=>Oz z (by rw[g1.len];exact hx)) f2)
    exact⟨fun S=>by rw[i1 S];exact⟨fun k=>⟨k.1,(up S k.1).1 k.2⟩,fun k=>⟨k.1,(up S k.1).2 k.2⟩⟩,i2⟩
   constructor
   ·intro S
    rw[List.mem_flatMap]
    constructor
    ·rintro⟨i,hi,h⟩
     have hi:i<A.length:=by simpa using hi
     cases hq:c6 t A (K.set (aC K) (i:Int))with
     |none=>rw[hq]at h;cases h
     |some K' =>
      rw[hq]at h;have:=((br i hi K' hq).1 S).1 h
      exact⟨this.1,this.2.1⟩
    ·rintro⟨h1,h2⟩
     have r:=h1.rng _ hpn
     have e:S.getD (aC K) 0=((S.getD (aC K) 0).toNat:Int):=by omega
     refine⟨(S.getD (aC K) 0).toNat,List.mem_range.2 (by omega),?_⟩
     have hset:=hK.set (aC K) (w:=((S.getD (aC K) 0).toNat:Int)) ⟨by omega,by omega⟩
     obtain⟨K',q1,q2⟩:=xC ht hA h1 (t.length+1) hset (fun x hx h0=>by
      rw[fE hlt]at h0⊢;split
      ·rename_i e2;rw[e2];exact e
      ·rename_i e2;rw[if_neg e2]at h0;exact h2 x hx h0)
     have q1:c6 t A (K.set (aC K) ((S.getD (aC K) 0).toNat:Int))=some K':=q1
     rw[q1];exact((br _ (by omega) K' q1).1 S).2 ⟨h1,h2,e⟩
   ·refine List.pairwise_flatMap.2 ⟨fun i hi=>?_,List.Pairwise.imp_of_mem (fun {i j} hi hj hne S hS S' hS' e=>?_) List.nodup_range⟩
    ·have hi:i<A.length:=by simpa using hi
     cases hq:c6 t A (K.set (aC K) (i:Int))with
     |none=>exact List.Pairwise.nil
     |some K'=>exact(br i hi K' hq).2
    ·have hi:i<A.length:=by simpa using hi
     have hj:j<A.length:=by simpa using hj
     subst e;cases hq:c6 t A (K.set (aC K) (i:Int))with
     |none=>rw[hq]at hS;cases hS
     |some K' =>
      cases hq2:c6 t A (K.set (aC K) (j:Int))with
      |none=>rw[hq2]at hS';cases hS'
      |some K2 =>
       rw[hq]at hS;rw[hq2]at hS';have a:=(((br i hi K' hq).1 S).1 hS).2.2
       have b:=(((br j hj K2 hq2).1 S).1 hS').2.2
       omega
end
end Go.Sx
