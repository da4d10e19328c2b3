/- CrcP -/
import Derived.Test.YtkmldclpaniclaaGreatGrp
import Derived.Test.YtkmldclpaniclaaGreatEqt
import Derived.Test.YtkmldclpaniclaaGreatMpgE
import Derived.Test.YtkmldclpaniclaaGreatCrcG
set_option linter.unusedSimpArgs false
set_option linter.unusedVariables false
set_option linter.defProp false
open Go Go.Proofs
namespace Go.Sx
def gM(t:D7)(x y:Nat):Nat:=(en t x y).toNat
structure GrpT (n:Nat) (t:D7):Prop where
 tb:am n t
 pos:1<=n
 z1:∀x,x<n->gM t 0 x=x
 z2:∀x,x<n->gM t x 0=x
 asc:∀x y z,x<n->y<n->z<n->gM t (gM t x y) z=gM t x (gM t y z)
 can:∀x y z,x<n->y<n->z<n->gM t x y=gM t x z->y=z
 inv:∀x,x<n->∃y,y<n/\gM t x y=0
def XR{l:D6}(h:cH l=true):l.Nodup:=by
 refine Bf.2 λi j hi hj hij e=>?_
 have:=nc (a:=(List.range l.length).map (λx:Nat=>(x:Int))) (b:=l.eraseIdx j) (BZ.2 (Bl.imp λhne e=>hne (by omega))) (λx hx=>by
  obtain⟨y,hy,rfl⟩:=AJ.1 hx;have hy:y<l.length:=by simpa using hy
  obtain⟨k,hk,ek⟩:=BS.1 (F7 h (x:=(y:Int)) (by omega) (by omega))
  rw[List.mem_eraseIdx_iff_getElem];by_cases ej:k=j
  ·subst ej;exact⟨i,hi,by omega,by rw[e];exact ek⟩
  ·exact⟨k,hk,ej,ek⟩)
 rw[AW,Cc,List.length_eraseIdx]at this;rw[AA hj]at this;omega
def XS{t:D7}(h:bX t=true):am t.length t:=by
 obtain⟨_,_,h3⟩:=gH h;refine⟨rfl,λx hx=>⟨(h3 x hx).1,λy hy=>?_⟩⟩
 have:=(h3 x hx).2 y hy
 simp only[en];omega
def kK{t:D7}(h:bo t=true):GrpT t.length t:=by
 have htb:=XS (jV h)
 have hpos:=(gH (jV h)).1
 rw[bo,AO,AO]at h;obtain⟨_,hp,hx⟩:=h;have hx:∀x,x<t.length->en t 0 x=x/\en t x 0=x/\∀y,y<t.length->∀z,z<t.length->en t (en t x y).toNat z=en t x (en t y z).toNat:=λx hxl=>by
  have:=Ac.1 hx x (by simpa using hxl)
  simp only[gP,jU,AO,Ai,qL,iN,jT,Ac,Af]at this;exact⟨this.1.1,this.1.2,λy hy z hz=>this.2 y hy z hz⟩
 have hperm:∀x,x<t.length->cH (t.getD x [])=true:=λx hxl=>by
  rw[F6,Ac]at hp;exact hp x (by simpa using hxl)
 have row:∀x,x<t.length->(t.getD x []).length=t.length:=λx hx=>(htb.2 x hx).1
 refine⟨htb,hpos,λx hl=>by simp only[gM];rw[(hx x hl).1];simp,λx hl=>by simp only[gM];rw[(hx x hl).2.1];simp,λx y z h1 h2 h3=>by simp only[gM];rw[(hx x h1).2.2 y h2 z h3],λx y z h1 h2 h3 e=>?_,λx hl=>?_⟩
 ·have hnd:(t.getD x []).Nodup:=XR (hperm x h1)
  have a1:=(htb.2 x h1).2 y h2
  have a2:=(htb.2 x h1).2 z h3
  have e:en t x y=en t x z:=by simp only[gM]at e;omega
  exact qJ hnd (by rw[row x h1];exact h2) (by rw[row x h1];exact h3) e
 ·have:=F7 (hperm x hl) (x:=0) (by omega) (by rw[row x hl];omega)
  obtain⟨y,hy,e⟩:=BS.1 this;exact⟨y,by rw[<-row x hl];exact hy,by rw[gM,en,bM _ _ _ hy,e];rfl⟩
section
variable {n:Nat} {t:D7}
theorem GrpT.lt(G:GrpT n t){x y:Nat}(hx:x<n)(hy:y<n):gM t x y<n:=by
 have:=(G.tb.2 x hx).2 y hy
 simp only[gM];omega
theorem GrpT.canR(G:GrpT n t){x y z:Nat}(hx:x<n)(hy:y<n)(hz:z<n)(e:gM t x z=gM t y z):x=y:=by
 obtain⟨w,hw,ew⟩:=G.inv z hz;have h1:=G.asc x z w hx hz hw
 have h2:=G.asc y z w hy hz hw
 rw[ew,G.z2 x hx]at h1;rw[ew,G.z2 y hy]at h2;rw[<-h1,<-h2,e]
def ap(p:D6)(x:Nat):Nat:=(p.getD x 0).toNat
def fX{p:D6}(h:isoL n [t] [t] p){x:Nat}(hx:x<n):ap p x<n:=by
 have:=h.rng x hx
 simp only[ap];omega
def kL(G:GrpT n t){p:D6}(h:isoL n [t] [t] p){x y:Nat}(hx:x<n)(hy:y<n):ap p (gM t x y)=gM t (ap p x) (ap p y):=by
 have:=(h.g (kN G.tb)).map 0 x y (by simp) hx hy
 simp only[CR]at this
 show(p.getD (en t x y).toNat 0).toNat=(en t (p.getD x 0).toNat (p.getD y 0).toNat).toNat
 omega
def jR(G:GrpT n t){p:D6}(h:isoL n [t] [t] p):ap p 0=0:=by
 have hp:=G.pos
 have h0:=fX h (x:=0) (by omega)
 have e:=kL G h (x:=0) (y:=0) (by omega) (by omega)
 rw[G.z1 0 (by omega)]at e
 refine(G.can (ap p 0) (ap p 0) 0 h0 h0 (by omega) ?_)
 rw[<-e,G.z2 _ h0]
def Fu:∀(n:Nat) (l:List Nat),l.Nodup->(∀x∈l,x<n)->l.length<=n:=λn l hl h=>by
 have:=nc (a:=l.map (λx:Nat=>(x:Int))) (b:=(List.range n).map (λx:Nat=>(x:Int))) (BZ.2 (hl.imp λhne e=>hne (by omega))) (λx hx=>by
  obtain⟨y,hy,rfl⟩:=AJ.1 hx;exact AJ.2 ⟨y,by simpa using h y hy,rfl⟩)
 simpa using this
def Fv(G:GrpT n t){p q:D6}(hp:isoL n [t] [t] p)(hq:isoL n [t] [t] q)(S:List Nat)(hS:∀s∈S,s<n/\ap p s=ap q s)(hnd:S.Nodup)(hl:n<2*S.length):p=q:=by
 have all:∀y,y<n->ap p y=ap q y:=λy hy=>Ax λhne=>by
  have nd:(S++S.map (gM t y)).Nodup:=by
   rw[Ae];refine⟨hnd,?_,λa ha b hb e=>?_⟩
   ·refine BZ.2 (Bt (fun {a b} ha hb hne2 e=>hne2 ?_) hnd)
    exact G.can y a b hy (hS a ha).1 (hS b hb).1 e
   ·obtain⟨s,hs,rfl⟩:=AJ.1 hb
    obtain⟨hs1,hs2⟩:=hS s hs;have e2:=(hS a ha).2
    rw[e,kL G hp hy hs1,kL G hq hy hs1,hs2]at e2;exact hne (G.canR (fX hp hy) (fX hq hy) (fX hq hs1) e2)
  have:=Fu n _ nd (λx hx=>by
   rcases AH.1 hx with hx|hx
   ·exact(hS x hx).1
   ·obtain⟨s,hs,rfl⟩:=AJ.1 hx
    exact G.lt hy (hS s hs).1)
  simp only[Ag,AW]at this;omega
 refine kA (by rw[hp.len,hq.len]) λi hi=>?_
 rw[hp.len]at hi;have:=all i hi
 have h1:=hp.rng i hi
 have h2:=hq.rng i hi
 simp only[ap]at this;omega
def XT(G:GrpT n t)(hn:n<=7):∃a b,a<n/\b<n/\∀p q,isoL n [t] [t] p->isoL n [t] [t] q->ap p a=ap q a->ap p b=ap q b->p=q:=by
 have hpos:=G.pos
 by_cases h1:n<=1
 ·exact⟨0,0,by omega,by omega,λp q hp hq _ _=>Fv G hp hq [0] (λs hs=>by
   simp only[Ar]at hs;subst hs;exact⟨by omega,by rw[jR G hp,jR G hq]⟩) (by simp) (by simp;omega)⟩
 ·by_cases h3:n<=3
  ·exact⟨1,1,by omega,by omega,λp q hp hq e _=>Fv G hp hq [0,1] (λs hs=>by
    simp only[AG,C5,or_false]at hs;rcases hs with rfl|rfl
    ·exact⟨by omega,by rw[jR G hp,jR G hq]⟩
    ·exact⟨by omega,e⟩) (by simp) (by simp;omega)⟩
  ·obtain⟨v,hv,ev⟩:=G.inv 1 (by omega)
   obtain⟨b,hb,hb0,hb1,hbv⟩:∃b,b<n/\b≠0/\b≠1/\b≠v:=by
    by_cases e2:v=2
    ·exact⟨3,by omega,by omega,by omega,by omega⟩
    ·exact⟨2,by omega,by omega,by omega,by omega⟩
   have hm:=G.lt (x:=1) (y:=b) (by omega) hb
   have m0:gM t 1 b≠0:=λe=>hbv (G.can 1 b v (by omega) hb hv (by rw[e,ev]))
   have m1:gM t 1 b≠1:=λe=>hb0 (G.can 1 b 0 (by omega) hb (by omega) (by rw[e,G.z2 1 (by omega)]))
   have mb:gM t 1 b≠b:=λe=>by
    have:=G.canR (x:=1) (y:=0) (z:=b) (by omega) (by omega) hb (by rw[e,G.z1 b hb])
    omega
   refine⟨1,b,by omega,hb,λp q hp hq e1 e2=>Fv G hp hq [0,1,b,gM t 1 b] (λs hs=>?_) ?_ (by simp;omega)⟩
   ·simp only[AG,C5,or_false]at hs
    rcases hs with rfl|rfl|rfl|rfl
    ·exact⟨by omega,by rw[jR G hp,jR G hq]⟩
    ·exact⟨by omega,e1⟩
    ·exact⟨hb,e2⟩
    ·exact⟨hm,by rw[kL G hp (by omega) hb,kL G hq (by omega) hb,e1,e2]⟩
   ·simp only[Aa,AG,C5,or_false,not_or,Cg,List.nodup_nil,Bi]
    exact⟨⟨by omega,λe=>hb0 e.symm,λe=>m0 e.symm⟩,⟨λe=>hb1 e.symm,λe=>m1 e.symm⟩,λe=>mb e.symm⟩
def XU(G:GrpT n t)(hn:n<=7){L:D7}(hL:∀p∈L,isoL n [t] [t] p)(hnd:L.Nodup):L.length<=49:=by
 obtain⟨a,b,ha,hb,hab⟩:=XT G hn;have hp:=G.pos
 have nd:(L.map λp=>ap p a*n+ap p b).Nodup:=BZ.2 (Bt (fun {p q} h1 h2 hne e=>by
  have p1:=fX (hL p h1) ha
  have p2:=fX (hL p h1) hb
  have q1:=fX (hL q h2) ha
  have q2:=fX (hL q h2) hb
  have e1:ap p a=ap q a:=by
   have:=BC (· / n) e
   simp only[B9 _ n]at this
   rwa[Nat.mul_add_div (by omega),Nat.mul_add_div (by omega),Nat.div_eq_of_lt p2,Nat.div_eq_of_lt q2]at this
  rw[e1]at e;exact hne (hab p q (hL p h1) (hL q h2) e1 (by omega))) hnd)
 have:=Fu (n*n) _ nd (λx hx=>by
  obtain⟨p,hp,rfl⟩:=AJ.1 hx;have p1:=fX (hL p hp) ha
  have p2:=fX (hL p hp) hb
  have:(ap p a+1)*n<=n*n:=Bp n (by omega)
  rw[Bu]at this;omega)
 have h2:n*n<=7*7:=Bb hn hn
 simp only[AW]at this;omega
def mU(G:GrpT n t)(hn:n<=7):jn [t] [t]:=by
 have e:bI [t]=n:=G.tb.1
 refine⟨by simp,rfl,by simp,by rw[e];omega,?_,λ_=>?_⟩<;>rw[e]<;>exact qW (kN G.tb)
def Fw(G:GrpT n t)(hn:n<=7):(cd [t] [t]).length<=49:=by
 have e:bI [t]=n:=G.tb.1
 obtain⟨h1,h2⟩:=jY (mU G hn);exact XU G hn (λp hp=>by have:=((h1 p).1 hp).2;rwa[e]at this) (qR h2)
def mV(G:GrpT n t)(hn:n<=7):cd [t] [t]=aa t:=by
 have e:bI [t]=n:=G.tb.1
 obtain⟨h1,h2⟩:=jY (mU G hn);rw[e]at h1;have E:cd [t] [t]=dL n [t] [t]:=Z7 h2 (OY n [t] [t]) λp=>by
  rw[h1 p,na (kN G.tb) G.pos];exact⟨λk=>⟨k.2,by
   have:=jR G k.2
   have r:=k.2.rng 0 G.pos
   simp only[ap]at this;omega⟩,λk=>⟨rfl,k.1⟩⟩
 have hlen:=Fw G hn
 rw[E]at hlen⊢;have e2:nT [t]=n:=G.tb.1
 have F:aa t=(dL n [t] [t]).take 1000000:=by
  rw[aa,dG,AA rfl,e2];exact pa (kN G.tb) rfl G.pos (by omega)
 rw[F,AU (by omega)]
end
def Fx{P:D7->Prop}{t A L:D7}{rec:D7->D8->D8}{fd:D8}(h:∀L' fd',(∀c∈fd',P c)->∀c∈rec L' fd',P c)(h0:∀c∈fd,P c):∀i,∀c∈eh t A L rec fd i,P c
 |0=>h0
 |i+1=>by
  rw[eh];split
  ·exact h _ _ (Fx h h0 i)
  ·exact Fx h h0 i
def NC{P:D7->Prop}{t A:D7}(hP:∀L,P (ft t L)):∀(d:Nat) (L:D7) (fd:D8),(∀c∈fd,P c)->∀c∈cR t A d L fd,P c
 |0,L,fd,h=>h
 |d+1,L,fd,h=>by
  rw[cR];split
  ·intro c hc
   rcases AH.1 hc with hc|hc
   ·exact h c hc
   ·rw[Ar]at hc
    rw[hc];exact hP L
  ·exact Fx (λL' fd' h'=>NC hP d L' fd' h') h _
def Fy:List AD->Option Post
 | [.c (.rows .i64 t)]=>some ⟨bo t=true/\t.length<=7,.c (.tr [22,62,2] (.r3 .i64 (dz (cR t (aa t) 9 [] [])))),[]⟩
 |_=>none
def ND(t:D7):Nat->Option Ann
 |1002=>some (Ann.mk ((Unit)) (λu=>⟨[(3,M' 500)],[(500,P' [.ro (.rows .i64 t),.ro (.rows .i64 ((aa t))),.nil,.nil])]⟩) (λu=>True) (λu=>0) (λ_=>ar))
 |_=>none
def oO(t:D7):=(cR t (aa t) (9:Nat) ([]:D7) ([]:D8))
def XX:Fits Tryz.prog 85 ⟨[],Fy⟩:=by
 refine ffv (Γ:=ah [(87,⟨[],we⟩),(133,⟨[(0,93),(0,93)],oN 9⟩),(134,⟨[(0,97),(0,97)],qK⟩),(135,⟨[],uB⟩)]) (aq Qf (aq (XQ 9) (aq Yy (aq uC aN)))) Tryz.func85 λds p h ξ=>?_
 unfold Fy at h;split at h<;>cases h
 rename_i t
 refine⟨aj,ND t,((((1:Nat)<=t.length/\jn (t::([]:D8)) (t::([]:D8))/\(cd (t::([]:D8)) (t::([]:D8))).length<=(1000000000:Nat))/\True)/\∃x0:Unit,True/\t=t/\cd (t::([]:D8)) (t::([]:D8))=aa t)/\∀x1:Unit,True->(t.length<=(7:Nat)/\am t.length t/\jQ t.length (aa t)/\jQ t.length ([]:D7)/\(aa t).length<=(49:Nat)/\([]:D7).length<=t.length/\t.length<(9:Nat)+([]:D7).length/\([]:D8).length+(49:Nat) ^ (t.length-([]:D7).length)<=(1099511627776:Nat))/\(((oO t).length<=(1099511627776:Nat)/\∀(r:D7),r∈cR t (aa t) (9:Nat) ([]:D7) ([]:D8)->aJ r)/\(dz (oO t)).length=(oO t).length)/\dz (oO t)=dz (oO t)/\True,by kernel_rfl,?_⟩
 simp only[oO,aO]at ξ⊢;obtain⟨h,hn⟩:=ξ;have G:=kK h
 have hl:=Fw G hn
 have hA:(aa t).length<=49:=by rw[<-mV G hn];exact hl
 have hpow:(49:Nat) ^ t.length<=49 ^ 7:=Bv (by omega) hn
 have hpow2:(49:Nat) ^ 7=678223072849:=by decide
 have hlen:=Fs (t:=t) hA 9 [] [] (AT _)
 simp only[Bo,CB,AI]at hlen;have iso:∀p∈aa t,isoL t.length [t] [t] p:=λp hp=>by
  rw[<-mV G hn]at hp;have e:bI [t]=t.length:=rfl
  exact(((jY (mU G hn)).1 p).1 hp).2
 refine⟨⟨⟨G.pos,mU G hn,by omega⟩,(),mV G hn⟩,λ_ _=>⟨⟨hn,G.tb,λr hr=>⟨(iso r hr).len,(iso r hr).rng⟩,λr hr=>(by cases hr),hA,AT _,by omega,by rw[CB,AI];omega⟩,⟨by omega,NC (P:=aJ) (λL=>aG0 _ _ (by omega)) 9 [] [] (λc hc=>(by cases hc))⟩,vj _⟩⟩
structure SolK (n:Nat) (t A:D7) (K:D6):Prop where
 len:K.length=n
 rng:∀x,x<n->0<=K.getD x 0/\K.getD x 0<(A.length:Int)
 fit:∀x y,x<n->y<n->K.getD (bW t A K x y) 0=d6 A K x y
def dc(n:Nat)(K K':D6):Prop:=∀x,x<n->0<=K.getD x 0->K'.getD x 0=K.getD x 0
theorem dc.refl(n:Nat)(K:D6):dc n K K:=λ_ _ _=>rfl
theorem dc.trans{n:Nat}{a b c:D6}(h:dc n a b)(k:dc n b c):dc n a c:=λx hx h0=>by
 have e:=h x hx h0
 rw[k x hx (by rw[e];exact h0),e]
def gn{K:D6}{z x:Nat}{w:Int}(hz:z<K.length):(K.set z w).getD x 0=if x=z then w else K.getD x 0:=by
 by_cases e:x=z
 ·subst e;rw[AA rfl];simp[List.getD,hz]
 ·rw[AB e];simp[List.getD,A6 (AN e)]
section
variable {n:Nat} {t A:D7}
theorem SolK.ok{K:D6}(h:SolK n t A K):KOk n A.length K:=⟨h.len,λx hx=>by have:=h.rng x hx;omega⟩
theorem dc.zz{K K':D6}(h:dc n K K'){x y:Nat}(hx:x<n)(h0:0<=K.getD x 0):bW t A K' x y=bW t A K x y:=by
 unfold bW;rw[h x hx h0]
theorem dc.ww{K K':D6}(h:dc n K K'){x y:Nat}(hx:x<n)(hy:y<n)(h0:0<=K.getD x 0)(h1:0<=K.getD y 0):d6 A K' x y=d6 A K x y:=by
 unfold d6;rw[h x hx h0,h y hy h1]
def XY(ht:am n t)(hA:AuOk n A){K S:D6}(hK:KOk n A.length K)(hS:SolK n t A S)(hs:dc n K S){x y:Nat}(hx:x<n)(hy:y<n):∃K',fY t A K x y=some K'/\KOk n A.length K'/\dc n K K'/\dc n K' S:=by
 unfold fY;split
 ·exact⟨K,rfl,hK,.refl _ _,hs⟩
 ·rename_i hn
  have h1:0<=K.getD x 0:=by omega
  have h2:0<=K.getD y 0:=by omega
  have w:=oT hA hK hx hy h1 h2
  have z:=mW ht hA hK hx hy h1
  have f:=hS.fit x y hx hy
  rw[hs.zz hx h1,hs.ww hx hy h1 h2]at f;split
  ·rename_i hz
   have hzl:bW t A K x y<K.length:=by rw[hK.len];exact z.2.2
   refine⟨_,rfl,hK.set _ ⟨by omega,w.2.2⟩,λu hu h0=>?_,λu hu h0=>?_⟩
   ·rw[gn hzl]
    split
    ·rename_i e;subst e;omega
    ·rfl
   ·rw[gn hzl]at h0⊢
    split
    ·rename_i e;rw[e];exact f
    ·rename_i e;rw[AB e]at h0;exact hs u hu h0
  ·rename_i hz
   have:=hs _ z.2.2 (by omega)
   rw[AA (by rw[<-this];exact f)]
   exact⟨K,rfl,hK,.refl _ _,hs⟩
def NF(ht:am n t)(hA:AuOk n A){K S:D6}(hK:KOk n A.length K)(hS:SolK n t A S)(hs:dc n K S){x:Nat}(hx:x<n):∀y,y<=n->∃K',dT t A K x y=some K'/\KOk n A.length K'/\dc n K K'/\dc n K' S
 |0,_=>⟨K,rfl,hK,.refl _ _,hs⟩
 |y+1,hy=>by
  obtain⟨K1,h1,h2,h3,h4⟩:=NF ht hA hK hS hs hx y (by omega)
  obtain⟨K2,k1,k2,k3,k4⟩:=XY ht hA h2 hS h4 hx (y:=y) (by omega)
  exact⟨K2,by rw[dT,h1];exact k1,k2,h3.trans k3,k4⟩
def NH(ht:am n t)(hA:AuOk n A){K S:D6}(hK:KOk n A.length K)(hS:SolK n t A S)(hs:dc n K S):∀x,x<=n->∃K',eS t A K x=some K'/\KOk n A.length K'/\dc n K K'/\dc n K' S
 |0,_=>⟨K,rfl,hK,.refl _ _,hs⟩
 |x+1,hx=>by
  obtain⟨K1,h1,h2,h3,h4⟩:=NH ht hA hK hS hs x (by omega)
  obtain⟨K2,k1,k2,k3,k4⟩:=NF ht hA h2 hS h4 (x:=x) (by omega) t.length (by rw[ht.1];exact AE _)
  exact⟨K2,by rw[eS,h1];exact k1,k2,h3.trans k3,k4⟩
def FA(ht:am n t)(hA:AuOk n A){S:D6}(hS:SolK n t A S):∀(fu:Nat) {K:D6},KOk n A.length K->dc n K S->∃K',fw t A fu K=some K'/\dc n K' S
 |0,K,_,hs=>⟨K,rfl,hs⟩
 |fu+1,K,hK,hs=>by
  obtain⟨K1,h1,h2,h3,h4⟩:=NH ht hA hK hS hs t.length (by rw[ht.1];exact AE _)
  rw[fw,h1];simp only;split
  ·exact FA ht hA hS fu h2 h4
  ·exact⟨K1,rfl,h4⟩
/- The spread keeps what is known. -/
def XZ(ht:am n t)(hA:AuOk n A){K K':D6}(hK:KOk n A.length K){x y:Nat}(hx:x<n)(hy:y<n)(h:fY t A K x y=some K'):dc n K K'/\(K'=K\/aB K'<aB K)/\(K'=K->K.getD x 0<0\/K.getD y 0<0\/(0<=K.getD (bW t A K x y) 0/\K.getD (bW t A K x y) 0=d6 A K x y)):=by
 unfold fY at h;split at h
 ·rename_i h0
  cases h;exact⟨.refl _ _,.inl rfl,λ_=>h0.elim .inl λh=>.inr (.inl h)⟩
 ·rename_i hn
  have h1:0<=K.getD x 0:=by omega
  have h2:0<=K.getD y 0:=by omega
  have w:=oT hA hK hx hy h1 h2
  have z:=mW ht hA hK hx hy h1
  have hzl:bW t A K x y<K.length:=by rw[hK.len];exact z.2.2
  split at h
  ·rename_i hz
   cases h;have hl:=qD (K:=K) (z:=bW t A K x y) hzl hz w.2.1
   refine⟨λu hu h0=>?_,.inr (by omega),λe=>?_⟩
   ·rw[gn hzl]
    split
    ·rename_i e;subst e;omega
    ·rfl
   ·rw[e]at hl;omega
  ·rename_i hz
   split at h
   ·rename_i he
    cases h;exact⟨.refl _ _,.inl rfl,λ_=>.inr (.inr ⟨by omega,he⟩)⟩
   ·cases h
def qz(t A:D7)(K:D6)(x y:Nat):Prop:=K.getD x 0<0\/K.getD y 0<0\/(0<=K.getD (bW t A K x y) 0/\K.getD (bW t A K x y) 0=d6 A K x y)
def NI(ht:am n t)(hA:AuOk n A){K:D6}(hK:KOk n A.length K){x:Nat}(hx:x<n):∀(y:Nat) {K':D6},y<=n->dT t A K x y=some K'->dc n K K'/\(K'=K\/aB K'<aB K)/\(K'=K->∀y',y'<y->qz t A K x y')
 |0,K',_,h=>by cases h;exact⟨.refl _ _,.inl rfl,λ_ y' hy'=>by omega⟩
 |y+1,K',hy,h=>by
  rw[dT]at h;obtain⟨K1,h1,h2⟩:=C6.1 h;obtain⟨a1,a2,a3⟩:=NI ht hA hK hx y (by omega) h1
  have ok:=(uQ ht hA hK hx y (by omega) h1).1
  obtain⟨b1,b2,b3⟩:=XZ ht hA ok hx (by omega) h2
  have b4:=(N1 ht hA ok hx (by omega) h2).2
  refine⟨a1.trans b1,?_,λe y' hy'=>?_⟩
  ·rcases a2 with rfl|a2
   ·exact b2
   ·exact .inr (by omega)
  ·have e1:K1=K:=by
    rcases a2 with a2|a2
    ·exact a2
    ·rw[e]at b4;omega
   subst e1;by_cases ey:y'=y
   ·subst ey;exact b3 e
   ·exact a3 rfl y' (by omega)
def NJ(ht:am n t)(hA:AuOk n A){K:D6}(hK:KOk n A.length K):∀(x:Nat) {K':D6},x<=n->eS t A K x=some K'->dc n K K'/\(K'=K\/aB K'<aB K)/\(K'=K->∀x',x'<x->∀y,y<n->qz t A K x' y)
 |0,K',_,h=>by cases h;exact⟨.refl _ _,.inl rfl,λ_ y' hy'=>by omega⟩
 |x+1,K',hx,h=>by
  rw[eS]at h;obtain⟨K1,h1,h2⟩:=C6.1 h;obtain⟨a1,a2,a3⟩:=NJ ht hA hK x (by omega) h1
  have ok:=(uR ht hA hK x (by omega) h1).1
  have hn:t.length<=n:=by rw[ht.1];exact AE _
  obtain⟨b1,b2,b3⟩:=NI ht hA ok (x:=x) (by omega) t.length hn h2
  have b4:=(uQ ht hA ok (x:=x) (by omega) t.length hn h2).2
  refine⟨a1.trans b1,?_,λe x' hx' y hy=>?_⟩
  ·rcases a2 with rfl|a2
   ·exact b2
   ·exact .inr (by omega)
  ·have e1:K1=K:=by
    rcases a2 with a2|a2
    ·exact a2
    ·rw[e]at b4;omega
   subst e1;by_cases ex:x'=x
   ·subst ex;exact b3 e y (by rw[ht.1];exact hy)
   ·exact a3 rfl x' (by omega) y hy
def FB(ht:am n t)(hA:AuOk n A):∀(fu:Nat) {K K':D6},KOk n A.length K->aB K<fu->fw t A fu K=some K'->dc n K K'/\∀x,x<n->∀y,y<n->qz t A K' x y
 |0,K,K',_,h,_=>by omega
 |fu+1,K,K',hK,hn,h=>by
  rw[fw]at h;split at h
  ·cases h
  ·rename_i K1 h1
   have hl:t.length<=n:=by rw[ht.1];exact AE _
   obtain⟨a1,a2,a3⟩:=NJ ht hA hK t.length hl h1;have ok:=(uR ht hA hK t.length hl h1).1
   split at h
   ·rename_i ψ
    obtain⟨b1,b2⟩:=FB ht hA fu ok (by omega) h
    exact⟨a1.trans b1,b2⟩
   ·rename_i hge
    have h:K1=K':=BF h
    subst h;have e:K1=K:=a2.resolve_right hge
    subst e;exact⟨a1,λx hx y hy=>a3 rfl x (by rw[ht.1];exact hx) y hy⟩
def X0{K:D6}(h:aB K=0){x:Nat}(hx:x<K.length):0<=K.getD x 0:=by
 have:=C7.1 h (K.getD x 0) (by rw[List.getD,AF hx];exact A5 hx)
 simpa using this
def X1{K:D6}(hK:KOk n A.length K)(hz:∀x,x<n->0<=K.getD x 0)(h:∀x,x<n->∀y,y<n->qz t A K x y):SolK n t A K :=
 ⟨hK.len,λx hx=>⟨hz x hx,(hK.rng x hx).2⟩,λx y hx hy=>by
  rcases h x hx y hy with h|h|h
  ·have:=hz x hx;omega
  ·have:=hz y hy;omega
  ·exact h.2⟩
def fJ(t A:D7):Nat->D6->D7
 |0,_=>[]
 |d+1,K=>if av K=K.length then [K]else(List.range A.length).flatMap λi:Nat=>match dr t A (K.set (av K) (i:Int))with
  |none=>[]
  |some K'=>fJ t A d K'
def FD:∀(d:Nat) (K:D6) (out:D8),bH t A d K out=((fJ t A d K).map (bf t A)).foldl fL out
 |0,K,out=>rfl
 |d+1,K,out=>by
  rw[bH,fJ];split
  ·rfl
  ·have:∀m,cA (bZ t A (bH t A d) K) out m=(((List.range m).flatMap fun i:Nat=>match dr t A (K.set (av K) (i:Int))with
       |none=>[]
       |some K'=>fJ t A d K').map (bf t A)).foldl fL out:=by
    intro m
    induction m with
    |zero=>rfl
    |succ m ih =>
     rw[cA,ih,Br,Bz,Be,List.foldl_append];simp only[Av,BX,AV,bZ];cases dr t A (K.set (av K) (m:Int))with
     |none=>rfl
     |some K'=>exact FD d K' _
   exact this A.length
def NK(ht:am n t)(hA:AuOk n A):∀(d:Nat) (K:D6),KOk n A.length K->aB K<d->(aB K=0->SolK n t A K)->(∀S,S∈fJ t A d K↔SolK n t A S/\dc n K S)/\(fJ t A d K).Nodup
 |0,K,_,h,_=>by omega
 |d+1,K,hK,hd,hz=>by
  rw[fJ];by_cases hp:av K=K.length
  ·rw[AA hp]
   have all:=oU K hp
   have z:aB K=0:=C7.2 λk hk=>by
    obtain⟨j,hj,rfl⟩:=BS.1 hk;have:=all j hj
    rw[bM _ _ _ hj]at this
    simpa using this
   refine⟨λS=>?_,by simp⟩
   rw[Ar]
   constructor
   ·rintro rfl;exact⟨hz z,.refl _ _⟩
   ·rintro⟨h1,h2⟩
    refine kA (by rw[h1.len,hK.len]) λi hi=>?_
    rw[h1.len]at hi;exact h2 i hi (all i (by rw[hK.len];exact hi))
  ·rw[AB hp]
   have ψ:av K<K.length:=by have:=lO K;omega
   have hneg:=uU K ψ
   have hpn:av K<n:=by rw[<-hK.len];exact ψ
   have br:∀i,i<A.length->∀K',dr t A (K.set (av K) (i:Int))=some K'->(∀S,S∈fJ t A d K'↔SolK n t A S/\dc n K S/\S.getD (av K) 0=(i:Int))/\(fJ t A d K').Nodup:=λi hi K' h=>by
    have hset:=hK.set (av K) (w:=(i:Int)) ⟨by omega,by omega⟩
    obtain⟨g1,g2⟩:=ji ht hA hK ψ hi h;have hfu:aB (K.set (av K) (i:Int))<t.length+1:=by
     have:=FN (K.set (av K) (i:Int))
     rw[hset.len]at this;rw[ht.1];omega
    obtain⟨f1,f2⟩:=FB ht hA _ hset hfu h;have up:∀S,SolK n t A S->(dc n K' S↔dc n K S/\S.getD (av K) 0=(i:Int)):=λS hS=>by
     have base:dc n (K.set (av K) (i:Int)) S↔dc n K S/\S.getD (av K) 0=(i:Int):=by
      constructor
      ·intro k
       refine⟨λx hx h0=>?_,?_⟩
       ·have e:=gn (x:=x) (w:=(i:Int)) ψ
        have ne:x≠av K:=λe=>by rw[e]at h0;omega
        rw[AB ne]at e;rw[k x hx (by rw[e];exact h0),e]
       ·have e:=gn (x:=av K) (w:=(i:Int)) ψ
        rw[AA rfl]at e;rw[k _ hpn (by rw[e];omega),e]
      ·rintro⟨k1,k2⟩ x hx h0
       rw[gn ψ]at h0⊢;split
       ·rename_i e;rw[e];exact k2
       ·rename_i e;rw[AB e]at h0;exact k1 x hx h0
     rw[<-base]
     constructor
     ·intro k;exact f1.trans k
     ·intro k
      obtain⟨K2,q1,q2⟩:=FA ht hA hS (t.length+1) hset k;have h':fw t A (t.length+1) (K.set (av K) (i:Int))=some K':=h
      rw[h']at q1;cases q1;exact q2
    obtain⟨i1,i2⟩:=NK ht hA d K' g1 (by omega) (λz=>X1 g1 (λx hx=>X0 z (by rw[g1.len];exact hx)) f2)
    exact⟨λS=>by rw[i1 S];exact⟨λk=>⟨k.1,(up S k.1).1 k.2⟩,λk=>⟨k.1,(up S k.1).2 k.2⟩⟩,i2⟩
   constructor
   ·intro S
    rw[Am]
    constructor
    ·rintro⟨i,hi,h⟩
     have hi:i<A.length:=by simpa using hi
     cases hq:dr t A (K.set (av K) (i:Int))with
     |none=>rw[hq]at h;cases h
     |some K' =>
      rw[hq]at h;have:=((br i hi K' hq).1 S).1 h
      exact⟨this.1,this.2.1⟩
    ·rintro⟨h1,h2⟩
     have r:=h1.rng _ hpn
     have e:S.getD (av K) 0=((S.getD (av K) 0).toNat:Int):=by omega
     refine⟨(S.getD (av K) 0).toNat,Af.2 (by omega),?_⟩
     have hset:=hK.set (av K) (w:=((S.getD (av K) 0).toNat:Int)) ⟨by omega,by omega⟩
     obtain⟨K',q1,q2⟩:=FA ht hA h1 (t.length+1) hset (λx hx h0=>by
      rw[gn ψ]at h0⊢;split
      ·rename_i e2;rw[e2];exact e
      ·rename_i e2;rw[AB e2]at h0;exact h2 x hx h0)
     have q1:dr t A (K.set (av K) ((S.getD (av K) 0).toNat:Int))=some K':=q1
     rw[q1];exact((br _ (by omega) K' q1).1 S).2 ⟨h1,h2,e⟩
   ·refine CZ.2 ⟨λi hi=>?_,Bt (fun {i j} hi hj hne S hS S' hS' e=>?_) Bl⟩
    ·have hi:i<A.length:=by simpa using hi
     cases hq:dr t A (K.set (av K) (i:Int))with
     |none=>exact List.Pairwise.nil
     |some K'=>exact(br i hi K' hq).2
    ·have hi:i<A.length:=by simpa using hi
     have hj:j<A.length:=by simpa using hj
     subst e;cases hq:dr t A (K.set (av K) (i:Int))with
     |none=>rw[hq]at hS;cases hS
     |some K' =>
      cases hq2:dr t A (K.set (av K) (j:Int))with
      |none=>rw[hq2]at hS';cases hS'
      |some K2 =>
       rw[hq]at hS;rw[hq2]at hS';have a:=(((br i hi K' hq).1 S).1 hS).2.2
       have b:=(((br j hj K2 hq2).1 S).1 hS').2.2
       omega
end
end Go.Sx
