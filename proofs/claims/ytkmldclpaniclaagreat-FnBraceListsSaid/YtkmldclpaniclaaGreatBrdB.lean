/- BrdB -/
import Derived.Test.YtkmldclpaniclaaGreatCirM
import Derived.Test.YtkmldclpaniclaaGreatDrawY
import Derived.Test.YtkmldclpaniclaaGreatBrcC
set_option linter.unusedSimpArgs false
set_option linter.unusedVariables false
set_option linter.defProp false
open Go Go.Proofs
namespace Go.Sx
def bT(l:D6):D6:=0::l.map λx=>x+1
def ay(η:D6)(a h ζ:Int):Dr :=
 ((aE (1+az η a h ζ)).getD (az η (aC η.length a ζ) (aK h ζ) ((aE (1+az η a h ζ)).length:Int)).toNat [],
  aC η.length (aC η.length a ζ) ((aE (1+az η a h ζ)).length:Int),aK (aK h ζ) ((aE (1+az η a h ζ)).length:Int))
def bQ(η:D6)(d:Dr):D6×Int×Int:=bD η (aC η.length d.2.1 2) (aK d.2.2 2) ((d.1.length:Int)-1).toNat
def jd(η:D6)(d:Dr):Dr :=
 if 1<(d.1.length:Int)then
  if az η d.2.1 d.2.2 2=0 then(bt d.1 (bT (bQ η d).1) d.1.length,(bQ η d).2)else(d.1,aC η.length d.2.1 2,aK d.2.2 2)
 else d
def dw(η:D6)(a h ζ:Int):Dr:=jd η (ay η a h ζ)
def oz(η:D6)(m:Nat)(d:Dr):Prop:=1<=d.1.length/\d.1.length<=m/\am d.1.length d.1/\0<=d.2.1/\d.2.1<=(η.length:Int)
def jO{n:Nat}{t:D7}(h:am n t):gp (n:Int) t:=⟨by rw[h.1],λi hi=>by
 have e:=h.1
 have r:=h.2 i (by omega)
 refine⟨by rw[r.1],λj hj=>?_⟩
 have v:=r.2 j (by omega)
 have e2:en t i j=(t.getD i []).getD j 0:=rfl
 omega⟩
def UU{n:Nat}{t:D7}(h:gp (n:Int) t):am n t:=by
 have e:=h.1
 refine⟨by omega,λi hi=>?_⟩
 have r:=h.2 i (by omega)
 refine⟨by omega,λj hj=>?_⟩
 have v:=r.2 j (by omega)
 have e2:en t i j=(t.getD i []).getD j 0:=rfl
 omega
def oA{η:D6}(hb:bz η){a h ζ:Int}(h0:0<=a)(h1:a<=(η.length:Int))(h2:1<=ζ)(h3:ζ<=8):oz η ζ.toNat (ay η a h ζ)/\(ay η a h ζ).1∈aE (1+az η a h ζ)/\0<=az η (aC η.length a ζ) (aK h ζ) ((aE (1+az η a h ζ)).length:Int)/\az η (aC η.length a ζ) (aK h ζ) ((aE (1+az η a h ζ)).length:Int)<((aE (1+az η a h ζ)).length:Int):=by
 have v:=gL hb a h h2
 have s:=dS (n:=ζ) h0 h1
 have p:1<=(aE (1+az η a h ζ)).length:=by simp[aE]
 have w:=gL hb (aC η.length a ζ) (aK h ζ) (n:=((aE (1+az η a h ζ)).length:Int)) (by omega)
 have m:(ay η a h ζ).1∈aE (1+az η a h ζ):=bN _ _ _ (by omega)
 obtain⟨q1,q2,q3⟩:=Xd (by omega) (by omega) m
 have s2:=dS (n:=((aE (1+az η a h ζ)).length:Int)) s.1 s.2
 exact⟨⟨by omega,by omega,q3,s2.1,s2.2⟩,m,w.1,by omega⟩
def td{l:D6}{n:Nat}(hl:l.length+1=n)(hr:∀i,i<l.length->0<=l.getD i 0/\l.getD i 0<=(n:Int)-2):(bT l).length=n/\∀i,i<(bT l).length->0<=(bT l).getD i 0/\(bT l).getD i 0<=(n:Int)-1:=by
 have L:(bT l).length=n:=by simp[bT];omega
 refine⟨L,λi hi=>?_⟩
 cases i with
 |zero=>simp[bT];omega
 |succ i =>
  have h:i<l.length:=by omega
  have e:(bT l).getD (i+1) 0=l.getD i 0+1:=by
   show(l.map λx=>x+1).getD i 0=_
   exact lJ _ _ _ _ _ h
  have:=hr i h
  omega
def te{η:D6}(hb:bz η){m:Nat}{d:Dr}(h:oz η m d):((bQ η d).1.length+1=d.1.length/\∀i,i<(bQ η d).1.length->0<=(bQ η d).1.getD i 0/\(bQ η d).1.getD i 0<=(d.1.length:Int)-2)/\0<=(bQ η d).2.1/\(bQ η d).2.1<=(η.length:Int):=by
 obtain⟨a1,a2,a3,a4,a5⟩:=h;have s:=dS (n:=2) a4 a5
 have D:=Ye hb (h:=aK d.2.2 2) s.1 s.2 ((d.1.length:Int)-1).toNat
 have I:=uL hb (h:=aK d.2.2 2) s.1 s.2 ((d.1.length:Int)-1).toNat
 refine⟨⟨by have:=D.1;unfold bQ;omega,λi hi=>?_⟩,I.2.2⟩
 have:=D.2 i hi
 unfold bQ;omega
def zr{n:Nat}{t:D7}{p:D6}(ht:am n t)(hn:t.length=n)(hp:p.length=n)(hr:∀i,i<p.length->0<=p.getD i 0/\p.getD i 0<=(n:Int)-1):am n (bt t p t.length):=by
 subst hn;exact UU (FI (jO ht) (by omega) hr t.length (AE _))
def zt{η:D6}(hb:bz η){m:Nat}{d:Dr}(h:oz η m d):oz η m (jd η d):=by
 have P:=te hb h
 obtain⟨a1,a2,a3,a4,a5⟩:=h;have s:=dS (n:=2) a4 a5
 unfold jd;split
 ·split
  ·obtain⟨q1,q2⟩:=td P.1.1 P.1.2
   have T:=zr a3 rfl q1 q2
   refine⟨?_,?_,?_,P.2.1,P.2.2⟩
   ·show 1<=(bt d.1 (bT (bQ η d).1) d.1.length).length;rw[T.1];exact a1
   ·show(bt d.1 (bT (bQ η d).1) d.1.length).length<=m;rw[T.1];exact a2
   ·show am (bt d.1 (bT (bQ η d).1) d.1.length).length _;rw[T.1];exact T
  ·exact⟨a1,a2,a3,s.1,s.2⟩
 ·exact⟨a1,a2,a3,a4,a5⟩
def Lh{l:D6}{i:Nat}(h:i<l.length):bT (l.take i)++[l.getD i 0+1]=bT (l.take (i+1)):=by
 rw[<-dZ l 0 i h];simp[bT]
def ti:List AD->Option Post
 | [.box [.ints .u8 η,.int .i64 a,.int .u64 h],.c (.int .i64 ζ)]=>some ⟨bz η/\η.length<=4096/\0<=a/\a<=(η.length:Int)/\1<=ζ/\ζ<=8,.c (.rows 62 2 .i64 (dw η a h ζ).1),[.bx [.ints .u8 η,.int .i64 ((dw η a h ζ).2.1),.int .u64 ((dw η a h ζ).2.2)]]⟩
 |_=>none
def Li(η:D6)(a:Int)(h:Int)(ζ:Int):Nat->Option Ann
 |1003=>some (Ann.mk ((Unit)) (λu=>⟨[(0,M' 700),(6,J' 6)],[(6,N' ((ay η a h ζ).1)),(700,P' [.orig 700 0 (.ints .u8 η),.int .i64 ((ay η a h ζ).2.1),.int .u64 ((ay η a h ζ).2.2)])]⟩) (λu=>True) (λu=>0) (λu=>λb_=>match b_ with|0=>Q' λi=>⟨⟨[(6,J' 6),(8,J' 8),(9,J' 9),(10,A' i)],[(6,N' ((ay η a h ζ).1)),(8,O' ((bT ((bQ η (ay η a h ζ)).1.take i)))),(9,O' (((bQ η (ay η a h ζ)).1))),(700,P' [.orig 700 0 (.ints .u8 η),.int .i64 ((bQ η (ay η a h ζ)).2.1),.int .u64 ((bQ η (ay η a h ζ)).2.2)])]⟩,i<=(bQ η (ay η a h ζ)).1.length/\1<((ay η a h ζ).1.length:Int)/\az η (ay η a h ζ).2.1 (ay η a h ζ).2.2 2=0,(bQ η (ay η a h ζ)).1.length-i⟩|_=>none))
 |_=>none
def Lj(t:Nat):Bool:=[3000022].contains t
def tj(η:D6)(a:Int)(h:Int)(ζ:Int):=(bD η (aC η.length (((ay η a h ζ).2).1) (2:Int)) (aK (((ay η a h ζ).2).2) (2:Int)) (((↑(((ay η a h ζ).1).length):Int)-(1:Int)).toNat))
def fp(η:D6)(a:Int)(h:Int)(ζ:Int):=((bQ η (ay η a h ζ)).1)
def Ll:Fits Tryz.prog 151 ⟨[(0,0)],ti⟩:=by
 refine ffv (Γ:=ah [(77,⟨[(0,0)],lN⟩),(126,⟨[],qv⟩),(183,⟨[(0,0)],uN⟩),(143,⟨[],qB⟩)]) (aq oQ (aq E6 (aq NU (aq FK aN)))) Tryz.func151 λds p h ξ=>?_
 unfold ti at h;split at h<;>cases h
 rename_i η a h ζ
 refine⟨Lj,Li η a h ζ,((bz η/\(0:Int)<=a/\a<=(1099511627776:Int))/\η=η/\True)/\ae ((1:Int)+az η a h ζ)/\(((1:Int)<=(1:Int)+az η a h ζ/\(1:Int)+az η a h ζ<=(8:Int))/\True)/\(((bz η/\(0:Int)<=aC η.length a ζ/\aC η.length a ζ<=(1099511627776:Int))/\η=η/\True)/\ac (az η (aC η.length a ζ) (aK h ζ) (↑(FC.len (FC.r3 IntKind.i64 (aE ((1:Int)+az η a h ζ)))):Int)) (FC.len (FC.r3 IntKind.i64 (aE ((1:Int)+az η a h ζ))))/\∃x0:Unit,True/\(aE ((1:Int)+az η a h ζ)).getD ((az η (aC η.length a ζ) (aK h ζ) (↑(FC.len (FC.r3 IntKind.i64 (aE ((1:Int)+az η a h ζ)))):Int)).toNat) ([]:D7)=(ay η a h ζ).1/\η=η/\aC η.length (aC η.length a ζ) (↑(FC.len (FC.r3 IntKind.i64 (aE ((1:Int)+az η a h ζ)))):Int)=((ay η a h ζ).2).1/\aK (aK h ζ) (↑(FC.len (FC.r3 IntKind.i64 (aE ((1:Int)+az η a h ζ)))):Int)=((ay η a h ζ).2).2)/\∀x1:Unit,True->ab (decide ((1:Int)<(↑(((ay η a h ζ).1).length):Int))) (((bz η/\(0:Int)<=((ay η a h ζ).2).1/\((ay η a h ζ).2).1<=(1099511627776:Int))/\η=η/\True)/\ab (az η (((ay η a h ζ).2).1) (((ay η a h ζ).2).2) (2:Int) == (0:Int)) (ae ((↑(((ay η a h ζ).1).length):Int)-(1:Int))/\((bz η/\(0:Int)<=aC η.length (((ay η a h ζ).2).1) (2:Int)/\aC η.length (((ay η a h ζ).2).1) (2:Int)<=(η.length:Int)/\η.length<=(4096:Nat)/\(0:Int)<=(↑(((ay η a h ζ).1).length):Int)-(1:Int)/\(↑(((ay η a h ζ).1).length):Int)-(1:Int)<=(144:Int))/\η=η/\True)/\(∃x2:Nat,(x2<=(fp η a h ζ).length/\(1:Int)<(↑(((ay η a h ζ).1).length):Int)/\az η (((ay η a h ζ).2).1) (((ay η a h ζ).2).2) (2:Int)=(0:Int))/\(0:Int)=(x2:Int)/\(ay η a h ζ).1=(ay η a h ζ).1/\[(0:Int)]=bT (List.take x2 (fp η a h ζ))/\(tj η a h ζ).1=(bQ η (ay η a h ζ)).1/\η=η/\((tj η a h ζ).2).1=((bQ η (ay η a h ζ)).2).1/\((tj η a h ζ).2).2=((bQ η (ay η a h ζ)).2).2)/\∀x3:Nat,x3<=(fp η a h ζ).length/\(1:Int)<(↑(((ay η a h ζ).1).length):Int)/\az η (((ay η a h ζ).2).1) (((ay η a h ζ).2).2) (2:Int)=(0:Int)->ab (decide ((x3:Int)<(↑(((bQ η (ay η a h ζ)).1).length):Int))) (ac (x3:Int) (fp η a h ζ).length/\ae ((fp η a h ζ).getD (x3:Int).toNat (0:Int)+(1:Int))/\au ((bT (List.take x3 (fp η a h ζ))).length+[(fp η a h ζ).getD (x3:Int).toNat (0:Int)+(1:Int)].length)/\ae ((x3:Int)+(1:Int))/\∃x4:Nat,(x4<=(fp η a h ζ).length/\(1:Int)<(↑(((ay η a h ζ).1).length):Int)/\az η (((ay η a h ζ).2).1) (((ay η a h ζ).2).2) (2:Int)=(0:Int))/\(fp η a h ζ).length-x4<(fp η a h ζ).length-x3/\(x3:Int)+(1:Int)=(x4:Int)/\(ay η a h ζ).1=(ay η a h ζ).1/\bT (List.take x3 (fp η a h ζ))++[(fp η a h ζ).getD (x3:Int).toNat (0:Int)+(1:Int)]=bT (List.take x4 (fp η a h ζ))/\(bQ η (ay η a h ζ)).1=(bQ η (ay η a h ζ)).1/\η=η/\((bQ η (ay η a h ζ)).2).1=((bQ η (ay η a h ζ)).2).1/\((bQ η (ay η a h ζ)).2).2=((bQ η (ay η a h ζ)).2).2) (((aJ (ay η a h ζ).1/\((ay η a h ζ).1).length<=(144:Nat)/\gp (↑(((ay η a h ζ).1).length):Int) (ay η a h ζ).1/\(bT (List.take x3 (fp η a h ζ))).length=((ay η a h ζ).1).length/\∀(i:Nat),i<(bT (List.take x3 (fp η a h ζ))).length->(0:Int)<=(bT (List.take x3 (fp η a h ζ))).getD i (0:Int)/\(bT (List.take x3 (fp η a h ζ))).getD i (0:Int)<=(↑(((ay η a h ζ).1).length):Int)-(1:Int))/\True)/\bt (ay η a h ζ).1 (bT (List.take x3 (fp η a h ζ))) (((ay η a h ζ).1).length)=(dw η a h ζ).1/\(η=η/\((bQ η (ay η a h ζ)).2).1=((dw η a h ζ).2).1/\((bQ η (ay η a h ζ)).2).2=((dw η a h ζ).2).2/\True)/\True)) ((ay η a h ζ).1=(dw η a h ζ).1/\(η=η/\aC η.length (((ay η a h ζ).2).1) (2:Int)=((dw η a h ζ).2).1/\aK (((ay η a h ζ).2).2) (2:Int)=((dw η a h ζ).2).2/\True)/\True)) ((ay η a h ζ).1=(dw η a h ζ).1/\(η=η/\((ay η a h ζ).2).1=((dw η a h ζ).2).1/\((ay η a h ζ).2).2=((dw η a h ζ).2).2/\True)/\True),by kernel_rfl,?_⟩
 simp only[tj,fp,aO]at ξ⊢;simp only[FC.len];obtain⟨hb,hc,h0,h1,h2,h3⟩:=ξ;obtain⟨K,_,ep,w2⟩:=oA hb (h:=h) h0 h1 h2 h3;have v:=gL hb a h h2
 have s:=dS (n:=ζ) h0 h1
 refine⟨⟨hb,h0,by omega⟩,by omega,by omega,⟨⟨hb,s.1,by omega⟩,⟨ep,w2⟩,⟨⟨⟩,rfl,rfl,rfl⟩⟩,λ_ _=>?_⟩
 have e:dw η a h ζ=jd η (ay η a h ζ):=rfl
 rw[e];generalize ay η a h ζ=d at K⊢
 have P:=te hb K
 obtain⟨k1,k2,k3,k4,k5⟩:=K;have s2:=dS (n:=2) k4 k5
 refine⟨λz=>⟨⟨hb,k4,by omega⟩,λy=>⟨by omega,⟨hb,s2.1,s2.2,hc,by omega,by omega⟩,⟨0,⟨by omega,z,y⟩,rfl,rfl,rfl,rfl,rfl⟩,λi ⟨hi,_,_⟩=>⟨λg=>?_,λg=>?_⟩⟩,λy=>?_⟩,λz=>?_⟩
 ·have:=P.1.2 i (by omega)
  refine⟨by omega,by omega,by simp[bT];omega,by omega,i+1,⟨by omega,z,y⟩,by omega,by omega,Lh (by omega)⟩
 ·rw[AU (by omega)]
  obtain⟨q1,q2⟩:=td P.1.1 P.1.2;have R:jd η d=(bt d.1 (bT (bQ η d).1) d.1.length,(bQ η d).2):=by unfold jd;rw[AA z,AA y]
  rw[R];exact⟨⟨oS (jO k3) (by omega),by omega,jO k3,q1,q2⟩,rfl,rfl,rfl⟩
 ·have R:jd η d=(d.1,aC η.length d.2.1 2,aK d.2.2 2):=by unfold jd;rw[AA z,AB y]
  rw[R];exact⟨rfl,rfl,rfl⟩
 ·have R:jd η d=d:=by unfold jd;rw[AB z]
  rw[R];exact⟨rfl,rfl,rfl⟩
def fU(t:D7)(y:Nat):D6:=ax t.length λx=>en t x y
def eZ(t:D7):D7:=(List.range t.length).map (fU t)
def UX{n:Nat}(f:Nat->Int){i:Nat}(hi:i<n):(ax n f).take i++[f i]=(ax n f).take (i+1):=by
 rw[<-dZ (ax n f) 0 i (by rw[d4];exact hi),eA _ _ _ hi]
def zv:List AD->Option Post
 | [.c (.rows .i64 t),.c (.int .i64 y)]=>some ⟨t.length<=144/\0<=y/\y<(t.length:Int)/\(∀x,x<t.length->(t.getD x []).length=t.length),.c (.ints 2 .i64 (fU t y.toNat)),[]⟩
 |_=>none
def Lm(t:D7)(y:Int):Nat->Option Ann
 |0=>Q' λx=>⟨⟨[(0,G' t),(1,A' y),(5,J' 100),(6,A' x)],[(100,O' (((fU t y.toNat).take x)))]⟩,x<=t.length,t.length-x⟩
 |_=>none
def U0:Fits Tryz.prog 239 ⟨[],zv⟩:=by
 refine ffv (Γ:=ah []) aN Tryz.func239 λds p h ξ=>?_
 unfold zv at h;split at h<;>cases h
 rename_i t y
 refine⟨aj,Lm t y,(∃x0:Nat,x0<=t.length/\t=t/\y=y/\(0:Int)=(x0:Int)/\[]=List.take x0 (fU t y.toNat))/\∀x1:Nat,x1<=t.length->ab (decide ((x1:Int)<(t.length:Int))) (ac (x1:Int) t.length/\ac y ((t.getD (x1:Int).toNat []).length)/\au ((List.take x1 (fU t y.toNat)).length+[(List.getD t (x1:Int).toNat []).getD y.toNat (0:Int)].length)/\ae ((x1:Int)+(1:Int))/\∃x2:Nat,x2<=t.length/\t.length-x2<t.length-x1/\t=t/\y=y/\(x1:Int)+(1:Int)=(x2:Int)/\List.take x1 (fU t y.toNat)++[(List.getD t (x1:Int).toNat []).getD y.toNat (0:Int)]=List.take x2 (fU t y.toNat)) (List.take x1 (fU t y.toNat)=fU t y.toNat/\True),by kernel_rfl,?_⟩
 simp only[aO]at ξ⊢;obtain⟨h1,h2,h3,h4⟩:=ξ;have lc:(fU t y.toNat).length=t.length:=d4 _ _
 refine⟨⟨0,by omega,by omega,rfl⟩,λx hx=>⟨λh=>?_,λh=>?_⟩⟩
 ·have:=h4 x (by omega)
  exact⟨by omega,by omega,by omega,by omega,x+1,by omega,by omega,by omega,UX (λx=>en t x y.toNat) (by omega)⟩
 ·exact AU (by omega)
def zx:List AD->Option Post
 | [.c (.rows .i64 t)]=>some ⟨t.length<=144/\(∀x,x<t.length->(t.getD x []).length=t.length),.c (.rows 62 2 .i64 (eZ t)),[]⟩
 |_=>none
def Lo(t:D7):Nat->Option Ann
 |0=>Q' λy=>⟨⟨[(0,G' t),(3,J' 100),(4,A' y)],[(100,N' (((eZ t).take y)))]⟩,y<=t.length,t.length-y⟩
 |_=>none
def U3:Fits Tryz.prog 209 ⟨[],zx⟩:=by
 refine ffv (Γ:=ah [(239,⟨[],zv⟩)]) (aq U0 aN) Tryz.func209 λds p h ξ=>?_
 unfold zx at h;split at h<;>cases h
 rename_i t
 refine⟨aj,Lo t,(∃x0:Nat,x0<=t.length/\t=t/\(0:Int)=(x0:Int)/\([]:D7)=List.take x0 (eZ t))/\∀x1:Nat,x1<=t.length->ab (decide ((x1:Int)<(t.length:Int))) (((t.length<=(144:Nat)/\(0:Int)<=(x1:Int)/\(x1:Int)<(t.length:Int)/\∀(x:Nat),x<t.length->(t.getD x []).length=t.length)/\True)/\au ((List.take x1 (eZ t)).length+(fU t (x1:Int).toNat::([]:D7)).length)/\ae ((x1:Int)+(1:Int))/\∃x2:Nat,x2<=t.length/\t.length-x2<t.length-x1/\t=t/\(x1:Int)+(1:Int)=(x2:Int)/\List.take x1 (eZ t)++fU t (x1:Int).toNat::([]:D7)=List.take x2 (eZ t)) (List.take x1 (eZ t)=eZ t/\True),by kernel_rfl,?_⟩
 simp only[aO]at ξ⊢;obtain⟨h1,h4⟩:=ξ;have lc:(eZ t).length=t.length:=by simp[eZ]
 have li:∀y,(fU t y).length=t.length:=λy=>d4 _ _
 refine⟨⟨0,by omega,by omega,rfl⟩,λy hy=>⟨λh=>⟨⟨by omega,by omega,by omega,h4⟩,by omega,by omega,y+1,by omega,by omega,by omega,?_⟩,λh=>?_⟩⟩
 ·rw[<-dZ (eZ t) [] y (by omega)]
  simp[eZ,AM,show y<t.length by omega]
 ·exact AU (by omega)
def U4{n:Nat}{t:D7}(h:am n t):am n (eZ t):=by
 have e:=h.1
 refine⟨by simp[eZ,e],λx hx=>?_⟩
 have r:(eZ t).getD x []=fU t x:=by simp[eZ,AM,e,hx]
 refine⟨by rw[r,fU,d4,e],λy hy=>?_⟩
 have v:en (eZ t) x y=en t y x:=by
  show((eZ t).getD x []).getD y 0=_
  rw[r,fU,eA _ _ _ (by omega)]
 rw[v];exact(h.2 y hy).2 x hx
def eD(n k:Int)(x y:Nat):Int:=((x:Int)+(y:Int)+k*(x:Int)*(y:Int)).tmod n
def iG(n k:Int):D7:=cb n.toNat (eD n k)
def Lq{n k:Int}(h:1<=n)(hk:0<=k):am (af n).length (iG n k):=by
 have e:=mS h
 refine⟨by rw[iG,mI];omega,λx hx=>?_⟩
 have r:(iG n k).getD x []=ax n.toNat (eD n k x):=ou _ _ _ (by omega)
 refine⟨by rw[r,d4];omega,λy hy=>?_⟩
 have v:en (iG n k) x y=eD n k x y:=by
  show((iG n k).getD x []).getD y 0=_
  rw[r,eA _ _ _ (by omega)]
 have p:0<=k*(x:Int)*(y:Int):=CA (CA hk (by omega)) (by omega)
 have a:=Cw (a:=(x:Int)+(y:Int)+k*(x:Int)*(y:Int)) n (by omega)
 have b:=Cy ((x:Int)+(y:Int)+k*(x:Int)*(y:Int)) (b:=n) (by omega)
 rw[v,eD];omega
def zA:List AD->Option Post
 | [.c (.int .i64 n),.c (.int .i64 k)]=>some ⟨1<=n/\n<=12/\0<=k/\k<=12,.agg [.rows 62 2 .i64 (af n),.rows 62 2 .i64 (iG n k)],[]⟩
 |_=>none
def Lr(n:Int)(k:Int):Nat->Option Ann
 |0=>T' (λi=>⟨⟨[(0,A' n),(1,A' k),(4,M' 4),(5,M' 5),(6,A' i)],[(4,P' [.nil,.nil]),(5,P' [.own 105,.own 106]),(105,N' (af n)),(106,N' (bJ n.toNat i (eD n k)))]⟩,(i:Int)<=n,n.toNat-i⟩) (λi b_=>match b_ with|2=>Q' λj=>⟨⟨[(0,A' n),(1,A' k),(4,M' 4),(5,M' 5),(6,A' i),(7,J' 7),(8,A' j)],[(4,P' [.nil,.nil]),(5,P' [.own 105,.own 106]),(105,N' (af n)),(106,N' (bJ n.toNat i (eD n k))),(7,O' (ax j (eD n k i)))]⟩,(i:Int)<n/\(j:Int)<=n,n.toNat-j⟩|_=>none)
 |_=>none
def U7:Fits Tryz.prog 210 ⟨[],zA⟩:=by
 refine ffv (Γ:=ah [(167,⟨[],wl⟩)]) (aq Qy aN) Tryz.func210 λds p h ξ=>?_
 unfold zA at h;split at h<;>cases h
 rename_i n k
 refine⟨aj,Lr n k,(((1:Int)<=n/\n<=(12:Int))/\True)/\(∃x0:Nat,(x0:Int)<=n/\n=n/\k=k/\(0:Int)=(x0:Int)/\af n=af n/\bJ n.toNat x0 (eD n k)=([]:D7))/\∀x1:Nat,(x1:Int)<=n->ab (decide ((x1:Int)<n)) ((∃x2:Nat,((x1:Int)<n/\(x2:Int)<=n)/\n=n/\k=k/\(x1:Int)=(x1:Int)/\(0:Int)=(x2:Int)/\af n=af n/\bJ n.toNat x1 (eD n k)=bJ n.toNat x1 (eD n k)/\[]=ax x2 (eD n k x1))/\∀x3:Nat,(x1:Int)<n/\(x3:Int)<=n->ab (decide ((x3:Int)<n)) (ae ((x1:Int)+(x3:Int))/\ae (k*(x1:Int))/\ae (k*(x1:Int)*(x3:Int))/\ae ((x1:Int)+(x3:Int)+k*(x1:Int)*(x3:Int))/\n≠(0:Int)/\au ((ax x3 (eD n k x1)).length+[Int.tmod ((x1:Int)+(x3:Int)+k*(x1:Int)*(x3:Int)) n].length)/\ae ((x3:Int)+(1:Int))/\∃x4:Nat,((x1:Int)<n/\(x4:Int)<=n)/\n.toNat-x4<n.toNat-x3/\n=n/\k=k/\(x1:Int)=(x1:Int)/\(x3:Int)+(1:Int)=(x4:Int)/\af n=af n/\bJ n.toNat x1 (eD n k)=bJ n.toNat x1 (eD n k)/\ax x3 (eD n k x1)++[Int.tmod ((x1:Int)+(x3:Int)+k*(x1:Int)*(x3:Int)) n]=ax x4 (eD n k x1)) (au ((bJ n.toNat x1 (eD n k)).length+(ax x3 (eD n k x1)::([]:D7)).length)/\ae ((x1:Int)+(1:Int))/\∃x5:Nat,(x5:Int)<=n/\n.toNat-x5<n.toNat-x1/\n=n/\k=k/\(x1:Int)+(1:Int)=(x5:Int)/\af n=af n/\bJ n.toNat x1 (eD n k)++ax x3 (eD n k x1)::([]:D7)=bJ n.toNat x5 (eD n k))) ((af n=af n/\bJ n.toNat x1 (eD n k)=iG n k/\True)/\True),by kernel_rfl,?_⟩
 simp only[aO]at ξ⊢;obtain⟨h1,h2,h3,h4⟩:=ξ;refine⟨⟨h1,h2⟩,⟨0,by omega,rfl,rfl⟩,λi hi=>⟨λh=>⟨⟨0,⟨by omega,by omega⟩,rfl,rfl⟩,λj ⟨_,hj⟩=>⟨λg=>?_,λg=>⟨by rw[wj];omega,by omega,i+1,by omega,by omega,by omega,?_⟩⟩⟩,λh=>?_⟩⟩
 ·have a1:k*(i:Int)<=12*12:=Int.mul_le_mul (by omega) (by omega) (by omega) (by omega)
  have a0:0<=k*(i:Int):=CA h3 (by omega)
  have b1:k*(i:Int)*(j:Int)<=12*12*12:=Int.mul_le_mul a1 (by omega) (by omega) (by omega)
  have b0:0<=k*(i:Int)*(j:Int):=CA a0 (by omega)
  refine⟨by omega,by omega,by omega,by omega,by omega,by rw[d4];omega,by omega,j+1,⟨by omega,by omega⟩,by omega,by omega,?_⟩
  rw[tab_succ'];rfl
 ·rw[wi,show j=n.toNat by omega]
 ·rw[show i=n.toNat by omega];rfl
end Go.Sx
