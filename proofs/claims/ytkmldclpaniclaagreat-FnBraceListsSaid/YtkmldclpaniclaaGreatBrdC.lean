/- BrdC -/
import Derived.Test.YtkmldclpaniclaaGreatBrdB
set_option linter.unusedSimpArgs false
set_option linter.unusedVariables false
set_option linter.defProp false
open Go Go.Proofs
namespace Go.Sx
abbrev Bd:=D7×D7×Int×Int
def tw(η:D6)(d:Dr):Bd:=(d.1,if az η d.2.1 d.2.2 2=0 then eZ d.1 else d.1,aC η.length d.2.1 2,aK d.2.2 2)
def fa(η:D6)(ζ a h:Int):Int:=1+az η a h ζ
def ql(η:D6)(ζ a h:Int):Int:=az η (aC η.length a ζ) (aK h ζ) (fa η ζ a h)
def oB(η:D6)(ζ a h:Int):Int:=aC η.length (aC η.length a ζ) (fa η ζ a h)
def tz(η:D6)(ζ a h:Int):Int:=aK (aK h ζ) (fa η ζ a h)
def bY(η:D6)(d:Dr):Bd:=(d.1,(aF d.1 (aa d.1)).getD (az η d.2.1 d.2.2 ((aF d.1 (aa d.1)).length:Int)).toNat [],aC η.length d.2.1 ((aF d.1 (aa d.1)).length:Int),aK d.2.2 ((aF d.1 (aa d.1)).length:Int))
def jP(η:D6)(b:Bd):Bd :=
 if 1<(b.1.length:Int)then
  if az η b.2.2.1 b.2.2.2 2=0 then(bt b.1 (bT (bQ η (b.1,b.2.2)).1) b.1.length,bt b.2.1 (bT (bQ η (b.1,b.2.2)).1) b.2.1.length,(bQ η (b.1,b.2.2)).2)else(b.1,b.2.1,aC η.length b.2.2.1 2,aK b.2.2.2 2)
 else b
def lL(η:D6)(a h ζ:Int):Bd:=jP η (bY η (ay η a h ζ))
def m7(ζ:Int):Int:=if 7<ζ then 7 else ζ
def kC(η:D6)(ζ:Int):Nat->Int->Int->Bd
 |0,a,h=>lL η a h (m7 ζ)
 |j+1,a,h=>if cg (af (fa η ζ a h)) (iG (fa η ζ a h) (ql η ζ a h))=true then(af (fa η ζ a h),iG (fa η ζ a h) (ql η ζ a h),oB η ζ a h,tz η ζ a h)else kC η ζ j (oB η ζ a h) (tz η ζ a h)
def kD(η:D6)(a h ζ:Int):Bd :=
 if az η a h 5=0 then tw η (dw η (aC η.length a 5) (aK h 5) ζ)
 else if az η a h 5=1 then kC η ζ 6 (aC η.length a 5) (aK h 5)
 else lL η (aC η.length a 5) (aK h 5) (m7 ζ)
def gJ(η:D6)(a h:Int):Bd:=kD η a h 4
def je(η:D6)(a h:Int):Bd:=kD η (gJ η a h).2.2.1 (gJ η a h).2.2.2 2
def tA(η:D6)(a h:Int):Bd:=(bj (gJ η a h).1 (je η a h).1,bj (gJ η a h).2.1 (je η a h).2.1,(je η a h).2.2)
def aT(η:D6)(a h ζ:Int):Bd :=
 if az η a h 5=2/\8<=ζ then tA η (aC η.length a 5) (aK h 5)else kD η a h ζ
def fV(η:D6)(m:Nat)(b:Bd):Prop:=1<=b.1.length/\b.1.length<=m/\am b.1.length b.1/\am b.1.length b.2.1/\0<=b.2.2.1/\b.2.2.1<=(η.length:Int)
def Lu{η:D6}{m:Nat}{b:Bd}(h:fV η m b):oz η m (b.1,b.2.2):=⟨h.1,h.2.1,h.2.2.1,h.2.2.2.2⟩
def Lv{η:D6}(hb:bz η){n:Int}(h1:1<=n)(h2:n<=7){m:Nat}{d:Dr}(hd:d.1∈aE n)(hg:oz η m d)(hm:m<=12):fV η m (bY η d)/\(0<=az η d.2.1 d.2.2 ((aF d.1 (aa d.1)).length:Int)/\az η d.2.1 d.2.2 ((aF d.1 (aa d.1)).length:Int)<((aF d.1 (aa d.1)).length:Int)) /\
  bX d.1=true/\AuOk d.1.length (aa d.1)/\(aa d.1).length<=100:=by
 obtain⟨q1,q2,q3,q4,q5,q6⟩:=Xc h1 h2 hd;obtain⟨a1,a2,a3,a4,a5⟩:=hg;obtain⟨c1,c2⟩:=Yg q3 a1 (by omega) q4 q6
 have v:=gL hb d.2.1 d.2.2 (n:=((aF d.1 (aa d.1)).length:Int)) (by omega)
 have s:=dS (n:=((aF d.1 (aa d.1)).length:Int)) a4 a5
 refine⟨⟨a1,a2,a3,c2 _ (bN _ [] _ (by omega)),s.1,s.2⟩,⟨v.1,by omega⟩,q2,q4,q5⟩
def U8{η:D6}(hb:bz η){m:Nat}{b:Bd}(h:fV η m b):fV η m (jP η b):=by
 have P:=te hb (Lu h)
 obtain⟨a1,a2,a3,a4,a5,a6⟩:=h;have s:=dS (n:=2) a5 a6
 unfold jP;split
 ·split
  ·obtain⟨q1,q2⟩:=td P.1.1 P.1.2
   have T:=zr a3 rfl q1 q2
   have U:=zr a4 a4.1 q1 q2
   refine⟨?_,?_,?_,?_,P.2.1,P.2.2⟩
   ·show 1<=(bt b.1 (bT (bQ η (b.1,b.2.2)).1) b.1.length).length;rw[T.1];exact a1
   ·show(bt b.1 (bT (bQ η (b.1,b.2.2)).1) b.1.length).length<=m;rw[T.1];exact a2
   ·show am (bt b.1 (bT (bQ η (b.1,b.2.2)).1) b.1.length).length _;rw[T.1];exact T
   ·show am (bt b.1 (bT (bQ η (b.1,b.2.2)).1) b.1.length).length _;rw[T.1];exact U
  ·exact⟨a1,a2,a3,a4,s.1,s.2⟩
 ·exact⟨a1,a2,a3,a4,a5,a6⟩
def zC{ζ:Int}(h2:1<=ζ):1<=m7 ζ/\m7 ζ<=7/\m7 ζ<=ζ:=by unfold m7;split<;>omega
def zD{η:D6}{m k:Nat}{b:Bd}(h:fV η m b)(hk:m<=k):fV η k b:=⟨h.1,Ao h.2.1 hk,h.2.2⟩
def Lw{η:D6}(hb:bz η){a h ζ:Int}(h0:0<=a)(h1:a<=(η.length:Int))(h2:1<=ζ)(h3:ζ<=7):fV η ζ.toNat (lL η a h ζ):=by
 have v:=gL hb a h h2
 obtain⟨K,m,_⟩:=oA hb (h:=h) h0 h1 h2 (by omega)
 exact U8 hb (Lv hb (by omega) (by omega) m K (by omega)).1
def Lx{η:D6}(hb:bz η){a h ζ:Int}(h0:0<=a)(h1:a<=(η.length:Int))(h2:1<=ζ):1<=fa η ζ a h/\fa η ζ a h<=ζ/\0<=ql η ζ a h/\ql η ζ a h<=fa η ζ a h-1/\0<=oB η ζ a h/\oB η ζ a h<=(η.length:Int):=by
 have v:=gL hb a h h2
 have n1:1<=fa η ζ a h/\fa η ζ a h<=ζ:=by unfold fa;omega
 have s:=dS (n:=ζ) h0 h1
 have w:=gL hb (aC η.length a ζ) (aK h ζ) n1.1
 have s2:=dS (n:=fa η ζ a h) s.1 s.2
 exact⟨n1.1,n1.2,w.1,w.2,s2.1,s2.2⟩
def Ly{η:D6}(hb:bz η){ζ:Int}(h2:1<=ζ):∀(j:Nat) (a h:Int),0<=a->a<=(η.length:Int)->fV η ζ.toNat (kC η ζ j a h)
 |0,a,h,h0,h1=>by
  have m:=zC h2
  exact zD (Lw hb h0 h1 m.1 m.2.1) (by omega)
 |j+1,a,h,h0,h1=>by
  obtain⟨r1,r2,r3,r4,r5,r6⟩:=Lx hb (h:=h) h0 h1 h2;have e:=mS r1
  rw[kC];split
  ·exact⟨by show 1<=(af (fa η ζ a h)).length;omega,by show(af (fa η ζ a h)).length<=ζ.toNat;omega,qt r1,Lq r1 r3,r5,r6⟩
  ·exact Ly hb h2 j _ _ r5 r6
def zE{η:D6}(hb:bz η){a h ζ:Int}(h0:0<=a)(h1:a<=(η.length:Int))(h2:1<=ζ)(h3:ζ<=8):fV η ζ.toNat (kD η a h ζ):=by
 have s:=dS (n:=5) h0 h1
 have m:=zC h2
 unfold kD;split
 ·obtain⟨K,_⟩:=oA hb (h:=aK h 5) s.1 s.2 h2 h3
  obtain⟨k1,k2,k3,k4,k5⟩:=zt hb K;have s2:=dS (n:=2) k4 k5
  refine⟨k1,k2,k3,?_,s2.1,s2.2⟩
  show am _ (if _ then _ else _)
  split
  ·exact U4 k3
  ·exact k3
 ·split
  ·exact Ly hb h2 6 _ _ s.1 s.2
  ·exact zD (Lw hb s.1 s.2 m.1 m.2.1) (by omega)
def Lz{η:D6}(hb:bz η){a h:Int}(h0:0<=a)(h1:a<=(η.length:Int)):fV η 4 (gJ η a h)/\fV η 2 (je η a h)/\fV η 8 (tA η a h):=by
 have A:fV η 4 (gJ η a h):=zE hb h0 h1 (by omega) (by omega)
 have B:fV η 2 (je η a h):=zE hb A.2.2.2.2.1 A.2.2.2.2.2 (by omega) (by omega)
 refine⟨A,B,?_⟩
 obtain⟨a1,a2,a3,a4,a5,a6⟩:=A;obtain⟨b1,b2,b3,b4,b5,b6⟩:=B;have a4':am (gJ η a h).2.1.length (gJ η a h).2.1:=by rw[a4.1];exact a4
 have b4':am (je η a h).2.1.length (je η a h).2.1:=by rw[b4.1];exact b4
 have T:=Qz a3 b3 b1
 have U:=Qz a4' b4' (by rw[b4.1];exact b1)
 rw[a4.1,b4.1]at U;have p:=Bb a2 b2
 have q:=Bb a1 b1
 have L:(tA η a h).1.length=(gJ η a h).1.length*(je η a h).1.length:=T.1
 refine⟨by rw[L];exact q,by rw[L];exact p,by rw[L];exact T,by rw[L];exact U,b5,b6⟩
def LA{η:D6}(hb:bz η){a h ζ:Int}(h0:0<=a)(h1:a<=(η.length:Int))(h2:1<=ζ)(h3:ζ<=8):fV η ζ.toNat (aT η a h ζ):=by
 have s:=dS (n:=5) h0 h1
 unfold aT;split
 ·exact zD (Lz hb s.1 s.2).2.2 (by omega)
 ·exact zE hb h0 h1 h2 h3
def oC{η:D6}{a h ζ:Int}(h2:ζ<8\/az η a h 5≠2):aT η a h ζ=kD η a h ζ:=AB (by omega)
def oD(d:Nat)(η:D6)(a:Int)(h:Int)(ζ:Int):Post:=⟨bz η/\η.length<=4096/\0<=a/\a<=(η.length:Int)/\1<=ζ/\(ζ<=7/\1<=d\/ζ<=8/\2<=d),.agg [.rows 62 2 .i64 (aT η a h ζ).1,.ro (.rows .i64 ((aT η a h ζ).2.1))],[.bx [.ints .u8 η,.int .i64 ((aT η a h ζ).2.2.1),.int .u64 ((aT η a h ζ).2.2.2)]]⟩
def qm(d:Nat):List AD->Option Post
 | [.box [.ints .u8 η,.int .i64 a,.int .u64 h],.c (.int .i64 ζ)]=>some (oD d η a h ζ)
 |_=>none
def LB(d:Nat)(η:D6)(a:Int)(h:Int)(ζ:Int):Nat->Option Ann
 |1=>some (Ann.mk ((Nat)×(Int)×(Int)) (λx=>match x with|(i,b,g)=>⟨[(0,M' 700),(1,A' ζ),(4,M' 4),(6,A' i)],[(4,P' [.nil,.nil]),(700,P' [.orig 700 0 (.ints .u8 η),.int .i64 b,.int .u64 g])]⟩) (λx=>match x with|(i,b,g)=>i<=6/\0<=b/\b<=(η.length:Int)/\az η a h 5≠2/\aT η a h ζ=kC η ζ (6-i) b g) (λx=>match x with|(i,b,g)=>6-i) (λ_=>ar))
 |1019=>some (Ann.mk ((Int)×(Int)) (λx=>match x with|(b,g)=>⟨[(0,M' 700),(1,A' ζ),(4,M' 4)],[(4,P' [.nil,.nil]),(700,P' [.orig 700 0 (.ints .u8 η),.int .i64 b,.int .u64 g])]⟩) (λx=>match x with|(b,g)=>0<=b/\b<=(η.length:Int)/\aT η a h ζ=lL η b g (m7 ζ)) (λx=>match x with|(b,g)=>0) (λx=>match x with|(b,g)=>λb_=>match b_ with|1020=>some (Ann.mk ((Unit)) (λu=>⟨[(0,M' 700),(4,M' 4),(11,J' 11)],[(4,P' [.nil,.nil]),(11,some (.tr 0 [22,62,2] (.r3 .i64 ((aE (1+az η b g (m7 ζ))))))),(700,P' [.orig 700 0 (.ints .u8 η),.int .i64 (aC η.length b (m7 ζ)),.int .u64 (aK g (m7 ζ))])]⟩) (λu=>True) (λu=>0) (λu=>λb_=>match b_ with|1021=>some (Ann.mk ((Unit)) (λu=>⟨[(0,M' 700),(4,M' 4),(12,J' 12)],[(4,P' [.nil,.nil]),(12,N' (((ay η b g (m7 ζ)).1))),(700,P' [.orig 700 0 (.ints .u8 η),.int .i64 ((ay η b g (m7 ζ)).2.1),.int .u64 ((ay η b g (m7 ζ)).2.2)])]⟩) (λu=>True) (λu=>0) (λu=>λb_=>match b_ with|1023=>some (Ann.mk ((Unit)) (λu=>⟨[(0,M' 700),(4,M' 4),(12,J' 114),(14,M' 14)],[(4,P' [.nil,.nil]),(14,P' [.own 114,.ro (.rows .i64 ((bY η (ay η b g (m7 ζ))).2.1))]),(114,N' (((bY η (ay η b g (m7 ζ))).1))),(700,P' [.orig 700 0 (.ints .u8 η),.int .i64 ((bY η (ay η b g (m7 ζ))).2.2.1),.int .u64 ((bY η (ay η b g (m7 ζ))).2.2.2)])]⟩) (λu=>True) (λu=>0) (λu=>λb_=>match b_ with|3=>Q' λi=>⟨⟨[(0,M' 700),(4,M' 4),(14,M' 14),(16,J' 16),(17,J' 17),(18,A' i)],[(4,P' [.nil,.nil]),(14,P' [.own 114,.ro (.rows .i64 ((bY η (ay η b g (m7 ζ))).2.1))]),(114,N' (((bY η (ay η b g (m7 ζ))).1))),(16,O' ((bT ((bQ η ((bY η (ay η b g (m7 ζ))).1,(bY η (ay η b g (m7 ζ))).2.2)).1.take i)))),(17,O' (((bQ η ((bY η (ay η b g (m7 ζ))).1,(bY η (ay η b g (m7 ζ))).2.2)).1))),(700,P' [.orig 700 0 (.ints .u8 η),.int .i64 ((bQ η ((bY η (ay η b g (m7 ζ))).1,(bY η (ay η b g (m7 ζ))).2.2)).2.1),.int .u64 ((bQ η ((bY η (ay η b g (m7 ζ))).1,(bY η (ay η b g (m7 ζ))).2.2)).2.2)])]⟩,i<=(bQ η ((bY η (ay η b g (m7 ζ))).1,(bY η (ay η b g (m7 ζ))).2.2)).1.length/\1<((bY η (ay η b g (m7 ζ))).1.length:Int)/\az η (bY η (ay η b g (m7 ζ))).2.2.1 (bY η (ay η b g (m7 ζ))).2.2.2 2=0,(bQ η ((bY η (ay η b g (m7 ζ))).1,(bY η (ay η b g (m7 ζ))).2.2)).1.length-i⟩|_=>none))|_=>none))|_=>none))|_=>none))
 |_=>none
def LC(t:Nat):Bool:=[3000086].contains t
def LD(d:Nat):List (Nat×Ctr):=[(77,⟨[(0,0)],lN⟩),(151,⟨[(0,0)],ti⟩),(209,⟨[],zx⟩),(96,⟨[],ry⟩),(210,⟨[],zA⟩),(61,⟨[],ta⟩),(126,⟨[],qv⟩),(86,⟨[(0,0)],E8⟩),(183,⟨[(0,0)],uN⟩),(143,⟨[],qB⟩),(168,⟨[],wn⟩),(150,⟨[(0,0)],qm d⟩)]
def zF(d:Nat)(η:D6)(a:Int)(h:Int)(ζ:Int):Prop :=
 ∃x0:Int×Int,((0:Int)<=x0.1/\x0.1<=(η.length:Int)/\aT η a h ζ=lL η x0.1 x0.2 (m7 ζ))/\ζ=ζ/\η=η/\aC η.length a (5:Int)=x0.1/\aK h (5:Int)=x0.2
def cX(η:D6)(ζ:Int)(x0:Int×Int):=(bQ η ((bY η (ay η x0.1 x0.2 (m7 ζ))).1,((bY η (ay η x0.1 x0.2 (m7 ζ))).2).2))
def g4(η:D6)(a:Int)(h:Int):=(aT η ((((aT η (aC η.length a (5:Int)) (aK h (5:Int)) (4:Int)).2).2).1) ((((aT η (aC η.length a (5:Int)) (aK h (5:Int)) (4:Int)).2).2).2) (2:Int))
def c8(η:D6)(ζ:Int)(x0:Int×Int):=((bY η (ay η x0.1 x0.2 (m7 ζ))).2)
def fW(η:D6)(a:Int)(h:Int)(ζ:Int):=(dw η (aC η.length a (5:Int)) (aK h (5:Int)) ζ)
def tB(η:D6)(ζ:Int)(x0:Int×Int):=(bD η (aC η.length (((c8 η ζ x0).2).1) (2:Int)) (aK (((c8 η ζ x0).2).2) (2:Int)) (((↑(((bY η (ay η x0.1 x0.2 (m7 ζ))).1).length):Int)-(1:Int)).toNat))
def jf(η:D6)(a:Int)(h:Int):=(aT η (aC η.length a (5:Int)) (aK h (5:Int)) (4:Int))
def mN(η:D6)(ζ:Int)(x0:Int×Int):=(aF ((ay η x0.1 x0.2 (m7 ζ)).1) (aa ((ay η x0.1 x0.2 (m7 ζ)).1)))
def kE(η:D6)(ζ:Int)(x0:Int×Int):=(↑(((bY η (ay η x0.1 x0.2 (m7 ζ))).1).length):Int)
def zG(d:Nat)(η:D6)(a:Int)(h:Int)(ζ:Int):Prop :=
 (((bz η/\(0:Int)<=a/\a<=(1099511627776:Int))/\η=η/\True)/\ab (az η a h (5:Int) == (0:Int)) (((bz η/\η.length<=(4096:Nat)/\(0:Int)<=aC η.length a (5:Int)/\aC η.length a (5:Int)<=(η.length:Int)/\(1:Int)<=ζ/\ζ<=(8:Int))/\η=η/\True)/\((bz η/\(0:Int)<=((fW η a h ζ).2).1/\((fW η a h ζ).2).1<=(1099511627776:Int))/\η=η/\True)/\ab (az η (((dw η (aC η.length a (5:Int)) (aK h (5:Int)) ζ).2).1) (((dw η (aC η.length a (5:Int)) (aK h (5:Int)) ζ).2).2) (2:Int) == (0:Int)) (((((fW η a h ζ).1).length<=(144:Nat)/\∀(x:Nat),x<((fW η a h ζ).1).length->(((fW η a h ζ).1).getD x []).length=((fW η a h ζ).1).length)/\True)/\((fW η a h ζ).1=(aT η a h ζ).1/\eZ (fW η a h ζ).1=((aT η a h ζ).2).1/\True)/\(η=η/\aC η.length (((fW η a h ζ).2).1) (2:Int)=(((aT η a h ζ).2).2).1/\aK (((fW η a h ζ).2).2) (2:Int)=(((aT η a h ζ).2).2).2/\True)/\True) ((aJ (fW η a h ζ).1/\True)/\((fW η a h ζ).1=(aT η a h ζ).1/\(fW η a h ζ).1=((aT η a h ζ).2).1/\True)/\(η=η/\aC η.length (((fW η a h ζ).2).1) (2:Int)=(((aT η a h ζ).2).2).1/\aK (((fW η a h ζ).2).2) (2:Int)=(((aT η a h ζ).2).2).2/\True)/\True)) (ab (az η a h (5:Int) == (1:Int)) ((∃x0:Nat×Int×Int,(x0.1<=(6:Nat)/\(0:Int)<=x0.2.1/\x0.2.1<=(η.length:Int)/\az η a h (5:Int)≠(2:Int)/\aT η a h ζ=kC η ζ ((6:Nat)-x0.1) x0.2.1 x0.2.2)/\ζ=ζ/\(0:Int)=(↑x0.1:Int)/\η=η/\aC η.length a (5:Int)=x0.2.1/\aK h (5:Int)=x0.2.2)/\∀x1:Nat×Int×Int,x1.1<=(6:Nat)/\(0:Int)<=x1.2.1/\x1.2.1<=(η.length:Int)/\az η a h (5:Int)≠(2:Int)/\aT η a h ζ=kC η ζ ((6:Nat)-x1.1) x1.2.1 x1.2.2->ab (decide ((↑x1.1:Int)<(6:Int))) (((bz η/\(0:Int)<=x1.2.1/\x1.2.1<=(1099511627776:Int))/\η=η/\True)/\ae ((1:Int)+az η x1.2.1 x1.2.2 ζ)/\((bz η/\(0:Int)<=aC η.length x1.2.1 ζ/\aC η.length x1.2.1 ζ<=(1099511627776:Int))/\η=η/\True)/\(((1:Int)<=(1:Int)+az η x1.2.1 x1.2.2 ζ/\(1:Int)+az η x1.2.1 x1.2.2 ζ<=(12:Int)/\(0:Int)<=az η (aC η.length x1.2.1 ζ) (aK x1.2.2 ζ) ((1:Int)+az η x1.2.1 x1.2.2 ζ)/\az η (aC η.length x1.2.1 ζ) (aK x1.2.2 ζ) ((1:Int)+az η x1.2.1 x1.2.2 ζ)<=(12:Int))/\True)/\((aJ (af ((1:Int)+az η x1.2.1 x1.2.2 ζ))/\aJ (iG ((1:Int)+az η x1.2.1 x1.2.2 ζ) (az η (aC η.length x1.2.1 ζ) (aK x1.2.2 ζ) ((1:Int)+az η x1.2.1 x1.2.2 ζ))))/\True)/\ab (cg (af ((1:Int)+az η x1.2.1 x1.2.2 ζ)) (iG ((1:Int)+az η x1.2.1 x1.2.2 ζ) (az η (aC η.length x1.2.1 ζ) (aK x1.2.2 ζ) ((1:Int)+az η x1.2.1 x1.2.2 ζ)))) ((af ((1:Int)+az η x1.2.1 x1.2.2 ζ)=(aT η a h ζ).1/\iG ((1:Int)+az η x1.2.1 x1.2.2 ζ) (az η (aC η.length x1.2.1 ζ) (aK x1.2.2 ζ) ((1:Int)+az η x1.2.1 x1.2.2 ζ))=((aT η a h ζ).2).1/\True)/\(η=η/\aC η.length (aC η.length x1.2.1 ζ) ((1:Int)+az η x1.2.1 x1.2.2 ζ)=(((aT η a h ζ).2).2).1/\aK (aK x1.2.2 ζ) ((1:Int)+az η x1.2.1 x1.2.2 ζ)=(((aT η a h ζ).2).2).2/\True)/\True) (ae ((↑x1.1:Int)+(1:Int))/\∃x2:Nat×Int×Int,(x2.1<=(6:Nat)/\(0:Int)<=x2.2.1/\x2.2.1<=(η.length:Int)/\az η a h (5:Int)≠(2:Int)/\aT η a h ζ=kC η ζ ((6:Nat)-x2.1) x2.2.1 x2.2.2)/\(6:Nat)-x2.1<(6:Nat)-x1.1/\ζ=ζ/\(↑x1.1:Int)+(1:Int)=(↑x2.1:Int)/\η=η/\aC η.length (aC η.length x1.2.1 ζ) ((1:Int)+az η x1.2.1 x1.2.2 ζ)=x2.2.1/\aK (aK x1.2.2 ζ) ((1:Int)+az η x1.2.1 x1.2.2 ζ)=x2.2.2)) (∃x3:Int×Int,((0:Int)<=x3.1/\x3.1<=(η.length:Int)/\aT η a h ζ=lL η x3.1 x3.2 (m7 ζ))/\ζ=ζ/\η=η/\x1.2.1=x3.1/\x1.2.2=x3.2)) (ab (az η a h (5:Int) == (2:Int)) (ab (decide ((8:Int)<=ζ)) (((bz η/\η.length<=(4096:Nat)/\(0:Int)<=aC η.length a (5:Int)/\aC η.length a (5:Int)<=(η.length:Int)/\(1:Int)<=(4:Int)/\((4:Int)<=(7:Int)/\(1:Nat)<=d\/(4:Int)<=(8:Int)/\(2:Nat)<=d))/\η=η/\True)/\((bz η/\η.length<=(4096:Nat)/\(0:Int)<=(((jf η a h).2).2).1/\(((jf η a h).2).2).1<=(η.length:Int)/\(1:Int)<=(2:Int)/\((2:Int)<=(7:Int)/\(1:Nat)<=d\/(2:Int)<=(8:Int)/\(2:Nat)<=d))/\η=η/\True)/\((am (((jf η a h).1).length) (jf η a h).1/\am (((g4 η a h).1).length) (g4 η a h).1/\(1:Nat)<=((g4 η a h).1).length/\((jf η a h).1).length<=(144:Nat)/\((g4 η a h).1).length<=(144:Nat))/\True)/\((am ((((jf η a h).2).1).length) (((jf η a h).2).1)/\am ((((g4 η a h).2).1).length) (((g4 η a h).2).1)/\(1:Nat)<=(((g4 η a h).2).1).length/\(((jf η a h).2).1).length<=(144:Nat)/\(((g4 η a h).2).1).length<=(144:Nat))/\True)/\(bj (jf η a h).1 (g4 η a h).1=(aT η a h ζ).1/\bj (((jf η a h).2).1) (((g4 η a h).2).1)=((aT η a h ζ).2).1/\True)/\(η=η/\(((g4 η a h).2).2).1=(((aT η a h ζ).2).2).1/\(((g4 η a h).2).2).2=(((aT η a h ζ).2).2).2/\True)/\True) (zF d η a h ζ)) (zF d η a h ζ))))/\∀x6:Int×Int,((0:Int)<=x6.1/\x6.1<=(η.length:Int)/\aT η a h ζ=lL η x6.1 x6.2 (m7 ζ)->(((bz η/\(0:Int)<=x6.1/\x6.1<=(1099511627776:Int))/\η=η/\True)/\ae ((1:Int)+az η x6.1 x6.2 (if(7:Int)<ζ then(7:Int)else ζ))/\(((1:Int)<=(1:Int)+az η x6.1 x6.2 (if(7:Int)<ζ then(7:Int)else ζ)/\(1:Int)+az η x6.1 x6.2 (if(7:Int)<ζ then(7:Int)else ζ)<=(8:Int))/\True)/\∃x7:Unit,True/\aE ((1:Int)+az η x6.1 x6.2 (if(7:Int)<ζ then(7:Int)else ζ))=aE ((1:Int)+az η x6.1 x6.2 (m7 ζ))/\η=η/\aC η.length x6.1 (if(7:Int)<ζ then(7:Int)else ζ)=aC η.length x6.1 (m7 ζ)/\aK x6.2 (if(7:Int)<ζ then(7:Int)else ζ)=aK x6.2 (m7 ζ))/\∀x8:Unit,(True->(((bz η/\(0:Int)<=aC η.length x6.1 (m7 ζ)/\aC η.length x6.1 (m7 ζ)<=(1099511627776:Int))/\η=η/\True)/\ac (az η (aC η.length x6.1 (m7 ζ)) (aK x6.2 (m7 ζ)) (↑(FC.len (FC.r3 IntKind.i64 (aE ((1:Int)+az η x6.1 x6.2 (m7 ζ))))):Int)) (FC.len (FC.r3 IntKind.i64 (aE ((1:Int)+az η x6.1 x6.2 (m7 ζ)))))/\∃x9:Unit,True/\(aE ((1:Int)+az η x6.1 x6.2 (m7 ζ))).getD ((az η (aC η.length x6.1 (m7 ζ)) (aK x6.2 (m7 ζ)) (↑(FC.len (FC.r3 IntKind.i64 (aE ((1:Int)+az η x6.1 x6.2 (m7 ζ))))):Int)).toNat) ([]:D7)=(ay η x6.1 x6.2 (m7 ζ)).1/\η=η/\aC η.length (aC η.length x6.1 (m7 ζ)) (↑(FC.len (FC.r3 IntKind.i64 (aE ((1:Int)+az η x6.1 x6.2 (m7 ζ))))):Int)=((ay η x6.1 x6.2 (m7 ζ)).2).1/\aK (aK x6.2 (m7 ζ)) (↑(FC.len (FC.r3 IntKind.i64 (aE ((1:Int)+az η x6.1 x6.2 (m7 ζ))))):Int)=((ay η x6.1 x6.2 (m7 ζ)).2).2)/\∀x10:Unit,(True->((bX ((ay η x6.1 x6.2 (m7 ζ)).1)=true/\AuOk (((ay η x6.1 x6.2 (m7 ζ)).1).length) (aa ((ay η x6.1 x6.2 (m7 ζ)).1))/\(aa ((ay η x6.1 x6.2 (m7 ζ)).1)).length<=(100:Nat)/\((ay η x6.1 x6.2 (m7 ζ)).1).length<=(7:Nat))/\List.map List.length ((ay η x6.1 x6.2 (m7 ζ)).1)=List.map List.length ((ay η x6.1 x6.2 (m7 ζ)).1)/\True)/\(((bz η/\(0:Int)<=((ay η x6.1 x6.2 (m7 ζ)).2).1/\((ay η x6.1 x6.2 (m7 ζ)).2).1<=(1099511627776:Int))/\η=η/\True)/\ac (az η (((ay η x6.1 x6.2 (m7 ζ)).2).1) (((ay η x6.1 x6.2 (m7 ζ)).2).2) (↑((mN η ζ x6).length):Int)) (mN η ζ x6).length/\∃x11:Unit,True/\(mN η ζ x6).getD ((az η (((ay η x6.1 x6.2 (m7 ζ)).2).1) (((ay η x6.1 x6.2 (m7 ζ)).2).2) (↑((mN η ζ x6).length):Int)).toNat) ([]:D7)=(c8 η ζ x6).1/\(ay η x6.1 x6.2 (m7 ζ)).1=(bY η (ay η x6.1 x6.2 (m7 ζ))).1/\η=η/\aC η.length (((ay η x6.1 x6.2 (m7 ζ)).2).1) (↑((mN η ζ x6).length):Int)=((c8 η ζ x6).2).1/\aK (((ay η x6.1 x6.2 (m7 ζ)).2).2) (↑((mN η ζ x6).length):Int)=((c8 η ζ x6).2).2)/\∀x12:Unit,True->ab (decide ((1:Int)<(↑(((bY η (ay η x6.1 x6.2 (m7 ζ))).1).length):Int))) (((bz η/\(0:Int)<=((c8 η ζ x6).2).1/\((c8 η ζ x6).2).1<=(1099511627776:Int))/\η=η/\True)/\ab (az η ((((bY η (ay η x6.1 x6.2 (m7 ζ))).2).2).1) ((((bY η (ay η x6.1 x6.2 (m7 ζ))).2).2).2) (2:Int) == (0:Int)) (ae ((kE η ζ x6)-(1:Int))/\((bz η/\(0:Int)<=aC η.length (((c8 η ζ x6).2).1) (2:Int)/\aC η.length (((c8 η ζ x6).2).1) (2:Int)<=(η.length:Int)/\η.length<=(4096:Nat)/\(0:Int)<=(kE η ζ x6)-(1:Int)/\(kE η ζ x6)-(1:Int)<=(144:Int))/\η=η/\True)/\(∃x13:Nat,(x13<=((cX η ζ x6).1).length/\(1:Int)<(kE η ζ x6)/\az η (((c8 η ζ x6).2).1) (((c8 η ζ x6).2).2) (2:Int)=(0:Int))/\(0:Int)=(x13:Int)/\(c8 η ζ x6).1=(c8 η ζ x6).1/\(bY η (ay η x6.1 x6.2 (m7 ζ))).1=(bY η (ay η x6.1 x6.2 (m7 ζ))).1/\[(0:Int)]=bT (List.take x13 (cX η ζ x6).1)/\(tB η ζ x6).1=(cX η ζ x6).1/\η=η/\((tB η ζ x6).2).1=((cX η ζ x6).2).1/\((tB η ζ x6).2).2=((cX η ζ x6).2).2)/\∀x14:Nat,x14<=((cX η ζ x6).1).length/\(1:Int)<(kE η ζ x6)/\az η (((c8 η ζ x6).2).1) (((c8 η ζ x6).2).2) (2:Int)=(0:Int)->ab (decide ((x14:Int)<(↑(((bQ η ((bY η (ay η x6.1 x6.2 (m7 ζ))).1,((bY η (ay η x6.1 x6.2 (m7 ζ))).2).2)).1).length):Int))) (ac (x14:Int) (((cX η ζ x6).1).length)/\ae (((cX η ζ x6).1).getD (x14:Int).toNat (0:Int)+(1:Int))/\au ((bT (List.take x14 (cX η ζ x6).1)).length+[((cX η ζ x6).1).getD (x14:Int).toNat (0:Int)+(1:Int)].length)/\ae ((x14:Int)+(1:Int))/\∃x15:Nat,(x15<=((cX η ζ x6).1).length/\(1:Int)<(kE η ζ x6)/\az η (((c8 η ζ x6).2).1) (((c8 η ζ x6).2).2) (2:Int)=(0:Int))/\((cX η ζ x6).1).length-x15<((cX η ζ x6).1).length-x14/\(x14:Int)+(1:Int)=(x15:Int)/\(c8 η ζ x6).1=(c8 η ζ x6).1/\(bY η (ay η x6.1 x6.2 (m7 ζ))).1=(bY η (ay η x6.1 x6.2 (m7 ζ))).1/\bT (List.take x14 (cX η ζ x6).1)++[((cX η ζ x6).1).getD (x14:Int).toNat (0:Int)+(1:Int)]=bT (List.take x15 (cX η ζ x6).1)/\(cX η ζ x6).1=(cX η ζ x6).1/\η=η/\((cX η ζ x6).2).1=((cX η ζ x6).2).1/\((cX η ζ x6).2).2=((cX η ζ x6).2).2) (((aJ ((bY η (ay η x6.1 x6.2 (m7 ζ))).1)/\((bY η (ay η x6.1 x6.2 (m7 ζ))).1).length<=(144:Nat)/\gp (kE η ζ x6) ((bY η (ay η x6.1 x6.2 (m7 ζ))).1)/\(bT (List.take x14 (cX η ζ x6).1)).length=((bY η (ay η x6.1 x6.2 (m7 ζ))).1).length/\∀(i:Nat),i<(bT (List.take x14 (cX η ζ x6).1)).length->(0:Int)<=(bT (List.take x14 (cX η ζ x6).1)).getD i (0:Int)/\(bT (List.take x14 (cX η ζ x6).1)).getD i (0:Int)<=(kE η ζ x6)-(1:Int))/\True)/\((aJ (c8 η ζ x6).1/\((c8 η ζ x6).1).length<=(144:Nat)/\gp (↑(((c8 η ζ x6).1).length):Int) (c8 η ζ x6).1/\(bT (List.take x14 (cX η ζ x6).1)).length=((c8 η ζ x6).1).length/\∀(i:Nat),i<(bT (List.take x14 (cX η ζ x6).1)).length->(0:Int)<=(bT (List.take x14 (cX η ζ x6).1)).getD i (0:Int)/\(bT (List.take x14 (cX η ζ x6).1)).getD i (0:Int)<=(↑(((c8 η ζ x6).1).length):Int)-(1:Int))/\True)/\(bt ((bY η (ay η x6.1 x6.2 (m7 ζ))).1) (bT (List.take x14 (cX η ζ x6).1)) (((bY η (ay η x6.1 x6.2 (m7 ζ))).1).length)=(aT η a h ζ).1/\bt (c8 η ζ x6).1 (bT (List.take x14 (cX η ζ x6).1)) (((c8 η ζ x6).1).length)=((aT η a h ζ).2).1/\True)/\(η=η/\((cX η ζ x6).2).1=(((aT η a h ζ).2).2).1/\((cX η ζ x6).2).2=(((aT η a h ζ).2).2).2/\True)/\True)) (((bY η (ay η x6.1 x6.2 (m7 ζ))).1=(aT η a h ζ).1/\(c8 η ζ x6).1=((aT η a h ζ).2).1/\True)/\(η=η/\aC η.length (((c8 η ζ x6).2).1) (2:Int)=(((aT η a h ζ).2).2).1/\aK (((c8 η ζ x6).2).2) (2:Int)=(((aT η a h ζ).2).2).2/\True)/\True)) (((bY η (ay η x6.1 x6.2 (m7 ζ))).1=(aT η a h ζ).1/\(c8 η ζ x6).1=((aT η a h ζ).2).1/\True)/\(η=η/\((c8 η ζ x6).2).1=(((aT η a h ζ).2).2).1/\((c8 η ζ x6).2).2=(((aT η a h ζ).2).2).2/\True)/\True))))
def U9(d:Nat)(η:D6)(a:Int)(h:Int)(ζ:Int):aP Tryz.prog (ah (LD d)) LC (LB (d+1) η a h ζ) Tryz.f150 (aI Tryz.f150) [(0,0)] [.box [.ints .u8 η,.int .i64 a,.int .u64 h],.c (.int .i64 ζ)] (oD (d+1) η a h ζ)=zG d η a h ζ:=by kernel_rfl
def Va(d:Nat)(η:D6)(a:Int)(h:Int)(ζ:Int)(ξ:(oD (d+1) η a h ζ).pre):zG d η a h ζ:=by
 simp only[oD,zG,zF,cX,g4,c8,fW,tB,jf,mN,kE,aO]at ξ⊢;simp only[FC.len];obtain⟨hb,hc,h0,h1,h2,hd⟩:=ξ;have h3:ζ<=8:=by omega
 obtain⟨m1,m2,m3⟩:=zC h2;have s:=dS (n:=5) h0 h1
 refine⟨⟨⟨hb,h0,by omega⟩,λz=>?_,λz=>⟨λz2=>⟨⟨⟨0,aC η.length a 5,aK h 5⟩,⟨by dsimp only;omega,s.1,s.2,by omega,?_⟩,rfl,rfl,rfl⟩,λ⟨i,b,g⟩ ⟨i1,i2,i3,i5,i4⟩=>?_⟩,λz2=>⟨λz3=>⟨λy=>?_,λy=>⟨⟨aC η.length a 5,aK h 5⟩,⟨s.1,s.2,?_⟩,rfl,rfl⟩⟩,λz3=>⟨⟨aC η.length a 5,aK h 5⟩,⟨s.1,s.2,?_⟩,rfl,rfl⟩⟩⟩⟩,λ⟨b,g⟩ ⟨b1,b2,b3⟩=>?_⟩
 ·obtain⟨K,_⟩:=oA hb (h:=aK h 5) s.1 s.2 h2 h3
  obtain⟨k1,k2,k3,k4,k5⟩:=zt hb K;have e:aT η a h ζ=tw η (dw η (aC η.length a 5) (aK h 5) ζ):=(oC (.inr (by omega))).trans (AA z)
  have e2:jd η (ay η (aC η.length a 5) (aK h 5) ζ)=dw η (aC η.length a 5) (aK h 5) ζ:=rfl
  rw[e2]at k1 k2 k3 k4 k5;rw[e];generalize dw η (aC η.length a 5) (aK h 5) ζ=d at *
  refine⟨⟨hb,hc,s.1,s.2,h2,h3⟩,⟨hb,k4,by omega⟩,λy=>⟨⟨by omega,λx hx=>(k3.2 x hx).1⟩,⟨rfl,?_⟩,rfl,rfl⟩,λy=>⟨oS (jO k3) (by omega),⟨rfl,?_⟩,rfl,rfl⟩⟩
  ·unfold tw;rw[AA y]
  ·unfold tw;rw[AB y]
 ·dsimp only;rw[oC (.inr (by omega)),kD,if_neg z,if_pos z2]
 ·dsimp only at i1 i2 i3 i4⊢
  refine⟨λhi=>?_,λhi=>⟨⟨b,g⟩,⟨i2,i3,?_⟩,rfl,rfl⟩⟩
  ·obtain⟨r1,r2,r3,r4,r5,r6⟩:=Lx hb (h:=g) i2 i3 h2
   have s2:=dS (n:=ζ) i2 i3
   have e1:1+az η b g ζ=fa η ζ b g:=rfl
   rw[e1];have e2:az η (aC η.length b ζ) (aK g ζ) (fa η ζ b g)=ql η ζ b g:=rfl
   have e3:aC η.length (aC η.length b ζ) (fa η ζ b g)=oB η ζ b g:=rfl
   have e4:aK (aK g ζ) (fa η ζ b g)=tz η ζ b g:=rfl
   rw[e2,e3,e4];have L:=mS r1
   have T1:=qt r1
   have T2:=Lq r1 r3
   rw[show 6-i=(5-i)+1 by omega,kC]at i4
   refine⟨⟨hb,i2,by omega⟩,by omega,⟨hb,s2.1,by omega⟩,⟨r1,by omega,r3,by omega⟩,⟨oS (jO T1) (by omega),oS (jO T2) (by omega)⟩,λy=>?_,λy=>⟨by omega,⟨i+1,oB η ζ b g,tz η ζ b g⟩,⟨by dsimp only;omega,r5,r6,i5,?_⟩,by dsimp only;omega,by dsimp only;omega,rfl,rfl⟩⟩
   ·rw[AA y]at i4;rw[i4];exact⟨⟨rfl,rfl⟩,rfl,rfl⟩
   ·rw[if_neg (by rw[y];simp)]at i4;dsimp only;rw[i4,show 6-(i+1)=5-i by omega]
  ·dsimp only;rw[i4,show 6-i=0 by omega];rfl
 ·obtain⟨A,B,_⟩:=Lz hb (h:=aK h 5) s.1 s.2
  have e1:aT η (aC η.length a 5) (aK h 5) 4=gJ η (aC η.length a 5) (aK h 5):=oC (.inl (by omega))
  rw[e1];have e2:aT η (gJ η (aC η.length a 5) (aK h 5)).2.2.1 (gJ η (aC η.length a 5) (aK h 5)).2.2.2 2=je η (aC η.length a 5) (aK h 5):=oC (.inl (by omega))
  rw[e2];have e3:aT η a h ζ=tA η (aC η.length a 5) (aK h 5):=AA ⟨z3,y⟩
  rw[e3];obtain⟨a1,a2,a3,a4,a5,a6⟩:=A;obtain⟨b1,b2,b3,b4,b5,b6⟩:=B;have al:=a4.1
  have bl:=b4.1
  have a4':am (gJ η (aC η.length a 5) (aK h 5)).2.1.length (gJ η (aC η.length a 5) (aK h 5)).2.1:=by rw[al];exact a4
  have b4':am (je η (aC η.length a 5) (aK h 5)).2.1.length (je η (aC η.length a 5) (aK h 5)).2.1:=by rw[bl];exact b4
  exact⟨⟨hb,hc,s.1,s.2,by omega,by omega⟩,⟨hb,hc,a5,a6,by omega,by omega⟩,⟨a3,b3,b1,by omega,by omega⟩,⟨a4',b4',by omega,by omega,by omega⟩,⟨rfl,rfl⟩,rfl,rfl⟩
 ·dsimp only;rw[oC (.inl (by omega)),kD,if_neg z,if_neg z2]
 ·dsimp only;rw[oC (.inr z3),kD,if_neg z,if_neg z2]
 ·dsimp only at b1 b2 b3⊢
  have hm:(if 7<ζ then 7 else ζ)=m7 ζ:=rfl
  rw[hm];generalize m7 ζ=mm at *
  have v:=gL hb b g m1
  have sb:=dS (n:=mm) b1 b2
  obtain⟨K,mem,ep,w2⟩:=oA hb (h:=g) b1 b2 m1 (by omega)
  refine⟨⟨⟨hb,b1,by omega⟩,by omega,by omega,⟨⟩,rfl,rfl,rfl⟩,λ_ _=>⟨⟨⟨hb,sb.1,by omega⟩,⟨ep,w2⟩,⟨⟩,rfl,rfl,rfl⟩,λ_ _=>?_⟩⟩
  have D:=Lv hb (n:=1+az η b g mm) (by omega) (by omega) mem K (by omega)
  have bF:lL η b g mm=jP η (bY η (ay η b g mm)):=rfl
  rw[b3,bF];generalize ay η b g mm=d at *
  obtain⟨k1,k2,k3,k4,k5⟩:=K;obtain⟨D0,D1,D2,D3,D4⟩:=D;refine⟨⟨D2,D3,D4,by omega⟩,⟨⟨hb,k4,by omega⟩,D1,⟨⟩,rfl,rfl,rfl,rfl⟩,λ_ _=>?_⟩
  generalize bY η d=x at *
  have P:=te hb (Lu D0)
  obtain⟨x1,x2,x3,x4,x5,x6⟩:=D0;have sx:=dS (n:=2) x5 x6
  refine⟨λz=>⟨⟨hb,x5,by omega⟩,λy=>⟨by omega,⟨hb,sx.1,sx.2,hc,by omega,by omega⟩,⟨0,⟨by omega,z,y⟩,rfl,rfl,rfl,rfl,rfl⟩,λi ⟨hi,_,_⟩=>⟨λgi=>?_,λgi=>?_⟩⟩,λy=>?_⟩,λz=>?_⟩
  ·have:=P.1.2 i (by omega)
   have pl:=P.1.1
   dsimp only at pl;refine⟨by omega,by omega,by simp[bT];omega,by omega,i+1,⟨by omega,z,y⟩,by omega,by omega,Lh (by omega)⟩
  ·rw[AU (by omega)]
   obtain⟨q1,q2⟩:=td P.1.1 P.1.2;dsimp only at q1 q2;have R:jP η x=(bt x.1 (bT (bQ η (x.1,x.2.2)).1) x.1.length,bt x.2.1 (bT (bQ η (x.1,x.2.2)).1) x.2.1.length,(bQ η (x.1,x.2.2)).2):=by unfold jP;rw[AA z,AA y]
   rw[R];have xl:=x4.1
   have T4:am x.2.1.length x.2.1:=by rw[xl];exact x4
   refine⟨⟨oS (jO x3) (by omega),by omega,jO x3,q1,q2⟩,⟨oS (jO x4) (by omega),by omega,jO T4,by omega,by rw[xl];exact q2⟩,⟨rfl,rfl⟩,rfl,rfl⟩
  ·have R:jP η x=(x.1,x.2.1,aC η.length x.2.2.1 2,aK x.2.2.2 2):=by unfold jP;rw[AA z,AB y]
   rw[R];exact⟨⟨rfl,rfl⟩,rfl,rfl⟩
  ·have R:jP η x=x:=by unfold jP;rw[AB z]
   rw[R];exact⟨⟨rfl,rfl⟩,rfl,rfl⟩
def Vb(η:D6)(a:Int)(h:Int)(ζ:Int)(h:(oD 0 η a h ζ).pre):False:=by
 simp only[oD]at h;omega
def Vc(d:Nat):Fits Tryz.prog 150 ⟨[(0,0)],qm d⟩:=by
 induction d with
 |zero =>
  refine yM ⟨Tryz.f150,Tryz.func150,by kernel_rfl,by kernel_rfl⟩ (by decide) λds p h hp=>?_
  unfold qm at h;split at h
  ·cases h
   exact Vb _ _ _ _  hp
  ·cases h
 |succ d ih =>
  refine qe (Γ:=ah (LD d)) (aq oQ (aq Ll (aq U3 (aq HN (aq U7 (aq Lg (aq E6 (aq Xk (aq NU (aq FK (aq QC (aq ih aN)))))))))))) Tryz.func150 (by kernel_rfl) (by kernel_rfl) (by kernel_rfl) λds p h hp=>?_
  unfold qm at h;split at h
  ·cases h
   exact⟨LC,LB _ _ _ _ _ ,by rw[U9];exact Va _ _ _ _ _  hp⟩
  ·cases h
end Go.Sx
