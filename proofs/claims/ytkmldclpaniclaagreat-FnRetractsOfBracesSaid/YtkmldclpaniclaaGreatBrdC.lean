/- BrdC -/
import Derived.Test.YtkmldclpaniclaaGreatBrdB
set_option linter.unusedSimpArgs false
set_option linter.unusedVariables false
set_option linter.defProp false
open Go Go.Proofs
namespace Go.Sx
abbrev Bd:=Dc×Dc×Int×Int
def sr(η:Db)(d:Dr):Bd:=(d.1,if aB η d.2.1 d.2.2 2=0 then eK d.1 else d.1,az η.length d.2.1 2,aJ d.2.2 2)
def eM(η:Db)(ζ a h:Int):Int:=1+aB η a h ζ
def pE(η:Db)(ζ a h:Int):Int:=aB η (az η.length a ζ) (aJ h ζ) (eM η ζ a h)
def nR(η:Db)(ζ a h:Int):Int:=az η.length (az η.length a ζ) (eM η ζ a h)
def ss(η:Db)(ζ a h:Int):Int:=aJ (aJ h ζ) (eM η ζ a h)
def bU(η:Db)(d:Dr):Bd:=(d.1,(gA d.1 (cJ d.1)).getD (aB η d.2.1 d.2.2 ((gA d.1 (cJ d.1)).length:Int)).toNat [],az η.length d.2.1 ((gA d.1 (cJ d.1)).length:Int),aJ d.2.2 ((gA d.1 (cJ d.1)).length:Int))
def jD(η:Db)(b:Bd):Bd :=
 if 1<(b.1.length:Int)then
  if aB η b.2.2.1 b.2.2.2 2=0 then(cW b.1 (bL (bH η (b.1,b.2.2)).1) b.1.length,cW b.2.1 (bL (bH η (b.1,b.2.2)).1) b.2.1.length,(bH η (b.1,b.2.2)).2)else(b.1,b.2.1,az η.length b.2.2.1 2,aJ b.2.2.2 2)
 else b
def lp(η:Db)(a h ζ:Int):Bd:=jD η (bU η (au η a h ζ))
def m7(ζ:Int):Int:=if 7<ζ then 7 else ζ
def kr(η:Db)(ζ:Int):Nat->Int->Int->Bd
 |0,a,h=>lp η a h (m7 ζ)
 |j+1,a,h=>if bM (aA (eM η ζ a h)) (ir (eM η ζ a h) (pE η ζ a h))=true then(aA (eM η ζ a h),ir (eM η ζ a h) (pE η ζ a h),nR η ζ a h,ss η ζ a h)else kr η ζ j (nR η ζ a h) (ss η ζ a h)
def kt(η:Db)(a h ζ:Int):Bd :=
 if aB η a h 5=0 then sr η (dB η (az η.length a 5) (aJ h 5) ζ)
 else if aB η a h 5=1 then kr η ζ 6 (az η.length a 5) (aJ h 5)
 else lp η (az η.length a 5) (aJ h 5) (m7 ζ)
def gx(η:Db)(a h:Int):Bd:=kt η a h 4
def i7(η:Db)(a h:Int):Bd:=kt η (gx η a h).2.2.1 (gx η a h).2.2.2 2
def su(η:Db)(a h:Int):Bd:=(cd (gx η a h).1 (i7 η a h).1,cd (gx η a h).2.1 (i7 η a h).2.1,(i7 η a h).2.2)
def aO(η:Db)(a h ζ:Int):Bd :=
 if aB η a h 5=2/\8<=ζ then su η (az η.length a 5) (aJ h 5)else kt η a h ζ
def fI(η:Db)(m:Nat)(b:Bd):Prop:=1<=b.1.length/\b.1.length<=m/\ba b.1.length b.1/\ba b.1.length b.2.1/\0<=b.2.2.1/\b.2.2.1<=(η.length:Int)
theorem JG{η:Db}{m:Nat}{b:Bd}(h:fI η m b):nP η m (b.1,b.2.2):=⟨h.1,h.2.1,h.2.2.1,h.2.2.2.2⟩
theorem JH{η:Db}(hb:bG η){n:Int}(h1:1<=n)(h2:n<=7){m:Nat}{d:Dr}(hd:d.1∈cF n)(hg:nP η m d)(hm:m<=12):fI η m (bU η d)/\(0<=aB η d.2.1 d.2.2 ((gA d.1 (cJ d.1)).length:Int)/\aB η d.2.1 d.2.2 ((gA d.1 (cJ d.1)).length:Int)<((gA d.1 (cJ d.1)).length:Int)) /\
  aM d.1=true/\AuOk d.1.length (cJ d.1)/\(cJ d.1).length<=100:=by
 obtain⟨q1,q2,q3,q4,q5,q6⟩:=Sz h1 h2 hd;obtain⟨a1,a2,a3,a4,a5⟩:=hg;obtain⟨c1,c2⟩:=S7 q3 a1 (by omega) q4 q6
 have v:=iv hb d.2.1 d.2.2 (n:=((gA d.1 (cJ d.1)).length:Int)) (by omega)
 have s:=dN (n:=((gA d.1 (cJ d.1)).length:Int)) a4 a5
 refine⟨⟨a1,a2,a3,c2 _ (cU _ [] _ (by omega)),s.1,s.2⟩,⟨v.1,by omega⟩,q2,q4,q5⟩
theorem Sj{η:Db}(hb:bG η){m:Nat}{b:Bd}(h:fI η m b):fI η m (jD η b):=by
 have P:=sh hb (JG h)
 obtain⟨a1,a2,a3,a4,a5,a6⟩:=h;have s:=dN (n:=2) a5 a6
 unfold jD;split
 ·split
  ·obtain⟨q1,q2⟩:=sg P.1.1 P.1.2
   have T:=yI a3 rfl q1 q2
   have U:=yI a4 a4.1 q1 q2
   refine⟨?_,?_,?_,?_,P.2.1,P.2.2⟩
   ·show 1<=(cW b.1 (bL (bH η (b.1,b.2.2)).1) b.1.length).length;rw[T.1];exact a1
   ·show(cW b.1 (bL (bH η (b.1,b.2.2)).1) b.1.length).length<=m;rw[T.1];exact a2
   ·show ba (cW b.1 (bL (bH η (b.1,b.2.2)).1) b.1.length).length _;rw[T.1];exact T
   ·show ba (cW b.1 (bL (bH η (b.1,b.2.2)).1) b.1.length).length _;rw[T.1];exact U
  ·exact⟨a1,a2,a3,a4,s.1,s.2⟩
 ·exact⟨a1,a2,a3,a4,a5,a6⟩
theorem yR{ζ:Int}(h2:1<=ζ):1<=m7 ζ/\m7 ζ<=7/\m7 ζ<=ζ:=by unfold m7;split<;>omega
theorem yS{η:Db}{m k:Nat}{b:Bd}(h:fI η m b)(hk:m<=k):fI η k b:=⟨h.1,An h.2.1 hk,h.2.2⟩
theorem JI{η:Db}(hb:bG η){a h ζ:Int}(h0:0<=a)(h1:a<=(η.length:Int))(h2:1<=ζ)(h3:ζ<=7):fI η ζ.toNat (lp η a h ζ):=by
 have v:=iv hb a h h2
 obtain⟨K,m,_⟩:=nQ hb (h:=h) h0 h1 h2 (by omega)
 exact Sj hb (JH hb (by omega) (by omega) m K (by omega)).1
theorem JJ{η:Db}(hb:bG η){a h ζ:Int}(h0:0<=a)(h1:a<=(η.length:Int))(h2:1<=ζ):1<=eM η ζ a h/\eM η ζ a h<=ζ/\0<=pE η ζ a h/\pE η ζ a h<=eM η ζ a h-1/\0<=nR η ζ a h/\nR η ζ a h<=(η.length:Int):=by
 have v:=iv hb a h h2
 have n1:1<=eM η ζ a h/\eM η ζ a h<=ζ:=by unfold eM;omega
 have s:=dN (n:=ζ) h0 h1
 have w:=iv hb (az η.length a ζ) (aJ h ζ) n1.1
 have s2:=dN (n:=eM η ζ a h) s.1 s.2
 exact⟨n1.1,n1.2,w.1,w.2,s2.1,s2.2⟩
theorem JK{η:Db}(hb:bG η){ζ:Int}(h2:1<=ζ):∀(j:Nat) (a h:Int),0<=a->a<=(η.length:Int)->fI η ζ.toNat (kr η ζ j a h)
 |0,a,h,h0,h1=>by
  have m:=yR h2
  exact yS (JI hb h0 h1 m.1 m.2.1) (by omega)
 |j+1,a,h,h0,h1=>by
  obtain⟨r1,r2,r3,r4,r5,r6⟩:=JJ hb (h:=h) h0 h1 h2;have e:=lq r1
  rw[kr];split
  ·exact⟨by show 1<=(aA (eM η ζ a h)).length;omega,by show(aA (eM η ζ a h)).length<=ζ.toNat;omega,nV r1,JD r1 r3,r5,r6⟩
  ·exact JK hb h2 j _ _ r5 r6
theorem yT{η:Db}(hb:bG η){a h ζ:Int}(h0:0<=a)(h1:a<=(η.length:Int))(h2:1<=ζ)(h3:ζ<=12):fI η ζ.toNat (kt η a h ζ):=by
 have s:=dN (n:=5) h0 h1
 have m:=yR h2
 unfold kt;split
 ·obtain⟨K,_⟩:=nQ hb (h:=aJ h 5) s.1 s.2 h2 h3
  obtain⟨k1,k2,k3,k4,k5⟩:=yJ hb K;have s2:=dN (n:=2) k4 k5
  refine⟨k1,k2,k3,?_,s2.1,s2.2⟩
  show ba _ (if _ then _ else _)
  split
  ·exact Sf k3
  ·exact k3
 ·split
  ·exact JK hb h2 6 _ _ s.1 s.2
  ·exact yS (JI hb s.1 s.2 m.1 m.2.1) (by omega)
theorem JL{η:Db}(hb:bG η){a h:Int}(h0:0<=a)(h1:a<=(η.length:Int)):fI η 4 (gx η a h)/\fI η 2 (i7 η a h)/\fI η 8 (su η a h):=by
 have A:fI η 4 (gx η a h):=yT hb h0 h1 (by omega) (by omega)
 have B:fI η 2 (i7 η a h):=yT hb A.2.2.2.2.1 A.2.2.2.2.2 (by omega) (by omega)
 refine⟨A,B,?_⟩
 obtain⟨a1,a2,a3,a4,a5,a6⟩:=A;obtain⟨b1,b2,b3,b4,b5,b6⟩:=B;have a4':ba (gx η a h).2.1.length (gx η a h).2.1:=by rw[a4.1];exact a4
 have b4':ba (i7 η a h).2.1.length (i7 η a h).2.1:=by rw[b4.1];exact b4
 have T:=Mx a3 b3 b1
 have U:=Mx a4' b4' (by rw[b4.1];exact b1)
 rw[a4.1,b4.1]at U;have p:=BO a2 b2
 have q:=BO a1 b1
 have L:(su η a h).1.length=(gx η a h).1.length*(i7 η a h).1.length:=T.1
 refine⟨by rw[L];exact q,by rw[L];exact p,by rw[L];exact T,by rw[L];exact U,b5,b6⟩
theorem JM{η:Db}(hb:bG η){a h ζ:Int}(h0:0<=a)(h1:a<=(η.length:Int))(h2:1<=ζ)(h3:ζ<=12):fI η ζ.toNat (aO η a h ζ):=by
 have s:=dN (n:=5) h0 h1
 unfold aO;split
 ·exact yS (JL hb s.1 s.2).2.2 (by omega)
 ·exact yT hb h0 h1 h2 h3
theorem nS{η:Db}{a h ζ:Int}(h2:ζ<8\/aB η a h 5≠2):aO η a h ζ=kt η a h ζ:=AB (by omega)
def nU(d:Nat)(η:Db)(a:Int)(h:Int)(ζ:Int):Post:=⟨bG η/\η.length<=4096/\0<=a/\a<=(η.length:Int)/\1<=ζ/\(ζ<=7/\1<=d\/ζ<=12/\2<=d),.agg [.rows 62 2 .i64 (aO η a h ζ).1,.ro (.rows .i64 ((aO η a h ζ).2.1))],[.bx [.ints .u8 η,.int .i64 ((aO η a h ζ).2.2.1),.int .u64 ((aO η a h ζ).2.2.2)]]⟩
def pF(d:Nat):List AD->Option Post
 | [.box [.ints .u8 η,.int .i64 a,.int .u64 h],.c (.int .i64 ζ)]=>some (nU d η a h ζ)
 |_=>none
def JN(d:Nat)(η:Db)(a:Int)(h:Int)(ζ:Int):Nat->Option Ann
 |1=>some (Ann.mk ((Nat)×(Int)×(Int)) (fun x=>match x with|(i,b,g)=>⟨[(0,N' 700),(1,D' ζ),(4,N' 4),(6,D' i)],[(4,T' [.nil,.nil]),(700,T' [.orig 700 0 (.ints .u8 η),.int .i64 b,.int .u64 g])]⟩) (fun x=>match x with|(i,b,g)=>i<=6/\0<=b/\b<=(η.length:Int)/\aB η a h 5≠2/\aO η a h ζ=kr η ζ (6-i) b g) (fun x=>match x with|(i,b,g)=>6-i) (fun _=>ak))
 |1019=>some (Ann.mk ((Int)×(Int)) (fun x=>match x with|(b,g)=>⟨[(0,N' 700),(1,D' ζ),(4,N' 4)],[(4,T' [.nil,.nil]),(700,T' [.orig 700 0 (.ints .u8 η),.int .i64 b,.int .u64 g])]⟩) (fun x=>match x with|(b,g)=>0<=b/\b<=(η.length:Int)/\aO η a h ζ=lp η b g (m7 ζ)) (fun x=>match x with|(b,g)=>0) (fun x=>match x with|(b,g)=>fun b_=>match b_ with|1020=>some (Ann.mk ((Unit)) (fun u=>⟨[(0,N' 700),(4,N' 4),(11,M' 11)],[(4,T' [.nil,.nil]),(11,some (.tr 0 [22,62,2] (.r3 .i64 ((cF (1+aB η b g (m7 ζ))))))),(700,T' [.orig 700 0 (.ints .u8 η),.int .i64 (az η.length b (m7 ζ)),.int .u64 (aJ g (m7 ζ))])]⟩) (fun u=>True) (fun u=>0) (fun u=>fun b_=>match b_ with|1021=>some (Ann.mk ((Unit)) (fun u=>⟨[(0,N' 700),(4,N' 4),(12,M' 12)],[(4,T' [.nil,.nil]),(12,O' (((au η b g (m7 ζ)).1))),(700,T' [.orig 700 0 (.ints .u8 η),.int .i64 ((au η b g (m7 ζ)).2.1),.int .u64 ((au η b g (m7 ζ)).2.2)])]⟩) (fun u=>True) (fun u=>0) (fun u=>fun b_=>match b_ with|1023=>some (Ann.mk ((Unit)) (fun u=>⟨[(0,N' 700),(4,N' 4),(12,M' 114),(14,N' 14)],[(4,T' [.nil,.nil]),(14,T' [.own 114,.ro (.rows .i64 ((bU η (au η b g (m7 ζ))).2.1))]),(114,O' (((bU η (au η b g (m7 ζ))).1))),(700,T' [.orig 700 0 (.ints .u8 η),.int .i64 ((bU η (au η b g (m7 ζ))).2.2.1),.int .u64 ((bU η (au η b g (m7 ζ))).2.2.2)])]⟩) (fun u=>True) (fun u=>0) (fun u=>fun b_=>match b_ with|3=>U' fun i=>⟨⟨[(0,N' 700),(4,N' 4),(14,N' 14),(16,M' 16),(17,M' 17),(18,D' i)],[(4,T' [.nil,.nil]),(14,T' [.own 114,.ro (.rows .i64 ((bU η (au η b g (m7 ζ))).2.1))]),(114,O' (((bU η (au η b g (m7 ζ))).1))),(16,Q' ((bL ((bH η ((bU η (au η b g (m7 ζ))).1,(bU η (au η b g (m7 ζ))).2.2)).1.take i)))),(17,Q' (((bH η ((bU η (au η b g (m7 ζ))).1,(bU η (au η b g (m7 ζ))).2.2)).1))),(700,T' [.orig 700 0 (.ints .u8 η),.int .i64 ((bH η ((bU η (au η b g (m7 ζ))).1,(bU η (au η b g (m7 ζ))).2.2)).2.1),.int .u64 ((bH η ((bU η (au η b g (m7 ζ))).1,(bU η (au η b g (m7 ζ))).2.2)).2.2)])]⟩,i<=(bH η ((bU η (au η b g (m7 ζ))).1,(bU η (au η b g (m7 ζ))).2.2)).1.length/\1<((bU η (au η b g (m7 ζ))).1.length:Int)/\aB η (bU η (au η b g (m7 ζ))).2.2.1 (bU η (au η b g (m7 ζ))).2.2.2 2=0,(bH η ((bU η (au η b g (m7 ζ))).1,(bU η (au η b g (m7 ζ))).2.2)).1.length-i⟩|_=>none))|_=>none))|_=>none))|_=>none))
 |_=>none
def JO(t:Nat):Bool:=[3000086].contains t
def JP(d:Nat):List (Nat×Ctr):=[(77,⟨[(0,0)],nY⟩),(151,⟨[(0,0)],sj⟩),(209,⟨[],yN⟩),(96,⟨[],uP⟩),(210,⟨[],yP⟩),(61,⟨[],sc⟩),(126,⟨[],sB⟩),(86,⟨[(0,0)],y8⟩),(183,⟨[(0,0)],sI⟩),(143,⟨[],sK⟩),(168,⟨[],ux⟩),(150,⟨[(0,0)],pF d⟩)]
def yU(d:Nat)(η:Db)(a:Int)(h:Int)(ζ:Int):Prop :=
 ∃x0:Int×Int,((0:Int)<=x0.1/\x0.1<=(η.length:Int)/\aO η a h ζ=lp η x0.1 x0.2 (m7 ζ))/\ζ=ζ/\η=η/\az η.length a (5:Int)=x0.1/\aJ h (5:Int)=x0.2
def cO(η:Db)(ζ:Int)(x0:Int×Int):=(bH η ((bU η (au η x0.1 x0.2 (m7 ζ))).1,((bU η (au η x0.1 x0.2 (m7 ζ))).2).2))
def gT(η:Db)(a:Int)(h:Int):=(aO η ((((aO η (az η.length a (5:Int)) (aJ h (5:Int)) (4:Int)).2).2).1) ((((aO η (az η.length a (5:Int)) (aJ h (5:Int)) (4:Int)).2).2).2) (2:Int))
def cV(η:Db)(ζ:Int)(x0:Int×Int):=((bU η (au η x0.1 x0.2 (m7 ζ))).2)
def fJ(η:Db)(a:Int)(h:Int)(ζ:Int):=(dB η (az η.length a (5:Int)) (aJ h (5:Int)) ζ)
def sw(η:Db)(ζ:Int)(x0:Int×Int):=(bw η (az η.length (((cV η ζ x0).2).1) (2:Int)) (aJ (((cV η ζ x0).2).2) (2:Int)) (((↑(((bU η (au η x0.1 x0.2 (m7 ζ))).1).length):Int)-(1:Int)).toNat))
def i8(η:Db)(a:Int)(h:Int):=(aO η (az η.length a (5:Int)) (aJ h (5:Int)) (4:Int))
def mi(η:Db)(ζ:Int)(x0:Int×Int):=(gA ((au η x0.1 x0.2 (m7 ζ)).1) (cJ ((au η x0.1 x0.2 (m7 ζ)).1)))
def ku(η:Db)(ζ:Int)(x0:Int×Int):=(↑(((bU η (au η x0.1 x0.2 (m7 ζ))).1).length):Int)
def yV(d:Nat)(η:Db)(a:Int)(h:Int)(ζ:Int):Prop :=
 (((bG η/\(0:Int)<=a/\a<=(1099511627776:Int))/\η=η/\True)/\ab (aB η a h (5:Int) == (0:Int)) (((bG η/\η.length<=(4096:Nat)/\(0:Int)<=az η.length a (5:Int)/\az η.length a (5:Int)<=(η.length:Int)/\(1:Int)<=ζ/\ζ<=(12:Int))/\η=η/\True)/\((bG η/\(0:Int)<=((fJ η a h ζ).2).1/\((fJ η a h ζ).2).1<=(1099511627776:Int))/\η=η/\True)/\ab (aB η (((dB η (az η.length a (5:Int)) (aJ h (5:Int)) ζ).2).1) (((dB η (az η.length a (5:Int)) (aJ h (5:Int)) ζ).2).2) (2:Int) == (0:Int)) (((((fJ η a h ζ).1).length<=(144:Nat)/\∀(x:Nat),x<((fJ η a h ζ).1).length->(((fJ η a h ζ).1).getD x []).length=((fJ η a h ζ).1).length)/\True)/\((fJ η a h ζ).1=(aO η a h ζ).1/\eK (fJ η a h ζ).1=((aO η a h ζ).2).1/\True)/\(η=η/\az η.length (((fJ η a h ζ).2).1) (2:Int)=(((aO η a h ζ).2).2).1/\aJ (((fJ η a h ζ).2).2) (2:Int)=(((aO η a h ζ).2).2).2/\True)/\True) ((aD (fJ η a h ζ).1/\True)/\((fJ η a h ζ).1=(aO η a h ζ).1/\(fJ η a h ζ).1=((aO η a h ζ).2).1/\True)/\(η=η/\az η.length (((fJ η a h ζ).2).1) (2:Int)=(((aO η a h ζ).2).2).1/\aJ (((fJ η a h ζ).2).2) (2:Int)=(((aO η a h ζ).2).2).2/\True)/\True)) (ab (aB η a h (5:Int) == (1:Int)) ((∃x0:Nat×Int×Int,(x0.1<=(6:Nat)/\(0:Int)<=x0.2.1/\x0.2.1<=(η.length:Int)/\aB η a h (5:Int)≠(2:Int)/\aO η a h ζ=kr η ζ ((6:Nat)-x0.1) x0.2.1 x0.2.2)/\ζ=ζ/\(0:Int)=(↑x0.1:Int)/\η=η/\az η.length a (5:Int)=x0.2.1/\aJ h (5:Int)=x0.2.2)/\∀x1:Nat×Int×Int,x1.1<=(6:Nat)/\(0:Int)<=x1.2.1/\x1.2.1<=(η.length:Int)/\aB η a h (5:Int)≠(2:Int)/\aO η a h ζ=kr η ζ ((6:Nat)-x1.1) x1.2.1 x1.2.2->ab (decide ((↑x1.1:Int)<(6:Int))) (((bG η/\(0:Int)<=x1.2.1/\x1.2.1<=(1099511627776:Int))/\η=η/\True)/\ae ((1:Int)+aB η x1.2.1 x1.2.2 ζ)/\((bG η/\(0:Int)<=az η.length x1.2.1 ζ/\az η.length x1.2.1 ζ<=(1099511627776:Int))/\η=η/\True)/\(((1:Int)<=(1:Int)+aB η x1.2.1 x1.2.2 ζ/\(1:Int)+aB η x1.2.1 x1.2.2 ζ<=(12:Int)/\(0:Int)<=aB η (az η.length x1.2.1 ζ) (aJ x1.2.2 ζ) ((1:Int)+aB η x1.2.1 x1.2.2 ζ)/\aB η (az η.length x1.2.1 ζ) (aJ x1.2.2 ζ) ((1:Int)+aB η x1.2.1 x1.2.2 ζ)<=(12:Int))/\True)/\((aD (aA ((1:Int)+aB η x1.2.1 x1.2.2 ζ))/\aD (ir ((1:Int)+aB η x1.2.1 x1.2.2 ζ) (aB η (az η.length x1.2.1 ζ) (aJ x1.2.2 ζ) ((1:Int)+aB η x1.2.1 x1.2.2 ζ))))/\True)/\ab (bM (aA ((1:Int)+aB η x1.2.1 x1.2.2 ζ)) (ir ((1:Int)+aB η x1.2.1 x1.2.2 ζ) (aB η (az η.length x1.2.1 ζ) (aJ x1.2.2 ζ) ((1:Int)+aB η x1.2.1 x1.2.2 ζ)))) ((aA ((1:Int)+aB η x1.2.1 x1.2.2 ζ)=(aO η a h ζ).1/\ir ((1:Int)+aB η x1.2.1 x1.2.2 ζ) (aB η (az η.length x1.2.1 ζ) (aJ x1.2.2 ζ) ((1:Int)+aB η x1.2.1 x1.2.2 ζ))=((aO η a h ζ).2).1/\True)/\(η=η/\az η.length (az η.length x1.2.1 ζ) ((1:Int)+aB η x1.2.1 x1.2.2 ζ)=(((aO η a h ζ).2).2).1/\aJ (aJ x1.2.2 ζ) ((1:Int)+aB η x1.2.1 x1.2.2 ζ)=(((aO η a h ζ).2).2).2/\True)/\True) (ae ((↑x1.1:Int)+(1:Int))/\∃x2:Nat×Int×Int,(x2.1<=(6:Nat)/\(0:Int)<=x2.2.1/\x2.2.1<=(η.length:Int)/\aB η a h (5:Int)≠(2:Int)/\aO η a h ζ=kr η ζ ((6:Nat)-x2.1) x2.2.1 x2.2.2)/\(6:Nat)-x2.1<(6:Nat)-x1.1/\ζ=ζ/\(↑x1.1:Int)+(1:Int)=(↑x2.1:Int)/\η=η/\az η.length (az η.length x1.2.1 ζ) ((1:Int)+aB η x1.2.1 x1.2.2 ζ)=x2.2.1/\aJ (aJ x1.2.2 ζ) ((1:Int)+aB η x1.2.1 x1.2.2 ζ)=x2.2.2)) (∃x3:Int×Int,((0:Int)<=x3.1/\x3.1<=(η.length:Int)/\aO η a h ζ=lp η x3.1 x3.2 (m7 ζ))/\ζ=ζ/\η=η/\x1.2.1=x3.1/\x1.2.2=x3.2)) (ab (aB η a h (5:Int) == (2:Int)) (ab (decide ((8:Int)<=ζ)) (((bG η/\η.length<=(4096:Nat)/\(0:Int)<=az η.length a (5:Int)/\az η.length a (5:Int)<=(η.length:Int)/\(1:Int)<=(4:Int)/\((4:Int)<=(7:Int)/\(1:Nat)<=d\/(4:Int)<=(12:Int)/\(2:Nat)<=d))/\η=η/\True)/\((bG η/\η.length<=(4096:Nat)/\(0:Int)<=(((i8 η a h).2).2).1/\(((i8 η a h).2).2).1<=(η.length:Int)/\(1:Int)<=(2:Int)/\((2:Int)<=(7:Int)/\(1:Nat)<=d\/(2:Int)<=(12:Int)/\(2:Nat)<=d))/\η=η/\True)/\((ba (((i8 η a h).1).length) (i8 η a h).1/\ba (((gT η a h).1).length) (gT η a h).1/\(1:Nat)<=((gT η a h).1).length/\((i8 η a h).1).length<=(144:Nat)/\((gT η a h).1).length<=(144:Nat))/\True)/\((ba ((((i8 η a h).2).1).length) (((i8 η a h).2).1)/\ba ((((gT η a h).2).1).length) (((gT η a h).2).1)/\(1:Nat)<=(((gT η a h).2).1).length/\(((i8 η a h).2).1).length<=(144:Nat)/\(((gT η a h).2).1).length<=(144:Nat))/\True)/\(cd (i8 η a h).1 (gT η a h).1=(aO η a h ζ).1/\cd (((i8 η a h).2).1) (((gT η a h).2).1)=((aO η a h ζ).2).1/\True)/\(η=η/\(((gT η a h).2).2).1=(((aO η a h ζ).2).2).1/\(((gT η a h).2).2).2=(((aO η a h ζ).2).2).2/\True)/\True) (yU d η a h ζ)) (yU d η a h ζ))))/\∀x6:Int×Int,((0:Int)<=x6.1/\x6.1<=(η.length:Int)/\aO η a h ζ=lp η x6.1 x6.2 (m7 ζ)->(((bG η/\(0:Int)<=x6.1/\x6.1<=(1099511627776:Int))/\η=η/\True)/\ae ((1:Int)+aB η x6.1 x6.2 (if(7:Int)<ζ then(7:Int)else ζ))/\(((1:Int)<=(1:Int)+aB η x6.1 x6.2 (if(7:Int)<ζ then(7:Int)else ζ)/\(1:Int)+aB η x6.1 x6.2 (if(7:Int)<ζ then(7:Int)else ζ)<=(12:Int))/\True)/\∃x7:Unit,True/\cF ((1:Int)+aB η x6.1 x6.2 (if(7:Int)<ζ then(7:Int)else ζ))=cF ((1:Int)+aB η x6.1 x6.2 (m7 ζ))/\η=η/\az η.length x6.1 (if(7:Int)<ζ then(7:Int)else ζ)=az η.length x6.1 (m7 ζ)/\aJ x6.2 (if(7:Int)<ζ then(7:Int)else ζ)=aJ x6.2 (m7 ζ))/\∀x8:Unit,(True->(((bG η/\(0:Int)<=az η.length x6.1 (m7 ζ)/\az η.length x6.1 (m7 ζ)<=(1099511627776:Int))/\η=η/\True)/\aa (aB η (az η.length x6.1 (m7 ζ)) (aJ x6.2 (m7 ζ)) (↑(FC.len (FC.r3 IntKind.i64 (cF ((1:Int)+aB η x6.1 x6.2 (m7 ζ))))):Int)) (FC.len (FC.r3 IntKind.i64 (cF ((1:Int)+aB η x6.1 x6.2 (m7 ζ)))))/\∃x9:Unit,True/\(cF ((1:Int)+aB η x6.1 x6.2 (m7 ζ))).getD ((aB η (az η.length x6.1 (m7 ζ)) (aJ x6.2 (m7 ζ)) (↑(FC.len (FC.r3 IntKind.i64 (cF ((1:Int)+aB η x6.1 x6.2 (m7 ζ))))):Int)).toNat) ([]:Dc)=(au η x6.1 x6.2 (m7 ζ)).1/\η=η/\az η.length (az η.length x6.1 (m7 ζ)) (↑(FC.len (FC.r3 IntKind.i64 (cF ((1:Int)+aB η x6.1 x6.2 (m7 ζ))))):Int)=((au η x6.1 x6.2 (m7 ζ)).2).1/\aJ (aJ x6.2 (m7 ζ)) (↑(FC.len (FC.r3 IntKind.i64 (cF ((1:Int)+aB η x6.1 x6.2 (m7 ζ))))):Int)=((au η x6.1 x6.2 (m7 ζ)).2).2)/\∀x10:Unit,(True->((aM ((au η x6.1 x6.2 (m7 ζ)).1)=true/\AuOk (((au η x6.1 x6.2 (m7 ζ)).1).length) (cJ ((au η x6.1 x6.2 (m7 ζ)).1))/\(cJ ((au η x6.1 x6.2 (m7 ζ)).1)).length<=(100:Nat)/\((au η x6.1 x6.2 (m7 ζ)).1).length<=(7:Nat))/\List.map List.length ((au η x6.1 x6.2 (m7 ζ)).1)=List.map List.length ((au η x6.1 x6.2 (m7 ζ)).1)/\True)/\(((bG η/\(0:Int)<=((au η x6.1 x6.2 (m7 ζ)).2).1/\((au η x6.1 x6.2 (m7 ζ)).2).1<=(1099511627776:Int))/\η=η/\True)/\aa (aB η (((au η x6.1 x6.2 (m7 ζ)).2).1) (((au η x6.1 x6.2 (m7 ζ)).2).2) (↑((mi η ζ x6).length):Int)) (mi η ζ x6).length/\∃x11:Unit,True/\(mi η ζ x6).getD ((aB η (((au η x6.1 x6.2 (m7 ζ)).2).1) (((au η x6.1 x6.2 (m7 ζ)).2).2) (↑((mi η ζ x6).length):Int)).toNat) ([]:Dc)=(cV η ζ x6).1/\(au η x6.1 x6.2 (m7 ζ)).1=(bU η (au η x6.1 x6.2 (m7 ζ))).1/\η=η/\az η.length (((au η x6.1 x6.2 (m7 ζ)).2).1) (↑((mi η ζ x6).length):Int)=((cV η ζ x6).2).1/\aJ (((au η x6.1 x6.2 (m7 ζ)).2).2) (↑((mi η ζ x6).length):Int)=((cV η ζ x6).2).2)/\∀x12:Unit,True->ab (decide ((1:Int)<(↑(((bU η (au η x6.1 x6.2 (m7 ζ))).1).length):Int))) (((bG η/\(0:Int)<=((cV η ζ x6).2).1/\((cV η ζ x6).2).1<=(1099511627776:Int))/\η=η/\True)/\ab (aB η ((((bU η (au η x6.1 x6.2 (m7 ζ))).2).2).1) ((((bU η (au η x6.1 x6.2 (m7 ζ))).2).2).2) (2:Int) == (0:Int)) (ae ((ku η ζ x6)-(1:Int))/\((bG η/\(0:Int)<=az η.length (((cV η ζ x6).2).1) (2:Int)/\az η.length (((cV η ζ x6).2).1) (2:Int)<=(η.length:Int)/\η.length<=(4096:Nat)/\(0:Int)<=(ku η ζ x6)-(1:Int)/\(ku η ζ x6)-(1:Int)<=(144:Int))/\η=η/\True)/\(∃x13:Nat,(x13<=((cO η ζ x6).1).length/\(1:Int)<(ku η ζ x6)/\aB η (((cV η ζ x6).2).1) (((cV η ζ x6).2).2) (2:Int)=(0:Int))/\(0:Int)=(x13:Int)/\(cV η ζ x6).1=(cV η ζ x6).1/\(bU η (au η x6.1 x6.2 (m7 ζ))).1=(bU η (au η x6.1 x6.2 (m7 ζ))).1/\[(0:Int)]=bL (List.take x13 (cO η ζ x6).1)/\(sw η ζ x6).1=(cO η ζ x6).1/\η=η/\((sw η ζ x6).2).1=((cO η ζ x6).2).1/\((sw η ζ x6).2).2=((cO η ζ x6).2).2)/\∀x14:Nat,x14<=((cO η ζ x6).1).length/\(1:Int)<(ku η ζ x6)/\aB η (((cV η ζ x6).2).1) (((cV η ζ x6).2).2) (2:Int)=(0:Int)->ab (decide ((x14:Int)<(↑(((bH η ((bU η (au η x6.1 x6.2 (m7 ζ))).1,((bU η (au η x6.1 x6.2 (m7 ζ))).2).2)).1).length):Int))) (aa (x14:Int) (((cO η ζ x6).1).length)/\ae (((cO η ζ x6).1).getD (x14:Int).toNat (0:Int)+(1:Int))/\ar ((bL (List.take x14 (cO η ζ x6).1)).length+[((cO η ζ x6).1).getD (x14:Int).toNat (0:Int)+(1:Int)].length)/\ae ((x14:Int)+(1:Int))/\∃x15:Nat,(x15<=((cO η ζ x6).1).length/\(1:Int)<(ku η ζ x6)/\aB η (((cV η ζ x6).2).1) (((cV η ζ x6).2).2) (2:Int)=(0:Int))/\((cO η ζ x6).1).length-x15<((cO η ζ x6).1).length-x14/\(x14:Int)+(1:Int)=(x15:Int)/\(cV η ζ x6).1=(cV η ζ x6).1/\(bU η (au η x6.1 x6.2 (m7 ζ))).1=(bU η (au η x6.1 x6.2 (m7 ζ))).1/\bL (List.take x14 (cO η ζ x6).1)++[((cO η ζ x6).1).getD (x14:Int).toNat (0:Int)+(1:Int)]=bL (List.take x15 (cO η ζ x6).1)/\(cO η ζ x6).1=(cO η ζ x6).1/\η=η/\((cO η ζ x6).2).1=((cO η ζ x6).2).1/\((cO η ζ x6).2).2=((cO η ζ x6).2).2) (((aD ((bU η (au η x6.1 x6.2 (m7 ζ))).1)/\((bU η (au η x6.1 x6.2 (m7 ζ))).1).length<=(144:Nat)/\gV (ku η ζ x6) ((bU η (au η x6.1 x6.2 (m7 ζ))).1)/\(bL (List.take x14 (cO η ζ x6).1)).length=((bU η (au η x6.1 x6.2 (m7 ζ))).1).length/\∀(i:Nat),i<(bL (List.take x14 (cO η ζ x6).1)).length->(0:Int)<=(bL (List.take x14 (cO η ζ x6).1)).getD i (0:Int)/\(bL (List.take x14 (cO η ζ x6).1)).getD i (0:Int)<=(ku η ζ x6)-(1:Int))/\True)/\((aD (cV η ζ x6).1/\((cV η ζ x6).1).length<=(144:Nat)/\gV (↑(((cV η ζ x6).1).length):Int) (cV η ζ x6).1/\(bL (List.take x14 (cO η ζ x6).1)).length=((cV η ζ x6).1).length/\∀(i:Nat),i<(bL (List.take x14 (cO η ζ x6).1)).length->(0:Int)<=(bL (List.take x14 (cO η ζ x6).1)).getD i (0:Int)/\(bL (List.take x14 (cO η ζ x6).1)).getD i (0:Int)<=(↑(((cV η ζ x6).1).length):Int)-(1:Int))/\True)/\(cW ((bU η (au η x6.1 x6.2 (m7 ζ))).1) (bL (List.take x14 (cO η ζ x6).1)) (((bU η (au η x6.1 x6.2 (m7 ζ))).1).length)=(aO η a h ζ).1/\cW (cV η ζ x6).1 (bL (List.take x14 (cO η ζ x6).1)) (((cV η ζ x6).1).length)=((aO η a h ζ).2).1/\True)/\(η=η/\((cO η ζ x6).2).1=(((aO η a h ζ).2).2).1/\((cO η ζ x6).2).2=(((aO η a h ζ).2).2).2/\True)/\True)) (((bU η (au η x6.1 x6.2 (m7 ζ))).1=(aO η a h ζ).1/\(cV η ζ x6).1=((aO η a h ζ).2).1/\True)/\(η=η/\az η.length (((cV η ζ x6).2).1) (2:Int)=(((aO η a h ζ).2).2).1/\aJ (((cV η ζ x6).2).2) (2:Int)=(((aO η a h ζ).2).2).2/\True)/\True)) (((bU η (au η x6.1 x6.2 (m7 ζ))).1=(aO η a h ζ).1/\(cV η ζ x6).1=((aO η a h ζ).2).1/\True)/\(η=η/\((cV η ζ x6).2).1=(((aO η a h ζ).2).2).1/\((cV η ζ x6).2).2=(((aO η a h ζ).2).2).2/\True)/\True))))
theorem Sk(d:Nat)(η:Db)(a:Int)(h:Int)(ζ:Int):aE Tryz.prog (af (JP d)) JO (JN (d+1) η a h ζ) Tryz.f150 (aF Tryz.f150) [(0,0)] [.box [.ints .u8 η,.int .i64 a,.int .u64 h],.c (.int .i64 ζ)] (nU (d+1) η a h ζ)=yV d η a h ζ:=by kernel_rfl
theorem Sl(d:Nat)(η:Db)(a:Int)(h:Int)(ζ:Int)(ξ:(nU (d+1) η a h ζ).pre):yV d η a h ζ:=by
 simp only[nU,yV,yU,cO,gT,cV,fJ,sw,i8,mi,ku,aH]at ξ⊢;simp only[FC.len];obtain⟨hb,hc,h0,h1,h2,hd⟩:=ξ;have h3:ζ<=12:=by omega
 obtain⟨m1,m2,m3⟩:=yR h2;have s:=dN (n:=5) h0 h1
 refine⟨⟨⟨hb,h0,by omega⟩,fun z=>?_,fun z=>⟨fun z2=>⟨⟨⟨0,az η.length a 5,aJ h 5⟩,⟨by dsimp only;omega,s.1,s.2,by omega,?_⟩,rfl,rfl,rfl⟩,fun⟨i,b,g⟩ ⟨i1,i2,i3,i5,i4⟩=>?_⟩,fun z2=>⟨fun z3=>⟨fun y=>?_,fun y=>⟨⟨az η.length a 5,aJ h 5⟩,⟨s.1,s.2,?_⟩,rfl,rfl⟩⟩,fun z3=>⟨⟨az η.length a 5,aJ h 5⟩,⟨s.1,s.2,?_⟩,rfl,rfl⟩⟩⟩⟩,fun⟨b,g⟩ ⟨b1,b2,b3⟩=>?_⟩
 ·obtain⟨K,_⟩:=nQ hb (h:=aJ h 5) s.1 s.2 h2 h3
  obtain⟨k1,k2,k3,k4,k5⟩:=yJ hb K;have e:aO η a h ζ=sr η (dB η (az η.length a 5) (aJ h 5) ζ):=(nS (.inr (by omega))).trans (AA z)
  have e2:i6 η (au η (az η.length a 5) (aJ h 5) ζ)=dB η (az η.length a 5) (aJ h 5) ζ:=rfl
  rw[e2]at k1 k2 k3 k4 k5;rw[e];generalize dB η (az η.length a 5) (aJ h 5) ζ=d at *
  refine⟨⟨hb,hc,s.1,s.2,h2,h3⟩,⟨hb,k4,by omega⟩,fun y=>⟨⟨by omega,fun x hx=>(k3.2 x hx).1⟩,⟨rfl,?_⟩,rfl,rfl⟩,fun y=>⟨n6 (jC k3) (by omega),⟨rfl,?_⟩,rfl,rfl⟩⟩
  ·unfold sr;rw[AA y]
  ·unfold sr;rw[AB y]
 ·dsimp only;rw[nS (.inr (by omega)),kt,if_neg z,if_pos z2]
 ·dsimp only at i1 i2 i3 i4⊢
  refine⟨fun hi=>?_,fun hi=>⟨⟨b,g⟩,⟨i2,i3,?_⟩,rfl,rfl⟩⟩
  ·obtain⟨r1,r2,r3,r4,r5,r6⟩:=JJ hb (h:=g) i2 i3 h2
   have s2:=dN (n:=ζ) i2 i3
   have e1:1+aB η b g ζ=eM η ζ b g:=rfl
   rw[e1];have e2:aB η (az η.length b ζ) (aJ g ζ) (eM η ζ b g)=pE η ζ b g:=rfl
   have e3:az η.length (az η.length b ζ) (eM η ζ b g)=nR η ζ b g:=rfl
   have e4:aJ (aJ g ζ) (eM η ζ b g)=ss η ζ b g:=rfl
   rw[e2,e3,e4];have L:=lq r1
   have T1:=nV r1
   have T2:=JD r1 r3
   rw[show 6-i=(5-i)+1 by omega,kr]at i4
   refine⟨⟨hb,i2,by omega⟩,by omega,⟨hb,s2.1,by omega⟩,⟨r1,by omega,r3,by omega⟩,⟨n6 (jC T1) (by omega),n6 (jC T2) (by omega)⟩,fun y=>?_,fun y=>⟨by omega,⟨i+1,nR η ζ b g,ss η ζ b g⟩,⟨by dsimp only;omega,r5,r6,i5,?_⟩,by dsimp only;omega,by dsimp only;omega,rfl,rfl⟩⟩
   ·rw[AA y]at i4;rw[i4];exact⟨⟨rfl,rfl⟩,rfl,rfl⟩
   ·rw[if_neg (by rw[y];simp)]at i4;dsimp only;rw[i4,show 6-(i+1)=5-i by omega]
  ·dsimp only;rw[i4,show 6-i=0 by omega];rfl
 ·obtain⟨A,B,_⟩:=JL hb (h:=aJ h 5) s.1 s.2
  have e1:aO η (az η.length a 5) (aJ h 5) 4=gx η (az η.length a 5) (aJ h 5):=nS (.inl (by omega))
  rw[e1];have e2:aO η (gx η (az η.length a 5) (aJ h 5)).2.2.1 (gx η (az η.length a 5) (aJ h 5)).2.2.2 2=i7 η (az η.length a 5) (aJ h 5):=nS (.inl (by omega))
  rw[e2];have e3:aO η a h ζ=su η (az η.length a 5) (aJ h 5):=AA ⟨z3,y⟩
  rw[e3];obtain⟨a1,a2,a3,a4,a5,a6⟩:=A;obtain⟨b1,b2,b3,b4,b5,b6⟩:=B;have al:=a4.1
  have bl:=b4.1
  have a4':ba (gx η (az η.length a 5) (aJ h 5)).2.1.length (gx η (az η.length a 5) (aJ h 5)).2.1:=by rw[al];exact a4
  have b4':ba (i7 η (az η.length a 5) (aJ h 5)).2.1.length (i7 η (az η.length a 5) (aJ h 5)).2.1:=by rw[bl];exact b4
  exact⟨⟨hb,hc,s.1,s.2,by omega,by omega⟩,⟨hb,hc,a5,a6,by omega,by omega⟩,⟨a3,b3,b1,by omega,by omega⟩,⟨a4',b4',by omega,by omega,by omega⟩,⟨rfl,rfl⟩,rfl,rfl⟩
 ·dsimp only;rw[nS (.inl (by omega)),kt,if_neg z,if_neg z2]
 ·dsimp only;rw[nS (.inr z3),kt,if_neg z,if_neg z2]
 ·dsimp only at b1 b2 b3⊢
  have hm:(if 7<ζ then 7 else ζ)=m7 ζ:=rfl
  rw[hm];generalize m7 ζ=mm at *
  have v:=iv hb b g m1
  have sb:=dN (n:=mm) b1 b2
  obtain⟨K,mem,eg,w2⟩:=nQ hb (h:=g) b1 b2 m1 (by omega)
  refine⟨⟨⟨hb,b1,by omega⟩,by omega,by omega,⟨⟩,rfl,rfl,rfl⟩,fun _ _=>⟨⟨⟨hb,sb.1,by omega⟩,⟨eg,w2⟩,⟨⟩,rfl,rfl,rfl⟩,fun _ _=>?_⟩⟩
  have D:=JH hb (n:=1+aB η b g mm) (by omega) (by omega) mem K (by omega)
  have bF:lp η b g mm=jD η (bU η (au η b g mm)):=rfl
  rw[b3,bF];generalize au η b g mm=d at *
  obtain⟨k1,k2,k3,k4,k5⟩:=K;obtain⟨D0,D1,D2,D3,D4⟩:=D;refine⟨⟨D2,D3,D4,by omega⟩,⟨⟨hb,k4,by omega⟩,D1,⟨⟩,rfl,rfl,rfl,rfl⟩,fun _ _=>?_⟩
  generalize bU η d=x at *
  have P:=sh hb (JG D0)
  obtain⟨x1,x2,x3,x4,x5,x6⟩:=D0;have sx:=dN (n:=2) x5 x6
  refine⟨fun z=>⟨⟨hb,x5,by omega⟩,fun y=>⟨by omega,⟨hb,sx.1,sx.2,hc,by omega,by omega⟩,⟨0,⟨by omega,z,y⟩,rfl,rfl,rfl,rfl,rfl⟩,fun i ⟨hi,_,_⟩=>⟨fun gi=>?_,fun gi=>?_⟩⟩,fun y=>?_⟩,fun z=>?_⟩
  ·have:=P.1.2 i (by omega)
   have pl:=P.1.1
   dsimp only at pl;refine⟨by omega,by omega,by simp[bL];omega,by omega,i+1,⟨by omega,z,y⟩,by omega,by omega,Ju (by omega)⟩
  ·rw[AU (by omega)]
   obtain⟨q1,q2⟩:=sg P.1.1 P.1.2;dsimp only at q1 q2;have R:jD η x=(cW x.1 (bL (bH η (x.1,x.2.2)).1) x.1.length,cW x.2.1 (bL (bH η (x.1,x.2.2)).1) x.2.1.length,(bH η (x.1,x.2.2)).2):=by unfold jD;rw[AA z,AA y]
   rw[R];have xl:=x4.1
   have T4:ba x.2.1.length x.2.1:=by rw[xl];exact x4
   refine⟨⟨n6 (jC x3) (by omega),by omega,jC x3,q1,q2⟩,⟨n6 (jC x4) (by omega),by omega,jC T4,by omega,by rw[xl];exact q2⟩,⟨rfl,rfl⟩,rfl,rfl⟩
  ·have R:jD η x=(x.1,x.2.1,az η.length x.2.2.1 2,aJ x.2.2.2 2):=by unfold jD;rw[AA z,AB y]
   rw[R];exact⟨⟨rfl,rfl⟩,rfl,rfl⟩
  ·have R:jD η x=x:=by unfold jD;rw[AB z]
   rw[R];exact⟨⟨rfl,rfl⟩,rfl,rfl⟩
theorem Sm(η:Db)(a:Int)(h:Int)(ζ:Int)(h:(nU 0 η a h ζ).pre):False:=by
 simp only[nU]at h;omega
theorem Sn(d:Nat):Fits Tryz.prog 150 ⟨[(0,0)],pF d⟩:=by
 induction d with
 |zero =>
  refine I4 ⟨Tryz.f150,Tryz.func150,by kernel_rfl,by kernel_rfl⟩ (by decide) fun ds p h hp=>?_
  unfold pF at h;split at h
  ·cases h
   exact Sm _ _ _ _  hp
  ·cases h
 |succ d ih =>
  refine rR (Γ:=af (JP d)) (aj sE (aj Jy (aj Sd (aj Nj (aj Si (aj Jq (aj JX (aj SI (aj J9 (aj Kc (aj MB (aj ih aG)))))))))))) Tryz.func150 (by kernel_rfl) (by kernel_rfl) (by kernel_rfl) fun ds p h hp=>?_
  unfold pF at h;split at h
  ·cases h
   exact⟨JO,JN _ _ _ _ _ ,by rw[Sk];exact Sl _ _ _ _ _  hp⟩
  ·cases h
end Go.Sx
