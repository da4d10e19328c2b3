/- SxLaw -/
import Derived.Test.YtkmldclpaniclaaGreatBrlP
import Derived.Test.YtkmldclpaniclaaGreatBrs
import Derived.Test.YtkmldclpaniclaaGreatRows
import Derived.JoinedOf
import Derived.KernelRfl
import Derived.Test.YtkmldclpaniclaaGreatSxZ
import Derived.ProofKit
import Derived.OpenShut
import Derived.Lib.SmallJoins
import Derived.Deep.Matrix
set_option linter.unusedSimpArgs false
set_option linter.unusedVariables false
set_option linter.defProp false
section
open Go Go.Proofs
namespace Go.Sx
def Jv:List AD->Option Post
 | [.c (.rows .i64 a),.c (.rows .i64 b)]=>some ⟨aJ a,.c (.bool (decide (a=b))),[]⟩
 |_=>none
def Sj(a:D7)(b:D7):Nat->Option Ann
 |0=>Q' λi=>⟨⟨[(0,G' a),(1,G' b),(5,A' i)],[]⟩,i<=a.length/\a.length=b.length/\a.take i=b.take i,a.length-i⟩
 |_=>none
def aq4:Fits Tryz.prog 39 ⟨[],Jv⟩:=by
 refine ffv (Γ:=ah [(47,⟨[],Ee⟩)]) (aq Wq aN) Tryz.func39 λds p h ξ=>?_
 unfold Jv at h;split at h<;>cases h
 rename_i a b
 refine⟨aj,Sj a b,ab ((a.length:Int) != (b.length:Int)) (false=decide (a=b)/\True) ((∃x0:Nat,(x0<=a.length/\a.length=b.length/\List.take x0 a=List.take x0 b)/\a=a/\b=b/\(0:Int)=(x0:Int))/\∀x1:Nat,x1<=a.length/\a.length=b.length/\List.take x1 a=List.take x1 b->ab (decide ((x1:Int)<(a.length:Int))) (ac (x1:Int) a.length/\ac (x1:Int) b.length/\(au ((a.getD (x1:Int).toNat []).length)/\True)/\ab (!decide (a.getD (x1:Int).toNat []=b.getD (x1:Int).toNat [])) (false=decide (a=b)/\True) (ae ((x1:Int)+(1:Int))/\∃x2:Nat,(x2<=a.length/\a.length=b.length/\List.take x2 a=List.take x2 b)/\a.length-x2<a.length-x1/\a=a/\b=b/\(x1:Int)+(1:Int)=(x2:Int))) (true=decide (a=b)/\True)),by kernel_rfl,?_⟩
 simp only[aO]at ξ⊢;have hk:=ξ.1
 refine⟨λh=>(Ad λe=>h (by rw[e])).symm,λh=>⟨⟨0,⟨by omega,by omega,rfl⟩,rfl⟩,λi ⟨hi,hl,he⟩=>⟨λg=>⟨by omega,by omega,ξ.2 _ (bN a [] i (by omega)),λq=>(Ad λe=>q (by rw[e])).symm,λq=>⟨by omega,i+1,⟨by omega,hl,(Ku a b [] i (by omega) (by omega) he).2 q⟩,by omega,by omega⟩⟩,λg=>?_⟩⟩⟩
 rw[AU (by omega),AU (by omega)]at he
 exact(Ab he).symm
def aq5{η:D6}(hb:bz η):aJ (ai η).1/\aJ (ai η).2.1:=by
 have v:=gL hb 0 (cK η η.length) (n:=12) (by omega)
 have s:=dS (L:=η.length) (a:=0) (n:=12) (by omega) (by omega)
 have q:0<=(az η 0 (cK η η.length) 12).tdiv 6/\(az η 0 (cK η η.length) 12).tdiv 6<=1:=by
  rw[DP v.1];omega
 have A:=Wr hb (LA hb (h:=aK (cK η η.length) 12) (a:=aC η.length 0 12) (ζ:=qo η) s.1 s.2 (by rw[qo];omega) (by rw[qo];omega)) (by rw[qo];omega)
 exact⟨A.1,A.2.1⟩
def aq6{n:Nat}{a c a2 c2:D7}(hn:n<=12)(G:GrpT n a)(H:GrpT n a2)(hc:am n c)(hc2:am n c2):(cd [a,c] [a2,c2]).isEmpty=(dL n [a,c] [a2,c2]).isEmpty:=by
 have e:nT [a,c]=n:=G.tb.1
 have e2:nT [a2,c2]=n:=H.tb.1
 have h:=LE hn G H hc hc2
 have M:dG [a,c] [a2,c2] 1=(dL n [a,c] [a2,c2]).take 1:=by
  rw[dG,AA (by rw[e,e2]),e]
  exact pa (b:=[a2,c2]) (ζ:=1) (iH G.tb hc) rfl G.pos (AE 1)
 rw[M]at h;cases hA:dL n [a,c] [a2,c2]with
 |nil=>rw[h.2 (by rw[hA];rfl)]
 |cons x l =>
  cases hI:cd [a,c] [a2,c2]with
  |nil=>have:=h.1 hI;rw[hA]at this;cases this
  |cons y k=>rfl
def Sl(n:Int):Nat:=if n=4 then 4 else if n=6 then 6 else 1
def aq7{n:Int}(h1:1<=n)(h2:n<=7):kH n.toNat (aH n) (Sl n)=true:=by
 have:n=1\/n=2\/n=3\/n=4\/n=5\/n=6\/n=7:=by omega
 rcases this with rfl|rfl|rfl|rfl|rfl|rfl|rfl
 ·rw[VL];exact We
 ·rw[VP];exact Wf
 ·rw[VT];exact Wg
 ·rw[VZ];exact Wh
 ·rw[V3];exact Wi
 ·rw[V9];exact Wj
 ·rw[Wd];exact Wk
def Jx{n:Int}(h1:1<=n)(h2:n<=7):(aH n).length=Sl n/\∀i,i<(aH n).length ->
  cg ((aH n).getD i ([],[])).1 ((aH n).getD i ([],[])).2=true/\a8 ((aH n).getD i ([],[])).1 ((aH n).getD i ([],[])).2=((i:Int),0):=by
 have K:=aq7 h1 h2
 simp only[kH,AO,Ai,Ac,Af]at K;obtain⟨⟨k1,k2⟩,k3⟩:=K;refine⟨k1,λi hi=>?_⟩
 obtain⟨l,b⟩:=k2 _ (bN (aH n) ([],[]) i hi);have e:(((aH n).getD i ([],[])).1.length:Int)=n:=by omega
 refine⟨b,tC b (by omega) (by rw[e];exact hi) ?_⟩
 obtain⟨G,tc⟩:=oE h1 h2 (bN (aH n) ([],[]) i hi);have P:∀j,j<=i->g5 ((aH n).getD i ([],[])).1 ((aH n).getD i ([],[])).2 ((aH n).getD j ([],[]))=decide (i=j):=λj hj=>by
  obtain⟨H,tc2⟩:=oE h1 h2 (bN (aH n) ([],[]) j (by omega))
  have:=k3 i hi j (by omega)
  rw[g5,aq6 (by omega) G H tc tc2,this,Bool.not_not]
 rw[fq,e];have a:=(List.findIdx_eq (p:=g5 ((aH n).getD i ([],[])).1 ((aH n).getD i ([],[])).2) hi).2
 refine a ⟨?_,λj hj=>?_⟩
 ·have:=P i (AE i)
  rw[bM (aH n) ([],[]) i hi]at this⊢;rw[this];simp
 ·have:=P j (by omega)
  rw[bM (aH n) ([],[]) j (by omega)]at this
  rw[this];simp;omega
def cV(η:D6):Int:=az η 0 (cK η η.length) 9
def aq8{n:Int}(h1:1<=n)(h2:n<=7):((aH n).length:Int)=[(0:Int),1,1,1,4,1,6,1].getD n.toNat 0:=by
 rw[(Jx h1 h2).1];have:n=1\/n=2\/n=3\/n=4\/n=5\/n=6\/n=7:=by omega
 rcases this with rfl|rfl|rfl|rfl|rfl|rfl|rfl<;>decide
def Sm{n:Int}(h1:1<=n)(h2:n<=7):bA n=(aH n,0):=AA ⟨h1,h2⟩
def aq9{n:Int}(h:(bA n).2=0):1<=n/\n<=7:=by
 rw[bA]at h;split at h
 ·assumption
 ·exact absurd h (by decide)
def ar0{n:Int}(h:(bA n).2≠0):bA n=([],2):=by
 rw[bA]at h⊢;split
 ·rename_i q;rw[AA q]at h;exact absurd rfl h
 ·rfl
def ar1{a c:D7}(h:(a8 a c).2=0):cg a c=true/\a.length<=7/\fq a c<(aH a.length).length/\a8 a c=((fq a c:Int),0):=by
 cases hb:cg a c with
 |false=>rw[zJ hb]at h;exact absurd h (by decide)
 |true =>
  by_cases h7:a.length<=7
  ·by_cases hi:fq a c<(aH a.length).length
   ·exact⟨rfl,h7,hi,tC hb h7 hi rfl⟩
   ·rw[zL hb h7 (by omega)]at h;exact absurd h (by decide)
  ·rw[zK hb (by omega)]at h;exact absurd h (by decide)
def ar2{a c:D7}(h:cg a c=true)(h7:a.length<=7)(hi:fq a c<(aH a.length).length){q:D7×D7}(hq:q=(aH a.length).getD (fq a c) ([],[])) :
  ∃p,dQ a c q.1 q.2=(p,0)/\IsP p.length p/\am p.length c/\1<=p.length/\p.length<=12/\aJ q.1/\aJ q.2/\cQ c p c.length=q.2/\aJ (cQ c p c.length):=by
 obtain⟨G,tc⟩:=oF h;have hp:=G.pos
 obtain⟨b,_⟩:=(Jx (n:=a.length) (by omega) (by omega)).2 _ hi
 obtain⟨H,tc2⟩:=oE (n:=a.length) (by omega) (by omega) (bN (aH a.length) ([],[]) _ hi)
 rw[An]at H tc2;have P:g5 a c q=true:=by
  rw[hq,bM _ _ _ hi];exact List.findIdx_getElem (p:=g5 a c) (xs:=aH a.length) (w:=hi)
 rw[<-hq]at b H tc2;have S:=(jY (zI (by omega) G.tb tc H.tb tc2)).1
 rw[dQ,AA ⟨h,b⟩];rw[g5]at P;cases hI:cd [a,c] [q.1,q.2]with
 |nil=>rw[hI]at P;cases P
 |cons p l =>
  have k:=((S p).1 (by rw[hI];exact AZ)).2
  have e0:bI [a,c]=a.length:=rfl
  rw[e0]at k;have K:=k.p
  have lc:=tc.1
  have I:ImO a.length c p q.2:=⟨tc2,λx y hx hy=>by
   have m:=(k.g (iH G.tb tc)).map 1 x y (by simp) hx hy
   simp only[Ch,CR]at m;have r:=K.rng (gM c x y) (mK tc hx hy)
   have v:=(tc2.2 (ap p x) (K.lt hx)).2 (ap p y) (K.lt hy)
   have m':en q.2 (ap p x) (ap p y)=((p.getD (gM c x y) 0).toNat:Int):=m
   omega⟩
  have E:cQ c p c.length=q.2:=by rw[lc];exact(VE tc K).uniq K I
  exact⟨p,rfl,by rw[K.len];exact K,by rw[K.len];exact tc,by rw[K.len];exact hp,by rw[K.len];omega,kT H.tb (by omega),kT tc2 (by omega),E,by rw[E];exact kT tc2 (by omega)⟩
def Sn{η:D6}(ξ:bz η)(hc:η.length<=4096):(bz η/\η.length<=4096)/\(aJ (ai η).fst/\aJ (ai η).snd.fst)/\(aJ (ai η).fst/\aJ (ai η).snd.fst)/\((a8 (ai η).fst (ai η).snd.fst).snd≠(a8 (ai η).fst (ai η).snd.fst).snd->false=true)/\(True->((a8 (ai η).fst (ai η).snd.fst).fst≠(a8 (ai η).fst (ai η).snd.fst).fst->false=true)/\(True->((a8 (ai η).fst (ai η).snd.fst).snd≠0->True)/\((a8 (ai η).fst (ai η).snd.fst).snd=0->(∃_x3:Unit,bz η/\η.length<=4096/\(a8 (ai η).fst (ai η).snd.fst).snd=0)/\∀(x4:Unit),bz η/\η.length<=4096/\(a8 (ai η).fst (ai η).snd.fst).snd=0->((bA ((ai η).fst.length:Int)).snd≠0->false=true)/\((bA ((ai η).fst.length:Int)).snd=0->((a8 (ai η).fst (ai η).snd.fst).fst<0->false=true)/\(¬(a8 (ai η).fst (ai η).snd.fst).fst<0->(((bA ((ai η).fst.length:Int)).fst.length:Int)<=(a8 (ai η).fst (ai η).snd.fst).fst->false=true)/\(¬((bA ((ai η).fst.length:Int)).fst.length:Int)<=(a8 (ai η).fst (ai η).snd.fst).fst->(0<=(a8 (ai η).fst (ai η).snd.fst).fst/\(a8 (ai η).fst (ai η).snd.fst).fst<((bA ((ai η).fst.length:Int)).fst.length:Int))/\(aJ (ai η).fst/\aJ (ai η).snd.fst/\aJ ((bA ((ai η).fst.length:Int)).fst.getD (a8 (ai η).fst (ai η).snd.fst).fst.toNat (([]:D7),([]:D7))).fst/\aJ ((bA ((ai η).fst.length:Int)).fst.getD (a8 (ai η).fst (ai η).snd.fst).fst.toNat (([]:D7),([]:D7))).snd)/\((dQ (ai η).fst (ai η).snd.fst ((bA ((ai η).fst.length:Int)).fst.getD (a8 (ai η).fst (ai η).snd.fst).fst.toNat (([]:D7),([]:D7))).fst ((bA ((ai η).fst.length:Int)).fst.getD (a8 (ai η).fst (ai η).snd.fst).fst.toNat (([]:D7),([]:D7))).snd).snd=0->(am (dQ (ai η).fst (ai η).snd.fst ((bA ((ai η).fst.length:Int)).fst.getD (a8 (ai η).fst (ai η).snd.fst).fst.toNat (([]:D7),([]:D7))).fst ((bA ((ai η).fst.length:Int)).fst.getD (a8 (ai η).fst (ai η).snd.fst).fst.toNat (([]:D7),([]:D7))).snd).fst.length (ai η).snd.fst/\IsP (dQ (ai η).fst (ai η).snd.fst ((bA ((ai η).fst.length:Int)).fst.getD (a8 (ai η).fst (ai η).snd.fst).fst.toNat (([]:D7),([]:D7))).fst ((bA ((ai η).fst.length:Int)).fst.getD (a8 (ai η).fst (ai η).snd.fst).fst.toNat (([]:D7),([]:D7))).snd).fst.length (dQ (ai η).fst (ai η).snd.fst ((bA ((ai η).fst.length:Int)).fst.getD (a8 (ai η).fst (ai η).snd.fst).fst.toNat (([]:D7),([]:D7))).fst ((bA ((ai η).fst.length:Int)).fst.getD (a8 (ai η).fst (ai η).snd.fst).fst.toNat (([]:D7),([]:D7))).snd).fst/\1<=(dQ (ai η).fst (ai η).snd.fst ((bA ((ai η).fst.length:Int)).fst.getD (a8 (ai η).fst (ai η).snd.fst).fst.toNat (([]:D7),([]:D7))).fst ((bA ((ai η).fst.length:Int)).fst.getD (a8 (ai η).fst (ai η).snd.fst).fst.toNat (([]:D7),([]:D7))).snd).fst.length/\(dQ (ai η).fst (ai η).snd.fst ((bA ((ai η).fst.length:Int)).fst.getD (a8 (ai η).fst (ai η).snd.fst).fst.toNat (([]:D7),([]:D7))).fst ((bA ((ai η).fst.length:Int)).fst.getD (a8 (ai η).fst (ai η).snd.fst).fst.toNat (([]:D7),([]:D7))).snd).fst.length<=12)/\(0<=(a8 (ai η).fst (ai η).snd.fst).fst/\(a8 (ai η).fst (ai η).snd.fst).fst<((bA ((ai η).fst.length:Int)).fst.length:Int))/\aJ (cQ (ai η).snd.fst (dQ (ai η).fst (ai η).snd.fst ((bA ((ai η).fst.length:Int)).fst.getD (a8 (ai η).fst (ai η).snd.fst).fst.toNat (([]:D7),([]:D7))).fst ((bA ((ai η).fst.length:Int)).fst.getD (a8 (ai η).fst (ai η).snd.fst).fst.toNat (([]:D7),([]:D7))).snd).fst (ai η).snd.fst.length)/\cQ (ai η).snd.fst (dQ (ai η).fst (ai η).snd.fst ((bA ((ai η).fst.length:Int)).fst.getD (a8 (ai η).fst (ai η).snd.fst).fst.toNat (([]:D7),([]:D7))).fst ((bA ((ai η).fst.length:Int)).fst.getD (a8 (ai η).fst (ai η).snd.fst).fst.toNat (([]:D7),([]:D7))).snd).fst (ai η).snd.fst.length=((bA ((ai η).fst.length:Int)).fst.getD (a8 (ai η).fst (ai η).snd.fst).fst.toNat (([]:D7),([]:D7))).snd)/\((dQ (ai η).fst (ai η).snd.fst ((bA ((ai η).fst.length:Int)).fst.getD (a8 (ai η).fst (ai η).snd.fst).fst.toNat (([]:D7),([]:D7))).fst ((bA ((ai η).fst.length:Int)).fst.getD (a8 (ai η).fst (ai η).snd.fst).fst.toNat (([]:D7),([]:D7))).snd).snd≠0->false=true))))))):=by
 obtain⟨ra,rc⟩:=aq5 ξ;refine⟨⟨ξ,hc⟩,⟨ra,rc⟩,⟨ra,rc⟩,λh=>absurd rfl h,λ_=>⟨λh=>absurd rfl h,λ_=>⟨λ_=>trivial,λh0=>⟨⟨(),ξ,hc,h0⟩,λ_ _=>?_⟩⟩⟩⟩
 generalize (ai η).fst=a at *
 generalize (ai η).snd.fst=c at *
 obtain⟨hb,h7,hi,e⟩:=ar1 h0;have hp:=(oF hb).1.pos
 rw[e,Sm (by omega) (by omega)]
 simp only[An];generalize hq:(aH (a.length:Int)).getD (fq a c) ([],[])=q
 obtain⟨p,B,k1,k2,k3,k4,k5,k6,k7,k8⟩:=ar2 hb h7 hi hq.symm;rw[B];exact⟨λh=>absurd rfl h,λ_=>⟨λh=>by omega,λ_=>⟨λh=>by omega,λ_=>⟨by omega,⟨ra,rc,k5,k6⟩,λ_=>⟨⟨k2,k1,k3,k4⟩,by omega,k8,k7⟩,λh=>absurd rfl h⟩⟩⟩⟩
def xL(η:D6):Post:=⟨bz η,.c (.bool true),[]⟩
def Jy:List AD->Option Post
 | [.c (.ints .u8 η)]=>some (xL η)
 |_=>none
def So(η:D6):Nat->Option Ann
 |0=>Q' λi=>⟨⟨[(0,.c (.ro (.ints .u8 η))),(3,A' (cV η)),(4,.c (.ro (.p3 .i64 (aH (cV η))))),(9,A' i)],[]⟩,1<=cV η/\cV η<=7/\η.length<=4096/\i<=(aH (cV η)).length,(aH (cV η)).length-i⟩
 |1028=>some (Ann.mk ((Unit)) (λu=>⟨[(12,M' 12),(13,A' (((a8 (ai η).1 (ai η).2.1).1))),(17,.c (.ro (.p3 .i64 ((bA (ai η).1.length).1)))),(18,A' (((bA (ai η).1.length).2)))],[(12,P' [.ro (.rows .i64 (ai η).1),.ro (.rows .i64 ((ai η).2.1))])]⟩) (λu=>bz η/\η.length<=4096/\(a8 (ai η).1 (ai η).2.1).2=0) (λu=>0) (λ_=>ar))
 |_=>none
def Sp:List (Nat×Ctr):=[(18,⟨[],Ec⟩),(35,⟨[],zS⟩),(29,⟨[],HE⟩),(28,⟨[],HG⟩),(33,⟨[],zM⟩),(31,⟨[],zQ⟩),(36,⟨[],qk⟩),(37,⟨[],zW⟩),(38,⟨[],z7⟩),(40,⟨[],Ea⟩),(39,⟨[],Jv⟩)]
def rY(η:D6):=(((bA (↑(((ai η).1).length):Int)).1).getD (((a8 (ai η).1 (((ai η).2).1)).1).toNat) (([]:D7),([]:D7)))
def nP(η:D6):=((dQ (ai η).1 (((ai η).2).1) (rY η).1 (rY η).2).1)
def nQ(η:D6):=(a8 (ai η).1 (((ai η).2).1))
def nR(η:D6):=(bA (↑(((ai η).1).length):Int))
def Jz(η:D6):Prop :=
 ab ((a8 (ai η).1 (((ai η).2).1)).2 != (a8 (ai η).1 (((ai η).2).1)).2) (false=true/\True) (ab ((a8 (ai η).1 (((ai η).2).1)).1 != (a8 (ai η).1 (((ai η).2).1)).1) (false=true/\True) (ab ((a8 (ai η).1 (((ai η).2).1)).2 != (0:Int)) (true=true/\True) (((True/\True)/\∃x0:Unit,(bz η/\η.length<=(4096:Nat)/\(nQ η).2=(0:Int))/\(nQ η).1=(nQ η).1/\(nR η).1=(nR η).1/\(nR η).2=(nR η).2/\(ai η).1=(ai η).1/\((ai η).2).1=((ai η).2).1)/\∀x1:Unit,bz η/\η.length<=(4096:Nat)/\(nQ η).2=(0:Int)->ab ((bA (↑(((ai η).1).length):Int)).2 != (0:Int)) (false=true/\True) (ab (decide ((a8 (ai η).1 (((ai η).2).1)).1<(0:Int))) (false=true/\True) (ab (decide ((↑(((bA (↑(((ai η).1).length):Int)).1).length):Int)<=(a8 (ai η).1 (((ai η).2).1)).1)) (false=true/\True) (ac (nQ η).1 (((nR η).1).length)/\((aJ (ai η).1/\aJ (((ai η).2).1)/\aJ (rY η).1/\aJ (rY η).2)/\True)/\ab ((dQ (ai η).1 (((ai η).2).1) ((((bA (↑(((ai η).1).length):Int)).1).getD (((a8 (ai η).1 (((ai η).2).1)).1).toNat) (([]:D7),([]:D7))).1) ((((bA (↑(((ai η).1).length):Int)).1).getD (((a8 (ai η).1 (((ai η).2).1)).1).toNat) (([]:D7),([]:D7))).2)).2 == (0:Int)) (((am (nP η).length (((ai η).2).1)/\IsP (nP η).length (nP η)/\(1:Nat)<=(nP η).length/\(nP η).length<=(12:Nat))/\True)/\ac (nQ η).1 (((nR η).1).length)/\(aJ (cQ (((ai η).2).1) (nP η) ((((ai η).2).1).length))/\True)/\decide (cQ (((ai η).2).1) ((dQ (ai η).1 (((ai η).2).1) ((((bA (↑(((ai η).1).length):Int)).1).getD (((a8 (ai η).1 (((ai η).2).1)).1).toNat) (([]:D7),([]:D7))).1) ((((bA (↑(((ai η).1).length):Int)).1).getD (((a8 (ai η).1 (((ai η).2).1)).1).toNat) (([]:D7),([]:D7))).2)).1) ((((ai η).2).1).length)=(((bA (↑(((ai η).1).length):Int)).1).getD (((a8 (ai η).1 (((ai η).2).1)).1).toNat) (([]:D7),([]:D7))).2)=true/\True) (false=true/\True)))))))
def rZ(η:D6)(x0:Nat):=((aH (cV η)).getD (↑x0:Int).toNat (([]:D7),([]:D7)))
def JA(η:D6):Prop :=
 ((True/\True)/\(ab (decide ((4096:Int)<(↑(η.length):Int))) ((true=true)/\True) ((((bz η)/\(η.length<=(4096:Nat)))/\True)/\((True/\True)/\((True/\True)/\(ab ((bA (az η (0:Int) (cK η η.length) (9:Int))).2 != (bA (az η (0:Int) (cK η η.length) (9:Int))).2) ((false=true)/\True) (ab ((bA (az η (0:Int) (cK η η.length) (9:Int))).2 == (0:Int)) ((ac (az η (0:Int) (cK η η.length) (9:Int)) ([(0:Int),(1:Int),(1:Int),(1:Int),(4:Int),(1:Int),(6:Int),(1:Int)].length))/\(ab ((↑(FC.len (FC.p3 IntKind.i64 ((bA (az η (0:Int) (cK η η.length) (9:Int))).1))):Int) != [(0:Int),(1:Int),(1:Int),(1:Int),(4:Int),(1:Int),(6:Int),(1:Int)].getD ((az η (0:Int) (cK η η.length) (9:Int)).toNat) (0:Int)) ((false=true)/\True) ((∃x0:Nat,((((1:Int)<=cV η)/\((cV η<=(7:Int))/\((η.length<=(4096:Nat))/\(x0<=(aH (cV η)).length))))/\((η=η)/\((az η (0:Int) (cK η η.length) (9:Int)=cV η)/\(((bA (az η (0:Int) (cK η η.length) (9:Int))).1=aH (cV η))/\((0:Int)=(↑x0:Int)))))))/\(∀x1:Nat,((((1:Int)<=cV η)/\((cV η<=(7:Int))/\((η.length<=(4096:Nat))/\(x1<=(aH (cV η)).length))))->(ab (decide ((↑x1:Int)<(↑((aH (cV η)).length):Int))) ((ac (↑x1:Int) ((aH (cV η)).length))/\((((aJ (rZ η x1).1)/\(aJ (rZ η x1).2))/\True) /\
 (ab ((a8 (((aH (cV η)).getD (↑x1:Int).toNat (([]:D7),([]:D7))).1) (((aH (cV η)).getD (↑x1:Int).toNat (([]:D7),([]:D7))).2)).2 != (0:Int)) ((false=true)/\True) (ab ((a8 (((aH (cV η)).getD (↑x1:Int).toNat (([]:D7),([]:D7))).1) (((aH (cV η)).getD (↑x1:Int).toNat (([]:D7),([]:D7))).2)).1 != (↑x1:Int)) ((false=true)/\True) ((ac (↑x1:Int) ((aH (cV η)).length))/\((((aJ (rZ η x1).1)/\(aJ (rZ η x1).2))/\True)/\(ab (!cg (((aH (cV η)).getD (↑x1:Int).toNat (([]:D7),([]:D7))).1) (((aH (cV η)).getD (↑x1:Int).toNat (([]:D7),([]:D7))).2)) ((false=true)/\True) ((ae ((↑x1:Int)+(1:Int)))/\(∃x2:Nat,((((1:Int)<=cV η)/\((cV η<=(7:Int))/\((η.length<=(4096:Nat))/\(x2<=(aH (cV η)).length))))/\(((aH (cV η)).length-x2<(aH (cV η)).length-x1)/\((η=η)/\((cV η=cV η)/\((aH (cV η)=aH (cV η))/\((↑x1:Int)+(1:Int)=(↑x2:Int)))))))))))))))) ((((bz η)/\(η.length<=(4096:Nat)))/\True)/\((((aJ (ai η).1)/\(aJ (((ai η).2).1)))/\True)/\((((aJ (ai η).1)/\(aJ (((ai η).2).1)))/\True)/\(Jz η)))))))))) (ab (decide ((0:Int)<(↑(FC.len (FC.p3 IntKind.i64 ((bA (az η (0:Int) (cK η η.length) (9:Int))).1))):Int))) ((false=true)/\True)
 ((((bz η)/\(η.length<=(4096:Nat)))/\True)/\((((aJ (ai η).1)/\(aJ (((ai η).2).1)))/\True)/\((((aJ (ai η).1)/\(aJ (((ai η).2).1)))/\True)/\(Jz η))))))))))))
def ar3(η:D6):aP Tryz.prog (ah Sp) aj (So η) Tryz.f7 (aI Tryz.f7) [] [.c (.ints .u8 η)] (xL η)=JA η:=by kernel_rfl
def ar4(η:D6)(ξ:(xL η).pre):JA η:=by
 simp only[xL,JA,Jz,rY,nP,nQ,nR,rZ,aO]at ξ⊢;have ebn:az η 0 (cK η η.length) 9=cV η:=rfl
 rw[ebn];refine⟨λ_=>trivial,λhc=>⟨⟨ξ,by omega⟩,λh=>absurd rfl h,λ_=>⟨λh0=>?_,λh0=>?_⟩⟩⟩
 ·obtain⟨n1,n7⟩:=aq9 h0
  obtain⟨_,A⟩:=Jx n1 n7;have L:=zH n1 n7
  have C:=aq8 n1 n7
  rw[Sm n1 n7];simp only[FC.len];refine⟨by omega,λh=>absurd C h,λ_=>⟨⟨0,⟨n1,n7,by omega,by omega⟩,trivial,trivial,rfl⟩,λi ⟨_,_,_,hi⟩=>⟨fun ψ=>?_,λhge=>?_⟩⟩⟩
  ·have hi1:i<(aH (cV η)).length:=by omega
   obtain⟨b,e⟩:=A i hi1;obtain⟨H,tc⟩:=oE n1 n7 (bN (aH (cV η)) ([],[]) i hi1);have r1:=kT H.tb (by omega)
   have r2:=kT tc (by omega)
   rw[e,b];exact⟨by omega,⟨r1,r2⟩,λh=>absurd rfl h,λ_=>⟨λh=>absurd rfl h,λ_=>⟨by omega,⟨r1,r2⟩,(λh=>by cases h),λ_=>⟨by omega,i+1,⟨n1,n7,by omega,by omega⟩,by omega,by omega⟩⟩⟩⟩
  ·exact Sn ξ (by omega)
 ·rw[ar0 h0]
  exact⟨λh=>absurd h (by decide),λ_=>Sn ξ (by omega)⟩
def ar5:Fits Tryz.prog 7 ⟨[],Jy⟩:=by
 refine aQ (Γ:=ah Sp) (aq Wn (aq Vq (aq ag5 (aq ag8 (aq Vh (aq Vn (aq zp (aq Vw (aq VC (aq VH (aq aq4 aN))))))))))) Tryz.func7 λds p h hp=>?_
 unfold Jy at h;split at h
 ·cases h
  exact⟨aj,So _ ,by rw[ar3];exact ar4 _  hp⟩
 ·cases h
end Go.Sx
end
section
namespace Go.Proofs.YtkmldclpaniclaaGreat
def nS{x y:Bool}(h:x=true)(k:y=true):(x&&y)=true:=by rw[h,k];rfl
set_option maxRecDepth 10000000 in
def xM:{ l:List Char // Tryz.prog.initOrder=String.ofList l }:=⟨_,rfl⟩
def ar6:Tryz.prog.initOrder.toList=xM.1:=(congrArg String.toList xM.2).trans String.toList_ofList
def xN:∃rest,behindMainWord (wordsSigns Tryz.prog.initOrder.toList)=['c','u','t']::rest:=by
 rw[ar6];have h:(behindMainWord (wordsSigns xM.1)).head?=some ['c','u','t']:=by kernel_rfl
 cases hb:behindMainWord (wordsSigns xM.1)with
 |nil=>rw[hb]at h;cases h
 |cons x y=>rw[hb]at h;cases h;exact⟨y,rfl⟩
def Sq(rest:List (List Char)):stripLifts liftWords (['c','u','t']::rest)=([],['c','u','t']::rest):=by rfl
def ar7:Tryz.prog.headLifts=[]:=by
 obtain⟨rest,h⟩:=xN;unfold Program.headLifts;rw[h,Sq];rfl
def ar8:Tryz.prog.laysLater=false:=by kernel_rfl
def ar9:Tryz.prog.bearsReflect=false:=by kernel_rfl
def as0:Tryz.prog.doorRows=[]:=by kernel_rfl
def as1:Tryz.prog.doorFits []=true:=by
 unfold Program.doorFits;rw[as0];rfl
def as2(P:Program)(rest:List (List Char))(h:behindMainWord (wordsSigns P.initOrder.toList)=['c','u','t']::rest)(h1:P.laysLater=false)(h2:P.bearsReflect=false)(h3:P.doorFits []=true):P.mayEnter=true:=by
 unfold Program.mayEnter;rw[h];simp only[Sq,h1,h2,h3];simp
def as3(P:Program)(rest:List (List Char))(h:behindMainWord (wordsSigns P.initOrder.toList)=['c','u','t']::rest)(h1:P.headLifts=[]):(false == P.liftsFinal)=true:=by
 unfold Program.liftsFinal;rw[h,h1];rfl
def as4(P:Program)(rest:List (List Char))(h:behindMainWord (wordsSigns P.initOrder.toList)=['c','u','t']::rest):(P.make == some Make.cut)=true:=by
 have e1:(['c','u','t'] == "gc".toList)=false:=rfl
 have e2:(['c','u','t'] == "spec".toList)=false:=rfl
 have e3:(['c','u','t'] == "cut".toList)=true:=rfl
 unfold Program.make;rw[h];simp only[e1,e2,e3,Bool.or_false,Bool.true_or,Bool.false_eq_true,if_true,if_false];rfl
def as5:Tryz.prog.mayEnter=true:=by
 obtain⟨rest,h⟩:=xN;exact as2 _ rest h ar8 ar9 as1
def as6:(false == Tryz.prog.liftsFinal)=true:=by
 obtain⟨rest,h⟩:=xN;exact as3 _ rest h ar7
def as7:(Tryz.prog.make == some Make.cut)=true:=by
 obtain⟨rest,h⟩:=xN;exact as4 _ rest h
end Go.Proofs.YtkmldclpaniclaaGreat
end
section
namespace Go.Sx
open Go.ChangeShapes Go.WideShapes Go.ChangeAt Go.RowKit Go.ChangeMaps Go.Deep
section
variable {H:Type} {enc:TypeId×Value->H} {P:Program} {W:World}
def Sr(P:Program)(W:World)(t:TypeId)(v:Value)(d:FC):Prop:=v.oneCell'=true/\bu W v d
def wf_u8'{n:Int}(h:(Lit.int .u8 n).wf=true):0<=n/\n<=255:=by
 simp only[Lit.wf,AO,Ai]at h;exact h
def as8{t e:TypeId}{fuel:Nat}{v:Value}{x:DataW H×List MemPlace}(ht:P.underlying t=some (.slice e))(he:P.underlying e=some (.int .u8))(hc:P.cellsOf e=1)
  (h:DataW.trod enc P W 0 (λ_=>true) true fuel t [v]=some x):∃l:D6,l.length<=maxLen/\(∀n∈l,0<=n/\n<=255)/\Sr P W t v (.ints .u8 l):=by
 rcases open_ints ht he hc h with⟨h1,_⟩|⟨a,len,cap,zs,h1,_,hl,hm,hz,_,hcell,hw⟩
 ·simp only[Cf,Bi]at h1
  subst h1;exact⟨[],AT _,by simp,rfl,none,0,rfl,AE _,λh=>by simp at h⟩
 ·simp only[Cf,Bi]at h1
  subst h1;simp only[AX]at hz;have hlen:(zs.take len).length=len:=by simp;omega
  refine⟨zs.take len,by rw[hlen];omega,λn hn=>wf_u8' (hw n (CP hn)),rfl,some a,cap,by rw[hlen],by rw[hlen];exact hl,λhpos=>?_⟩
  rw[hlen]at hpos;obtain⟨b,off,spot⟩:=a;have hs:spot=none:=by simpa[Addr.add]using World.cell?_spot (hcell 0 (by omega))
  subst hs;refine⟨b,off,rfl,λi hi=>?_⟩
  rw[hlen]at hi;refine⟨_,by rw[<-add_plain];exact hcell i (by omega),?_⟩
  simp[AM,Aw,hi]
def as9{t:TypeId}{v:Value}{d:FC}(h:Sr P W t v d)(i:Nat):dD P W [] [] [] i (.c d) v:=⟨h.1,h.2⟩
def at0{t:TypeId}{v:Value}{d:DataW H}{p:List MemPlace}(h1:v.cells.toList=[v])(h:DataW.Trod enc P W 0 (λ_=>true) true t v d p):∃n,DataW.trod enc P W 0 (λ_=>true) true n t [v]=some (d,p):=by
 obtain⟨n,hn⟩:=h;exact⟨n,by rw[<-h1];exact hn⟩
def Ss(hl:laidOutB P=true){W':World}(hb:Below W.heap.size W W'):∀{ts:List TypeId} {vs:List Value} {ds:List (DataW H)} {p:List MemPlace},(∀t∈ts,P.readableRec t=true/\t<P.types.size) ->
  DataW.TrodAll enc P W 0 (λ_=>true) true ts vs ds p->(∀x∈p,x.block<W.heap.size)->DataW.TrodAll enc P W' 0 (λb=>decide (b<W.heap.size)) true ts vs ds p
 | [],[],[],p,_,h,_=>h
 |t::ts,v::vs,d::ds,p,ht,h,ψ=>by
  obtain⟨p1,p2,h1,h2,rfl⟩:=h;exact⟨p1,p2,Below.trod hl (ht t (by simp)).1 (ht t (by simp)).2 h1 hb (λx hx=>ψ x (by simp[hx])),Ss hl hb (λt' h'=>ht t' (by simp[h'])) h2 (λx hx=>ψ x (by simp[hx])),rfl⟩
 | [],[],_::_,_,_,h,_=>h.elim
 | [],_::_,[],_,_,h,_=>h.elim
 | [],_::_,_::_,_,_,h,_=>h.elim
 |_::_,[],[],_,_,h,_=>h.elim
 |_::_,[],_::_,_,_,h,_=>h.elim
 |_::_,_::_,[],_,_,h,_=>h.elim
def Su{W:World}{base:Nat}{sp:Nat->Bool}{hd:Bool}:∀{ts:List TypeId} {vs:List Value} {ds:List (DataW H)} {p:List MemPlace},DataW.TrodAll enc P W base sp hd ts vs ds p->vs.length=ts.length/\ds.length=ts.length
 | [],[],[],_,_=>⟨rfl,rfl⟩
 |t::ts,v::vs,d::ds,p,h=>by
  obtain⟨p1,p2,_,h2,_⟩:=h;have:=Su h2
  simp[this.1,this.2]
 | [],[],_::_,_,h=>h.elim
 | [],_::_,[],_,h=>h.elim
 | [],_::_,_::_,_,h=>h.elim
 |_::_,[],[],_,h=>h.elim
 |_::_,[],_::_,_,h=>h.elim
 |_::_,_::_,[],_,h=>h.elim
end
def at1{C:Checked}{os:Os}{H:Type}{enc:TypeId×Value->H}{f:FuncId}{fn:Func}{s:ChangeSpec}{conds:List PathCond}{my handsOn:Bool}{tb:TypeId}
  (own:ownKnob C.prog.godebug=none)(started:os.Started)(noInit:C.prog.inits.idxOf? f=none)(hfn:C.prog.funcs[f]?=some fn)(hlaid:laidOutB C.prog=true)
  (hvars:s.vars=[])(hrd:∀t∈fn.params.toList,C.prog.readableRec t=true/\t<C.prog.types.size)(hres:fn.resultTypes=#[tb])(htb:C.prog.underlying tb=some .bool)
  (hspec:∀ds:List (DataW H),ds.length=fn.params.toList.length->s.fn H ds={ results:=[.lit (.bool true)],args:=ds,vars:=[] })
  (witness:∃(w:World) (tape:Tape) (i:Input),w.os=os/\(w.forCall tape i).Shaped C.prog/\i.vars=[]/\Input.okWide C.prog (w.forCall tape i) .any w.heap.size f i /\
   s.pre6 enc C.prog fn conds false (w.forCall tape i).memory i.args/\({}:Assume).holds C.prog (lone (Frame.enter C.prog f i.args .normal) [] (w.forCall tape i)))
  {ct:List AD->Option Post}(fits:Fits C.prog f ⟨[],ct⟩)
  (hopen:∀(W:World) (base:Nat) (vs:List Value) (ds:List (DataW H)) (p:List MemPlace),DataW.TrodAll enc C.prog W 0 (λ_=>true) true fn.params.toList vs ds p ->
   (∀(j:Nat) t v,fn.params[j]?=some t->vs[j]?=some v->Value.okWide C.prog W .any base t v) ->
   ∃(ads:List AD) (pre:Prop),ct ads=some ⟨pre,.c (.bool true),[]⟩/\pre/\vs.length=ads.length/\∀(i:Nat) (d:AD),ads[i]?=some d->∃v,vs[i]?=some v/\dD C.prog W [] [] [] i d v) :
  ReturnsInHanded {} C os f .any (s.pre6 enc C.prog fn conds false) (s.post enc C.prog fn false my handsOn false):=by
 refine returnsInHanded_of_change own started noInit hfn witness ?_
 intro W base args ds gs before hval hW _ _
 have hW':=hW
 obtain⟨p,q,hA,hV,rfl,hfz,hnd⟩:=hW;rw[hvars]at hV;obtain⟨rfl,rfl⟩:=trodVars_none hV;obtain⟨ads,pre,h1,h2,h3,h4⟩:=hopen W base args.toList ds p hA (λj t v ht hv=>hval j t v ht (by simpa using hv))
 have ω:=fits.run W W args.toList ads _ [] [] h1 h2 h3 rfl rfl rfl (by simp) (by simp) (by simp) (λq u hq=>⟨hq,by simp⟩) h4
 refine ω.mono λe W' ⟨v,ms',img,wG,he,haft,hms,_,_,hret⟩=>?_
 subst he;have hv:v=.bool true:=hret.val
 subst hv;have hB:Below W.heap.size W W':=haft.below
 have ψ:∀x∈p,x.block<W.heap.size:=λx hx=>by simpa using hW'.lt x (by simp[hx])
 have hsp:=hspec ds (Su hA).2
 refine⟨_,rfl,ds,[],p++[],[],p,[],hW',?_,?_,?_,hB.frame _,λh=>by cases h⟩
 ·rw[AV,hsp,hres]
  exact trodAll_cons_mk (shut_bool htb _) trodAll_mk0
 ·rw[AV,hsp]
  exact Ss hlaid hB hrd hA ψ
 ·rw[AV,hsp,hvars]
  rfl
end Go.Sx
end
