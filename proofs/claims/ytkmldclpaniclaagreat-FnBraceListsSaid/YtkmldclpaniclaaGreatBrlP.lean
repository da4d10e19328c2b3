/- BrlP -/
import Derived.Test.YtkmldclpaniclaaGreatNgA
import Derived.Test.YtkmldclpaniclaaGreatBrcC
import Derived.Test.YtkmldclpaniclaaGreatBrs
set_option linter.unusedSimpArgs false
set_option linter.unusedVariables false
set_option linter.defProp false
open Go Go.Proofs
namespace Go.Sx
def zH{n:Int}(h1:1<=n)(h2:n<=7):(aH n).length<=4802:=by
 have a:=wD (λt=>bG t (bL t (aa t))) 2401 (aE n) λx hx=>(rq h1 h2 hx).1
 have:(aE n).length*2401<=2*2401:=Bp _ (rp h1 h2).1
 rw[aH];omega
def iH{n:Nat}{a c:D7}(ha:am n a)(hc:am n c):bK n [a,c]:=λk hk=>by
 have:k=0\/k=1:=by simp at hk;omega
 rcases this with rfl|rfl
 ·exact ha
 ·exact hc
def zI{n:Nat}{a c a2 c2:D7}(hn:n<=12)(ha:am n a)(hc:am n c)(ha2:am n a2)(hc2:am n c2):jn [a,c] [a2,c2]:=by
 have e:bI [a,c]=n:=ha.1
 refine⟨by simp,rfl,by simp,by rw[e];omega,?_,λ_=>?_⟩<;>rw[e]
 ·exact qW (iH ha hc)
 ·exact qW (iH ha2 hc2)
def Vd{n:Nat}{a c a2 c2:D7}(G:GrpT n a)(H:GrpT n a2)(hc:am n c){p:D6}(h:isoL n [a,c] [a2,c2] p):p.getD 0 0=0:=by
 have hp:=G.pos
 have r:=h.rng 0 hp
 have m:=(h.g (iH G.tb hc)).map 0 0 0 (by simp) hp hp
 simp only[CR]at m;have z:(en a 0 0).toNat=0:=G.z1 0 hp
 rw[z]at m;have l0:ap p 0<n:=by simp only[ap];omega
 have e:gM a2 (ap p 0) (ap p 0)=ap p 0:=by
  simp only[gM,ap];omega
 have:=H.can (ap p 0) (ap p 0) 0 l0 l0 hp (by rw[e,H.z2 _ l0])
 simp only[ap]at this;omega
def LE{n:Nat}{a c a2 c2:D7}(hn:n<=12)(G:GrpT n a)(H:GrpT n a2)(hc:am n c)(hc2:am n c2):(cd [a,c] [a2,c2]=[]↔dG [a,c] [a2,c2] 1=[]):=by
 have e:nT [a,c]=n:=G.tb.1
 have e0:bI [a,c]=n:=G.tb.1
 have e2:nT [a2,c2]=n:=H.tb.1
 have e3:bI [a2,c2]=n:=H.tb.1
 have S:=(jY (zI hn G.tb hc H.tb hc2)).1
 have M:dG [a,c] [a2,c2] 1=(dL n [a,c] [a2,c2]).take 1:=by
  rw[dG,AA (by rw[e,e2]),e]
  exact pa (b:=[a2,c2]) (ζ:=1) (iH G.tb hc) rfl G.pos (AE 1)
 rw[M,List.eq_nil_iff_forall_not_mem]
 constructor
 ·intro h
  cases hA:dL n [a,c] [a2,c2]with
  |nil=>rfl
  |cons g l =>
   have:=((na (iH G.tb hc) G.pos).1 (by rw[hA];exact AZ (a:=g) (l:=l))).1
   exact absurd ((S g).2 ⟨by rw[e0,e3],by rw[e0];exact this⟩) (h g)
 ·intro h p hp
  have k:=((S p).1 hp).2
  rw[e0]at k;have m:=(na (iH G.tb hc) G.pos).2 ⟨k,Vd G H hc k⟩
  cases hA:dL n [a,c] [a2,c2]with
  |nil=>rw[hA]at m;cases m
  |cons g l=>rw[hA]at h;cases h
def oE{n:Int}(h1:1<=n)(h2:n<=7){q:D7×D7}(hq:q∈aH n):GrpT n.toNat q.1/\am n.toNat q.2:=by
 obtain⟨t,ht,hq⟩:=Am.1 hq;obtain⟨e,g⟩:=(rp h1 h2).2 t ht;have e':n.toNat=t.length:=by omega
 obtain⟨c,hc,rfl⟩:=AJ.1 hq;have G:=kK g
 rw[e'];exact⟨G,po G (by omega) (Bc.1 hc).1⟩
def LF{α:Type}(p:α->Bool)(z:α)(l:List α){i:Nat}(hi:i<l.length)(h:i<=l.findIdx p):(p (l.getD i z)=true->l.findIdx p=i)/\(p (l.getD i z)=false->i+1<=l.findIdx p):=by
 rw[bM l z i hi]
 constructor
 ·intro hp
  refine Nat.le_antisymm ?_ h
  exact Nat.le_of_not_lt fun ψ=>by
   have:=List.not_of_lt_findIdx ψ
   rw[hp]at this;cases this
 ·intro hp
  refine Nat.lt_of_le_of_ne h λe=>?_
  have:=List.findIdx_getElem (p:=p) (xs:=l) (w:=by omega)
  simp only[<-e]at this;rw[hp]at this;cases this
def g5(a c:D7)(q:D7×D7):Bool:=!(cd [a,c] [q.1,q.2]).isEmpty
def fq(a c:D7):Nat:=(aH a.length).findIdx (g5 a c)
def a8(a c:D7):Int×Int :=
 if cg a c=true then(if a.length<=7 then(if fq a c<(aH a.length).length then((fq a c:Int),0)else(0,4))else(0,3))else(0,1)
def zJ{a c:D7}(h:cg a c=false):a8 a c=(0,1):=by simp[a8,h]
def zK{a c:D7}(h:cg a c=true)(h7:7<a.length):a8 a c=(0,3):=by simp[a8,h,show ¬ a.length<=7 by omega]
def tC{a c:D7}(h:cg a c=true)(h7:a.length<=7){i:Nat}(hi:i<(aH a.length).length)(e:fq a c=i):a8 a c=((i:Int),0):=by
 rw[a8,AA h,AA h7,e,AA hi]
def zL{a c:D7}(h:cg a c=true)(h7:a.length<=7)(e:(aH a.length).length<=fq a c):a8 a c=(0,4):=by
 rw[a8,AA h,AA h7,AB (by omega)]
def oF{a c:D7}(h:cg a c=true):GrpT a.length a/\am a.length c:=by
 obtain⟨x,y,z,_⟩:=Oy h;have C:=(kK y).tb
 rw[<-z]at C;exact⟨kK x,C⟩
def Ve(l:D7):(bh (λ_ _=>false) [] l).2=l.isEmpty:=by
 cases l<;>simp[bh]
def zM:List AD->Option Post
 | [.agg [.rows .i64 a,.rows .i64 c]]=>some ⟨aJ a/\aJ c,.tup [.inl (.int .i64 (a8 a c).1),.inl (.int .i64 (a8 a c).2)],[]⟩
 |_=>none
def LG(a:D7)(c:D7):Nat->Option Ann
 |0=>T' (λi=>⟨⟨[(1,M' 500),(2,M' 502),(3,M' 503),(16,.c (.ro (.p3 .i64 (aH a.length)))),(17,A' ((((aH a.length).length:Int)))),(18,A' i)],[(500,P' [.ro (.rows .i64 a),.ro (.rows .i64 c)]),(502,P' [.int .i64 0]),(503,P' [.int .i64 0])]⟩,cg a c=true/\a.length<=7/\i<=fq a c/\i<=(aH a.length).length,(aH a.length).length-i⟩) (λi b_=>match b_ with|2=>some (Ann.rf 2 (λ_ _=>false) (λ_ _=>True) [500,502,503,504] [(1,M' 500),(2,M' 502),(3,M' 503),(4,M' 504),(16,.c (.ro (.p3 .i64 (aH a.length)))),(17,A' ((((aH a.length).length:Int)))),(18,A' i)] (λpre=>[(500,P' [.ro (.rows .i64 a),.ro (.rows .i64 c)]),(502,P' [.int .i64 0]),(503,P' [.int .i64 0]),(504,P' [.int .i64 ((i:Int))])]) (λpre=>[(500,P' [.ro (.rows .i64 a),.ro (.rows .i64 c)]),(502,P' [.int .i64 ((i:Int))]),(503,P' [.int .i64 0]),(504,P' [.int .i64 ((i:Int))])]))|_=>none)
 |_=>none
def kF(a:D7)(x0:Nat):=((aH (↑(a.length):Int)).getD (↑x0:Int).toNat (([]:D7),([]:D7)))
def tE(a:D7)(c:D7)(x0:Nat):=(cd (a::c::([]:D8)) ((kF a x0).1::(kF a x0).2::([]:D8)))
def g6(a:D7):=(aH (↑(a.length):Int))
def Vh:Fits Tryz.prog 33 ⟨[],zM⟩:=by
 refine ffv (Γ:=ah [(36,⟨[],qk⟩),(74,⟨[],wI⟩),(76,⟨[(0,93),(0,93)],pk⟩),(129,⟨[(0,93),(0,93)],pi⟩)]) (aq zp (aq Q1 (aq G5 (aq G0 aN)))) Tryz.func33 λds p h ξ=>?_
 unfold zM at h;split at h<;>cases h
 rename_i a c
 refine⟨aj,LG a c,((aJ a/\aJ c)/\True)/\ab (!cg a c) (((0:Int)=(a8 a c).1/\(1:Int)=(a8 a c).2/\True)/\True) (ab (decide ((7:Int)<(a.length:Int))) (((0:Int)=(a8 a c).1/\(3:Int)=(a8 a c).2/\True)/\True) ((((1:Int)<=(a.length:Int)/\(a.length:Int)<=(7:Int))/\True)/\(∃x0:Nat,(cg a c=true/\a.length<=(7:Nat)/\x0<=fq a c/\x0<=(g6 a).length)/\aH (a.length:Int)=aH (a.length:Int)/\(↑(FC.len (FC.p3 IntKind.i64 (g6 a))):Int)=(↑((g6 a).length):Int)/\(0:Int)=(x0:Int)/\a=a/\c=c/\(0:Int)=(0:Int)/\(0:Int)=(0:Int))/\∀x1:Nat,cg a c=true/\a.length<=(7:Nat)/\x1<=fq a c/\x1<=(g6 a).length->ab (decide ((x1:Int)<(↑((aH (a.length:Int)).length):Int))) (ac (x1:Int) (g6 a).length/\True/\(∀p:D7,true=true/\true=true)/\(aH (a.length:Int)=aH (a.length:Int)/\(↑((g6 a).length):Int)=(↑((g6 a).length):Int)/\(x1:Int)=(x1:Int)/\a=a/\c=c/\(0:Int)=(0:Int)/\(0:Int)=(0:Int)/\(x1:Int)=(x1:Int)/\a::c::([]:D8)=a::c::([]:D8)/\(kF a x1).1::(kF a x1).2::([]:D8)=(kF a x1).1::(kF a x1).2::([]:D8))/\(∀p2:D7,∀x3:D6,True->false=false/\x3=x3/\a=a/\c=c/\(x1:Int)=(x1:Int)/\(0:Int)=(0:Int)/\(x1:Int)=(x1:Int))/\∀Y4:YJ,YJ.P Y4=Go.Proofs.Tryz.prog->YJ.e Y4=(2:Go.TypeId)->(YJ.go Y4=λ(x:D7) (x_1:D6)=>false)->(YJ.ok Y4=λ(x:D7) (x_1:D6)=>True)->(jn (a::c::([]:D8)) ((kF a x1).1::(kF a x1).2::([]:D8))/\YJ.P Y4=Go.Proofs.Tryz.prog/\YJ.e Y4=(2:Go.TypeId)/\eJ (YJ.ok Y4) (YJ.go Y4) ([]:D7) (tE a c x1))/\Y4=Y4/\((bh (YJ.go Y4) ([]:D7) (tE a c x1)).2=true->ae ((x1:Int)+(1:Int))/\∃x5:Nat,(cg a c=true/\a.length<=(7:Nat)/\x5<=fq a c/\x5<=(g6 a).length)/\(g6 a).length-x5<(g6 a).length-x1/\aH (a.length:Int)=aH (a.length:Int)/\(↑((g6 a).length):Int)=(↑((g6 a).length):Int)/\(x1:Int)+(1:Int)=(x5:Int)/\a=a/\c=c/\(0:Int)=(0:Int)/\(0:Int)=(0:Int))/\((bh (YJ.go Y4) ([]:D7) (tE a c x1)).2=false->((x1:Int)=(a8 a c).1/\(0:Int)=(a8 a c).2/\True)/\True)) (((0:Int)=(a8 a c).1/\(4:Int)=(a8 a c).2/\True)/\True))),by kernel_rfl,?_⟩
 simp only[kF,tE,g6,aO]at ξ⊢;refine⟨ξ,λh=>by rw[zJ h];exact⟨rfl,rfl⟩,λh=>⟨λh7=>by rw[zK h (by omega)];exact⟨rfl,rfl⟩,λh7=>?_⟩⟩
 obtain⟨G,tc⟩:=oF h;have hp:=G.pos
 have h7:a.length<=7:=by omega
 refine⟨⟨by omega,by omega⟩,⟨0,⟨h,by omega,by omega,by omega⟩,?_⟩,λi hh=>?_⟩
 ·exact⟨rfl,rfl⟩
 ·obtain⟨_,_,hi,hl⟩:=hh
  refine⟨fun ψ=>?_,λhge=>by rw[zL h h7 (by omega)];exact⟨rfl,rfl⟩⟩
  have hL:=zH (n:=a.length) (by omega) (by omega)
  have hi1:i<(aH a.length).length:=by omega
  have F:=LF (g5 a c) ([],[]) (aH a.length) hi1 hi
  obtain⟨H,tc2⟩:=oE (by omega) (by omega) (bN (aH a.length) ([],[]) i hi1)
  rw[An]at H tc2;refine⟨by omega,λ_=>trivial,λ_ _ _=>trivial,λY q1 q2 q3 q4=>?_⟩
  rw[q3,q4,Ve];refine⟨⟨zI (by omega) G.tb tc H.tb tc2,q1,q2,?_⟩,λhv=>⟨by omega,i+1,⟨h,h7,F.2 ?_,by omega⟩,by omega,by omega⟩,λhv=>?_⟩
  ·generalize cd [a,c] _=l
   cases l<;>simp[eJ]
  ·rw[g5,hv];rfl
  ·rw[tC h h7 hi1 (F.1 (by rw[g5,hv];rfl))];exact⟨rfl,rfl⟩
def zO:List AD->Option Post
 | [.agg [.rows .i64 a,.rows .i64 c],.agg [.rows .i64 a2,.rows .i64 c2],.c (.bool q)]=>some ⟨1<=a.length/\a.length<=12/\am a.length a/\am a.length c/\am a2.length a2/\am a2.length c2,.c (.rows 62 2 .i64 (dG [a,c] [a2,c2] (if q=true then 1 else 1000000))),[]⟩
 |_=>none
def fb(a:D7)(c:D7):=(a::c::([]:D8))
def Vk:Fits Tryz.prog 75 ⟨[],zO⟩:=by
 refine ffv (Γ:=ah [(128,⟨[],wP⟩)]) (aq Rh aN) Tryz.func75 λds p h ξ=>?_
 unfold zO at h;split at h<;>cases h
 rename_i a c a2 c2 q
 refine⟨aj,ar,ab ((a.length:Int) != (a2.length:Int)) (([]:D7)=dG (fb a c) (a2::c2::([]:D8)) (if q=true then(1:Int)else(1000000:Int))/\True) (ab q ((([(0:Int)]=[(0:Int)]/\(1:Nat)<=(fb a c).length/\(fb a c).length<=(1000:Nat)/\(a2::c2::([]:D8)).length=(fb a c).length/\(1:Nat)<=nT (fb a c)/\nT (fb a c)<=(12:Nat)/\bK (nT (fb a c)) (fb a c)/\bK (nT (a2::c2::([]:D8))) (a2::c2::([]:D8))/\(1:Int)<=(1:Int)/\(1:Int)<=(1000000:Int))/\True)/\dG (fb a c) (a2::c2::([]:D8)) (1:Int)=dG (fb a c) (a2::c2::([]:D8)) (if q=true then(1:Int)else(1000000:Int))/\True) ((([(0:Int)]=[(0:Int)]/\(1:Nat)<=(fb a c).length/\(fb a c).length<=(1000:Nat)/\(a2::c2::([]:D8)).length=(fb a c).length/\(1:Nat)<=nT (fb a c)/\nT (fb a c)<=(12:Nat)/\bK (nT (fb a c)) (fb a c)/\bK (nT (a2::c2::([]:D8))) (a2::c2::([]:D8))/\(1:Int)<=(1000000:Int)/\(1000000:Int)<=(1000000:Int))/\True)/\dG (fb a c) (a2::c2::([]:D8)) (1000000:Int)=dG (fb a c) (a2::c2::([]:D8)) (if q=true then(1:Int)else(1000000:Int))/\True)),by kernel_rfl,?_⟩
 simp only[fb,aO]at ξ⊢;obtain⟨h1,h2,h3,h4,h5,h6⟩:=ξ;have e:nT [a,c]=a.length:=rfl
 have e2:nT [a2,c2]=a2.length:=rfl
 refine⟨λh=>?_,λh=>?_⟩
 ·rw[dG,AB (by rw[e,e2];omega)]
 ·have T:bK (nT [a,c]) [a,c]:=iH h3 h4
  have T2:bK (nT [a2,c2]) [a2,c2]:=iH h5 h6
  exact⟨λhq=>⟨⟨by omega,by omega,by omega,by omega,T,T2,by omega,by omega⟩,by rw[AA hq]⟩,λhq=>⟨⟨by omega,by omega,by omega,by omega,T,T2,by omega,by omega⟩,by rw[hq];rfl⟩⟩
def zQ:List AD->Option Post
 | [.agg [.rows .i64 a,.rows .i64 c]]=>some ⟨aJ a/\aJ c,.tup [.inl (.int .i64 (a8 a c).1),.inl (.int .i64 (a8 a c).2)],[]⟩
 |_=>none
def LJ(a:D7)(c:D7):Nat->Option Ann
 |1=>Q' λi=>⟨⟨[(1,M' 500),(2,A' 0),(3,A' 0),(4,.c (.ro (.p3 .i64 (aH a.length)))),(5,A' i)],[(500,P' [.ro (.rows .i64 a),.ro (.rows .i64 c)])]⟩,cg a c=true/\a.length<=7/\i<=fq a c/\i<=(aH a.length).length,(aH a.length).length-i⟩
 |_=>none
def qn(a:D7)(x0:Nat):=((aH (↑(a.length):Int)).getD (↑x0:Int).toNat (([]:D7),([]:D7)))
def Vn:Fits Tryz.prog 31 ⟨[],zQ⟩:=by
 refine ffv (Γ:=ah [(61,⟨[],ta⟩),(72,⟨[],wK⟩),(75,⟨[],zO⟩)]) (aq Lg (aq Q5 (aq Vk aN))) Tryz.func31 λds p h ξ=>?_
 unfold zQ at h;split at h<;>cases h
 rename_i a c
 refine⟨aj,LJ a c,((aJ a/\aJ c)/\True)/\ab (!cg a c) (((0:Int)=(a8 a c).1/\(1:Int)=(a8 a c).2/\True)/\True) (ab (decide ((7:Int)<(a.length:Int))) (((0:Int)=(a8 a c).1/\(3:Int)=(a8 a c).2/\True)/\True) ((((1:Int)<=(a.length:Int)/\(a.length:Int)<=(7:Int))/\True)/\(∃x0:Nat,(cg a c=true/\a.length<=(7:Nat)/\x0<=fq a c/\x0<=(aH (a.length:Int)).length)/\(0:Int)=(0:Int)/\(0:Int)=(0:Int)/\aH (a.length:Int)=aH (a.length:Int)/\(0:Int)=(x0:Int)/\a=a/\c=c)/\∀x1:Nat,cg a c=true/\a.length<=(7:Nat)/\x1<=fq a c/\x1<=(aH (a.length:Int)).length->ab (decide ((x1:Int)<(↑((aH (a.length:Int)).length):Int))) (ac (x1:Int) ((aH (a.length:Int)).length)/\(((1:Nat)<=a.length/\a.length<=(12:Nat)/\am a.length a/\am a.length c/\am (((qn a x1).1).length) (qn a x1).1/\am (((qn a x1).1).length) (qn a x1).2)/\True)/\ab (decide ((0:Int)<(↑((dG (a::c::([]:D8)) (((aH (a.length:Int)).getD (x1:Int).toNat (([]:D7),([]:D7))).1::((aH (a.length:Int)).getD (x1:Int).toNat (([]:D7),([]:D7))).2::([]:D8)) (if true=true then(1:Int)else(1000000:Int))).length):Int))) (((x1:Int)=(a8 a c).1/\(0:Int)=(a8 a c).2/\True)/\True) (ae ((x1:Int)+(1:Int))/\∃x2:Nat,(cg a c=true/\a.length<=(7:Nat)/\x2<=fq a c/\x2<=(aH (a.length:Int)).length)/\(aH (a.length:Int)).length-x2<(aH (a.length:Int)).length-x1/\(0:Int)=(0:Int)/\(0:Int)=(0:Int)/\aH (a.length:Int)=aH (a.length:Int)/\(x1:Int)+(1:Int)=(x2:Int)/\a=a/\c=c)) (((0:Int)=(a8 a c).1/\(4:Int)=(a8 a c).2/\True)/\True))),by kernel_rfl,?_⟩
 simp only[qn,aO]at ξ⊢;refine⟨ξ,λh=>by rw[zJ h];exact⟨rfl,rfl⟩,λh=>⟨λh7=>by rw[zK h (by omega)];exact⟨rfl,rfl⟩,λh7=>?_⟩⟩
 obtain⟨G,tc⟩:=oF h;have hp:=G.pos
 have h7:a.length<=7:=by omega
 refine⟨⟨by omega,by omega⟩,⟨0,⟨h,by omega,by omega,by omega⟩,?_⟩,λi hh=>?_⟩
 ·rfl
 ·obtain⟨_,_,hi,hl⟩:=hh
  refine⟨fun ψ=>?_,λhge=>by rw[zL h h7 (by omega)];exact⟨rfl,rfl⟩⟩
  have hL:=zH (n:=a.length) (by omega) (by omega)
  have hi1:i<(aH a.length).length:=by omega
  have F:=LF (g5 a c) ([],[]) (aH a.length) hi1 hi
  obtain⟨H,tc2⟩:=oE (by omega) (by omega) (bN (aH a.length) ([],[]) i hi1)
  rw[An]at H tc2;have M:=LE (by omega) G H tc tc2
  have lq:=H.tb.1
  rw[AA trivial];refine⟨by omega,⟨hp,by omega,G.tb,tc,by rw[lq];exact H.tb,by rw[lq];exact tc2⟩,λhv=>?_,λhv=>⟨by omega,i+1,⟨h,h7,F.2 ?_,by omega⟩,by omega,by omega⟩⟩
  ·rw[tC h h7 hi1 (F.1 ?_)]
   ·exact⟨rfl,rfl⟩
   ·have ne:cd [a,c] [((aH a.length).getD i ([],[])).1,((aH a.length).getD i ([],[])).2]≠[]:=λhn=>by
     rw[M.1 hn]at hv;simp at hv
    rw[g5];cases hI:cd [a,c] [((aH a.length).getD i ([],[])).1,((aH a.length).getD i ([],[])).2]with
    |nil=>exact absurd hI ne
    |cons x l=>rfl
  ·have z:dG [a,c] [((aH a.length).getD i ([],[])).1,((aH a.length).getD i ([],[])).2] 1=[]:=List.length_eq_zero_iff.1 (by omega)
   rw[g5,M.2 z];rfl
def zS:List AD->Option Post
 | [.c (.ints .u8 η)]=>some ⟨bz η/\η.length<=4096,.c (.int .i64 (az η 0 (cK η η.length) 9)),[]⟩
 |_=>none
def Vq:Fits Tryz.prog 35 ⟨[],zS⟩:=by
 refine ffv (Γ:=ah [(78,⟨[],uK⟩),(77,⟨[(0,0)],lN⟩)]) (aq NR (aq oQ aN)) Tryz.func35 λds p h ξ=>?_
 unfold zS at h;split at h<;>cases h
 rename_i η
 refine⟨aj,ar,((bz η/\η.length<=(4096:Nat))/\True)/\((bz η/\(0:Int)<=(0:Int)/\(0:Int)<=(1099511627776:Int))/\η=η/\True)/\az η (0:Int) (cK η η.length) (9:Int)=az η (0:Int) (cK η η.length) (9:Int)/\True,by kernel_rfl,?_⟩
 simp only[aO]at ξ⊢;exact⟨ξ,ξ.1,by omega,by omega⟩
def qo(η:D6):Int:=6+(az η 0 (cK η η.length) 12).tdiv 6
def ai(η:D6):Bd:=eg η (aC η.length 0 12) (aK (cK η η.length) 12) (qo η)
def zU:List AD->Option Post
 | [.c (.ints .u8 η)]=>some ⟨bz η/\η.length<=4096,.agg [.rows 62 2 .i64 (ai η).1,.ro (.rows .i64 ((ai η).2.1))],[]⟩
 |_=>none
def mO(η:D6):=(az η (0:Int) (cK η η.length) (12:Int))
def Vt:Fits Tryz.prog 81 ⟨[],zU⟩:=by
 refine ffv (Γ:=ah [(78,⟨[],uK⟩),(77,⟨[(0,0)],lN⟩),(107,⟨[(0,0)],Eh⟩)]) (aq NR (aq oQ (aq Wu aN))) Tryz.func81 λds p h ξ=>?_
 unfold zU at h;split at h<;>cases h
 rename_i η
 refine⟨aj,ar,((bz η/\η.length<=(4096:Nat))/\True)/\((bz η/\(0:Int)<=(0:Int)/\(0:Int)<=(1099511627776:Int))/\η=η/\True)/\((6:Int)≠(0:Int)/\ae (Int.tdiv (mO η) (6:Int)))/\ae ((6:Int)+Int.tdiv (mO η) (6:Int))/\((bz η/\η.length<=(4096:Nat)/\(0:Int)<=aC η.length (0:Int) (12:Int)/\aC η.length (0:Int) (12:Int)<=(η.length:Int)/\(1:Int)<=(6:Int)+Int.tdiv (mO η) (6:Int)/\(6:Int)+Int.tdiv (mO η) (6:Int)<=(8:Int))/\η=η/\True)/\((eg η (aC η.length (0:Int) (12:Int)) (aK (cK η η.length) (12:Int)) ((6:Int)+Int.tdiv (mO η) (6:Int))).1=(ai η).1/\((eg η (aC η.length (0:Int) (12:Int)) (aK (cK η η.length) (12:Int)) ((6:Int)+Int.tdiv (mO η) (6:Int))).2).1=((ai η).2).1/\True)/\True,by kernel_rfl,?_⟩
 simp only[mO,aO]at ξ⊢;obtain⟨hb,hc⟩:=ξ;have v:=gL hb 0 (cK η η.length) (n:=12) (by omega)
 have s:=dS (L:=η.length) (a:=0) (n:=12) (by omega) (by omega)
 have q:0<=(az η 0 (cK η η.length) 12).tdiv 6/\(az η 0 (cK η η.length) 12).tdiv 6<=1:=by
  rw[DP v.1];omega
 exact⟨⟨hb,hc⟩,⟨hb,by omega,by omega⟩,by omega,by omega,⟨hb,hc,s.1,s.2,by omega,by omega⟩,rfl,rfl⟩
def zW:List AD->Option Post
 | [.c (.ints .u8 η)]=>some ⟨bz η/\η.length<=4096,.agg [.rows 62 2 .i64 (ai η).1,.ro (.rows .i64 ((ai η).2.1))],[]⟩
 |_=>none
def Vw:Fits Tryz.prog 37 ⟨[],zW⟩:=by
 refine ffv (Γ:=ah [(81,⟨[],zU⟩)]) (aq Vt aN) Tryz.func37 λds p h ξ=>?_
 unfold zW at h;split at h<;>cases h
 rename_i η
 refine⟨aj,ar,((bz η/\η.length<=(4096:Nat))/\True)/\((ai η).1=(ai η).1/\((ai η).2).1=((ai η).2).1/\True)/\True,by kernel_rfl,?_⟩
 simp only[aO]at ξ⊢;exact ξ
def zY:List AD->Option Post
 | [.c (.ints .i64 l)]=>some ⟨l.length<=1099511627776,.c (.bool (decide (1<=(l.length:Int)/\(l.length:Int)<=12)&&cH l)),[]⟩
 |_=>none
def Vz:Fits Tryz.prog 83 ⟨[],zY⟩:=by
 refine ffv (Γ:=ah [(131,⟨[],vS⟩)]) (aq Po aN) Tryz.func83 λds p h ξ=>?_
 unfold zY at h;split at h<;>cases h
 rename_i l
 refine⟨aj,ar,(l.length<=(1099511627776:Nat)/\True)/\(decide ((1:Int)<=(l.length:Int)/\(l.length:Int)<=(12:Int))&&cH l)=(decide ((1:Int)<=(l.length:Int)/\(l.length:Int)<=(12:Int))&&cH l)/\True,by kernel_rfl,?_⟩
 simp only[aO]at ξ⊢;exact ξ
def dQ(a c a2 c2:D7):D6×Int :=
 if cg a c=true/\cg a2 c2=true then(match cd [a,c] [a2,c2]with | []=>([],4)|p::_=>(p,0))else([],1)
def z7:List AD->Option Post
 | [.agg [.rows .i64 a,.rows .i64 c],.agg [.rows .i64 a2,.rows .i64 c2]]=>some ⟨aJ a/\aJ c/\aJ a2/\aJ c2,.tup [.inl (.ints 2 .i64 (dQ a c a2 c2).1),.inl (.int .i64 (dQ a c a2 c2).2)],[]⟩
 |_=>none
def LP(a:D7)(c:D7)(a2:D7)(c2:D7):Nat->Option Ann
 |0=>some (Ann.rf 2 (λ_ _=>false) (λ_ x=>1<=x.length/\x.length<=100) [500,501,502,503] [(2,.c (.ptr 500 0)),(3,.c (.ptr 501 0)),(4,.c (.ptr 502 0)),(5,.c (.ptr 503 0))] (λpre=>[(500,some (.box [.ro (.rows .i64 a),.ro (.rows .i64 c)])),(501,some (.box [.ro (.rows .i64 a2),.ro (.rows .i64 c2)])),(502,some (.box [.nil])),(503,some (.box [.int .i64 0]))]) (λpre=>[(500,some (.box [.ro (.rows .i64 a),.ro (.rows .i64 c)])),(501,some (.box [.ro (.rows .i64 a2),.ro (.rows .i64 c2)])),(502,some (.box [.own 504])),(503,some (.box [.int .i64 0])),(504,some (.ints 2 .i64 (pre.getLastD [])))]))
 |_=>none
def VC:Fits Tryz.prog 38 ⟨[],z7⟩:=by
 refine ffv (Γ:=ah [(36,⟨[],qk⟩),(76,⟨[(0,93),(0,93)],pk⟩),(129,⟨[(0,93),(0,93)],pi⟩),(82,⟨[],qX⟩)]) (aq zp (aq G5 (aq G0 (aq G3 aN)))) Tryz.func38 λds p h ξ=>?_
 unfold z7 at h;split at h<;>cases h
 rename_i a c a2 c2
 refine⟨aj,LP a c a2 c2,((aJ a/\aJ c)/\True)/\ab (!cg a c) (([]=(dQ a c a2 c2).1/\(1:Int)=(dQ a c a2 c2).2/\True)/\True) (((aJ a2/\aJ c2)/\True)/\ab (!cg a2 c2) (([]=(dQ a c a2 c2).1/\(1:Int)=(dQ a c a2 c2).2/\True)/\True) (True/\(∀p:D7,true=true/\true=true)/\(a=a/\c=c/\a2=a2/\c2=c2/\(0:Int)=(0:Int)/\a::c::([]:D8)=a::c::([]:D8)/\a2::c2::([]:D8)=a2::c2::([]:D8))/\(∀p0:D7,∀x1:D6,(1:Nat)<=x1.length/\x1.length<=(100:Nat)->((x1.length≠(0:Nat)/\au x1.length)/\True)/\false=false/\x1=x1/\a=a/\c=c/\a2=a2/\c2=c2/\(0:Int)=(0:Int)/\x1=List.getLastD (p0++x1::([]:D7)) [])/\∀Y2:YJ,YJ.P Y2=Go.Proofs.Tryz.prog->YJ.e Y2=(2:Go.TypeId)->(YJ.go Y2=λ(x:D7) (x_1:D6)=>false)->(YJ.ok Y2=λ(x:D7) (x_1:D6)=>(1:Nat)<=x_1.length/\x_1.length<=(100:Nat))->(jn (a::c::([]:D8)) (a2::c2::([]:D8))/\YJ.P Y2=Go.Proofs.Tryz.prog/\YJ.e Y2=(2:Go.TypeId)/\eJ (YJ.ok Y2) (YJ.go Y2) ([]:D7) (cd (a::c::([]:D8)) (a2::c2::([]:D8))))/\Y2=Y2/\((bh (YJ.go Y2) ([]:D7) (cd (a::c::([]:D8)) (a2::c2::([]:D8)))).2=true->([]=(dQ a c a2 c2).1/\(4:Int)=(dQ a c a2 c2).2/\True)/\True)/\((bh (YJ.go Y2) ([]:D7) (cd (a::c::([]:D8)) (a2::c2::([]:D8)))).2=false->(List.getLastD ((bh (YJ.go Y2) ([]:D7) (cd (a::c::([]:D8)) (a2::c2::([]:D8)))).1) []=(dQ a c a2 c2).1/\(0:Int)=(dQ a c a2 c2).2/\True)/\True))),by kernel_rfl,?_⟩
 simp only[aO]at ξ⊢;obtain⟨r1,r2,r3,r4⟩:=ξ;refine⟨⟨r1,r2⟩,λh=>?_,λh=>⟨⟨r3,r4⟩,λh2=>?_,λh2=>?_⟩⟩
 ·rw[dQ,AB (by rw[h];simp)];exact⟨rfl,rfl⟩
 ·rw[dQ,AB (by rw[h2];simp)];exact⟨rfl,rfl⟩
 ·obtain⟨G,tc⟩:=oF h
  obtain⟨H,tc2⟩:=oF h2;have B:dQ a c a2 c2=(match cd [a,c] [a2,c2]with | []=>([],4)|p::_=>(p,0)):=AA ⟨h,h2⟩
  have l1:=(gH (jV (Oy h).1)).2.1
  have e:bI [a,c]=a.length:=rfl
  have e2:bI [a2,c2]=a2.length:=rfl
  have P:jn [a,c] [a2,c2]:=by
   refine⟨by simp,rfl,by simp,by rw[e];omega,?_,λq=>?_⟩<;>rw[e]
   ·exact qW (iH G.tb tc)
   ·rw[e,e2]at q
    rw[<-q];exact qW (iH H.tb tc2)
  have S:=(jY P).1
  rw[B];generalize cd [a,c] [a2,c2]=l at *
  refine⟨λ_=>trivial,λp0 x1 hx=>⟨⟨by omega,by omega⟩,by simp⟩,λY q1 q2 q3 q4=>?_⟩
  rw[q3,q4];cases l with
  |nil=>exact⟨⟨P,q1,q2,trivial⟩,λ_=>⟨rfl,rfl⟩,λh=>by cases h⟩
  |cons x l =>
   have:=((S x).1 AZ).2.len
   rw[e]at this;have hp:=G.pos
   exact⟨⟨P,q1,q2,⟨by omega,by omega⟩,λh=>by cases h⟩,λh=>by simp[bh]at h,λ_=>⟨by simp[bh],rfl⟩⟩
def cQ(t:D7)(p:D6):Nat->D7
 |0=>List.replicate t.length (List.replicate t.length 0)
 |x+1=>dJ t p x t.length (cQ t p x)
def VD{n:Nat}:am n (List.replicate n (List.replicate n (0:Int))):=by
 refine⟨by simp,λx hx=>?_⟩
 have r:(List.replicate n (List.replicate n (0:Int))).getD x []=List.replicate n 0:=by
  rw[AM,Cz,AA hx];rfl
 refine⟨by rw[r];simp,λy hy=>?_⟩
 unfold en;rw[r,AM,Cz,AA hy];simp;omega
def tM{n:Nat}{t:D7}{p:D6}(ht:am n t)(hp:IsP n p):∀X,X<=n->am n (cQ t p X)/\∀a b,a<X->b<n->en (cQ t p X) (ap p a) (ap p b)=p.getD (gM t a b) 0
 |0,_=>⟨by rw[cQ,ht.1];exact VD,λa b h=>by omega⟩
 |X+1,hX=>by
  obtain⟨h1,h2⟩:=tM ht hp X (by omega)
  have e:t.length=n:=ht.1
  obtain⟨k1,k2⟩:=sT ht hp (x:=X) (by omega) h1 n (AE _)
  have st:cQ t p (X+1)=dJ t p X n (cQ t p X):=by rw[cQ,e]
  rw[st];refine⟨k1,λa b ha hb=>?_⟩
  rw[k2 a b (by omega) hb]
  by_cases hc:a=X
  ·rw[AA ⟨hc,hb⟩]
  ·rw[AB λh=>hc h.1];exact h2 a b (by omega) hb
def VE{n:Nat}{t:D7}{p:D6}(ht:am n t)(hp:IsP n p):ImO n t p (cQ t p n):=⟨(tM ht hp n (AE _)).1,(tM ht hp n (AE _)).2⟩
def Ea:List AD->Option Post
 | [.c (.rows .i64 t),.c (.ints .i64 p)]=>some ⟨am p.length t/\IsP p.length p/\1<=p.length/\p.length<=12,.c (.rows 62 2 .i64 (cQ t p t.length)),[]⟩
 |_=>none
def LR(t:D7)(p:D6):Nat->Option Ann
 |0=>Q' λi=>⟨⟨[(0,G' t),(1,D' p),(5,J' 600),(6,A' i)],[(600,N' (List.replicate i (List.replicate t.length 0)))]⟩,i<=t.length,t.length-i⟩
 |2=>T' (λx=>⟨⟨[(0,G' t),(1,D' p),(5,J' 600),(7,A' x)],[(600,N' (cQ t p x))]⟩,x<=t.length,t.length-x⟩) (λx b_=>match b_ with|4=>Q' λy=>⟨⟨[(0,G' t),(1,D' p),(5,J' 600),(7,A' x),(8,A' y)],[(600,N' (dJ t p x y (cQ t p x)))]⟩,x<t.length/\y<=t.length,t.length-y⟩|_=>none)
 |_=>none
def VH:Fits Tryz.prog 40 ⟨[],Ea⟩:=by
 refine ffv (Γ:=ah [(83,⟨[],zY⟩)]) (aq Vz aN) Tryz.func40 λds p h ξ=>?_
 unfold Ea at h;split at h<;>cases h
 rename_i t p
 refine⟨aj,LR t p,ab ((p.length:Int) != (t.length:Int)) (([]:D7)=cQ t p t.length/\True) ((p.length<=(1099511627776:Nat)/\True)/\ab (!(decide ((1:Int)<=(p.length:Int)/\(p.length:Int)<=(12:Int))&&cH p)) (([]:D7)=cQ t p t.length/\True) ((∃x0:Nat,x0<=t.length/\t=t/\p=p/\(0:Int)=(x0:Int)/\([]:D7)=List.replicate x0 (List.replicate t.length (0:Int)))/\∀x1:Nat,x1<=t.length->ab (decide ((x1:Int)<(t.length:Int))) (((0:Int)<=(t.length:Int)/\(t.length:Int)<=(t.length:Int)/\au ((t.length:Int).toNat))/\au ((List.replicate x1 (List.replicate t.length (0:Int))).length+(List.replicate ((t.length:Int).toNat) (0:Int)::([]:D7)).length)/\ae ((x1:Int)+(1:Int))/\∃x2:Nat,x2<=t.length/\t.length-x2<t.length-x1/\t=t/\p=p/\(x1:Int)+(1:Int)=(x2:Int)/\List.replicate x1 (List.replicate t.length (0:Int))++List.replicate ((t.length:Int).toNat) (0:Int)::([]:D7)=List.replicate x2 (List.replicate t.length (0:Int))) ((∃x3:Nat,x3<=t.length/\t=t/\p=p/\(0:Int)=(x3:Int)/\List.replicate x1 (List.replicate t.length (0:Int))=cQ t p x3)/\∀x4:Nat,x4<=t.length->ab (decide ((x4:Int)<(t.length:Int))) ((∃x5:Nat,(x4<t.length/\x5<=t.length)/\t=t/\p=p/\(x4:Int)=(x4:Int)/\(0:Int)=(x5:Int)/\cQ t p x4=dJ t p x4 x5 (cQ t p x4))/\∀x6:Nat,x4<t.length/\x6<=t.length->ac (x4:Int) t.length/\ab (decide ((x6:Int)<(↑((t.getD (x4:Int).toNat []).length):Int))) (ab (decide ((x6:Int)<(t.length:Int))) (ac (x4:Int) t.length/\ac (x6:Int) ((t.getD (x4:Int).toNat []).length)/\ab (decide ((List.getD t (x4:Int).toNat []).getD (x6:Int).toNat (0:Int)<(0:Int))) (([]:D7)=cQ t p t.length/\True) (ac (x4:Int) t.length/\ac (x6:Int) ((t.getD (x4:Int).toNat []).length)/\ab (decide ((p.length:Int)<=(List.getD t (x4:Int).toNat []).getD (x6:Int).toNat (0:Int))) (([]:D7)=cQ t p t.length/\True) (ac (x4:Int) p.length/\ac (p.getD (x4:Int).toNat (0:Int)) ((dJ t p x4 x6 (cQ t p x4)).length)/\ac (x6:Int) p.length/\ac (x4:Int) t.length/\ac (x6:Int) ((t.getD (x4:Int).toNat []).length)/\ac ((List.getD t (x4:Int).toNat []).getD (x6:Int).toNat (0:Int)) p.length/\ac (p.getD (x6:Int).toNat (0:Int)) (((dJ t p x4 x6 (cQ t p x4)).getD ((p.getD (x4:Int).toNat (0:Int)).toNat) []).length)/\ae ((x6:Int)+(1:Int))/\∃x7:Nat,(x4<t.length/\x7<=t.length)/\t.length-x7<t.length-x6/\t=t/\p=p/\(x4:Int)=(x4:Int)/\(x6:Int)+(1:Int)=(x7:Int)/\List.set (dJ t p x4 x6 (cQ t p x4)) ((p.getD (x4:Int).toNat (0:Int)).toNat) (List.set ((dJ t p x4 x6 (cQ t p x4)).getD ((p.getD (x4:Int).toNat (0:Int)).toNat) []) ((p.getD (x6:Int).toNat (0:Int)).toNat) (p.getD (((List.getD t (x4:Int).toNat []).getD (x6:Int).toNat (0:Int)).toNat) (0:Int)))=dJ t p x4 x7 (cQ t p x4)))) (ae ((x4:Int)+(1:Int))/\∃x8:Nat,x8<=t.length/\t.length-x8<t.length-x4/\t=t/\p=p/\(x4:Int)+(1:Int)=(x8:Int)/\dJ t p x4 x6 (cQ t p x4)=cQ t p x8)) (ae ((x4:Int)+(1:Int))/\∃x9:Nat,x9<=t.length/\t.length-x9<t.length-x4/\t=t/\p=p/\(x4:Int)+(1:Int)=(x9:Int)/\dJ t p x4 x6 (cQ t p x4)=cQ t p x9)) (cQ t p x4=cQ t p t.length/\True)))),by kernel_rfl,?_⟩
 simp only[aO]at ξ⊢;obtain⟨ht,hp,h1,h2⟩:=ξ;have hl:=ht.1
 have pm:cH p=true:=by
  simp only[cH,Ai];refine⟨λx hx=>?_,hp.nd⟩
  obtain⟨i,hi,rfl⟩:=A7 hx;have:=hp.rng i hi
  rw[bM p 0 i hi]at this;exact this
 refine⟨λh=>by omega,λ_=>⟨by omega,λh=>?_,λ_=>⟨⟨0,by omega,rfl,rfl⟩,λi hi=>⟨fun ψ=>⟨⟨by omega,by omega,by omega⟩,by omega,by omega,i+1,by omega,by omega,by omega,(C0).symm⟩,λhge=>⟨⟨0,by omega,rfl,?_⟩,λx hx=>⟨λhxl=>⟨⟨0,⟨by omega,by omega⟩,rfl,rfl⟩,λy ⟨_,hy⟩=>?_⟩,λhxl=>?_⟩⟩⟩⟩⟩⟩
 ·rw[pm,C3,B4]at h;omega
 ·rw[show i=t.length by omega];rfl
 ·have row:=ht.2 x (by omega)
  have rl:=row.1
  have C:=(sT ht hp (x:=x) (by omega) (tM ht hp x (by omega)).1 y (by omega)).1
  have px:=hp.rng x (by omega)
  refine⟨by omega,λhyl=>⟨λhyt=>?_,λhyt=>by omega⟩,λhyl=>⟨by omega,x+1,by omega,by omega,by omega,?_⟩⟩
  ·have v:0<=(t.getD x []).getD y 0/\(t.getD x []).getD y 0<(p.length:Int):=row.2 y (by omega)
   have py:=hp.rng y (by omega)
   have cr:=(C.2 (p.getD x 0).toNat (by omega)).1
   exact⟨by omega,by omega,λh=>by omega,λ_=>⟨by omega,by omega,λh=>by omega,λ_=>⟨by omega,⟨px.1,by rw[C.1];exact px.2⟩,by omega,by omega,by omega,v,⟨py.1,by rw[cr];exact py.2⟩,by omega,y+1,⟨by omega,by omega⟩,by omega,by omega,rfl⟩⟩⟩
  ·rw[show y=t.length by omega];rfl
 ·rw[show x=t.length by omega]
set_option maxRecDepth 100000
def kG{t A:D7}(hT:bX t=true)(h1:1<=t.length)(h:(dL t.length [t] [t]).take 1000000=A):aa t=A:=by
 rw[<-h,aa,dG,AA rfl];exact pa (n:=t.length) (kN (un hT)) rfl h1 (by decide)
def tO:D7:=[[0]]
def LT:D7:=[[0]]
def LU:D8:=[[[0]]]
def VI:aa tO=LT:=kG (by decide +kernel) (by decide +kernel) (by decide +kernel)
def VJ:bL tO LT=LU:=by decide +kernel
def VK:aE 1=[tO]:=by decide +kernel
def LV:EA:=bG tO LU
def VL:aH 1=LV:=by
 simp only[aH,VK,Av,BX,AV,VI,VJ];rfl
def tP:D7:=[[0,1],[1,0]]
def LW:D7:=[[0,1]]
def LX:D8:=[[[0,1],[1,0]]]
def VM:aa tP=LW:=kG (by decide +kernel) (by decide +kernel) (by decide +kernel)
def VN:bL tP LW=LX:=by decide +kernel
def VO:aE 2=[tP]:=by decide +kernel
def LY:EA:=bG tP LX
def VP:aH 2=LY:=by
 simp only[aH,VO,Av,BX,AV,VM,VN];rfl
def tQ:D7:=[[0,1,2],[1,2,0],[2,0,1]]
def LZ:D7:=[[0,1,2],[0,2,1]]
def L0:D8:=[[[0,1,2],[1,2,0],[2,0,1]]]
def VQ:aa tQ=LZ:=kG (by decide +kernel) (by decide +kernel) (by decide +kernel)
def VR:bL tQ LZ=L0:=by decide +kernel
def VS:aE 3=[tQ]:=by decide +kernel
def L5:EA:=bG tQ L0
def VT:aH 3=L5:=by
 simp only[aH,VS,Av,BX,AV,VQ,VR];rfl
def tR:D7:=[[0,1,2,3],[1,2,3,0],[2,3,0,1],[3,0,1,2]]
def L6:D7:=[[0,1,2,3],[0,3,2,1]]
def L7:D8:=[[[0,1,2,3],[1,0,3,2],[2,3,0,1],[3,2,1,0]],[[0,1,2,3],[1,2,3,0],[2,3,0,1],[3,0,1,2]]]
def VU:aa tR=L6:=kG (by decide +kernel) (by decide +kernel) (by decide +kernel)
def VV:bL tR L6=L7:=by decide +kernel
def tS:D7:=[[0,1,2,3],[1,0,3,2],[2,3,0,1],[3,2,1,0]]
def L8:D7:=[[0,1,2,3],[0,1,3,2],[0,2,1,3],[0,2,3,1],[0,3,1,2],[0,3,2,1]]
def L9:D8:=[[[0,1,2,3],[1,0,3,2],[2,3,0,1],[3,2,1,0]],[[0,1,2,3],[1,0,3,2],[2,3,1,0],[3,2,0,1]]]
def VW:aa tS=L8:=kG (by decide +kernel) (by decide +kernel) (by decide +kernel)
def VX:bL tS L8=L9:=by decide +kernel
def VY:aE 4=[tR,tS]:=by decide +kernel
def Ma:EA:=bG tR L7++bG tS L9
def VZ:aH 4=Ma:=by
 simp only[aH,VY,Av,BX,AV,VU,VV,VW,VX];rfl
def tT:D7:=[[0,1,2,3,4],[1,2,3,4,0],[2,3,4,0,1],[3,4,0,1,2],[4,0,1,2,3]]
def Mb:D7:=[[0,1,2,3,4],[0,2,4,1,3],[0,3,1,4,2],[0,4,3,2,1]]
def Mc:D8:=[[[0,1,2,3,4],[1,2,3,4,0],[2,3,4,0,1],[3,4,0,1,2],[4,0,1,2,3]]]
def V0:aa tT=Mb:=kG (by decide +kernel) (by decide +kernel) (by decide +kernel)
def V1:bL tT Mb=Mc:=by decide +kernel
def V2:aE 5=[tT]:=by decide +kernel
def Md:EA:=bG tT Mc
def V3:aH 5=Md:=by
 simp only[aH,V2,Av,BX,AV,V0,V1];rfl
def tU:D7:=[[0,1,2,3,4,5],[1,2,3,4,5,0],[2,3,4,5,0,1],[3,4,5,0,1,2],[4,5,0,1,2,3],[5,0,1,2,3,4]]
def Me:D7:=[[0,1,2,3,4,5],[0,5,4,3,2,1]]
def Mf:D8:=[[[0,1,2,3,4,5],[1,0,5,4,3,2],[2,3,4,5,0,1],[3,2,1,0,5,4],[4,5,0,1,2,3],[5,4,3,2,1,0]],[[0,1,2,3,4,5],[1,2,3,4,5,0],[2,3,4,5,0,1],[3,4,5,0,1,2],[4,5,0,1,2,3],[5,0,1,2,3,4]]]
def V4:aa tU=Me:=kG (by decide +kernel) (by decide +kernel) (by decide +kernel)
def V5:bL tU Me=Mf:=by decide +kernel
def tV:D7:=[[0,1,2,3,4,5],[1,2,0,4,5,3],[2,0,1,5,3,4],[3,5,4,0,2,1],[4,3,5,1,0,2],[5,4,3,2,1,0]]
def Mg:D7:=[[0,1,2,3,4,5],[0,1,2,4,5,3],[0,1,2,5,3,4],[0,2,1,3,5,4],[0,2,1,4,3,5],[0,2,1,5,4,3]]
def Mh:D8:=[[[0,1,2,3,4,5],[1,2,0,4,5,3],[2,0,1,5,3,4],[3,4,5,0,1,2],[4,5,3,1,2,0],[5,3,4,2,0,1]],[[0,1,2,3,4,5],[1,2,0,4,5,3],[2,0,1,5,3,4],[3,5,4,0,2,1],[4,3,5,1,0,2],[5,4,3,2,1,0]],[[0,1,2,3,4,5],[1,2,0,5,3,4],[2,0,1,4,5,3],[3,4,5,0,1,2],[4,5,3,2,0,1],[5,3,4,1,2,0]],[[0,1,2,3,4,5],[1,2,0,5,3,4],[2,0,1,4,5,3],[3,5,4,0,2,1],[4,3,5,2,1,0],[5,4,3,1,0,2]]]
def V6:aa tV=Mg:=kG (by decide +kernel) (by decide +kernel) (by decide +kernel)
def V7:bL tV Mg=Mh:=by decide +kernel
def V8:aE 6=[tU,tV]:=by decide +kernel
def Mi:EA:=bG tU Mf++bG tV Mh
def V9:aH 6=Mi:=by
 simp only[aH,V8,Av,BX,AV,V4,V5,V6,V7];rfl
def tW:D7:=[[0,1,2,3,4,5,6],[1,2,3,4,5,6,0],[2,3,4,5,6,0,1],[3,4,5,6,0,1,2],[4,5,6,0,1,2,3],[5,6,0,1,2,3,4],[6,0,1,2,3,4,5]]
def Mj:D7:=[[0,1,2,3,4,5,6],[0,2,4,6,1,3,5],[0,3,6,2,5,1,4],[0,4,1,5,2,6,3],[0,5,3,1,6,4,2],[0,6,5,4,3,2,1]]
def Mk:D8:=[[[0,1,2,3,4,5,6],[1,2,3,4,5,6,0],[2,3,4,5,6,0,1],[3,4,5,6,0,1,2],[4,5,6,0,1,2,3],[5,6,0,1,2,3,4],[6,0,1,2,3,4,5]]]
def Wa:aa tW=Mj:=kG (by decide +kernel) (by decide +kernel) (by decide +kernel)
def Wb:bL tW Mj=Mk:=by decide +kernel
def Wc:aE 7=[tW]:=by decide +kernel
def Ml:EA:=bG tW Mk
def Wd:aH 7=Ml:=by
 simp only[aH,Wc,Av,BX,AV,Wa,Wb];rfl
def kH(n:Nat)(l:EA)(k:Nat):Bool :=
 decide (l.length=k)&&l.all (λq=>decide (q.1.length=n)&&cg q.1 q.2) &&
  (List.range l.length).all λi=>(List.range (i+1)).all λj =>
   decide ((dL n [(l.getD i ([],[])).1,(l.getD i ([],[])).2] [(l.getD j ([],[])).1,(l.getD j ([],[])).2]).isEmpty=!decide (i=j))
def We:kH 1 LV 1=true:=by decide +kernel
def Wf:kH 2 LY 1=true:=by decide +kernel
def Wg:kH 3 L5 1=true:=by decide +kernel
def Wh:kH 4 Ma 4=true:=by decide +kernel
def Wi:kH 5 Md 1=true:=by decide +kernel
def Wj:kH 6 Mi 6=true:=by decide +kernel
def Wk:kH 7 Ml 1=true:=by decide +kernel
end Go.Sx
