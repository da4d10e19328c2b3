/- BrdB -/
import Derived.Test.YtkmldclpaniclaaGreatCirM
import Derived.Test.YtkmldclpaniclaaGreatCirP
import Derived.Test.YtkmldclpaniclaaGreatBrcC
set_option linter.unusedSimpArgs false
set_option linter.unusedVariables false
set_option linter.defProp false
open Go Go.Proofs
namespace Go.Sx
def bL(l:Db):Db:=0::l.map fun x=>x+1
def au(η:Db)(a h ζ:Int):Dr :=
 ((cF (1+aB η a h ζ)).getD (aB η (az η.length a ζ) (aJ h ζ) ((cF (1+aB η a h ζ)).length:Int)).toNat [],
  az η.length (az η.length a ζ) ((cF (1+aB η a h ζ)).length:Int),aJ (aJ h ζ) ((cF (1+aB η a h ζ)).length:Int))
def bH(η:Db)(d:Dr):Db×Int×Int:=bw η (az η.length d.2.1 2) (aJ d.2.2 2) ((d.1.length:Int)-1).toNat
def i6(η:Db)(d:Dr):Dr :=
 if 1<(d.1.length:Int)then
  if aB η d.2.1 d.2.2 2=0 then(cW d.1 (bL (bH η d).1) d.1.length,(bH η d).2)else(d.1,az η.length d.2.1 2,aJ d.2.2 2)
 else d
def dB(η:Db)(a h ζ:Int):Dr:=i6 η (au η a h ζ)
def nP(η:Db)(m:Nat)(d:Dr):Prop:=1<=d.1.length/\d.1.length<=m/\ba d.1.length d.1/\0<=d.2.1/\d.2.1<=(η.length:Int)
theorem jC{n:Nat}{t:Dc}(h:ba n t):gV (n:Int) t:=⟨by rw[h.1],fun i hi=>by
 have e:=h.1
 have r:=h.2 i (by omega)
 refine⟨by rw[r.1],fun j hj=>?_⟩
 have v:=r.2 j (by omega)
 have e2:en t i j=(t.getD i []).getD j 0:=rfl
 omega⟩
theorem R0{n:Nat}{t:Dc}(h:gV (n:Int) t):ba n t:=by
 have e:=h.1
 refine⟨by omega,fun i hi=>?_⟩
 have r:=h.2 i (by omega)
 refine⟨by omega,fun j hj=>?_⟩
 have v:=r.2 j (by omega)
 have e2:en t i j=(t.getD i []).getD j 0:=rfl
 omega
theorem nQ{η:Db}(hb:bG η){a h ζ:Int}(h0:0<=a)(h1:a<=(η.length:Int))(h2:1<=ζ)(h3:ζ<=12):nP η ζ.toNat (au η a h ζ)/\(au η a h ζ).1∈cF (1+aB η a h ζ)/\0<=aB η (az η.length a ζ) (aJ h ζ) ((cF (1+aB η a h ζ)).length:Int)/\aB η (az η.length a ζ) (aJ h ζ) ((cF (1+aB η a h ζ)).length:Int)<((cF (1+aB η a h ζ)).length:Int):=by
 have v:=iv hb a h h2
 have s:=dN (n:=ζ) h0 h1
 have p:1<=(cF (1+aB η a h ζ)).length:=by simp[cF]
 have w:=iv hb (az η.length a ζ) (aJ h ζ) (n:=((cF (1+aB η a h ζ)).length:Int)) (by omega)
 have m:(au η a h ζ).1∈cF (1+aB η a h ζ):=cU _ _ _ (by omega)
 obtain⟨q1,q2,q3⟩:=SA (by omega) (by omega) m
 have s2:=dN (n:=((cF (1+aB η a h ζ)).length:Int)) s.1 s.2
 exact⟨⟨by omega,by omega,q3,s2.1,s2.2⟩,m,w.1,by omega⟩
theorem sg{l:Db}{n:Nat}(hl:l.length+1=n)(hr:∀i,i<l.length->0<=l.getD i 0/\l.getD i 0<=(n:Int)-2):(bL l).length=n/\∀i,i<(bL l).length->0<=(bL l).getD i 0/\(bL l).getD i 0<=(n:Int)-1:=by
 have L:(bL l).length=n:=by simp[bL];omega
 refine⟨L,fun i hi=>?_⟩
 cases i with
 |zero=>simp[bL];omega
 |succ i =>
  have h:i<l.length:=by omega
  have e:(bL l).getD (i+1) 0=l.getD i 0+1:=by
   show(l.map fun x=>x+1).getD i 0=_
   exact rS _ _ _ _ _ h
  have:=hr i h
  omega
theorem sh{η:Db}(hb:bG η){m:Nat}{d:Dr}(h:nP η m d):((bH η d).1.length+1=d.1.length/\∀i,i<(bH η d).1.length->0<=(bH η d).1.getD i 0/\(bH η d).1.getD i 0<=(d.1.length:Int)-2)/\0<=(bH η d).2.1/\(bH η d).2.1<=(η.length:Int):=by
 obtain⟨a1,a2,a3,a4,a5⟩:=h;have s:=dN (n:=2) a4 a5
 have D:=SZ hb (h:=aJ d.2.2 2) s.1 s.2 ((d.1.length:Int)-1).toNat
 have I:=sG hb (h:=aJ d.2.2 2) s.1 s.2 ((d.1.length:Int)-1).toNat
 refine⟨⟨by have:=D.1;unfold bH;omega,fun i hi=>?_⟩,I.2.2⟩
 have:=D.2 i hi
 unfold bH;omega
theorem yI{n:Nat}{t:Dc}{p:Db}(ht:ba n t)(hn:t.length=n)(hp:p.length=n)(hr:∀i,i<p.length->0<=p.getD i 0/\p.getD i 0<=(n:Int)-1):ba n (cW t p t.length):=by
 subst hn;exact R0 (zf (jC ht) (by omega) hr t.length (AE _))
theorem yJ{η:Db}(hb:bG η){m:Nat}{d:Dr}(h:nP η m d):nP η m (i6 η d):=by
 have P:=sh hb h
 obtain⟨a1,a2,a3,a4,a5⟩:=h;have s:=dN (n:=2) a4 a5
 unfold i6;split
 ·split
  ·obtain⟨q1,q2⟩:=sg P.1.1 P.1.2
   have T:=yI a3 rfl q1 q2
   refine⟨?_,?_,?_,P.2.1,P.2.2⟩
   ·show 1<=(cW d.1 (bL (bH η d).1) d.1.length).length;rw[T.1];exact a1
   ·show(cW d.1 (bL (bH η d).1) d.1.length).length<=m;rw[T.1];exact a2
   ·show ba (cW d.1 (bL (bH η d).1) d.1.length).length _;rw[T.1];exact T
  ·exact⟨a1,a2,a3,s.1,s.2⟩
 ·exact⟨a1,a2,a3,a4,a5⟩
theorem Ju{l:Db}{i:Nat}(h:i<l.length):bL (l.take i)++[l.getD i 0+1]=bL (l.take (i+1)):=by
 rw[<-eo l 0 i h];simp[bL]
def sj:List AD->Option Post
 | [.box [.ints .u8 η,.int .i64 a,.int .u64 h],.c (.int .i64 ζ)]=>some ⟨bG η/\η.length<=4096/\0<=a/\a<=(η.length:Int)/\1<=ζ/\ζ<=12,.c (.rows 62 2 .i64 (dB η a h ζ).1),[.bx [.ints .u8 η,.int .i64 ((dB η a h ζ).2.1),.int .u64 ((dB η a h ζ).2.2)]]⟩
 |_=>none
def Jv(η:Db)(a:Int)(h:Int)(ζ:Int):Nat->Option Ann
 |1003=>some (Ann.mk ((Unit)) (fun u=>⟨[(0,N' 700),(6,M' 6)],[(6,O' ((au η a h ζ).1)),(700,T' [.orig 700 0 (.ints .u8 η),.int .i64 ((au η a h ζ).2.1),.int .u64 ((au η a h ζ).2.2)])]⟩) (fun u=>True) (fun u=>0) (fun u=>fun b_=>match b_ with|0=>U' fun i=>⟨⟨[(6,M' 6),(8,M' 8),(9,M' 9),(10,D' i)],[(6,O' ((au η a h ζ).1)),(8,Q' ((bL ((bH η (au η a h ζ)).1.take i)))),(9,Q' (((bH η (au η a h ζ)).1))),(700,T' [.orig 700 0 (.ints .u8 η),.int .i64 ((bH η (au η a h ζ)).2.1),.int .u64 ((bH η (au η a h ζ)).2.2)])]⟩,i<=(bH η (au η a h ζ)).1.length/\1<((au η a h ζ).1.length:Int)/\aB η (au η a h ζ).2.1 (au η a h ζ).2.2 2=0,(bH η (au η a h ζ)).1.length-i⟩|_=>none))
 |_=>none
def Jw(t:Nat):Bool:=[3000022].contains t
def sk(η:Db)(a:Int)(h:Int)(ζ:Int):=(bw η (az η.length (((au η a h ζ).2).1) (2:Int)) (aJ (((au η a h ζ).2).2) (2:Int)) (((↑(((au η a h ζ).1).length):Int)-(1:Int)).toNat))
def eT(η:Db)(a:Int)(h:Int)(ζ:Int):=((bH η (au η a h ζ)).1)
theorem Jy:Fits Tryz.prog 151 ⟨[(0,0)],sj⟩:=by
 refine ffv (Γ:=af [(77,⟨[(0,0)],nY⟩),(126,⟨[],sB⟩),(183,⟨[(0,0)],sI⟩),(143,⟨[],sK⟩)]) (aj sE (aj JX (aj J9 (aj Kc aG)))) Tryz.func151 fun ds p h ξ=>?_
 unfold sj at h;split at h<;>cases h
 rename_i η a h ζ
 refine⟨Jw,Jv η a h ζ,((bG η/\(0:Int)<=a/\a<=(1099511627776:Int))/\η=η/\True)/\ae ((1:Int)+aB η a h ζ)/\(((1:Int)<=(1:Int)+aB η a h ζ/\(1:Int)+aB η a h ζ<=(12:Int))/\True)/\(((bG η/\(0:Int)<=az η.length a ζ/\az η.length a ζ<=(1099511627776:Int))/\η=η/\True)/\aa (aB η (az η.length a ζ) (aJ h ζ) (↑(FC.len (FC.r3 IntKind.i64 (cF ((1:Int)+aB η a h ζ)))):Int)) (FC.len (FC.r3 IntKind.i64 (cF ((1:Int)+aB η a h ζ))))/\∃x0:Unit,True/\(cF ((1:Int)+aB η a h ζ)).getD ((aB η (az η.length a ζ) (aJ h ζ) (↑(FC.len (FC.r3 IntKind.i64 (cF ((1:Int)+aB η a h ζ)))):Int)).toNat) ([]:Dc)=(au η a h ζ).1/\η=η/\az η.length (az η.length a ζ) (↑(FC.len (FC.r3 IntKind.i64 (cF ((1:Int)+aB η a h ζ)))):Int)=((au η a h ζ).2).1/\aJ (aJ h ζ) (↑(FC.len (FC.r3 IntKind.i64 (cF ((1:Int)+aB η a h ζ)))):Int)=((au η a h ζ).2).2)/\∀x1:Unit,True->ab (decide ((1:Int)<(↑(((au η a h ζ).1).length):Int))) (((bG η/\(0:Int)<=((au η a h ζ).2).1/\((au η a h ζ).2).1<=(1099511627776:Int))/\η=η/\True)/\ab (aB η (((au η a h ζ).2).1) (((au η a h ζ).2).2) (2:Int) == (0:Int)) (ae ((↑(((au η a h ζ).1).length):Int)-(1:Int))/\((bG η/\(0:Int)<=az η.length (((au η a h ζ).2).1) (2:Int)/\az η.length (((au η a h ζ).2).1) (2:Int)<=(η.length:Int)/\η.length<=(4096:Nat)/\(0:Int)<=(↑(((au η a h ζ).1).length):Int)-(1:Int)/\(↑(((au η a h ζ).1).length):Int)-(1:Int)<=(144:Int))/\η=η/\True)/\(∃x2:Nat,(x2<=(eT η a h ζ).length/\(1:Int)<(↑(((au η a h ζ).1).length):Int)/\aB η (((au η a h ζ).2).1) (((au η a h ζ).2).2) (2:Int)=(0:Int))/\(0:Int)=(x2:Int)/\(au η a h ζ).1=(au η a h ζ).1/\[(0:Int)]=bL (List.take x2 (eT η a h ζ))/\(sk η a h ζ).1=(bH η (au η a h ζ)).1/\η=η/\((sk η a h ζ).2).1=((bH η (au η a h ζ)).2).1/\((sk η a h ζ).2).2=((bH η (au η a h ζ)).2).2)/\∀x3:Nat,x3<=(eT η a h ζ).length/\(1:Int)<(↑(((au η a h ζ).1).length):Int)/\aB η (((au η a h ζ).2).1) (((au η a h ζ).2).2) (2:Int)=(0:Int)->ab (decide ((x3:Int)<(↑(((bH η (au η a h ζ)).1).length):Int))) (aa (x3:Int) (eT η a h ζ).length/\ae ((eT η a h ζ).getD (x3:Int).toNat (0:Int)+(1:Int))/\ar ((bL (List.take x3 (eT η a h ζ))).length+[(eT η a h ζ).getD (x3:Int).toNat (0:Int)+(1:Int)].length)/\ae ((x3:Int)+(1:Int))/\∃x4:Nat,(x4<=(eT η a h ζ).length/\(1:Int)<(↑(((au η a h ζ).1).length):Int)/\aB η (((au η a h ζ).2).1) (((au η a h ζ).2).2) (2:Int)=(0:Int))/\(eT η a h ζ).length-x4<(eT η a h ζ).length-x3/\(x3:Int)+(1:Int)=(x4:Int)/\(au η a h ζ).1=(au η a h ζ).1/\bL (List.take x3 (eT η a h ζ))++[(eT η a h ζ).getD (x3:Int).toNat (0:Int)+(1:Int)]=bL (List.take x4 (eT η a h ζ))/\(bH η (au η a h ζ)).1=(bH η (au η a h ζ)).1/\η=η/\((bH η (au η a h ζ)).2).1=((bH η (au η a h ζ)).2).1/\((bH η (au η a h ζ)).2).2=((bH η (au η a h ζ)).2).2) (((aD (au η a h ζ).1/\((au η a h ζ).1).length<=(144:Nat)/\gV (↑(((au η a h ζ).1).length):Int) (au η a h ζ).1/\(bL (List.take x3 (eT η a h ζ))).length=((au η a h ζ).1).length/\∀(i:Nat),i<(bL (List.take x3 (eT η a h ζ))).length->(0:Int)<=(bL (List.take x3 (eT η a h ζ))).getD i (0:Int)/\(bL (List.take x3 (eT η a h ζ))).getD i (0:Int)<=(↑(((au η a h ζ).1).length):Int)-(1:Int))/\True)/\cW (au η a h ζ).1 (bL (List.take x3 (eT η a h ζ))) (((au η a h ζ).1).length)=(dB η a h ζ).1/\(η=η/\((bH η (au η a h ζ)).2).1=((dB η a h ζ).2).1/\((bH η (au η a h ζ)).2).2=((dB η a h ζ).2).2/\True)/\True)) ((au η a h ζ).1=(dB η a h ζ).1/\(η=η/\az η.length (((au η a h ζ).2).1) (2:Int)=((dB η a h ζ).2).1/\aJ (((au η a h ζ).2).2) (2:Int)=((dB η a h ζ).2).2/\True)/\True)) ((au η a h ζ).1=(dB η a h ζ).1/\(η=η/\((au η a h ζ).2).1=((dB η a h ζ).2).1/\((au η a h ζ).2).2=((dB η a h ζ).2).2/\True)/\True),by kernel_rfl,?_⟩
 simp only[sk,eT,aH]at ξ⊢;simp only[FC.len];obtain⟨hb,hc,h0,h1,h2,h3⟩:=ξ;obtain⟨K,_,eg,w2⟩:=nQ hb (h:=h) h0 h1 h2 h3;have v:=iv hb a h h2
 have s:=dN (n:=ζ) h0 h1
 refine⟨⟨hb,h0,by omega⟩,by omega,by omega,⟨⟨hb,s.1,by omega⟩,⟨eg,w2⟩,⟨⟨⟩,rfl,rfl,rfl⟩⟩,fun _ _=>?_⟩
 have e:dB η a h ζ=i6 η (au η a h ζ):=rfl
 rw[e];generalize au η a h ζ=d at K⊢
 have P:=sh hb K
 obtain⟨k1,k2,k3,k4,k5⟩:=K;have s2:=dN (n:=2) k4 k5
 refine⟨fun z=>⟨⟨hb,k4,by omega⟩,fun y=>⟨by omega,⟨hb,s2.1,s2.2,hc,by omega,by omega⟩,⟨0,⟨by omega,z,y⟩,rfl,rfl,rfl,rfl,rfl⟩,fun i ⟨hi,_,_⟩=>⟨fun g=>?_,fun g=>?_⟩⟩,fun y=>?_⟩,fun z=>?_⟩
 ·have:=P.1.2 i (by omega)
  refine⟨by omega,by omega,by simp[bL];omega,by omega,i+1,⟨by omega,z,y⟩,by omega,by omega,Ju (by omega)⟩
 ·rw[AU (by omega)]
  obtain⟨q1,q2⟩:=sg P.1.1 P.1.2;have R:i6 η d=(cW d.1 (bL (bH η d).1) d.1.length,(bH η d).2):=by unfold i6;rw[AA z,AA y]
  rw[R];exact⟨⟨n6 (jC k3) (by omega),by omega,jC k3,q1,q2⟩,rfl,rfl,rfl⟩
 ·have R:i6 η d=(d.1,az η.length d.2.1 2,aJ d.2.2 2):=by unfold i6;rw[AA z,AB y]
  rw[R];exact⟨rfl,rfl,rfl⟩
 ·have R:i6 η d=d:=by unfold i6;rw[AB z]
  rw[R];exact⟨rfl,rfl,rfl⟩
def fH(t:Dc)(y:Nat):Db:=ap t.length fun x=>en t x y
def eK(t:Dc):Dc:=(List.range t.length).map (fH t)
theorem R5{n:Nat}(f:Nat->Int){i:Nat}(hi:i<n):(ap n f).take i++[f i]=(ap n f).take (i+1):=by
 rw[<-eo (ap n f) 0 i (by rw[bK];exact hi),cj _ _ _ hi]
def yL:List AD->Option Post
 | [.c (.rows .i64 t),.c (.int .i64 y)]=>some ⟨t.length<=144/\0<=y/\y<(t.length:Int)/\(∀x,x<t.length->(t.getD x []).length=t.length),.c (.ints 2 .i64 (fH t y.toNat)),[]⟩
 |_=>none
def Jz(t:Dc)(y:Int):Nat->Option Ann
 |0=>U' fun x=>⟨⟨[(0,I' t),(1,D' y),(5,M' 100),(6,D' x)],[(100,Q' (((fH t y.toNat).take x)))]⟩,x<=t.length,t.length-x⟩
 |_=>none
theorem R8:Fits Tryz.prog 239 ⟨[],yL⟩:=by
 refine ffv (Γ:=af []) aG Tryz.func239 fun ds p h ξ=>?_
 unfold yL at h;split at h<;>cases h
 rename_i t y
 refine⟨ah,Jz t y,(∃x0:Nat,x0<=t.length/\t=t/\y=y/\(0:Int)=(x0:Int)/\[]=List.take x0 (fH t y.toNat))/\∀x1:Nat,x1<=t.length->ab (decide ((x1:Int)<(t.length:Int))) (aa (x1:Int) t.length/\aa y ((t.getD (x1:Int).toNat []).length)/\ar ((List.take x1 (fH t y.toNat)).length+[(List.getD t (x1:Int).toNat []).getD y.toNat (0:Int)].length)/\ae ((x1:Int)+(1:Int))/\∃x2:Nat,x2<=t.length/\t.length-x2<t.length-x1/\t=t/\y=y/\(x1:Int)+(1:Int)=(x2:Int)/\List.take x1 (fH t y.toNat)++[(List.getD t (x1:Int).toNat []).getD y.toNat (0:Int)]=List.take x2 (fH t y.toNat)) (List.take x1 (fH t y.toNat)=fH t y.toNat/\True),by kernel_rfl,?_⟩
 simp only[aH]at ξ⊢;obtain⟨h1,h2,h3,h4⟩:=ξ;have lc:(fH t y.toNat).length=t.length:=bK _ _
 refine⟨⟨0,by omega,by omega,rfl⟩,fun x hx=>⟨fun h=>?_,fun h=>?_⟩⟩
 ·have:=h4 x (by omega)
  exact⟨by omega,by omega,by omega,by omega,x+1,by omega,by omega,by omega,R5 (fun x=>en t x y.toNat) (by omega)⟩
 ·exact AU (by omega)
def yN:List AD->Option Post
 | [.c (.rows .i64 t)]=>some ⟨t.length<=144/\(∀x,x<t.length->(t.getD x []).length=t.length),.c (.rows 62 2 .i64 (eK t)),[]⟩
 |_=>none
def JB(t:Dc):Nat->Option Ann
 |0=>U' fun y=>⟨⟨[(0,I' t),(3,M' 100),(4,D' y)],[(100,O' (((eK t).take y)))]⟩,y<=t.length,t.length-y⟩
 |_=>none
theorem Sd:Fits Tryz.prog 209 ⟨[],yN⟩:=by
 refine ffv (Γ:=af [(239,⟨[],yL⟩)]) (aj R8 aG) Tryz.func209 fun ds p h ξ=>?_
 unfold yN at h;split at h<;>cases h
 rename_i t
 refine⟨ah,JB t,(∃x0:Nat,x0<=t.length/\t=t/\(0:Int)=(x0:Int)/\([]:Dc)=List.take x0 (eK t))/\∀x1:Nat,x1<=t.length->ab (decide ((x1:Int)<(t.length:Int))) (((t.length<=(144:Nat)/\(0:Int)<=(x1:Int)/\(x1:Int)<(t.length:Int)/\∀(x:Nat),x<t.length->(t.getD x []).length=t.length)/\True)/\ar ((List.take x1 (eK t)).length+(fH t (x1:Int).toNat::([]:Dc)).length)/\ae ((x1:Int)+(1:Int))/\∃x2:Nat,x2<=t.length/\t.length-x2<t.length-x1/\t=t/\(x1:Int)+(1:Int)=(x2:Int)/\List.take x1 (eK t)++fH t (x1:Int).toNat::([]:Dc)=List.take x2 (eK t)) (List.take x1 (eK t)=eK t/\True),by kernel_rfl,?_⟩
 simp only[aH]at ξ⊢;obtain⟨h1,h4⟩:=ξ;have lc:(eK t).length=t.length:=by simp[eK]
 have li:∀y,(fH t y).length=t.length:=fun y=>bK _ _
 refine⟨⟨0,by omega,by omega,rfl⟩,fun y hy=>⟨fun h=>⟨⟨by omega,by omega,by omega,h4⟩,by omega,by omega,y+1,by omega,by omega,by omega,?_⟩,fun h=>?_⟩⟩
 ·rw[<-eo (eK t) [] y (by omega)]
  simp[eK,AN,show y<t.length by omega]
 ·exact AU (by omega)
theorem Sf{n:Nat}{t:Dc}(h:ba n t):ba n (eK t):=by
 have e:=h.1
 refine⟨by simp[eK,e],fun x hx=>?_⟩
 have r:(eK t).getD x []=fH t x:=by simp[eK,AN,e,hx]
 refine⟨by rw[r,fH,bK,e],fun y hy=>?_⟩
 have v:en (eK t) x y=en t y x:=by
  show((eK t).getD x []).getD y 0=_
  rw[r,fH,cj _ _ _ (by omega)]
 rw[v];exact(h.2 y hy).2 x hx
def d7(n k:Int)(x y:Nat):Int:=((x:Int)+(y:Int)+k*(x:Int)*(y:Int)).tmod n
def ir(n k:Int):Dc:=bq n.toNat (d7 n k)
theorem JD{n k:Int}(h:1<=n)(hk:0<=k):ba (aA n).length (ir n k):=by
 have e:=lq h
 refine⟨by rw[ir,fb];omega,fun x hx=>?_⟩
 have r:(ir n k).getD x []=ap n.toNat (d7 n k x):=fG _ _ _ (by omega)
 refine⟨by rw[r,bK];omega,fun y hy=>?_⟩
 have v:en (ir n k) x y=d7 n k x y:=by
  show((ir n k).getD x []).getD y 0=_
  rw[r,cj _ _ _ (by omega)]
 have p:0<=k*(x:Int)*(y:Int):=Br (Br hk (by omega)) (by omega)
 have a:=CG (a:=(x:Int)+(y:Int)+k*(x:Int)*(y:Int)) n (by omega)
 have b:=CH ((x:Int)+(y:Int)+k*(x:Int)*(y:Int)) (b:=n) (by omega)
 rw[v,d7];omega
def yP:List AD->Option Post
 | [.c (.int .i64 n),.c (.int .i64 k)]=>some ⟨1<=n/\n<=12/\0<=k/\k<=12,.agg [.rows 62 2 .i64 (aA n),.rows 62 2 .i64 (ir n k)],[]⟩
 |_=>none
def JE(n:Int)(k:Int):Nat->Option Ann
 |0=>V' (fun i=>⟨⟨[(0,D' n),(1,D' k),(4,N' 4),(5,N' 5),(6,D' i)],[(4,T' [.nil,.nil]),(5,T' [.own 105,.own 106]),(105,O' (aA n)),(106,O' (bn n.toNat i (d7 n k)))]⟩,(i:Int)<=n,n.toNat-i⟩) (fun i b_=>match b_ with|2=>U' fun j=>⟨⟨[(0,D' n),(1,D' k),(4,N' 4),(5,N' 5),(6,D' i),(7,M' 7),(8,D' j)],[(4,T' [.nil,.nil]),(5,T' [.own 105,.own 106]),(105,O' (aA n)),(106,O' (bn n.toNat i (d7 n k))),(7,Q' (ap j (d7 n k i)))]⟩,(i:Int)<n/\(j:Int)<=n,n.toNat-j⟩|_=>none)
 |_=>none
theorem Si:Fits Tryz.prog 210 ⟨[],yP⟩:=by
 refine ffv (Γ:=af [(167,⟨[],uv⟩)]) (aj Mv aG) Tryz.func210 fun ds p h ξ=>?_
 unfold yP at h;split at h<;>cases h
 rename_i n k
 refine⟨ah,JE n k,(((1:Int)<=n/\n<=(12:Int))/\True)/\(∃x0:Nat,(x0:Int)<=n/\n=n/\k=k/\(0:Int)=(x0:Int)/\aA n=aA n/\bn n.toNat x0 (d7 n k)=([]:Dc))/\∀x1:Nat,(x1:Int)<=n->ab (decide ((x1:Int)<n)) ((∃x2:Nat,((x1:Int)<n/\(x2:Int)<=n)/\n=n/\k=k/\(x1:Int)=(x1:Int)/\(0:Int)=(x2:Int)/\aA n=aA n/\bn n.toNat x1 (d7 n k)=bn n.toNat x1 (d7 n k)/\[]=ap x2 (d7 n k x1))/\∀x3:Nat,(x1:Int)<n/\(x3:Int)<=n->ab (decide ((x3:Int)<n)) (ae ((x1:Int)+(x3:Int))/\ae (k*(x1:Int))/\ae (k*(x1:Int)*(x3:Int))/\ae ((x1:Int)+(x3:Int)+k*(x1:Int)*(x3:Int))/\n≠(0:Int)/\ar ((ap x3 (d7 n k x1)).length+[Int.tmod ((x1:Int)+(x3:Int)+k*(x1:Int)*(x3:Int)) n].length)/\ae ((x3:Int)+(1:Int))/\∃x4:Nat,((x1:Int)<n/\(x4:Int)<=n)/\n.toNat-x4<n.toNat-x3/\n=n/\k=k/\(x1:Int)=(x1:Int)/\(x3:Int)+(1:Int)=(x4:Int)/\aA n=aA n/\bn n.toNat x1 (d7 n k)=bn n.toNat x1 (d7 n k)/\ap x3 (d7 n k x1)++[Int.tmod ((x1:Int)+(x3:Int)+k*(x1:Int)*(x3:Int)) n]=ap x4 (d7 n k x1)) (ar ((bn n.toNat x1 (d7 n k)).length+(ap x3 (d7 n k x1)::([]:Dc)).length)/\ae ((x1:Int)+(1:Int))/\∃x5:Nat,(x5:Int)<=n/\n.toNat-x5<n.toNat-x1/\n=n/\k=k/\(x1:Int)+(1:Int)=(x5:Int)/\aA n=aA n/\bn n.toNat x1 (d7 n k)++ap x3 (d7 n k x1)::([]:Dc)=bn n.toNat x5 (d7 n k))) ((aA n=aA n/\bn n.toNat x1 (d7 n k)=ir n k/\True)/\True),by kernel_rfl,?_⟩
 simp only[aH]at ξ⊢;obtain⟨h1,h2,h3,h4⟩:=ξ;refine⟨⟨h1,h2⟩,⟨0,by omega,rfl,rfl⟩,fun i hi=>⟨fun h=>⟨⟨0,⟨by omega,by omega⟩,rfl,rfl⟩,fun j ⟨_,hj⟩=>⟨fun g=>?_,fun g=>⟨by rw[qd];omega,by omega,i+1,by omega,by omega,by omega,?_⟩⟩⟩,fun h=>?_⟩⟩
 ·have a1:k*(i:Int)<=12*12:=Int.mul_le_mul (by omega) (by omega) (by omega) (by omega)
  have a0:0<=k*(i:Int):=Br h3 (by omega)
  have b1:k*(i:Int)*(j:Int)<=12*12*12:=Int.mul_le_mul a1 (by omega) (by omega) (by omega)
  have b0:0<=k*(i:Int)*(j:Int):=Br a0 (by omega)
  refine⟨by omega,by omega,by omega,by omega,by omega,by rw[bK];omega,by omega,j+1,⟨by omega,by omega⟩,by omega,by omega,?_⟩
  rw[tab_succ'];rfl
 ·rw[qc,show j=n.toNat by omega]
 ·rw[show i=n.toNat by omega];rfl
end Go.Sx
