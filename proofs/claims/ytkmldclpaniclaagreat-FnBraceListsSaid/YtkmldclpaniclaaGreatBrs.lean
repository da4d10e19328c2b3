/- Brs -/
import Derived.Test.YtkmldclpaniclaaGreatDrawY
import Derived.Test.YtkmldclpaniclaaGreatBrdC
import Derived.Test.YtkmldclpaniclaaGreatCrcP
import Derived.Test.YtkmldclpaniclaaGreatActP
import Derived.Test.YtkmldclpaniclaaGreatMpgE
set_option linter.unusedSimpArgs false
set_option linter.unusedVariables false
set_option linter.defProp false
open Go Go.Proofs
namespace Go.Sx
def Ec:List AD->Option Post
 | [.c (.ints .u8 η)]=>some ⟨True,.c (.bool (decide (4096<(η.length:Int)))),[]⟩
 |_=>none
def Wn:Fits Tryz.prog 18 ⟨[],Ec⟩:=by
 refine ffv (Γ:=ah []) aN Tryz.func18 λds p h ξ=>?_
 unfold Ec at h;split at h<;>cases h
 rename_i η
 refine⟨aj,ar,decide ((4096:Int)<(η.length:Int))=decide ((4096:Int)<(η.length:Int))/\True,by kernel_rfl,?_⟩
 simp only[aO]at ξ⊢
def Ee:List AD->Option Post
 | [.c (.ints .i64 a),.c (.ints .i64 b)]=>some ⟨au a.length,.c (.bool (decide (a=b))),[]⟩
 |_=>none
def Mn(a:D6)(b:D6):Nat->Option Ann
 |0=>Q' λi=>⟨⟨[(0,D' a),(1,D' b),(5,A' i)],[]⟩,i<=a.length/\a.length=b.length/\a.take i=b.take i,a.length-i⟩
 |_=>none
def Wq:Fits Tryz.prog 47 ⟨[],Ee⟩:=by
 refine ffv (Γ:=ah []) aN Tryz.func47 λds p h ξ=>?_
 unfold Ee at h;split at h<;>cases h
 rename_i a b
 refine⟨aj,Mn a b,ab ((a.length:Int) != (b.length:Int)) (false=decide (a=b)/\True) ((∃x0:Nat,(x0<=a.length/\a.length=b.length/\List.take x0 a=List.take x0 b)/\a=a/\b=b/\(0:Int)=(x0:Int))/\∀x1:Nat,x1<=a.length/\a.length=b.length/\List.take x1 a=List.take x1 b->ab (decide ((x1:Int)<(a.length:Int))) (ac (x1:Int) a.length/\ac (x1:Int) b.length/\ab (a.getD (x1:Int).toNat (0:Int) != b.getD (x1:Int).toNat (0:Int)) (false=decide (a=b)/\True) (ae ((x1:Int)+(1:Int))/\∃x2:Nat,(x2<=a.length/\a.length=b.length/\List.take x2 a=List.take x2 b)/\a.length-x2<a.length-x1/\a=a/\b=b/\(x1:Int)+(1:Int)=(x2:Int))) (true=decide (a=b)/\True)),by kernel_rfl,?_⟩
 simp only[aO]at ξ⊢;refine⟨λh=>?_,λh=>⟨⟨0,⟨by omega,by omega,rfl⟩,by simp⟩,λi hi=>⟨λh1=>⟨by omega,by omega,λh2=>?_,λh2=>⟨by omega,i+1,⟨by omega,hi.2.1,?_⟩,by omega,by omega⟩⟩,λh1=>?_⟩⟩⟩
 ·exact(Ad λe=>h (by rw[e])).symm
 ·exact(Ad λe=>h2 (by rw[e])).symm
 ·exact(Ku a b 0 i (by omega) (by omega) hi.2.2).2 h2
 ·refine(Ab ?_).symm
  have:=hi.2.2
  rwa[AU (by omega),AU (by omega)]at this
def Eg(η:D6)(b:Bd):Int:=az η b.2.2.1 b.2.2.2 24
def gm(η:D6)(b:Bd):Int:=aC η.length b.2.2.1 24
def gK(b:Bd):Int:=aK b.2.2.2 24
def qp(η:D6)(b:Bd):Int:=az η (gm η b) (gK b) (b.1.length:Int)
def Mp(η:D6)(b:Bd):Int:=az η (aC η.length (gm η b) (b.1.length:Int)) (aK (gK b) (b.1.length:Int)) (b.1.length:Int)
def Mq(η:D6)(b:Bd):Int:=az η (aC η.length (aC η.length (gm η b) (b.1.length:Int)) (b.1.length:Int)) (aK (aK (gK b) (b.1.length:Int)) (b.1.length:Int)) ((b.1.length:Int)+1)
def g7(η:D6)(b:Bd):Bd :=
 if Eg η b=0 then(b.1,(dw η (gm η b) (gK b) (b.1.length:Int)).1,(dw η (gm η b) (gK b) (b.1.length:Int)).2)
 else if Eg η b=1 then(b.1.set (qp η b).toNat ((b.1.getD (qp η b).toNat []).set (Mp η b).toNat (Mq η b)),b.2.1,
  aC η.length (aC η.length (aC η.length (gm η b) (b.1.length:Int)) (b.1.length:Int)) ((b.1.length:Int)+1),aK (aK (aK (gK b) (b.1.length:Int)) (b.1.length:Int)) ((b.1.length:Int)+1))
 else if Eg η b=2 then(b.1,b.2.1.drop 1,gm η b,gK b)
 else(b.1,b.2.1,gm η b,gK b)
def eg(η:D6)(a h ζ:Int):Bd:=g7 η (aT η a h ζ)
def Wr{η:D6}(hb:bz η){m:Nat}{b:Bd}(h:fV η m b)(hm:m<=8):aJ (g7 η b).1/\aJ (g7 η b).2.1/\(g7 η b).1.length<=m/\(g7 η b).2.1.length<=m/\0<=(g7 η b).2.2.1/\(g7 η b).2.2.1<=(η.length:Int):=by
 obtain⟨b1,b2,b3,b4,b5,b6⟩:=h;have s:=dS (n:=24) b5 b6
 have A1:0<=gm η b/\gm η b<=(η.length:Int):=s
 have R1:=mR b3 (by omega)
 have R2:=mR b4 (by omega)
 have l4:=b4.1
 unfold g7;split
 ·obtain⟨K,_⟩:=oA hb (h:=gK b) A1.1 A1.2 (ζ:=(b.1.length:Int)) (by omega) (by omega)
  obtain⟨k1,k2,k3,k4,k5⟩:=zt hb K;exact⟨R1,mR k3 (by omega),b2,Ao k2 (by omega),k4,k5⟩
 ·split
  ·have s2:=dS (n:=(b.1.length:Int)) A1.1 A1.2
   have s3:=dS (n:=(b.1.length:Int)) s2.1 s2.2
   have s4:=dS (n:=(b.1.length:Int)+1) s3.1 s3.2
   refine⟨⟨by rw[Aj];exact R1.1,λr hr=>?_⟩,R2,by rw[Aj];exact b2,Ao (Nat.le_of_eq l4) b2,s4.1,s4.2⟩
   rcases DQ hr with hr|rfl
   ·exact R1.2 r hr
   ·rw[Aj]
    by_cases q:(qp η b).toNat<b.1.length
    ·exact R1.2 _ (bN _ [] _ q)
    ·rw[AM,BM (by omega)];simp
  ·split
   ·have dl:(b.2.1.drop 1).length<=m:=by rw[BD];omega
    exact⟨R1,⟨Ao dl (by omega),λr hr=>R2.2 r (List.mem_of_mem_drop hr)⟩,b2,dl,A1.1,A1.2⟩
   ·exact⟨R1,R2,b2,Ao (Nat.le_of_eq l4) b2,A1.1,A1.2⟩
def Eh:List AD->Option Post
 | [.box [.ints .u8 η,.int .i64 a,.int .u64 h],.c (.int .i64 ζ)]=>some ⟨bz η/\η.length<=4096/\0<=a/\a<=(η.length:Int)/\1<=ζ/\ζ<=8,.agg [.rows 62 2 .i64 (eg η a h ζ).1,.ro (.rows .i64 ((eg η a h ζ).2.1))],[.bx [.ints .u8 η,.int .i64 ((eg η a h ζ).2.2.1),.int .u64 ((eg η a h ζ).2.2.2)]]⟩
 |_=>none
def Mr(η:D6)(a:Int)(h:Int)(ζ:Int):Nat->Option Ann
 |1002=>some (Ann.mk ((Unit)) (λu=>⟨[(0,M' 700),(4,M' 4),(5,M' 5)],[(4,P' [.nil,.nil]),(5,P' [.own 105,.ro (.rows .i64 ((aT η a h ζ).2.1))]),(105,N' ((aT η a h ζ).1)),(700,P' [.orig 700 0 (.ints .u8 η),.int .i64 ((aT η a h ζ).2.2.1),.int .u64 ((aT η a h ζ).2.2.2)])]⟩) (λu=>True) (λu=>0) (λ_=>ar))
 |_=>none
def dE(η:D6)(a:Int)(h:Int)(ζ:Int):=(↑(((aT η a h ζ).1).length):Int)
def jg(η:D6)(a:Int)(h:Int)(ζ:Int):=(aC η.length ((((aT η a h ζ).2).2).1) (24:Int))
def iI(η:D6)(a:Int)(h:Int)(ζ:Int):=(aK ((((aT η a h ζ).2).2).2) (24:Int))
def mP(η:D6)(a:Int)(h:Int)(ζ:Int):=(aC η.length (jg η a h ζ) (dE η a h ζ))
def Wu:Fits Tryz.prog 107 ⟨[(0,0)],Eh⟩:=by
 refine ffv (Γ:=ah [(77,⟨[(0,0)],lN⟩),(151,⟨[(0,0)],ti⟩),(150,⟨[(0,0)],qm 2⟩)]) (aq oQ (aq Ll (aq (Vc 2) aN))) Tryz.func107 λds p h ξ=>?_
 unfold Eh at h;split at h<;>cases h
 rename_i η a h ζ
 refine⟨aj,Mr η a h ζ,(((bz η/\η.length<=(4096:Nat)/\(0:Int)<=a/\a<=(η.length:Int)/\(1:Int)<=ζ/\(ζ<=(7:Int)/\(1:Nat)<=(2:Nat)\/ζ<=(8:Int)/\(2:Nat)<=(2:Nat)))/\η=η/\True)/\∃x0:Unit,True/\((aT η a h ζ).2).1=((aT η a h ζ).2).1/\(aT η a h ζ).1=(aT η a h ζ).1/\η=η/\(((aT η a h ζ).2).2).1=(((aT η a h ζ).2).2).1/\(((aT η a h ζ).2).2).2=(((aT η a h ζ).2).2).2)/\∀x1:Unit,True->((bz η/\(0:Int)<=(((aT η a h ζ).2).2).1/\(((aT η a h ζ).2).2).1<=(1099511627776:Int))/\η=η/\True)/\ab (az η ((((aT η a h ζ).2).2).1) ((((aT η a h ζ).2).2).2) (24:Int) == (0:Int)) (((bz η/\η.length<=(4096:Nat)/\(0:Int)<=aC η.length ((((aT η a h ζ).2).2).1) (24:Int)/\aC η.length ((((aT η a h ζ).2).2).1) (24:Int)<=(η.length:Int)/\(1:Int)<=(dE η a h ζ)/\(dE η a h ζ)<=(8:Int))/\η=η/\True)/\((aT η a h ζ).1=(eg η a h ζ).1/\(dw η (jg η a h ζ) (iI η a h ζ) (dE η a h ζ)).1=((eg η a h ζ).2).1/\True)/\(η=η/\((dw η (jg η a h ζ) (iI η a h ζ) (dE η a h ζ)).2).1=(((eg η a h ζ).2).2).1/\((dw η (jg η a h ζ) (iI η a h ζ) (dE η a h ζ)).2).2=(((eg η a h ζ).2).2).2/\True)/\True) (ab (az η ((((aT η a h ζ).2).2).1) ((((aT η a h ζ).2).2).2) (24:Int) == (1:Int)) (((bz η/\(0:Int)<=aC η.length ((((aT η a h ζ).2).2).1) (24:Int)/\aC η.length ((((aT η a h ζ).2).2).1) (24:Int)<=(1099511627776:Int))/\η=η/\True)/\ac (az η (jg η a h ζ) (iI η a h ζ) (dE η a h ζ)) (((aT η a h ζ).1).length)/\((bz η/\(0:Int)<=aC η.length (jg η a h ζ) (dE η a h ζ)/\aC η.length (jg η a h ζ) (dE η a h ζ)<=(1099511627776:Int))/\η=η/\True)/\ae ((dE η a h ζ)+(1:Int))/\((bz η/\(0:Int)<=aC η.length (mP η a h ζ) (dE η a h ζ)/\aC η.length (mP η a h ζ) (dE η a h ζ)<=(1099511627776:Int))/\η=η/\True)/\ac (az η (mP η a h ζ) (aK (iI η a h ζ) (dE η a h ζ)) (dE η a h ζ)) ((((aT η a h ζ).1).getD ((az η (jg η a h ζ) (iI η a h ζ) (dE η a h ζ)).toNat) []).length)/\(List.set (aT η a h ζ).1 ((az η (jg η a h ζ) (iI η a h ζ) (dE η a h ζ)).toNat) (List.set (((aT η a h ζ).1).getD ((az η (jg η a h ζ) (iI η a h ζ) (dE η a h ζ)).toNat) []) ((az η (mP η a h ζ) (aK (iI η a h ζ) (dE η a h ζ)) (dE η a h ζ)).toNat) (az η (aC η.length (mP η a h ζ) (dE η a h ζ)) (aK (aK (iI η a h ζ) (dE η a h ζ)) (dE η a h ζ)) ((dE η a h ζ)+(1:Int))))=(eg η a h ζ).1/\((aT η a h ζ).2).1=((eg η a h ζ).2).1/\True)/\(η=η/\aC η.length (aC η.length (mP η a h ζ) (dE η a h ζ)) ((dE η a h ζ)+(1:Int))=(((eg η a h ζ).2).2).1/\aK (aK (aK (iI η a h ζ) (dE η a h ζ)) (dE η a h ζ)) ((dE η a h ζ)+(1:Int))=(((eg η a h ζ).2).2).2/\True)/\True) (ab (az η ((((aT η a h ζ).2).2).1) ((((aT η a h ζ).2).2).2) (24:Int) == (2:Int)) (bS ((((aT η a h ζ).2).1).length) (Option.some (1:Int)) Option.none/\((aT η a h ζ).1=(eg η a h ζ).1/\cZ (((aT η a h ζ).2).1) (Option.some (1:Int)) Option.none=((eg η a h ζ).2).1/\True)/\(η=η/\aC η.length ((((aT η a h ζ).2).2).1) (24:Int)=(((eg η a h ζ).2).2).1/\aK ((((aT η a h ζ).2).2).2) (24:Int)=(((eg η a h ζ).2).2).2/\True)/\True) (((aT η a h ζ).1=(eg η a h ζ).1/\((aT η a h ζ).2).1=((eg η a h ζ).2).1/\True)/\(η=η/\aC η.length ((((aT η a h ζ).2).2).1) (24:Int)=(((eg η a h ζ).2).2).1/\aK ((((aT η a h ζ).2).2).2) (24:Int)=(((eg η a h ζ).2).2).2/\True)/\True))),by kernel_rfl,?_⟩
 simp only[dE,jg,iI,mP,aO]at ξ⊢;obtain⟨hb,hc,h0,h1,h2,h3⟩:=ξ;have L:=LA hb (h:=h) h0 h1 h2 h3
 refine⟨⟨⟨hb,hc,h0,h1,h2,by omega⟩,⟨⟩,trivial⟩,λ_ _=>?_⟩
 have e:eg η a h ζ=g7 η (aT η a h ζ):=rfl
 rw[e];generalize aT η a h ζ=b at *
 obtain⟨b1,b2,b3,b4,b5,b6⟩:=L;have s:=dS (n:=24) b5 b6
 have s2:=dS (n:=(b.1.length:Int)) s.1 s.2
 have s3:=dS (n:=(b.1.length:Int)) s2.1 s2.2
 have I:=gL hb (aC η.length b.2.2.1 24) (aK b.2.2.2 24) (n:=(b.1.length:Int)) (by omega)
 have J:=gL hb (aC η.length (aC η.length b.2.2.1 24) (b.1.length:Int)) (aK (aK b.2.2.2 24) (b.1.length:Int)) (n:=(b.1.length:Int)) (by omega)
 refine⟨⟨hb,b5,by omega⟩,λz=>?_,λz=>⟨λz2=>?_,λz2=>⟨λz3=>?_,λz3=>?_⟩⟩⟩
 ·have R:g7 η b=(b.1,(dw η (gm η b) (gK b) (b.1.length:Int)).1,(dw η (gm η b) (gK b) (b.1.length:Int)).2):=AA z
  rw[R];exact⟨⟨hb,hc,s.1,s.2,by omega,by omega⟩,⟨rfl,rfl⟩,rfl,rfl⟩
 ·have R:g7 η b=(b.1.set (qp η b).toNat ((b.1.getD (qp η b).toNat []).set (Mp η b).toNat (Mq η b)),b.2.1,
      aC η.length (aC η.length (aC η.length (gm η b) (b.1.length:Int)) (b.1.length:Int)) ((b.1.length:Int)+1),aK (aK (aK (gK b) (b.1.length:Int)) (b.1.length:Int)) ((b.1.length:Int)+1)):=(AB z).trans (AA z2)
  rw[R];have row:=(b3.2 (az η (aC η.length b.2.2.1 24) (aK b.2.2.2 24) (b.1.length:Int)).toNat (by omega)).1
  exact⟨⟨hb,s.1,by omega⟩,by omega,⟨hb,s2.1,by omega⟩,by omega,⟨hb,s3.1,by omega⟩,by rw[row];omega,⟨rfl,rfl⟩,rfl,rfl⟩
 ·have R:g7 η b=(b.1,b.2.1.drop 1,gm η b,gK b):=(AB z).trans ((AB z2).trans (AA z3))
  rw[R];have l4:=b4.1
  exact⟨by omega,⟨rfl,rfl⟩,rfl,rfl⟩
 ·have R:g7 η b=(b.1,b.2.1,gm η b,gK b):=(AB z).trans ((AB z2).trans (AB z3))
  rw[R];exact⟨⟨rfl,rfl⟩,rfl,rfl⟩
def Mt{p:D6}{n:Nat}(hn:p.length<=n)(h0:1<=n):∀i k,i<=p.length->k<p.length->0<=(fK p i).getD k 0/\(fK p i).getD k 0<(n:Int)
 |0,k,_,hk=>by simp[fK,AM,hk];omega
 |i+1,k,hi,hk=>by
  rw[fK,jb _ _ _ _ (by rw[oR];exact hk)]
  split
  ·omega
  ·exact Mt hn h0 i k (by omega) hk
def Ej:List AD->Option Post
 | [.c (.ints .i64 p)]=>some ⟨au p.length/\gN p.length p,.c (.ints 2 .i64 (cG p)),[]⟩
 |_=>none
def Mu(p:D6):Nat->Option Ann
 |0=>Q' λi=>⟨⟨[(0,D' p),(3,J' 8),(9,D' p),(10,A' p.length),(11,A' i)],[(8,O' (fK p i))]⟩,i<=p.length,p.length-i⟩
 |_=>none
def Wx:Fits Tryz.prog 148 ⟨[],Ej⟩:=by
 refine ffv (Γ:=ah []) aN Tryz.func148 λds p h ξ=>?_
 unfold Ej at h;split at h<;>cases h
 rename_i p
 refine⟨aj,Mu p,((0:Int)<=(p.length:Int)/\(p.length:Int)<=(p.length:Int)/\au ((p.length:Int).toNat))/\(∃x0:Nat,x0<=p.length/\p=p/\p=p/\(p.length:Int)=(p.length:Int)/\(0:Int)=(x0:Int)/\List.replicate ((p.length:Int).toNat) (0:Int)=fK p x0)/\∀x1:Nat,x1<=p.length->ab (decide ((x1:Int)<(p.length:Int))) (ac (x1:Int) p.length/\ac (p.getD (x1:Int).toNat (0:Int)) (fK p x1).length/\ae ((x1:Int)+(1:Int))/\∃x2:Nat,x2<=p.length/\p.length-x2<p.length-x1/\p=p/\p=p/\(p.length:Int)=(p.length:Int)/\(x1:Int)+(1:Int)=(x2:Int)/\List.set (fK p x1) ((p.getD (x1:Int).toNat (0:Int)).toNat) (x1:Int)=fK p x2) (fK p x1=cG p/\True),by kernel_rfl,?_⟩
 simp only[aO]at ξ⊢;obtain⟨h1,h2⟩:=ξ;refine⟨by omega,⟨0,by omega,rfl,rfl⟩,λi hi=>⟨λh=>?_,λh=>?_⟩⟩
 ·have hr:=h2 i (by omega)
  rw[oR];exact⟨by omega,by omega,by omega,i+1,by omega,by omega,by omega,rfl⟩
 ·rw[show i=p.length by omega];rfl
def qq:List AD->Option Post
 | [.c (.int .i64 x),.c (.int .i64 y),.box [.ints .i64 p],.box [.rows .i64 t],.box [.ints .i64 q]]=>some ⟨0<=x/\x<(q.length:Int)/\0<=y/\y<(q.length:Int)/\0<=q.getD x.toNat 0/\q.getD x.toNat 0<(t.length:Int)/\0<=q.getD y.toNat 0/\q.getD y.toNat 0<((t.getD (q.getD x.toNat 0).toNat []).length:Int)/\0<=(t.getD (q.getD x.toNat 0).toNat []).getD (q.getD y.toNat 0).toNat 0/\(t.getD (q.getD x.toNat 0).toNat []).getD (q.getD y.toNat 0).toNat 0<(p.length:Int),.c (.int .i64 (p.getD ((t.getD (q.getD x.toNat 0).toNat []).getD (q.getD y.toNat 0).toNat 0).toNat 0)),[]⟩
 |_=>none
def WA:Fits Tryz.prog 149 ⟨[],qq⟩:=by
 refine ffv (Γ:=ah []) aN Tryz.func149 λds p h ξ=>?_
 unfold qq at h;split at h<;>cases h
 rename_i x y p t q
 refine⟨aj,ar,ac x q.length/\ac (q.getD x.toNat (0:Int)) t.length/\ac y q.length/\ac (q.getD y.toNat (0:Int)) ((t.getD ((q.getD x.toNat (0:Int)).toNat) []).length)/\ac ((List.getD t ((List.getD q x.toNat (0:Int)).toNat) []).getD ((q.getD y.toNat (0:Int)).toNat) (0:Int)) p.length/\p.getD (((List.getD t ((List.getD q x.toNat (0:Int)).toNat) []).getD ((q.getD y.toNat (0:Int)).toNat) (0:Int)).toNat) (0:Int)=p.getD (((List.getD t ((List.getD q x.toNat (0:Int)).toNat) []).getD ((q.getD y.toNat (0:Int)).toNat) (0:Int)).toNat) (0:Int)/\True,by kernel_rfl,?_⟩
 simp only[aO]at ξ⊢;omega
def Em:List AD->Option Post
 | [.c (.rows .i64 t),.c (.ints .i64 p)]=>some ⟨1<=t.length/\t.length<=12/\am t.length t/\p.length=t.length/\gN p.length p,.c (.rows 62 2 .i64 (fo t p)),[]⟩
 |_=>none
def WD:Fits Tryz.prog 102 ⟨[],Em⟩:=by
 refine ffv (Γ:=ah [(148,⟨[],Ej⟩),(124,⟨[],ow⟩),(149,⟨[],qq⟩)]) (aq Wx (aq sK (aq WA aN))) Tryz.func102 λds p h ξ=>?_
 unfold Em at h;split at h<;>cases h
 rename_i t p
 refine⟨aj,ar,((au p.length/\gN p.length p)/\True)/\(((0:Int)<=(t.length:Int)/\(t.length:Int)<=(144:Int)/\∀(x y:Int),(0:Int)<=x->x<(t.length:Int)->(0:Int)<=y->y<(t.length:Int)->jy (qq [AD.c (FC.int IntKind.i64 x),AD.c (FC.int IntKind.i64 y),AD.box [FC.ints IntKind.i64 p],AD.box [FC.rows IntKind.i64 t],AD.box [FC.ints IntKind.i64 (cG p)]]))/\True)/\(cb ((t.length:Int).toNat) λ(x y:Nat)=>jx (qq [AD.c (FC.int IntKind.i64 (x:Int)),AD.c (FC.int IntKind.i64 (y:Int)),AD.box [FC.ints IntKind.i64 p],AD.box [FC.rows IntKind.i64 t],AD.box [FC.ints IntKind.i64 (cG p)]]))=fo t p/\True,by kernel_rfl,?_⟩
 simp only[aO]at ξ⊢;obtain⟨n1,n2,ht,h3,h2⟩:=ξ;have bl:(cG p).length=t.length:=(oR p _).trans h3
 have bi:∀k,k<t.length->0<=(cG p).getD k 0/\(cG p).getD k 0<(t.length:Int):=λk hk=>Mt (by omega) n1 _ k (AE _) (by omega)
 refine⟨⟨by omega,h2⟩,⟨by omega,by omega,λx y a b c d=>?_⟩,y8 λx y hx hy=>rfl⟩
 have bx:=bi x.toNat (by omega)
 have b2:=bi y.toNat (by omega)
 have r:=ht.2 ((cG p).getD x.toNat 0).toNat (by omega)
 have r2:=r.2 ((cG p).getD y.toNat 0).toNat (by omega)
 simp only[en]at r2;exact⟨by omega,by omega,by omega,by omega,by omega,by omega,by omega,by omega,by omega,by omega⟩
def fI(p:D7->Bool):D8->Int->Int
 | [],_=>-1
 |x::l,i=>if p x=true then i else fI p l (i+1)
def My(p:D7->Bool):∀(l:D8) (i:Int),0<=i->decide (0<=fI p l i)=l.any p
 | [],i,_=>by simp[fI]
 |x::l,i,h=>by
  rw[fI,List.any_cons];split
  ·rename_i hx;rw[hx,Ab h];rfl
  ·rename_i hx;rw[My p l (i+1) (by omega)];simp[hx]
def Eo:List AD->Option Post
 | [.c (.r3 .i64 l),.fv (.tb q p)]=>some ⟨l.length<=1099511627776/\∀x∈l,q x,.c (.int .i64 (fI p l 0)),[]⟩
 |_=>none
def Mz(l:D8)(q:D7->Prop)(p:D7->Bool):Nat->Option Ann
 |0=>Q' λi=>⟨⟨[(0,I' l),(1,.fv (.tb q p)),(7,A' l.length),(8,A' i)],[]⟩,i<=l.length/\fI p l 0=fI p (l.drop i) (i:Int),l.length-i⟩
 |_=>none
def WG:Fits Tryz.prog 147 ⟨[],Eo⟩:=by
 refine ffv (Γ:=ah []) aN Tryz.func147 λds p h ξ=>?_
 unfold Eo at h;split at h<;>cases h
 rename_i l q p
 refine⟨aj,Mz l q p,(∃x0:Nat,(x0<=l.length/\fI p l (0:Int)=fI p (List.drop x0 l) (x0:Int))/\l=l/\FV.tb q p=FV.tb q p/\(l.length:Int)=(l.length:Int)/\(0:Int)=(x0:Int))/\∀x1:Nat,x1<=l.length/\fI p l (0:Int)=fI p (List.drop x1 l) (x1:Int)->ab (decide ((x1:Int)<(l.length:Int))) (ac (x1:Int) l.length/\q (l.getD (x1:Int).toNat ([]:D7))/\ab (p (l.getD (x1:Int).toNat ([]:D7))) ((x1:Int)=fI p l (0:Int)/\True) (ae ((x1:Int)+(1:Int))/\∃x2:Nat,(x2<=l.length/\fI p l (0:Int)=fI p (List.drop x2 l) (x2:Int))/\l.length-x2<l.length-x1/\l=l/\FV.tb q p=FV.tb q p/\(l.length:Int)=(l.length:Int)/\(x1:Int)+(1:Int)=(x2:Int))) ((-1:Int)=fI p l (0:Int)/\True),by kernel_rfl,?_⟩
 simp only[aO]at ξ⊢;obtain⟨hl,hq⟩:=ξ;refine⟨⟨0,⟨by omega,rfl⟩,rfl⟩,λi ⟨hi,he⟩=>⟨λh=>?_,λh=>?_⟩⟩
 ·rw[drop_cons' l [] i (by omega)]at he
  simp only[fI]at he;refine⟨by omega,hq _ (bN l [] i (by omega)),λh1=>?_,λh1=>⟨by omega,i+1,⟨by omega,?_⟩,by omega,by omega⟩⟩
  ·rw[he,AA h1]
  ·rw[he,AB (by rw[h1];exact Bool.false_ne_true)];simp
 ·rw[he,BE (by omega)];rfl
def Eq:List AD->Option Post
 | [.c (.r3 .i64 l),.fv (.tb q p)]=>some ⟨l.length<=1099511627776/\∀x∈l,q x,.c (.bool (l.any p)),[]⟩
 |_=>none
def WJ:Fits Tryz.prog 99 ⟨[],Eq⟩:=by
 refine ffv (Γ:=ah [(147,⟨[],Eo⟩)]) (aq WG aN) Tryz.func99 λds p h ξ=>?_
 unfold Eq at h;split at h<;>cases h
 rename_i l q p
 refine⟨aj,ar,((l.length<=(1099511627776:Nat)/\∀(x:D7),x∈l->q x)/\True)/\decide ((0:Int)<=fI p l (0:Int))=List.any l p/\True,by kernel_rfl,?_⟩
 simp only[aO]at ξ⊢;exact⟨ξ,My p l 0 (by omega)⟩
def Es:List AD->Option Post
 | [.c (.rows .i64 a),.box [.rows .i64 b]]=>some ⟨aJ a/\aJ b,.c (.bool (decide (a=b))),[]⟩
 |_=>none
def WM:Fits Tryz.prog 100 ⟨[],Es⟩:=by
 refine ffv (Γ:=ah [(101,⟨[],Fk⟩)]) (aq XE aN) Tryz.func100 λds p h ξ=>?_
 unfold Es at h;split at h<;>cases h
 rename_i a b
 refine⟨aj,ar,((aJ a/\aJ b)/\True)/\decide (a=b)=decide (a=b)/\True,by kernel_rfl,?_⟩
 simp only[aO]at ξ⊢;exact ξ
def WN{l:D7}{i k:Nat}(h:i<l.length)(hk:k=l.length-i):(l.take i++List.replicate k []).set i (l.getD i [])=l.take (i+1)++List.replicate (l.length-(i+1)) []:=by
 subst hk;exact(yN l [] [] i h)
def Eu:List AD->Option Post
 | [.c (.rows .i64 t)]=>some ⟨t.length<=144/\(∀r∈t,r.length≠0/\r.length<=144),.c (.rows 62 2 .i64 t),[]⟩
 |_=>none
def MG(t:D7):Nat->Option Ann
 |0=>Q' λi=>⟨⟨[(3,J' 8),(9,G' t),(10,A' t.length),(11,A' i)],[(8,N' (t.take i++List.replicate (t.length-i) []))]⟩,i<=t.length,t.length-i⟩
 |_=>none
def WQ:Fits Tryz.prog 103 ⟨[],Eu⟩:=by
 refine ffv (Γ:=ah [(82,⟨[],qX⟩)]) (aq G3 aN) Tryz.func103 λds p h ξ=>?_
 unfold Eu at h;split at h<;>cases h
 rename_i t
 refine⟨aj,MG t,((0:Int)<=(t.length:Int)/\(t.length:Int)<=(t.length:Int)/\au ((t.length:Int).toNat))/\(∃x0:Nat,x0<=t.length/\t=t/\(t.length:Int)=(t.length:Int)/\(0:Int)=(x0:Int)/\List.replicate ((t.length:Int).toNat) []=List.take x0 t++List.replicate (t.length-x0) ([]:D6))/\∀x1:Nat,x1<=t.length->ab (decide ((x1:Int)<(t.length:Int))) (ac (x1:Int) t.length/\(((t.getD (x1:Int).toNat []).length≠(0:Nat)/\au ((t.getD (x1:Int).toNat []).length))/\True)/\ac (x1:Int) ((List.take x1 t++List.replicate (t.length-x1) ([]:D6)).length)/\ae ((x1:Int)+(1:Int))/\∃x2:Nat,x2<=t.length/\t.length-x2<t.length-x1/\t=t/\(t.length:Int)=(t.length:Int)/\(x1:Int)+(1:Int)=(x2:Int)/\List.set (List.take x1 t++List.replicate (t.length-x1) ([]:D6)) (x1:Int).toNat (t.getD (x1:Int).toNat [])=List.take x2 t++List.replicate (t.length-x2) ([]:D6)) (List.take x1 t++List.replicate (t.length-x1) ([]:D6)=t/\True),by kernel_rfl,?_⟩
 simp only[aO]at ξ⊢;obtain⟨h1,h2⟩:=ξ;refine⟨by omega,⟨0,by omega,rfl,by simp⟩,λi hi=>⟨λh=>?_,λh=>by rw[AU (by omega),show t.length-i=0 by omega,List.replicate_zero,AV]⟩⟩
 have r:=h2 _ (bN t [] i (by omega))
 exact⟨by omega,⟨by omega,by omega⟩,by omega,by omega,i+1,by omega,by omega,by omega,WN (by omega) rfl⟩
def kI(A:D7)(st:D8×D8)(c:D7):D8×D8 :=
 if st.1.any (λs=>decide (s=c))=true then st else(st.1++A.map (fo c),st.2++[c])
def dF(A:D7)(cs:D8):D8×D8:=cs.foldl (kI A) ([],[])
def bn(t:D7):D8:=dz (cR t (aa t) 9 [] [])
def bG(t:D7)(cs:D8):EA:=cs.map λc=>(t,c)
def ug{A:D7}{cs:D8}{i:Nat}(h:i<cs.length):dF A (cs.take (i+1))=kI A (dF A (cs.take i)) (cs.getD i []):=by
 rw[<-dZ cs [] i h,dF,List.foldl_append];rfl
def MJ(A:D7)(cs:D8):∀i,i<=cs.length->(dF A (cs.take i)).1.length<=i*A.length/\(dF A (cs.take i)).2.length<=i
 |0,_=>by simp[dF]
 |i+1,h=>by
  obtain⟨h1,h2⟩:=MJ A cs i (by omega)
  rw[ug (by omega),kI]
  split
  ·exact⟨Ao h1 (Bp _ (by omega)),by omega⟩
  ·simp only[Ag,AW,Bh,Bu,Nat.one_mul]
   omega
def Ew{P:D7->Prop}{A:D7}{cs:D8}(hP:∀c∈cs,∀f∈A,P (fo c f)):∀i,i<=cs.length->∀s∈(dF A (cs.take i)).1,P s
 |0,_=>by simp[dF]
 |i+1,h=>by
  rw[ug (by omega),kI]
  split
  ·exact Ew hP i (by omega)
  ·intro s hs
   rcases AH.1 hs with hs|hs
   ·exact Ew hP i (by omega) s hs
   ·obtain⟨f,hf,rfl⟩:=AJ.1 hs
    exact hP _ (bN cs [] i (by omega)) f hf
def uh{n:Nat}{t:D7}(G:GrpT n t)(hn:n<=7):bn t=aF t (aa t):=sP G hn
def WR{n:Nat}{t:D7}(G:GrpT n t)(hn:n<=7):(bn t).length<=2401:=by rw[uh G hn];exact sS G hn
def MK{n:Nat}{t:D7}(G:GrpT n t)(hn:n<=7){c:D7}(hc:c∈bn t):am n c:=by
 rw[uh G hn]at hc;obtain⟨L,hL,rfl⟩:=(zg G hn).1 hc;exact zf G hn hL
def MM{n:Nat}{c:D7}(h:am n c)(hn:n<=12):aJ c:=⟨by rw[h.1];omega,λr hr=>by
 obtain⟨i,hi,rfl⟩:=A7 hr;have:=(h.2 i (by rw[<-h.1];exact hi)).1
 rw[bM c [] i hi]at this;omega⟩
def Ex:List AD->Option Post
 | [.c (.rows .i64 t)]=>some ⟨bo t=true/\t.length<=7,.c (.tr [39,62,2] (.p3 .i64 (bG t (dF (aa t) (bn t)).2))),[]⟩
 |_=>none
def MN(t:D7):Nat->Option Ann
 |0=>T' (λi=>⟨⟨[(0,G' t),(3,G' (aa t)),(4,J' 601),(5,J' 602),(13,J' 600),(14,A' ((((bn t).length:Int)))),(15,A' i)],[(600,some (.trk 0 [22,62,2] (.r3 .i64 (bn t)) i)),(601,some (.tr 0 [22,62,2] (.r3 .i64 ((dF (aa t) ((bn t).take i)).1)))),(602,some (.tr 0 [39,62,2] (.p3 .i64 (bG t (dF (aa t) ((bn t).take i)).2))))]⟩,i<=(bn t).length,(bn t).length-i⟩) (λi b_=>match b_ with|2=>Q' λj=>⟨⟨[(0,G' t),(3,G' (aa t)),(4,J' 601),(5,J' 602),(7,M' 604),(13,J' 600),(14,A' ((((bn t).length:Int)))),(15,A' i),(22,G' (aa t)),(23,A' ((((aa t).length:Int)))),(24,A' j)],[(600,some (.trk 0 [22,62,2] (.r3 .i64 (bn t)) (i+1))),(601,some (.tr 0 [22,62,2] (.r3 .i64 (((dF (aa t) ((bn t).take i)).1++((aa t).take j).map (fo ((bn t).getD i []))))))),(602,some (.tr 0 [39,62,2] (.p3 .i64 (bG t (dF (aa t) ((bn t).take i)).2)))),(604,P' [.own 605]),(605,N' (((bn t).getD i [])))]⟩,(i<(bn t).length/\j<=(aa t).length/\(dF (aa t) ((bn t).take i)).1.any (λs=>decide (s=(bn t).getD i []))=false),(aa t).length-j⟩|_=>none)
 |_=>none
def MP(t:Nat):Bool:=[3000018,2000032,5000040].contains t
def dR(t:D7)(x0:Nat):=(dF (aa t) (List.take x0 (bn t)))
def g8(t:D7)(x0:Nat):=((bn t).getD x0 ([]:D7))
def WU:Fits Tryz.prog 54 ⟨[],Ex⟩:=by
 refine ffv (Γ:=ah [(87,⟨[],we⟩),(85,⟨[],Fy⟩),(99,⟨[],Eq⟩),(100,⟨[],Es⟩),(102,⟨[],Em⟩),(103,⟨[],Eu⟩)]) (aq Qf (aq XX (aq WJ (aq WM (aq WD (aq WQ aN)))))) Tryz.func54 λds p h ξ=>?_
 unfold Ex at h;split at h<;>cases h
 rename_i t
 refine⟨MP,MN t,(((1:Nat)<=t.length/\jn (t::([]:D8)) (t::([]:D8))/\(cd (t::([]:D8)) (t::([]:D8))).length<=(1000000000:Nat))/\True)/\((bo t=true/\t.length<=(7:Nat))/\True)/\(∃x0:Nat,x0<=(bn t).length/\t=t/\cd (t::([]:D8)) (t::([]:D8))=aa t/\(↑(FC.len (FC.r3 IntKind.i64 (dz (cR t (aa t) (9:Nat) ([]:D7) ([]:D8))))):Int)=(↑((bn t).length):Int)/\(0:Int)=(x0:Int)/\dz (cR t (aa t) (9:Nat) ([]:D7) ([]:D8))=bn t/\x0=(0:Nat)/\FC.len (FC.r3 IntKind.i64 (dR t x0).1)=(0:Nat)/\FC.len (FC.p3 IntKind.i64 (bG t (dR t x0).2))=(0:Nat))/\∀x1:Nat,x1<=(bn t).length->ab (decide ((x1:Int)<(↑((bn t).length):Int))) (ac (x1:Int) (FC.len (FC.r3 IntKind.i64 (bn t)))/\((x1:Int).toNat=x1/\x1<(bn t).length)/\((((dR t x1).1).length<=(1099511627776:Nat)/\∀(x:D7),x∈(dR t x1).1->aJ x/\aJ ((bn t).getD (x1:Int).toNat ([]:D7)))/\True)/\ab (List.any ((dF (aa t) (List.take x1 (bn t))).1) λ(x:D7)=>decide (x=(bn t).getD (x1:Int).toNat ([]:D7))) (ae ((x1:Int)+(1:Int))/\∃x2:Nat,x2<=(bn t).length/\(bn t).length-x2<(bn t).length-x1/\t=t/\aa t=aa t/\(↑((bn t).length):Int)=(↑((bn t).length):Int)/\(x1:Int)+(1:Int)=(x2:Int)/\bn t=bn t/\x1+(1:Nat)=x2/\(dR t x1).1=(dR t x2).1/\bG t (dR t x1).2=bG t (dR t x2).2) ((∃x3:Nat,(x1<(bn t).length/\x3<=(aa t).length/\(List.any (dR t x1).1 λ(s:D7)=>decide (s=(bn t).getD x1 ([]:D7)))=false)/\t=t/\aa t=aa t/\(↑((bn t).length):Int)=(↑((bn t).length):Int)/\(x1:Int)=(x1:Int)/\aa t=aa t/\(↑((aa t).length):Int)=(↑((aa t).length):Int)/\(0:Int)=(x3:Int)/\bn t=bn t/\x1+(1:Nat)=x1+(1:Nat)/\(dR t x1).1=(dR t x1).1++List.map (fo (g8 t x1)) (List.take x3 (aa t))/\bG t (dR t x1).2=bG t (dR t x1).2/\(bn t).getD (x1:Int).toNat ([]:D7)=(bn t).getD x1 ([]:D7))/\∀x4:Nat,x1<(bn t).length/\x4<=(aa t).length/\(List.any (dR t x1).1 λ(s:D7)=>decide (s=(bn t).getD x1 ([]:D7)))=false->ab (decide ((x4:Int)<(↑((aa t).length):Int))) (ac (x4:Int) (aa t).length/\(((1:Nat)<=(g8 t x1).length/\(g8 t x1).length<=(12:Nat)/\am (g8 t x1).length (g8 t x1)/\((aa t).getD (x4:Int).toNat []).length=(g8 t x1).length/\gN (((aa t).getD (x4:Int).toNat []).length) ((aa t).getD (x4:Int).toNat []))/\True)/\au (FC.len (FC.r3 IntKind.i64 ((dR t x1).1++List.map (fo (g8 t x1)) (List.take x4 (aa t))))+FC.len (FC.r3 IntKind.i64 (fo (g8 t x1) ((aa t).getD (x4:Int).toNat [])::([]:D8))))/\ae ((x4:Int)+(1:Int))/\∃x5:Nat,(x1<(bn t).length/\x5<=(aa t).length/\(List.any (dR t x1).1 λ(s:D7)=>decide (s=(bn t).getD x1 ([]:D7)))=false)/\(aa t).length-x5<(aa t).length-x4/\t=t/\aa t=aa t/\(↑((bn t).length):Int)=(↑((bn t).length):Int)/\(x1:Int)=(x1:Int)/\aa t=aa t/\(↑((aa t).length):Int)=(↑((aa t).length):Int)/\(x4:Int)+(1:Int)=(x5:Int)/\bn t=bn t/\x1+(1:Nat)=x1+(1:Nat)/\(dR t x1).1++List.map (fo (g8 t x1)) (List.take x4 (aa t))++fo (g8 t x1) ((aa t).getD (x4:Int).toNat [])::([]:D8)=(dR t x1).1++List.map (fo (g8 t x1)) (List.take x5 (aa t))/\bG t (dR t x1).2=bG t (dR t x1).2/\(bn t).getD x1 ([]:D7)=(bn t).getD x1 ([]:D7)) (((t.length<=(144:Nat)/\∀(r:D6),r∈t->r.length≠(0:Nat)/\r.length<=(144:Nat))/\True)/\au (FC.len (FC.p3 IntKind.i64 (bG t (dR t x1).2))+FC.len (FC.p3 IntKind.i64 [(t,(bn t).getD x1 ([]:D7))]))/\ae ((x1:Int)+(1:Int))/\∃x6:Nat,x6<=(bn t).length/\(bn t).length-x6<(bn t).length-x1/\t=t/\aa t=aa t/\(↑((bn t).length):Int)=(↑((bn t).length):Int)/\(x1:Int)+(1:Int)=(x6:Int)/\bn t=bn t/\x1+(1:Nat)=x6/\(dR t x1).1++List.map (fo (g8 t x1)) (List.take x4 (aa t))=(dR t x6).1/\bG t (dR t x1).2++[(t,(bn t).getD x1 ([]:D7))]=bG t (dR t x6).2))) (bG t (dR t x1).2=bG t ((dF (aa t) (bn t)).2)/\True),by kernel_rfl,?_⟩
 simp only[dR,g8,aO]at ξ⊢;obtain⟨h,hn⟩:=ξ;have G:=kK h
 have hcl:=WR G hn
 have hA:=mJ G hn
 have hct:=λc hc=>MK G hn (c:=c) hc
 have hS:=mV G hn
 have hAp:∀j,j<(aa t).length->IsP t.length ((aa t).getD j []):=λj hj=>(sO G hn (bN _ [] j hj)).p
 have rm:∀i,i<=(bn t).length->∀s∈(dF (aa t) ((bn t).take i)).1,aJ s:=λi hi=>Ew (P:=aJ) (λc hc f hf=>MM (K3 (hct c hc) (sO G hn hf).p).tb (by omega)) i hi
 have len:=MJ (aa t) (bn t)
 simp only[An,FC.len]at *;refine⟨⟨G.pos,mU G hn,by rw[hS];omega⟩,⟨h,hn⟩,⟨0,by omega,hS,rfl,rfl,rfl,rfl,rfl,rfl⟩,λi hi=>⟨fun ψ=>?_,λhge=>?_⟩⟩
 ·have ψ:i<(bn t).length:=by omega
  have hc:=hct _ (bN (bn t) [] i ψ)
  obtain⟨l1,l2⟩:=len i hi;have l3:i*(aa t).length<=2401*49:=Bb (by omega) hA
  have rc:=MM hc (by omega)
  have st:=ug (A:=aa t) ψ
  have hc1:=hc.1
  refine⟨by omega,ψ,⟨by omega,λx hx=>⟨rm i hi x hx,rc⟩⟩,λhany=>⟨by omega,i+1,by omega,by omega,by omega,rfl,?_,?_⟩,λhany=>⟨⟨0,⟨ψ,by omega,hany⟩,rfl,by simp⟩,λj ⟨_,hj,_⟩=>⟨λhjl=>?_,λhjl=>?_⟩⟩⟩
  ·rw[st,kI,AA hany]
  ·rw[st,kI,AA hany]
  ·have hjl:j<(aa t).length:=by omega
   have P:=hAp j hjl
   have lp:=P.len
   have eq:(dF (aa t) ((bn t).take i)).1++((aa t).take j).map (fo ((bn t).getD i []))++[fo ((bn t).getD i []) ((aa t).getD j [])]=(dF (aa t) ((bn t).take i)).1++((aa t).take (j+1)).map (fo ((bn t).getD i [])):=by
    rw[<-dZ (aa t) [] j hjl,Be,Ap];rfl
   refine⟨by omega,⟨by have:=G.pos;omega,by omega,by rw[hc1];exact hc,by omega,λk hk=>by rw[lp];exact P.rng k (by omega)⟩,?_,by omega,j+1,⟨ψ,by omega,hany⟩,by omega,by omega,eq⟩
   simp only[Ag,AW,AP,Bh];omega
  ·have ej:j=(aa t).length:=by omega
   have ht:=G.tb
   refine⟨⟨by omega,λr hr=>?_⟩,?_,by omega,i+1,by omega,by omega,by omega,rfl,?_,?_⟩
   ·obtain⟨k,hk,rfl⟩:=A7 hr
    have:=(ht.2 k hk).1
    rw[bM t [] k hk]at this;have:=G.pos
    omega
   ·simp only[bG,AW,Bh];omega
   ·rw[st,kI,AB (by rw[hany];simp),ej,Bs]
   ·rw[st,kI,AB (by rw[hany];simp)]
    simp[bG]
 ·rw[show i=(bn t).length by omega,Bs]
end Go.Sx
