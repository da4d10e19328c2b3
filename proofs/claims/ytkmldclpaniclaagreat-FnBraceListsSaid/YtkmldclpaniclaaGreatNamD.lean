/- NamD -/
import Derived.Test.YtkmldclpaniclaaGreatGrp
import Derived.Test.YtkmldclpaniclaaGreatCirC
set_option linter.unusedSimpArgs false
set_option linter.unusedVariables false
set_option linter.defProp false
open Go Go.Proofs
namespace Go.Sx
def bJ(n i:Nat)(f:Nat->Nat->Int):D7:=(List.range i).map λx=>ax n (f x)
def wi(n i:Nat)(f:Nat->Nat->Int):bJ n (i+1) f=bJ n i f++[ax n (f i)]:=qP _ _
def wj(n i:Nat)(f:Nat->Nat->Int):(bJ n i f).length=i:=by simp[bJ]
def pn{x a m:Nat}(h:x<a*m)(hm:1<=m):(x:Int).tdiv (m:Int)=((x / m:Nat):Int)/\(x:Int).tmod (m:Int)=((x % m:Nat):Int)/\x / m<a/\x % m<m:=by
 refine⟨?_,?_,(Nat.div_lt_iff_lt_mul (by omega)).2 h,Nat.mod_lt _ (by omega)⟩
 ·rw[DP (by omega)];rfl
 ·rw[Dv (by omega)];rfl
def d9(n:Int)(x y:Nat):Int:=((x:Int)+(y:Int)).tmod n
def af(n:Int):D7:=cb n.toNat (d9 n)
def wl:List AD->Option Post
 | [.c (.int .i64 n)]=>some ⟨1<=n/\n<=12,.c (.rows 62 2 .i64 (af n)),[]⟩
 |_=>none
def Qw(n:Int):Nat->Option Ann
 |0=>T' (λi=>⟨⟨[(0,A' n),(3,J' 3),(4,A' i)],[(3,N' (bJ n.toNat i (d9 n)))]⟩,(i:Int)<=n,n.toNat-i⟩) (λi b_=>match b_ with|2=>Q' λj=>⟨⟨[(0,A' n),(3,J' 3),(4,A' i),(5,J' 5),(6,A' j)],[(3,N' (bJ n.toNat i (d9 n))),(5,O' (ax j (d9 n i)))]⟩,(i:Int)<n/\(j:Int)<=n,n.toNat-j⟩|_=>none)
 |_=>none
def Qy:Fits Tryz.prog 167 ⟨[],wl⟩:=by
 refine ffv (Γ:=ah []) aN Tryz.func167 λds p h ξ=>?_
 unfold wl at h;split at h<;>cases h
 rename_i n
 refine⟨aj,Qw n,(∃x0:Nat,(x0:Int)<=n/\n=n/\(0:Int)=(x0:Int)/\([]:D7)=bJ n.toNat x0 (d9 n))/\∀x1:Nat,(x1:Int)<=n->ab (decide ((x1:Int)<n)) ((∃x2:Nat,((x1:Int)<n/\(x2:Int)<=n)/\n=n/\(x1:Int)=(x1:Int)/\(0:Int)=(x2:Int)/\bJ n.toNat x1 (d9 n)=bJ n.toNat x1 (d9 n)/\[]=ax x2 (d9 n x1))/\∀x3:Nat,(x1:Int)<n/\(x3:Int)<=n->ab (decide ((x3:Int)<n)) (ae ((x1:Int)+(x3:Int))/\n≠(0:Int)/\au ((ax x3 (d9 n x1)).length+[Int.tmod ((x1:Int)+(x3:Int)) n].length)/\ae ((x3:Int)+(1:Int))/\∃x4:Nat,((x1:Int)<n/\(x4:Int)<=n)/\n.toNat-x4<n.toNat-x3/\n=n/\(x1:Int)=(x1:Int)/\(x3:Int)+(1:Int)=(x4:Int)/\bJ n.toNat x1 (d9 n)=bJ n.toNat x1 (d9 n)/\ax x3 (d9 n x1)++[Int.tmod ((x1:Int)+(x3:Int)) n]=ax x4 (d9 n x1)) (au ((bJ n.toNat x1 (d9 n)).length+(ax x3 (d9 n x1)::([]:D7)).length)/\ae ((x1:Int)+(1:Int))/\∃x5:Nat,(x5:Int)<=n/\n.toNat-x5<n.toNat-x1/\n=n/\(x1:Int)+(1:Int)=(x5:Int)/\bJ n.toNat x1 (d9 n)++ax x3 (d9 n x1)::([]:D7)=bJ n.toNat x5 (d9 n))) (bJ n.toNat x1 (d9 n)=af n/\True),by kernel_rfl,?_⟩
 simp only[aO]at ξ⊢;refine⟨⟨0,by omega,rfl,rfl⟩,λi hi=>⟨λh=>⟨⟨0,⟨by omega,by omega⟩,rfl,rfl⟩,λj ⟨_,hj⟩=>⟨λg=>⟨by omega,by omega,by rw[d4];omega,by omega,j+1,⟨by omega,by omega⟩,by omega,by omega,?_⟩,λg=>⟨by rw[wj];omega,by omega,i+1,by omega,by omega,by omega,?_⟩⟩⟩,λh=>?_⟩⟩
 ·rw[tab_succ'];rfl
 ·rw[wi,show j=n.toNat by omega]
 ·rw[show i=n.toNat by omega];rfl
def dh(a b:D7)(x y:Nat):Int :=
 en a ((x:Int).tdiv (b.length:Int)).toNat ((y:Int).tdiv (b.length:Int)).toNat*(b.length:Int)+en b ((x:Int).tmod (b.length:Int)).toNat ((y:Int).tmod (b.length:Int)).toNat
def bj(a b:D7):D7:=cb (a.length*b.length) (dh a b)
def Hf{a b:D7}(ha:am a.length a)(hb:am b.length b)(h1:1<=b.length){x y:Nat}(hx:x<a.length*b.length)(hy:y<a.length*b.length):0<=dh a b x y/\dh a b x y<((a.length*b.length:Nat):Int):=by
 obtain⟨x1,x2,x3,x4⟩:=pn hx h1;obtain⟨y1,y2,y3,y4⟩:=pn hy h1;have A:=(ha.2 _ x3).2 _ y3
 have B:=(hb.2 _ x4).2 _ y4
 rw[dh,x1,x2,y1,y2];simp only[An];generalize en a (x / b.length) (y / b.length)=u at *
 generalize en b (x % b.length) (y % b.length)=v at *
 have:u*(b.length:Int)<=((a.length:Int)-1)*(b.length:Int):=Int.mul_le_mul_of_nonneg_right (by omega) (by omega)
 have h0:0<=u*(b.length:Int):=CA A.1 (by omega)
 rw[Int.sub_mul]at this;rw[DF];omega
def Qz{a b:D7}(ha:am a.length a)(hb:am b.length b)(h1:1<=b.length):am (a.length*b.length) (bj a b):=by
 refine⟨mI _ _,λx hx=>?_⟩
 have r:(bj a b).getD x []=ax (a.length*b.length) (dh a b x):=ou _ _ _ hx
 refine⟨by rw[r,d4],λy hy=>?_⟩
 have v:en (bj a b) x y=dh a b x y:=by
  show((bj a b).getD x []).getD y 0=_
  rw[r,eA _ _ _ hy]
 rw[v];exact Hf ha hb h1 hx hy
def wn:List AD->Option Post
 | [.c (.rows .i64 a),.c (.rows .i64 b)]=>some ⟨am a.length a/\am b.length b/\1<=b.length/\a.length<=144/\b.length<=144,.c (.rows 62 2 .i64 (bj a b)),[]⟩
 |_=>none
def QA(a:D7)(b:D7):Nat->Option Ann
 |0=>T' (λi=>⟨⟨[(0,G' a),(1,G' b),(5,A' a.length),(6,A' b.length),(7,J' 7),(8,A' i)],[(7,N' (bJ (a.length*b.length) i (dh a b)))]⟩,i<=a.length*b.length,a.length*b.length-i⟩) (λi b_=>match b_ with|2=>Q' λj=>⟨⟨[(0,G' a),(1,G' b),(5,A' a.length),(6,A' b.length),(7,J' 7),(8,A' i),(9,J' 9),(10,A' j)],[(7,N' (bJ (a.length*b.length) i (dh a b))),(9,O' (ax j (dh a b i)))]⟩,i<a.length*b.length/\j<=a.length*b.length,a.length*b.length-j⟩|_=>none)
 |_=>none
def gS(b:D7)(x0:Nat):=(Int.tdiv (↑x0:Int) (↑(b.length):Int))
def lT(b:D7)(x0:Nat):=((Int.tmod (↑x0:Int) (↑(b.length):Int)).toNat)
def QC:Fits Tryz.prog 168 ⟨[],wn⟩:=by
 refine ffv (Γ:=ah []) aN Tryz.func168 λds p h ξ=>?_
 unfold wn at h;split at h<;>cases h
 rename_i a b
 refine⟨aj,QA a b,(∃x0:Nat,x0<=a.length*b.length/\a=a/\b=b/\(a.length:Int)=(a.length:Int)/\(b.length:Int)=(b.length:Int)/\(0:Int)=(x0:Int)/\([]:D7)=bJ (a.length*b.length) x0 (dh a b))/\∀x1:Nat,x1<=a.length*b.length->ae ((a.length:Int)*(b.length:Int))/\ab (decide ((x1:Int)<(a.length:Int)*(b.length:Int))) ((∃x2:Nat,(x1<a.length*b.length/\x2<=a.length*b.length)/\a=a/\b=b/\(a.length:Int)=(a.length:Int)/\(b.length:Int)=(b.length:Int)/\(x1:Int)=(x1:Int)/\(0:Int)=(x2:Int)/\bJ (a.length*b.length) x1 (dh a b)=bJ (a.length*b.length) x1 (dh a b)/\[]=ax x2 (dh a b x1))/\∀x3:Nat,x1<a.length*b.length/\x3<=a.length*b.length->ae ((a.length:Int)*(b.length:Int))/\ab (decide ((x3:Int)<(a.length:Int)*(b.length:Int))) (((b.length:Int)≠(0:Int)/\ae (gS b x1))/\ac (gS b x1) a.length/\((b.length:Int)≠(0:Int)/\ae (gS b x3))/\ac (gS b x3) ((a.getD (gS b x1).toNat []).length)/\ae ((List.getD a (gS b x1).toNat []).getD (gS b x3).toNat (0:Int)*(b.length:Int))/\(b.length:Int)≠(0:Int)/\ac (Int.tmod (x1:Int) (b.length:Int)) b.length/\(b.length:Int)≠(0:Int)/\ac (Int.tmod (x3:Int) (b.length:Int)) ((b.getD (lT b x1) []).length)/\ae ((List.getD a (gS b x1).toNat []).getD (gS b x3).toNat (0:Int)*(b.length:Int)+(List.getD b (lT b x1) []).getD (lT b x3) (0:Int))/\au ((ax x3 (dh a b x1)).length+[(List.getD a (gS b x1).toNat []).getD (gS b x3).toNat (0:Int)*(b.length:Int)+(List.getD b (lT b x1) []).getD (lT b x3) (0:Int)].length)/\ae ((x3:Int)+(1:Int))/\∃x4:Nat,(x1<a.length*b.length/\x4<=a.length*b.length)/\a.length*b.length-x4<a.length*b.length-x3/\a=a/\b=b/\(a.length:Int)=(a.length:Int)/\(b.length:Int)=(b.length:Int)/\(x1:Int)=(x1:Int)/\(x3:Int)+(1:Int)=(x4:Int)/\bJ (a.length*b.length) x1 (dh a b)=bJ (a.length*b.length) x1 (dh a b)/\ax x3 (dh a b x1)++[(List.getD a (gS b x1).toNat []).getD (gS b x3).toNat (0:Int)*(b.length:Int)+(List.getD b (lT b x1) []).getD (lT b x3) (0:Int)]=ax x4 (dh a b x1)) (au ((bJ (a.length*b.length) x1 (dh a b)).length+(ax x3 (dh a b x1)::([]:D7)).length)/\ae ((x1:Int)+(1:Int))/\∃x5:Nat,x5<=a.length*b.length/\a.length*b.length-x5<a.length*b.length-x1/\a=a/\b=b/\(a.length:Int)=(a.length:Int)/\(b.length:Int)=(b.length:Int)/\(x1:Int)+(1:Int)=(x5:Int)/\bJ (a.length*b.length) x1 (dh a b)++ax x3 (dh a b x1)::([]:D7)=bJ (a.length*b.length) x5 (dh a b))) (bJ (a.length*b.length) x1 (dh a b)=bj a b/\True),by kernel_rfl,?_⟩
 simp only[gS,lT,aO]at ξ⊢;obtain⟨h1,h2,h3,h4,h5⟩:=ξ;have hm:a.length*b.length<=144*144:=Bb h4 h5
 have hc:(a.length:Int)*(b.length:Int)=((a.length*b.length:Nat):Int):=by rw[DF]
 rw[hc];generalize hN:a.length*b.length=N at *
 refine⟨⟨0,by omega,rfl,rfl⟩,λi hi=>⟨by omega,λh=>⟨⟨0,⟨by omega,by omega⟩,rfl,rfl⟩,λj ⟨_,hj⟩=>⟨by omega,λg=>?_,λg=>⟨by rw[wj];omega,by omega,i+1,by omega,by omega,by omega,?_⟩⟩⟩,λh=>?_⟩⟩
 ·obtain⟨x1,x2,x3,x4⟩:=pn (x:=i) (a:=a.length) (m:=b.length) (by omega) h3
  obtain⟨y1,y2,y3,y4⟩:=pn (x:=j) (a:=a.length) (m:=b.length) (by omega) h3
  have A:=(h1.2 _ x3)
  have B:=(h2.2 _ x4)
  have A2:=A.2 _ y3
  have B2:=B.2 _ y4
  have P:=Hf h1 h2 h3 (x:=i) (y:=j) (by omega) (by omega)
  have TS:ax (j+1) (dh a b i)=ax j (dh a b i)++[dh a b i j]:=tab_succ' _ _
  rw[dh,x1,x2,y1,y2]at P TS;rw[x1,x2,y1,y2];simp only[An]at P TS⊢;have A3:((a.getD (i / b.length) []).getD (j / b.length) 0)=en a (i / b.length) (j / b.length):=rfl
  have B3:((b.getD (i % b.length) []).getD (j % b.length) 0)=en b (i % b.length) (j % b.length):=rfl
  rw[A3,B3];have u0:0<=en a (i / b.length) (j / b.length)*(b.length:Int):=CA A2.1 (by omega)
  have eb:=h2.1
  clear x1 x2 y1 y2;generalize i / b.length=u1 at *
  generalize j / b.length=u2 at *
  generalize i % b.length=v1 at *
  generalize j % b.length=v2 at *
  refine⟨⟨by omega,by omega⟩,by omega,⟨by omega,by omega⟩,by omega,by omega,by omega,by omega,by omega,by omega,by omega,by rw[d4];omega,by omega,j+1,⟨by omega,by omega⟩,by omega,by omega,TS.symm⟩
 ·rw[wi,show j=N by omega]
 ·rw[show i=N by omega,bj,hN];rfl
def bE(n s:Int)(x y:Nat):Int :=
 if(x:Int)<n/\(y:Int)<n then((x:Int).tmod n+(y:Int).tmod n).tmod n
 else if(x:Int)<n then n+((x:Int).tmod n+(y:Int).tmod n).tmod n
 else if(y:Int)<n then n+((x:Int).tmod n-(y:Int).tmod n+n).tmod n
 else((x:Int).tmod n-(y:Int).tmod n+n+s).tmod n
def cj(n s:Int):D7:=cb (2*n).toNat (bE n s)
def QD(x:Nat){n:Int}(h:1<=n):0<=(x:Int).tmod n/\(x:Int).tmod n<n:=⟨Cw _ (by omega),Cy _ (by omega)⟩
def nn{x:Int}{n:Int}(h0:0<=x)(h:1<=n):0<=x.tmod n/\x.tmod n<n:=⟨Cw _ h0,Cy _ (by omega)⟩
def Hh:List AD->Option Post
 | [.c (.int .i64 n),.c (.int .i64 s)]=>some ⟨1<=n/\n<=12/\0<=s/\s<=12,.c (.rows 62 2 .i64 (cj n s)),[]⟩
 |_=>none
def QE(n:Int)(s:Int):Nat->Option Ann
 |0=>T' (λi=>⟨⟨[(0,A' n),(1,A' s),(5,J' 11),(6,A' i)],[(11,N' ((bJ (2*n).toNat i (bE n s))))]⟩,(i:Int)<=2*n,(2*n).toNat-i⟩) (λi b_=>match b_ with|2=>Q' λj=>⟨⟨[(0,A' n),(1,A' s),(5,J' 11),(6,A' i),(7,J' 18),(8,A' j)],[(11,N' ((bJ (2*n).toNat i (bE n s)))),(18,O' (ax j (bE n s i)))]⟩,(i:Int)<2*n/\(j:Int)<=2*n,(2*n).toNat-j⟩|_=>none)
 |_=>none
def jo(n:Int)(x0:Nat)(x1:Nat):=(Int.tmod (↑x0:Int) n-Int.tmod (↑x1:Int) n+n)
def iR(n:Int)(x0:Nat)(x1:Nat):=(Int.tmod (↑x0:Int) n+Int.tmod (↑x1:Int) n)
def ac1:Fits Tryz.prog 169 ⟨[],Hh⟩:=by
 refine ffv (Γ:=ah []) aN Tryz.func169 λds p h ξ=>?_
 unfold Hh at h;split at h<;>cases h
 rename_i n s
 refine⟨aj,QE n s,(∃x0:Nat,(x0:Int)<=(2:Int)*n/\n=n/\s=s/\(0:Int)=(x0:Int)/\([]:D7)=bJ (((2:Int)*n).toNat) x0 (bE n s))/\∀x1:Nat,(x1:Int)<=(2:Int)*n->ae ((2:Int)*n)/\ab (decide ((x1:Int)<(2:Int)*n)) ((∃x2:Nat,((x1:Int)<(2:Int)*n/\(x2:Int)<=(2:Int)*n)/\n=n/\s=s/\(x1:Int)=(x1:Int)/\(0:Int)=(x2:Int)/\bJ (((2:Int)*n).toNat) x1 (bE n s)=bJ (((2:Int)*n).toNat) x1 (bE n s)/\[]=ax x2 (bE n s x1))/\∀x3:Nat,(x1:Int)<(2:Int)*n/\(x3:Int)<=(2:Int)*n->ae ((2:Int)*n)/\ab (decide ((x3:Int)<(2:Int)*n)) (n≠(0:Int)/\n≠(0:Int)/\ab (decide ((x1:Int)<n)) (ab (decide ((x3:Int)<n)) (ae (iR n x1 x3)/\n≠(0:Int)/\au ((ax x3 (bE n s x1)).length+[Int.tmod (iR n x1 x3) n].length)/\ae ((x3:Int)+(1:Int))/\∃x4:Nat,((x1:Int)<(2:Int)*n/\(x4:Int)<=(2:Int)*n)/\((2:Int)*n).toNat-x4<((2:Int)*n).toNat-x3/\n=n/\s=s/\(x1:Int)=(x1:Int)/\(x3:Int)+(1:Int)=(x4:Int)/\bJ (((2:Int)*n).toNat) x1 (bE n s)=bJ (((2:Int)*n).toNat) x1 (bE n s)/\ax x3 (bE n s x1)++[Int.tmod (iR n x1 x3) n]=ax x4 (bE n s x1)) (ab (decide ((x1:Int)<n)) (ae (iR n x1 x3)/\n≠(0:Int)/\ae (n+Int.tmod (iR n x1 x3) n)/\au ((ax x3 (bE n s x1)).length+[n+Int.tmod (iR n x1 x3) n].length)/\ae ((x3:Int)+(1:Int))/\∃x5:Nat,((x1:Int)<(2:Int)*n/\(x5:Int)<=(2:Int)*n)/\((2:Int)*n).toNat-x5<((2:Int)*n).toNat-x3/\n=n/\s=s/\(x1:Int)=(x1:Int)/\(x3:Int)+(1:Int)=(x5:Int)/\bJ (((2:Int)*n).toNat) x1 (bE n s)=bJ (((2:Int)*n).toNat) x1 (bE n s)/\ax x3 (bE n s x1)++[n+Int.tmod (iR n x1 x3) n]=ax x5 (bE n s x1)) (ab (decide ((x3:Int)<n)) (ae (Int.tmod (x1:Int) n-Int.tmod (x3:Int) n)/\ae (jo n x1 x3)/\n≠(0:Int)/\ae (n+Int.tmod (jo n x1 x3) n)/\au ((ax x3 (bE n s x1)).length+[n+Int.tmod (jo n x1 x3) n].length)/\ae ((x3:Int)+(1:Int))/\∃x6:Nat,((x1:Int)<(2:Int)*n/\(x6:Int)<=(2:Int)*n)/\((2:Int)*n).toNat-x6<((2:Int)*n).toNat-x3/\n=n/\s=s/\(x1:Int)=(x1:Int)/\(x3:Int)+(1:Int)=(x6:Int)/\bJ (((2:Int)*n).toNat) x1 (bE n s)=bJ (((2:Int)*n).toNat) x1 (bE n s)/\ax x3 (bE n s x1)++[n+Int.tmod (jo n x1 x3) n]=ax x6 (bE n s x1)) (ae (Int.tmod (x1:Int) n-Int.tmod (x3:Int) n)/\ae (jo n x1 x3)/\ae (Int.tmod (x1:Int) n-Int.tmod (x3:Int) n+n+s)/\n≠(0:Int)/\au ((ax x3 (bE n s x1)).length+[Int.tmod (Int.tmod (x1:Int) n-Int.tmod (x3:Int) n+n+s) n].length)/\ae ((x3:Int)+(1:Int))/\∃x7:Nat,((x1:Int)<(2:Int)*n/\(x7:Int)<=(2:Int)*n)/\((2:Int)*n).toNat-x7<((2:Int)*n).toNat-x3/\n=n/\s=s/\(x1:Int)=(x1:Int)/\(x3:Int)+(1:Int)=(x7:Int)/\bJ (((2:Int)*n).toNat) x1 (bE n s)=bJ (((2:Int)*n).toNat) x1 (bE n s)/\ax x3 (bE n s x1)++[Int.tmod (Int.tmod (x1:Int) n-Int.tmod (x3:Int) n+n+s) n]=ax x7 (bE n s x1))))) (ab (decide ((x1:Int)<n)) (ae (iR n x1 x3)/\n≠(0:Int)/\ae (n+Int.tmod (iR n x1 x3) n)/\au ((ax x3 (bE n s x1)).length+[n+Int.tmod (iR n x1 x3) n].length)/\ae ((x3:Int)+(1:Int))/\∃x8:Nat,((x1:Int)<(2:Int)*n/\(x8:Int)<=(2:Int)*n)/\((2:Int)*n).toNat-x8<((2:Int)*n).toNat-x3/\n=n/\s=s/\(x1:Int)=(x1:Int)/\(x3:Int)+(1:Int)=(x8:Int)/\bJ (((2:Int)*n).toNat) x1 (bE n s)=bJ (((2:Int)*n).toNat) x1 (bE n s)/\ax x3 (bE n s x1)++[n+Int.tmod (iR n x1 x3) n]=ax x8 (bE n s x1)) (ab (decide ((x3:Int)<n)) (ae (Int.tmod (x1:Int) n-Int.tmod (x3:Int) n)/\ae (jo n x1 x3)/\n≠(0:Int)/\ae (n+Int.tmod (jo n x1 x3) n)/\au ((ax x3 (bE n s x1)).length+[n+Int.tmod (jo n x1 x3) n].length)/\ae ((x3:Int)+(1:Int))/\∃x9:Nat,((x1:Int)<(2:Int)*n/\(x9:Int)<=(2:Int)*n)/\((2:Int)*n).toNat-x9<((2:Int)*n).toNat-x3/\n=n/\s=s/\(x1:Int)=(x1:Int)/\(x3:Int)+(1:Int)=(x9:Int)/\bJ (((2:Int)*n).toNat) x1 (bE n s)=bJ (((2:Int)*n).toNat) x1 (bE n s)/\ax x3 (bE n s x1)++[n+Int.tmod (jo n x1 x3) n]=ax x9 (bE n s x1)) (ae (Int.tmod (x1:Int) n-Int.tmod (x3:Int) n)/\ae (jo n x1 x3)/\ae (Int.tmod (x1:Int) n-Int.tmod (x3:Int) n+n+s)/\n≠(0:Int)/\au ((ax x3 (bE n s x1)).length+[Int.tmod (Int.tmod (x1:Int) n-Int.tmod (x3:Int) n+n+s) n].length)/\ae ((x3:Int)+(1:Int))/\∃x10:Nat,((x1:Int)<(2:Int)*n/\(x10:Int)<=(2:Int)*n)/\((2:Int)*n).toNat-x10<((2:Int)*n).toNat-x3/\n=n/\s=s/\(x1:Int)=(x1:Int)/\(x3:Int)+(1:Int)=(x10:Int)/\bJ (((2:Int)*n).toNat) x1 (bE n s)=bJ (((2:Int)*n).toNat) x1 (bE n s)/\ax x3 (bE n s x1)++[Int.tmod (Int.tmod (x1:Int) n-Int.tmod (x3:Int) n+n+s) n]=ax x10 (bE n s x1))))) (au ((bJ (((2:Int)*n).toNat) x1 (bE n s)).length+(ax x3 (bE n s x1)::([]:D7)).length)/\ae ((x1:Int)+(1:Int))/\∃x11:Nat,(x11:Int)<=(2:Int)*n/\((2:Int)*n).toNat-x11<((2:Int)*n).toNat-x1/\n=n/\s=s/\(x1:Int)+(1:Int)=(x11:Int)/\bJ (((2:Int)*n).toNat) x1 (bE n s)++ax x3 (bE n s x1)::([]:D7)=bJ (((2:Int)*n).toNat) x11 (bE n s))) (bJ (((2:Int)*n).toNat) x1 (bE n s)=cj n s/\True),by kernel_rfl,?_⟩
 simp only[jo,iR,aO]at ξ⊢;obtain⟨h1,h2,h3,h4⟩:=ξ;refine⟨⟨0,by omega,rfl,rfl⟩,λi hi=>⟨by omega,λh=>⟨⟨0,⟨by omega,by omega⟩,rfl,rfl⟩,λj ⟨_,hj⟩=>⟨by omega,λg=>?_,λg=>⟨by rw[wj];omega,by omega,i+1,by omega,by omega,by omega,?_⟩⟩⟩,λh=>?_⟩⟩
 ·have a:=QD i h1
  have b:=QD j h1
  have c:=nn (x:=(i:Int).tmod n+(j:Int).tmod n) (by omega) h1
  have d:=nn (x:=(i:Int).tmod n-(j:Int).tmod n+n) (by omega) h1
  have TS:ax j (bE n s i)++[bE n s i j]=ax (j+1) (bE n s i):=(tab_succ' _ _).symm
  have R:∀v:Int,v=bE n s i j->(ax j (bE n s i)).length+(0+1)<=1099511627776/\∃x:Nat,(((i:Int)<2*n/\(x:Int)<=2*n)/\(2*n).toNat-x<(2*n).toNat-j/\(j:Int)+1=(x:Int)/\ax j (bE n s i)++[v]=ax x (bE n s i)):=λv hv=>by
   subst hv;refine⟨by rw[d4];omega,j+1,⟨by omega,by omega⟩,by omega,by omega,TS⟩
  by_cases q:(i:Int)<n<;>by_cases r:(j:Int)<n
  ·have:=R _ (AA ⟨q,r⟩).symm
   simp only[q,r,CV,Cg,true_implies,false_implies,Bi,CD,implies_true];exact⟨by omega,by omega,by omega,by omega,this.1,by omega,this.2⟩
  ·have:=R _ ((AB (by omega)).trans (AA q)).symm
   simp only[q,r,CV,Cg,true_implies,false_implies,Bi,CD,implies_true];exact⟨by omega,by omega,by omega,by omega,by omega,this.1,by omega,this.2⟩
  ·have:=R _ ((AB (by omega)).trans ((AB q).trans (AA r))).symm
   simp only[q,r,CV,Cg,true_implies,false_implies,Bi,CD,implies_true];exact⟨by omega,by omega,by omega,by omega,by omega,by omega,this.1,by omega,this.2⟩
  ·have:=R _ ((AB (by omega)).trans ((AB q).trans (AB r))).symm
   simp only[q,r,CV,Cg,true_implies,false_implies,Bi,CD,implies_true];exact⟨by omega,by omega,by omega,by omega,by omega,by omega,this.1,by omega,this.2⟩
 ·rw[wi,show j=(2*n).toNat by omega]
 ·rw[show i=(2*n).toNat by omega];rfl
end Go.Sx
