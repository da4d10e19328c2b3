/- MapB -/
import Derived.Test.YtkmldclpaniclaaGreatMapA
set_option linter.unusedSimpArgs false
set_option linter.unusedVariables false
set_option linter.defProp false
open Go Go.Proofs
namespace Go.Sx
def jy(t:D2)(x y:Nat):Int:=if en t x y=(y:Int)then 1 else 0
def ir(t:D2)(x y:Nat):Int:=jy t x y+if en t y x=(y:Int)then 2 else 0
def iu(t:D2)(x y:Nat):Int:=ir t x y+if en t x y=(x:Int)then 4 else 0
theorem Eg(t:D2)(x y:Nat):gT t x y=iu t x y+if en t y x=(x:Int)then 8 else 0:=rfl
theorem Vb(t:D2)(x y:Nat):(0<=jy t x y/\jy t x y<=1)/\(0<=ir t x y/\ir t x y<=3)/\(0<=iu t x y/\iu t x y<=7)/\0<=gT t x y/\gT t x y<=15:=by
 rw[Eg];unfold iu ir jy;split<;>split<;>split<;>split<;>omega
theorem Eh(t:D2)(x y:Nat):∀n,gU t x y n<=n
 |0=>AE _
 |n+1=>by rw[gU];have:=Eh t x y n;split<;>omega
def bZ(n:Nat)(t:D2)(x j i:Nat):D1:=au n fun q=>if q<j then(fO n t x q:Int)else if q=j then(gU t x j i:Int)else 0
def d5(p:D1)(x:Int)(j:Nat):D1:=p.take j++x::p.drop j
theorem Vc(p:D1)(x:Int){j:Nat}(h:j<=p.length):(d5 p x j).length=p.length+1:=by simp[d5];omega
theorem Vd(p:D1)(x:Int){j:Nat}(h:j<=p.length):(d5 p x j).getD j 0=x:=Iw _ _ _ _ _ (by rw[AT];omega)
theorem Ve(p:D1)(x:Int){j:Nat}(h:j+1<=p.length):(d5 p x (j+1)).getD j 0=p.getD j 0:=by
 rw[d5,getD_append_left' _ _ _ _ (by rw[AT];omega),pj _ _ _ _ (by omega)]
theorem Vf(p:D1)(x:Int){j:Nat}(h:j+1<=p.length):((d5 p x (j+1)).set (j+1) (p.getD j 0)).set j x=d5 p x j:=by
 rw[d5,d5,w5 _ _ _ _ _ (by rw[AT];omega),<-dZ p 0 j (by omega),Ao,DA,w5 _ _ _ _ _ (by rw[AT];omega),drop_cons' p 0 j (by omega)]
theorem tab_succ'(n:Nat)(f:Nat->Int):au (n+1) f=au n f++[f n]:=by simp[au,Bo]
theorem Ml(n:Nat)(t:D2)(x j i:Nat):(bZ n t x j i).length=n:=ep _ _
theorem Vg(n:Nat)(t:D2)(x:Nat):List.replicate n 0=bZ n t x 0 0:=by
 refine ic (by rw[Ml];simp) fun q hq=>?_
 have hq:q<n:=by simpa using hq
 rw[bZ,er _ _ _ hq,AB (by omega)]
 simp[AP,hq,gU]
theorem Vh{n:Nat}(t:D2)(x:Nat){j:Nat}(i:Nat)(h:j<n):(bZ n t x j i).getD j 0=(gU t x j i:Int):=by
 rw[bZ,er _ _ _ h,AB (by omega),AA rfl]
theorem Vi{n:Nat}{t:D2}{x j i:Nat}(h:en t j i=(x:Int)):(bZ n t x j i).set j ((gU t x j i:Int)+1)=bZ n t x j (i+1):=by
 rw[bZ,bZ,ad5];refine nB fun q hq=>?_
 by_cases e:q=j
 ·rw[AA e,AB (by omega),AA e,gU,AA h];rfl
 ·rw[AB e,AB e,AB e]
theorem Vj{n:Nat}{t:D2}{x j i:Nat}(h:¬ en t j i=(x:Int)):bZ n t x j i=bZ n t x j (i+1):=by
 rw[bZ,bZ];refine nB fun q hq=>?_
 rw[gU,AB h]
theorem Vk(n:Nat)(t:D2)(x j:Nat):bZ n t x j n=bZ n t x (j+1) 0:=by
 rw[bZ,bZ];refine nB fun q hq=>?_
 by_cases e:q=j
 ·rw[AB (by omega),AA e,AA (by omega),fO,e]
 ·by_cases e2:q<j
  ·rw[AA e2,AA (by omega)]
  ·rw[AB e2,AB e,AB (by omega)]
   split
   ·rfl
   ·rfl
theorem Vl{n:Nat}(t:D2)(x:Nat){q:Nat}(h:q<n):(bZ n t x n 0).getD q 0=(fO n t x q:Int):=by
 rw[bZ,er _ _ _ h,AA h]
theorem Ei(n:Nat)(t:D2)(c:D1)(x:Nat):(dq n t c x).length=2*n:=by rw[dq,Ag,ep,ep];omega
theorem Ej(n:Nat)(a:D3)(c:D1)(x:Nat):∀k,(a8 n a c x k).length=1+k*(2*n)
 |0=>by simp[a8]
 |k+1=>by rw[a8,Ag,Ej n a c x k,kY,ud,Ei,BW,Nat.one_mul,BX]
def Ek:List AD->Option Post
 | [.c (.r3 .i64 t),.c (.ints .i64 c),.c (.int .i64 z)]=>some ⟨t.length<=1000/\1<=c.length/\c.length<=12/\bH c.length t/\(∀i,i<c.length->0<=c.getD i 0/\c.getD i 0<=60)/\0<=z/\z<(c.length:Int),.c (.ints 2 .i64 (ce c.length t c z.toNat)),[]⟩
 |_=>none
def Mm(t:D3)(c:D1)(z:Int):Nat->Option Ann
 |0=>T' (fun k=>⟨⟨[(0,I' t),(1,D' c),(2,A' z),(7,A' c.length),(8,J' 8),(9,A' k)],[(8,O' (a8 c.length t c z.toNat k))]⟩,k<=t.length,t.length-k⟩) (fun k b_=>match b_ with|2=>T' (fun j=>⟨⟨[(0,I' t),(1,D' c),(2,A' z),(7,A' c.length),(8,J' 8),(9,A' k),(10,J' 10),(11,A' j)],[(8,O' (a8 c.length t c z.toNat k)),(10,O' (au j (f5 (t.getD k []) c z.toNat)))]⟩,k<t.length/\j<=c.length,c.length-j⟩) (fun j b_=>match b_ with|1013=>some (Ann.mk ((Unit)) (fun u=>⟨[(0,I' t),(1,D' c),(2,A' z),(7,A' c.length),(8,J' 8),(9,A' k),(10,J' 10),(11,A' j),(12,A' (en (t.getD k []) z.toNat j)),(13,A' (en (t.getD k []) j z.toNat)),(14,A' (jy (t.getD k []) z.toNat j))],[(8,O' (a8 c.length t c z.toNat k)),(10,O' (au j (f5 (t.getD k []) c z.toNat)))]⟩) (fun u=>j<c.length) (fun u=>0) (fun _=>ar))|1015=>some (Ann.mk ((Unit)) (fun u=>⟨[(0,I' t),(1,D' c),(2,A' z),(7,A' c.length),(8,J' 8),(9,A' k),(10,J' 10),(11,A' j),(12,A' (en (t.getD k []) z.toNat j)),(13,A' (en (t.getD k []) j z.toNat)),(14,A' (ir (t.getD k []) z.toNat j))],[(8,O' (a8 c.length t c z.toNat k)),(10,O' (au j (f5 (t.getD k []) c z.toNat)))]⟩) (fun u=>j<c.length) (fun u=>0) (fun _=>ar))|1017=>some (Ann.mk ((Unit)) (fun u=>⟨[(0,I' t),(1,D' c),(2,A' z),(7,A' c.length),(8,J' 8),(9,A' k),(10,J' 10),(11,A' j),(12,A' (en (t.getD k []) z.toNat j)),(13,A' (en (t.getD k []) j z.toNat)),(14,A' (iu (t.getD k []) z.toNat j))],[(8,O' (a8 c.length t c z.toNat k)),(10,O' (au j (f5 (t.getD k []) c z.toNat)))]⟩) (fun u=>j<c.length) (fun u=>0) (fun _=>ar))|1019=>some (Ann.mk ((Unit)) (fun u=>⟨[(0,I' t),(1,D' c),(2,A' z),(7,A' c.length),(8,J' 8),(9,A' k),(10,J' 10),(11,A' j),(12,A' (en (t.getD k []) z.toNat j)),(13,A' (en (t.getD k []) j z.toNat)),(14,A' (gT (t.getD k []) z.toNat j))],[(8,O' (a8 c.length t c z.toNat k)),(10,O' (au j (f5 (t.getD k []) c z.toNat)))]⟩) (fun u=>j<c.length) (fun u=>0) (fun _=>ar))|_=>none)|4=>T' (fun j=>⟨⟨[(0,I' t),(1,D' c),(2,A' z),(7,A' c.length),(8,J' 8),(9,A' k),(10,J' 10),(15,J' 15),(16,A' j)],[(8,O' (a8 c.length t c z.toNat k)),(10,O' (au c.length (f5 (t.getD k []) c z.toNat))),(15,O' (bZ c.length (t.getD k []) z.toNat j 0))]⟩,k<t.length/\j<=c.length,c.length-j⟩) (fun j b_=>match b_ with|6=>Q' fun i=>⟨⟨[(0,I' t),(1,D' c),(2,A' z),(7,A' c.length),(8,J' 8),(9,A' k),(10,J' 10),(15,J' 15),(16,A' j),(17,A' i)],[(8,O' (a8 c.length t c z.toNat k)),(10,O' (au c.length (f5 (t.getD k []) c z.toNat))),(15,O' (bZ c.length (t.getD k []) z.toNat j i))]⟩,j<c.length/\i<=c.length,c.length-i⟩|_=>none)|8=>Q' fun j=>⟨⟨[(0,I' t),(1,D' c),(2,A' z),(7,A' c.length),(8,J' 8),(9,A' k),(10,J' 10),(15,J' 15),(18,A' j)],[(8,O' (a8 c.length t c z.toNat k)),(10,O' (au c.length (f5 (t.getD k []) c z.toNat)++au j (fun y=>1099511627776+c.getD y 0*64+(fO c.length (t.getD k []) z.toNat y:Int)))),(15,O' (bZ c.length (t.getD k []) z.toNat c.length 0))]⟩,k<t.length/\j<=c.length,c.length-j⟩|10=>T' (fun i=>⟨⟨[(0,I' t),(1,D' c),(2,A' z),(7,A' c.length),(8,J' 8),(9,A' k),(10,J' 10),(19,A' i)],[(8,O' (a8 c.length t c z.toNat k)),(10,O' ((cd (dq c.length (t.getD k []) c z.toNat) i++(dq c.length (t.getD k []) c z.toNat).drop i)))]⟩,k<t.length/\1<=i/\i<=2*c.length,2*c.length-i⟩) (fun i b_=>match b_ with|12=>Q' fun j=>⟨⟨[(0,I' t),(1,D' c),(2,A' z),(7,A' c.length),(8,J' 8),(9,A' k),(10,J' 10),(19,A' i),(20,A' j)],[(8,O' (a8 c.length t c z.toNat k)),(10,O' ((d5 (cd (dq c.length (t.getD k []) c z.toNat) i) ((dq c.length (t.getD k []) c z.toNat).getD i 0) j++(dq c.length (t.getD k []) c z.toNat).drop (i+1))))]⟩,i<2*c.length/\j<=i/\cV (cd (dq c.length (t.getD k []) c z.toNat) i) ((dq c.length (t.getD k []) c z.toNat).getD i 0) i=cV (cd (dq c.length (t.getD k []) c z.toNat) i) ((dq c.length (t.getD k []) c z.toNat).getD i 0) j,j⟩|_=>none)|_=>none)
 |_=>none
def co(t:D3)(c:D1)(z:Int)(x0:Nat):=(dq c.length (t.getD x0 ([]:D2)) c z.toNat)
def aV(t:D3)(x0:Nat):=(t.getD x0 ([]:D2))
def iU(t:D3)(c:D1)(z:Int)(x0:Nat)(x1:Nat)(x2:Nat):=(d5 (cd (co t c z x0) x1) ((co t c z x0).getD x1 (0:Int)) x2++List.drop (x1+(1:Nat)) (co t c z x0))
def kX(t:D3)(c:D1)(z:Int)(x0:Nat)(x1:Nat):=(c.getD (↑x0:Int).toNat (0:Int)*(64:Int)+c.getD ((en (aV t x1) z.toNat x0).toNat) (0:Int))
def cD(t:D3)(c:D1)(z:Int)(x0:Nat):=(f5 (aV t x0) c z.toNat)
def iV(t:D3)(x0:Nat):=(t.getD (↑x0:Int).toNat ([]:D2))
theorem Vo:Fits Tryz.prog 223 ⟨[],Ek⟩:=by
 refine ffv (Γ:=ah []) aI Tryz.func223 fun ds p h ξ=>?_
 unfold Ek at h;split at h<;>cases h
 rename_i t c z
 refine⟨aj,Mm t c z,ac z c.length/\(∃x0:Nat,x0<=t.length/\t=t/\c=c/\z=z/\(c.length:Int)=(c.length:Int)/\(0:Int)=(x0:Int)/\[c.getD z.toNat (0:Int)]=a8 c.length t c z.toNat x0)/\∀x1:Nat,x1<=t.length->ab (decide ((x1:Int)<(t.length:Int))) ((∃x2:Nat,(x1<t.length/\x2<=c.length)/\t=t/\c=c/\z=z/\(c.length:Int)=(c.length:Int)/\(x1:Int)=(x1:Int)/\(0:Int)=(x2:Int)/\a8 c.length t c z.toNat x1=a8 c.length t c z.toNat x1/\[]=au x2 (cD t c z x1))/\∀x3:Nat,x1<t.length/\x3<=c.length->ab (decide ((x3:Int)<(c.length:Int))) (ac (x1:Int) t.length/\ac z (iV t x1).length/\ac (x3:Int) (((iV t x1).getD z.toNat []).length)/\ac (x1:Int) t.length/\ac (x3:Int) (iV t x1).length/\ac z (((iV t x1).getD (x3:Int).toNat []).length)/\ab ((List.getD (List.getD t (x1:Int).toNat ([]:D2)) z.toNat []).getD (x3:Int).toNat (0:Int) == (x3:Int)) (∃x4:Unit,x3<c.length/\t=t/\c=c/\z=z/\(c.length:Int)=(c.length:Int)/\(x1:Int)=(x1:Int)/\(x3:Int)=(x3:Int)/\(List.getD (iV t x1) z.toNat []).getD (x3:Int).toNat (0:Int)=en (aV t x1) z.toNat x3/\(List.getD (iV t x1) (x3:Int).toNat []).getD z.toNat (0:Int)=en (aV t x1) x3 z.toNat/\(1:Int)=jy (aV t x1) z.toNat x3/\a8 c.length t c z.toNat x1=a8 c.length t c z.toNat x1/\au x3 (cD t c z x1)=au x3 (cD t c z x1)) (∃x5:Unit,x3<c.length/\t=t/\c=c/\z=z/\(c.length:Int)=(c.length:Int)/\(x1:Int)=(x1:Int)/\(x3:Int)=(x3:Int)/\(List.getD (iV t x1) z.toNat []).getD (x3:Int).toNat (0:Int)=en (aV t x1) z.toNat x3/\(List.getD (iV t x1) (x3:Int).toNat []).getD z.toNat (0:Int)=en (aV t x1) x3 z.toNat/\(0:Int)=jy (aV t x1) z.toNat x3/\a8 c.length t c z.toNat x1=a8 c.length t c z.toNat x1/\au x3 (cD t c z x1)=au x3 (cD t c z x1))/\∀x6:Unit,(x3<c.length->ab (en (t.getD x1 ([]:D2)) x3 z.toNat == (x3:Int)) (af (jy (aV t x1) z.toNat x3+(2:Int))/\∃x7:Unit,x3<c.length/\t=t/\c=c/\z=z/\(c.length:Int)=(c.length:Int)/\(x1:Int)=(x1:Int)/\(x3:Int)=(x3:Int)/\en (aV t x1) z.toNat x3=en (aV t x1) z.toNat x3/\en (aV t x1) x3 z.toNat=en (aV t x1) x3 z.toNat/\jy (aV t x1) z.toNat x3+(2:Int)=ir (aV t x1) z.toNat x3/\a8 c.length t c z.toNat x1=a8 c.length t c z.toNat x1/\au x3 (cD t c z x1)=au x3 (cD t c z x1)) (∃x8:Unit,x3<c.length/\t=t/\c=c/\z=z/\(c.length:Int)=(c.length:Int)/\(x1:Int)=(x1:Int)/\(x3:Int)=(x3:Int)/\en (aV t x1) z.toNat x3=en (aV t x1) z.toNat x3/\en (aV t x1) x3 z.toNat=en (aV t x1) x3 z.toNat/\jy (aV t x1) z.toNat x3=ir (aV t x1) z.toNat x3/\a8 c.length t c z.toNat x1=a8 c.length t c z.toNat x1/\au x3 (cD t c z x1)=au x3 (cD t c z x1))/\∀x9:Unit,(x3<c.length->ab (en (t.getD x1 ([]:D2)) z.toNat x3 == z) (af (ir (aV t x1) z.toNat x3+(4:Int))/\∃x10:Unit,x3<c.length/\t=t/\c=c/\z=z/\(c.length:Int)=(c.length:Int)/\(x1:Int)=(x1:Int)/\(x3:Int)=(x3:Int)/\en (aV t x1) z.toNat x3=en (aV t x1) z.toNat x3/\en (aV t x1) x3 z.toNat=en (aV t x1) x3 z.toNat/\ir (aV t x1) z.toNat x3+(4:Int)=iu (aV t x1) z.toNat x3/\a8 c.length t c z.toNat x1=a8 c.length t c z.toNat x1/\au x3 (cD t c z x1)=au x3 (cD t c z x1)) (∃x11:Unit,x3<c.length/\t=t/\c=c/\z=z/\(c.length:Int)=(c.length:Int)/\(x1:Int)=(x1:Int)/\(x3:Int)=(x3:Int)/\en (aV t x1) z.toNat x3=en (aV t x1) z.toNat x3/\en (aV t x1) x3 z.toNat=en (aV t x1) x3 z.toNat/\ir (aV t x1) z.toNat x3=iu (aV t x1) z.toNat x3/\a8 c.length t c z.toNat x1=a8 c.length t c z.toNat x1/\au x3 (cD t c z x1)=au x3 (cD t c z x1))/\∀x12:Unit,(x3<c.length->ab (en (t.getD x1 ([]:D2)) x3 z.toNat == z) (af (iu (aV t x1) z.toNat x3+(8:Int))/\∃x13:Unit,x3<c.length/\t=t/\c=c/\z=z/\(c.length:Int)=(c.length:Int)/\(x1:Int)=(x1:Int)/\(x3:Int)=(x3:Int)/\en (aV t x1) z.toNat x3=en (aV t x1) z.toNat x3/\en (aV t x1) x3 z.toNat=en (aV t x1) x3 z.toNat/\iu (aV t x1) z.toNat x3+(8:Int)=gT (aV t x1) z.toNat x3/\a8 c.length t c z.toNat x1=a8 c.length t c z.toNat x1/\au x3 (cD t c z x1)=au x3 (cD t c z x1)) (∃x14:Unit,x3<c.length/\t=t/\c=c/\z=z/\(c.length:Int)=(c.length:Int)/\(x1:Int)=(x1:Int)/\(x3:Int)=(x3:Int)/\en (aV t x1) z.toNat x3=en (aV t x1) z.toNat x3/\en (aV t x1) x3 z.toNat=en (aV t x1) x3 z.toNat/\iu (aV t x1) z.toNat x3=gT (aV t x1) z.toNat x3/\a8 c.length t c z.toNat x1=a8 c.length t c z.toNat x1/\au x3 (cD t c z x1)=au x3 (cD t c z x1))/\∀x15:Unit,(x3<c.length->ac (x3:Int) c.length/\af (c.getD (x3:Int).toNat (0:Int)*(64:Int))/\ac (en (aV t x1) z.toNat x3) c.length/\af (kX t c z x3 x1)/\af ((kX t c z x3 x1)*(64:Int))/\ac (en (aV t x1) x3 z.toNat) c.length/\af ((kX t c z x3 x1)*(64:Int)+c.getD ((en (aV t x1) x3 z.toNat).toNat) (0:Int))/\af (((kX t c z x3 x1)*(64:Int)+c.getD ((en (aV t x1) x3 z.toNat).toNat) (0:Int))*(16:Int))/\af (((kX t c z x3 x1)*(64:Int)+c.getD ((en (aV t x1) x3 z.toNat).toNat) (0:Int))*(16:Int)+gT (aV t x1) z.toNat x3)/\am ((au x3 (cD t c z x1)).length+[((kX t c z x3 x1)*(64:Int)+c.getD ((en (aV t x1) x3 z.toNat).toNat) (0:Int))*(16:Int)+gT (aV t x1) z.toNat x3].length)/\af ((x3:Int)+(1:Int))/\∃x16:Nat,(x1<t.length/\x16<=c.length)/\c.length-x16<c.length-x3/\t=t/\c=c/\z=z/\(c.length:Int)=(c.length:Int)/\(x1:Int)=(x1:Int)/\(x3:Int)+(1:Int)=(x16:Int)/\a8 c.length t c z.toNat x1=a8 c.length t c z.toNat x1/\au x3 (cD t c z x1)++[((kX t c z x3 x1)*(64:Int)+c.getD ((en (aV t x1) x3 z.toNat).toNat) (0:Int))*(16:Int)+gT (aV t x1) z.toNat x3]=au x16 (cD t c z x1)))))) (((0:Int)<=(c.length:Int)/\(c.length:Int)<=(c.length:Int)/\am ((c.length:Int).toNat))/\(∃x17:Nat,(x1<t.length/\x17<=c.length)/\t=t/\c=c/\z=z/\(c.length:Int)=(c.length:Int)/\(x1:Int)=(x1:Int)/\(0:Int)=(x17:Int)/\a8 c.length t c z.toNat x1=a8 c.length t c z.toNat x1/\au x3 (cD t c z x1)=au c.length (cD t c z x1)/\List.replicate ((c.length:Int).toNat) (0:Int)=bZ c.length (aV t x1) z.toNat x17 (0:Nat))/\∀x18:Nat,x1<t.length/\x18<=c.length->ab (decide ((x18:Int)<(c.length:Int))) ((∃x19:Nat,(x18<c.length/\x19<=c.length)/\t=t/\c=c/\z=z/\(c.length:Int)=(c.length:Int)/\(x1:Int)=(x1:Int)/\(x18:Int)=(x18:Int)/\(0:Int)=(x19:Int)/\a8 c.length t c z.toNat x1=a8 c.length t c z.toNat x1/\au c.length (cD t c z x1)=au c.length (cD t c z x1)/\bZ c.length (aV t x1) z.toNat x18 (0:Nat)=bZ c.length (aV t x1) z.toNat x18 x19)/\∀x20:Nat,x18<c.length/\x20<=c.length->ab (decide ((x20:Int)<(c.length:Int))) (ac (x1:Int) t.length/\ac (x18:Int) (iV t x1).length/\ac (x20:Int) (((iV t x1).getD (x18:Int).toNat []).length)/\ab ((List.getD (List.getD t (x1:Int).toNat ([]:D2)) (x18:Int).toNat []).getD (x20:Int).toNat (0:Int) == z) (ac (x18:Int) ((bZ c.length (aV t x1) z.toNat x18 x20).length)/\af ((bZ c.length (aV t x1) z.toNat x18 x20).getD (x18:Int).toNat (0:Int)+(1:Int))/\ac (x18:Int) ((bZ c.length (aV t x1) z.toNat x18 x20).length)/\af ((x20:Int)+(1:Int))/\∃x21:Nat,(x18<c.length/\x21<=c.length)/\c.length-x21<c.length-x20/\t=t/\c=c/\z=z/\(c.length:Int)=(c.length:Int)/\(x1:Int)=(x1:Int)/\(x18:Int)=(x18:Int)/\(x20:Int)+(1:Int)=(x21:Int)/\a8 c.length t c z.toNat x1=a8 c.length t c z.toNat x1/\au c.length (cD t c z x1)=au c.length (cD t c z x1)/\List.set (bZ c.length (aV t x1) z.toNat x18 x20) (x18:Int).toNat ((bZ c.length (aV t x1) z.toNat x18 x20).getD (x18:Int).toNat (0:Int)+(1:Int))=bZ c.length (aV t x1) z.toNat x18 x21) (af ((x20:Int)+(1:Int))/\∃x22:Nat,(x18<c.length/\x22<=c.length)/\c.length-x22<c.length-x20/\t=t/\c=c/\z=z/\(c.length:Int)=(c.length:Int)/\(x1:Int)=(x1:Int)/\(x18:Int)=(x18:Int)/\(x20:Int)+(1:Int)=(x22:Int)/\a8 c.length t c z.toNat x1=a8 c.length t c z.toNat x1/\au c.length (cD t c z x1)=au c.length (cD t c z x1)/\bZ c.length (aV t x1) z.toNat x18 x20=bZ c.length (aV t x1) z.toNat x18 x22)) (af ((x18:Int)+(1:Int))/\∃x23:Nat,(x1<t.length/\x23<=c.length)/\c.length-x23<c.length-x18/\t=t/\c=c/\z=z/\(c.length:Int)=(c.length:Int)/\(x1:Int)=(x1:Int)/\(x18:Int)+(1:Int)=(x23:Int)/\a8 c.length t c z.toNat x1=a8 c.length t c z.toNat x1/\au c.length (cD t c z x1)=au c.length (cD t c z x1)/\bZ c.length (aV t x1) z.toNat x18 x20=bZ c.length (aV t x1) z.toNat x23 (0:Nat))) ((∃x24:Nat,(x1<t.length/\x24<=c.length)/\t=t/\c=c/\z=z/\(c.length:Int)=(c.length:Int)/\(x1:Int)=(x1:Int)/\(0:Int)=(x24:Int)/\a8 c.length t c z.toNat x1=a8 c.length t c z.toNat x1/\(au c.length (cD t c z x1)=au c.length (cD t c z x1)++au x24 fun(y:Nat)=>(1099511627776:Int)+c.getD y (0:Int)*(64:Int)+(↑(fO c.length (aV t x1) z.toNat y):Int))/\bZ c.length (aV t x1) z.toNat x18 (0:Nat)=bZ c.length (aV t x1) z.toNat c.length (0:Nat))/\∀x25:Nat,x1<t.length/\x25<=c.length->ab (decide ((x25:Int)<(c.length:Int))) (ac (x25:Int) c.length/\af (c.getD (x25:Int).toNat (0:Int)*(64:Int))/\af ((1099511627776:Int)+c.getD (x25:Int).toNat (0:Int)*(64:Int))/\ac (x25:Int) ((bZ c.length (aV t x1) z.toNat c.length (0:Nat)).length)/\af ((1099511627776:Int)+c.getD (x25:Int).toNat (0:Int)*(64:Int)+(bZ c.length (aV t x1) z.toNat c.length (0:Nat)).getD (x25:Int).toNat (0:Int))/\am ((au c.length (cD t c z x1)++au x25 fun(y:Nat)=>(1099511627776:Int)+c.getD y (0:Int)*(64:Int)+(↑(fO c.length (aV t x1) z.toNat y):Int)).length+[(1099511627776:Int)+c.getD (x25:Int).toNat (0:Int)*(64:Int)+(bZ c.length (aV t x1) z.toNat c.length (0:Nat)).getD (x25:Int).toNat (0:Int)].length)/\af ((x25:Int)+(1:Int))/\∃x26:Nat,(x1<t.length/\x26<=c.length)/\c.length-x26<c.length-x25/\t=t/\c=c/\z=z/\(c.length:Int)=(c.length:Int)/\(x1:Int)=(x1:Int)/\(x25:Int)+(1:Int)=(x26:Int)/\a8 c.length t c z.toNat x1=a8 c.length t c z.toNat x1/\((au c.length (cD t c z x1)++au x25 fun(y:Nat)=>(1099511627776:Int)+c.getD y (0:Int)*(64:Int)+(↑(fO c.length (aV t x1) z.toNat y):Int))++[(1099511627776:Int)+c.getD (x25:Int).toNat (0:Int)*(64:Int)+(bZ c.length (aV t x1) z.toNat c.length (0:Nat)).getD (x25:Int).toNat (0:Int)]=au c.length (cD t c z x1)++au x26 fun(y:Nat)=>(1099511627776:Int)+c.getD y (0:Int)*(64:Int)+(↑(fO c.length (aV t x1) z.toNat y):Int))/\bZ c.length (aV t x1) z.toNat c.length (0:Nat)=bZ c.length (aV t x1) z.toNat c.length (0:Nat)) ((∃x27:Nat,(x1<t.length/\(1:Nat)<=x27/\x27<=(2:Nat)*c.length)/\t=t/\c=c/\z=z/\(c.length:Int)=(c.length:Int)/\(x1:Int)=(x1:Int)/\(1:Int)=(x27:Int)/\a8 c.length t c z.toNat x1=a8 c.length t c z.toNat x1/\(au c.length (cD t c z x1)++au x25 fun(y:Nat)=>(1099511627776:Int)+c.getD y (0:Int)*(64:Int)+(↑(fO c.length (aV t x1) z.toNat y):Int))=cd (co t c z x1) x27++List.drop x27 (co t c z x1))/\∀x28:Nat,x1<t.length/\(1:Nat)<=x28/\x28<=(2:Nat)*c.length->ab (decide ((x28:Int)<(↑((cd (dq c.length (t.getD x1 ([]:D2)) c z.toNat) x28++List.drop x28 (dq c.length (t.getD x1 ([]:D2)) c z.toNat)).length):Int))) ((∃x29:Nat,(x28<(2:Nat)*c.length/\x29<=x28/\cV (cd (co t c z x1) x28) ((co t c z x1).getD x28 (0:Int)) x28=cV (cd (co t c z x1) x28) ((co t c z x1).getD x28 (0:Int)) x29)/\t=t/\c=c/\z=z/\(c.length:Int)=(c.length:Int)/\(x1:Int)=(x1:Int)/\(x28:Int)=(x28:Int)/\(x28:Int)=(x29:Int)/\a8 c.length t c z.toNat x1=a8 c.length t c z.toNat x1/\cd (co t c z x1) x28++List.drop x28 (co t c z x1)=d5 (cd (co t c z x1) x28) ((co t c z x1).getD x28 (0:Int)) x29++List.drop (x28+(1:Nat)) (co t c z x1))/\∀x30:Nat,x28<(2:Nat)*c.length/\x30<=x28/\cV (cd (co t c z x1) x28) ((co t c z x1).getD x28 (0:Int)) x28=cV (cd (co t c z x1) x28) ((co t c z x1).getD x28 (0:Int)) x30->ab (decide ((0:Int)<(x30:Int))) (ac (x30:Int) (iU t c z x1 x28 x30).length/\af ((x30:Int)-(1:Int))/\ac ((x30:Int)-(1:Int)) (iU t c z x1 x28 x30).length/\ab (decide ((d5 (cd (dq c.length (List.getD t x1 ([]:D2)) c z.toNat) x28) (List.getD (dq c.length (List.getD t x1 ([]:D2)) c z.toNat) x28 (0:Int)) x30++List.drop (x28+(1:Nat)) (dq c.length (List.getD t x1 ([]:D2)) c z.toNat)).getD (x30:Int).toNat (0:Int)<(d5 (cd (dq c.length (List.getD t x1 ([]:D2)) c z.toNat) x28) (List.getD (dq c.length (List.getD t x1 ([]:D2)) c z.toNat) x28 (0:Int)) x30++List.drop (x28+(1:Nat)) (dq c.length (List.getD t x1 ([]:D2)) c z.toNat)).getD (((x30:Int)-(1:Int)).toNat) (0:Int))) (ac (x30:Int) (iU t c z x1 x28 x30).length/\af ((x30:Int)-(1:Int))/\ac ((x30:Int)-(1:Int)) (iU t c z x1 x28 x30).length/\ac (x30:Int) (iU t c z x1 x28 x30).length/\af ((x30:Int)-(1:Int))/\ac ((x30:Int)-(1:Int)) ((List.set (iU t c z x1 x28 x30) (x30:Int).toNat ((iU t c z x1 x28 x30).getD (((x30:Int)-(1:Int)).toNat) (0:Int))).length)/\af ((x30:Int)-(1:Int))/\∃x31:Nat,(x28<(2:Nat)*c.length/\x31<=x28/\cV (cd (co t c z x1) x28) ((co t c z x1).getD x28 (0:Int)) x28=cV (cd (co t c z x1) x28) ((co t c z x1).getD x28 (0:Int)) x31)/\x31<x30/\t=t/\c=c/\z=z/\(c.length:Int)=(c.length:Int)/\(x1:Int)=(x1:Int)/\(x28:Int)=(x28:Int)/\(x30:Int)-(1:Int)=(x31:Int)/\a8 c.length t c z.toNat x1=a8 c.length t c z.toNat x1/\List.set (List.set (iU t c z x1 x28 x30) (x30:Int).toNat ((iU t c z x1 x28 x30).getD (((x30:Int)-(1:Int)).toNat) (0:Int))) (((x30:Int)-(1:Int)).toNat) ((iU t c z x1 x28 x30).getD (x30:Int).toNat (0:Int))=d5 (cd (co t c z x1) x28) ((co t c z x1).getD x28 (0:Int)) x31++List.drop (x28+(1:Nat)) (co t c z x1)) (af ((x28:Int)+(1:Int))/\∃x32:Nat,(x1<t.length/\(1:Nat)<=x32/\x32<=(2:Nat)*c.length)/\(2:Nat)*c.length-x32<(2:Nat)*c.length-x28/\t=t/\c=c/\z=z/\(c.length:Int)=(c.length:Int)/\(x1:Int)=(x1:Int)/\(x28:Int)+(1:Int)=(x32:Int)/\a8 c.length t c z.toNat x1=a8 c.length t c z.toNat x1/\d5 (cd (co t c z x1) x28) ((co t c z x1).getD x28 (0:Int)) x30++List.drop (x28+(1:Nat)) (co t c z x1)=cd (co t c z x1) x32++List.drop x32 (co t c z x1))) (af ((x28:Int)+(1:Int))/\∃x33:Nat,(x1<t.length/\(1:Nat)<=x33/\x33<=(2:Nat)*c.length)/\(2:Nat)*c.length-x33<(2:Nat)*c.length-x28/\t=t/\c=c/\z=z/\(c.length:Int)=(c.length:Int)/\(x1:Int)=(x1:Int)/\(x28:Int)+(1:Int)=(x33:Int)/\a8 c.length t c z.toNat x1=a8 c.length t c z.toNat x1/\d5 (cd (co t c z x1) x28) ((co t c z x1).getD x28 (0:Int)) x30++List.drop (x28+(1:Nat)) (co t c z x1)=cd (co t c z x1) x33++List.drop x33 (co t c z x1))) (am ((a8 c.length t c z.toNat x1).length+(cd (co t c z x1) x28++List.drop x28 (co t c z x1)).length)/\af ((x1:Int)+(1:Int))/\∃x34:Nat,x34<=t.length/\t.length-x34<t.length-x1/\t=t/\c=c/\z=z/\(c.length:Int)=(c.length:Int)/\(x1:Int)+(1:Int)=(x34:Int)/\a8 c.length t c z.toNat x1++(cd (co t c z x1) x28++List.drop x28 (co t c z x1))=a8 c.length t c z.toNat x34))))) (a8 c.length t c z.toNat x1=ce c.length t c z.toNat/\True),by kernel_rfl,?_⟩
 simp only[co,aV,iU,kX,cD,iV,aJ]at ξ⊢;obtain⟨h1,h2,h3,h4,h5,h6,h7⟩:=ξ;simp only[ep,Ml,Ej,Ei,ud];refine⟨by omega,⟨0,by omega,rfl,rfl⟩,fun k hk=>⟨fun hk2=>?_,fun hk2=>?_⟩⟩
 ·have A:=h4 k (by omega)
  have hz:((z.toNat:Nat):Int)=z:=by omega
  have hkn:k*(2*c.length)<=1000*24:=Be (by omega) (by omega)
  have L1:(t.getD k []).length=c.length:=A.1
  have L2:=(A.2 z.toNat (by omega)).1
  have MS:∀S:D2,S=t.getD k []->a8 c.length t c z.toNat k++kY (dq c.length S c z.toNat)=a8 c.length t c z.toNat (k+1):=fun S e=>by rw[e];rfl
  generalize t.getD k []=T at *
  refine⟨⟨0,⟨by omega,by omega⟩,rfl,rfl⟩,fun j ⟨_,hj⟩=>⟨fun hj2=>?_,fun hj2=>?_⟩⟩
  ·have E1:=(A.2 z.toNat (by omega)).2 j (by omega)
   have E2:=(A.2 j (by omega)).2 z.toNat (by omega)
   have L3:=(A.2 j (by omega)).1
   obtain⟨O1,O2,O3,O4⟩:=Vb T z.toNat j;refine⟨by omega,by omega,by omega,by omega,by omega,by omega,⟨fun q=>⟨⟨⟩,by omega,rfl,rfl,(AA q).symm⟩,fun q=>⟨⟨⟩,by omega,rfl,rfl,(AB q).symm⟩⟩,fun _ _=>⟨⟨fun q=>⟨by omega,⟨⟩,by omega,?_⟩,fun q=>⟨⟨⟩,by omega,?_⟩⟩,fun _ _=>⟨⟨fun q=>⟨by omega,⟨⟩,by omega,?_⟩,fun q=>⟨⟨⟩,by omega,?_⟩⟩,fun _ _=>⟨⟨fun q=>⟨by omega,⟨⟩,by omega,?_⟩,fun q=>⟨⟨⟩,by omega,?_⟩⟩,fun _ _=>?_⟩⟩⟩⟩
   ·rw[ir,AA q]
   ·rw[ir,AB q];omega
   ·rw[iu,hz,AA q]
   ·rw[iu,hz,AB q];omega
   ·rw[Eg,hz,AA q]
   ·rw[Eg,hz,AB q];omega
   ·have c1:=h5 j (by omega)
    have c2:=h5 (en T z.toNat j).toNat (by omega)
    have c3:=h5 (en T j z.toNat).toNat (by omega)
    refine⟨by omega,by omega,by omega,by omega,by omega,by omega,by omega,by omega,by omega,by omega,by omega,j+1,⟨by omega,by omega⟩,by omega,by omega,?_⟩
    rw[tab_succ'];rfl
  ·have ej:j=c.length:=by omega
   subst ej;refine⟨⟨by omega,by omega,by omega⟩,⟨0,⟨by omega,by omega⟩,rfl,rfl,Vg _ _ _⟩,fun j ⟨_,hj⟩=>⟨fun hj2=>⟨⟨0,⟨by omega,by omega⟩,rfl,rfl⟩,fun i ⟨_,hi⟩=>⟨fun hi2=>?_,fun hi2=>?_⟩⟩,fun hj2=>?_⟩⟩
   ·have L3:=(A.2 j (by omega)).1
    have cl:=Eh T z.toNat j i
    rw[Vh _ _ _ (by omega)]
    refine⟨by omega,by omega,by omega,fun q=>⟨by omega,by omega,by omega,by omega,i+1,⟨by omega,by omega⟩,by omega,by omega,?_⟩,fun q=>⟨by omega,i+1,⟨by omega,by omega⟩,by omega,by omega,?_⟩⟩
    ·exact Vi (by rw[hz];exact q)
    ·exact Vj (by rw[hz];exact q)
   ·rw[show i=c.length by omega]
    exact⟨by omega,j+1,⟨by omega,by omega⟩,by omega,by omega,Vk _ _ _ _⟩
   ·rw[show j=c.length by omega]
    refine⟨⟨0,⟨by omega,by omega⟩,rfl,by simp[au]⟩,fun j ⟨_,hj⟩=>⟨fun hj2=>?_,fun hj2=>?_⟩⟩
    ·have c1:=h5 j (by omega)
     have cl:fO c.length T z.toNat j<=c.length:=Eh _ _ _ _
     rw[Vl _ _ (by omega)]
     refine⟨by omega,by omega,by omega,by omega,by omega,by omega,by omega,j+1,⟨by omega,by omega⟩,by omega,by omega,?_⟩
     rw[tab_succ',Ao]
    ·have ej:j=c.length:=by omega
     subst ej;have SL:=Ei c.length T c z.toNat
     have S0:au c.length (f5 T c z.toNat)++(au c.length fun y=>1099511627776+c.getD y 0*64+(fO c.length T z.toNat y:Int))=dq c.length T c z.toNat:=rfl
     rw[S0];have MS:=MS T rfl
     generalize dq c.length T c z.toNat=S at *
     have I1:cd S 1=S.take 1:=by
      rw[<-dZ S 0 0 (by omega)];rfl
     refine⟨⟨1,⟨by omega,by omega,by omega⟩,rfl,by rw[I1,CF]⟩,fun i ⟨_,hi1,hi⟩=>⟨fun hi2=>?_,fun hi2=>?_⟩⟩
     ·have PL:=ud S i
      have B0:cd S i++S.drop i=d5 (cd S i) (S.getD i 0) i++S.drop (i+1):=by
       rw[d5,AU (by omega),BF (l:=cd S i) (by omega),drop_cons' S 0 i (by omega),Ao];rfl
      have BN:∀j,cV (cd S i) (S.getD i 0) i=j->d5 (cd S i) (S.getD i 0) j++S.drop (i+1)=cd S (i+1)++S.drop (i+1):=fun j e=>by
       rw[cd,mA,PL,e];rfl
      generalize cd S i=p at *
      generalize S.getD i 0=x at *
      refine⟨⟨i,⟨by omega,by omega,rfl⟩,rfl,B0⟩,fun j ⟨_,hj,ib⟩=>?_⟩
      have BL:=Vc p x (j:=j) (by omega)
      rw[BL];refine⟨fun j0=>?_,fun j0=>?_⟩
      ·obtain⟨j,rfl⟩:∃m,j=m+1:=⟨j-1,by omega⟩
       have g1:(d5 p x (j+1)++S.drop (i+1)).getD (j+1) 0=x:=by rw[getD_append_left' _ _ _ _ (by omega),Vd _ _ (by omega)]
       have g0:(d5 p x (j+1)++S.drop (i+1)).getD j 0=p.getD j 0:=by rw[getD_append_left' _ _ _ _ (by omega),Ve _ _ (by omega)]
       have ez:(((j+1:Nat):Int)-1).toNat=j:=by omega
       rw[cV]at ib;rw[ez,g1,g0];refine⟨by omega,by omega,by omega,fun q=>⟨by omega,by omega,by omega,by omega,by omega,by omega,by omega,j,⟨by omega,by omega,by rw[ib,AA q]⟩,by omega,by omega,?_⟩,fun q=>⟨by omega,i+1,⟨by omega,by omega,by omega⟩,by omega,by omega,BN (j+1) (by rw[ib,AB q])⟩⟩
       rw[List.set_append_left _ _ (by omega),List.set_append_left _ _ (by rw[Ak];omega),Vf _ _ (by omega)]
      ·have ej:j=0:=by omega
       subst ej;exact⟨by omega,i+1,⟨by omega,by omega,by omega⟩,by omega,by omega,BN 0 ib⟩
     ·have ei:i=S.length:=by omega
      rw[ei,DU,Ac];exact⟨by omega,by omega,k+1,by omega,by omega,by omega,MS⟩
 ·rw[ce,show k=t.length by omega]
end Go.Sx
