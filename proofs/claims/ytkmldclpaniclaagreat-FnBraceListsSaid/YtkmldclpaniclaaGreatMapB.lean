/- MapB -/
import Derived.Test.YtkmldclpaniclaaGreatMapA
set_option linter.unusedSimpArgs false
set_option linter.unusedVariables false
set_option linter.defProp false
open Go Go.Proofs
namespace Go.Sx
def jX(t:D7)(x y:Nat):Int:=if en t x y=(y:Int)then 1 else 0
def iO(t:D7)(x y:Nat):Int:=jX t x y+if en t y x=(y:Int)then 2 else 0
def iP(t:D7)(x y:Nat):Int:=iO t x y+if en t x y=(x:Int)then 4 else 0
def Gn(t:D7)(x y:Nat):ic t x y=iP t x y+if en t y x=(x:Int)then 8 else 0:=rfl
def Zc(t:D7)(x y:Nat):(0<=jX t x y/\jX t x y<=1)/\(0<=iO t x y/\iO t x y<=3)/\(0<=iP t x y/\iP t x y<=7)/\0<=ic t x y/\ic t x y<=15:=by
 rw[Gn];unfold iP iO jX;split<;>split<;>split<;>split<;>omega
def Gp(t:D7)(x y:Nat):∀n,ie t x y n<=n
 |0=>AE _
 |n+1=>by rw[ie];have:=Gp t x y n;split<;>omega
def cp(n:Nat)(t:D7)(x j i:Nat):D6:=ax n λq=>if q<j then(f4 n t x q:Int)else if q=j then(ie t x j i:Int)else 0
def eG(p:D6)(x:Int)(j:Nat):D6:=p.take j++x::p.drop j
def Zd(p:D6)(x:Int){j:Nat}(h:j<=p.length):(eG p x j).length=p.length+1:=by simp[eG];omega
def Ze(p:D6)(x:Int){j:Nat}(h:j<=p.length):(eG p x j).getD j 0=x:=KA _ _ _ _ _ (by rw[AP];omega)
def Zf(p:D6)(x:Int){j:Nat}(h:j+1<=p.length):(eG p x (j+1)).getD j 0=p.getD j 0:=by
 rw[eG,getD_append_left' _ _ _ _ (by rw[AP];omega),qg _ _ _ _ (by omega)]
def Zg(p:D6)(x:Int){j:Nat}(h:j+1<=p.length):((eG p x (j+1)).set (j+1) (p.getD j 0)).set j x=eG p x j:=by
 rw[eG,eG,yS _ _ _ _ _ (by rw[AP];omega),<-dZ p 0 j (by omega),Ap,DB,yS _ _ _ _ _ (by rw[AP];omega),drop_cons' p 0 j (by omega)]
def tab_succ'(n:Nat)(f:Nat->Int):ax (n+1) f=ax n f++[f n]:=by simp[ax,Br]
def Pb(n:Nat)(t:D7)(x j i:Nat):(cp n t x j i).length=n:=d4 _ _
def Zh(n:Nat)(t:D7)(x:Nat):List.replicate n 0=cp n t x 0 0:=by
 refine kA (by rw[Pb];simp) λq hq=>?_
 have hq:q<n:=by simpa using hq
 rw[cp,eA _ _ _ hq,AB (by omega)]
 simp[AM,hq,ie]
def Zi{n:Nat}(t:D7)(x:Nat){j:Nat}(i:Nat)(h:j<n):(cp n t x j i).getD j 0=(ie t x j i:Int):=by
 rw[cp,eA _ _ _ h,AB (by omega),AA rfl]
def Zj{n:Nat}{t:D7}{x j i:Nat}(h:en t j i=(x:Int)):(cp n t x j i).set j ((ie t x j i:Int)+1)=cp n t x j (i+1):=by
 rw[cp,cp,aD1];refine ot λq hq=>?_
 by_cases e:q=j
 ·rw[AA e,AB (by omega),AA e,ie,AA h];rfl
 ·rw[AB e,AB e,AB e]
def Zk{n:Nat}{t:D7}{x j i:Nat}(h:¬ en t j i=(x:Int)):cp n t x j i=cp n t x j (i+1):=by
 rw[cp,cp];refine ot λq hq=>?_
 rw[ie,AB h]
def Zl(n:Nat)(t:D7)(x j:Nat):cp n t x j n=cp n t x (j+1) 0:=by
 rw[cp,cp];refine ot λq hq=>?_
 by_cases e:q=j
 ·rw[AB (by omega),AA e,AA (by omega),f4,e]
 ·by_cases e2:q<j
  ·rw[AA e2,AA (by omega)]
  ·rw[AB e2,AB e,AB (by omega)]
   split
   ·rfl
   ·rfl
def Zm{n:Nat}(t:D7)(x:Nat){q:Nat}(h:q<n):(cp n t x n 0).getD q 0=(f4 n t x q:Int):=by
 rw[cp,eA _ _ _ h,AA h]
def Gq(n:Nat)(t:D7)(c:D6)(x:Nat):(dM n t c x).length=2*n:=by rw[dM,Ag,d4,d4];omega
def Gr(n:Nat)(a:D8)(c:D6)(x:Nat):∀k,(bp n a c x k).length=1+k*(2*n)
 |0=>by simp[bp]
 |k+1=>by rw[bp,Ag,Gr n a c x k,lS,vW,Gq,Bu,Nat.one_mul,BU]
def Gs:List AD->Option Post
 | [.c (.r3 .i64 t),.c (.ints .i64 c),.c (.int .i64 z)]=>some ⟨t.length<=1000/\1<=c.length/\c.length<=12/\bK c.length t/\(∀i,i<c.length->0<=c.getD i 0/\c.getD i 0<=60)/\0<=z/\z<(c.length:Int),.c (.ints 2 .i64 (cC c.length t c z.toNat)),[]⟩
 |_=>none
def Pc(t:D8)(c:D6)(z:Int):Nat->Option Ann
 |0=>T' (λk=>⟨⟨[(0,I' t),(1,D' c),(2,A' z),(7,A' c.length),(8,J' 8),(9,A' k)],[(8,O' (bp c.length t c z.toNat k))]⟩,k<=t.length,t.length-k⟩) (λk b_=>match b_ with|2=>T' (λj=>⟨⟨[(0,I' t),(1,D' c),(2,A' z),(7,A' c.length),(8,J' 8),(9,A' k),(10,J' 10),(11,A' j)],[(8,O' (bp c.length t c z.toNat k)),(10,O' (ax j (gu (t.getD k []) c z.toNat)))]⟩,k<t.length/\j<=c.length,c.length-j⟩) (λj b_=>match b_ with|1013=>some (Ann.mk ((Unit)) (λu=>⟨[(0,I' t),(1,D' c),(2,A' z),(7,A' c.length),(8,J' 8),(9,A' k),(10,J' 10),(11,A' j),(12,A' (en (t.getD k []) z.toNat j)),(13,A' (en (t.getD k []) j z.toNat)),(14,A' (jX (t.getD k []) z.toNat j))],[(8,O' (bp c.length t c z.toNat k)),(10,O' (ax j (gu (t.getD k []) c z.toNat)))]⟩) (λu=>j<c.length) (λu=>0) (λ_=>ar))|1015=>some (Ann.mk ((Unit)) (λu=>⟨[(0,I' t),(1,D' c),(2,A' z),(7,A' c.length),(8,J' 8),(9,A' k),(10,J' 10),(11,A' j),(12,A' (en (t.getD k []) z.toNat j)),(13,A' (en (t.getD k []) j z.toNat)),(14,A' (iO (t.getD k []) z.toNat j))],[(8,O' (bp c.length t c z.toNat k)),(10,O' (ax j (gu (t.getD k []) c z.toNat)))]⟩) (λu=>j<c.length) (λu=>0) (λ_=>ar))|1017=>some (Ann.mk ((Unit)) (λu=>⟨[(0,I' t),(1,D' c),(2,A' z),(7,A' c.length),(8,J' 8),(9,A' k),(10,J' 10),(11,A' j),(12,A' (en (t.getD k []) z.toNat j)),(13,A' (en (t.getD k []) j z.toNat)),(14,A' (iP (t.getD k []) z.toNat j))],[(8,O' (bp c.length t c z.toNat k)),(10,O' (ax j (gu (t.getD k []) c z.toNat)))]⟩) (λu=>j<c.length) (λu=>0) (λ_=>ar))|1019=>some (Ann.mk ((Unit)) (λu=>⟨[(0,I' t),(1,D' c),(2,A' z),(7,A' c.length),(8,J' 8),(9,A' k),(10,J' 10),(11,A' j),(12,A' (en (t.getD k []) z.toNat j)),(13,A' (en (t.getD k []) j z.toNat)),(14,A' (ic (t.getD k []) z.toNat j))],[(8,O' (bp c.length t c z.toNat k)),(10,O' (ax j (gu (t.getD k []) c z.toNat)))]⟩) (λu=>j<c.length) (λu=>0) (λ_=>ar))|_=>none)|4=>T' (λj=>⟨⟨[(0,I' t),(1,D' c),(2,A' z),(7,A' c.length),(8,J' 8),(9,A' k),(10,J' 10),(15,J' 15),(16,A' j)],[(8,O' (bp c.length t c z.toNat k)),(10,O' (ax c.length (gu (t.getD k []) c z.toNat))),(15,O' (cp c.length (t.getD k []) z.toNat j 0))]⟩,k<t.length/\j<=c.length,c.length-j⟩) (λj b_=>match b_ with|6=>Q' λi=>⟨⟨[(0,I' t),(1,D' c),(2,A' z),(7,A' c.length),(8,J' 8),(9,A' k),(10,J' 10),(15,J' 15),(16,A' j),(17,A' i)],[(8,O' (bp c.length t c z.toNat k)),(10,O' (ax c.length (gu (t.getD k []) c z.toNat))),(15,O' (cp c.length (t.getD k []) z.toNat j i))]⟩,j<c.length/\i<=c.length,c.length-i⟩|_=>none)|8=>Q' λj=>⟨⟨[(0,I' t),(1,D' c),(2,A' z),(7,A' c.length),(8,J' 8),(9,A' k),(10,J' 10),(15,J' 15),(18,A' j)],[(8,O' (bp c.length t c z.toNat k)),(10,O' (ax c.length (gu (t.getD k []) c z.toNat)++ax j (λy=>1099511627776+c.getD y 0*64+(f4 c.length (t.getD k []) z.toNat y:Int)))),(15,O' (cp c.length (t.getD k []) z.toNat c.length 0))]⟩,k<t.length/\j<=c.length,c.length-j⟩|10=>T' (λi=>⟨⟨[(0,I' t),(1,D' c),(2,A' z),(7,A' c.length),(8,J' 8),(9,A' k),(10,J' 10),(19,A' i)],[(8,O' (bp c.length t c z.toNat k)),(10,O' ((cB (dM c.length (t.getD k []) c z.toNat) i++(dM c.length (t.getD k []) c z.toNat).drop i)))]⟩,k<t.length/\1<=i/\i<=2*c.length,2*c.length-i⟩) (λi b_=>match b_ with|12=>Q' λj=>⟨⟨[(0,I' t),(1,D' c),(2,A' z),(7,A' c.length),(8,J' 8),(9,A' k),(10,J' 10),(19,A' i),(20,A' j)],[(8,O' (bp c.length t c z.toNat k)),(10,O' ((eG (cB (dM c.length (t.getD k []) c z.toNat) i) ((dM c.length (t.getD k []) c z.toNat).getD i 0) j++(dM c.length (t.getD k []) c z.toNat).drop (i+1))))]⟩,i<2*c.length/\j<=i/\dg (cB (dM c.length (t.getD k []) c z.toNat) i) ((dM c.length (t.getD k []) c z.toNat).getD i 0) i=dg (cB (dM c.length (t.getD k []) c z.toNat) i) ((dM c.length (t.getD k []) c z.toNat).getD i 0) j,j⟩|_=>none)|_=>none)
 |_=>none
def cE(t:D8)(c:D6)(z:Int)(x0:Nat):=(dM c.length (t.getD x0 ([]:D7)) c z.toNat)
def bc(t:D8)(x0:Nat):=(t.getD x0 ([]:D7))
def jj(t:D8)(c:D6)(z:Int)(x0:Nat)(x1:Nat)(x2:Nat):=(eG (cB (cE t c z x0) x1) ((cE t c z x0).getD x1 (0:Int)) x2++List.drop (x1+(1:Nat)) (cE t c z x0))
def lQ(t:D8)(c:D6)(z:Int)(x0:Nat)(x1:Nat):=(c.getD (↑x0:Int).toNat (0:Int)*(64:Int)+c.getD ((en (bc t x1) z.toNat x0).toNat) (0:Int))
def cO(t:D8)(c:D6)(z:Int)(x0:Nat):=(gu (bc t x0) c z.toNat)
def jk(t:D8)(x0:Nat):=(t.getD (↑x0:Int).toNat ([]:D7))
def Zp:Fits Tryz.prog 223 ⟨[],Gs⟩:=by
 refine ffv (Γ:=ah []) aN Tryz.func223 λds p h ξ=>?_
 unfold Gs at h;split at h<;>cases h
 rename_i t c z
 refine⟨aj,Pc t c z,ac z c.length/\(∃x0:Nat,x0<=t.length/\t=t/\c=c/\z=z/\(c.length:Int)=(c.length:Int)/\(0:Int)=(x0:Int)/\[c.getD z.toNat (0:Int)]=bp c.length t c z.toNat x0)/\∀x1:Nat,x1<=t.length->ab (decide ((x1:Int)<(t.length:Int))) ((∃x2:Nat,(x1<t.length/\x2<=c.length)/\t=t/\c=c/\z=z/\(c.length:Int)=(c.length:Int)/\(x1:Int)=(x1:Int)/\(0:Int)=(x2:Int)/\bp c.length t c z.toNat x1=bp c.length t c z.toNat x1/\[]=ax x2 (cO t c z x1))/\∀x3:Nat,x1<t.length/\x3<=c.length->ab (decide ((x3:Int)<(c.length:Int))) (ac (x1:Int) t.length/\ac z (jk t x1).length/\ac (x3:Int) (((jk t x1).getD z.toNat []).length)/\ac (x1:Int) t.length/\ac (x3:Int) (jk t x1).length/\ac z (((jk t x1).getD (x3:Int).toNat []).length)/\ab ((List.getD (List.getD t (x1:Int).toNat ([]:D7)) z.toNat []).getD (x3:Int).toNat (0:Int) == (x3:Int)) (∃x4:Unit,x3<c.length/\t=t/\c=c/\z=z/\(c.length:Int)=(c.length:Int)/\(x1:Int)=(x1:Int)/\(x3:Int)=(x3:Int)/\(List.getD (jk t x1) z.toNat []).getD (x3:Int).toNat (0:Int)=en (bc t x1) z.toNat x3/\(List.getD (jk t x1) (x3:Int).toNat []).getD z.toNat (0:Int)=en (bc t x1) x3 z.toNat/\(1:Int)=jX (bc t x1) z.toNat x3/\bp c.length t c z.toNat x1=bp c.length t c z.toNat x1/\ax x3 (cO t c z x1)=ax x3 (cO t c z x1)) (∃x5:Unit,x3<c.length/\t=t/\c=c/\z=z/\(c.length:Int)=(c.length:Int)/\(x1:Int)=(x1:Int)/\(x3:Int)=(x3:Int)/\(List.getD (jk t x1) z.toNat []).getD (x3:Int).toNat (0:Int)=en (bc t x1) z.toNat x3/\(List.getD (jk t x1) (x3:Int).toNat []).getD z.toNat (0:Int)=en (bc t x1) x3 z.toNat/\(0:Int)=jX (bc t x1) z.toNat x3/\bp c.length t c z.toNat x1=bp c.length t c z.toNat x1/\ax x3 (cO t c z x1)=ax x3 (cO t c z x1))/\∀x6:Unit,(x3<c.length->ab (en (t.getD x1 ([]:D7)) x3 z.toNat == (x3:Int)) (ae (jX (bc t x1) z.toNat x3+(2:Int))/\∃x7:Unit,x3<c.length/\t=t/\c=c/\z=z/\(c.length:Int)=(c.length:Int)/\(x1:Int)=(x1:Int)/\(x3:Int)=(x3:Int)/\en (bc t x1) z.toNat x3=en (bc t x1) z.toNat x3/\en (bc t x1) x3 z.toNat=en (bc t x1) x3 z.toNat/\jX (bc t x1) z.toNat x3+(2:Int)=iO (bc t x1) z.toNat x3/\bp c.length t c z.toNat x1=bp c.length t c z.toNat x1/\ax x3 (cO t c z x1)=ax x3 (cO t c z x1)) (∃x8:Unit,x3<c.length/\t=t/\c=c/\z=z/\(c.length:Int)=(c.length:Int)/\(x1:Int)=(x1:Int)/\(x3:Int)=(x3:Int)/\en (bc t x1) z.toNat x3=en (bc t x1) z.toNat x3/\en (bc t x1) x3 z.toNat=en (bc t x1) x3 z.toNat/\jX (bc t x1) z.toNat x3=iO (bc t x1) z.toNat x3/\bp c.length t c z.toNat x1=bp c.length t c z.toNat x1/\ax x3 (cO t c z x1)=ax x3 (cO t c z x1))/\∀x9:Unit,(x3<c.length->ab (en (t.getD x1 ([]:D7)) z.toNat x3 == z) (ae (iO (bc t x1) z.toNat x3+(4:Int))/\∃x10:Unit,x3<c.length/\t=t/\c=c/\z=z/\(c.length:Int)=(c.length:Int)/\(x1:Int)=(x1:Int)/\(x3:Int)=(x3:Int)/\en (bc t x1) z.toNat x3=en (bc t x1) z.toNat x3/\en (bc t x1) x3 z.toNat=en (bc t x1) x3 z.toNat/\iO (bc t x1) z.toNat x3+(4:Int)=iP (bc t x1) z.toNat x3/\bp c.length t c z.toNat x1=bp c.length t c z.toNat x1/\ax x3 (cO t c z x1)=ax x3 (cO t c z x1)) (∃x11:Unit,x3<c.length/\t=t/\c=c/\z=z/\(c.length:Int)=(c.length:Int)/\(x1:Int)=(x1:Int)/\(x3:Int)=(x3:Int)/\en (bc t x1) z.toNat x3=en (bc t x1) z.toNat x3/\en (bc t x1) x3 z.toNat=en (bc t x1) x3 z.toNat/\iO (bc t x1) z.toNat x3=iP (bc t x1) z.toNat x3/\bp c.length t c z.toNat x1=bp c.length t c z.toNat x1/\ax x3 (cO t c z x1)=ax x3 (cO t c z x1))/\∀x12:Unit,(x3<c.length->ab (en (t.getD x1 ([]:D7)) x3 z.toNat == z) (ae (iP (bc t x1) z.toNat x3+(8:Int))/\∃x13:Unit,x3<c.length/\t=t/\c=c/\z=z/\(c.length:Int)=(c.length:Int)/\(x1:Int)=(x1:Int)/\(x3:Int)=(x3:Int)/\en (bc t x1) z.toNat x3=en (bc t x1) z.toNat x3/\en (bc t x1) x3 z.toNat=en (bc t x1) x3 z.toNat/\iP (bc t x1) z.toNat x3+(8:Int)=ic (bc t x1) z.toNat x3/\bp c.length t c z.toNat x1=bp c.length t c z.toNat x1/\ax x3 (cO t c z x1)=ax x3 (cO t c z x1)) (∃x14:Unit,x3<c.length/\t=t/\c=c/\z=z/\(c.length:Int)=(c.length:Int)/\(x1:Int)=(x1:Int)/\(x3:Int)=(x3:Int)/\en (bc t x1) z.toNat x3=en (bc t x1) z.toNat x3/\en (bc t x1) x3 z.toNat=en (bc t x1) x3 z.toNat/\iP (bc t x1) z.toNat x3=ic (bc t x1) z.toNat x3/\bp c.length t c z.toNat x1=bp c.length t c z.toNat x1/\ax x3 (cO t c z x1)=ax x3 (cO t c z x1))/\∀x15:Unit,(x3<c.length->ac (x3:Int) c.length/\ae (c.getD (x3:Int).toNat (0:Int)*(64:Int))/\ac (en (bc t x1) z.toNat x3) c.length/\ae (lQ t c z x3 x1)/\ae ((lQ t c z x3 x1)*(64:Int))/\ac (en (bc t x1) x3 z.toNat) c.length/\ae ((lQ t c z x3 x1)*(64:Int)+c.getD ((en (bc t x1) x3 z.toNat).toNat) (0:Int))/\ae (((lQ t c z x3 x1)*(64:Int)+c.getD ((en (bc t x1) x3 z.toNat).toNat) (0:Int))*(16:Int))/\ae (((lQ t c z x3 x1)*(64:Int)+c.getD ((en (bc t x1) x3 z.toNat).toNat) (0:Int))*(16:Int)+ic (bc t x1) z.toNat x3)/\au ((ax x3 (cO t c z x1)).length+[((lQ t c z x3 x1)*(64:Int)+c.getD ((en (bc t x1) x3 z.toNat).toNat) (0:Int))*(16:Int)+ic (bc t x1) z.toNat x3].length)/\ae ((x3:Int)+(1:Int))/\∃x16:Nat,(x1<t.length/\x16<=c.length)/\c.length-x16<c.length-x3/\t=t/\c=c/\z=z/\(c.length:Int)=(c.length:Int)/\(x1:Int)=(x1:Int)/\(x3:Int)+(1:Int)=(x16:Int)/\bp c.length t c z.toNat x1=bp c.length t c z.toNat x1/\ax x3 (cO t c z x1)++[((lQ t c z x3 x1)*(64:Int)+c.getD ((en (bc t x1) x3 z.toNat).toNat) (0:Int))*(16:Int)+ic (bc t x1) z.toNat x3]=ax x16 (cO t c z x1)))))) (((0:Int)<=(c.length:Int)/\(c.length:Int)<=(c.length:Int)/\au ((c.length:Int).toNat))/\(∃x17:Nat,(x1<t.length/\x17<=c.length)/\t=t/\c=c/\z=z/\(c.length:Int)=(c.length:Int)/\(x1:Int)=(x1:Int)/\(0:Int)=(x17:Int)/\bp c.length t c z.toNat x1=bp c.length t c z.toNat x1/\ax x3 (cO t c z x1)=ax c.length (cO t c z x1)/\List.replicate ((c.length:Int).toNat) (0:Int)=cp c.length (bc t x1) z.toNat x17 (0:Nat))/\∀x18:Nat,x1<t.length/\x18<=c.length->ab (decide ((x18:Int)<(c.length:Int))) ((∃x19:Nat,(x18<c.length/\x19<=c.length)/\t=t/\c=c/\z=z/\(c.length:Int)=(c.length:Int)/\(x1:Int)=(x1:Int)/\(x18:Int)=(x18:Int)/\(0:Int)=(x19:Int)/\bp c.length t c z.toNat x1=bp c.length t c z.toNat x1/\ax c.length (cO t c z x1)=ax c.length (cO t c z x1)/\cp c.length (bc t x1) z.toNat x18 (0:Nat)=cp c.length (bc t x1) z.toNat x18 x19)/\∀x20:Nat,x18<c.length/\x20<=c.length->ab (decide ((x20:Int)<(c.length:Int))) (ac (x1:Int) t.length/\ac (x18:Int) (jk t x1).length/\ac (x20:Int) (((jk t x1).getD (x18:Int).toNat []).length)/\ab ((List.getD (List.getD t (x1:Int).toNat ([]:D7)) (x18:Int).toNat []).getD (x20:Int).toNat (0:Int) == z) (ac (x18:Int) ((cp c.length (bc t x1) z.toNat x18 x20).length)/\ae ((cp c.length (bc t x1) z.toNat x18 x20).getD (x18:Int).toNat (0:Int)+(1:Int))/\ac (x18:Int) ((cp c.length (bc t x1) z.toNat x18 x20).length)/\ae ((x20:Int)+(1:Int))/\∃x21:Nat,(x18<c.length/\x21<=c.length)/\c.length-x21<c.length-x20/\t=t/\c=c/\z=z/\(c.length:Int)=(c.length:Int)/\(x1:Int)=(x1:Int)/\(x18:Int)=(x18:Int)/\(x20:Int)+(1:Int)=(x21:Int)/\bp c.length t c z.toNat x1=bp c.length t c z.toNat x1/\ax c.length (cO t c z x1)=ax c.length (cO t c z x1)/\List.set (cp c.length (bc t x1) z.toNat x18 x20) (x18:Int).toNat ((cp c.length (bc t x1) z.toNat x18 x20).getD (x18:Int).toNat (0:Int)+(1:Int))=cp c.length (bc t x1) z.toNat x18 x21) (ae ((x20:Int)+(1:Int))/\∃x22:Nat,(x18<c.length/\x22<=c.length)/\c.length-x22<c.length-x20/\t=t/\c=c/\z=z/\(c.length:Int)=(c.length:Int)/\(x1:Int)=(x1:Int)/\(x18:Int)=(x18:Int)/\(x20:Int)+(1:Int)=(x22:Int)/\bp c.length t c z.toNat x1=bp c.length t c z.toNat x1/\ax c.length (cO t c z x1)=ax c.length (cO t c z x1)/\cp c.length (bc t x1) z.toNat x18 x20=cp c.length (bc t x1) z.toNat x18 x22)) (ae ((x18:Int)+(1:Int))/\∃x23:Nat,(x1<t.length/\x23<=c.length)/\c.length-x23<c.length-x18/\t=t/\c=c/\z=z/\(c.length:Int)=(c.length:Int)/\(x1:Int)=(x1:Int)/\(x18:Int)+(1:Int)=(x23:Int)/\bp c.length t c z.toNat x1=bp c.length t c z.toNat x1/\ax c.length (cO t c z x1)=ax c.length (cO t c z x1)/\cp c.length (bc t x1) z.toNat x18 x20=cp c.length (bc t x1) z.toNat x23 (0:Nat))) ((∃x24:Nat,(x1<t.length/\x24<=c.length)/\t=t/\c=c/\z=z/\(c.length:Int)=(c.length:Int)/\(x1:Int)=(x1:Int)/\(0:Int)=(x24:Int)/\bp c.length t c z.toNat x1=bp c.length t c z.toNat x1/\(ax c.length (cO t c z x1)=ax c.length (cO t c z x1)++ax x24 λ(y:Nat)=>(1099511627776:Int)+c.getD y (0:Int)*(64:Int)+(↑(f4 c.length (bc t x1) z.toNat y):Int))/\cp c.length (bc t x1) z.toNat x18 (0:Nat)=cp c.length (bc t x1) z.toNat c.length (0:Nat))/\∀x25:Nat,x1<t.length/\x25<=c.length->ab (decide ((x25:Int)<(c.length:Int))) (ac (x25:Int) c.length/\ae (c.getD (x25:Int).toNat (0:Int)*(64:Int))/\ae ((1099511627776:Int)+c.getD (x25:Int).toNat (0:Int)*(64:Int))/\ac (x25:Int) ((cp c.length (bc t x1) z.toNat c.length (0:Nat)).length)/\ae ((1099511627776:Int)+c.getD (x25:Int).toNat (0:Int)*(64:Int)+(cp c.length (bc t x1) z.toNat c.length (0:Nat)).getD (x25:Int).toNat (0:Int))/\au ((ax c.length (cO t c z x1)++ax x25 λ(y:Nat)=>(1099511627776:Int)+c.getD y (0:Int)*(64:Int)+(↑(f4 c.length (bc t x1) z.toNat y):Int)).length+[(1099511627776:Int)+c.getD (x25:Int).toNat (0:Int)*(64:Int)+(cp c.length (bc t x1) z.toNat c.length (0:Nat)).getD (x25:Int).toNat (0:Int)].length)/\ae ((x25:Int)+(1:Int))/\∃x26:Nat,(x1<t.length/\x26<=c.length)/\c.length-x26<c.length-x25/\t=t/\c=c/\z=z/\(c.length:Int)=(c.length:Int)/\(x1:Int)=(x1:Int)/\(x25:Int)+(1:Int)=(x26:Int)/\bp c.length t c z.toNat x1=bp c.length t c z.toNat x1/\((ax c.length (cO t c z x1)++ax x25 λ(y:Nat)=>(1099511627776:Int)+c.getD y (0:Int)*(64:Int)+(↑(f4 c.length (bc t x1) z.toNat y):Int))++[(1099511627776:Int)+c.getD (x25:Int).toNat (0:Int)*(64:Int)+(cp c.length (bc t x1) z.toNat c.length (0:Nat)).getD (x25:Int).toNat (0:Int)]=ax c.length (cO t c z x1)++ax x26 λ(y:Nat)=>(1099511627776:Int)+c.getD y (0:Int)*(64:Int)+(↑(f4 c.length (bc t x1) z.toNat y):Int))/\cp c.length (bc t x1) z.toNat c.length (0:Nat)=cp c.length (bc t x1) z.toNat c.length (0:Nat)) ((∃x27:Nat,(x1<t.length/\(1:Nat)<=x27/\x27<=(2:Nat)*c.length)/\t=t/\c=c/\z=z/\(c.length:Int)=(c.length:Int)/\(x1:Int)=(x1:Int)/\(1:Int)=(x27:Int)/\bp c.length t c z.toNat x1=bp c.length t c z.toNat x1/\(ax c.length (cO t c z x1)++ax x25 λ(y:Nat)=>(1099511627776:Int)+c.getD y (0:Int)*(64:Int)+(↑(f4 c.length (bc t x1) z.toNat y):Int))=cB (cE t c z x1) x27++List.drop x27 (cE t c z x1))/\∀x28:Nat,x1<t.length/\(1:Nat)<=x28/\x28<=(2:Nat)*c.length->ab (decide ((x28:Int)<(↑((cB (dM c.length (t.getD x1 ([]:D7)) c z.toNat) x28++List.drop x28 (dM c.length (t.getD x1 ([]:D7)) c z.toNat)).length):Int))) ((∃x29:Nat,(x28<(2:Nat)*c.length/\x29<=x28/\dg (cB (cE t c z x1) x28) ((cE t c z x1).getD x28 (0:Int)) x28=dg (cB (cE t c z x1) x28) ((cE t c z x1).getD x28 (0:Int)) x29)/\t=t/\c=c/\z=z/\(c.length:Int)=(c.length:Int)/\(x1:Int)=(x1:Int)/\(x28:Int)=(x28:Int)/\(x28:Int)=(x29:Int)/\bp c.length t c z.toNat x1=bp c.length t c z.toNat x1/\cB (cE t c z x1) x28++List.drop x28 (cE t c z x1)=eG (cB (cE t c z x1) x28) ((cE t c z x1).getD x28 (0:Int)) x29++List.drop (x28+(1:Nat)) (cE t c z x1))/\∀x30:Nat,x28<(2:Nat)*c.length/\x30<=x28/\dg (cB (cE t c z x1) x28) ((cE t c z x1).getD x28 (0:Int)) x28=dg (cB (cE t c z x1) x28) ((cE t c z x1).getD x28 (0:Int)) x30->ab (decide ((0:Int)<(x30:Int))) (ac (x30:Int) (jj t c z x1 x28 x30).length/\ae ((x30:Int)-(1:Int))/\ac ((x30:Int)-(1:Int)) (jj t c z x1 x28 x30).length/\ab (decide ((eG (cB (dM c.length (List.getD t x1 ([]:D7)) c z.toNat) x28) (List.getD (dM c.length (List.getD t x1 ([]:D7)) c z.toNat) x28 (0:Int)) x30++List.drop (x28+(1:Nat)) (dM c.length (List.getD t x1 ([]:D7)) c z.toNat)).getD (x30:Int).toNat (0:Int)<(eG (cB (dM c.length (List.getD t x1 ([]:D7)) c z.toNat) x28) (List.getD (dM c.length (List.getD t x1 ([]:D7)) c z.toNat) x28 (0:Int)) x30++List.drop (x28+(1:Nat)) (dM c.length (List.getD t x1 ([]:D7)) c z.toNat)).getD (((x30:Int)-(1:Int)).toNat) (0:Int))) (ac (x30:Int) (jj t c z x1 x28 x30).length/\ae ((x30:Int)-(1:Int))/\ac ((x30:Int)-(1:Int)) (jj t c z x1 x28 x30).length/\ac (x30:Int) (jj t c z x1 x28 x30).length/\ae ((x30:Int)-(1:Int))/\ac ((x30:Int)-(1:Int)) ((List.set (jj t c z x1 x28 x30) (x30:Int).toNat ((jj t c z x1 x28 x30).getD (((x30:Int)-(1:Int)).toNat) (0:Int))).length)/\ae ((x30:Int)-(1:Int))/\∃x31:Nat,(x28<(2:Nat)*c.length/\x31<=x28/\dg (cB (cE t c z x1) x28) ((cE t c z x1).getD x28 (0:Int)) x28=dg (cB (cE t c z x1) x28) ((cE t c z x1).getD x28 (0:Int)) x31)/\x31<x30/\t=t/\c=c/\z=z/\(c.length:Int)=(c.length:Int)/\(x1:Int)=(x1:Int)/\(x28:Int)=(x28:Int)/\(x30:Int)-(1:Int)=(x31:Int)/\bp c.length t c z.toNat x1=bp c.length t c z.toNat x1/\List.set (List.set (jj t c z x1 x28 x30) (x30:Int).toNat ((jj t c z x1 x28 x30).getD (((x30:Int)-(1:Int)).toNat) (0:Int))) (((x30:Int)-(1:Int)).toNat) ((jj t c z x1 x28 x30).getD (x30:Int).toNat (0:Int))=eG (cB (cE t c z x1) x28) ((cE t c z x1).getD x28 (0:Int)) x31++List.drop (x28+(1:Nat)) (cE t c z x1)) (ae ((x28:Int)+(1:Int))/\∃x32:Nat,(x1<t.length/\(1:Nat)<=x32/\x32<=(2:Nat)*c.length)/\(2:Nat)*c.length-x32<(2:Nat)*c.length-x28/\t=t/\c=c/\z=z/\(c.length:Int)=(c.length:Int)/\(x1:Int)=(x1:Int)/\(x28:Int)+(1:Int)=(x32:Int)/\bp c.length t c z.toNat x1=bp c.length t c z.toNat x1/\eG (cB (cE t c z x1) x28) ((cE t c z x1).getD x28 (0:Int)) x30++List.drop (x28+(1:Nat)) (cE t c z x1)=cB (cE t c z x1) x32++List.drop x32 (cE t c z x1))) (ae ((x28:Int)+(1:Int))/\∃x33:Nat,(x1<t.length/\(1:Nat)<=x33/\x33<=(2:Nat)*c.length)/\(2:Nat)*c.length-x33<(2:Nat)*c.length-x28/\t=t/\c=c/\z=z/\(c.length:Int)=(c.length:Int)/\(x1:Int)=(x1:Int)/\(x28:Int)+(1:Int)=(x33:Int)/\bp c.length t c z.toNat x1=bp c.length t c z.toNat x1/\eG (cB (cE t c z x1) x28) ((cE t c z x1).getD x28 (0:Int)) x30++List.drop (x28+(1:Nat)) (cE t c z x1)=cB (cE t c z x1) x33++List.drop x33 (cE t c z x1))) (au ((bp c.length t c z.toNat x1).length+(cB (cE t c z x1) x28++List.drop x28 (cE t c z x1)).length)/\ae ((x1:Int)+(1:Int))/\∃x34:Nat,x34<=t.length/\t.length-x34<t.length-x1/\t=t/\c=c/\z=z/\(c.length:Int)=(c.length:Int)/\(x1:Int)+(1:Int)=(x34:Int)/\bp c.length t c z.toNat x1++(cB (cE t c z x1) x28++List.drop x28 (cE t c z x1))=bp c.length t c z.toNat x34))))) (bp c.length t c z.toNat x1=cC c.length t c z.toNat/\True),by kernel_rfl,?_⟩
 simp only[cE,bc,jj,lQ,cO,jk,aO]at ξ⊢;obtain⟨h1,h2,h3,h4,h5,h6,h7⟩:=ξ;simp only[d4,Pb,Gr,Gq,vW];refine⟨by omega,⟨0,by omega,rfl,rfl⟩,λk hk=>⟨λhk2=>?_,λhk2=>?_⟩⟩
 ·have A:=h4 k (by omega)
  have hz:((z.toNat:Nat):Int)=z:=by omega
  have hkn:k*(2*c.length)<=1000*24:=Bb (by omega) (by omega)
  have L1:(t.getD k []).length=c.length:=A.1
  have L2:=(A.2 z.toNat (by omega)).1
  have MS:∀S:D7,S=t.getD k []->bp c.length t c z.toNat k++lS (dM c.length S c z.toNat)=bp c.length t c z.toNat (k+1):=λS e=>by rw[e];rfl
  generalize t.getD k []=T at *
  refine⟨⟨0,⟨by omega,by omega⟩,rfl,rfl⟩,λj ⟨_,hj⟩=>⟨λhj2=>?_,λhj2=>?_⟩⟩
  ·have E1:=(A.2 z.toNat (by omega)).2 j (by omega)
   have E2:=(A.2 j (by omega)).2 z.toNat (by omega)
   have L3:=(A.2 j (by omega)).1
   obtain⟨O1,O2,O3,O4⟩:=Zc T z.toNat j;refine⟨by omega,by omega,by omega,by omega,by omega,by omega,⟨λq=>⟨⟨⟩,by omega,rfl,rfl,(AA q).symm⟩,λq=>⟨⟨⟩,by omega,rfl,rfl,(AB q).symm⟩⟩,λ_ _=>⟨⟨λq=>⟨by omega,⟨⟩,by omega,?_⟩,λq=>⟨⟨⟩,by omega,?_⟩⟩,λ_ _=>⟨⟨λq=>⟨by omega,⟨⟩,by omega,?_⟩,λq=>⟨⟨⟩,by omega,?_⟩⟩,λ_ _=>⟨⟨λq=>⟨by omega,⟨⟩,by omega,?_⟩,λq=>⟨⟨⟩,by omega,?_⟩⟩,λ_ _=>?_⟩⟩⟩⟩
   ·rw[iO,AA q]
   ·rw[iO,AB q];omega
   ·rw[iP,hz,AA q]
   ·rw[iP,hz,AB q];omega
   ·rw[Gn,hz,AA q]
   ·rw[Gn,hz,AB q];omega
   ·have c1:=h5 j (by omega)
    have c2:=h5 (en T z.toNat j).toNat (by omega)
    have c3:=h5 (en T j z.toNat).toNat (by omega)
    refine⟨by omega,by omega,by omega,by omega,by omega,by omega,by omega,by omega,by omega,by omega,by omega,j+1,⟨by omega,by omega⟩,by omega,by omega,?_⟩
    rw[tab_succ'];rfl
  ·have ej:j=c.length:=by omega
   subst ej;refine⟨⟨by omega,by omega,by omega⟩,⟨0,⟨by omega,by omega⟩,rfl,rfl,Zh _ _ _⟩,λj ⟨_,hj⟩=>⟨λhj2=>⟨⟨0,⟨by omega,by omega⟩,rfl,rfl⟩,λi ⟨_,hi⟩=>⟨λhi2=>?_,λhi2=>?_⟩⟩,λhj2=>?_⟩⟩
   ·have L3:=(A.2 j (by omega)).1
    have cl:=Gp T z.toNat j i
    rw[Zi _ _ _ (by omega)]
    refine⟨by omega,by omega,by omega,λq=>⟨by omega,by omega,by omega,by omega,i+1,⟨by omega,by omega⟩,by omega,by omega,?_⟩,λq=>⟨by omega,i+1,⟨by omega,by omega⟩,by omega,by omega,?_⟩⟩
    ·exact Zj (by rw[hz];exact q)
    ·exact Zk (by rw[hz];exact q)
   ·rw[show i=c.length by omega]
    exact⟨by omega,j+1,⟨by omega,by omega⟩,by omega,by omega,Zl _ _ _ _⟩
   ·rw[show j=c.length by omega]
    refine⟨⟨0,⟨by omega,by omega⟩,rfl,by simp[ax]⟩,λj ⟨_,hj⟩=>⟨λhj2=>?_,λhj2=>?_⟩⟩
    ·have c1:=h5 j (by omega)
     have cl:f4 c.length T z.toNat j<=c.length:=Gp _ _ _ _
     rw[Zm _ _ (by omega)]
     refine⟨by omega,by omega,by omega,by omega,by omega,by omega,by omega,j+1,⟨by omega,by omega⟩,by omega,by omega,?_⟩
     rw[tab_succ',Ap]
    ·have ej:j=c.length:=by omega
     subst ej;have SL:=Gq c.length T c z.toNat
     have S0:ax c.length (gu T c z.toNat)++(ax c.length λy=>1099511627776+c.getD y 0*64+(f4 c.length T z.toNat y:Int))=dM c.length T c z.toNat:=rfl
     rw[S0];have MS:=MS T rfl
     generalize dM c.length T c z.toNat=S at *
     have I1:cB S 1=S.take 1:=by
      rw[<-dZ S 0 0 (by omega)];rfl
     refine⟨⟨1,⟨by omega,by omega,by omega⟩,rfl,by rw[I1,CO]⟩,λi ⟨_,hi1,hi⟩=>⟨λhi2=>?_,λhi2=>?_⟩⟩
     ·have PL:=vW S i
      have B0:cB S i++S.drop i=eG (cB S i) (S.getD i 0) i++S.drop (i+1):=by
       rw[eG,AU (by omega),BE (l:=cB S i) (by omega),drop_cons' S 0 i (by omega),Ap];rfl
      have BN:∀j,dg (cB S i) (S.getD i 0) i=j->eG (cB S i) (S.getD i 0) j++S.drop (i+1)=cB S (i+1)++S.drop (i+1):=λj e=>by
       rw[cB,nf,PL,e];rfl
      generalize cB S i=p at *
      generalize S.getD i 0=x at *
      refine⟨⟨i,⟨by omega,by omega,rfl⟩,rfl,B0⟩,λj ⟨_,hj,ib⟩=>?_⟩
      have BL:=Zd p x (j:=j) (by omega)
      rw[BL];refine⟨λj0=>?_,λj0=>?_⟩
      ·obtain⟨j,rfl⟩:∃m,j=m+1:=⟨j-1,by omega⟩
       have g1:(eG p x (j+1)++S.drop (i+1)).getD (j+1) 0=x:=by rw[getD_append_left' _ _ _ _ (by omega),Ze _ _ (by omega)]
       have g0:(eG p x (j+1)++S.drop (i+1)).getD j 0=p.getD j 0:=by rw[getD_append_left' _ _ _ _ (by omega),Zf _ _ (by omega)]
       have ez:(((j+1:Nat):Int)-1).toNat=j:=by omega
       rw[dg]at ib;rw[ez,g1,g0];refine⟨by omega,by omega,by omega,λq=>⟨by omega,by omega,by omega,by omega,by omega,by omega,by omega,j,⟨by omega,by omega,by rw[ib,AA q]⟩,by omega,by omega,?_⟩,λq=>⟨by omega,i+1,⟨by omega,by omega,by omega⟩,by omega,by omega,BN (j+1) (by rw[ib,AB q])⟩⟩
       rw[List.set_append_left _ _ (by omega),List.set_append_left _ _ (by rw[Aj];omega),Zg _ _ (by omega)]
      ·have ej:j=0:=by omega
       subst ej;exact⟨by omega,i+1,⟨by omega,by omega,by omega⟩,by omega,by omega,BN 0 ib⟩
     ·have ei:i=S.length:=by omega
      rw[ei,DW,AV];exact⟨by omega,by omega,k+1,by omega,by omega,by omega,MS⟩
 ·rw[cC,show k=t.length by omega]
end Go.Sx
