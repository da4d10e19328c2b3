/- Cmp -/
import Derived.Test.YtkmldclpaniclaaGreatMapA
import Derived.Test.YtkmldclpaniclaaGreatTable
set_option linter.unusedSimpArgs false
set_option linter.unusedVariables false
set_option linter.defProp false
open Go Go.Proofs
namespace Go.Sx
def jF(t:Dc)(x y:Nat):Int:=if en t x y=(y:Int)then 1 else 0
def iB(t:Dc)(x y:Nat):Int:=jF t x y+if en t y x=(y:Int)then 2 else 0
def iC(t:Dc)(x y:Nat):Int:=iB t x y+if en t x y=(x:Int)then 4 else 0
theorem zq(t:Dc)(x y:Nat):gZ t x y=iC t x y+if en t y x=(x:Int)then 8 else 0:=rfl
theorem S8(t:Dc)(x y:Nat):(0<=jF t x y/\jF t x y<=1)/\(0<=iB t x y/\iB t x y<=3)/\(0<=iC t x y/\iC t x y<=7)/\0<=gZ t x y/\gZ t x y<=15:=by
 rw[zq];unfold iC iB jF;split<;>split<;>split<;>split<;>omega
theorem zr(t:Dc)(x y:Nat):∀n,g3 t x y n<=n
 |0=>AE _
 |n+1=>by rw[g3];have:=zr t x y n;split<;>omega
def ca(n:Nat)(t:Dc)(x j i:Nat):Db:=ap n fun q=>if q<j then(fM n t x q:Int)else if q=j then(g3 t x j i:Int)else 0
def dc(p:Db)(x:Int)(j:Nat):Db:=p.take j++x::p.drop j
theorem S9(p:Db)(x:Int){j:Nat}(h:j<=p.length):(dc p x j).length=p.length+1:=by simp[dc];omega
theorem Ta(p:Db)(x:Int){j:Nat}(h:j<=p.length):(dc p x j).getD j 0=x:=yk _ _ _ _ _ (by rw[AS];omega)
theorem Tb(p:Db)(x:Int){j:Nat}(h:j+1<=p.length):(dc p x (j+1)).getD j 0=p.getD j 0:=by
 rw[dc,getD_append_left' _ _ _ _ (by rw[AS];omega),pq _ _ _ _ (by omega)]
theorem Tc(p:Db)(x:Int){j:Nat}(h:j+1<=p.length):((dc p x (j+1)).set (j+1) (p.getD j 0)).set j x=dc p x j:=by
 rw[dc,dc,pA _ _ _ _ _ (by rw[AS];omega),<-eo p 0 j (by omega),Ap,CP,pA _ _ _ _ _ (by rw[AS];omega),drop_cons' p 0 j (by omega)]
theorem tab_succ'(n:Nat)(f:Nat->Int):ap (n+1) f=ap n f++[f n]:=by simp[ap,BR]
theorem Kw(n:Nat)(t:Dc)(x j i:Nat):(ca n t x j i).length=n:=bK _ _
theorem Td(n:Nat)(t:Dc)(x:Nat):List.replicate n 0=ca n t x 0 0:=by
 refine Rm (by rw[Kw];simp) fun q hq=>?_
 have hq:q<n:=by simpa using hq
 rw[ca,cj _ _ _ hq,AB (by omega)]
 simp[AN,hq,g3]
theorem Te{n:Nat}(t:Dc)(x:Nat){j:Nat}(i:Nat)(h:j<n):(ca n t x j i).getD j 0=(g3 t x j i:Int):=by
 rw[ca,cj _ _ _ h,AB (by omega),AA rfl]
theorem Tf{n:Nat}{t:Dc}{x j i:Nat}(h:en t j i=(x:Int)):(ca n t x j i).set j ((g3 t x j i:Int)+1)=ca n t x j (i+1):=by
 rw[ca,ca,al7];refine nL fun q hq=>?_
 by_cases e:q=j
 ·rw[AA e,AB (by omega),AA e,g3,AA h];rfl
 ·rw[AB e,AB e,AB e]
theorem Tg{n:Nat}{t:Dc}{x j i:Nat}(h:¬ en t j i=(x:Int)):ca n t x j i=ca n t x j (i+1):=by
 rw[ca,ca];refine nL fun q hq=>?_
 rw[g3,AB h]
theorem Th(n:Nat)(t:Dc)(x j:Nat):ca n t x j n=ca n t x (j+1) 0:=by
 rw[ca,ca];refine nL fun q hq=>?_
 by_cases e:q=j
 ·rw[AB (by omega),AA e,AA (by omega),fM,e]
 ·by_cases e2:q<j
  ·rw[AA e2,AA (by omega)]
  ·rw[AB e2,AB e,AB (by omega)]
   split
   ·rfl
   ·rfl
theorem Ti{n:Nat}(t:Dc)(x:Nat){q:Nat}(h:q<n):(ca n t x n 0).getD q 0=(fM n t x q:Int):=by
 rw[ca,cj _ _ _ h,AA h]
theorem zt(n:Nat)(t:Dc)(c:Db)(x:Nat):(du n t c x).length=2*n:=by rw[du,Al,bK,bK];omega
theorem zu(n:Nat)(a:Dd)(c:Db)(x:Nat):∀k,(bc n a c x k).length=1+k*(2*n)
 |0=>by simp[bc]
 |k+1=>by rw[bc,Al,zu n a c x k,lC,uq,zt,CQ,Nat.one_mul,A0]
def sQ(t:Dd)(c:Db)(z:Int):Post:=⟨t.length<=1000/\1<=c.length/\c.length<=12/\bN c.length t/\(∀i,i<c.length->0<=c.getD i 0/\c.getD i 0<=60)/\0<=z/\z<(c.length:Int),.c (.ints 2 .i64 (cu c.length t c z.toNat)),[]⟩
def zv:List AD->Option Post
 | [.c (.r3 .i64 t),.c (.ints .i64 c),.c (.int .i64 z)]=>some (sQ t c z)
 |_=>none
def Kx(t:Dd)(c:Db)(z:Int):Nat->Option Ann
 |0=>V' (fun k=>⟨⟨[(0,J' t),(1,G' c),(2,D' z),(7,D' c.length),(8,M' 8),(9,D' k)],[(8,Q' (bc c.length t c z.toNat k))]⟩,k<=t.length,t.length-k⟩) (fun k b_=>match b_ with|2=>V' (fun j=>⟨⟨[(0,J' t),(1,G' c),(2,D' z),(7,D' c.length),(8,M' 8),(9,D' k),(10,M' 10),(11,D' j)],[(8,Q' (bc c.length t c z.toNat k)),(10,Q' (ap j (f7 (t.getD k []) c z.toNat)))]⟩,k<t.length/\j<=c.length,c.length-j⟩) (fun j b_=>match b_ with|1013=>some (Ann.mk ((Unit)) (fun u=>⟨[(0,J' t),(1,G' c),(2,D' z),(7,D' c.length),(8,M' 8),(9,D' k),(10,M' 10),(11,D' j),(12,D' (en (t.getD k []) z.toNat j)),(13,D' (en (t.getD k []) j z.toNat)),(14,D' (jF (t.getD k []) z.toNat j))],[(8,Q' (bc c.length t c z.toNat k)),(10,Q' (ap j (f7 (t.getD k []) c z.toNat)))]⟩) (fun u=>j<c.length) (fun u=>0) (fun _=>ak))|1015=>some (Ann.mk ((Unit)) (fun u=>⟨[(0,J' t),(1,G' c),(2,D' z),(7,D' c.length),(8,M' 8),(9,D' k),(10,M' 10),(11,D' j),(12,D' (en (t.getD k []) z.toNat j)),(13,D' (en (t.getD k []) j z.toNat)),(14,D' (iB (t.getD k []) z.toNat j))],[(8,Q' (bc c.length t c z.toNat k)),(10,Q' (ap j (f7 (t.getD k []) c z.toNat)))]⟩) (fun u=>j<c.length) (fun u=>0) (fun _=>ak))|1017=>some (Ann.mk ((Unit)) (fun u=>⟨[(0,J' t),(1,G' c),(2,D' z),(7,D' c.length),(8,M' 8),(9,D' k),(10,M' 10),(11,D' j),(12,D' (en (t.getD k []) z.toNat j)),(13,D' (en (t.getD k []) j z.toNat)),(14,D' (iC (t.getD k []) z.toNat j))],[(8,Q' (bc c.length t c z.toNat k)),(10,Q' (ap j (f7 (t.getD k []) c z.toNat)))]⟩) (fun u=>j<c.length) (fun u=>0) (fun _=>ak))|1019=>some (Ann.mk ((Unit)) (fun u=>⟨[(0,J' t),(1,G' c),(2,D' z),(7,D' c.length),(8,M' 8),(9,D' k),(10,M' 10),(11,D' j),(12,D' (en (t.getD k []) z.toNat j)),(13,D' (en (t.getD k []) j z.toNat)),(14,D' (gZ (t.getD k []) z.toNat j))],[(8,Q' (bc c.length t c z.toNat k)),(10,Q' (ap j (f7 (t.getD k []) c z.toNat)))]⟩) (fun u=>j<c.length) (fun u=>0) (fun _=>ak))|_=>none)|4=>V' (fun j=>⟨⟨[(0,J' t),(1,G' c),(2,D' z),(7,D' c.length),(8,M' 8),(9,D' k),(10,M' 10),(15,M' 15),(16,D' j)],[(8,Q' (bc c.length t c z.toNat k)),(10,Q' (ap c.length (f7 (t.getD k []) c z.toNat))),(15,Q' (ca c.length (t.getD k []) z.toNat j 0))]⟩,k<t.length/\j<=c.length,c.length-j⟩) (fun j b_=>match b_ with|6=>U' fun i=>⟨⟨[(0,J' t),(1,G' c),(2,D' z),(7,D' c.length),(8,M' 8),(9,D' k),(10,M' 10),(15,M' 15),(16,D' j),(17,D' i)],[(8,Q' (bc c.length t c z.toNat k)),(10,Q' (ap c.length (f7 (t.getD k []) c z.toNat))),(15,Q' (ca c.length (t.getD k []) z.toNat j i))]⟩,j<c.length/\i<=c.length,c.length-i⟩|_=>none)|8=>U' fun j=>⟨⟨[(0,J' t),(1,G' c),(2,D' z),(7,D' c.length),(8,M' 8),(9,D' k),(10,M' 10),(15,M' 15),(18,D' j)],[(8,Q' (bc c.length t c z.toNat k)),(10,Q' (ap c.length (f7 (t.getD k []) c z.toNat)++ap j (fun y=>1099511627776+c.getD y 0*64+(fM c.length (t.getD k []) z.toNat y:Int)))),(15,Q' (ca c.length (t.getD k []) z.toNat c.length 0))]⟩,k<t.length/\j<=c.length,c.length-j⟩|10=>V' (fun i=>⟨⟨[(0,J' t),(1,G' c),(2,D' z),(7,D' c.length),(8,M' 8),(9,D' k),(10,M' 10),(19,D' i)],[(8,Q' (bc c.length t c z.toNat k)),(10,Q' ((bP (du c.length (t.getD k []) c z.toNat) i++(du c.length (t.getD k []) c z.toNat).drop i)))]⟩,k<t.length/\1<=i/\i<=2*c.length,2*c.length-i⟩) (fun i b_=>match b_ with|12=>U' fun j=>⟨⟨[(0,J' t),(1,G' c),(2,D' z),(7,D' c.length),(8,M' 8),(9,D' k),(10,M' 10),(19,D' i),(20,D' j)],[(8,Q' (bc c.length t c z.toNat k)),(10,Q' ((dc (bP (du c.length (t.getD k []) c z.toNat) i) ((du c.length (t.getD k []) c z.toNat).getD i 0) j++(du c.length (t.getD k []) c z.toNat).drop (i+1))))]⟩,i<2*c.length/\j<=i/\c6 (bP (du c.length (t.getD k []) c z.toNat) i) ((du c.length (t.getD k []) c z.toNat).getD i 0) i=c6 (bP (du c.length (t.getD k []) c z.toNat) i) ((du c.length (t.getD k []) c z.toNat).getD i 0) j,j⟩|_=>none)|_=>none)
 |_=>none
def Ky:List (Nat×Ctr):=[]
def bV(t:Dd)(c:Db)(z:Int)(x0:Nat):=(du c.length (t.getD x0 ([]:Dc)) c z.toNat)
def aX(t:Dd)(x0:Nat):=(t.getD x0 ([]:Dc))
def lv(t:Dd)(c:Db)(z:Int)(x0:Nat)(x1:Nat):=(c.getD (↑x0:Int).toNat (0:Int)*(64:Int)+c.getD ((en (aX t x1) z.toNat x0).toNat) (0:Int))
def cI(t:Dd)(c:Db)(z:Int)(x0:Nat):=(f7 (aX t x0) c z.toNat)
def ev(t:Dd)(c:Db)(z:Int)(x0:Nat)(x1:Nat):=((bV t c z x0).getD x1 (0:Int))
def jb(t:Dd)(x0:Nat):=(t.getD (↑x0:Int).toNat ([]:Dc))
def zw(t:Dd)(c:Db)(z:Int):Prop :=
 ((aa z c.length)/\((∃x0:Nat,((x0<=t.length)/\((t=t)/\((c=c)/\((z=z)/\(((↑(c.length):Int)=(↑(c.length):Int))/\(((0:Int)=(↑x0:Int))/\([c.getD z.toNat (0:Int)]=bc c.length t c z.toNat x0))))))))/\(∀x1:Nat,((x1<=t.length)->(ab (decide ((↑x1:Int)<(↑(t.length):Int))) ((∃x2:Nat,(((x1<t.length)/\(x2<=c.length))/\((t=t)/\((c=c)/\((z=z)/\(((↑(c.length):Int)=(↑(c.length):Int))/\(((↑x1:Int)=(↑x1:Int))/\(((0:Int)=(↑x2:Int))/\((bc c.length t c z.toNat x1=bc c.length t c z.toNat x1)/\([]=ap x2 (cI t c z x1)))))))))))/\(∀x3:Nat,(((x1<t.length)/\(x3<=c.length))->(ab (decide ((↑x3:Int)<(↑(c.length):Int))) ((aa (↑x1:Int) t.length)/\((aa z (jb t x1).length)/\((aa (↑x3:Int) (((jb t x1).getD z.toNat []).length))/\((aa (↑x1:Int) t.length)/\((aa (↑x3:Int) (jb t x1).length)/\((aa z (((jb t x1).getD (↑x3:Int).toNat []).length))/\((ab ((List.getD (List.getD t (↑x1:Int).toNat ([]:Dc)) z.toNat []).getD (↑x3:Int).toNat (0:Int) == (↑x3:Int)) (∃x4:Unit,((x3<c.length)/\((t=t)/\((c=c)/\((z=z)/\(((↑(c.length):Int)=(↑(c.length):Int))/\(((↑x1:Int)=(↑x1:Int))/\(((↑x3:Int)=(↑x3:Int))/\(((List.getD (jb t x1) z.toNat []).getD (↑x3:Int).toNat (0:Int)=en (aX t x1) z.toNat x3)/\(((List.getD (jb t x1) (↑x3:Int).toNat []).getD z.toNat (0:Int)=en (aX t x1) x3 z.toNat)/\(((1:Int)=jF (aX t x1) z.toNat x3) /\
 ((bc c.length t c z.toNat x1=bc c.length t c z.toNat x1)/\(ap x3 (cI t c z x1)=ap x3 (cI t c z x1)))))))))))))) (∃x5:Unit,((x3<c.length)/\((t=t)/\((c=c)/\((z=z)/\(((↑(c.length):Int)=(↑(c.length):Int))/\(((↑x1:Int)=(↑x1:Int))/\(((↑x3:Int)=(↑x3:Int))/\(((List.getD (jb t x1) z.toNat []).getD (↑x3:Int).toNat (0:Int)=en (aX t x1) z.toNat x3)/\(((List.getD (jb t x1) (↑x3:Int).toNat []).getD z.toNat (0:Int)=en (aX t x1) x3 z.toNat)/\(((0:Int)=jF (aX t x1) z.toNat x3)/\((bc c.length t c z.toNat x1=bc c.length t c z.toNat x1)/\(ap x3 (cI t c z x1)=ap x3 (cI t c z x1)))))))))))))))/\(∀x6:Unit,((x3<c.length)->((ab (en (t.getD x1 ([]:Dc)) x3 z.toNat == (↑x3:Int)) ((ae (jF (aX t x1) z.toNat x3+(2:Int)))/\(∃x7:Unit,((x3<c.length)/\((t=t)/\((c=c)/\((z=z)/\(((↑(c.length):Int)=(↑(c.length):Int))/\(((↑x1:Int)=(↑x1:Int))/\(((↑x3:Int)=(↑x3:Int))/\((en (aX t x1) z.toNat x3=en (aX t x1) z.toNat x3)/\((en (aX t x1) x3 z.toNat=en (aX t x1) x3 z.toNat)/\((jF (aX t x1) z.toNat x3+(2:Int)=iB (aX t x1) z.toNat x3)/\((bc c.length t c z.toNat x1=bc c.length t c z.toNat x1)/\(ap x3 (cI t c z x1)=ap x3 (cI t c z x1))))))))))))))) (∃x8:Unit,((x3<c.length)/\((t=t)/\((c=c)/\((z=z)/\(((↑(c.length):Int)=(↑(c.length):Int)) /\
 (((↑x1:Int)=(↑x1:Int))/\(((↑x3:Int)=(↑x3:Int))/\((en (aX t x1) z.toNat x3=en (aX t x1) z.toNat x3)/\((en (aX t x1) x3 z.toNat=en (aX t x1) x3 z.toNat)/\((jF (aX t x1) z.toNat x3=iB (aX t x1) z.toNat x3)/\((bc c.length t c z.toNat x1=bc c.length t c z.toNat x1)/\(ap x3 (cI t c z x1)=ap x3 (cI t c z x1)))))))))))))))/\(∀x9:Unit,((x3<c.length)->((ab (en (t.getD x1 ([]:Dc)) z.toNat x3 == z) ((ae (iB (aX t x1) z.toNat x3+(4:Int)))/\(∃x10:Unit,((x3<c.length)/\((t=t)/\((c=c)/\((z=z)/\(((↑(c.length):Int)=(↑(c.length):Int))/\(((↑x1:Int)=(↑x1:Int))/\(((↑x3:Int)=(↑x3:Int))/\((en (aX t x1) z.toNat x3=en (aX t x1) z.toNat x3)/\((en (aX t x1) x3 z.toNat=en (aX t x1) x3 z.toNat)/\((iB (aX t x1) z.toNat x3+(4:Int)=iC (aX t x1) z.toNat x3)/\((bc c.length t c z.toNat x1=bc c.length t c z.toNat x1)/\(ap x3 (cI t c z x1)=ap x3 (cI t c z x1))))))))))))))) (∃x11:Unit,((x3<c.length)/\((t=t)/\((c=c)/\((z=z)/\(((↑(c.length):Int)=(↑(c.length):Int))/\(((↑x1:Int)=(↑x1:Int))/\(((↑x3:Int)=(↑x3:Int))/\((en (aX t x1) z.toNat x3=en (aX t x1) z.toNat x3)/\((en (aX t x1) x3 z.toNat=en (aX t x1) x3 z.toNat)/\((iB (aX t x1) z.toNat x3=iC (aX t x1) z.toNat x3) /\
 ((bc c.length t c z.toNat x1=bc c.length t c z.toNat x1)/\(ap x3 (cI t c z x1)=ap x3 (cI t c z x1)))))))))))))))/\(∀x12:Unit,((x3<c.length)->((ab (en (t.getD x1 ([]:Dc)) x3 z.toNat == z) ((ae (iC (aX t x1) z.toNat x3+(8:Int)))/\(∃x13:Unit,((x3<c.length)/\((t=t)/\((c=c)/\((z=z)/\(((↑(c.length):Int)=(↑(c.length):Int))/\(((↑x1:Int)=(↑x1:Int))/\(((↑x3:Int)=(↑x3:Int))/\((en (aX t x1) z.toNat x3=en (aX t x1) z.toNat x3)/\((en (aX t x1) x3 z.toNat=en (aX t x1) x3 z.toNat)/\((iC (aX t x1) z.toNat x3+(8:Int)=gZ (aX t x1) z.toNat x3)/\((bc c.length t c z.toNat x1=bc c.length t c z.toNat x1)/\(ap x3 (cI t c z x1)=ap x3 (cI t c z x1))))))))))))))) (∃x14:Unit,((x3<c.length)/\((t=t)/\((c=c)/\((z=z)/\(((↑(c.length):Int)=(↑(c.length):Int))/\(((↑x1:Int)=(↑x1:Int))/\(((↑x3:Int)=(↑x3:Int))/\((en (aX t x1) z.toNat x3=en (aX t x1) z.toNat x3)/\((en (aX t x1) x3 z.toNat=en (aX t x1) x3 z.toNat)/\((iC (aX t x1) z.toNat x3=gZ (aX t x1) z.toNat x3)/\((bc c.length t c z.toNat x1=bc c.length t c z.toNat x1)/\(ap x3 (cI t c z x1)=ap x3 (cI t c z x1)))))))))))))))/\(∀x15:Unit,((x3<c.length)->((aa (↑x3:Int) c.length)/\((ae (c.getD (↑x3:Int).toNat (0:Int)*(64:Int))) /\
 ((aa (en (aX t x1) z.toNat x3) c.length)/\((ae (lv t c z x3 x1))/\((ae ((lv t c z x3 x1)*(64:Int)))/\((aa (en (aX t x1) x3 z.toNat) c.length)/\((ae ((lv t c z x3 x1)*(64:Int)+c.getD ((en (aX t x1) x3 z.toNat).toNat) (0:Int)))/\((ae (((lv t c z x3 x1)*(64:Int)+c.getD ((en (aX t x1) x3 z.toNat).toNat) (0:Int))*(16:Int)))/\((ae (((lv t c z x3 x1)*(64:Int)+c.getD ((en (aX t x1) x3 z.toNat).toNat) (0:Int))*(16:Int)+gZ (aX t x1) z.toNat x3))/\((ar ((ap x3 (cI t c z x1)).length+[((lv t c z x3 x1)*(64:Int)+c.getD ((en (aX t x1) x3 z.toNat).toNat) (0:Int))*(16:Int)+gZ (aX t x1) z.toNat x3].length))/\((ae ((↑x3:Int)+(1:Int)))/\(∃x16:Nat,(((x1<t.length)/\(x16<=c.length))/\((c.length-x16<c.length-x3)/\((t=t)/\((c=c)/\((z=z)/\(((↑(c.length):Int)=(↑(c.length):Int))/\(((↑x1:Int)=(↑x1:Int))/\(((↑x3:Int)+(1:Int)=(↑x16:Int))/\((bc c.length t c z.toNat x1=bc c.length t c z.toNat x1)/\(ap x3 (cI t c z x1)++[((lv t c z x3 x1)*(64:Int)+c.getD ((en (aX t x1) x3 z.toNat).toNat) (0:Int))*(16:Int)+gZ (aX t x1) z.toNat x3]=ap x16 (cI t c z x1))))))))))))))))))))))))))))))))))))))))) ((((0:Int)<=(↑(c.length):Int))/\(((↑(c.length):Int)<=(↑(c.length):Int))/\(ar ((↑(c.length):Int).toNat))))/\((∃x17:Nat,(((x1<t.length) /\
 (x17<=c.length))/\((t=t)/\((c=c)/\((z=z)/\(((↑(c.length):Int)=(↑(c.length):Int))/\(((↑x1:Int)=(↑x1:Int))/\(((0:Int)=(↑x17:Int))/\((bc c.length t c z.toNat x1=bc c.length t c z.toNat x1)/\((ap x3 (cI t c z x1)=ap c.length (cI t c z x1))/\(List.replicate ((↑(c.length):Int).toNat) (0:Int)=ca c.length (aX t x1) z.toNat x17 (0:Nat))))))))))))/\(∀x18:Nat,(((x1<t.length)/\(x18<=c.length))->(ab (decide ((↑x18:Int)<(↑(c.length):Int))) ((∃x19:Nat,(((x18<c.length)/\(x19<=c.length))/\((t=t)/\((c=c)/\((z=z)/\(((↑(c.length):Int)=(↑(c.length):Int))/\(((↑x1:Int)=(↑x1:Int))/\(((↑x18:Int)=(↑x18:Int))/\(((0:Int)=(↑x19:Int))/\((bc c.length t c z.toNat x1=bc c.length t c z.toNat x1)/\((ap c.length (cI t c z x1)=ap c.length (cI t c z x1))/\(ca c.length (aX t x1) z.toNat x18 (0:Nat)=ca c.length (aX t x1) z.toNat x18 x19))))))))))))/\(∀x20:Nat,(((x18<c.length)/\(x20<=c.length))->(ab (decide ((↑x20:Int)<(↑(c.length):Int))) ((aa (↑x1:Int) t.length)/\((aa (↑x18:Int) (jb t x1).length)/\((aa (↑x20:Int) (((jb t x1).getD (↑x18:Int).toNat []).length))/\(ab ((List.getD (List.getD t (↑x1:Int).toNat ([]:Dc)) (↑x18:Int).toNat []).getD (↑x20:Int).toNat (0:Int) == z) ((aa (↑x18:Int) ((ca c.length (aX t x1) z.toNat x18 x20).length)) /\
 ((ae ((ca c.length (aX t x1) z.toNat x18 x20).getD (↑x18:Int).toNat (0:Int)+(1:Int)))/\((aa (↑x18:Int) ((ca c.length (aX t x1) z.toNat x18 x20).length))/\((ae ((↑x20:Int)+(1:Int)))/\(∃x21:Nat,(((x18<c.length)/\(x21<=c.length))/\((c.length-x21<c.length-x20)/\((t=t)/\((c=c)/\((z=z)/\(((↑(c.length):Int)=(↑(c.length):Int))/\(((↑x1:Int)=(↑x1:Int))/\(((↑x18:Int)=(↑x18:Int))/\(((↑x20:Int)+(1:Int)=(↑x21:Int))/\((bc c.length t c z.toNat x1=bc c.length t c z.toNat x1)/\((ap c.length (cI t c z x1)=ap c.length (cI t c z x1))/\(List.set (ca c.length (aX t x1) z.toNat x18 x20) (↑x18:Int).toNat ((ca c.length (aX t x1) z.toNat x18 x20).getD (↑x18:Int).toNat (0:Int)+(1:Int))=ca c.length (aX t x1) z.toNat x18 x21))))))))))))))))) ((ae ((↑x20:Int)+(1:Int)))/\(∃x22:Nat,(((x18<c.length)/\(x22<=c.length))/\((c.length-x22<c.length-x20)/\((t=t)/\((c=c)/\((z=z)/\(((↑(c.length):Int)=(↑(c.length):Int))/\(((↑x1:Int)=(↑x1:Int))/\(((↑x18:Int)=(↑x18:Int))/\(((↑x20:Int)+(1:Int)=(↑x22:Int))/\((bc c.length t c z.toNat x1=bc c.length t c z.toNat x1)/\((ap c.length (cI t c z x1)=ap c.length (cI t c z x1))/\(ca c.length (aX t x1) z.toNat x18 x20=ca c.length (aX t x1) z.toNat x18 x22)))))))))))))))))) ((ae ((↑x18:Int)+(1:Int)))/\(∃x23:Nat,(((x1<t.length)/\(x23<=c.length)) /\
 ((c.length-x23<c.length-x18)/\((t=t)/\((c=c)/\((z=z)/\(((↑(c.length):Int)=(↑(c.length):Int))/\(((↑x1:Int)=(↑x1:Int))/\(((↑x18:Int)+(1:Int)=(↑x23:Int))/\((bc c.length t c z.toNat x1=bc c.length t c z.toNat x1)/\((ap c.length (cI t c z x1)=ap c.length (cI t c z x1))/\(ca c.length (aX t x1) z.toNat x18 x20=ca c.length (aX t x1) z.toNat x23 (0:Nat)))))))))))))))))) ((∃x24:Nat,(((x1<t.length)/\(x24<=c.length))/\((t=t)/\((c=c)/\((z=z)/\(((↑(c.length):Int)=(↑(c.length):Int))/\(((↑x1:Int)=(↑x1:Int))/\(((0:Int)=(↑x24:Int))/\((bc c.length t c z.toNat x1=bc c.length t c z.toNat x1)/\((ap c.length (cI t c z x1)=ap c.length (cI t c z x1)++ap x24 fun(y:Nat)=>(1099511627776:Int)+c.getD y (0:Int)*(64:Int)+(↑(fM c.length (aX t x1) z.toNat y):Int))/\(ca c.length (aX t x1) z.toNat x18 (0:Nat)=ca c.length (aX t x1) z.toNat c.length (0:Nat))))))))))))/\(∀x25:Nat,(((x1<t.length)/\(x25<=c.length))->(ab (decide ((↑x25:Int)<(↑(c.length):Int))) ((aa (↑x25:Int) c.length)/\((ae (c.getD (↑x25:Int).toNat (0:Int)*(64:Int)))/\((ae ((1099511627776:Int)+c.getD (↑x25:Int).toNat (0:Int)*(64:Int)))/\((aa (↑x25:Int) ((ca c.length (aX t x1) z.toNat c.length (0:Nat)).length)) /\
 ((ae ((1099511627776:Int)+c.getD (↑x25:Int).toNat (0:Int)*(64:Int)+(ca c.length (aX t x1) z.toNat c.length (0:Nat)).getD (↑x25:Int).toNat (0:Int)))/\((ar ((ap c.length (cI t c z x1)++ap x25 fun(y:Nat)=>(1099511627776:Int)+c.getD y (0:Int)*(64:Int)+(↑(fM c.length (aX t x1) z.toNat y):Int)).length+[(1099511627776:Int)+c.getD (↑x25:Int).toNat (0:Int)*(64:Int)+(ca c.length (aX t x1) z.toNat c.length (0:Nat)).getD (↑x25:Int).toNat (0:Int)].length))/\((ae ((↑x25:Int)+(1:Int)))/\(∃x26:Nat,(((x1<t.length)/\(x26<=c.length))/\((c.length-x26<c.length-x25)/\((t=t)/\((c=c)/\((z=z)/\(((↑(c.length):Int)=(↑(c.length):Int))/\(((↑x1:Int)=(↑x1:Int))/\(((↑x25:Int)+(1:Int)=(↑x26:Int))/\((bc c.length t c z.toNat x1=bc c.length t c z.toNat x1)/\(((ap c.length (cI t c z x1)++ap x25 fun(y:Nat)=>(1099511627776:Int)+c.getD y (0:Int)*(64:Int)+(↑(fM c.length (aX t x1) z.toNat y):Int))++[(1099511627776:Int)+c.getD (↑x25:Int).toNat (0:Int)*(64:Int)+(ca c.length (aX t x1) z.toNat c.length (0:Nat)).getD (↑x25:Int).toNat (0:Int)]=ap c.length (cI t c z x1)++ap x26 fun(y:Nat)=>(1099511627776:Int)+c.getD y (0:Int)*(64:Int)+(↑(fM c.length (aX t x1) z.toNat y):Int)) /\
 (ca c.length (aX t x1) z.toNat c.length (0:Nat)=ca c.length (aX t x1) z.toNat c.length (0:Nat)))))))))))))))))))) ((∃x27:Nat,(((x1<t.length)/\(((1:Nat)<=x27)/\(x27<=(2:Nat)*c.length)))/\((t=t)/\((c=c)/\((z=z)/\(((↑(c.length):Int)=(↑(c.length):Int))/\(((↑x1:Int)=(↑x1:Int))/\(((1:Int)=(↑x27:Int))/\((bc c.length t c z.toNat x1=bc c.length t c z.toNat x1)/\((ap c.length (cI t c z x1)++ap x25 fun(y:Nat)=>(1099511627776:Int)+c.getD y (0:Int)*(64:Int)+(↑(fM c.length (aX t x1) z.toNat y):Int))=bP (bV t c z x1) x27++List.drop x27 (bV t c z x1)))))))))))/\(∀x28:Nat,(((x1<t.length)/\(((1:Nat)<=x28)/\(x28<=(2:Nat)*c.length)))->(ab (decide ((↑x28:Int)<(↑((bP (du c.length (t.getD x1 ([]:Dc)) c z.toNat) x28++List.drop x28 (du c.length (t.getD x1 ([]:Dc)) c z.toNat)).length):Int))) ((∃x29:Nat,(((x28<(2:Nat)*c.length)/\((x29<=x28)/\(c6 (bP (bV t c z x1) x28) (ev t c z x1 x28) x28=c6 (bP (bV t c z x1) x28) (ev t c z x1 x28) x29)))/\((t=t)/\((c=c)/\((z=z)/\(((↑(c.length):Int)=(↑(c.length):Int))/\(((↑x1:Int)=(↑x1:Int))/\(((↑x28:Int)=(↑x28:Int))/\(((↑x28:Int)=(↑x29:Int))/\((bc c.length t c z.toNat x1=bc c.length t c z.toNat x1) /\
 (bP (bV t c z x1) x28++List.drop x28 (bV t c z x1)=dc (bP (bV t c z x1) x28) (ev t c z x1 x28) x29++List.drop (x28+(1:Nat)) (bV t c z x1))))))))))))/\(∀x30:Nat,(((x28<(2:Nat)*c.length)/\((x30<=x28)/\(c6 (bP (bV t c z x1) x28) (ev t c z x1 x28) x28=c6 (bP (bV t c z x1) x28) (ev t c z x1 x28) x30)))->(ab (decide ((0:Int)<(↑x30:Int))) ((aa (↑x30:Int) ((dc (bP (bV t c z x1) x28) (ev t c z x1 x28) x30++List.drop (x28+(1:Nat)) (bV t c z x1)).length))/\((ae ((↑x30:Int)-(1:Int)))/\((aa ((↑x30:Int)-(1:Int)) ((dc (bP (bV t c z x1) x28) (ev t c z x1 x28) x30++List.drop (x28+(1:Nat)) (bV t c z x1)).length))/\(ab (decide ((dc (bP (du c.length (List.getD t x1 ([]:Dc)) c z.toNat) x28) (List.getD (du c.length (List.getD t x1 ([]:Dc)) c z.toNat) x28 (0:Int)) x30++List.drop (x28+(1:Nat)) (du c.length (List.getD t x1 ([]:Dc)) c z.toNat)).getD (↑x30:Int).toNat (0:Int)<(dc (bP (du c.length (List.getD t x1 ([]:Dc)) c z.toNat) x28) (List.getD (du c.length (List.getD t x1 ([]:Dc)) c z.toNat) x28 (0:Int)) x30++List.drop (x28+(1:Nat)) (du c.length (List.getD t x1 ([]:Dc)) c z.toNat)).getD (((↑x30:Int)-(1:Int)).toNat) (0:Int)))
 ((aa (↑x30:Int) ((dc (bP (bV t c z x1) x28) (ev t c z x1 x28) x30++List.drop (x28+(1:Nat)) (bV t c z x1)).length))/\((ae ((↑x30:Int)-(1:Int)))/\((aa ((↑x30:Int)-(1:Int)) ((dc (bP (bV t c z x1) x28) (ev t c z x1 x28) x30++List.drop (x28+(1:Nat)) (bV t c z x1)).length))/\((aa (↑x30:Int) ((dc (bP (bV t c z x1) x28) (ev t c z x1 x28) x30++List.drop (x28+(1:Nat)) (bV t c z x1)).length))/\((ae ((↑x30:Int)-(1:Int)))/\((aa ((↑x30:Int)-(1:Int)) ((List.set (dc (bP (bV t c z x1) x28) (ev t c z x1 x28) x30++List.drop (x28+(1:Nat)) (bV t c z x1)) (↑x30:Int).toNat ((dc (bP (bV t c z x1) x28) (ev t c z x1 x28) x30++List.drop (x28+(1:Nat)) (bV t c z x1)).getD (((↑x30:Int)-(1:Int)).toNat) (0:Int))).length))/\((ae ((↑x30:Int)-(1:Int)))/\(∃x31:Nat,(((x28<(2:Nat)*c.length)/\((x31<=x28)/\(c6 (bP (bV t c z x1) x28) (ev t c z x1 x28) x28=c6 (bP (bV t c z x1) x28) (ev t c z x1 x28) x31)))/\((x31<x30)/\((t=t)/\((c=c)/\((z=z)/\(((↑(c.length):Int)=(↑(c.length):Int))/\(((↑x1:Int)=(↑x1:Int))/\(((↑x28:Int)=(↑x28:Int))/\(((↑x30:Int)-(1:Int)=(↑x31:Int))/\((bc c.length t c z.toNat x1=bc c.length t c z.toNat x1) /\
 (List.set (List.set (dc (bP (bV t c z x1) x28) (ev t c z x1 x28) x30++List.drop (x28+(1:Nat)) (bV t c z x1)) (↑x30:Int).toNat ((dc (bP (bV t c z x1) x28) (ev t c z x1 x28) x30++List.drop (x28+(1:Nat)) (bV t c z x1)).getD (((↑x30:Int)-(1:Int)).toNat) (0:Int))) (((↑x30:Int)-(1:Int)).toNat) ((dc (bP (bV t c z x1) x28) (ev t c z x1 x28) x30++List.drop (x28+(1:Nat)) (bV t c z x1)).getD (↑x30:Int).toNat (0:Int))=dc (bP (bV t c z x1) x28) (ev t c z x1 x28) x31++List.drop (x28+(1:Nat)) (bV t c z x1)))))))))))))))))))) ((ae ((↑x28:Int)+(1:Int)))/\(∃x32:Nat,(((x1<t.length)/\(((1:Nat)<=x32)/\(x32<=(2:Nat)*c.length)))/\(((2:Nat)*c.length-x32<(2:Nat)*c.length-x28)/\((t=t)/\((c=c)/\((z=z)/\(((↑(c.length):Int)=(↑(c.length):Int))/\(((↑x1:Int)=(↑x1:Int))/\(((↑x28:Int)+(1:Int)=(↑x32:Int))/\((bc c.length t c z.toNat x1=bc c.length t c z.toNat x1)/\(dc (bP (bV t c z x1) x28) (ev t c z x1 x28) x30++List.drop (x28+(1:Nat)) (bV t c z x1)=bP (bV t c z x1) x32++List.drop x32 (bV t c z x1))))))))))))))))) ((ae ((↑x28:Int)+(1:Int)))/\(∃x33:Nat,(((x1<t.length)/\(((1:Nat)<=x33)/\(x33<=(2:Nat)*c.length)))/\(((2:Nat)*c.length-x33<(2:Nat)*c.length-x28)/\((t=t)/\((c=c)/\((z=z)/\(((↑(c.length):Int)=(↑(c.length):Int))/\(((↑x1:Int)=(↑x1:Int)) /\
 (((↑x28:Int)+(1:Int)=(↑x33:Int))/\((bc c.length t c z.toNat x1=bc c.length t c z.toNat x1)/\(dc (bP (bV t c z x1) x28) (ev t c z x1 x28) x30++List.drop (x28+(1:Nat)) (bV t c z x1)=bP (bV t c z x1) x33++List.drop x33 (bV t c z x1))))))))))))))))) ((ar ((bc c.length t c z.toNat x1).length+(bP (bV t c z x1) x28++List.drop x28 (bV t c z x1)).length))/\((ae ((↑x1:Int)+(1:Int)))/\(∃x34:Nat,((x34<=t.length)/\((t.length-x34<t.length-x1)/\((t=t)/\((c=c)/\((z=z)/\(((↑(c.length):Int)=(↑(c.length):Int))/\(((↑x1:Int)+(1:Int)=(↑x34:Int))/\(bc c.length t c z.toNat x1++(bP (bV t c z x1) x28++List.drop x28 (bV t c z x1))=bc c.length t c z.toNat x34)))))))))))))))))))))))))))) ((bc c.length t c z.toNat x1=cu c.length t c z.toNat)/\True))))))
theorem Tj(t:Dd)(c:Db)(z:Int):aE Tryz.prog (af Ky) ah (Kx t c z) Tryz.f223 (aF Tryz.f223) [] [.c (.r3 .i64 t),.c (.ints .i64 c),.c (.int .i64 z)] (sQ t c z)=zw t c z:=by kernel_rfl
theorem Tk(t:Dd)(c:Db)(z:Int)(ξ:(sQ t c z).pre):zw t c z:=by
 simp only[sQ,zw,bV,aX,lv,cI,ev,jb,aH]at ξ⊢;obtain⟨h1,h2,h3,h4,h5,h6,h7⟩:=ξ;simp only[bK,Kw,zu,zt,uq];refine⟨by omega,⟨0,by omega,rfl,rfl⟩,fun k hk=>⟨fun hk2=>?_,fun hk2=>?_⟩⟩
 ·have A:=h4 k (by omega)
  have hz:((z.toNat:Nat):Int)=z:=by omega
  have hkn:k*(2*c.length)<=1000*24:=BO (by omega) (by omega)
  have L1:(t.getD k []).length=c.length:=A.1
  have L2:=(A.2 z.toNat (by omega)).1
  have MS:∀S:Dc,S=t.getD k []->bc c.length t c z.toNat k++lC (du c.length S c z.toNat)=bc c.length t c z.toNat (k+1):=fun S e=>by rw[e];rfl
  generalize t.getD k []=T at *
  refine⟨⟨0,⟨by omega,by omega⟩,rfl,rfl⟩,fun j ⟨_,hj⟩=>⟨fun hj2=>?_,fun hj2=>?_⟩⟩
  ·have E1:=(A.2 z.toNat (by omega)).2 j (by omega)
   have E2:=(A.2 j (by omega)).2 z.toNat (by omega)
   have L3:=(A.2 j (by omega)).1
   obtain⟨O1,O2,O3,O4⟩:=S8 T z.toNat j;refine⟨by omega,by omega,by omega,by omega,by omega,by omega,⟨fun q=>⟨⟨⟩,by omega,rfl,rfl,(AA q).symm⟩,fun q=>⟨⟨⟩,by omega,rfl,rfl,(AB q).symm⟩⟩,fun _ _=>⟨⟨fun q=>⟨by omega,⟨⟩,by omega,?_⟩,fun q=>⟨⟨⟩,by omega,?_⟩⟩,fun _ _=>⟨⟨fun q=>⟨by omega,⟨⟩,by omega,?_⟩,fun q=>⟨⟨⟩,by omega,?_⟩⟩,fun _ _=>⟨⟨fun q=>⟨by omega,⟨⟩,by omega,?_⟩,fun q=>⟨⟨⟩,by omega,?_⟩⟩,fun _ _=>?_⟩⟩⟩⟩
   ·rw[iB,AA q]
   ·rw[iB,AB q];omega
   ·rw[iC,hz,AA q]
   ·rw[iC,hz,AB q];omega
   ·rw[zq,hz,AA q]
   ·rw[zq,hz,AB q];omega
   ·have c1:=h5 j (by omega)
    have c2:=h5 (en T z.toNat j).toNat (by omega)
    have c3:=h5 (en T j z.toNat).toNat (by omega)
    refine⟨by omega,by omega,by omega,by omega,by omega,by omega,by omega,by omega,by omega,by omega,by omega,j+1,⟨by omega,by omega⟩,by omega,by omega,?_⟩
    rw[tab_succ'];rfl
  ·have ej:j=c.length:=by omega
   subst ej;refine⟨⟨by omega,by omega,by omega⟩,⟨0,⟨by omega,by omega⟩,rfl,rfl,Td _ _ _⟩,fun j ⟨_,hj⟩=>⟨fun hj2=>⟨⟨0,⟨by omega,by omega⟩,rfl,rfl⟩,fun i ⟨_,hi⟩=>⟨fun hi2=>?_,fun hi2=>?_⟩⟩,fun hj2=>?_⟩⟩
   ·have L3:=(A.2 j (by omega)).1
    have cl:=zr T z.toNat j i
    rw[Te _ _ _ (by omega)]
    refine⟨by omega,by omega,by omega,fun q=>⟨by omega,by omega,by omega,by omega,i+1,⟨by omega,by omega⟩,by omega,by omega,?_⟩,fun q=>⟨by omega,i+1,⟨by omega,by omega⟩,by omega,by omega,?_⟩⟩
    ·exact Tf (by rw[hz];exact q)
    ·exact Tg (by rw[hz];exact q)
   ·rw[show i=c.length by omega]
    exact⟨by omega,j+1,⟨by omega,by omega⟩,by omega,by omega,Th _ _ _ _⟩
   ·rw[show j=c.length by omega]
    refine⟨⟨0,⟨by omega,by omega⟩,rfl,by simp[ap]⟩,fun j ⟨_,hj⟩=>⟨fun hj2=>?_,fun hj2=>?_⟩⟩
    ·have c1:=h5 j (by omega)
     have cl:fM c.length T z.toNat j<=c.length:=zr _ _ _ _
     rw[Ti _ _ (by omega)]
     refine⟨by omega,by omega,by omega,by omega,by omega,by omega,by omega,j+1,⟨by omega,by omega⟩,by omega,by omega,?_⟩
     rw[tab_succ',Ap]
    ·have ej:j=c.length:=by omega
     subst ej;have SL:=zt c.length T c z.toNat
     have S0:ap c.length (f7 T c z.toNat)++(ap c.length fun y=>1099511627776+c.getD y 0*64+(fM c.length T z.toNat y:Int))=du c.length T c z.toNat:=rfl
     rw[S0];have MS:=MS T rfl
     generalize du c.length T c z.toNat=S at *
     have I1:bP S 1=S.take 1:=by
      rw[<-eo S 0 0 (by omega)];rfl
     refine⟨⟨1,⟨by omega,by omega,by omega⟩,rfl,by rw[I1,CO]⟩,fun i ⟨_,hi1,hi⟩=>⟨fun hi2=>?_,fun hi2=>?_⟩⟩
     ·have PL:=uq S i
      have B0:bP S i++S.drop i=dc (bP S i) (S.getD i 0) i++S.drop (i+1):=by
       rw[dc,AU (by omega),A4 (l:=bP S i) (by omega),drop_cons' S 0 i (by omega),Ap];rfl
      have BN:∀j,c6 (bP S i) (S.getD i 0) i=j->dc (bP S i) (S.getD i 0) j++S.drop (i+1)=bP S (i+1)++S.drop (i+1):=fun j e=>by
       rw[bP,mD,PL,e];rfl
      generalize bP S i=p at *
      generalize S.getD i 0=x at *
      refine⟨⟨i,⟨by omega,by omega,rfl⟩,rfl,B0⟩,fun j ⟨_,hj,ib⟩=>?_⟩
      have BL:=S9 p x (j:=j) (by omega)
      rw[BL];refine⟨fun j0=>?_,fun j0=>?_⟩
      ·obtain⟨j,rfl⟩:∃m,j=m+1:=⟨j-1,by omega⟩
       have g1:(dc p x (j+1)++S.drop (i+1)).getD (j+1) 0=x:=by rw[getD_append_left' _ _ _ _ (by omega),Ta _ _ (by omega)]
       have g0:(dc p x (j+1)++S.drop (i+1)).getD j 0=p.getD j 0:=by rw[getD_append_left' _ _ _ _ (by omega),Tb _ _ (by omega)]
       have ez:(((j+1:Nat):Int)-1).toNat=j:=by omega
       rw[c6]at ib;rw[ez,g1,g0];refine⟨by omega,by omega,by omega,fun q=>⟨by omega,by omega,by omega,by omega,by omega,by omega,by omega,j,⟨by omega,by omega,by rw[ib,AA q]⟩,by omega,by omega,?_⟩,fun q=>⟨by omega,i+1,⟨by omega,by omega,by omega⟩,by omega,by omega,BN (j+1) (by rw[ib,AB q])⟩⟩
       rw[List.set_append_left _ _ (by omega),List.set_append_left _ _ (by rw[Ai];omega),Tc _ _ (by omega)]
      ·have ej:j=0:=by omega
       subst ej;exact⟨by omega,i+1,⟨by omega,by omega,by omega⟩,by omega,by omega,BN 0 ib⟩
     ·have ei:i=S.length:=by omega
      rw[ei,List.drop_length,Af];exact⟨by omega,by omega,k+1,by omega,by omega,by omega,MS⟩
 ·rw[cu,show k=t.length by omega]
theorem Tl:Fits Tryz.prog 223 ⟨[],zv⟩:=by
 refine aI (Γ:=af Ky) aG Tryz.func223 fun ds p h hp=>?_
 unfold zv at h;split at h
 ·cases h
  exact⟨ah,Kx _ _ _ ,by rw[Tj];exact Tk _ _ _  hp⟩
 ·cases h
def n9:List AD->Option Post
 | [.c (.ints .i64 a),.c (.ints .i64 b)]=>some ⟨ar a.length,.c (.bool (decide (a=b))),[]⟩
 |_=>none
def Kz(a:Db)(b:Db):Nat->Option Ann
 |0=>U' fun i=>⟨⟨[(0,G' a),(1,G' b),(5,D' i)],[]⟩,i<=a.length/\a.length=b.length/\a.take i=b.take i,a.length-i⟩
 |_=>none
theorem sS:Fits Tryz.prog 202 ⟨[],n9⟩:=by
 refine ffv (Γ:=af []) aG Tryz.func202 fun ds p h ξ=>?_
 unfold n9 at h;split at h<;>cases h
 rename_i a b
 refine⟨ah,Kz a b,ab ((a.length:Int) != (b.length:Int)) (false=decide (a=b)/\True) ((∃x0:Nat,(x0<=a.length/\a.length=b.length/\List.take x0 a=List.take x0 b)/\a=a/\b=b/\(0:Int)=(x0:Int))/\∀x1:Nat,x1<=a.length/\a.length=b.length/\List.take x1 a=List.take x1 b->ab (decide ((x1:Int)<(a.length:Int))) (aa (x1:Int) a.length/\aa (x1:Int) b.length/\ab (a.getD (x1:Int).toNat (0:Int) != b.getD (x1:Int).toNat (0:Int)) (false=decide (a=b)/\True) (ae ((x1:Int)+(1:Int))/\∃x2:Nat,(x2<=a.length/\a.length=b.length/\List.take x2 a=List.take x2 b)/\a.length-x2<a.length-x1/\a=a/\b=b/\(x1:Int)+(1:Int)=(x2:Int))) (true=decide (a=b)/\True)),by kernel_rfl,?_⟩
 simp only[aH]at ξ⊢;refine⟨fun h=>?_,fun h=>⟨⟨0,⟨by omega,by omega,rfl⟩,by simp⟩,fun i hi=>⟨fun h1=>⟨by omega,by omega,fun h2=>?_,fun h2=>⟨by omega,i+1,⟨by omega,hi.2.1,?_⟩,by omega,by omega⟩⟩,fun h1=>?_⟩⟩⟩
 ·exact(AZ fun e=>h (by rw[e])).symm
 ·exact(AZ fun e=>h2 (by rw[e])).symm
 ·exact(I5 a b 0 i (by omega) (by omega) hi.2.2).2 h2
 ·refine(AY ?_).symm
  have:=hi.2.2
  rwa[AU (by omega),AU (by omega)]at this
end Go.Sx
