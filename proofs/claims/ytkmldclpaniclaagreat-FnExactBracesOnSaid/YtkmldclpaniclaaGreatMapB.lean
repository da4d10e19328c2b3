/- MapB -/
import Derived.Test.YtkmldclpaniclaaGreatMapA
open Go Go.Proofs
namespace Go.Sx
set_option linter.unusedSimpArgs false
set_option linter.unusedVariables false
def iN(t:List (List Int))(x y:Nat):Int:=if en t x y=(y:Int)then 1 else 0
def gF(t:List (List Int))(x y:Nat):Int:=iN t x y+if en t y x=(y:Int)then 2 else 0
def gG(t:List (List Int))(x y:Nat):Int:=gF t x y+if en t x y=(x:Int)then 4 else 0
theorem yb(t:List (List Int))(x y:Nat):gb t x y=gG t x y+if en t y x=(x:Int)then 8 else 0:=rfl
theorem Ow(t:List (List Int))(x y:Nat):(0<=iN t x y/\iN t x y<=1)/\(0<=gF t x y/\gF t x y<=3)/\(0<=gG t x y/\gG t x y<=7)/\0<=gb t x y/\gb t x y<=15:=by
 rw[yb];unfold gG gF iN;split<;>split<;>split<;>split<;>omega
theorem yc(t:List (List Int))(x y:Nat):∀n,gg t x y n<=n
 |0=>Nat.le_refl _
 |n+1=>by rw[gg];have:=yc t x y n;split<;>omega
def bN(n:Nat)(t:List (List Int))(x j i:Nat):List Int:=aM n fun q=>if q<j then(fe n t x q:Int)else if q=j then(gg t x j i:Int)else 0
def dL(p:List Int)(x:Int)(j:Nat):List Int:=p.take j++x::p.drop j
theorem Ox(p:List Int)(x:Int){j:Nat}(h:j<=p.length):(dL p x j).length=p.length+1:=by simp[dL];omega
theorem Oy(p:List Int)(x:Int){j:Nat}(h:j<=p.length):(dL p x j).getD j 0=x:=yY _ _ _ _ _ (by rw[List.length_take];omega)
theorem Oz(p:List Int)(x:Int){j:Nat}(h:j+1<=p.length):(dL p x (j+1)).getD j 0=p.getD j 0:=by
 rw[dL,getD_append_left' _ _ _ _ (by rw[List.length_take];omega),nI _ _ _ _ (by omega)]
theorem OA(p:List Int)(x:Int){j:Nat}(h:j+1<=p.length):((dL p x (j+1)).set (j+1) (p.getD j 0)).set j x=dL p x j:=by
 rw[dL,dL,sn _ _ _ _ _ (by rw[List.length_take];omega),<-da p 0 j (by omega),List.append_assoc,List.singleton_append,sn _ _ _ _ _ (by rw[List.length_take];omega),drop_cons' p 0 j (by omega)]
theorem tab_succ'(n:Nat)(f:Nat->Int):aM (n+1) f=aM n f++[f n]:=by simp[aM,List.range_succ]
theorem FQ(n:Nat)(t:List (List Int))(x j i:Nat):(bN n t x j i).length=n:=fL _ _
theorem OB(n:Nat)(t:List (List Int))(x:Nat):List.replicate n 0=bN n t x 0 0:=by
 refine jc (by rw[FQ];simp) fun q hq=>?_
 have hq:q<n:=by simpa using hq
 rw[bN,eY _ _ _ hq,if_neg (by omega)]
 simp[List.getD_eq_getElem?_getD,hq,gg]
theorem OC{n:Nat}(t:List (List Int))(x:Nat){j:Nat}(i:Nat)(h:j<n):(bN n t x j i).getD j 0=(gg t x j i:Int):=by
 rw[bN,eY _ _ _ h,if_neg (by omega),if_pos rfl]
theorem OD{n:Nat}{t:List (List Int)}{x j i:Nat}(h:en t j i=(x:Int)):(bN n t x j i).set j ((gg t x j i:Int)+1)=bN n t x j (i+1):=by
 rw[bN,bN,T6];refine l9 fun q hq=>?_
 by_cases e:q=j
 ·rw[if_pos e,if_neg (by omega),if_pos e,gg,if_pos h];rfl
 ·rw[if_neg e,if_neg e,if_neg e]
theorem OE{n:Nat}{t:List (List Int)}{x j i:Nat}(h:¬ en t j i=(x:Int)):bN n t x j i=bN n t x j (i+1):=by
 rw[bN,bN];refine l9 fun q hq=>?_
 rw[gg,if_neg h]
theorem OF(n:Nat)(t:List (List Int))(x j:Nat):bN n t x j n=bN n t x (j+1) 0:=by
 rw[bN,bN];refine l9 fun q hq=>?_
 by_cases e:q=j
 ·rw[if_neg (by omega),if_pos e,if_pos (by omega),fe,e]
 ·by_cases e2:q<j
  ·rw[if_pos e2,if_pos (by omega)]
  ·rw[if_neg e2,if_neg e,if_neg (by omega)]
   split
   ·rfl
   ·rfl
theorem OG{n:Nat}(t:List (List Int))(x:Nat){q:Nat}(h:q<n):(bN n t x n 0).getD q 0=(fe n t x q:Int):=by
 rw[bN,eY _ _ _ h,if_pos h]
theorem ye(n:Nat)(t:List (List Int))(c:List Int)(x:Nat):(c7 n t c x).length=2*n:=by rw[c7,List.length_append,fL,fL];omega
theorem yf(n:Nat)(a:List (List (List Int)))(c:List Int)(x:Nat):∀k,(aZ n a c x k).length=1+k*(2*n)
 |0=>by simp[aZ]
 |k+1=>by rw[aZ,List.length_append,yf n a c x k,jP,rZ,ye,Nat.add_mul,Nat.one_mul,Nat.add_assoc]
def rT(t:List (List (List Int)))(c:List Int)(z:Int):Post:=⟨t.length<=1000/\1<=c.length/\c.length<=12/\bw c.length t/\(∀i,i<c.length->0<=c.getD i 0/\c.getD i 0<=60)/\0<=z/\z<(c.length:Int),.c (.ints 2 .i64 (bS c.length t c z.toNat)),[]⟩
def yg:List AD->Option Post
 | [.c (.r3 .i64 t),.c (.ints .i64 c),.c (.int .i64 z)]=>some (rT t c z)
 |_=>none
def FR(t:List (List (List Int)))(c:List Int)(z:Int):Nat->Option Ann
 |0=>some (Ann.mk ((Nat)) (fun k=>⟨[(0,.c (.ro (.r3 .i64 t))),(1,.c (.ro (.ints .i64 c))),(2,.c (.int .i64 z)),(7,.c (.int .i64 ((c.length:Int)))),(8,.c (.own 8)),(9,.c (.int .i64 ((k:Int))))],[(8,some (.ints 2 .i64 (aZ c.length t c z.toNat k)))]⟩) (fun k=>k<=t.length) (fun k=>t.length-k) (fun k=>fun b_=>match b_ with|2=>some (Ann.mk ((Nat)) (fun j=>⟨[(0,.c (.ro (.r3 .i64 t))),(1,.c (.ro (.ints .i64 c))),(2,.c (.int .i64 z)),(7,.c (.int .i64 ((c.length:Int)))),(8,.c (.own 8)),(9,.c (.int .i64 ((k:Int)))),(10,.c (.own 10)),(11,.c (.int .i64 ((j:Int))))],[(8,some (.ints 2 .i64 (aZ c.length t c z.toNat k))),(10,some (.ints 2 .i64 (aM j (fA (t.getD k []) c z.toNat))))]⟩) (fun j=>k<t.length/\j<=c.length) (fun j=>c.length-j) (fun j=>fun b_=>match b_ with|1013=>some (Ann.mk ((Unit)) (fun u=>⟨[(0,.c (.ro (.r3 .i64 t))),(1,.c (.ro (.ints .i64 c))),(2,.c (.int .i64 z)),(7,.c (.int .i64 ((c.length:Int)))),(8,.c (.own 8)),(9,.c (.int .i64 ((k:Int)))),(10,.c (.own 10)),(11,.c (.int .i64 ((j:Int)))),(12,.c (.int .i64 (en (t.getD k []) z.toNat j))),(13,.c (.int .i64 (en (t.getD k []) j z.toNat))),(14,.c (.int .i64 (iN (t.getD k []) z.toNat j)))],[(8,some (.ints 2 .i64 (aZ c.length t c z.toNat k))),(10,some (.ints 2 .i64 (aM j (fA (t.getD k []) c z.toNat))))]⟩) (fun u=>j<c.length) (fun u=>0) (fun _=>ar))|1015=>some (Ann.mk ((Unit)) (fun u=>⟨[(0,.c (.ro (.r3 .i64 t))),(1,.c (.ro (.ints .i64 c))),(2,.c (.int .i64 z)),(7,.c (.int .i64 ((c.length:Int)))),(8,.c (.own 8)),(9,.c (.int .i64 ((k:Int)))),(10,.c (.own 10)),(11,.c (.int .i64 ((j:Int)))),(12,.c (.int .i64 (en (t.getD k []) z.toNat j))),(13,.c (.int .i64 (en (t.getD k []) j z.toNat))),(14,.c (.int .i64 (gF (t.getD k []) z.toNat j)))],[(8,some (.ints 2 .i64 (aZ c.length t c z.toNat k))),(10,some (.ints 2 .i64 (aM j (fA (t.getD k []) c z.toNat))))]⟩) (fun u=>j<c.length) (fun u=>0) (fun _=>ar))|1017=>some (Ann.mk ((Unit)) (fun u=>⟨[(0,.c (.ro (.r3 .i64 t))),(1,.c (.ro (.ints .i64 c))),(2,.c (.int .i64 z)),(7,.c (.int .i64 ((c.length:Int)))),(8,.c (.own 8)),(9,.c (.int .i64 ((k:Int)))),(10,.c (.own 10)),(11,.c (.int .i64 ((j:Int)))),(12,.c (.int .i64 (en (t.getD k []) z.toNat j))),(13,.c (.int .i64 (en (t.getD k []) j z.toNat))),(14,.c (.int .i64 (gG (t.getD k []) z.toNat j)))],[(8,some (.ints 2 .i64 (aZ c.length t c z.toNat k))),(10,some (.ints 2 .i64 (aM j (fA (t.getD k []) c z.toNat))))]⟩) (fun u=>j<c.length) (fun u=>0) (fun _=>ar))|1019=>some (Ann.mk ((Unit)) (fun u=>⟨[(0,.c (.ro (.r3 .i64 t))),(1,.c (.ro (.ints .i64 c))),(2,.c (.int .i64 z)),(7,.c (.int .i64 ((c.length:Int)))),(8,.c (.own 8)),(9,.c (.int .i64 ((k:Int)))),(10,.c (.own 10)),(11,.c (.int .i64 ((j:Int)))),(12,.c (.int .i64 (en (t.getD k []) z.toNat j))),(13,.c (.int .i64 (en (t.getD k []) j z.toNat))),(14,.c (.int .i64 (gb (t.getD k []) z.toNat j)))],[(8,some (.ints 2 .i64 (aZ c.length t c z.toNat k))),(10,some (.ints 2 .i64 (aM j (fA (t.getD k []) c z.toNat))))]⟩) (fun u=>j<c.length) (fun u=>0) (fun _=>ar))|_=>none))|4=>some (Ann.mk ((Nat)) (fun j=>⟨[(0,.c (.ro (.r3 .i64 t))),(1,.c (.ro (.ints .i64 c))),(2,.c (.int .i64 z)),(7,.c (.int .i64 ((c.length:Int)))),(8,.c (.own 8)),(9,.c (.int .i64 ((k:Int)))),(10,.c (.own 10)),(15,.c (.own 15)),(16,.c (.int .i64 ((j:Int))))],[(8,some (.ints 2 .i64 (aZ c.length t c z.toNat k))),(10,some (.ints 2 .i64 (aM c.length (fA (t.getD k []) c z.toNat)))),(15,some (.ints 2 .i64 (bN c.length (t.getD k []) z.toNat j 0)))]⟩) (fun j=>k<t.length/\j<=c.length) (fun j=>c.length-j) (fun j=>fun b_=>match b_ with|6=>some (Ann.mk ((Nat)) (fun i=>⟨[(0,.c (.ro (.r3 .i64 t))),(1,.c (.ro (.ints .i64 c))),(2,.c (.int .i64 z)),(7,.c (.int .i64 ((c.length:Int)))),(8,.c (.own 8)),(9,.c (.int .i64 ((k:Int)))),(10,.c (.own 10)),(15,.c (.own 15)),(16,.c (.int .i64 ((j:Int)))),(17,.c (.int .i64 ((i:Int))))],[(8,some (.ints 2 .i64 (aZ c.length t c z.toNat k))),(10,some (.ints 2 .i64 (aM c.length (fA (t.getD k []) c z.toNat)))),(15,some (.ints 2 .i64 (bN c.length (t.getD k []) z.toNat j i)))]⟩) (fun i=>j<c.length/\i<=c.length) (fun i=>c.length-i) (fun _=>ar))|_=>none))|8=>some (Ann.mk ((Nat)) (fun j=>⟨[(0,.c (.ro (.r3 .i64 t))),(1,.c (.ro (.ints .i64 c))),(2,.c (.int .i64 z)),(7,.c (.int .i64 ((c.length:Int)))),(8,.c (.own 8)),(9,.c (.int .i64 ((k:Int)))),(10,.c (.own 10)),(15,.c (.own 15)),(18,.c (.int .i64 ((j:Int))))],[(8,some (.ints 2 .i64 (aZ c.length t c z.toNat k))),(10,some (.ints 2 .i64 (aM c.length (fA (t.getD k []) c z.toNat)++aM j (fun y=>1099511627776+c.getD y 0*64+(fe c.length (t.getD k []) z.toNat y:Int))))),(15,some (.ints 2 .i64 (bN c.length (t.getD k []) z.toNat c.length 0)))]⟩) (fun j=>k<t.length/\j<=c.length) (fun j=>c.length-j) (fun _=>ar))|10=>some (Ann.mk ((Nat)) (fun i=>⟨[(0,.c (.ro (.r3 .i64 t))),(1,.c (.ro (.ints .i64 c))),(2,.c (.int .i64 z)),(7,.c (.int .i64 ((c.length:Int)))),(8,.c (.own 8)),(9,.c (.int .i64 ((k:Int)))),(10,.c (.own 10)),(19,.c (.int .i64 ((i:Int))))],[(8,some (.ints 2 .i64 (aZ c.length t c z.toNat k))),(10,some (.ints 2 .i64 (bR (c7 c.length (t.getD k []) c z.toNat) i++(c7 c.length (t.getD k []) c z.toNat).drop i)))]⟩) (fun i=>k<t.length/\1<=i/\i<=2*c.length) (fun i=>2*c.length-i) (fun i=>fun b_=>match b_ with|12=>some (Ann.mk ((Nat)) (fun j=>⟨[(0,.c (.ro (.r3 .i64 t))),(1,.c (.ro (.ints .i64 c))),(2,.c (.int .i64 z)),(7,.c (.int .i64 ((c.length:Int)))),(8,.c (.own 8)),(9,.c (.int .i64 ((k:Int)))),(10,.c (.own 10)),(19,.c (.int .i64 ((i:Int)))),(20,.c (.int .i64 ((j:Int))))],[(8,some (.ints 2 .i64 (aZ c.length t c z.toNat k))),(10,some (.ints 2 .i64 (dL (bR (c7 c.length (t.getD k []) c z.toNat) i) ((c7 c.length (t.getD k []) c z.toNat).getD i 0) j++(c7 c.length (t.getD k []) c z.toNat).drop (i+1))))]⟩) (fun j=>i<2*c.length/\j<=i/\cD (bR (c7 c.length (t.getD k []) c z.toNat) i) ((c7 c.length (t.getD k []) c z.toNat).getD i 0) i=cD (bR (c7 c.length (t.getD k []) c z.toNat) i) ((c7 c.length (t.getD k []) c z.toNat).getD i 0) j) (fun j=>j) (fun _=>ar))|_=>none))|_=>none))
 |_=>none
def FT:List (Nat×Ctr):=[]
def bV(t:List (List (List Int)))(c:List Int)(z:Int)(x0:Nat):=(c7 c.length (t.getD x0 ([]:List (List Int))) c z.toNat)
def aR(t:List (List (List Int)))(x0:Nat):=(t.getD x0 ([]:List (List Int)))
def g4(t:List (List (List Int)))(c:List Int)(z:Int)(x0:Nat)(x1:Nat)(x2:Nat):=(dL (bR (bV t c z x0) x1) ((bV t c z x0).getD x1 (0:Int)) x2++List.drop (x1+(1:Nat)) (bV t c z x0))
def jO(t:List (List (List Int)))(c:List Int)(z:Int)(x0:Nat)(x1:Nat):=(c.getD (↑x0:Int).toNat (0:Int)*(64:Int)+c.getD ((en (aR t x1) z.toNat x0).toNat) (0:Int))
def b7(t:List (List (List Int)))(c:List Int)(z:Int)(x0:Nat):=(fA (aR t x0) c z.toNat)
def g5(t:List (List (List Int)))(x0:Nat):=(t.getD (↑x0:Int).toNat ([]:List (List Int)))
def yh(t:List (List (List Int)))(c:List Int)(z:Int):Prop :=
 (ab z c.length/\((∃x0:Nat,x0<=t.length/\t=t/\c=c/\z=z/\(c.length:Int)=(c.length:Int)/\(0:Int)=(x0:Int)/\[c.getD z.toNat (0:Int)]=aZ c.length t c z.toNat x0)/\(∀x1:Nat,(x1<=t.length->(af (decide ((x1:Int)<(t.length:Int))) ((∃x2:Nat,(x1<t.length/\x2<=c.length)/\t=t/\c=c/\z=z/\(c.length:Int)=(c.length:Int)/\(x1:Int)=(x1:Int)/\(0:Int)=(x2:Int)/\aZ c.length t c z.toNat x1=aZ c.length t c z.toNat x1/\[]=aM x2 (b7 t c z x1))/\(∀x3:Nat,(x1<t.length/\x3<=c.length->(af (decide ((x3:Int)<(c.length:Int))) (ab (x1:Int) t.length/\(ab z (g5 t x1).length/\(ab (x3:Int) (((g5 t x1).getD z.toNat []).length)/\(ab (x1:Int) t.length/\(ab (x3:Int) (g5 t x1).length/\(ab z (((g5 t x1).getD (x3:Int).toNat []).length)/\((af ((List.getD (List.getD t (x1:Int).toNat ([]:List (List Int))) z.toNat []).getD (x3:Int).toNat (0:Int) == (x3:Int)) (∃x4:Unit,(x3<c.length/\(t=t/\(c=c/\(z=z/\((c.length:Int)=(c.length:Int)/\((x1:Int)=(x1:Int)/\((x3:Int)=(x3:Int)/\((List.getD (g5 t x1) z.toNat []).getD (x3:Int).toNat (0:Int)=en (aR t x1) z.toNat x3/\((List.getD (g5 t x1) (x3:Int).toNat []).getD z.toNat (0:Int)=en (aR t x1) x3 z.toNat/\(((1:Int)=iN (aR t x1) z.toNat x3) /\
 ((aZ c.length t c z.toNat x1=aZ c.length t c z.toNat x1)/\(aM x3 (b7 t c z x1)=aM x3 (b7 t c z x1)))))))))))))) (∃x5:Unit,((x3<c.length)/\((t=t)/\((c=c)/\((z=z)/\(((c.length:Int)=(c.length:Int))/\(((x1:Int)=(x1:Int))/\(((x3:Int)=(x3:Int))/\(((List.getD (g5 t x1) z.toNat []).getD (x3:Int).toNat (0:Int)=en (aR t x1) z.toNat x3)/\(((List.getD (g5 t x1) (x3:Int).toNat []).getD z.toNat (0:Int)=en (aR t x1) x3 z.toNat)/\(((0:Int)=iN (aR t x1) z.toNat x3)/\((aZ c.length t c z.toNat x1=aZ c.length t c z.toNat x1)/\(aM x3 (b7 t c z x1)=aM x3 (b7 t c z x1)))))))))))))))/\(∀x6:Unit,((x3<c.length)->((af (en (t.getD x1 ([]:List (List Int))) x3 z.toNat == (x3:Int)) ((ae (iN (aR t x1) z.toNat x3+(2:Int)))/\(∃x7:Unit,((x3<c.length)/\((t=t)/\((c=c)/\((z=z)/\(((c.length:Int)=(c.length:Int))/\(((x1:Int)=(x1:Int))/\(((x3:Int)=(x3:Int))/\((en (aR t x1) z.toNat x3=en (aR t x1) z.toNat x3)/\((en (aR t x1) x3 z.toNat=en (aR t x1) x3 z.toNat)/\((iN (aR t x1) z.toNat x3+(2:Int)=gF (aR t x1) z.toNat x3)/\((aZ c.length t c z.toNat x1=aZ c.length t c z.toNat x1)/\(aM x3 (b7 t c z x1)=aM x3 (b7 t c z x1))))))))))))))) (∃x8:Unit,((x3<c.length)/\((t=t)/\((c=c)/\((z=z)/\(((c.length:Int)=(c.length:Int)) /\
 (((x1:Int)=(x1:Int))/\(((x3:Int)=(x3:Int))/\((en (aR t x1) z.toNat x3=en (aR t x1) z.toNat x3)/\((en (aR t x1) x3 z.toNat=en (aR t x1) x3 z.toNat)/\((iN (aR t x1) z.toNat x3=gF (aR t x1) z.toNat x3)/\((aZ c.length t c z.toNat x1=aZ c.length t c z.toNat x1)/\(aM x3 (b7 t c z x1)=aM x3 (b7 t c z x1)))))))))))))))/\(∀x9:Unit,((x3<c.length)->((af (en (t.getD x1 ([]:List (List Int))) z.toNat x3 == z) ((ae (gF (aR t x1) z.toNat x3+(4:Int)))/\(∃x10:Unit,((x3<c.length)/\((t=t)/\((c=c)/\((z=z)/\(((c.length:Int)=(c.length:Int))/\(((x1:Int)=(x1:Int))/\(((x3:Int)=(x3:Int))/\((en (aR t x1) z.toNat x3=en (aR t x1) z.toNat x3)/\((en (aR t x1) x3 z.toNat=en (aR t x1) x3 z.toNat)/\((gF (aR t x1) z.toNat x3+(4:Int)=gG (aR t x1) z.toNat x3)/\((aZ c.length t c z.toNat x1=aZ c.length t c z.toNat x1)/\(aM x3 (b7 t c z x1)=aM x3 (b7 t c z x1))))))))))))))) (∃x11:Unit,((x3<c.length)/\((t=t)/\((c=c)/\((z=z)/\(((c.length:Int)=(c.length:Int))/\(((x1:Int)=(x1:Int))/\(((x3:Int)=(x3:Int))/\((en (aR t x1) z.toNat x3=en (aR t x1) z.toNat x3)/\((en (aR t x1) x3 z.toNat=en (aR t x1) x3 z.toNat)/\((gF (aR t x1) z.toNat x3=gG (aR t x1) z.toNat x3) /\
 ((aZ c.length t c z.toNat x1=aZ c.length t c z.toNat x1)/\(aM x3 (b7 t c z x1)=aM x3 (b7 t c z x1)))))))))))))))/\(∀x12:Unit,((x3<c.length)->((af (en (t.getD x1 ([]:List (List Int))) x3 z.toNat == z) ((ae (gG (aR t x1) z.toNat x3+(8:Int)))/\(∃x13:Unit,((x3<c.length)/\((t=t)/\((c=c)/\((z=z)/\(((c.length:Int)=(c.length:Int))/\(((x1:Int)=(x1:Int))/\(((x3:Int)=(x3:Int))/\((en (aR t x1) z.toNat x3=en (aR t x1) z.toNat x3)/\((en (aR t x1) x3 z.toNat=en (aR t x1) x3 z.toNat)/\((gG (aR t x1) z.toNat x3+(8:Int)=gb (aR t x1) z.toNat x3)/\((aZ c.length t c z.toNat x1=aZ c.length t c z.toNat x1)/\(aM x3 (b7 t c z x1)=aM x3 (b7 t c z x1))))))))))))))) (∃x14:Unit,((x3<c.length)/\((t=t)/\((c=c)/\((z=z)/\(((c.length:Int)=(c.length:Int))/\(((x1:Int)=(x1:Int))/\(((x3:Int)=(x3:Int))/\((en (aR t x1) z.toNat x3=en (aR t x1) z.toNat x3)/\((en (aR t x1) x3 z.toNat=en (aR t x1) x3 z.toNat)/\((gG (aR t x1) z.toNat x3=gb (aR t x1) z.toNat x3)/\((aZ c.length t c z.toNat x1=aZ c.length t c z.toNat x1)/\(aM x3 (b7 t c z x1)=aM x3 (b7 t c z x1)))))))))))))))/\(∀x15:Unit,((x3<c.length)->((ab (x3:Int) c.length)/\((ae (c.getD (x3:Int).toNat (0:Int)*(64:Int))) /\
 ((ab (en (aR t x1) z.toNat x3) c.length)/\((ae (jO t c z x3 x1))/\((ae ((jO t c z x3 x1)*(64:Int)))/\((ab (en (aR t x1) x3 z.toNat) c.length)/\((ae ((jO t c z x3 x1)*(64:Int)+c.getD ((en (aR t x1) x3 z.toNat).toNat) (0:Int)))/\((ae (((jO t c z x3 x1)*(64:Int)+c.getD ((en (aR t x1) x3 z.toNat).toNat) (0:Int))*(16:Int)))/\((ae (((jO t c z x3 x1)*(64:Int)+c.getD ((en (aR t x1) x3 z.toNat).toNat) (0:Int))*(16:Int)+gb (aR t x1) z.toNat x3))/\((ag ((aM x3 (b7 t c z x1)).length+[((jO t c z x3 x1)*(64:Int)+c.getD ((en (aR t x1) x3 z.toNat).toNat) (0:Int))*(16:Int)+gb (aR t x1) z.toNat x3].length))/\((ae ((x3:Int)+(1:Int)))/\(∃x16:Nat,(((x1<t.length)/\(x16<=c.length))/\((c.length-x16<c.length-x3)/\((t=t)/\((c=c)/\((z=z)/\(((c.length:Int)=(c.length:Int))/\(((x1:Int)=(x1:Int))/\(((x3:Int)+(1:Int)=(x16:Int))/\((aZ c.length t c z.toNat x1=aZ c.length t c z.toNat x1)/\(aM x3 (b7 t c z x1)++[((jO t c z x3 x1)*(64:Int)+c.getD ((en (aR t x1) x3 z.toNat).toNat) (0:Int))*(16:Int)+gb (aR t x1) z.toNat x3]=aM x16 (b7 t c z x1))))))))))))))))))))))))))))))))))))))))) ((((0:Int)<=(c.length:Int))/\(((c.length:Int)<=(c.length:Int))/\(ag ((c.length:Int).toNat))))/\((∃x17:Nat,(((x1<t.length) /\
 (x17<=c.length))/\((t=t)/\((c=c)/\((z=z)/\(((c.length:Int)=(c.length:Int))/\(((x1:Int)=(x1:Int))/\(((0:Int)=(x17:Int))/\((aZ c.length t c z.toNat x1=aZ c.length t c z.toNat x1)/\((aM x3 (b7 t c z x1)=aM c.length (b7 t c z x1))/\(List.replicate ((c.length:Int).toNat) (0:Int)=bN c.length (aR t x1) z.toNat x17 (0:Nat))))))))))))/\(∀x18:Nat,(((x1<t.length)/\(x18<=c.length))->(af (decide ((x18:Int)<(c.length:Int))) ((∃x19:Nat,(((x18<c.length)/\(x19<=c.length))/\((t=t)/\((c=c)/\((z=z)/\(((c.length:Int)=(c.length:Int))/\(((x1:Int)=(x1:Int))/\(((x18:Int)=(x18:Int))/\(((0:Int)=(x19:Int))/\((aZ c.length t c z.toNat x1=aZ c.length t c z.toNat x1)/\((aM c.length (b7 t c z x1)=aM c.length (b7 t c z x1))/\(bN c.length (aR t x1) z.toNat x18 (0:Nat)=bN c.length (aR t x1) z.toNat x18 x19))))))))))))/\(∀x20:Nat,(((x18<c.length)/\(x20<=c.length))->(af (decide ((x20:Int)<(c.length:Int))) ((ab (x1:Int) t.length)/\((ab (x18:Int) (g5 t x1).length)/\((ab (x20:Int) (((g5 t x1).getD (x18:Int).toNat []).length))/\(af ((List.getD (List.getD t (x1:Int).toNat ([]:List (List Int))) (x18:Int).toNat []).getD (x20:Int).toNat (0:Int) == z) ((ab (x18:Int) ((bN c.length (aR t x1) z.toNat x18 x20).length)) /\
 ((ae ((bN c.length (aR t x1) z.toNat x18 x20).getD (x18:Int).toNat (0:Int)+(1:Int)))/\((ab (x18:Int) ((bN c.length (aR t x1) z.toNat x18 x20).length))/\((ae ((x20:Int)+(1:Int)))/\(∃x21:Nat,(((x18<c.length)/\(x21<=c.length))/\((c.length-x21<c.length-x20)/\((t=t)/\((c=c)/\((z=z)/\(((c.length:Int)=(c.length:Int))/\(((x1:Int)=(x1:Int))/\(((x18:Int)=(x18:Int))/\(((x20:Int)+(1:Int)=(x21:Int))/\((aZ c.length t c z.toNat x1=aZ c.length t c z.toNat x1)/\((aM c.length (b7 t c z x1)=aM c.length (b7 t c z x1))/\(List.set (bN c.length (aR t x1) z.toNat x18 x20) (x18:Int).toNat ((bN c.length (aR t x1) z.toNat x18 x20).getD (x18:Int).toNat (0:Int)+(1:Int))=bN c.length (aR t x1) z.toNat x18 x21))))))))))))))))) ((ae ((x20:Int)+(1:Int)))/\(∃x22:Nat,(((x18<c.length)/\(x22<=c.length))/\((c.length-x22<c.length-x20)/\((t=t)/\((c=c)/\((z=z)/\(((c.length:Int)=(c.length:Int))/\(((x1:Int)=(x1:Int))/\(((x18:Int)=(x18:Int))/\(((x20:Int)+(1:Int)=(x22:Int))/\((aZ c.length t c z.toNat x1=aZ c.length t c z.toNat x1)/\((aM c.length (b7 t c z x1)=aM c.length (b7 t c z x1))/\(bN c.length (aR t x1) z.toNat x18 x20=bN c.length (aR t x1) z.toNat x18 x22)))))))))))))))))) ((ae ((x18:Int)+(1:Int)))/\(∃x23:Nat,(((x1<t.length)/\(x23<=c.length)) /\
 ((c.length-x23<c.length-x18)/\((t=t)/\((c=c)/\((z=z)/\(((c.length:Int)=(c.length:Int))/\(((x1:Int)=(x1:Int))/\(((x18:Int)+(1:Int)=(x23:Int))/\((aZ c.length t c z.toNat x1=aZ c.length t c z.toNat x1)/\((aM c.length (b7 t c z x1)=aM c.length (b7 t c z x1))/\(bN c.length (aR t x1) z.toNat x18 x20=bN c.length (aR t x1) z.toNat x23 (0:Nat)))))))))))))))))) ((∃x24:Nat,(((x1<t.length)/\(x24<=c.length))/\((t=t)/\((c=c)/\((z=z)/\(((c.length:Int)=(c.length:Int))/\(((x1:Int)=(x1:Int))/\(((0:Int)=(x24:Int))/\((aZ c.length t c z.toNat x1=aZ c.length t c z.toNat x1)/\((aM c.length (b7 t c z x1)=aM c.length (b7 t c z x1)++aM x24 fun(y:Nat)=>(1099511627776:Int)+c.getD y (0:Int)*(64:Int)+(↑(fe c.length (aR t x1) z.toNat y):Int))/\(bN c.length (aR t x1) z.toNat x18 (0:Nat)=bN c.length (aR t x1) z.toNat c.length (0:Nat))))))))))))/\(∀x25:Nat,(((x1<t.length)/\(x25<=c.length))->(af (decide ((x25:Int)<(c.length:Int))) ((ab (x25:Int) c.length)/\((ae (c.getD (x25:Int).toNat (0:Int)*(64:Int)))/\((ae ((1099511627776:Int)+c.getD (x25:Int).toNat (0:Int)*(64:Int)))/\((ab (x25:Int) ((bN c.length (aR t x1) z.toNat c.length (0:Nat)).length)) /\
 (ae ((1099511627776:Int)+c.getD (x25:Int).toNat (0:Int)*(64:Int)+(bN c.length (aR t x1) z.toNat c.length (0:Nat)).getD (x25:Int).toNat (0:Int))/\(ag ((aM c.length (b7 t c z x1)++aM x25 fun(y:Nat)=>(1099511627776:Int)+c.getD y (0:Int)*(64:Int)+(↑(fe c.length (aR t x1) z.toNat y):Int)).length+[(1099511627776:Int)+c.getD (x25:Int).toNat (0:Int)*(64:Int)+(bN c.length (aR t x1) z.toNat c.length (0:Nat)).getD (x25:Int).toNat (0:Int)].length)/\(ae ((x25:Int)+(1:Int))/\(∃x26:Nat,((x1<t.length/\x26<=c.length)/\(c.length-x26<c.length-x25/\(t=t/\(c=c/\(z=z/\((c.length:Int)=(c.length:Int)/\((x1:Int)=(x1:Int)/\((x25:Int)+(1:Int)=(x26:Int)/\(aZ c.length t c z.toNat x1=aZ c.length t c z.toNat x1/\(((aM c.length (b7 t c z x1)++aM x25 fun(y:Nat)=>(1099511627776:Int)+c.getD y (0:Int)*(64:Int)+(↑(fe c.length (aR t x1) z.toNat y):Int))++[(1099511627776:Int)+c.getD (x25:Int).toNat (0:Int)*(64:Int)+(bN c.length (aR t x1) z.toNat c.length (0:Nat)).getD (x25:Int).toNat (0:Int)]=aM c.length (b7 t c z x1)++aM x26 fun(y:Nat)=>(1099511627776:Int)+c.getD y (0:Int)*(64:Int)+(↑(fe c.length (aR t x1) z.toNat y):Int)) /\
 (bN c.length (aR t x1) z.toNat c.length (0:Nat)=bN c.length (aR t x1) z.toNat c.length (0:Nat)))))))))))))))))))) ((∃x27:Nat,(((x1<t.length)/\(((1:Nat)<=x27)/\(x27<=(2:Nat)*c.length)))/\((t=t)/\((c=c)/\((z=z)/\(((c.length:Int)=(c.length:Int))/\(((x1:Int)=(x1:Int))/\(((1:Int)=(x27:Int))/\((aZ c.length t c z.toNat x1=aZ c.length t c z.toNat x1)/\((aM c.length (b7 t c z x1)++aM x25 fun(y:Nat)=>(1099511627776:Int)+c.getD y (0:Int)*(64:Int)+(↑(fe c.length (aR t x1) z.toNat y):Int))=bR (bV t c z x1) x27++List.drop x27 (bV t c z x1)))))))))))/\(∀x28:Nat,(((x1<t.length)/\(((1:Nat)<=x28)/\(x28<=(2:Nat)*c.length)))->(af (decide ((x28:Int)<(↑((bR (c7 c.length (t.getD x1 ([]:List (List Int))) c z.toNat) x28++List.drop x28 (c7 c.length (t.getD x1 ([]:List (List Int))) c z.toNat)).length):Int))) ((∃x29:Nat,(((x28<(2:Nat)*c.length)/\((x29<=x28)/\(cD (bR (bV t c z x1) x28) ((bV t c z x1).getD x28 (0:Int)) x28=cD (bR (bV t c z x1) x28) ((bV t c z x1).getD x28 (0:Int)) x29)))/\((t=t)/\((c=c)/\((z=z)/\(((c.length:Int)=(c.length:Int))/\(((x1:Int)=(x1:Int))/\(((x28:Int)=(x28:Int))/\(((x28:Int)=(x29:Int))/\((aZ c.length t c z.toNat x1=aZ c.length t c z.toNat x1) /\
 (bR (bV t c z x1) x28++List.drop x28 (bV t c z x1)=dL (bR (bV t c z x1) x28) ((bV t c z x1).getD x28 (0:Int)) x29++List.drop (x28+(1:Nat)) (bV t c z x1))))))))))))/\(∀x30:Nat,(((x28<(2:Nat)*c.length)/\((x30<=x28)/\(cD (bR (bV t c z x1) x28) ((bV t c z x1).getD x28 (0:Int)) x28=cD (bR (bV t c z x1) x28) ((bV t c z x1).getD x28 (0:Int)) x30)))->(af (decide ((0:Int)<(x30:Int))) ((ab (x30:Int) (g4 t c z x1 x28 x30).length)/\((ae ((x30:Int)-(1:Int)))/\((ab ((x30:Int)-(1:Int)) (g4 t c z x1 x28 x30).length)/\(af (decide ((dL (bR (c7 c.length (List.getD t x1 ([]:List (List Int))) c z.toNat) x28) (List.getD (c7 c.length (List.getD t x1 ([]:List (List Int))) c z.toNat) x28 (0:Int)) x30++List.drop (x28+(1:Nat)) (c7 c.length (List.getD t x1 ([]:List (List Int))) c z.toNat)).getD (x30:Int).toNat (0:Int)<(dL (bR (c7 c.length (List.getD t x1 ([]:List (List Int))) c z.toNat) x28) (List.getD (c7 c.length (List.getD t x1 ([]:List (List Int))) c z.toNat) x28 (0:Int)) x30++List.drop (x28+(1:Nat)) (c7 c.length (List.getD t x1 ([]:List (List Int))) c z.toNat)).getD (((x30:Int)-(1:Int)).toNat) (0:Int))) ((ab (x30:Int) (g4 t c z x1 x28 x30).length)/\((ae ((x30:Int)-(1:Int)))/\((ab ((x30:Int)-(1:Int)) (g4 t c z x1 x28 x30).length) /\
 ((ab (x30:Int) (g4 t c z x1 x28 x30).length)/\((ae ((x30:Int)-(1:Int)))/\((ab ((x30:Int)-(1:Int)) ((List.set (g4 t c z x1 x28 x30) (x30:Int).toNat ((g4 t c z x1 x28 x30).getD (((x30:Int)-(1:Int)).toNat) (0:Int))).length))/\((ae ((x30:Int)-(1:Int)))/\(∃x31:Nat,(((x28<(2:Nat)*c.length)/\((x31<=x28)/\(cD (bR (bV t c z x1) x28) ((bV t c z x1).getD x28 (0:Int)) x28=cD (bR (bV t c z x1) x28) ((bV t c z x1).getD x28 (0:Int)) x31)))/\((x31<x30)/\((t=t)/\((c=c)/\((z=z)/\(((c.length:Int)=(c.length:Int))/\(((x1:Int)=(x1:Int))/\(((x28:Int)=(x28:Int))/\(((x30:Int)-(1:Int)=(x31:Int))/\((aZ c.length t c z.toNat x1=aZ c.length t c z.toNat x1)/\(List.set (List.set (g4 t c z x1 x28 x30) (x30:Int).toNat ((g4 t c z x1 x28 x30).getD (((x30:Int)-(1:Int)).toNat) (0:Int))) (((x30:Int)-(1:Int)).toNat) ((g4 t c z x1 x28 x30).getD (x30:Int).toNat (0:Int))=dL (bR (bV t c z x1) x28) ((bV t c z x1).getD x28 (0:Int)) x31++List.drop (x28+(1:Nat)) (bV t c z x1)))))))))))))))))))) ((ae ((x28:Int)+(1:Int)))/\(∃x32:Nat,(((x1<t.length)/\(((1:Nat)<=x32)/\(x32<=(2:Nat)*c.length)))/\(((2:Nat)*c.length-x32<(2:Nat)*c.length-x28)/\((t=t)/\((c=c)/\((z=z)/\(((c.length:Int)=(c.length:Int))/\(((x1:Int)=(x1:Int))/\(((x28:Int)+(1:Int)=(x32:Int)) /\
 ((aZ c.length t c z.toNat x1=aZ c.length t c z.toNat x1)/\(dL (bR (bV t c z x1) x28) ((bV t c z x1).getD x28 (0:Int)) x30++List.drop (x28+(1:Nat)) (bV t c z x1)=bR (bV t c z x1) x32++List.drop x32 (bV t c z x1))))))))))))))))) ((ae ((x28:Int)+(1:Int)))/\(∃x33:Nat,(((x1<t.length)/\(((1:Nat)<=x33)/\(x33<=(2:Nat)*c.length)))/\(((2:Nat)*c.length-x33<(2:Nat)*c.length-x28)/\((t=t)/\((c=c)/\((z=z)/\(((c.length:Int)=(c.length:Int))/\(((x1:Int)=(x1:Int))/\(((x28:Int)+(1:Int)=(x33:Int))/\((aZ c.length t c z.toNat x1=aZ c.length t c z.toNat x1)/\(dL (bR (bV t c z x1) x28) ((bV t c z x1).getD x28 (0:Int)) x30++List.drop (x28+(1:Nat)) (bV t c z x1)=bR (bV t c z x1) x33++List.drop x33 (bV t c z x1))))))))))))))))) ((ag ((aZ c.length t c z.toNat x1).length+(bR (bV t c z x1) x28++List.drop x28 (bV t c z x1)).length))/\((ae ((x1:Int)+(1:Int)))/\(∃x34:Nat,((x34<=t.length)/\((t.length-x34<t.length-x1)/\((t=t)/\((c=c)/\((z=z)/\(((c.length:Int)=(c.length:Int))/\(((x1:Int)+(1:Int)=(x34:Int))/\(aZ c.length t c z.toNat x1++(bR (bV t c z x1) x28++List.drop x28 (bV t c z x1))=aZ c.length t c z.toNat x34)))))))))))))))))))))))))))) ((aZ c.length t c z.toNat x1=bS c.length t c z.toNat)/\True))))))
theorem OH(t:List (List (List Int)))(c:List Int)(z:Int):aP Tryz.prog (ai FT) aj (FR t c z) Tryz.f223 (aF Tryz.f223) [] [.c (.r3 .i64 t),.c (.ints .i64 c),.c (.int .i64 z)] (rT t c z)=yh t c z:=by kernel_rfl
theorem OI(t:List (List (List Int)))(c:List Int)(z:Int)(Yh:(rT t c z).pre):yh t c z:=by
 simp only[rT,yh,bV,aR,g4,jO,b7,g5,aK,u1,u2,u3,u4,u5,u6,u7,u8,u9,v1,v2,v3,v4,v5,v6,v7,v8,v9,w1,w2,w3,w4,aC,ab,ae,ag,av]at Yh⊢;obtain⟨h1,h2,h3,h4,h5,h6,h7⟩:=Yh;simp only[fL,FQ,yf,ye,rZ];refine⟨by omega,⟨0,by omega,rfl,rfl⟩,fun k hk=>⟨fun hk2=>?_,fun hk2=>?_⟩⟩
 ·have A:=h4 k (by omega)
  have hz:((z.toNat:Nat):Int)=z:=by omega
  have hkn:k*(2*c.length)<=1000*24:=Nat.mul_le_mul (by omega) (by omega)
  have L1:(t.getD k []).length=c.length:=A.1
  have L2:=(A.2 z.toNat (by omega)).1
  have MS:∀S:List (List Int),S=t.getD k []->aZ c.length t c z.toNat k++jP (c7 c.length S c z.toNat)=aZ c.length t c z.toNat (k+1):=fun S e=>by rw[e];rfl
  generalize t.getD k []=T at *
  refine⟨⟨0,⟨by omega,by omega⟩,rfl,rfl⟩,fun j ⟨_,hj⟩=>⟨fun hj2=>?_,fun hj2=>?_⟩⟩
  ·have E1:=(A.2 z.toNat (by omega)).2 j (by omega)
   have E2:=(A.2 j (by omega)).2 z.toNat (by omega)
   have L3:=(A.2 j (by omega)).1
   obtain⟨O1,O2,O3,O4⟩:=Ow T z.toNat j;refine⟨by omega,by omega,by omega,by omega,by omega,by omega,⟨fun q=>⟨⟨⟩,by omega,rfl,rfl,(if_pos q).symm⟩,fun q=>⟨⟨⟩,by omega,rfl,rfl,(if_neg q).symm⟩⟩,fun _ _=>⟨⟨fun q=>⟨by omega,⟨⟩,by omega,?_⟩,fun q=>⟨⟨⟩,by omega,?_⟩⟩,fun _ _=>⟨⟨fun q=>⟨by omega,⟨⟩,by omega,?_⟩,fun q=>⟨⟨⟩,by omega,?_⟩⟩,fun _ _=>⟨⟨fun q=>⟨by omega,⟨⟩,by omega,?_⟩,fun q=>⟨⟨⟩,by omega,?_⟩⟩,fun _ _=>?_⟩⟩⟩⟩
   ·rw[gF,if_pos q]
   ·rw[gF,if_neg q];omega
   ·rw[gG,hz,if_pos q]
   ·rw[gG,hz,if_neg q];omega
   ·rw[yb,hz,if_pos q]
   ·rw[yb,hz,if_neg q];omega
   ·have c1:=h5 j (by omega)
    have c2:=h5 (en T z.toNat j).toNat (by omega)
    have c3:=h5 (en T j z.toNat).toNat (by omega)
    refine⟨by omega,by omega,by omega,by omega,by omega,by omega,by omega,by omega,by omega,by omega,by omega,j+1,⟨by omega,by omega⟩,by omega,by omega,?_⟩
    rw[tab_succ'];rfl
  ·have ej:j=c.length:=by omega
   subst ej;refine⟨⟨by omega,by omega,by omega⟩,⟨0,⟨by omega,by omega⟩,rfl,rfl,OB _ _ _⟩,fun j ⟨_,hj⟩=>⟨fun hj2=>⟨⟨0,⟨by omega,by omega⟩,rfl,rfl⟩,fun i ⟨_,hi⟩=>⟨fun hi2=>?_,fun hi2=>?_⟩⟩,fun hj2=>?_⟩⟩
   ·have L3:=(A.2 j (by omega)).1
    have cl:=yc T z.toNat j i
    rw[OC _ _ _ (by omega)]
    refine⟨by omega,by omega,by omega,fun q=>⟨by omega,by omega,by omega,by omega,i+1,⟨by omega,by omega⟩,by omega,by omega,?_⟩,fun q=>⟨by omega,i+1,⟨by omega,by omega⟩,by omega,by omega,?_⟩⟩
    ·exact OD (by rw[hz];exact q)
    ·exact OE (by rw[hz];exact q)
   ·rw[show i=c.length by omega]
    exact⟨by omega,j+1,⟨by omega,by omega⟩,by omega,by omega,OF _ _ _ _⟩
   ·rw[show j=c.length by omega]
    refine⟨⟨0,⟨by omega,by omega⟩,rfl,by simp[aM]⟩,fun j ⟨_,hj⟩=>⟨fun hj2=>?_,fun hj2=>?_⟩⟩
    ·have c1:=h5 j (by omega)
     have cl:fe c.length T z.toNat j<=c.length:=yc _ _ _ _
     rw[OG _ _ (by omega)]
     refine⟨by omega,by omega,by omega,by omega,by omega,by omega,by omega,j+1,⟨by omega,by omega⟩,by omega,by omega,?_⟩
     rw[tab_succ',List.append_assoc]
    ·have ej:j=c.length:=by omega
     subst ej;have SL:=ye c.length T c z.toNat
     have S0:aM c.length (fA T c z.toNat)++(aM c.length fun y=>1099511627776+c.getD y 0*64+(fe c.length T z.toNat y:Int))=c7 c.length T c z.toNat:=rfl
     rw[S0];have MS:=MS T rfl
     generalize c7 c.length T c z.toNat=S at *
     have I1:bR S 1=S.take 1:=by
      rw[<-da S 0 0 (by omega)];rfl
     refine⟨⟨1,⟨by omega,by omega,by omega⟩,rfl,by rw[I1,List.take_append_drop]⟩,fun i ⟨_,hi1,hi⟩=>⟨fun hi2=>?_,fun hi2=>?_⟩⟩
     ·have PL:=rZ S i
      have B0:bR S i++S.drop i=dL (bR S i) (S.getD i 0) i++S.drop (i+1):=by
       rw[dL,List.take_of_length_le (by omega),List.drop_of_length_le (l:=bR S i) (by omega),drop_cons' S 0 i (by omega),List.append_assoc];rfl
      have BN:∀j,cD (bR S i) (S.getD i 0) i=j->dL (bR S i) (S.getD i 0) j++S.drop (i+1)=bR S (i+1)++S.drop (i+1):=fun j e=>by
       rw[bR,kQ,PL,e];rfl
      generalize bR S i=p at *
      generalize S.getD i 0=x at *
      refine⟨⟨i,⟨by omega,by omega,rfl⟩,rfl,B0⟩,fun j ⟨_,hj,ib⟩=>?_⟩
      have BL:=Ox p x (j:=j) (by omega)
      rw[BL];refine⟨fun j0=>?_,fun j0=>?_⟩
      ·obtain⟨j,rfl⟩:∃m,j=m+1:=⟨j-1,by omega⟩
       have g1:(dL p x (j+1)++S.drop (i+1)).getD (j+1) 0=x:=by rw[getD_append_left' _ _ _ _ (by omega),Oy _ _ (by omega)]
       have g0:(dL p x (j+1)++S.drop (i+1)).getD j 0=p.getD j 0:=by rw[getD_append_left' _ _ _ _ (by omega),Oz _ _ (by omega)]
       have ez:(((j+1:Nat):Int)-1).toNat=j:=by omega
       rw[cD]at ib;rw[ez,g1,g0];refine⟨by omega,by omega,by omega,fun q=>⟨by omega,by omega,by omega,by omega,by omega,by omega,by omega,j,⟨by omega,by omega,by rw[ib,if_pos q]⟩,by omega,by omega,?_⟩,fun q=>⟨by omega,i+1,⟨by omega,by omega,by omega⟩,by omega,by omega,BN (j+1) (by rw[ib,if_neg q])⟩⟩
       rw[List.set_append_left _ _ (by omega),List.set_append_left _ _ (by rw[List.length_set];omega),OA _ _ (by omega)]
      ·have ej:j=0:=by omega
       subst ej;exact⟨by omega,i+1,⟨by omega,by omega,by omega⟩,by omega,by omega,BN 0 ib⟩
     ·have ei:i=S.length:=by omega
      rw[ei,List.drop_length,List.append_nil];exact⟨by omega,by omega,k+1,by omega,by omega,by omega,MS⟩
 ·rw[bS,show k=t.length by omega]
theorem OJ:Fits Tryz.prog 223 ⟨[],yg⟩:=by
 refine aW (Γ:=ai FT) aJ Tryz.func223 fun ds p h hp=>?_
 unfold yg at h;split at h
 ·cases h
  exact⟨aj,FR _ _ _ ,by rw[OH];exact OI _ _ _  hp⟩
 ·cases h
end Go.Sx
