/- MapB -/
import Derived.Test.YtkmldclpaniclaaGreatMapA
open Go Go.Proofs
namespace Go.Sx
set_option linter.unusedSimpArgs false
set_option linter.unusedVariables false
def iO(t:List (List Int))(x y:Nat):Int:=if en t x y=(y:Int)then 1 else 0
def gC(t:List (List Int))(x y:Nat):Int:=iO t x y+if en t y x=(y:Int)then 2 else 0
def gD(t:List (List Int))(x y:Nat):Int:=gC t x y+if en t x y=(x:Int)then 4 else 0
theorem wP(t:List (List Int))(x y:Nat):f8 t x y=gD t x y+if en t y x=(x:Int)then 8 else 0:=rfl
theorem MH(t:List (List Int))(x y:Nat):(0<=iO t x y/\iO t x y<=1)/\(0<=gC t x y/\gC t x y<=3)/\(0<=gD t x y/\gD t x y<=7)/\0<=f8 t x y/\f8 t x y<=15:=by
 rw[wP];unfold gD gC iO;split<;>split<;>split<;>split<;>omega
theorem wQ(t:List (List Int))(x y:Nat):∀n,f9 t x y n<=n
 |0=>Nat.le_refl _
 |n+1=>by rw[f9];have:=wQ t x y n;split<;>omega
def bV(n:Nat)(t:List (List Int))(x j i:Nat):List Int:=ar n fun q=>if q<j then(ff n t x q:Int)else if q=j then(f9 t x j i:Int)else 0
def dM(p:List Int)(x:Int)(j:Nat):List Int:=p.take j++x::p.drop j
theorem MJ(p:List Int)(x:Int){j:Nat}(h:j<=p.length):(dM p x j).length=p.length+1:=by simp[dM];omega
theorem MK(p:List Int)(x:Int){j:Nat}(h:j<=p.length):(dM p x j).getD j 0=x:=yQ _ _ _ _ _ (by rw[List.length_take];omega)
theorem MM(p:List Int)(x:Int){j:Nat}(h:j+1<=p.length):(dM p x (j+1)).getD j 0=p.getD j 0:=by
 rw[dM,getD_append_left' _ _ _ _ (by rw[List.length_take];omega),nM _ _ _ _ (by omega)]
theorem MN(p:List Int)(x:Int){j:Nat}(h:j+1<=p.length):((dM p x (j+1)).set (j+1) (p.getD j 0)).set j x=dM p x j:=by
 rw[dM,dM,sb _ _ _ _ _ (by rw[List.length_take];omega),<-du p 0 j (by omega),List.append_assoc,List.singleton_append,sb _ _ _ _ _ (by rw[List.length_take];omega),drop_cons' p 0 j (by omega)]
theorem tab_succ'(n:Nat)(f:Nat->Int):ar (n+1) f=ar n f++[f n]:=by simp[ar,List.range_succ]
theorem E7(n:Nat)(t:List (List Int))(x j i:Nat):(bV n t x j i).length=n:=eA _ _
theorem MP(n:Nat)(t:List (List Int))(x:Nat):List.replicate n 0=bV n t x 0 0:=by
 refine jc (by rw[E7];simp) fun q hq=>?_
 have hq:q<n:=by simpa using hq
 rw[bV,eJ _ _ _ hq,if_neg (by omega)]
 simp[List.getD_eq_getElem?_getD,hq,f9]
theorem MQ{n:Nat}(t:List (List Int))(x:Nat){j:Nat}(i:Nat)(h:j<n):(bV n t x j i).getD j 0=(f9 t x j i:Int):=by
 rw[bV,eJ _ _ _ h,if_neg (by omega),if_pos rfl]
theorem MT{n:Nat}{t:List (List Int)}{x j i:Nat}(h:en t j i=(x:Int)):(bV n t x j i).set j ((f9 t x j i:Int)+1)=bV n t x j (i+1):=by
 rw[bV,bV,Te];refine mf fun q hq=>?_
 by_cases e:q=j
 ·rw[if_pos e,if_neg (by omega),if_pos e,f9,if_pos h];rfl
 ·rw[if_neg e,if_neg e,if_neg e]
theorem MU{n:Nat}{t:List (List Int)}{x j i:Nat}(h:¬ en t j i=(x:Int)):bV n t x j i=bV n t x j (i+1):=by
 rw[bV,bV];refine mf fun q hq=>?_
 rw[f9,if_neg h]
theorem MV(n:Nat)(t:List (List Int))(x j:Nat):bV n t x j n=bV n t x (j+1) 0:=by
 rw[bV,bV];refine mf fun q hq=>?_
 by_cases e:q=j
 ·rw[if_neg (by omega),if_pos e,if_pos (by omega),ff,e]
 ·by_cases e2:q<j
  ·rw[if_pos e2,if_pos (by omega)]
  ·rw[if_neg e2,if_neg e,if_neg (by omega)]
   split
   ·rfl
   ·rfl
theorem MY{n:Nat}(t:List (List Int))(x:Nat){q:Nat}(h:q<n):(bV n t x n 0).getD q 0=(ff n t x q:Int):=by
 rw[bV,eJ _ _ _ h,if_pos h]
theorem wR(n:Nat)(t:List (List Int))(c:List Int)(x:Nat):(c9 n t c x).length=2*n:=by rw[c9,List.length_append,eA,eA];omega
theorem wS(n:Nat)(a:List (List (List Int)))(c:List Int)(x:Nat):∀k,(aZ n a c x k).length=1+k*(2*n)
 |0=>by simp[aZ]
 |k+1=>by rw[aZ,List.length_append,wS n a c x k,jR,rr,wR,Nat.add_mul,Nat.one_mul,Nat.add_assoc]
def qY(t:List (List (List Int)))(c:List Int)(z:Int):Post:=⟨t.length<=1000/\1<=c.length/\c.length<=12/\bA c.length t/\(∀i,i<c.length->0<=c.getD i 0/\c.getD i 0<=60)/\0<=z/\z<(c.length:Int),.c (.ints 2 .i64 (b5 c.length t c z.toNat)),[]⟩
def wT:List AD->Option Post
 | [.c (.r3 .i64 t),.c (.ints .i64 c),.c (.int .i64 z)]=>some (qY t c z)
 |_=>none
def E8(t:List (List (List Int)))(c:List Int)(z:Int):Nat->Option Ann
 |0=>some (Ann.mk ((Nat)) (fun k=>⟨[(0,.c (.ro (.r3 .i64 t))),(1,.c (.ro (.ints .i64 c))),(2,.c (.int .i64 z)),(7,.c (.int .i64 ((c.length:Int)))),(8,.c (.own 8)),(9,.c (.int .i64 ((k:Int))))],[(8,some (.ints 2 .i64 (aZ c.length t c z.toNat k)))]⟩) (fun k=>k<=t.length) (fun k=>t.length-k) (fun k=>fun b_=>match b_ with|2=>some (Ann.mk ((Nat)) (fun j=>⟨[(0,.c (.ro (.r3 .i64 t))),(1,.c (.ro (.ints .i64 c))),(2,.c (.int .i64 z)),(7,.c (.int .i64 ((c.length:Int)))),(8,.c (.own 8)),(9,.c (.int .i64 ((k:Int)))),(10,.c (.own 10)),(11,.c (.int .i64 ((j:Int))))],[(8,some (.ints 2 .i64 (aZ c.length t c z.toNat k))),(10,some (.ints 2 .i64 (ar j (fA (t.getD k []) c z.toNat))))]⟩) (fun j=>k<t.length/\j<=c.length) (fun j=>c.length-j) (fun j=>fun b_=>match b_ with|1013=>some (Ann.mk ((Unit)) (fun u=>⟨[(0,.c (.ro (.r3 .i64 t))),(1,.c (.ro (.ints .i64 c))),(2,.c (.int .i64 z)),(7,.c (.int .i64 ((c.length:Int)))),(8,.c (.own 8)),(9,.c (.int .i64 ((k:Int)))),(10,.c (.own 10)),(11,.c (.int .i64 ((j:Int)))),(12,.c (.int .i64 (en (t.getD k []) z.toNat j))),(13,.c (.int .i64 (en (t.getD k []) j z.toNat))),(14,.c (.int .i64 (iO (t.getD k []) z.toNat j)))],[(8,some (.ints 2 .i64 (aZ c.length t c z.toNat k))),(10,some (.ints 2 .i64 (ar j (fA (t.getD k []) c z.toNat))))]⟩) (fun u=>j<c.length) (fun u=>0) (fun _=>av))|1015=>some (Ann.mk ((Unit)) (fun u=>⟨[(0,.c (.ro (.r3 .i64 t))),(1,.c (.ro (.ints .i64 c))),(2,.c (.int .i64 z)),(7,.c (.int .i64 ((c.length:Int)))),(8,.c (.own 8)),(9,.c (.int .i64 ((k:Int)))),(10,.c (.own 10)),(11,.c (.int .i64 ((j:Int)))),(12,.c (.int .i64 (en (t.getD k []) z.toNat j))),(13,.c (.int .i64 (en (t.getD k []) j z.toNat))),(14,.c (.int .i64 (gC (t.getD k []) z.toNat j)))],[(8,some (.ints 2 .i64 (aZ c.length t c z.toNat k))),(10,some (.ints 2 .i64 (ar j (fA (t.getD k []) c z.toNat))))]⟩) (fun u=>j<c.length) (fun u=>0) (fun _=>av))|1017=>some (Ann.mk ((Unit)) (fun u=>⟨[(0,.c (.ro (.r3 .i64 t))),(1,.c (.ro (.ints .i64 c))),(2,.c (.int .i64 z)),(7,.c (.int .i64 ((c.length:Int)))),(8,.c (.own 8)),(9,.c (.int .i64 ((k:Int)))),(10,.c (.own 10)),(11,.c (.int .i64 ((j:Int)))),(12,.c (.int .i64 (en (t.getD k []) z.toNat j))),(13,.c (.int .i64 (en (t.getD k []) j z.toNat))),(14,.c (.int .i64 (gD (t.getD k []) z.toNat j)))],[(8,some (.ints 2 .i64 (aZ c.length t c z.toNat k))),(10,some (.ints 2 .i64 (ar j (fA (t.getD k []) c z.toNat))))]⟩) (fun u=>j<c.length) (fun u=>0) (fun _=>av))|1019=>some (Ann.mk ((Unit)) (fun u=>⟨[(0,.c (.ro (.r3 .i64 t))),(1,.c (.ro (.ints .i64 c))),(2,.c (.int .i64 z)),(7,.c (.int .i64 ((c.length:Int)))),(8,.c (.own 8)),(9,.c (.int .i64 ((k:Int)))),(10,.c (.own 10)),(11,.c (.int .i64 ((j:Int)))),(12,.c (.int .i64 (en (t.getD k []) z.toNat j))),(13,.c (.int .i64 (en (t.getD k []) j z.toNat))),(14,.c (.int .i64 (f8 (t.getD k []) z.toNat j)))],[(8,some (.ints 2 .i64 (aZ c.length t c z.toNat k))),(10,some (.ints 2 .i64 (ar j (fA (t.getD k []) c z.toNat))))]⟩) (fun u=>j<c.length) (fun u=>0) (fun _=>av))|_=>none))|4=>some (Ann.mk ((Nat)) (fun j=>⟨[(0,.c (.ro (.r3 .i64 t))),(1,.c (.ro (.ints .i64 c))),(2,.c (.int .i64 z)),(7,.c (.int .i64 ((c.length:Int)))),(8,.c (.own 8)),(9,.c (.int .i64 ((k:Int)))),(10,.c (.own 10)),(15,.c (.own 15)),(16,.c (.int .i64 ((j:Int))))],[(8,some (.ints 2 .i64 (aZ c.length t c z.toNat k))),(10,some (.ints 2 .i64 (ar c.length (fA (t.getD k []) c z.toNat)))),(15,some (.ints 2 .i64 (bV c.length (t.getD k []) z.toNat j 0)))]⟩) (fun j=>k<t.length/\j<=c.length) (fun j=>c.length-j) (fun j=>fun b_=>match b_ with|6=>some (Ann.mk ((Nat)) (fun i=>⟨[(0,.c (.ro (.r3 .i64 t))),(1,.c (.ro (.ints .i64 c))),(2,.c (.int .i64 z)),(7,.c (.int .i64 ((c.length:Int)))),(8,.c (.own 8)),(9,.c (.int .i64 ((k:Int)))),(10,.c (.own 10)),(15,.c (.own 15)),(16,.c (.int .i64 ((j:Int)))),(17,.c (.int .i64 ((i:Int))))],[(8,some (.ints 2 .i64 (aZ c.length t c z.toNat k))),(10,some (.ints 2 .i64 (ar c.length (fA (t.getD k []) c z.toNat)))),(15,some (.ints 2 .i64 (bV c.length (t.getD k []) z.toNat j i)))]⟩) (fun i=>j<c.length/\i<=c.length) (fun i=>c.length-i) (fun _=>av))|_=>none))|8=>some (Ann.mk ((Nat)) (fun j=>⟨[(0,.c (.ro (.r3 .i64 t))),(1,.c (.ro (.ints .i64 c))),(2,.c (.int .i64 z)),(7,.c (.int .i64 ((c.length:Int)))),(8,.c (.own 8)),(9,.c (.int .i64 ((k:Int)))),(10,.c (.own 10)),(15,.c (.own 15)),(18,.c (.int .i64 ((j:Int))))],[(8,some (.ints 2 .i64 (aZ c.length t c z.toNat k))),(10,some (.ints 2 .i64 (ar c.length (fA (t.getD k []) c z.toNat)++ar j (fun y=>1099511627776+c.getD y 0*64+(ff c.length (t.getD k []) z.toNat y:Int))))),(15,some (.ints 2 .i64 (bV c.length (t.getD k []) z.toNat c.length 0)))]⟩) (fun j=>k<t.length/\j<=c.length) (fun j=>c.length-j) (fun _=>av))|10=>some (Ann.mk ((Nat)) (fun i=>⟨[(0,.c (.ro (.r3 .i64 t))),(1,.c (.ro (.ints .i64 c))),(2,.c (.int .i64 z)),(7,.c (.int .i64 ((c.length:Int)))),(8,.c (.own 8)),(9,.c (.int .i64 ((k:Int)))),(10,.c (.own 10)),(19,.c (.int .i64 ((i:Int))))],[(8,some (.ints 2 .i64 (aZ c.length t c z.toNat k))),(10,some (.ints 2 .i64 (bZ (c9 c.length (t.getD k []) c z.toNat) i++(c9 c.length (t.getD k []) c z.toNat).drop i)))]⟩) (fun i=>k<t.length/\1<=i/\i<=2*c.length) (fun i=>2*c.length-i) (fun i=>fun b_=>match b_ with|12=>some (Ann.mk ((Nat)) (fun j=>⟨[(0,.c (.ro (.r3 .i64 t))),(1,.c (.ro (.ints .i64 c))),(2,.c (.int .i64 z)),(7,.c (.int .i64 ((c.length:Int)))),(8,.c (.own 8)),(9,.c (.int .i64 ((k:Int)))),(10,.c (.own 10)),(19,.c (.int .i64 ((i:Int)))),(20,.c (.int .i64 ((j:Int))))],[(8,some (.ints 2 .i64 (aZ c.length t c z.toNat k))),(10,some (.ints 2 .i64 (dM (bZ (c9 c.length (t.getD k []) c z.toNat) i) ((c9 c.length (t.getD k []) c z.toNat).getD i 0) j++(c9 c.length (t.getD k []) c z.toNat).drop (i+1))))]⟩) (fun j=>i<2*c.length/\j<=i/\cG (bZ (c9 c.length (t.getD k []) c z.toNat) i) ((c9 c.length (t.getD k []) c z.toNat).getD i 0) i=cG (bZ (c9 c.length (t.getD k []) c z.toNat) i) ((c9 c.length (t.getD k []) c z.toNat).getD i 0) j) (fun j=>j) (fun _=>av))|_=>none))|_=>none))
 |_=>none
def E9:List (Nat×Ctr):=[]
def b7(t:List (List (List Int)))(c:List Int)(z:Int)(x0:Nat):=(c9 c.length (t.getD x0 ([]:List (List Int))) c z.toNat)
def aQ(t:List (List (List Int)))(x0:Nat):=(t.getD x0 ([]:List (List Int)))
def g4(t:List (List (List Int)))(c:List Int)(z:Int)(x0:Nat)(x1:Nat)(x2:Nat):=(dM (bZ (b7 t c z x0) x1) ((b7 t c z x0).getD x1 (0:Int)) x2++List.drop (x1+(1:Nat)) (b7 t c z x0))
def jQ(t:List (List (List Int)))(c:List Int)(z:Int)(x0:Nat)(x1:Nat):=(c.getD (↑x0:Int).toNat (0:Int)*(64:Int)+c.getD ((en (aQ t x1) z.toNat x0).toNat) (0:Int))
def cd(t:List (List (List Int)))(c:List Int)(z:Int)(x0:Nat):=(fA (aQ t x0) c z.toNat)
def g5(t:List (List (List Int)))(x0:Nat):=(t.getD (↑x0:Int).toNat ([]:List (List Int)))
def wU(t:List (List (List Int)))(c:List Int)(z:Int):Prop :=
 (ab z c.length/\((∃x0:Nat,x0<=t.length/\t=t/\c=c/\z=z/\(c.length:Int)=(c.length:Int)/\(0:Int)=(x0:Int)/\[c.getD z.toNat (0:Int)]=aZ c.length t c z.toNat x0)/\(∀x1:Nat,(x1<=t.length->(ae (decide ((x1:Int)<(t.length:Int))) ((∃x2:Nat,(x1<t.length/\x2<=c.length)/\t=t/\c=c/\z=z/\(c.length:Int)=(c.length:Int)/\(x1:Int)=(x1:Int)/\(0:Int)=(x2:Int)/\aZ c.length t c z.toNat x1=aZ c.length t c z.toNat x1/\[]=ar x2 (cd t c z x1))/\(∀x3:Nat,(x1<t.length/\x3<=c.length->(ae (decide ((x3:Int)<(c.length:Int))) (ab (x1:Int) t.length/\(ab z (g5 t x1).length/\(ab (x3:Int) (((g5 t x1).getD z.toNat []).length)/\(ab (x1:Int) t.length/\(ab (x3:Int) (g5 t x1).length/\(ab z (((g5 t x1).getD (x3:Int).toNat []).length)/\((ae ((List.getD (List.getD t (x1:Int).toNat ([]:List (List Int))) z.toNat []).getD (x3:Int).toNat (0:Int) == (x3:Int)) (∃x4:Unit,(x3<c.length/\(t=t/\(c=c/\(z=z/\((c.length:Int)=(c.length:Int)/\((x1:Int)=(x1:Int)/\((x3:Int)=(x3:Int)/\((List.getD (g5 t x1) z.toNat []).getD (x3:Int).toNat (0:Int)=en (aQ t x1) z.toNat x3/\((List.getD (g5 t x1) (x3:Int).toNat []).getD z.toNat (0:Int)=en (aQ t x1) x3 z.toNat/\(((1:Int)=iO (aQ t x1) z.toNat x3) /\
 ((aZ c.length t c z.toNat x1=aZ c.length t c z.toNat x1)/\(ar x3 (cd t c z x1)=ar x3 (cd t c z x1)))))))))))))) (∃x5:Unit,((x3<c.length)/\((t=t)/\((c=c)/\((z=z)/\(((c.length:Int)=(c.length:Int))/\(((x1:Int)=(x1:Int))/\(((x3:Int)=(x3:Int))/\(((List.getD (g5 t x1) z.toNat []).getD (x3:Int).toNat (0:Int)=en (aQ t x1) z.toNat x3)/\(((List.getD (g5 t x1) (x3:Int).toNat []).getD z.toNat (0:Int)=en (aQ t x1) x3 z.toNat)/\(((0:Int)=iO (aQ t x1) z.toNat x3)/\((aZ c.length t c z.toNat x1=aZ c.length t c z.toNat x1)/\(ar x3 (cd t c z x1)=ar x3 (cd t c z x1)))))))))))))))/\(∀x6:Unit,((x3<c.length)->((ae (en (t.getD x1 ([]:List (List Int))) x3 z.toNat == (x3:Int)) ((ac (iO (aQ t x1) z.toNat x3+(2:Int)))/\(∃x7:Unit,((x3<c.length)/\((t=t)/\((c=c)/\((z=z)/\(((c.length:Int)=(c.length:Int))/\(((x1:Int)=(x1:Int))/\(((x3:Int)=(x3:Int))/\((en (aQ t x1) z.toNat x3=en (aQ t x1) z.toNat x3)/\((en (aQ t x1) x3 z.toNat=en (aQ t x1) x3 z.toNat)/\((iO (aQ t x1) z.toNat x3+(2:Int)=gC (aQ t x1) z.toNat x3)/\((aZ c.length t c z.toNat x1=aZ c.length t c z.toNat x1)/\(ar x3 (cd t c z x1)=ar x3 (cd t c z x1))))))))))))))) (∃x8:Unit,((x3<c.length)/\((t=t)/\((c=c)/\((z=z)/\(((c.length:Int)=(c.length:Int)) /\
 (((x1:Int)=(x1:Int))/\(((x3:Int)=(x3:Int))/\((en (aQ t x1) z.toNat x3=en (aQ t x1) z.toNat x3)/\((en (aQ t x1) x3 z.toNat=en (aQ t x1) x3 z.toNat)/\((iO (aQ t x1) z.toNat x3=gC (aQ t x1) z.toNat x3)/\((aZ c.length t c z.toNat x1=aZ c.length t c z.toNat x1)/\(ar x3 (cd t c z x1)=ar x3 (cd t c z x1)))))))))))))))/\(∀x9:Unit,((x3<c.length)->((ae (en (t.getD x1 ([]:List (List Int))) z.toNat x3 == z) ((ac (gC (aQ t x1) z.toNat x3+(4:Int)))/\(∃x10:Unit,((x3<c.length)/\((t=t)/\((c=c)/\((z=z)/\(((c.length:Int)=(c.length:Int))/\(((x1:Int)=(x1:Int))/\(((x3:Int)=(x3:Int))/\((en (aQ t x1) z.toNat x3=en (aQ t x1) z.toNat x3)/\((en (aQ t x1) x3 z.toNat=en (aQ t x1) x3 z.toNat)/\((gC (aQ t x1) z.toNat x3+(4:Int)=gD (aQ t x1) z.toNat x3)/\((aZ c.length t c z.toNat x1=aZ c.length t c z.toNat x1)/\(ar x3 (cd t c z x1)=ar x3 (cd t c z x1))))))))))))))) (∃x11:Unit,((x3<c.length)/\((t=t)/\((c=c)/\((z=z)/\(((c.length:Int)=(c.length:Int))/\(((x1:Int)=(x1:Int))/\(((x3:Int)=(x3:Int))/\((en (aQ t x1) z.toNat x3=en (aQ t x1) z.toNat x3)/\((en (aQ t x1) x3 z.toNat=en (aQ t x1) x3 z.toNat)/\((gC (aQ t x1) z.toNat x3=gD (aQ t x1) z.toNat x3) /\
 ((aZ c.length t c z.toNat x1=aZ c.length t c z.toNat x1)/\(ar x3 (cd t c z x1)=ar x3 (cd t c z x1)))))))))))))))/\(∀x12:Unit,((x3<c.length)->((ae (en (t.getD x1 ([]:List (List Int))) x3 z.toNat == z) ((ac (gD (aQ t x1) z.toNat x3+(8:Int)))/\(∃x13:Unit,((x3<c.length)/\((t=t)/\((c=c)/\((z=z)/\(((c.length:Int)=(c.length:Int))/\(((x1:Int)=(x1:Int))/\(((x3:Int)=(x3:Int))/\((en (aQ t x1) z.toNat x3=en (aQ t x1) z.toNat x3)/\((en (aQ t x1) x3 z.toNat=en (aQ t x1) x3 z.toNat)/\((gD (aQ t x1) z.toNat x3+(8:Int)=f8 (aQ t x1) z.toNat x3)/\((aZ c.length t c z.toNat x1=aZ c.length t c z.toNat x1)/\(ar x3 (cd t c z x1)=ar x3 (cd t c z x1))))))))))))))) (∃x14:Unit,((x3<c.length)/\((t=t)/\((c=c)/\((z=z)/\(((c.length:Int)=(c.length:Int))/\(((x1:Int)=(x1:Int))/\(((x3:Int)=(x3:Int))/\((en (aQ t x1) z.toNat x3=en (aQ t x1) z.toNat x3)/\((en (aQ t x1) x3 z.toNat=en (aQ t x1) x3 z.toNat)/\((gD (aQ t x1) z.toNat x3=f8 (aQ t x1) z.toNat x3)/\((aZ c.length t c z.toNat x1=aZ c.length t c z.toNat x1)/\(ar x3 (cd t c z x1)=ar x3 (cd t c z x1)))))))))))))))/\(∀x15:Unit,((x3<c.length)->((ab (x3:Int) c.length)/\((ac (c.getD (x3:Int).toNat (0:Int)*(64:Int))) /\
 ((ab (en (aQ t x1) z.toNat x3) c.length)/\((ac (jQ t c z x3 x1))/\((ac ((jQ t c z x3 x1)*(64:Int)))/\((ab (en (aQ t x1) x3 z.toNat) c.length)/\((ac ((jQ t c z x3 x1)*(64:Int)+c.getD ((en (aQ t x1) x3 z.toNat).toNat) (0:Int)))/\((ac (((jQ t c z x3 x1)*(64:Int)+c.getD ((en (aQ t x1) x3 z.toNat).toNat) (0:Int))*(16:Int)))/\((ac (((jQ t c z x3 x1)*(64:Int)+c.getD ((en (aQ t x1) x3 z.toNat).toNat) (0:Int))*(16:Int)+f8 (aQ t x1) z.toNat x3))/\((ah ((ar x3 (cd t c z x1)).length+[((jQ t c z x3 x1)*(64:Int)+c.getD ((en (aQ t x1) x3 z.toNat).toNat) (0:Int))*(16:Int)+f8 (aQ t x1) z.toNat x3].length))/\((ac ((x3:Int)+(1:Int)))/\(∃x16:Nat,(((x1<t.length)/\(x16<=c.length))/\((c.length-x16<c.length-x3)/\((t=t)/\((c=c)/\((z=z)/\(((c.length:Int)=(c.length:Int))/\(((x1:Int)=(x1:Int))/\(((x3:Int)+(1:Int)=(x16:Int))/\((aZ c.length t c z.toNat x1=aZ c.length t c z.toNat x1)/\(ar x3 (cd t c z x1)++[((jQ t c z x3 x1)*(64:Int)+c.getD ((en (aQ t x1) x3 z.toNat).toNat) (0:Int))*(16:Int)+f8 (aQ t x1) z.toNat x3]=ar x16 (cd t c z x1))))))))))))))))))))))))))))))))))))))))) ((((0:Int)<=(c.length:Int))/\(((c.length:Int)<=(c.length:Int))/\(ah ((c.length:Int).toNat))))/\((∃x17:Nat,(((x1<t.length) /\
 (x17<=c.length))/\((t=t)/\((c=c)/\((z=z)/\(((c.length:Int)=(c.length:Int))/\(((x1:Int)=(x1:Int))/\(((0:Int)=(x17:Int))/\((aZ c.length t c z.toNat x1=aZ c.length t c z.toNat x1)/\((ar x3 (cd t c z x1)=ar c.length (cd t c z x1))/\(List.replicate ((c.length:Int).toNat) (0:Int)=bV c.length (aQ t x1) z.toNat x17 (0:Nat))))))))))))/\(∀x18:Nat,(((x1<t.length)/\(x18<=c.length))->(ae (decide ((x18:Int)<(c.length:Int))) ((∃x19:Nat,(((x18<c.length)/\(x19<=c.length))/\((t=t)/\((c=c)/\((z=z)/\(((c.length:Int)=(c.length:Int))/\(((x1:Int)=(x1:Int))/\(((x18:Int)=(x18:Int))/\(((0:Int)=(x19:Int))/\((aZ c.length t c z.toNat x1=aZ c.length t c z.toNat x1)/\((ar c.length (cd t c z x1)=ar c.length (cd t c z x1))/\(bV c.length (aQ t x1) z.toNat x18 (0:Nat)=bV c.length (aQ t x1) z.toNat x18 x19))))))))))))/\(∀x20:Nat,(((x18<c.length)/\(x20<=c.length))->(ae (decide ((x20:Int)<(c.length:Int))) ((ab (x1:Int) t.length)/\((ab (x18:Int) (g5 t x1).length)/\((ab (x20:Int) (((g5 t x1).getD (x18:Int).toNat []).length))/\(ae ((List.getD (List.getD t (x1:Int).toNat ([]:List (List Int))) (x18:Int).toNat []).getD (x20:Int).toNat (0:Int) == z) ((ab (x18:Int) ((bV c.length (aQ t x1) z.toNat x18 x20).length)) /\
 ((ac ((bV c.length (aQ t x1) z.toNat x18 x20).getD (x18:Int).toNat (0:Int)+(1:Int)))/\((ab (x18:Int) ((bV c.length (aQ t x1) z.toNat x18 x20).length))/\((ac ((x20:Int)+(1:Int)))/\(∃x21:Nat,(((x18<c.length)/\(x21<=c.length))/\((c.length-x21<c.length-x20)/\((t=t)/\((c=c)/\((z=z)/\(((c.length:Int)=(c.length:Int))/\(((x1:Int)=(x1:Int))/\(((x18:Int)=(x18:Int))/\(((x20:Int)+(1:Int)=(x21:Int))/\((aZ c.length t c z.toNat x1=aZ c.length t c z.toNat x1)/\((ar c.length (cd t c z x1)=ar c.length (cd t c z x1))/\(List.set (bV c.length (aQ t x1) z.toNat x18 x20) (x18:Int).toNat ((bV c.length (aQ t x1) z.toNat x18 x20).getD (x18:Int).toNat (0:Int)+(1:Int))=bV c.length (aQ t x1) z.toNat x18 x21))))))))))))))))) ((ac ((x20:Int)+(1:Int)))/\(∃x22:Nat,(((x18<c.length)/\(x22<=c.length))/\((c.length-x22<c.length-x20)/\((t=t)/\((c=c)/\((z=z)/\(((c.length:Int)=(c.length:Int))/\(((x1:Int)=(x1:Int))/\(((x18:Int)=(x18:Int))/\(((x20:Int)+(1:Int)=(x22:Int))/\((aZ c.length t c z.toNat x1=aZ c.length t c z.toNat x1)/\((ar c.length (cd t c z x1)=ar c.length (cd t c z x1))/\(bV c.length (aQ t x1) z.toNat x18 x20=bV c.length (aQ t x1) z.toNat x18 x22)))))))))))))))))) ((ac ((x18:Int)+(1:Int)))/\(∃x23:Nat,(((x1<t.length)/\(x23<=c.length)) /\
 ((c.length-x23<c.length-x18)/\((t=t)/\((c=c)/\((z=z)/\(((c.length:Int)=(c.length:Int))/\(((x1:Int)=(x1:Int))/\(((x18:Int)+(1:Int)=(x23:Int))/\((aZ c.length t c z.toNat x1=aZ c.length t c z.toNat x1)/\((ar c.length (cd t c z x1)=ar c.length (cd t c z x1))/\(bV c.length (aQ t x1) z.toNat x18 x20=bV c.length (aQ t x1) z.toNat x23 (0:Nat)))))))))))))))))) ((∃x24:Nat,(((x1<t.length)/\(x24<=c.length))/\((t=t)/\((c=c)/\((z=z)/\(((c.length:Int)=(c.length:Int))/\(((x1:Int)=(x1:Int))/\(((0:Int)=(x24:Int))/\((aZ c.length t c z.toNat x1=aZ c.length t c z.toNat x1)/\((ar c.length (cd t c z x1)=ar c.length (cd t c z x1)++ar x24 fun(y:Nat)=>(1099511627776:Int)+c.getD y (0:Int)*(64:Int)+(↑(ff c.length (aQ t x1) z.toNat y):Int))/\(bV c.length (aQ t x1) z.toNat x18 (0:Nat)=bV c.length (aQ t x1) z.toNat c.length (0:Nat))))))))))))/\(∀x25:Nat,(((x1<t.length)/\(x25<=c.length))->(ae (decide ((x25:Int)<(c.length:Int))) ((ab (x25:Int) c.length)/\((ac (c.getD (x25:Int).toNat (0:Int)*(64:Int)))/\((ac ((1099511627776:Int)+c.getD (x25:Int).toNat (0:Int)*(64:Int)))/\((ab (x25:Int) ((bV c.length (aQ t x1) z.toNat c.length (0:Nat)).length)) /\
 (ac ((1099511627776:Int)+c.getD (x25:Int).toNat (0:Int)*(64:Int)+(bV c.length (aQ t x1) z.toNat c.length (0:Nat)).getD (x25:Int).toNat (0:Int))/\(ah ((ar c.length (cd t c z x1)++ar x25 fun(y:Nat)=>(1099511627776:Int)+c.getD y (0:Int)*(64:Int)+(↑(ff c.length (aQ t x1) z.toNat y):Int)).length+[(1099511627776:Int)+c.getD (x25:Int).toNat (0:Int)*(64:Int)+(bV c.length (aQ t x1) z.toNat c.length (0:Nat)).getD (x25:Int).toNat (0:Int)].length)/\(ac ((x25:Int)+(1:Int))/\(∃x26:Nat,((x1<t.length/\x26<=c.length)/\(c.length-x26<c.length-x25/\(t=t/\(c=c/\(z=z/\((c.length:Int)=(c.length:Int)/\((x1:Int)=(x1:Int)/\((x25:Int)+(1:Int)=(x26:Int)/\(aZ c.length t c z.toNat x1=aZ c.length t c z.toNat x1/\(((ar c.length (cd t c z x1)++ar x25 fun(y:Nat)=>(1099511627776:Int)+c.getD y (0:Int)*(64:Int)+(↑(ff c.length (aQ t x1) z.toNat y):Int))++[(1099511627776:Int)+c.getD (x25:Int).toNat (0:Int)*(64:Int)+(bV c.length (aQ t x1) z.toNat c.length (0:Nat)).getD (x25:Int).toNat (0:Int)]=ar c.length (cd t c z x1)++ar x26 fun(y:Nat)=>(1099511627776:Int)+c.getD y (0:Int)*(64:Int)+(↑(ff c.length (aQ t x1) z.toNat y):Int)) /\
 (bV c.length (aQ t x1) z.toNat c.length (0:Nat)=bV c.length (aQ t x1) z.toNat c.length (0:Nat)))))))))))))))))))) ((∃x27:Nat,(((x1<t.length)/\(((1:Nat)<=x27)/\(x27<=(2:Nat)*c.length)))/\((t=t)/\((c=c)/\((z=z)/\(((c.length:Int)=(c.length:Int))/\(((x1:Int)=(x1:Int))/\(((1:Int)=(x27:Int))/\((aZ c.length t c z.toNat x1=aZ c.length t c z.toNat x1)/\((ar c.length (cd t c z x1)++ar x25 fun(y:Nat)=>(1099511627776:Int)+c.getD y (0:Int)*(64:Int)+(↑(ff c.length (aQ t x1) z.toNat y):Int))=bZ (b7 t c z x1) x27++List.drop x27 (b7 t c z x1)))))))))))/\(∀x28:Nat,(((x1<t.length)/\(((1:Nat)<=x28)/\(x28<=(2:Nat)*c.length)))->(ae (decide ((x28:Int)<(↑((bZ (c9 c.length (t.getD x1 ([]:List (List Int))) c z.toNat) x28++List.drop x28 (c9 c.length (t.getD x1 ([]:List (List Int))) c z.toNat)).length):Int))) ((∃x29:Nat,(((x28<(2:Nat)*c.length)/\((x29<=x28)/\(cG (bZ (b7 t c z x1) x28) ((b7 t c z x1).getD x28 (0:Int)) x28=cG (bZ (b7 t c z x1) x28) ((b7 t c z x1).getD x28 (0:Int)) x29)))/\((t=t)/\((c=c)/\((z=z)/\(((c.length:Int)=(c.length:Int))/\(((x1:Int)=(x1:Int))/\(((x28:Int)=(x28:Int))/\(((x28:Int)=(x29:Int))/\((aZ c.length t c z.toNat x1=aZ c.length t c z.toNat x1) /\
 (bZ (b7 t c z x1) x28++List.drop x28 (b7 t c z x1)=dM (bZ (b7 t c z x1) x28) ((b7 t c z x1).getD x28 (0:Int)) x29++List.drop (x28+(1:Nat)) (b7 t c z x1))))))))))))/\(∀x30:Nat,(((x28<(2:Nat)*c.length)/\((x30<=x28)/\(cG (bZ (b7 t c z x1) x28) ((b7 t c z x1).getD x28 (0:Int)) x28=cG (bZ (b7 t c z x1) x28) ((b7 t c z x1).getD x28 (0:Int)) x30)))->(ae (decide ((0:Int)<(x30:Int))) ((ab (x30:Int) (g4 t c z x1 x28 x30).length)/\((ac ((x30:Int)-(1:Int)))/\((ab ((x30:Int)-(1:Int)) (g4 t c z x1 x28 x30).length)/\(ae (decide ((dM (bZ (c9 c.length (List.getD t x1 ([]:List (List Int))) c z.toNat) x28) (List.getD (c9 c.length (List.getD t x1 ([]:List (List Int))) c z.toNat) x28 (0:Int)) x30++List.drop (x28+(1:Nat)) (c9 c.length (List.getD t x1 ([]:List (List Int))) c z.toNat)).getD (x30:Int).toNat (0:Int)<(dM (bZ (c9 c.length (List.getD t x1 ([]:List (List Int))) c z.toNat) x28) (List.getD (c9 c.length (List.getD t x1 ([]:List (List Int))) c z.toNat) x28 (0:Int)) x30++List.drop (x28+(1:Nat)) (c9 c.length (List.getD t x1 ([]:List (List Int))) c z.toNat)).getD (((x30:Int)-(1:Int)).toNat) (0:Int))) ((ab (x30:Int) (g4 t c z x1 x28 x30).length)/\((ac ((x30:Int)-(1:Int)))/\((ab ((x30:Int)-(1:Int)) (g4 t c z x1 x28 x30).length) /\
 ((ab (x30:Int) (g4 t c z x1 x28 x30).length)/\((ac ((x30:Int)-(1:Int)))/\((ab ((x30:Int)-(1:Int)) ((List.set (g4 t c z x1 x28 x30) (x30:Int).toNat ((g4 t c z x1 x28 x30).getD (((x30:Int)-(1:Int)).toNat) (0:Int))).length))/\((ac ((x30:Int)-(1:Int)))/\(∃x31:Nat,(((x28<(2:Nat)*c.length)/\((x31<=x28)/\(cG (bZ (b7 t c z x1) x28) ((b7 t c z x1).getD x28 (0:Int)) x28=cG (bZ (b7 t c z x1) x28) ((b7 t c z x1).getD x28 (0:Int)) x31)))/\((x31<x30)/\((t=t)/\((c=c)/\((z=z)/\(((c.length:Int)=(c.length:Int))/\(((x1:Int)=(x1:Int))/\(((x28:Int)=(x28:Int))/\(((x30:Int)-(1:Int)=(x31:Int))/\((aZ c.length t c z.toNat x1=aZ c.length t c z.toNat x1)/\(List.set (List.set (g4 t c z x1 x28 x30) (x30:Int).toNat ((g4 t c z x1 x28 x30).getD (((x30:Int)-(1:Int)).toNat) (0:Int))) (((x30:Int)-(1:Int)).toNat) ((g4 t c z x1 x28 x30).getD (x30:Int).toNat (0:Int))=dM (bZ (b7 t c z x1) x28) ((b7 t c z x1).getD x28 (0:Int)) x31++List.drop (x28+(1:Nat)) (b7 t c z x1)))))))))))))))))))) ((ac ((x28:Int)+(1:Int)))/\(∃x32:Nat,(((x1<t.length)/\(((1:Nat)<=x32)/\(x32<=(2:Nat)*c.length)))/\(((2:Nat)*c.length-x32<(2:Nat)*c.length-x28)/\((t=t)/\((c=c)/\((z=z)/\(((c.length:Int)=(c.length:Int))/\(((x1:Int)=(x1:Int))/\(((x28:Int)+(1:Int)=(x32:Int)) /\
 ((aZ c.length t c z.toNat x1=aZ c.length t c z.toNat x1)/\(dM (bZ (b7 t c z x1) x28) ((b7 t c z x1).getD x28 (0:Int)) x30++List.drop (x28+(1:Nat)) (b7 t c z x1)=bZ (b7 t c z x1) x32++List.drop x32 (b7 t c z x1))))))))))))))))) ((ac ((x28:Int)+(1:Int)))/\(∃x33:Nat,(((x1<t.length)/\(((1:Nat)<=x33)/\(x33<=(2:Nat)*c.length)))/\(((2:Nat)*c.length-x33<(2:Nat)*c.length-x28)/\((t=t)/\((c=c)/\((z=z)/\(((c.length:Int)=(c.length:Int))/\(((x1:Int)=(x1:Int))/\(((x28:Int)+(1:Int)=(x33:Int))/\((aZ c.length t c z.toNat x1=aZ c.length t c z.toNat x1)/\(dM (bZ (b7 t c z x1) x28) ((b7 t c z x1).getD x28 (0:Int)) x30++List.drop (x28+(1:Nat)) (b7 t c z x1)=bZ (b7 t c z x1) x33++List.drop x33 (b7 t c z x1))))))))))))))))) ((ah ((aZ c.length t c z.toNat x1).length+(bZ (b7 t c z x1) x28++List.drop x28 (b7 t c z x1)).length))/\((ac ((x1:Int)+(1:Int)))/\(∃x34:Nat,((x34<=t.length)/\((t.length-x34<t.length-x1)/\((t=t)/\((c=c)/\((z=z)/\(((c.length:Int)=(c.length:Int))/\(((x1:Int)+(1:Int)=(x34:Int))/\(aZ c.length t c z.toNat x1++(bZ (b7 t c z x1) x28++List.drop x28 (b7 t c z x1))=aZ c.length t c z.toNat x34)))))))))))))))))))))))))))) ((aZ c.length t c z.toNat x1=b5 c.length t c z.toNat)/\True))))))
theorem MZ(t:List (List (List Int)))(c:List Int)(z:Int):aY Tryz.prog (aj E9) am (E8 t c z) Tryz.f223 (aP Tryz.f223) [] [.c (.r3 .i64 t),.c (.ints .i64 c),.c (.int .i64 z)] (qY t c z)=wU t c z:=by kernel_rfl
theorem M0(t:List (List (List Int)))(c:List Int)(z:Int)(Yh:(qY t c z).pre):wU t c z:=by
 simp only[qY,wU,b7,aQ,g4,jQ,cd,g5,aX,u1,u2,u3,u4,u5,u6,u7,u8,u9,v1,v2,v3,v4,v5,v6,v7,v8,v9,w1,w2,w3,w4,aN,ab,ac,ah,ax]at Yh⊢;obtain⟨h1,h2,h3,h4,h5,h6,h7⟩:=Yh;simp only[eA,E7,wS,wR,rr];refine⟨by omega,⟨0,by omega,rfl,rfl⟩,fun k hk=>⟨fun hk2=>?_,fun hk2=>?_⟩⟩
 ·have A:=h4 k (by omega)
  have hz:((z.toNat:Nat):Int)=z:=by omega
  have hkn:k*(2*c.length)<=1000*24:=Nat.mul_le_mul (by omega) (by omega)
  have L1:(t.getD k []).length=c.length:=A.1
  have L2:=(A.2 z.toNat (by omega)).1
  have MS:∀S:List (List Int),S=t.getD k []->aZ c.length t c z.toNat k++jR (c9 c.length S c z.toNat)=aZ c.length t c z.toNat (k+1):=fun S e=>by rw[e];rfl
  generalize t.getD k []=T at *
  refine⟨⟨0,⟨by omega,by omega⟩,rfl,rfl⟩,fun j ⟨_,hj⟩=>⟨fun hj2=>?_,fun hj2=>?_⟩⟩
  ·have E1:=(A.2 z.toNat (by omega)).2 j (by omega)
   have E2:=(A.2 j (by omega)).2 z.toNat (by omega)
   have L3:=(A.2 j (by omega)).1
   obtain⟨O1,O2,O3,O4⟩:=MH T z.toNat j;refine⟨by omega,by omega,by omega,by omega,by omega,by omega,⟨fun q=>⟨⟨⟩,by omega,rfl,rfl,(if_pos q).symm⟩,fun q=>⟨⟨⟩,by omega,rfl,rfl,(if_neg q).symm⟩⟩,fun _ _=>⟨⟨fun q=>⟨by omega,⟨⟩,by omega,?_⟩,fun q=>⟨⟨⟩,by omega,?_⟩⟩,fun _ _=>⟨⟨fun q=>⟨by omega,⟨⟩,by omega,?_⟩,fun q=>⟨⟨⟩,by omega,?_⟩⟩,fun _ _=>⟨⟨fun q=>⟨by omega,⟨⟩,by omega,?_⟩,fun q=>⟨⟨⟩,by omega,?_⟩⟩,fun _ _=>?_⟩⟩⟩⟩
   ·rw[gC,if_pos q]
   ·rw[gC,if_neg q];omega
   ·rw[gD,hz,if_pos q]
   ·rw[gD,hz,if_neg q];omega
   ·rw[wP,hz,if_pos q]
   ·rw[wP,hz,if_neg q];omega
   ·have c1:=h5 j (by omega)
    have c2:=h5 (en T z.toNat j).toNat (by omega)
    have c3:=h5 (en T j z.toNat).toNat (by omega)
    refine⟨by omega,by omega,by omega,by omega,by omega,by omega,by omega,by omega,by omega,by omega,by omega,j+1,⟨by omega,by omega⟩,by omega,by omega,?_⟩
    rw[tab_succ'];rfl
  ·have ej:j=c.length:=by omega
   subst ej;refine⟨⟨by omega,by omega,by omega⟩,⟨0,⟨by omega,by omega⟩,rfl,rfl,MP _ _ _⟩,fun j ⟨_,hj⟩=>⟨fun hj2=>⟨⟨0,⟨by omega,by omega⟩,rfl,rfl⟩,fun i ⟨_,hi⟩=>⟨fun hi2=>?_,fun hi2=>?_⟩⟩,fun hj2=>?_⟩⟩
   ·have L3:=(A.2 j (by omega)).1
    have cl:=wQ T z.toNat j i
    rw[MQ _ _ _ (by omega)]
    refine⟨by omega,by omega,by omega,fun q=>⟨by omega,by omega,by omega,by omega,i+1,⟨by omega,by omega⟩,by omega,by omega,?_⟩,fun q=>⟨by omega,i+1,⟨by omega,by omega⟩,by omega,by omega,?_⟩⟩
    ·exact MT (by rw[hz];exact q)
    ·exact MU (by rw[hz];exact q)
   ·rw[show i=c.length by omega]
    exact⟨by omega,j+1,⟨by omega,by omega⟩,by omega,by omega,MV _ _ _ _⟩
   ·rw[show j=c.length by omega]
    refine⟨⟨0,⟨by omega,by omega⟩,rfl,by simp[ar]⟩,fun j ⟨_,hj⟩=>⟨fun hj2=>?_,fun hj2=>?_⟩⟩
    ·have c1:=h5 j (by omega)
     have cl:ff c.length T z.toNat j<=c.length:=wQ _ _ _ _
     rw[MY _ _ (by omega)]
     refine⟨by omega,by omega,by omega,by omega,by omega,by omega,by omega,j+1,⟨by omega,by omega⟩,by omega,by omega,?_⟩
     rw[tab_succ',List.append_assoc]
    ·have ej:j=c.length:=by omega
     subst ej;have SL:=wR c.length T c z.toNat
     have S0:ar c.length (fA T c z.toNat)++(ar c.length fun y=>1099511627776+c.getD y 0*64+(ff c.length T z.toNat y:Int))=c9 c.length T c z.toNat:=rfl
     rw[S0];have MS:=MS T rfl
     generalize c9 c.length T c z.toNat=S at *
     have I1:bZ S 1=S.take 1:=by
      rw[<-du S 0 0 (by omega)];rfl
     refine⟨⟨1,⟨by omega,by omega,by omega⟩,rfl,by rw[I1,List.take_append_drop]⟩,fun i ⟨_,hi1,hi⟩=>⟨fun hi2=>?_,fun hi2=>?_⟩⟩
     ·have PL:=rr S i
      have B0:bZ S i++S.drop i=dM (bZ S i) (S.getD i 0) i++S.drop (i+1):=by
       rw[dM,List.take_of_length_le (by omega),List.drop_of_length_le (l:=bZ S i) (by omega),drop_cons' S 0 i (by omega),List.append_assoc];rfl
      have BN:∀j,cG (bZ S i) (S.getD i 0) i=j->dM (bZ S i) (S.getD i 0) j++S.drop (i+1)=bZ S (i+1)++S.drop (i+1):=fun j e=>by
       rw[bZ,kR,PL,e];rfl
      generalize bZ S i=p at *
      generalize S.getD i 0=x at *
      refine⟨⟨i,⟨by omega,by omega,rfl⟩,rfl,B0⟩,fun j ⟨_,hj,ib⟩=>?_⟩
      have BL:=MJ p x (j:=j) (by omega)
      rw[BL];refine⟨fun j0=>?_,fun j0=>?_⟩
      ·obtain⟨j,rfl⟩:∃m,j=m+1:=⟨j-1,by omega⟩
       have g1:(dM p x (j+1)++S.drop (i+1)).getD (j+1) 0=x:=by rw[getD_append_left' _ _ _ _ (by omega),MK _ _ (by omega)]
       have g0:(dM p x (j+1)++S.drop (i+1)).getD j 0=p.getD j 0:=by rw[getD_append_left' _ _ _ _ (by omega),MM _ _ (by omega)]
       have ez:(((j+1:Nat):Int)-1).toNat=j:=by omega
       rw[cG]at ib;rw[ez,g1,g0];refine⟨by omega,by omega,by omega,fun q=>⟨by omega,by omega,by omega,by omega,by omega,by omega,by omega,j,⟨by omega,by omega,by rw[ib,if_pos q]⟩,by omega,by omega,?_⟩,fun q=>⟨by omega,i+1,⟨by omega,by omega,by omega⟩,by omega,by omega,BN (j+1) (by rw[ib,if_neg q])⟩⟩
       rw[List.set_append_left _ _ (by omega),List.set_append_left _ _ (by rw[List.length_set];omega),MN _ _ (by omega)]
      ·have ej:j=0:=by omega
       subst ej;exact⟨by omega,i+1,⟨by omega,by omega,by omega⟩,by omega,by omega,BN 0 ib⟩
     ·have ei:i=S.length:=by omega
      rw[ei,List.drop_length,List.append_nil];exact⟨by omega,by omega,k+1,by omega,by omega,by omega,MS⟩
 ·rw[b5,show k=t.length by omega]
theorem M1:Fits Tryz.prog 223 ⟨[],wT⟩:=by
 refine bf (Γ:=aj E9) aW Tryz.func223 fun ds p h hp=>?_
 unfold wT at h;split at h
 ·cases h
  exact⟨am,E8 _ _ _ ,by rw[MZ];exact M0 _ _ _  hp⟩
 ·cases h
end Go.Sx
