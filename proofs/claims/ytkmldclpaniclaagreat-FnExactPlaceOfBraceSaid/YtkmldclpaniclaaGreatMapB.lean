/- MapB -/
import Derived.Test.YtkmldclpaniclaaGreatMapA
open Go Go.Proofs
namespace Go.Sx
set_option linter.unusedSimpArgs false
set_option linter.unusedVariables false
def i5(t:V8)(x y:Nat):Int:=if en t x y=(y:Int)then 1 else 0
def gN(t:V8)(x y:Nat):Int:=i5 t x y+if en t y x=(y:Int)then 2 else 0
def gO(t:V8)(x y:Nat):Int:=gN t x y+if en t x y=(x:Int)then 4 else 0
theorem yL(t:V8)(x y:Nat):gm t x y=gO t x y+if en t y x=(x:Int)then 8 else 0:=rfl
theorem Qo(t:V8)(x y:Nat):(0<=i5 t x y/\i5 t x y<=1)/\(0<=gN t x y/\gN t x y<=3)/\(0<=gO t x y/\gO t x y<=7)/\0<=gm t x y/\gm t x y<=15:=by
 rw[yL];unfold gO gN i5;split<;>split<;>split<;>split<;>omega
theorem yM(t:V8)(x y:Nat):∀n,gn t x y n<=n
 |0=>Nat.le_refl _
 |n+1=>by rw[gn];have:=yM t x y n;split<;>omega
def bT(n:Nat)(t:V8)(x j i:Nat):V7:=au n fun q=>if q<j then(fo n t x q:Int)else if q=j then(gn t x j i:Int)else 0
def dR(p:V7)(x:Int)(j:Nat):V7:=p.take j++x::p.drop j
theorem Qp(p:V7)(x:Int){j:Nat}(h:j<=p.length):(dR p x j).length=p.length+1:=by simp[dR];omega
theorem Qq(p:V7)(x:Int){j:Nat}(h:j<=p.length):(dR p x j).getD j 0=x:=AC _ _ _ _ _ (by rw[List.length_take];omega)
theorem Qr(p:V7)(x:Int){j:Nat}(h:j+1<=p.length):(dR p x (j+1)).getD j 0=p.getD j 0:=by
 rw[dR,getD_append_left' _ _ _ _ (by rw[List.length_take];omega),oq _ _ _ _ (by omega)]
theorem Qs(p:V7)(x:Int){j:Nat}(h:j+1<=p.length):((dR p x (j+1)).set (j+1) (p.getD j 0)).set j x=dR p x j:=by
 rw[dR,dR,tj _ _ _ _ _ (by rw[List.length_take];omega),<-dF p 0 j (by omega),List.append_assoc,List.singleton_append,tj _ _ _ _ _ (by rw[List.length_take];omega),drop_cons' p 0 j (by omega)]
theorem tab_succ'(n:Nat)(f:Nat->Int):au (n+1) f=au n f++[f n]:=by simp[au,List.range_succ]
theorem G4(n:Nat)(t:V8)(x j i:Nat):(bT n t x j i).length=n:=eu _ _
theorem Qt(n:Nat)(t:V8)(x:Nat):List.replicate n 0=bT n t x 0 0:=by
 refine jn (by rw[G4];simp) fun q hq=>?_
 have hq:q<n:=by simpa using hq
 rw[bT,eJ _ _ _ hq,if_neg (by omega)]
 simp[List.getD_eq_getElem?_getD,hq,gn]
theorem Qu{n:Nat}(t:V8)(x:Nat){j:Nat}(i:Nat)(h:j<n):(bT n t x j i).getD j 0=(gn t x j i:Int):=by
 rw[bT,eJ _ _ _ h,if_neg (by omega),if_pos rfl]
theorem Qv{n:Nat}{t:V8}{x j i:Nat}(h:en t j i=(x:Int)):(bT n t x j i).set j ((gn t x j i:Int)+1)=bT n t x j (i+1):=by
 rw[bT,bT,V6];refine mG fun q hq=>?_
 by_cases e:q=j
 ·rw[if_pos e,if_neg (by omega),if_pos e,gn,if_pos h];rfl
 ·rw[if_neg e,if_neg e,if_neg e]
theorem Qw{n:Nat}{t:V8}{x j i:Nat}(h:¬ en t j i=(x:Int)):bT n t x j i=bT n t x j (i+1):=by
 rw[bT,bT];refine mG fun q hq=>?_
 rw[gn,if_neg h]
theorem Qx(n:Nat)(t:V8)(x j:Nat):bT n t x j n=bT n t x (j+1) 0:=by
 rw[bT,bT];refine mG fun q hq=>?_
 by_cases e:q=j
 ·rw[if_neg (by omega),if_pos e,if_pos (by omega),fo,e]
 ·by_cases e2:q<j
  ·rw[if_pos e2,if_pos (by omega)]
  ·rw[if_neg e2,if_neg e,if_neg (by omega)]
   split
   ·rfl
   ·rfl
theorem Qy{n:Nat}(t:V8)(x:Nat){q:Nat}(h:q<n):(bT n t x n 0).getD q 0=(fo n t x q:Int):=by
 rw[bT,eJ _ _ _ h,if_pos h]
theorem yN(n:Nat)(t:V8)(c:V7)(x:Nat):(de n t c x).length=2*n:=by rw[de,List.length_append,eu,eu];omega
theorem yO(n:Nat)(a:V9)(c:V7)(x:Nat):∀k,(bc n a c x k).length=1+k*(2*n)
 |0=>by simp[bc]
 |k+1=>by rw[bc,List.length_append,yO n a c x k,kf,sG,yN,Nat.add_mul,Nat.one_mul,Nat.add_assoc]
def sx(t:V9)(c:V7)(z:Int):Post:=⟨t.length<=1000/\1<=c.length/\c.length<=12/\bt c.length t/\(∀i,i<c.length->0<=c.getD i 0/\c.getD i 0<=60)/\0<=z/\z<(c.length:Int),.c (.ints 2 .i64 (bY c.length t c z.toNat)),[]⟩
def yP:List AD->Option Post
 | [.c (.r3 .i64 t),.c (.ints .i64 c),.c (.int .i64 z)]=>some (sx t c z)
 |_=>none
def G5(t:V9)(c:V7)(z:Int):Nat->Option Ann
 |0=>some (Ann.mk ((Nat)) (fun k=>⟨[(0,.c (.ro (.r3 .i64 t))),(1,.c (.ro (.ints .i64 c))),(2,.c (.int .i64 z)),(7,.c (.int .i64 ((c.length:Int)))),(8,.c (.own 8)),(9,.c (.int .i64 ((k:Int))))],[(8,some (.ints 2 .i64 (bc c.length t c z.toNat k)))]⟩) (fun k=>k<=t.length) (fun k=>t.length-k) (fun k=>fun b_=>match b_ with|2=>some (Ann.mk ((Nat)) (fun j=>⟨[(0,.c (.ro (.r3 .i64 t))),(1,.c (.ro (.ints .i64 c))),(2,.c (.int .i64 z)),(7,.c (.int .i64 ((c.length:Int)))),(8,.c (.own 8)),(9,.c (.int .i64 ((k:Int)))),(10,.c (.own 10)),(11,.c (.int .i64 ((j:Int))))],[(8,some (.ints 2 .i64 (bc c.length t c z.toNat k))),(10,some (.ints 2 .i64 (au j (fI (t.getD k []) c z.toNat))))]⟩) (fun j=>k<t.length/\j<=c.length) (fun j=>c.length-j) (fun j=>fun b_=>match b_ with|1013=>some (Ann.mk ((Unit)) (fun u=>⟨[(0,.c (.ro (.r3 .i64 t))),(1,.c (.ro (.ints .i64 c))),(2,.c (.int .i64 z)),(7,.c (.int .i64 ((c.length:Int)))),(8,.c (.own 8)),(9,.c (.int .i64 ((k:Int)))),(10,.c (.own 10)),(11,.c (.int .i64 ((j:Int)))),(12,.c (.int .i64 (en (t.getD k []) z.toNat j))),(13,.c (.int .i64 (en (t.getD k []) j z.toNat))),(14,.c (.int .i64 (i5 (t.getD k []) z.toNat j)))],[(8,some (.ints 2 .i64 (bc c.length t c z.toNat k))),(10,some (.ints 2 .i64 (au j (fI (t.getD k []) c z.toNat))))]⟩) (fun u=>j<c.length) (fun u=>0) (fun _=>am))|1015=>some (Ann.mk ((Unit)) (fun u=>⟨[(0,.c (.ro (.r3 .i64 t))),(1,.c (.ro (.ints .i64 c))),(2,.c (.int .i64 z)),(7,.c (.int .i64 ((c.length:Int)))),(8,.c (.own 8)),(9,.c (.int .i64 ((k:Int)))),(10,.c (.own 10)),(11,.c (.int .i64 ((j:Int)))),(12,.c (.int .i64 (en (t.getD k []) z.toNat j))),(13,.c (.int .i64 (en (t.getD k []) j z.toNat))),(14,.c (.int .i64 (gN (t.getD k []) z.toNat j)))],[(8,some (.ints 2 .i64 (bc c.length t c z.toNat k))),(10,some (.ints 2 .i64 (au j (fI (t.getD k []) c z.toNat))))]⟩) (fun u=>j<c.length) (fun u=>0) (fun _=>am))|1017=>some (Ann.mk ((Unit)) (fun u=>⟨[(0,.c (.ro (.r3 .i64 t))),(1,.c (.ro (.ints .i64 c))),(2,.c (.int .i64 z)),(7,.c (.int .i64 ((c.length:Int)))),(8,.c (.own 8)),(9,.c (.int .i64 ((k:Int)))),(10,.c (.own 10)),(11,.c (.int .i64 ((j:Int)))),(12,.c (.int .i64 (en (t.getD k []) z.toNat j))),(13,.c (.int .i64 (en (t.getD k []) j z.toNat))),(14,.c (.int .i64 (gO (t.getD k []) z.toNat j)))],[(8,some (.ints 2 .i64 (bc c.length t c z.toNat k))),(10,some (.ints 2 .i64 (au j (fI (t.getD k []) c z.toNat))))]⟩) (fun u=>j<c.length) (fun u=>0) (fun _=>am))|1019=>some (Ann.mk ((Unit)) (fun u=>⟨[(0,.c (.ro (.r3 .i64 t))),(1,.c (.ro (.ints .i64 c))),(2,.c (.int .i64 z)),(7,.c (.int .i64 ((c.length:Int)))),(8,.c (.own 8)),(9,.c (.int .i64 ((k:Int)))),(10,.c (.own 10)),(11,.c (.int .i64 ((j:Int)))),(12,.c (.int .i64 (en (t.getD k []) z.toNat j))),(13,.c (.int .i64 (en (t.getD k []) j z.toNat))),(14,.c (.int .i64 (gm (t.getD k []) z.toNat j)))],[(8,some (.ints 2 .i64 (bc c.length t c z.toNat k))),(10,some (.ints 2 .i64 (au j (fI (t.getD k []) c z.toNat))))]⟩) (fun u=>j<c.length) (fun u=>0) (fun _=>am))|_=>none))|4=>some (Ann.mk ((Nat)) (fun j=>⟨[(0,.c (.ro (.r3 .i64 t))),(1,.c (.ro (.ints .i64 c))),(2,.c (.int .i64 z)),(7,.c (.int .i64 ((c.length:Int)))),(8,.c (.own 8)),(9,.c (.int .i64 ((k:Int)))),(10,.c (.own 10)),(15,.c (.own 15)),(16,.c (.int .i64 ((j:Int))))],[(8,some (.ints 2 .i64 (bc c.length t c z.toNat k))),(10,some (.ints 2 .i64 (au c.length (fI (t.getD k []) c z.toNat)))),(15,some (.ints 2 .i64 (bT c.length (t.getD k []) z.toNat j 0)))]⟩) (fun j=>k<t.length/\j<=c.length) (fun j=>c.length-j) (fun j=>fun b_=>match b_ with|6=>some (Ann.mk ((Nat)) (fun i=>⟨[(0,.c (.ro (.r3 .i64 t))),(1,.c (.ro (.ints .i64 c))),(2,.c (.int .i64 z)),(7,.c (.int .i64 ((c.length:Int)))),(8,.c (.own 8)),(9,.c (.int .i64 ((k:Int)))),(10,.c (.own 10)),(15,.c (.own 15)),(16,.c (.int .i64 ((j:Int)))),(17,.c (.int .i64 ((i:Int))))],[(8,some (.ints 2 .i64 (bc c.length t c z.toNat k))),(10,some (.ints 2 .i64 (au c.length (fI (t.getD k []) c z.toNat)))),(15,some (.ints 2 .i64 (bT c.length (t.getD k []) z.toNat j i)))]⟩) (fun i=>j<c.length/\i<=c.length) (fun i=>c.length-i) (fun _=>am))|_=>none))|8=>some (Ann.mk ((Nat)) (fun j=>⟨[(0,.c (.ro (.r3 .i64 t))),(1,.c (.ro (.ints .i64 c))),(2,.c (.int .i64 z)),(7,.c (.int .i64 ((c.length:Int)))),(8,.c (.own 8)),(9,.c (.int .i64 ((k:Int)))),(10,.c (.own 10)),(15,.c (.own 15)),(18,.c (.int .i64 ((j:Int))))],[(8,some (.ints 2 .i64 (bc c.length t c z.toNat k))),(10,some (.ints 2 .i64 (au c.length (fI (t.getD k []) c z.toNat)++au j (fun y=>1099511627776+c.getD y 0*64+(fo c.length (t.getD k []) z.toNat y:Int))))),(15,some (.ints 2 .i64 (bT c.length (t.getD k []) z.toNat c.length 0)))]⟩) (fun j=>k<t.length/\j<=c.length) (fun j=>c.length-j) (fun _=>am))|10=>some (Ann.mk ((Nat)) (fun i=>⟨[(0,.c (.ro (.r3 .i64 t))),(1,.c (.ro (.ints .i64 c))),(2,.c (.int .i64 z)),(7,.c (.int .i64 ((c.length:Int)))),(8,.c (.own 8)),(9,.c (.int .i64 ((k:Int)))),(10,.c (.own 10)),(19,.c (.int .i64 ((i:Int))))],[(8,some (.ints 2 .i64 (bc c.length t c z.toNat k))),(10,some (.ints 2 .i64 (bX (de c.length (t.getD k []) c z.toNat) i++(de c.length (t.getD k []) c z.toNat).drop i)))]⟩) (fun i=>k<t.length/\1<=i/\i<=2*c.length) (fun i=>2*c.length-i) (fun i=>fun b_=>match b_ with|12=>some (Ann.mk ((Nat)) (fun j=>⟨[(0,.c (.ro (.r3 .i64 t))),(1,.c (.ro (.ints .i64 c))),(2,.c (.int .i64 z)),(7,.c (.int .i64 ((c.length:Int)))),(8,.c (.own 8)),(9,.c (.int .i64 ((k:Int)))),(10,.c (.own 10)),(19,.c (.int .i64 ((i:Int)))),(20,.c (.int .i64 ((j:Int))))],[(8,some (.ints 2 .i64 (bc c.length t c z.toNat k))),(10,some (.ints 2 .i64 (dR (bX (de c.length (t.getD k []) c z.toNat) i) ((de c.length (t.getD k []) c z.toNat).getD i 0) j++(de c.length (t.getD k []) c z.toNat).drop (i+1))))]⟩) (fun j=>i<2*c.length/\j<=i/\cL (bX (de c.length (t.getD k []) c z.toNat) i) ((de c.length (t.getD k []) c z.toNat).getD i 0) i=cL (bX (de c.length (t.getD k []) c z.toNat) i) ((de c.length (t.getD k []) c z.toNat).getD i 0) j) (fun j=>j) (fun _=>am))|_=>none))|_=>none))
 |_=>none
def G6:List (Nat×Ctr):=[]
def b5(t:V9)(c:V7)(z:Int)(x0:Nat):=(de c.length (t.getD x0 ([]:V8)) c z.toNat)
def aV(t:V9)(x0:Nat):=(t.getD x0 ([]:V8))
def ig(t:V9)(c:V7)(z:Int)(x0:Nat)(x1:Nat)(x2:Nat):=(dR (bX (b5 t c z x0) x1) ((b5 t c z x0).getD x1 (0:Int)) x2++List.drop (x1+(1:Nat)) (b5 t c z x0))
def ke(t:V9)(c:V7)(z:Int)(x0:Nat)(x1:Nat):=(c.getD (↑x0:Int).toNat (0:Int)*(64:Int)+c.getD ((en (aV t x1) z.toNat x0).toNat) (0:Int))
def cf(t:V9)(c:V7)(z:Int)(x0:Nat):=(fI (aV t x0) c z.toNat)
def il(t:V9)(x0:Nat):=(t.getD (↑x0:Int).toNat ([]:V8))
def yQ(t:V9)(c:V7)(z:Int):Prop :=
 (aa z c.length/\((∃x0:Nat,x0<=t.length/\t=t/\c=c/\z=z/\(c.length:Int)=(c.length:Int)/\(0:Int)=(x0:Int)/\[c.getD z.toNat (0:Int)]=bc c.length t c z.toNat x0)/\(∀x1:Nat,(x1<=t.length->(ae (decide ((x1:Int)<(t.length:Int))) ((∃x2:Nat,(x1<t.length/\x2<=c.length)/\t=t/\c=c/\z=z/\(c.length:Int)=(c.length:Int)/\(x1:Int)=(x1:Int)/\(0:Int)=(x2:Int)/\bc c.length t c z.toNat x1=bc c.length t c z.toNat x1/\[]=au x2 (cf t c z x1))/\(∀x3:Nat,(x1<t.length/\x3<=c.length->(ae (decide ((x3:Int)<(c.length:Int))) (aa (x1:Int) t.length/\(aa z (il t x1).length/\(aa (x3:Int) (((il t x1).getD z.toNat []).length)/\(aa (x1:Int) t.length/\(aa (x3:Int) (il t x1).length/\(aa z (((il t x1).getD (x3:Int).toNat []).length)/\((ae ((List.getD (List.getD t (x1:Int).toNat ([]:V8)) z.toNat []).getD (x3:Int).toNat (0:Int) == (x3:Int)) (∃x4:Unit,(x3<c.length/\(t=t/\(c=c/\(z=z/\((c.length:Int)=(c.length:Int)/\((x1:Int)=(x1:Int)/\((x3:Int)=(x3:Int)/\((List.getD (il t x1) z.toNat []).getD (x3:Int).toNat (0:Int)=en (aV t x1) z.toNat x3/\((List.getD (il t x1) (x3:Int).toNat []).getD z.toNat (0:Int)=en (aV t x1) x3 z.toNat/\(((1:Int)=i5 (aV t x1) z.toNat x3) /\
 ((bc c.length t c z.toNat x1=bc c.length t c z.toNat x1)/\(au x3 (cf t c z x1)=au x3 (cf t c z x1)))))))))))))) (∃x5:Unit,((x3<c.length)/\((t=t)/\((c=c)/\((z=z)/\(((c.length:Int)=(c.length:Int))/\(((x1:Int)=(x1:Int))/\(((x3:Int)=(x3:Int))/\(((List.getD (il t x1) z.toNat []).getD (x3:Int).toNat (0:Int)=en (aV t x1) z.toNat x3)/\(((List.getD (il t x1) (x3:Int).toNat []).getD z.toNat (0:Int)=en (aV t x1) x3 z.toNat)/\(((0:Int)=i5 (aV t x1) z.toNat x3)/\((bc c.length t c z.toNat x1=bc c.length t c z.toNat x1)/\(au x3 (cf t c z x1)=au x3 (cf t c z x1)))))))))))))))/\(∀x6:Unit,((x3<c.length)->((ae (en (t.getD x1 ([]:V8)) x3 z.toNat == (x3:Int)) ((ac (i5 (aV t x1) z.toNat x3+(2:Int)))/\(∃x7:Unit,((x3<c.length)/\((t=t)/\((c=c)/\((z=z)/\(((c.length:Int)=(c.length:Int))/\(((x1:Int)=(x1:Int))/\(((x3:Int)=(x3:Int))/\((en (aV t x1) z.toNat x3=en (aV t x1) z.toNat x3)/\((en (aV t x1) x3 z.toNat=en (aV t x1) x3 z.toNat)/\((i5 (aV t x1) z.toNat x3+(2:Int)=gN (aV t x1) z.toNat x3)/\((bc c.length t c z.toNat x1=bc c.length t c z.toNat x1)/\(au x3 (cf t c z x1)=au x3 (cf t c z x1))))))))))))))) (∃x8:Unit,((x3<c.length)/\((t=t)/\((c=c)/\((z=z)/\(((c.length:Int)=(c.length:Int)) /\
 (((x1:Int)=(x1:Int))/\(((x3:Int)=(x3:Int))/\((en (aV t x1) z.toNat x3=en (aV t x1) z.toNat x3)/\((en (aV t x1) x3 z.toNat=en (aV t x1) x3 z.toNat)/\((i5 (aV t x1) z.toNat x3=gN (aV t x1) z.toNat x3)/\((bc c.length t c z.toNat x1=bc c.length t c z.toNat x1)/\(au x3 (cf t c z x1)=au x3 (cf t c z x1)))))))))))))))/\(∀x9:Unit,((x3<c.length)->((ae (en (t.getD x1 ([]:V8)) z.toNat x3 == z) ((ac (gN (aV t x1) z.toNat x3+(4:Int)))/\(∃x10:Unit,((x3<c.length)/\((t=t)/\((c=c)/\((z=z)/\(((c.length:Int)=(c.length:Int))/\(((x1:Int)=(x1:Int))/\(((x3:Int)=(x3:Int))/\((en (aV t x1) z.toNat x3=en (aV t x1) z.toNat x3)/\((en (aV t x1) x3 z.toNat=en (aV t x1) x3 z.toNat)/\((gN (aV t x1) z.toNat x3+(4:Int)=gO (aV t x1) z.toNat x3)/\((bc c.length t c z.toNat x1=bc c.length t c z.toNat x1)/\(au x3 (cf t c z x1)=au x3 (cf t c z x1))))))))))))))) (∃x11:Unit,((x3<c.length)/\((t=t)/\((c=c)/\((z=z)/\(((c.length:Int)=(c.length:Int))/\(((x1:Int)=(x1:Int))/\(((x3:Int)=(x3:Int))/\((en (aV t x1) z.toNat x3=en (aV t x1) z.toNat x3)/\((en (aV t x1) x3 z.toNat=en (aV t x1) x3 z.toNat)/\((gN (aV t x1) z.toNat x3=gO (aV t x1) z.toNat x3) /\
 ((bc c.length t c z.toNat x1=bc c.length t c z.toNat x1)/\(au x3 (cf t c z x1)=au x3 (cf t c z x1)))))))))))))))/\(∀x12:Unit,((x3<c.length)->((ae (en (t.getD x1 ([]:V8)) x3 z.toNat == z) ((ac (gO (aV t x1) z.toNat x3+(8:Int)))/\(∃x13:Unit,((x3<c.length)/\((t=t)/\((c=c)/\((z=z)/\(((c.length:Int)=(c.length:Int))/\(((x1:Int)=(x1:Int))/\(((x3:Int)=(x3:Int))/\((en (aV t x1) z.toNat x3=en (aV t x1) z.toNat x3)/\((en (aV t x1) x3 z.toNat=en (aV t x1) x3 z.toNat)/\((gO (aV t x1) z.toNat x3+(8:Int)=gm (aV t x1) z.toNat x3)/\((bc c.length t c z.toNat x1=bc c.length t c z.toNat x1)/\(au x3 (cf t c z x1)=au x3 (cf t c z x1))))))))))))))) (∃x14:Unit,((x3<c.length)/\((t=t)/\((c=c)/\((z=z)/\(((c.length:Int)=(c.length:Int))/\(((x1:Int)=(x1:Int))/\(((x3:Int)=(x3:Int))/\((en (aV t x1) z.toNat x3=en (aV t x1) z.toNat x3)/\((en (aV t x1) x3 z.toNat=en (aV t x1) x3 z.toNat)/\((gO (aV t x1) z.toNat x3=gm (aV t x1) z.toNat x3)/\((bc c.length t c z.toNat x1=bc c.length t c z.toNat x1)/\(au x3 (cf t c z x1)=au x3 (cf t c z x1)))))))))))))))/\(∀x15:Unit,((x3<c.length)->((aa (x3:Int) c.length)/\((ac (c.getD (x3:Int).toNat (0:Int)*(64:Int))) /\
 ((aa (en (aV t x1) z.toNat x3) c.length)/\((ac (ke t c z x3 x1))/\((ac ((ke t c z x3 x1)*(64:Int)))/\((aa (en (aV t x1) x3 z.toNat) c.length)/\((ac ((ke t c z x3 x1)*(64:Int)+c.getD ((en (aV t x1) x3 z.toNat).toNat) (0:Int)))/\((ac (((ke t c z x3 x1)*(64:Int)+c.getD ((en (aV t x1) x3 z.toNat).toNat) (0:Int))*(16:Int)))/\((ac (((ke t c z x3 x1)*(64:Int)+c.getD ((en (aV t x1) x3 z.toNat).toNat) (0:Int))*(16:Int)+gm (aV t x1) z.toNat x3))/\((af ((au x3 (cf t c z x1)).length+[((ke t c z x3 x1)*(64:Int)+c.getD ((en (aV t x1) x3 z.toNat).toNat) (0:Int))*(16:Int)+gm (aV t x1) z.toNat x3].length))/\((ac ((x3:Int)+(1:Int)))/\(∃x16:Nat,(((x1<t.length)/\(x16<=c.length))/\((c.length-x16<c.length-x3)/\((t=t)/\((c=c)/\((z=z)/\(((c.length:Int)=(c.length:Int))/\(((x1:Int)=(x1:Int))/\(((x3:Int)+(1:Int)=(x16:Int))/\((bc c.length t c z.toNat x1=bc c.length t c z.toNat x1)/\(au x3 (cf t c z x1)++[((ke t c z x3 x1)*(64:Int)+c.getD ((en (aV t x1) x3 z.toNat).toNat) (0:Int))*(16:Int)+gm (aV t x1) z.toNat x3]=au x16 (cf t c z x1))))))))))))))))))))))))))))))))))))))))) ((((0:Int)<=(c.length:Int))/\(((c.length:Int)<=(c.length:Int))/\(af (c.length:Int).toNat)))/\((∃x17:Nat,(((x1<t.length) /\
 (x17<=c.length))/\((t=t)/\((c=c)/\((z=z)/\(((c.length:Int)=(c.length:Int))/\(((x1:Int)=(x1:Int))/\(((0:Int)=(x17:Int))/\((bc c.length t c z.toNat x1=bc c.length t c z.toNat x1)/\((au x3 (cf t c z x1)=au c.length (cf t c z x1))/\(List.replicate (c.length:Int).toNat (0:Int)=bT c.length (aV t x1) z.toNat x17 (0:Nat))))))))))))/\(∀x18:Nat,(((x1<t.length)/\(x18<=c.length))->(ae (decide ((x18:Int)<(c.length:Int))) ((∃x19:Nat,(((x18<c.length)/\(x19<=c.length))/\((t=t)/\((c=c)/\((z=z)/\(((c.length:Int)=(c.length:Int))/\(((x1:Int)=(x1:Int))/\(((x18:Int)=(x18:Int))/\(((0:Int)=(x19:Int))/\((bc c.length t c z.toNat x1=bc c.length t c z.toNat x1)/\((au c.length (cf t c z x1)=au c.length (cf t c z x1))/\(bT c.length (aV t x1) z.toNat x18 (0:Nat)=bT c.length (aV t x1) z.toNat x18 x19))))))))))))/\(∀x20:Nat,(((x18<c.length)/\(x20<=c.length))->(ae (decide ((x20:Int)<(c.length:Int))) ((aa (x1:Int) t.length)/\((aa (x18:Int) (il t x1).length)/\((aa (x20:Int) (((il t x1).getD (x18:Int).toNat []).length))/\(ae ((List.getD (List.getD t (x1:Int).toNat ([]:V8)) (x18:Int).toNat []).getD (x20:Int).toNat (0:Int) == z) ((aa (x18:Int) ((bT c.length (aV t x1) z.toNat x18 x20).length)) /\
 ((ac ((bT c.length (aV t x1) z.toNat x18 x20).getD (x18:Int).toNat (0:Int)+(1:Int)))/\((aa (x18:Int) ((bT c.length (aV t x1) z.toNat x18 x20).length))/\((ac ((x20:Int)+(1:Int)))/\(∃x21:Nat,(((x18<c.length)/\(x21<=c.length))/\((c.length-x21<c.length-x20)/\((t=t)/\((c=c)/\((z=z)/\(((c.length:Int)=(c.length:Int))/\(((x1:Int)=(x1:Int))/\(((x18:Int)=(x18:Int))/\(((x20:Int)+(1:Int)=(x21:Int))/\((bc c.length t c z.toNat x1=bc c.length t c z.toNat x1)/\((au c.length (cf t c z x1)=au c.length (cf t c z x1))/\(List.set (bT c.length (aV t x1) z.toNat x18 x20) (x18:Int).toNat ((bT c.length (aV t x1) z.toNat x18 x20).getD (x18:Int).toNat (0:Int)+(1:Int))=bT c.length (aV t x1) z.toNat x18 x21))))))))))))))))) ((ac ((x20:Int)+(1:Int)))/\(∃x22:Nat,(((x18<c.length)/\(x22<=c.length))/\((c.length-x22<c.length-x20)/\((t=t)/\((c=c)/\((z=z)/\(((c.length:Int)=(c.length:Int))/\(((x1:Int)=(x1:Int))/\(((x18:Int)=(x18:Int))/\(((x20:Int)+(1:Int)=(x22:Int))/\((bc c.length t c z.toNat x1=bc c.length t c z.toNat x1)/\((au c.length (cf t c z x1)=au c.length (cf t c z x1))/\(bT c.length (aV t x1) z.toNat x18 x20=bT c.length (aV t x1) z.toNat x18 x22)))))))))))))))))) ((ac ((x18:Int)+(1:Int)))/\(∃x23:Nat,(((x1<t.length)/\(x23<=c.length)) /\
 ((c.length-x23<c.length-x18)/\((t=t)/\((c=c)/\((z=z)/\(((c.length:Int)=(c.length:Int))/\(((x1:Int)=(x1:Int))/\(((x18:Int)+(1:Int)=(x23:Int))/\((bc c.length t c z.toNat x1=bc c.length t c z.toNat x1)/\((au c.length (cf t c z x1)=au c.length (cf t c z x1))/\(bT c.length (aV t x1) z.toNat x18 x20=bT c.length (aV t x1) z.toNat x23 (0:Nat)))))))))))))))))) ((∃x24:Nat,(((x1<t.length)/\(x24<=c.length))/\((t=t)/\((c=c)/\((z=z)/\(((c.length:Int)=(c.length:Int))/\(((x1:Int)=(x1:Int))/\(((0:Int)=(x24:Int))/\((bc c.length t c z.toNat x1=bc c.length t c z.toNat x1)/\((au c.length (cf t c z x1)=au c.length (cf t c z x1)++au x24 fun(y:Nat)=>(1099511627776:Int)+c.getD y (0:Int)*(64:Int)+(↑(fo c.length (aV t x1) z.toNat y):Int))/\(bT c.length (aV t x1) z.toNat x18 (0:Nat)=bT c.length (aV t x1) z.toNat c.length (0:Nat))))))))))))/\(∀x25:Nat,(((x1<t.length)/\(x25<=c.length))->(ae (decide ((x25:Int)<(c.length:Int))) ((aa (x25:Int) c.length)/\((ac (c.getD (x25:Int).toNat (0:Int)*(64:Int)))/\((ac ((1099511627776:Int)+c.getD (x25:Int).toNat (0:Int)*(64:Int)))/\((aa (x25:Int) ((bT c.length (aV t x1) z.toNat c.length (0:Nat)).length)) /\
 (ac ((1099511627776:Int)+c.getD (x25:Int).toNat (0:Int)*(64:Int)+(bT c.length (aV t x1) z.toNat c.length (0:Nat)).getD (x25:Int).toNat (0:Int))/\(af ((au c.length (cf t c z x1)++au x25 fun(y:Nat)=>(1099511627776:Int)+c.getD y (0:Int)*(64:Int)+(↑(fo c.length (aV t x1) z.toNat y):Int)).length+[(1099511627776:Int)+c.getD (x25:Int).toNat (0:Int)*(64:Int)+(bT c.length (aV t x1) z.toNat c.length (0:Nat)).getD (x25:Int).toNat (0:Int)].length)/\(ac ((x25:Int)+(1:Int))/\(∃x26:Nat,((x1<t.length/\x26<=c.length)/\(c.length-x26<c.length-x25/\(t=t/\(c=c/\(z=z/\((c.length:Int)=(c.length:Int)/\((x1:Int)=(x1:Int)/\((x25:Int)+(1:Int)=(x26:Int)/\(bc c.length t c z.toNat x1=bc c.length t c z.toNat x1/\(((au c.length (cf t c z x1)++au x25 fun(y:Nat)=>(1099511627776:Int)+c.getD y (0:Int)*(64:Int)+(↑(fo c.length (aV t x1) z.toNat y):Int))++[(1099511627776:Int)+c.getD (x25:Int).toNat (0:Int)*(64:Int)+(bT c.length (aV t x1) z.toNat c.length (0:Nat)).getD (x25:Int).toNat (0:Int)]=au c.length (cf t c z x1)++au x26 fun(y:Nat)=>(1099511627776:Int)+c.getD y (0:Int)*(64:Int)+(↑(fo c.length (aV t x1) z.toNat y):Int)) /\
 (bT c.length (aV t x1) z.toNat c.length (0:Nat)=bT c.length (aV t x1) z.toNat c.length (0:Nat)))))))))))))))))))) ((∃x27:Nat,(((x1<t.length)/\(((1:Nat)<=x27)/\(x27<=(2:Nat)*c.length)))/\((t=t)/\((c=c)/\((z=z)/\(((c.length:Int)=(c.length:Int))/\(((x1:Int)=(x1:Int))/\(((1:Int)=(x27:Int))/\((bc c.length t c z.toNat x1=bc c.length t c z.toNat x1)/\((au c.length (cf t c z x1)++au x25 fun(y:Nat)=>(1099511627776:Int)+c.getD y (0:Int)*(64:Int)+(↑(fo c.length (aV t x1) z.toNat y):Int))=bX (b5 t c z x1) x27++List.drop x27 (b5 t c z x1)))))))))))/\(∀x28:Nat,(((x1<t.length)/\(((1:Nat)<=x28)/\(x28<=(2:Nat)*c.length)))->(ae (decide ((x28:Int)<(↑((bX (de c.length (t.getD x1 ([]:V8)) c z.toNat) x28++List.drop x28 (de c.length (t.getD x1 ([]:V8)) c z.toNat)).length):Int))) ((∃x29:Nat,(((x28<(2:Nat)*c.length)/\((x29<=x28)/\(cL (bX (b5 t c z x1) x28) ((b5 t c z x1).getD x28 (0:Int)) x28=cL (bX (b5 t c z x1) x28) ((b5 t c z x1).getD x28 (0:Int)) x29)))/\((t=t)/\((c=c)/\((z=z)/\(((c.length:Int)=(c.length:Int))/\(((x1:Int)=(x1:Int))/\(((x28:Int)=(x28:Int))/\(((x28:Int)=(x29:Int))/\((bc c.length t c z.toNat x1=bc c.length t c z.toNat x1) /\
 (bX (b5 t c z x1) x28++List.drop x28 (b5 t c z x1)=dR (bX (b5 t c z x1) x28) ((b5 t c z x1).getD x28 (0:Int)) x29++List.drop (x28+(1:Nat)) (b5 t c z x1))))))))))))/\(∀x30:Nat,(((x28<(2:Nat)*c.length)/\((x30<=x28)/\(cL (bX (b5 t c z x1) x28) ((b5 t c z x1).getD x28 (0:Int)) x28=cL (bX (b5 t c z x1) x28) ((b5 t c z x1).getD x28 (0:Int)) x30)))->(ae (decide ((0:Int)<(x30:Int))) ((aa (x30:Int) (ig t c z x1 x28 x30).length)/\((ac ((x30:Int)-(1:Int)))/\((aa ((x30:Int)-(1:Int)) (ig t c z x1 x28 x30).length)/\(ae (decide ((dR (bX (de c.length (List.getD t x1 ([]:V8)) c z.toNat) x28) (List.getD (de c.length (List.getD t x1 ([]:V8)) c z.toNat) x28 (0:Int)) x30++List.drop (x28+(1:Nat)) (de c.length (List.getD t x1 ([]:V8)) c z.toNat)).getD (x30:Int).toNat (0:Int)<(dR (bX (de c.length (List.getD t x1 ([]:V8)) c z.toNat) x28) (List.getD (de c.length (List.getD t x1 ([]:V8)) c z.toNat) x28 (0:Int)) x30++List.drop (x28+(1:Nat)) (de c.length (List.getD t x1 ([]:V8)) c z.toNat)).getD (((x30:Int)-(1:Int)).toNat) (0:Int))) ((aa (x30:Int) (ig t c z x1 x28 x30).length)/\((ac ((x30:Int)-(1:Int)))/\((aa ((x30:Int)-(1:Int)) (ig t c z x1 x28 x30).length) /\
 ((aa (x30:Int) (ig t c z x1 x28 x30).length)/\((ac ((x30:Int)-(1:Int)))/\((aa ((x30:Int)-(1:Int)) ((List.set (ig t c z x1 x28 x30) (x30:Int).toNat ((ig t c z x1 x28 x30).getD (((x30:Int)-(1:Int)).toNat) (0:Int))).length))/\((ac ((x30:Int)-(1:Int)))/\(∃x31:Nat,(((x28<(2:Nat)*c.length)/\((x31<=x28)/\(cL (bX (b5 t c z x1) x28) ((b5 t c z x1).getD x28 (0:Int)) x28=cL (bX (b5 t c z x1) x28) ((b5 t c z x1).getD x28 (0:Int)) x31)))/\((x31<x30)/\((t=t)/\((c=c)/\((z=z)/\(((c.length:Int)=(c.length:Int))/\(((x1:Int)=(x1:Int))/\(((x28:Int)=(x28:Int))/\(((x30:Int)-(1:Int)=(x31:Int))/\((bc c.length t c z.toNat x1=bc c.length t c z.toNat x1)/\(List.set (List.set (ig t c z x1 x28 x30) (x30:Int).toNat ((ig t c z x1 x28 x30).getD (((x30:Int)-(1:Int)).toNat) (0:Int))) (((x30:Int)-(1:Int)).toNat) ((ig t c z x1 x28 x30).getD (x30:Int).toNat (0:Int))=dR (bX (b5 t c z x1) x28) ((b5 t c z x1).getD x28 (0:Int)) x31++List.drop (x28+(1:Nat)) (b5 t c z x1)))))))))))))))))))) ((ac ((x28:Int)+(1:Int)))/\(∃x32:Nat,(((x1<t.length)/\(((1:Nat)<=x32)/\(x32<=(2:Nat)*c.length)))/\(((2:Nat)*c.length-x32<(2:Nat)*c.length-x28)/\((t=t)/\((c=c)/\((z=z)/\(((c.length:Int)=(c.length:Int))/\(((x1:Int)=(x1:Int))/\(((x28:Int)+(1:Int)=(x32:Int)) /\
 ((bc c.length t c z.toNat x1=bc c.length t c z.toNat x1)/\(dR (bX (b5 t c z x1) x28) ((b5 t c z x1).getD x28 (0:Int)) x30++List.drop (x28+(1:Nat)) (b5 t c z x1)=bX (b5 t c z x1) x32++List.drop x32 (b5 t c z x1))))))))))))))))) ((ac ((x28:Int)+(1:Int)))/\(∃x33:Nat,(((x1<t.length)/\(((1:Nat)<=x33)/\(x33<=(2:Nat)*c.length)))/\(((2:Nat)*c.length-x33<(2:Nat)*c.length-x28)/\((t=t)/\((c=c)/\((z=z)/\(((c.length:Int)=(c.length:Int))/\(((x1:Int)=(x1:Int))/\(((x28:Int)+(1:Int)=(x33:Int))/\((bc c.length t c z.toNat x1=bc c.length t c z.toNat x1)/\(dR (bX (b5 t c z x1) x28) ((b5 t c z x1).getD x28 (0:Int)) x30++List.drop (x28+(1:Nat)) (b5 t c z x1)=bX (b5 t c z x1) x33++List.drop x33 (b5 t c z x1))))))))))))))))) ((af ((bc c.length t c z.toNat x1).length+(bX (b5 t c z x1) x28++List.drop x28 (b5 t c z x1)).length))/\((ac ((x1:Int)+(1:Int)))/\(∃x34:Nat,((x34<=t.length)/\((t.length-x34<t.length-x1)/\((t=t)/\((c=c)/\((z=z)/\(((c.length:Int)=(c.length:Int))/\(((x1:Int)+(1:Int)=(x34:Int))/\(bc c.length t c z.toNat x1++(bX (b5 t c z x1) x28++List.drop x28 (b5 t c z x1))=bc c.length t c z.toNat x34)))))))))))))))))))))))))))) ((bc c.length t c z.toNat x1=bY c.length t c z.toNat)/\True))))))
theorem Qz(t:V9)(c:V7)(z:Int):aJ Tryz.prog (ai G6) ak (G5 t c z) Tryz.f223 (aE Tryz.f223) [] [.c (.r3 .i64 t),.c (.ints .i64 c),.c (.int .i64 z)] (sx t c z)=yQ t c z:=by kernel_rfl
theorem QA(t:V9)(c:V7)(z:Int)(Yh:(sx t c z).pre):yQ t c z:=by
 simp only[sx,yQ,b5,aV,ig,ke,cf,il,aG,u1,u2,u3,u4,u5,u6,u7,u8,u9,v1,v2,v3,v4,v5,v6,v7,v8,v9,w1,w2,w3,w4,aH,aa,ac,af,ar]at Yh⊢;obtain⟨h1,h2,h3,h4,h5,h6,h7⟩:=Yh;simp only[eu,G4,yO,yN,sG];refine⟨by omega,⟨0,by omega,rfl,rfl⟩,fun k hk=>⟨fun hk2=>?_,fun hk2=>?_⟩⟩
 ·have A:=h4 k (by omega)
  have hz:((z.toNat:Nat):Int)=z:=by omega
  have hkn:k*(2*c.length)<=1000*24:=Nat.mul_le_mul (by omega) (by omega)
  have L1:(t.getD k []).length=c.length:=A.1
  have L2:=(A.2 z.toNat (by omega)).1
  have MS:∀S:V8,S=t.getD k []->bc c.length t c z.toNat k++kf (de c.length S c z.toNat)=bc c.length t c z.toNat (k+1):=fun S e=>by rw[e];rfl
  generalize t.getD k []=T at *
  refine⟨⟨0,⟨by omega,by omega⟩,rfl,rfl⟩,fun j ⟨_,hj⟩=>⟨fun hj2=>?_,fun hj2=>?_⟩⟩
  ·have E1:=(A.2 z.toNat (by omega)).2 j (by omega)
   have E2:=(A.2 j (by omega)).2 z.toNat (by omega)
   have L3:=(A.2 j (by omega)).1
   obtain⟨O1,O2,O3,O4⟩:=Qo T z.toNat j;refine⟨by omega,by omega,by omega,by omega,by omega,by omega,⟨fun q=>⟨⟨⟩,by omega,rfl,rfl,(if_pos q).symm⟩,fun q=>⟨⟨⟩,by omega,rfl,rfl,(if_neg q).symm⟩⟩,fun _ _=>⟨⟨fun q=>⟨by omega,⟨⟩,by omega,?_⟩,fun q=>⟨⟨⟩,by omega,?_⟩⟩,fun _ _=>⟨⟨fun q=>⟨by omega,⟨⟩,by omega,?_⟩,fun q=>⟨⟨⟩,by omega,?_⟩⟩,fun _ _=>⟨⟨fun q=>⟨by omega,⟨⟩,by omega,?_⟩,fun q=>⟨⟨⟩,by omega,?_⟩⟩,fun _ _=>?_⟩⟩⟩⟩
   ·rw[gN,if_pos q]
   ·rw[gN,if_neg q];omega
   ·rw[gO,hz,if_pos q]
   ·rw[gO,hz,if_neg q];omega
   ·rw[yL,hz,if_pos q]
   ·rw[yL,hz,if_neg q];omega
   ·have c1:=h5 j (by omega)
    have c2:=h5 (en T z.toNat j).toNat (by omega)
    have c3:=h5 (en T j z.toNat).toNat (by omega)
    refine⟨by omega,by omega,by omega,by omega,by omega,by omega,by omega,by omega,by omega,by omega,by omega,j+1,⟨by omega,by omega⟩,by omega,by omega,?_⟩
    rw[tab_succ'];rfl
  ·have ej:j=c.length:=by omega
   subst ej;refine⟨⟨by omega,by omega,by omega⟩,⟨0,⟨by omega,by omega⟩,rfl,rfl,Qt _ _ _⟩,fun j ⟨_,hj⟩=>⟨fun hj2=>⟨⟨0,⟨by omega,by omega⟩,rfl,rfl⟩,fun i ⟨_,hi⟩=>⟨fun hi2=>?_,fun hi2=>?_⟩⟩,fun hj2=>?_⟩⟩
   ·have L3:=(A.2 j (by omega)).1
    have cl:=yM T z.toNat j i
    rw[Qu _ _ _ (by omega)]
    refine⟨by omega,by omega,by omega,fun q=>⟨by omega,by omega,by omega,by omega,i+1,⟨by omega,by omega⟩,by omega,by omega,?_⟩,fun q=>⟨by omega,i+1,⟨by omega,by omega⟩,by omega,by omega,?_⟩⟩
    ·exact Qv (by rw[hz];exact q)
    ·exact Qw (by rw[hz];exact q)
   ·rw[show i=c.length by omega]
    exact⟨by omega,j+1,⟨by omega,by omega⟩,by omega,by omega,Qx _ _ _ _⟩
   ·rw[show j=c.length by omega]
    refine⟨⟨0,⟨by omega,by omega⟩,rfl,by simp[au]⟩,fun j ⟨_,hj⟩=>⟨fun hj2=>?_,fun hj2=>?_⟩⟩
    ·have c1:=h5 j (by omega)
     have cl:fo c.length T z.toNat j<=c.length:=yM _ _ _ _
     rw[Qy _ _ (by omega)]
     refine⟨by omega,by omega,by omega,by omega,by omega,by omega,by omega,j+1,⟨by omega,by omega⟩,by omega,by omega,?_⟩
     rw[tab_succ',List.append_assoc]
    ·have ej:j=c.length:=by omega
     subst ej;have SL:=yN c.length T c z.toNat
     have S0:au c.length (fI T c z.toNat)++(au c.length fun y=>1099511627776+c.getD y 0*64+(fo c.length T z.toNat y:Int))=de c.length T c z.toNat:=rfl
     rw[S0];have MS:=MS T rfl
     generalize de c.length T c z.toNat=S at *
     have I1:bX S 1=S.take 1:=by
      rw[<-dF S 0 0 (by omega)];rfl
     refine⟨⟨1,⟨by omega,by omega,by omega⟩,rfl,by rw[I1,List.take_append_drop]⟩,fun i ⟨_,hi1,hi⟩=>⟨fun hi2=>?_,fun hi2=>?_⟩⟩
     ·have PL:=sG S i
      have B0:bX S i++S.drop i=dR (bX S i) (S.getD i 0) i++S.drop (i+1):=by
       rw[dR,List.take_of_length_le (by omega),List.drop_of_length_le (l:=bX S i) (by omega),drop_cons' S 0 i (by omega),List.append_assoc];rfl
      have BN:∀j,cL (bX S i) (S.getD i 0) i=j->dR (bX S i) (S.getD i 0) j++S.drop (i+1)=bX S (i+1)++S.drop (i+1):=fun j e=>by
       rw[bX,lB,PL,e];rfl
      generalize bX S i=p at *
      generalize S.getD i 0=x at *
      refine⟨⟨i,⟨by omega,by omega,rfl⟩,rfl,B0⟩,fun j ⟨_,hj,ib⟩=>?_⟩
      have BL:=Qp p x (j:=j) (by omega)
      rw[BL];refine⟨fun j0=>?_,fun j0=>?_⟩
      ·obtain⟨j,rfl⟩:∃m,j=m+1:=⟨j-1,by omega⟩
       have g1:(dR p x (j+1)++S.drop (i+1)).getD (j+1) 0=x:=by rw[getD_append_left' _ _ _ _ (by omega),Qq _ _ (by omega)]
       have g0:(dR p x (j+1)++S.drop (i+1)).getD j 0=p.getD j 0:=by rw[getD_append_left' _ _ _ _ (by omega),Qr _ _ (by omega)]
       have ez:(((j+1:Nat):Int)-1).toNat=j:=by omega
       rw[cL]at ib;rw[ez,g1,g0];refine⟨by omega,by omega,by omega,fun q=>⟨by omega,by omega,by omega,by omega,by omega,by omega,by omega,j,⟨by omega,by omega,by rw[ib,if_pos q]⟩,by omega,by omega,?_⟩,fun q=>⟨by omega,i+1,⟨by omega,by omega,by omega⟩,by omega,by omega,BN (j+1) (by rw[ib,if_neg q])⟩⟩
       rw[List.set_append_left _ _ (by omega),List.set_append_left _ _ (by rw[List.length_set];omega),Qs _ _ (by omega)]
      ·have ej:j=0:=by omega
       subst ej;exact⟨by omega,i+1,⟨by omega,by omega,by omega⟩,by omega,by omega,BN 0 ib⟩
     ·have ei:i=S.length:=by omega
      rw[ei,List.drop_length,List.append_nil];exact⟨by omega,by omega,k+1,by omega,by omega,by omega,MS⟩
 ·rw[bY,show k=t.length by omega]
theorem QB:Fits Tryz.prog 223 ⟨[],yP⟩:=by
 refine aO (Γ:=ai G6) aF Tryz.func223 fun ds p h hp=>?_
 unfold yP at h;split at h
 ·cases h
  exact⟨ak,G5 _ _ _ ,by rw[Qz];exact QA _ _ _  hp⟩
 ·cases h
end Go.Sx
