/- Brs -/
import Derived.Test.YtkmldclpaniclaaGreatCrcP
import Derived.Test.YtkmldclpaniclaaGreatActP
import Derived.Test.YtkmldclpaniclaaGreatMpgE
open Go Go.Proofs
namespace Go.Sx
set_option linter.unusedSimpArgs false
set_option linter.unusedVariables false
theorem CD{p:List Int}{n:Nat}(hn:p.length<=n)(h0:1<=n):∀i k,i<=p.length->k<p.length->0<=(eN p i).getD k 0/\(eN p i).getD k 0<(n:Int)
 |0,k,_,hk=>by simp[eN,List.getD_eq_getElem?_getD,hk];omega
 |i+1,k,hi,hk=>by
  rw[eN,gW _ _ _ _ (by rw[ml];exact hk)]
  split
  ·omega
  ·exact CD hn h0 i k (by omega) hk
def pK(p:List Int):Post:=⟨ah p.length/\iJ p.length p,.c (.ints 2 .i64 (cu p)),[]⟩
def uI:List AD->Option Post
 | [.c (.ints .i64 p)]=>some (pK p)
 |_=>none
def CE(p:List Int):Nat->Option Ann
 |0=>some (Ann.mk ((Nat)) (fun i=>⟨[(0,.c (.ro (.ints .i64 p))),(3,.c (.own 8)),(9,.c (.ro (.ints .i64 p))),(10,.c (.int .i64 ((p.length:Int)))),(11,.c (.int .i64 ((i:Int))))],[(8,some (.ints 2 .i64 (eN p i)))]⟩) (fun i=>i<=p.length) (fun i=>p.length-i) (fun _=>av))
 |_=>none
def CF:List (Nat×Ctr):=[]
def uJ(p:List Int):Prop :=
 ((0:Int)<=(p.length:Int)/\(p.length:Int)<=(p.length:Int)/\ah ((p.length:Int).toNat))/\(∃x0:Nat,x0<=p.length/\p=p/\p=p/\(p.length:Int)=(p.length:Int)/\(0:Int)=(x0:Int)/\List.replicate ((p.length:Int).toNat) (0:Int)=eN p x0)/\∀x1:Nat,x1<=p.length->ae (decide ((x1:Int)<(p.length:Int))) (ab (x1:Int) p.length/\ab (p.getD (x1:Int).toNat (0:Int)) (eN p x1).length/\ac ((x1:Int)+(1:Int))/\∃x2:Nat,x2<=p.length/\p.length-x2<p.length-x1/\p=p/\p=p/\(p.length:Int)=(p.length:Int)/\(x1:Int)+(1:Int)=(x2:Int)/\List.set (eN p x1) ((p.getD (x1:Int).toNat (0:Int)).toNat) (x1:Int)=eN p x2) (eN p x1=cu p/\True)
theorem J0(p:List Int):aY Tryz.prog (aj CF) am (CE p) Tryz.f148 (aP Tryz.f148) [] [.c (.ints .i64 p)] (pK p)=uJ p:=by kernel_rfl
theorem J1(p:List Int)(Yh:(pK p).pre):uJ p:=by
 simp only[pK,uJ,aX,u1,u2,u3,u4,u5,u6,u7,u8,u9,v1,v2,v3,v4,v5,v6,v7,v8,v9,w1,w2,w3,w4,aN,ab,ac,ah,ax]at Yh⊢;obtain⟨h1,h2⟩:=Yh;refine⟨by omega,⟨0,by omega,rfl,rfl⟩,fun i hi=>⟨fun h=>?_,fun h=>?_⟩⟩
 ·have hr:=h2 i (by omega)
  rw[ml];exact⟨by omega,by omega,by omega,i+1,by omega,by omega,by omega,rfl⟩
 ·rw[show i=p.length by omega];rfl
theorem J2:Fits Tryz.prog 148 ⟨[],uI⟩:=by
 refine bf (Γ:=aj CF) aW Tryz.func148 fun ds p h hp=>?_
 unfold uI at h;split at h
 ·cases h
  exact⟨am,CE _ ,by rw[J0];exact J1 _  hp⟩
 ·cases h
def pL(x:Int)(y:Int)(p:List Int)(t:List (List Int))(q:List Int):Post:=⟨0<=x/\x<(q.length:Int)/\0<=y/\y<(q.length:Int)/\0<=q.getD x.toNat 0/\q.getD x.toNat 0<(t.length:Int)/\0<=q.getD y.toNat 0/\q.getD y.toNat 0<((t.getD (q.getD x.toNat 0).toNat []).length:Int)/\0<=(t.getD (q.getD x.toNat 0).toNat []).getD (q.getD y.toNat 0).toNat 0/\(t.getD (q.getD x.toNat 0).toNat []).getD (q.getD y.toNat 0).toNat 0<(p.length:Int),.c (.int .i64 (p.getD ((t.getD (q.getD x.toNat 0).toNat []).getD (q.getD y.toNat 0).toNat 0).toNat 0)),[]⟩
def nN:List AD->Option Post
 | [.c (.int .i64 x),.c (.int .i64 y),.box [.ints .i64 p],.box [.rows .i64 t],.box [.ints .i64 q]]=>some (pL x y p t q)
 |_=>none
def CG:List (Nat×Ctr):=[]
def uK(x:Int)(y:Int)(p:List Int)(t:List (List Int))(q:List Int):Prop :=
 ab x q.length/\ab (q.getD x.toNat (0:Int)) t.length/\ab y q.length/\ab (q.getD y.toNat (0:Int)) ((t.getD ((q.getD x.toNat (0:Int)).toNat) []).length)/\ab ((List.getD t ((List.getD q x.toNat (0:Int)).toNat) []).getD ((q.getD y.toNat (0:Int)).toNat) (0:Int)) p.length/\p.getD (((List.getD t ((List.getD q x.toNat (0:Int)).toNat) []).getD ((q.getD y.toNat (0:Int)).toNat) (0:Int)).toNat) (0:Int)=p.getD (((List.getD t ((List.getD q x.toNat (0:Int)).toNat) []).getD ((q.getD y.toNat (0:Int)).toNat) (0:Int)).toNat) (0:Int)/\True
theorem J3(x:Int)(y:Int)(p:List Int)(t:List (List Int))(q:List Int):aY Tryz.prog (aj CG) am av Tryz.f149 (aP Tryz.f149) [] [.c (.int .i64 x),.c (.int .i64 y),.box [.ints .i64 p],.box [.rows .i64 t],.box [.ints .i64 q]] (pL x y p t q)=uK x y p t q:=by kernel_rfl
theorem J4(x:Int)(y:Int)(p:List Int)(t:List (List Int))(q:List Int)(Yh:(pL x y p t q).pre):uK x y p t q:=by
 simp only[pL,uK,aX,u1,u2,u3,u4,u5,u6,u7,u8,u9,v1,v2,v3,v4,v5,v6,v7,v8,v9,w1,w2,w3,w4,aN,ab,ac,ah,ax]at Yh⊢;omega
theorem J5:Fits Tryz.prog 149 ⟨[],nN⟩:=by
 refine bf (Γ:=aj CG) aW Tryz.func149 fun ds p h hp=>?_
 unfold nN at h;split at h
 ·cases h
  exact⟨am,av,by rw[J3];exact J4 _ _ _ _ _  hp⟩
 ·cases h
def pM(t:List (List Int))(p:List Int):Post:=⟨1<=t.length/\t.length<=12/\aB t.length t/\p.length=t.length/\iJ p.length p,.c (.rows 62 2 .i64 (ef t p)),[]⟩
def uL:List AD->Option Post
 | [.c (.rows .i64 t),.c (.ints .i64 p)]=>some (pM t p)
 |_=>none
def CH:List (Nat×Ctr):=[(148,⟨[],uI⟩),(124,⟨[],lh⟩),(149,⟨[],nN⟩)]
def uM(t:List (List Int))(p:List Int):Prop :=
 ((ah p.length/\iJ p.length p)/\True)/\(((0:Int)<=(t.length:Int)/\(t.length:Int)<=(144:Int)/\∀(x y:Int),(0:Int)<=x->x<(t.length:Int)->(0:Int)<=y->y<(t.length:Int)->ip (nN [AD.c (FC.int IntKind.i64 x),AD.c (FC.int IntKind.i64 y),AD.box [FC.ints IntKind.i64 p],AD.box [FC.rows IntKind.i64 t],AD.box [FC.ints IntKind.i64 (cu p)]]))/\True)/\(bQ ((t.length:Int).toNat) fun(x y:Nat)=>io (nN [AD.c (FC.int IntKind.i64 (x:Int)),AD.c (FC.int IntKind.i64 (y:Int)),AD.box [FC.ints IntKind.i64 p],AD.box [FC.rows IntKind.i64 t],AD.box [FC.ints IntKind.i64 (cu p)]]))=ef t p/\True
theorem J6(t:List (List Int))(p:List Int):aY Tryz.prog (aj CH) am av Tryz.f102 (aP Tryz.f102) [] [.c (.rows .i64 t),.c (.ints .i64 p)] (pM t p)=uM t p:=by kernel_rfl
theorem J7(t:List (List Int))(p:List Int)(Yh:(pM t p).pre):uM t p:=by
 simp only[pM,uM,aX,u1,u2,u3,u4,u5,u6,u7,u8,u9,v1,v2,v3,v4,v5,v6,v7,v8,v9,w1,w2,w3,w4,aN,ab,ac,ah,ax]at Yh⊢;obtain⟨n1,n2,ht,h3,h2⟩:=Yh;have bl:(cu p).length=t.length:=(ml p _).trans h3
 have bi:∀k,k<t.length->0<=(cu p).getD k 0/\(cu p).getD k 0<(t.length:Int):=fun k hk=>CD (by omega) n1 _ k (Nat.le_refl _) (by omega)
 refine⟨⟨by omega,h2⟩,⟨by omega,by omega,fun x y a b c d=>?_⟩,sd fun x y hx hy=>rfl⟩
 have bx:=bi x.toNat (by omega)
 have b2:=bi y.toNat (by omega)
 have r:=ht.2 ((cu p).getD x.toNat 0).toNat (by omega)
 have r2:=r.2 ((cu p).getD y.toNat 0).toNat (by omega)
 simp only[en]at r2;exact⟨by omega,by omega,by omega,by omega,by omega,by omega,by omega,by omega,by omega,by omega⟩
theorem J8:Fits Tryz.prog 102 ⟨[],uL⟩:=by
 refine bf (Γ:=aj CH) (aD J2 (aD oy (aD J5 aW))) Tryz.func102 fun ds p h hp=>?_
 unfold uL at h;split at h
 ·cases h
  exact⟨am,av,by rw[J6];exact J7 _ _  hp⟩
 ·cases h
def eK(p:List (List Int)->Bool):List (List (List Int))->Int->Int
 | [],_=>-1
 |x::l,i=>if p x=true then i else eK p l (i+1)
theorem CJ(p:List (List Int)->Bool):∀(l:List (List (List Int))) (i:Int),0<=i->decide (0<=eK p l i)=l.any p
 | [],i,_=>by simp[eK]
 |x::l,i,h=>by
  rw[eK,List.any_cons];split
  ·rename_i hx;rw[hx,decide_eq_true h];rfl
  ·rename_i hx;rw[CJ p l (i+1) (by omega)];simp[hx]
def pN(l:List (List (List Int)))(q:List (List Int)->Prop)(p:List (List Int)->Bool):Post:=⟨l.length<=1099511627776/\∀x∈l,q x,.c (.int .i64 (eK p l 0)),[]⟩
def uN:List AD->Option Post
 | [.c (.r3 .i64 l),.fv (.tb q p)]=>some (pN l q p)
 |_=>none
def CK(l:List (List (List Int)))(q:List (List Int)->Prop)(p:List (List Int)->Bool):Nat->Option Ann
 |0=>some (Ann.mk ((Nat)) (fun i=>⟨[(0,.c (.ro (.r3 .i64 l))),(1,.fv (.tb q p)),(7,.c (.int .i64 ((l.length:Int)))),(8,.c (.int .i64 ((i:Int))))],[]⟩) (fun i=>i<=l.length/\eK p l 0=eK p (l.drop i) (i:Int)) (fun i=>l.length-i) (fun _=>av))
 |_=>none
def CM:List (Nat×Ctr):=[]
def uO(l:List (List (List Int)))(q:List (List Int)->Prop)(p:List (List Int)->Bool):Prop :=
 (∃x0:Nat,(x0<=l.length/\eK p l (0:Int)=eK p (List.drop x0 l) (x0:Int))/\l=l/\FV.tb q p=FV.tb q p/\(l.length:Int)=(l.length:Int)/\(0:Int)=(x0:Int))/\∀x1:Nat,x1<=l.length/\eK p l (0:Int)=eK p (List.drop x1 l) (x1:Int)->ae (decide ((x1:Int)<(l.length:Int))) (ab (x1:Int) l.length/\q (l.getD (x1:Int).toNat ([]:List (List Int)))/\ae (p (l.getD (x1:Int).toNat ([]:List (List Int)))) ((x1:Int)=eK p l (0:Int)/\True) (ac ((x1:Int)+(1:Int))/\∃x2:Nat,(x2<=l.length/\eK p l (0:Int)=eK p (List.drop x2 l) (x2:Int))/\l.length-x2<l.length-x1/\l=l/\FV.tb q p=FV.tb q p/\(l.length:Int)=(l.length:Int)/\(x1:Int)+(1:Int)=(x2:Int))) ((-1:Int)=eK p l (0:Int)/\True)
theorem J9(l:List (List (List Int)))(q:List (List Int)->Prop)(p:List (List Int)->Bool):aY Tryz.prog (aj CM) am (CK l q p) Tryz.f147 (aP Tryz.f147) [] [.c (.r3 .i64 l),.fv (.tb q p)] (pN l q p)=uO l q p:=by kernel_rfl
theorem Ka(l:List (List (List Int)))(q:List (List Int)->Prop)(p:List (List Int)->Bool)(Yh:(pN l q p).pre):uO l q p:=by
 simp only[pN,uO,aX,u1,u2,u3,u4,u5,u6,u7,u8,u9,v1,v2,v3,v4,v5,v6,v7,v8,v9,w1,w2,w3,w4,aN,ab,ac,ah,ax]at Yh⊢;obtain⟨hl,hq⟩:=Yh;refine⟨⟨0,⟨by omega,rfl⟩,rfl⟩,fun i ⟨hi,he⟩=>⟨fun h=>?_,fun h=>?_⟩⟩
 ·rw[drop_cons' l [] i (by omega)]at he
  simp only[eK]at he;refine⟨by omega,hq _ (bO l [] i (by omega)),fun h1=>?_,fun h1=>⟨by omega,i+1,⟨by omega,?_⟩,by omega,by omega⟩⟩
  ·rw[he,if_pos h1]
  ·rw[he,if_neg (by rw[h1];exact Bool.false_ne_true)];simp
 ·rw[he,List.drop_of_length_le (by omega)];rfl
theorem Kb:Fits Tryz.prog 147 ⟨[],uN⟩:=by
 refine bf (Γ:=aj CM) aW Tryz.func147 fun ds p h hp=>?_
 unfold uN at h;split at h
 ·cases h
  exact⟨am,CK _ _ _ ,by rw[J9];exact Ka _ _ _  hp⟩
 ·cases h
def pO(l:List (List (List Int)))(q:List (List Int)->Prop)(p:List (List Int)->Bool):Post:=⟨l.length<=1099511627776/\∀x∈l,q x,.c (.bool (l.any p)),[]⟩
def uP:List AD->Option Post
 | [.c (.r3 .i64 l),.fv (.tb q p)]=>some (pO l q p)
 |_=>none
def CO:List (Nat×Ctr):=[(147,⟨[],uN⟩)]
def uQ(l:List (List (List Int)))(q:List (List Int)->Prop)(p:List (List Int)->Bool):Prop :=
 ((l.length<=(1099511627776:Nat)/\∀(x:List (List Int)),x∈l->q x)/\True)/\decide ((0:Int)<=eK p l (0:Int))=List.any l p/\True
theorem Kc(l:List (List (List Int)))(q:List (List Int)->Prop)(p:List (List Int)->Bool):aY Tryz.prog (aj CO) am av Tryz.f99 (aP Tryz.f99) [] [.c (.r3 .i64 l),.fv (.tb q p)] (pO l q p)=uQ l q p:=by kernel_rfl
theorem Kd(l:List (List (List Int)))(q:List (List Int)->Prop)(p:List (List Int)->Bool)(Yh:(pO l q p).pre):uQ l q p:=by
 simp only[pO,uQ,aX,u1,u2,u3,u4,u5,u6,u7,u8,u9,v1,v2,v3,v4,v5,v6,v7,v8,v9,w1,w2,w3,w4,aN,ab,ac,ah,ax]at Yh⊢;exact⟨Yh,CJ p l 0 (by omega)⟩
theorem Ke:Fits Tryz.prog 99 ⟨[],uP⟩:=by
 refine bf (Γ:=aj CO) (aD Kb aW) Tryz.func99 fun ds p h hp=>?_
 unfold uP at h;split at h
 ·cases h
  exact⟨am,av,by rw[Kc];exact Kd _ _ _  hp⟩
 ·cases h
def pP(a:List (List Int))(b:List (List Int)):Post:=⟨bK a/\bK b,.c (.bool (decide (a=b))),[]⟩
def uR:List AD->Option Post
 | [.c (.rows .i64 a),.box [.rows .i64 b]]=>some (pP a b)
 |_=>none
def CP:List (Nat×Ctr):=[(101,⟨[],vU⟩)]
def uS(a:List (List Int))(b:List (List Int)):Prop :=
 ((bK a/\bK b)/\True)/\decide (a=b)=decide (a=b)/\True
theorem Kf(a:List (List Int))(b:List (List Int)):aY Tryz.prog (aj CP) am av Tryz.f100 (aP Tryz.f100) [] [.c (.rows .i64 a),.box [.rows .i64 b]] (pP a b)=uS a b:=by kernel_rfl
theorem Kg(a:List (List Int))(b:List (List Int))(Yh:(pP a b).pre):uS a b:=by
 simp only[pP,uS,aX,u1,u2,u3,u4,u5,u6,u7,u8,u9,v1,v2,v3,v4,v5,v6,v7,v8,v9,w1,w2,w3,w4,aN,ab,ac,ah,ax]at Yh⊢;exact Yh
theorem Kh:Fits Tryz.prog 100 ⟨[],uR⟩:=by
 refine bf (Γ:=aj CP) (aD LC aW) Tryz.func100 fun ds p h hp=>?_
 unfold uR at h;split at h
 ·cases h
  exact⟨am,av,by rw[Kf];exact Kg _ _  hp⟩
 ·cases h
theorem Ki{l:List (List Int)}{i k:Nat}(h:i<l.length)(hk:k=l.length-i):(l.take i++List.replicate k []).set i (l.getD i [])=l.take (i+1)++List.replicate (l.length-(i+1)) []:=by
 subst hk;exact(Cp l [] [] i h)
def pQ(t:List (List Int)):Post:=⟨t.length<=144/\(∀r∈t,r.length≠0/\r.length<=144),.c (.rows 62 2 .i64 t),[]⟩
def uT:List AD->Option Post
 | [.c (.rows .i64 t)]=>some (pQ t)
 |_=>none
def CQ(t:List (List Int)):Nat->Option Ann
 |0=>some (Ann.mk ((Nat)) (fun i=>⟨[(3,.c (.own 8)),(9,.c (.ro (.rows .i64 t))),(10,.c (.int .i64 ((t.length:Int)))),(11,.c (.int .i64 ((i:Int))))],[(8,some (.rows 0 62 2 .i64 (t.take i++List.replicate (t.length-i) [])))]⟩) (fun i=>i<=t.length) (fun i=>t.length-i) (fun _=>av))
 |_=>none
def CR:List (Nat×Ctr):=[(82,⟨[],rC⟩)]
def uU(t:List (List Int)):Prop :=
 ((0:Int)<=(t.length:Int)/\(t.length:Int)<=(t.length:Int)/\ah ((t.length:Int).toNat))/\(∃x0:Nat,x0<=t.length/\t=t/\(t.length:Int)=(t.length:Int)/\(0:Int)=(x0:Int)/\List.replicate ((t.length:Int).toNat) []=List.take x0 t++List.replicate (t.length-x0) ([]:List Int))/\∀x1:Nat,x1<=t.length->ae (decide ((x1:Int)<(t.length:Int))) (ab (x1:Int) t.length/\(((t.getD (x1:Int).toNat []).length≠(0:Nat)/\ah ((t.getD (x1:Int).toNat []).length))/\True)/\ab (x1:Int) ((List.take x1 t++List.replicate (t.length-x1) ([]:List Int)).length)/\ac ((x1:Int)+(1:Int))/\∃x2:Nat,x2<=t.length/\t.length-x2<t.length-x1/\t=t/\(t.length:Int)=(t.length:Int)/\(x1:Int)+(1:Int)=(x2:Int)/\List.set (List.take x1 t++List.replicate (t.length-x1) ([]:List Int)) (x1:Int).toNat (t.getD (x1:Int).toNat [])=List.take x2 t++List.replicate (t.length-x2) ([]:List Int)) (List.take x1 t++List.replicate (t.length-x1) ([]:List Int)=t/\True)
theorem Kj(t:List (List Int)):aY Tryz.prog (aj CR) am (CQ t) Tryz.f103 (aP Tryz.f103) [] [.c (.rows .i64 t)] (pQ t)=uU t:=by kernel_rfl
theorem Kk(t:List (List Int))(Yh:(pQ t).pre):uU t:=by
 simp only[pQ,uU,aX,u1,u2,u3,u4,u5,u6,u7,u8,u9,v1,v2,v3,v4,v5,v6,v7,v8,v9,w1,w2,w3,w4,aN,ab,ac,ah,ax]at Yh⊢;obtain⟨h1,h2⟩:=Yh;refine⟨by omega,⟨0,by omega,rfl,by simp⟩,fun i hi=>⟨fun h=>?_,fun h=>by rw[List.take_of_length_le (by omega),show t.length-i=0 by omega,List.replicate_zero,List.append_nil]⟩⟩
 have r:=h2 _ (bO t [] i (by omega))
 exact⟨by omega,⟨by omega,by omega⟩,by omega,by omega,i+1,by omega,by omega,by omega,Ki (by omega) rfl⟩
theorem Kl:Fits Tryz.prog 103 ⟨[],uT⟩:=by
 refine bf (Γ:=aj CR) (aD F5 aW) Tryz.func103 fun ds p h hp=>?_
 unfold uT at h;split at h
 ·cases h
  exact⟨am,CQ _ ,by rw[Kj];exact Kk _  hp⟩
 ·cases h
def je(A:List (List Int))(st:List (List (List Int))×List (List (List Int)))(c:List (List Int)):List (List (List Int))×List (List (List Int)) :=
 if st.1.any (fun s=>decide (s=c))=true then st else(st.1++A.map (ef c),st.2++[c])
def cW(A:List (List Int))(cs:List (List (List Int))):List (List (List Int))×List (List (List Int)):=cs.foldl (je A) ([],[])
def aU(t:List (List Int)):List (List (List Int)):=cS (cf t (aa t) 9 [] [])
def bC(t:List (List Int))(cs:List (List (List Int))):List (List (List Int)×List (List Int)):=cs.map fun c=>(t,c)
theorem pR{A:List (List Int)}{cs:List (List (List Int))}{i:Nat}(h:i<cs.length):cW A (cs.take (i+1))=je A (cW A (cs.take i)) (cs.getD i []):=by
 rw[<-du cs [] i h,cW,List.foldl_append];rfl
theorem CT(A:List (List Int))(cs:List (List (List Int))):∀i,i<=cs.length->(cW A (cs.take i)).1.length<=i*A.length/\(cW A (cs.take i)).2.length<=i
 |0,_=>by simp[cW]
 |i+1,h=>by
  obtain⟨h1,h2⟩:=CT A cs i (by omega)
  rw[pR (by omega),je]
  split
  ·exact⟨Nat.le_trans h1 (Nat.mul_le_mul_right _ (by omega)),by omega⟩
  ·simp only[List.length_append,List.length_map,List.length_singleton,Nat.add_mul,Nat.one_mul]
   omega
theorem uV{P:List (List Int)->Prop}{A:List (List Int)}{cs:List (List (List Int))}(hP:∀c∈cs,∀f∈A,P (ef c f)):∀i,i<=cs.length->∀s∈(cW A (cs.take i)).1,P s
 |0,_=>by simp[cW]
 |i+1,h=>by
  rw[pR (by omega),je]
  split
  ·exact uV hP i (by omega)
  ·intro s hs
   rcases List.mem_append.1 hs with hs|hs
   ·exact uV hP i (by omega) s hs
   ·obtain⟨f,hf,rfl⟩:=List.mem_map.1 hs
    exact hP _ (bO cs [] i (by omega)) f hf
theorem pS{n:Nat}{t:List (List Int)}(G:GrpT n t)(hn:n<=7):aU t=aC t (aa t):=qF G hn
theorem Km{n:Nat}{t:List (List Int)}(G:GrpT n t)(hn:n<=7):(aU t).length<=2401:=by rw[pS G hn];exact pI G hn
theorem CU{n:Nat}{t:List (List Int)}(G:GrpT n t)(hn:n<=7){c:List (List Int)}(hc:c∈aU t):aB n c:=by
 rw[pS G hn]at hc;obtain⟨L,hL,rfl⟩:=(uH G hn).1 hc;exact uG G hn hL
theorem CV{n:Nat}{c:List (List Int)}(h:aB n c)(hn:n<=12):bK c:=⟨by rw[h.1];omega,fun r hr=>by
 obtain⟨i,hi,rfl⟩:=List.getElem_of_mem hr;have:=(h.2 i (by rw[<-h.1];exact hi)).1
 rw[bG c [] i hi]at this;omega⟩
def pT(t:List (List Int)):Post:=⟨f4 t=true/\t.length<=7,.c (.tr [39,62,2] (.p3 .i64 (bC t (cW (aa t) (aU t)).2))),[]⟩
def uW:List AD->Option Post
 | [.c (.rows .i64 t)]=>some (pT t)
 |_=>none
def CW(t:List (List Int)):Nat->Option Ann
 |0=>some (Ann.mk ((Nat)) (fun i=>⟨[(0,.c (.ro (.rows .i64 t))),(3,.c (.ro (.rows .i64 ((aa t))))),(4,.c (.own 601)),(5,.c (.own 602)),(13,.c (.own 600)),(14,.c (.int .i64 (((aU t).length:Int)))),(15,.c (.int .i64 ((i:Int))))],[(600,some (.trk 0 [22,62,2] (.r3 .i64 (aU t)) i)),(601,some (.tr 0 [22,62,2] (.r3 .i64 ((cW (aa t) ((aU t).take i)).1)))),(602,some (.tr 0 [39,62,2] (.p3 .i64 (bC t (cW (aa t) ((aU t).take i)).2))))]⟩) (fun i=>i<=(aU t).length) (fun i=>(aU t).length-i) (fun i=>fun b_=>match b_ with|2=>some (Ann.mk ((Nat)) (fun j=>⟨[(0,.c (.ro (.rows .i64 t))),(3,.c (.ro (.rows .i64 ((aa t))))),(4,.c (.own 601)),(5,.c (.own 602)),(7,.c (.ptr 604 0)),(13,.c (.own 600)),(14,.c (.int .i64 (((aU t).length:Int)))),(15,.c (.int .i64 ((i:Int)))),(22,.c (.ro (.rows .i64 ((aa t))))),(23,.c (.int .i64 (((aa t).length:Int)))),(24,.c (.int .i64 ((j:Int))))],[(600,some (.trk 0 [22,62,2] (.r3 .i64 (aU t)) (i+1))),(601,some (.tr 0 [22,62,2] (.r3 .i64 (((cW (aa t) ((aU t).take i)).1++((aa t).take j).map (ef ((aU t).getD i []))))))),(602,some (.tr 0 [39,62,2] (.p3 .i64 (bC t (cW (aa t) ((aU t).take i)).2)))),(604,some (.box [.own 605])),(605,some (.rows 0 62 2 .i64 ((aU t).getD i [])))]⟩) (fun j=>i<(aU t).length/\j<=(aa t).length/\(cW (aa t) ((aU t).take i)).1.any (fun s=>decide (s=(aU t).getD i []))=false) (fun j=>(aa t).length-j) (fun _=>av))|_=>none))
 |_=>none
def CX(t:Nat):Bool:=[3000018,2000032,5000040].contains t
def CY:List (Nat×Ctr):=[(87,⟨[],rG⟩),(85,⟨[],wk⟩),(99,⟨[],uP⟩),(100,⟨[],uR⟩),(102,⟨[],uL⟩),(103,⟨[],uT⟩)]
def dc(t:List (List Int))(x0:Nat):=(cW (aa t) (List.take x0 (aU t)))
def fX(t:List (List Int))(x0:Nat):=((aU t).getD x0 ([]:List (List Int)))
def uX(t:List (List Int)):Prop :=
 ((((1:Nat)<=t.length/\kW (t::([]:List (List (List Int)))) (t::([]:List (List (List Int))))/\(cX (t::([]:List (List (List Int)))) (t::([]:List (List (List Int))))).length<=(1000000000:Nat))/\True)/\(((f4 t=true/\t.length<=(7:Nat))/\True)/\((∃x0:Nat,x0<=(aU t).length/\t=t/\cX (t::([]:List (List (List Int)))) (t::([]:List (List (List Int))))=aa t/\(↑(FC.len (FC.r3 IntKind.i64 (cS (cf t (aa t) (9:Nat) ([]:List (List Int)) ([]:List (List (List Int))))))):Int)=(↑((aU t).length):Int)/\(0:Int)=(x0:Int)/\cS (cf t (aa t) (9:Nat) ([]:List (List Int)) ([]:List (List (List Int))))=aU t/\x0=(0:Nat)/\FC.len (FC.r3 IntKind.i64 (dc t x0).1)=(0:Nat)/\FC.len (FC.p3 IntKind.i64 (bC t (dc t x0).2))=(0:Nat))/\(∀x1:Nat,(x1<=(aU t).length->(ae (decide ((x1:Int)<(↑((aU t).length):Int))) (ab (x1:Int) (FC.len (FC.r3 IntKind.i64 (aU t)))/\(((x1:Int).toNat=x1/\x1<(aU t).length)/\(((((dc t x1).1).length<=(1099511627776:Nat)/\∀(x:List (List Int)),x∈(dc t x1).1->bK x/\bK ((aU t).getD (x1:Int).toNat ([]:List (List Int))))/\True)/\(ae (List.any ((cW (aa t) (List.take x1 (aU t))).1) fun(x:List (List Int))=>decide (x=(aU t).getD (x1:Int).toNat ([]:List (List Int)))) (ac ((x1:Int)+(1:Int))/\(∃x2:Nat,(x2<=(aU t).length/\((aU t).length-x2<(aU t).length-x1/\((t=t) /\
 ((aa t=aa t)/\(((↑((aU t).length):Int)=(↑((aU t).length):Int))/\(((x1:Int)+(1:Int)=(x2:Int))/\((aU t=aU t)/\((x1+(1:Nat)=x2)/\(((dc t x1).1=(dc t x2).1)/\(bC t (dc t x1).2=bC t (dc t x2).2)))))))))))) ((∃x3:Nat,(((x1<(aU t).length)/\((x3<=(aa t).length)/\((List.any (dc t x1).1 fun(s:List (List Int))=>decide (s=(aU t).getD x1 ([]:List (List Int))))=false)))/\((t=t)/\((aa t=aa t)/\(((↑((aU t).length):Int)=(↑((aU t).length):Int))/\(((x1:Int)=(x1:Int))/\((aa t=aa t)/\(((↑((aa t).length):Int)=(↑((aa t).length):Int))/\(((0:Int)=(x3:Int))/\((aU t=aU t)/\((x1+(1:Nat)=x1+(1:Nat))/\(((dc t x1).1=(dc t x1).1++List.map (ef (fX t x1)) (List.take x3 (aa t)))/\((bC t (dc t x1).2=bC t (dc t x1).2)/\((aU t).getD (x1:Int).toNat ([]:List (List Int))=(aU t).getD x1 ([]:List (List Int))))))))))))))))/\(∀x4:Nat,(((x1<(aU t).length)/\((x4<=(aa t).length)/\((List.any (dc t x1).1 fun(s:List (List Int))=>decide (s=(aU t).getD x1 ([]:List (List Int))))=false)))->(ae (decide ((x4:Int)<(↑((aa t).length):Int))) ((ab (x4:Int) (aa t).length)/\(((((1:Nat)<=(fX t x1).length)/\(((fX t x1).length<=(12:Nat))/\((aB (fX t x1).length (fX t x1))/\((((aa t).getD (x4:Int).toNat []).length=(fX t x1).length) /\
 (iJ (((aa t).getD (x4:Int).toNat []).length) ((aa t).getD (x4:Int).toNat []))))))/\True)/\((ah (FC.len (FC.r3 IntKind.i64 ((dc t x1).1++List.map (ef (fX t x1)) (List.take x4 (aa t))))+FC.len (FC.r3 IntKind.i64 (ef (fX t x1) ((aa t).getD (x4:Int).toNat [])::([]:List (List (List Int)))))))/\((ac ((x4:Int)+(1:Int)))/\(∃x5:Nat,(((x1<(aU t).length)/\((x5<=(aa t).length)/\((List.any (dc t x1).1 fun(s:List (List Int))=>decide (s=(aU t).getD x1 ([]:List (List Int))))=false)))/\(((aa t).length-x5<(aa t).length-x4)/\((t=t)/\((aa t=aa t)/\(((↑((aU t).length):Int)=(↑((aU t).length):Int))/\(((x1:Int)=(x1:Int))/\((aa t=aa t)/\(((↑((aa t).length):Int)=(↑((aa t).length):Int))/\(((x4:Int)+(1:Int)=(x5:Int))/\((aU t=aU t)/\((x1+(1:Nat)=x1+(1:Nat))/\(((dc t x1).1++List.map (ef (fX t x1)) (List.take x4 (aa t))++ef (fX t x1) ((aa t).getD (x4:Int).toNat [])::([]:List (List (List Int)))=(dc t x1).1++List.map (ef (fX t x1)) (List.take x5 (aa t)))/\((bC t (dc t x1).2=bC t (dc t x1).2)/\((aU t).getD x1 ([]:List (List Int))=(aU t).getD x1 ([]:List (List Int))))))))))))))))))))) ((((t.length<=(144:Nat))/\(∀(r:List Int),r∈t->r.length≠(0:Nat)/\r.length<=(144:Nat)))/\True) /\
 ((ah (FC.len (FC.p3 IntKind.i64 (bC t (dc t x1).2))+FC.len (FC.p3 IntKind.i64 [(t,(aU t).getD x1 ([]:List (List Int)))])))/\((ac ((x1:Int)+(1:Int)))/\(∃x6:Nat,((x6<=(aU t).length)/\(((aU t).length-x6<(aU t).length-x1)/\((t=t)/\((aa t=aa t)/\(((↑((aU t).length):Int)=(↑((aU t).length):Int))/\(((x1:Int)+(1:Int)=(x6:Int))/\((aU t=aU t)/\((x1+(1:Nat)=x6)/\(((dc t x1).1++List.map (ef (fX t x1)) (List.take x4 (aa t))=(dc t x6).1)/\(bC t (dc t x1).2++[(t,(aU t).getD x1 ([]:List (List Int)))]=bC t (dc t x6).2)))))))))))))))))))))) ((bC t (dc t x1).2=bC t ((cW (aa t) (aU t)).2))/\True)))))))
theorem Ko(t:List (List Int)):aY Tryz.prog (aj CY) CX (CW t) Tryz.f54 (aP Tryz.f54) [] [.c (.rows .i64 t)] (pT t)=uX t:=by kernel_rfl
theorem Kp(t:List (List Int))(Yh:(pT t).pre):uX t:=by
 simp only[pT,uX,dc,fX,aX,u1,u2,u3,u4,u5,u6,u7,u8,u9,v1,v2,v3,v4,v5,v6,v7,v8,v9,w1,w2,w3,w4,aN,ab,ac,ah,ax]at Yh⊢;obtain⟨h,hn⟩:=Yh;have G:=my h
 have hcl:=Km G hn
 have hA:=kL G hn
 have hct:=fun c hc=>CU G hn (c:=c) hc
 have hS:=kK G hn
 have hAp:∀j,j<(aa t).length->IsP t.length ((aa t).getD j []):=fun j hj=>(qE G hn (bO _ [] j hj)).p
 have rm:∀i,i<=(aU t).length->∀s∈(cW (aa t) ((aU t).take i)).1,bK s:=fun i hi=>uV (P:=bK) (fun c hc f hf=>CV (Cz (hct c hc) (qE G hn hf).p).tb (by omega)) i hi
 have len:=CT (aa t) (aU t)
 simp only[Int.toNat_natCast,FC.len]at *;refine⟨⟨G.pos,kJ G hn,by rw[hS];omega⟩,⟨h,hn⟩,⟨0,by omega,hS,rfl,rfl,rfl,rfl,rfl,rfl⟩,fun i hi=>⟨fun hlt=>?_,fun hge=>?_⟩⟩
 ·have hlt:i<(aU t).length:=by omega
  have hc:=hct _ (bO (aU t) [] i hlt)
  obtain⟨l1,l2⟩:=len i hi;have l3:i*(aa t).length<=2401*49:=Nat.mul_le_mul (by omega) hA
  have rc:=CV hc (by omega)
  have st:=pR (A:=aa t) hlt
  have hc1:=hc.1
  refine⟨by omega,hlt,⟨by omega,fun x hx=>⟨rm i hi x hx,rc⟩⟩,fun hany=>⟨by omega,i+1,by omega,by omega,by omega,rfl,?_,?_⟩,fun hany=>⟨⟨0,⟨hlt,by omega,hany⟩,rfl,by simp⟩,fun j ⟨_,hj,_⟩=>⟨fun hjl=>?_,fun hjl=>?_⟩⟩⟩
  ·rw[st,je,if_pos hany]
  ·rw[st,je,if_pos hany]
  ·have hjl:j<(aa t).length:=by omega
   have P:=hAp j hjl
   have lp:=P.len
   have eq:(cW (aa t) ((aU t).take i)).1++((aa t).take j).map (ef ((aU t).getD i []))++[ef ((aU t).getD i []) ((aa t).getD j [])]=(cW (aa t) ((aU t).take i)).1++((aa t).take (j+1)).map (ef ((aU t).getD i [])):=by
    rw[<-du (aa t) [] j hjl,List.map_append,List.append_assoc];rfl
   refine⟨by omega,⟨by have:=G.pos;omega,by omega,by rw[hc1];exact hc,by omega,fun k hk=>by rw[lp];exact P.rng k (by omega)⟩,?_,by omega,j+1,⟨hlt,by omega,hany⟩,by omega,by omega,eq⟩
   simp only[List.length_append,List.length_map,List.length_take,List.length_singleton];omega
  ·have ej:j=(aa t).length:=by omega
   have ht:=G.tb
   refine⟨⟨by omega,fun r hr=>?_⟩,?_,by omega,i+1,by omega,by omega,by omega,rfl,?_,?_⟩
   ·obtain⟨k,hk,rfl⟩:=List.getElem_of_mem hr
    have:=(ht.2 k hk).1
    rw[bG t [] k hk]at this;have:=G.pos
    omega
   ·simp only[bC,List.length_map,List.length_singleton];omega
   ·rw[st,je,if_neg (by rw[hany];simp),ej,List.take_length]
   ·rw[st,je,if_neg (by rw[hany];simp)]
    simp[bC]
 ·rw[show i=(aU t).length by omega,List.take_length]
theorem Kq:Fits Tryz.prog 54 ⟨[],uW⟩:=by
 refine bf (Γ:=aj CY) (aD Ge (aD LV (aD Ke (aD Kh (aD J8 (aD Kl aW)))))) Tryz.func54 fun ds p h hp=>?_
 unfold uW at h;split at h
 ·cases h
  exact⟨CX,CW _ ,by rw[Ko];exact Kp _  hp⟩
 ·cases h
end Go.Sx
