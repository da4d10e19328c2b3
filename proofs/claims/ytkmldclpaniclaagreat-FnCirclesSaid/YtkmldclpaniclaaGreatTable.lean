/- Table -/
import Derived.Test.YtkmldclpaniclaaGreatProg
import Derived.Test.YtkmldclpaniclaaGreatSxZ
import Derived.KernelRfl
set_option linter.unusedSimpArgs false
set_option linter.unusedVariables false
set_option linter.defProp false
open Go Go.Proofs
namespace Go.Sx
def rp:List AD->Option Post
 | [.c (.int .i64 n),.c (.int .i64 a),.c (.int .i64 b)]=>some ⟨True,.c (.bool (decide (a<=n/\n<=b))),[]⟩
 |_=>none
theorem Is:Fits Tryz.prog 73 ⟨[],rp⟩:=by
 refine ffv (Γ:=ah []) aI Tryz.func73 fun ds p h ξ=>?_
 unfold rp at h;split at h<;>cases h
 rename_i n a b
 refine⟨aj,ar,ab (decide (a<=n)) (decide (n<=b)=decide (a<=n/\n<=b)/\True) (false=decide (a<=n/\n<=b)/\True),by kernel_rfl,?_⟩
 simp only[aJ]at ξ⊢;refine⟨fun h=>?_,fun h=>?_⟩
 ·simp[h]
 ·simp[h]
def wY:List AD->Option Post
 | [.c (.int .i64 n),.c (.int .i64 a),.c (.int .i64 b)]=>some ⟨True,.c (.bool (decide (a<=n/\n<=b))),[]⟩
 |_=>none
theorem Q6:Fits Tryz.prog 71 ⟨[],wY⟩:=by
 refine ffv (Γ:=ah []) aI Tryz.func71 fun ds p h ξ=>?_
 unfold wY at h;split at h<;>cases h
 rename_i n a b
 refine⟨aj,ar,ab (decide (a<=n)) (decide (n<=b)=decide (a<=n/\n<=b)/\True) (false=decide (a<=n/\n<=b)/\True),by kernel_rfl,?_⟩
 simp only[aJ]at ξ⊢;refine⟨fun h=>?_,fun h=>?_⟩
 ·simp[h]
 ·simp[h]
def dK(lo hi:Int)(l:D1):Bool:=l.all fun x=>decide (lo<=x/\x<=hi)
theorem Q7(lo hi:Int)(l:D1)(i:Nat)(h:i<l.length):dK lo hi (l.drop i)=(decide (lo<=l.getD i 0/\l.getD i 0<=hi)&&dK lo hi (l.drop (i+1))):=by
 rw[drop_cons' l 0 i h];rfl
theorem ae0{lo hi:Int}{l:D1}(h:dK lo hi l=true)(i:Nat)(hi':i<l.length):lo<=l.getD i 0/\l.getD i 0<=hi:=by
 rw[bv l 0 i hi'];have:=AW.1 h _ (A7 hi')
 simpa using this
def Iu:List AD->Option Post
 | [.c (.ints .i64 l),.c (.int .i64 a),.c (.int .i64 b)]=>some ⟨am l.length,.c (.bool (dK a b l)),[]⟩
 |_=>none
def Q8(l:D1)(a:Int)(b:Int):Nat->Option Ann
 |0=>Q' fun i=>⟨⟨[(1,A' a),(2,A' b),(9,D' l),(10,A' l.length),(11,A' i)],[]⟩,i<=l.length/\dK a b l=dK a b (l.drop i),l.length-i⟩
 |_=>none
theorem ae3:Fits Tryz.prog 206 ⟨[],Iu⟩:=by
 refine ffv (Γ:=ah [(73,⟨[],rp⟩)]) (aw Is aI) Tryz.func206 fun ds p h ξ=>?_
 unfold Iu at h;split at h<;>cases h
 rename_i l a b
 refine⟨aj,Q8 l a b,(∃x0:Nat,(x0<=l.length/\dK a b l=dK a b (List.drop x0 l))/\a=a/\b=b/\l=l/\(l.length:Int)=(l.length:Int)/\(0:Int)=(x0:Int))/\∀x1:Nat,x1<=l.length/\dK a b l=dK a b (List.drop x1 l)->ab (decide ((x1:Int)<(l.length:Int))) (ac (x1:Int) l.length/\(True/\True)/\ab (!decide (a<=l.getD (x1:Int).toNat (0:Int)/\l.getD (x1:Int).toNat (0:Int)<=b)) (false=dK a b l/\True) (af ((x1:Int)+(1:Int))/\∃x2:Nat,(x2<=l.length/\dK a b l=dK a b (List.drop x2 l))/\l.length-x2<l.length-x1/\a=a/\b=b/\l=l/\(l.length:Int)=(l.length:Int)/\(x1:Int)+(1:Int)=(x2:Int))) (true=dK a b l/\True),by kernel_rfl,?_⟩
 simp only[aJ]at ξ⊢;refine⟨⟨0,⟨by omega,rfl⟩,rfl⟩,fun i ⟨hi,he⟩=>⟨fun h=>?_,fun h=>?_⟩⟩
 ·have hd:=Q7 a b l i (by omega)
  refine⟨by omega,fun h1=>?_,fun h1=>⟨by omega,i+1,⟨by omega,?_⟩,by omega,by omega⟩⟩
  ·rw[he,hd,Ae h1];rfl
  ·rw[he,hd,Aa h1];rfl
 ·rw[he,BF (by omega)];rfl
def nC(l:D2):Nat:=(l.map List.length).sum
def aS(l:D2):Prop:=l.length<=1099511627776/\∀r∈l,r.length<=1099511627776
theorem ae4{l:D2}(h:aS l)(i:Nat)(hi:i<l.length):(l.getD i []).length<=1099511627776:=h.2 _ (bI l [] i hi)
theorem ae5{α:Type}{l:List α}(d:α)(p:α->Bool){i:Nat}(h:i<l.length):(l.drop i).all p=(p (l.getD i d)&&(l.drop (i+1)).all p):=by
 rw[drop_cons' l d i h];rfl
theorem ae6{α:Type}{l:List α}(d:α){p:α->Bool}(h:l.all p=true)(i:Nat)(hi:i<l.length):p (l.getD i d)=true :=
 AW.1 h _ (bI l d i hi)
theorem Iw{α:Type}(a b:List α)(r d:α)(i:Nat)(h:a.length=i):(a++r::b).getD i d=r:=by
 rw[getD_append_right' _ _ _ _ (by omega),h,Nat.sub_self];rfl
theorem w5{α:Type}(a b:List α)(r v:α)(i:Nat)(h:a.length=i):(a++r::b).set i v=a++v::b:=by
 rw[List.set_append_right _ _ (by omega),h,Nat.sub_self];rfl
def dX(n:Int)(r:D1):Bool:=decide ((r.length:Int)=n)&&dK 0 (n-1) r
def cj(t:D2):Bool:=decide (1<=(t.length:Int)/\(t.length:Int)<=12)&&t.all (dX (t.length:Int))
theorem ae7{n:Int}{r:D1}(h:dX n r=true):(r.length:Int)=n/\dK 0 (n-1) r=true:=by
 simpa[dX]using h
theorem iN{t:D2}(h:cj t=true):1<=t.length/\t.length<=12 /\
  ∀x,x<t.length->(t.getD x []).length=t.length/\∀y,y<t.length->0<=(t.getD x []).getD y 0/\(t.getD x []).getD y 0<=(t.length:Int)-1:=by
 simp only[cj,AL,Ab]at h;refine⟨by omega,by omega,fun x hx=>?_⟩
 obtain⟨h1,h2⟩:=ae7 (ae6 [] h.2 x hx);exact⟨by omega,fun y hy=>ae0 h2 y (by omega)⟩
theorem Ra{t:D2}(h:¬ (1<=(t.length:Int)/\(t.length:Int)<=12)):cj t=false:=by simp only[cj,Ae h,DO]
def Ix:List AD->Option Post
 | [.c (.rows .i64 t)]=>some ⟨aS t,.c (.bool (cj t)),[]⟩
 |_=>none
def Rb(t:D2):Nat->Option Ann
 |0=>T' (fun i=>⟨⟨[(0,G' t),(3,A' t.length),(4,A' i)],[]⟩,i<=t.length/\1<=t.length/\t.length<=12/\t.all (dX (t.length:Int))=(t.drop i).all (dX (t.length:Int)),t.length-i⟩) (fun i b_=>match b_ with|2=>Q' fun j=>⟨⟨[(0,G' t),(3,A' t.length),(4,A' i),(5,A' j)],[]⟩,j<=t.length/\i<t.length/\(t.getD i []).length=t.length/\dK 0 ((t.length:Int)-1) (t.getD i [])=dK 0 ((t.length:Int)-1) ((t.getD i []).drop j),t.length-j⟩|_=>none)
 |_=>none
theorem af0:Fits Tryz.prog 141 ⟨[],Ix⟩:=by
 refine ffv (Γ:=ah [(71,⟨[],wY⟩)]) (aw Q6 aI) Tryz.func141 fun ds p h ξ=>?_
 unfold Ix at h;split at h<;>cases h
 rename_i t
 refine⟨aj,Rb t,(True/\True)/\ab (!decide ((1:Int)<=(t.length:Int)/\(t.length:Int)<=(12:Int))) (false=cj t/\True) ((∃x0:Nat,(x0<=t.length/\(1:Nat)<=t.length/\t.length<=(12:Nat)/\List.all t (dX (t.length:Int))=List.all (List.drop x0 t) (dX (t.length:Int)))/\t=t/\(t.length:Int)=(t.length:Int)/\(0:Int)=(x0:Int))/\∀x1:Nat,x1<=t.length/\(1:Nat)<=t.length/\t.length<=(12:Nat)/\List.all t (dX (t.length:Int))=List.all (List.drop x1 t) (dX (t.length:Int))->ab (decide ((x1:Int)<(t.length:Int))) (ac (x1:Int) t.length/\ab ((↑((t.getD (x1:Int).toNat []).length):Int) != (t.length:Int)) (false=cj t/\True) ((∃x2:Nat,(x2<=t.length/\x1<t.length/\(t.getD x1 []).length=t.length/\dK (0:Int) ((t.length:Int)-(1:Int)) (t.getD x1 [])=dK (0:Int) ((t.length:Int)-(1:Int)) (List.drop x2 (t.getD x1 [])))/\t=t/\(t.length:Int)=(t.length:Int)/\(x1:Int)=(x1:Int)/\(0:Int)=(x2:Int))/\∀x3:Nat,x3<=t.length/\x1<t.length/\(t.getD x1 []).length=t.length/\dK (0:Int) ((t.length:Int)-(1:Int)) (t.getD x1 [])=dK (0:Int) ((t.length:Int)-(1:Int)) (List.drop x3 (t.getD x1 []))->ab (decide ((x3:Int)<(t.length:Int))) (ac (x1:Int) t.length/\ac (x3:Int) ((t.getD (x1:Int).toNat []).length)/\af ((t.length:Int)-(1:Int))/\(True/\True)/\ab (!decide ((0:Int)<=(List.getD t (x1:Int).toNat []).getD (x3:Int).toNat (0:Int)/\(List.getD t (x1:Int).toNat []).getD (x3:Int).toNat (0:Int)<=(t.length:Int)-(1:Int))) (false=cj t/\True) (af ((x3:Int)+(1:Int))/\∃x4:Nat,(x4<=t.length/\x1<t.length/\(t.getD x1 []).length=t.length/\dK (0:Int) ((t.length:Int)-(1:Int)) (t.getD x1 [])=dK (0:Int) ((t.length:Int)-(1:Int)) (List.drop x4 (t.getD x1 [])))/\t.length-x4<t.length-x3/\t=t/\(t.length:Int)=(t.length:Int)/\(x1:Int)=(x1:Int)/\(x3:Int)+(1:Int)=(x4:Int))) (af ((x1:Int)+(1:Int))/\∃x5:Nat,(x5<=t.length/\(1:Nat)<=t.length/\t.length<=(12:Nat)/\List.all t (dX (t.length:Int))=List.all (List.drop x5 t) (dX (t.length:Int)))/\t.length-x5<t.length-x1/\t=t/\(t.length:Int)=(t.length:Int)/\(x1:Int)+(1:Int)=(x5:Int)))) (true=cj t/\True)),by kernel_rfl,?_⟩
 simp only[aJ]at ξ⊢;have hr:=ξ
 refine⟨fun h=>(Ra h).symm,fun hn=>⟨⟨0,⟨by omega,by omega,by omega,rfl⟩,rfl⟩,fun i ⟨hi,_,_,he⟩=>⟨fun h=>?_,fun h=>?_⟩⟩⟩
 ·have hd:=ae5 [] (dX (t.length:Int)) (show i<t.length by omega)
  have no:dX (t.length:Int) (t.getD i [])=false->false=cj t:=fun h=>by rw[cj,he,hd,h];simp
  refine⟨by omega,fun h1=>no (by rw[dX,Ae h1];rfl),fun h1=>⟨⟨0,⟨by omega,by omega,by omega,rfl⟩,rfl⟩,fun j ⟨hj,_,hl,ha⟩=>⟨fun h2=>?_,fun h2=>?_⟩⟩⟩
  ·have hd2:=Q7 0 ((t.length:Int)-1) (t.getD i []) j (by omega)
   refine⟨by omega,by omega,by omega,fun h3=>no ?_,fun h3=>⟨by omega,j+1,⟨by omega,by omega,hl,?_⟩,by omega,by omega⟩⟩
   ·rw[dX,ha,hd2,Ae h3];simp
   ·rw[ha,hd2,Aa h3];rfl
  ·refine⟨by omega,i+1,⟨by omega,by omega,by omega,?_⟩,by omega,by omega⟩
   have:dX (t.length:Int) (t.getD i [])=true:=by
    rw[dX,Aa h1,ha,BF (by omega)];rfl
   rw[he,hd,this];rfl
 ·rw[cj,he,Aa hn,BF (by omega)];rfl
def fX(p:D1->Bool):D2->Int->Int
 | [],_=>-1
 |x::l,k=>if p x=true then k else fX p l (k+1)
theorem Re(p:D1->Bool):∀(l:D2) (k:Int),0<=k->decide (0<=fX p l k)=l.any p
 | [],k,_=>rfl
 |x::l,k,h=>by
  simp only[fX,List.any_cons];by_cases hp:p x=true
  ·simp[hp,h]
  ·simpa[hp]using Re p l (k+1) (by omega)
def Iz:List AD->Option Post
 | [.c (.rows .i64 l),.fv (.lb q p)]=>some ⟨l.length<=1099511627776/\∀x∈l,q x,.c (.int .i64 (fX p l 0)),[]⟩
 |_=>none
def Rf(l:D2)(q:D1->Prop)(p:D1->Bool):Nat->Option Ann
 |0=>Q' fun i=>⟨⟨[(0,G' l),(1,.fv (.lb q p)),(7,A' l.length),(8,A' i)],[]⟩,i<=l.length/\fX p l 0=fX p (l.drop i) (i:Int),l.length-i⟩
 |_=>none
theorem af3:Fits Tryz.prog 238 ⟨[],Iz⟩:=by
 refine ffv (Γ:=ah []) aI Tryz.func238 fun ds p h ξ=>?_
 unfold Iz at h;split at h<;>cases h
 rename_i l q p
 refine⟨aj,Rf l q p,(∃x0:Nat,(x0<=l.length/\fX p l (0:Int)=fX p (List.drop x0 l) (x0:Int))/\l=l/\FV.lb q p=FV.lb q p/\(l.length:Int)=(l.length:Int)/\(0:Int)=(x0:Int))/\∀x1:Nat,x1<=l.length/\fX p l (0:Int)=fX p (List.drop x1 l) (x1:Int)->ab (decide ((x1:Int)<(l.length:Int))) (ac (x1:Int) l.length/\q (l.getD (x1:Int).toNat [])/\ab (p (l.getD (x1:Int).toNat [])) ((x1:Int)=fX p l (0:Int)/\True) (af ((x1:Int)+(1:Int))/\∃x2:Nat,(x2<=l.length/\fX p l (0:Int)=fX p (List.drop x2 l) (x2:Int))/\l.length-x2<l.length-x1/\l=l/\FV.lb q p=FV.lb q p/\(l.length:Int)=(l.length:Int)/\(x1:Int)+(1:Int)=(x2:Int))) ((-1:Int)=fX p l (0:Int)/\True),by kernel_rfl,?_⟩
 simp only[aJ]at ξ⊢;obtain⟨hl,hq⟩:=ξ;refine⟨⟨0,⟨by omega,rfl⟩,rfl⟩,fun i ⟨hi,he⟩=>⟨fun h=>?_,fun h=>?_⟩⟩
 ·rw[drop_cons' l [] i (by omega)]at he
  simp only[fX]at he;refine⟨by omega,hq _ (bI l [] i (by omega)),fun h1=>?_,fun h1=>⟨by omega,i+1,⟨by omega,?_⟩,by omega,by omega⟩⟩
  ·rw[he,AA h1]
  ·rw[he,AB (by rw[h1];exact Bool.false_ne_true)];simp
 ·rw[he,BF (by omega)];rfl
def w9:List AD->Option Post
 | [.c (.rows .i64 l),.fv (.lb q p)]=>some ⟨l.length<=1099511627776/\∀x∈l,q x,.c (.bool (l.any p)),[]⟩
 |_=>none
theorem Ri:Fits Tryz.prog 204 ⟨[],w9⟩:=by
 refine ffv (Γ:=ah [(238,⟨[],Iz⟩)]) (aw af3 aI) Tryz.func204 fun ds p h ξ=>?_
 unfold w9 at h;split at h<;>cases h
 rename_i l q p
 refine⟨aj,ar,((l.length<=(1099511627776:Nat)/\∀(x:D1),x∈l->q x)/\True)/\decide ((0:Int)<=fX p l (0:Int))=List.any l p/\True,by kernel_rfl,?_⟩
 simp only[aJ]at ξ⊢;exact⟨ξ,Re p l 0 (by omega)⟩
def IC:List AD->Option Post
 | [.c (.ints .i64 r),.box [.int .i64 n]]=>some ⟨r.length<=1099511627776/\1<=n/\n<=12,.c (.bool (!dX n r)),[]⟩
 |_=>none
theorem af8:Fits Tryz.prog 205 ⟨[],IC⟩:=by
 refine ffv (Γ:=ah [(206,⟨[],Iu⟩)]) (aw ae3 aI) Tryz.func205 fun ds p h ξ=>?_
 unfold IC at h;split at h<;>cases h
 rename_i r n
 refine⟨aj,ar,ab ((r.length:Int) != n) (true=!dX n r/\True) (af (n-(1:Int))/\(am r.length/\True)/\(!dK (0:Int) (n-(1:Int)) r)=!dX n r/\True),by kernel_rfl,?_⟩
 simp only[aJ]at ξ⊢;refine⟨fun h=>by rw[dX,Ae h];rfl,fun h=>⟨by omega,ξ.1,?_⟩⟩
 rw[dX,Aa h];simp
def IF:List AD->Option Post
 | [.c (.rows .i64 t)]=>some ⟨aS t,.c (.bool (cj t)),[]⟩
 |_=>none
theorem ag1:Fits Tryz.prog 145 ⟨[],IF⟩:=by
 refine ffv (Γ:=ah [(73,⟨[],rp⟩),(204,⟨[],w9⟩),(205,⟨[],IC⟩)]) (aw Is (aw Ri (aw af8 aI))) Tryz.func145 fun ds p h ξ=>?_
 unfold IF at h;split at h<;>cases h
 rename_i t
 refine⟨aj,ar,(True/\True)/\ab (decide ((1:Int)<=(t.length:Int)/\(t.length:Int)<=(12:Int))) (((t.length<=(1099511627776:Nat)/\∀(x:D1),x∈t->x.length<=(1099511627776:Nat)/\(1:Int)<=(t.length:Int)/\(t.length:Int)<=(12:Int))/\True)/\(!List.any t fun(x:D1)=>!dX (t.length:Int) x)=cj t/\True) (false=cj t/\True),by kernel_rfl,?_⟩
 simp only[aJ]at ξ⊢;refine⟨fun h=>⟨⟨ξ.1,fun x hx=>⟨ξ.2 x hx,h⟩⟩,?_⟩,fun h=>(Ra h).symm⟩
 rw[cj,Aa h,A9,Du,Bool.not_not]
def b9(n:Nat)(f:Nat->Nat->Int):D2:=(List.range n).map fun x=>au n (f x)
theorem pk(n:Nat)(f:Nat->Nat->Int):(b9 n f).length=n:=by simp[b9]
theorem pm(n:Nat)(f:Nat->Nat->Int)(x:Nat)(h:x<n):(b9 n f).getD x []=au n (f x):=by
 simp[b9,AP,h]
def xc(n:Int)(q:Int->Int->Prop)(p:Int->Int->Int):Post:=⟨0<=n/\n<=144/\(∀x y,0<=x->x<n->0<=y->y<n->q x y),.c (.rows 62 2 .i64 (b9 n.toNat (fun x y=>p (x:Int) (y:Int)))),[]⟩
def xd:List AD->Option Post
 | [.c (.int .i64 n),.fv (.iii q p)]=>some (xc n q p)
 |_=>none
def Rl(n:Int)(q:Int->Int->Prop)(p:Int->Int->Int):Nat->Option Ann
 |0=>T' (fun i=>⟨⟨[(0,A' n),(1,.fv (.iii q p)),(5,J' 9),(11,A' n),(12,A' i)],[(9,N' (((b9 n.toNat (fun x y=>p (x:Int) (y:Int))).take i++List.replicate (n.toNat-i) [])))]⟩,(i:Int)<=n,n.toNat-i⟩) (fun i b_=>match b_ with|2=>Q' fun j=>⟨⟨[(0,A' n),(1,.fv (.iii q p)),(5,J' 9),(11,A' n),(12,A' i),(6,A' i),(24,A' n),(25,A' j)],[(9,N' (((b9 n.toNat (fun x y=>p (x:Int) (y:Int))).take i++((au n.toNat fun y=>p (i:Int) (y:Int)).take j++List.replicate (n.toNat-j) 0)::List.replicate (n.toNat-(i+1)) [])))]⟩,(j:Int)<=n/\(i:Int)<n,n.toNat-j⟩|_=>none)
 |_=>none
def Rm:List (Nat×Ctr):=[]
def IH(n:Int)(q:Int->Int->Prop)(p:Int->Int->Int):Prop :=
 ((((0:Int)<=n)/\((n<=n)/\(am n.toNat)))/\((∃x0:Nat,(((↑x0:Int)<=n)/\((n=n)/\((FV.iii q p=FV.iii q p)/\(((↑((List.replicate n.toNat ([]:D1)).length):Int)=n)/\(((0:Int)=(↑x0:Int))/\(List.replicate n.toNat ([]:D1)=List.take x0 (b9 n.toNat fun(x y:Nat)=>p (↑x:Int) (↑y:Int))++List.replicate (n.toNat-x0) ([]:D1))))))))/\(∀x1:Nat,(((↑x1:Int)<=n)->(ab (decide ((↑x1:Int)<n)) ((((0:Int)<=n)/\((n<=n)/\(am n.toNat)))/\((ac (↑x1:Int) ((List.take x1 (b9 n.toNat fun(x y:Nat)=>p (↑x:Int) (↑y:Int))++List.replicate (n.toNat-x1) ([]:D1)).length))/\((ac (↑x1:Int) ((List.set (List.take x1 (b9 n.toNat fun(x y:Nat)=>p (↑x:Int) (↑y:Int))++List.replicate (n.toNat-x1) ([]:D1)) (↑x1:Int).toNat (List.replicate n.toNat (0:Int))).length))/\((∃x2:Nat,((((↑x2:Int)<=n)/\((↑x1:Int)<n))/\((n=n)/\((FV.iii q p=FV.iii q p)/\((n=n)/\(((↑x1:Int)=(↑x1:Int))/\(((↑x1:Int)=(↑x1:Int))/\(((↑(((List.set (List.take x1 (b9 n.toNat fun(x y:Nat)=>p (↑x:Int) (↑y:Int))++List.replicate (n.toNat-x1) ([]:D1)) (↑x1:Int).toNat (List.replicate n.toNat (0:Int))).getD (↑x1:Int).toNat []).length):Int)=n)/\(((0:Int)=(↑x2:Int)) /\
 (List.set (List.take x1 (b9 n.toNat fun(x y:Nat)=>p (↑x:Int) (↑y:Int))++List.replicate (n.toNat-x1) ([]:D1)) (↑x1:Int).toNat (List.replicate n.toNat (0:Int))=List.take x1 (b9 n.toNat fun(x y:Nat)=>p (↑x:Int) (↑y:Int))++(List.take x2 (au n.toNat fun(y:Nat)=>p (↑x1:Int) (↑y:Int))++List.replicate (n.toNat-x2) (0:Int))::List.replicate (n.toNat-(x1+(1:Nat))) []))))))))))/\(∀x3:Nat,((((↑x3:Int)<=n)/\((↑x1:Int)<n))->(ab (decide ((↑x3:Int)<n)) ((ac (↑x1:Int) ((List.take x1 (b9 n.toNat fun(x y:Nat)=>p (↑x:Int) (↑y:Int))++(List.take x3 (au n.toNat fun(y:Nat)=>p (↑x1:Int) (↑y:Int))++List.replicate (n.toNat-x3) (0:Int))::List.replicate (n.toNat-(x1+(1:Nat))) []).length))/\((q (↑x1:Int) (↑x3:Int))/\((ac (↑x3:Int) (((List.take x1 (b9 n.toNat fun(x y:Nat)=>p (↑x:Int) (↑y:Int))++(List.take x3 (au n.toNat fun(y:Nat)=>p (↑x1:Int) (↑y:Int))++List.replicate (n.toNat-x3) (0:Int))::List.replicate (n.toNat-(x1+(1:Nat))) []).getD (↑x1:Int).toNat []).length))/\((af ((↑x3:Int)+(1:Int)))/\(∃x4:Nat,((((↑x4:Int)<=n)/\((↑x1:Int)<n))/\((n.toNat-x4<n.toNat-x3)/\((n=n)/\((FV.iii q p=FV.iii q p)/\((n=n)/\(((↑x1:Int)=(↑x1:Int))/\(((↑x1:Int)=(↑x1:Int))/\((n=n)/\(((↑x3:Int)+(1:Int)=(↑x4:Int)) /\
 (List.set (List.take x1 (b9 n.toNat fun(x y:Nat)=>p (↑x:Int) (↑y:Int))++(List.take x3 (au n.toNat fun(y:Nat)=>p (↑x1:Int) (↑y:Int))++List.replicate (n.toNat-x3) (0:Int))::List.replicate (n.toNat-(x1+(1:Nat))) []) (↑x1:Int).toNat (List.set ((List.take x1 (b9 n.toNat fun(x y:Nat)=>p (↑x:Int) (↑y:Int))++(List.take x3 (au n.toNat fun(y:Nat)=>p (↑x1:Int) (↑y:Int))++List.replicate (n.toNat-x3) (0:Int))::List.replicate (n.toNat-(x1+(1:Nat))) []).getD (↑x1:Int).toNat []) (↑x3:Int).toNat (p (↑x1:Int) (↑x3:Int)))=List.take x1 (b9 n.toNat fun(x y:Nat)=>p (↑x:Int) (↑y:Int))++(List.take x4 (au n.toNat fun(y:Nat)=>p (↑x1:Int) (↑y:Int))++List.replicate (n.toNat-x4) (0:Int))::List.replicate (n.toNat-(x1+(1:Nat))) []))))))))))))))) ((af ((↑x1:Int)+(1:Int)))/\(∃x5:Nat,(((↑x5:Int)<=n)/\((n.toNat-x5<n.toNat-x1)/\((n=n)/\((FV.iii q p=FV.iii q p)/\((n=n)/\(((↑x1:Int)+(1:Int)=(↑x5:Int))/\(List.take x1 (b9 n.toNat fun(x y:Nat)=>p (↑x:Int) (↑y:Int))++(List.take x3 (au n.toNat fun(y:Nat)=>p (↑x1:Int) (↑y:Int))++List.replicate (n.toNat-x3) (0:Int))::List.replicate (n.toNat-(x1+(1:Nat))) []=List.take x5 (b9 n.toNat fun(x y:Nat)=>p (↑x:Int) (↑y:Int))++List.replicate (n.toNat-x5) ([]:D1)))))))))))))))))
 ((List.take x1 (b9 n.toNat fun(x y:Nat)=>p (↑x:Int) (↑y:Int))++List.replicate (n.toNat-x1) ([]:D1)=b9 n.toNat fun(x y:Nat)=>p (↑x:Int) (↑y:Int))/\True))))))
theorem ag2(n:Int)(q:Int->Int->Prop)(p:Int->Int->Int):aM Tryz.prog (ah Rm) aj (Rl n q p) Tryz.f124 (aF Tryz.f124) [] [.c (.int .i64 n),.fv (.iii q p)] (xc n q p)=IH n q p:=by kernel_rfl
theorem ag3(n:Int)(q:Int->Int->Prop)(p:Int->Int->Int)(ξ:(xc n q p).pre):IH n q p:=by
 simp only[xc,IH,aJ]at ξ⊢;obtain⟨h0,h1,hq⟩:=ξ;have hT:=pk n.toNat fun x y=>p (x:Int) (y:Int)
 have hr:∀i:Nat,(au n.toNat fun y=>p (i:Int) (y:Int)).length=n.toNat:=fun i=>ep _ _
 refine⟨by omega,⟨0,by omega,by omega,rfl,by simp⟩,fun i hi=>?_⟩
 have hl:((b9 n.toNat fun x y=>p (x:Int) (y:Int)).take i).length=i:=by rw[AT];omega
 refine⟨fun h=>?_,fun h=>?_⟩
 ·have hs:((b9 n.toNat fun x y=>p (x:Int) (y:Int)).take i++List.replicate (n.toNat-i) ([]:D1)).set i (List.replicate n.toNat 0) =
      (b9 n.toNat fun x y=>p (x:Int) (y:Int)).take i++(List.replicate n.toNat 0)::List.replicate (n.toNat-(i+1)) []:=by
   rw[show n.toNat-i=(n.toNat-(i+1))+1 by omega,Dc,w5 _ _ _ _ _ hl]
  rw[hs];refine⟨by omega,by omega,by omega,⟨0,by omega,?_,rfl,by simp⟩,fun j ⟨hj,_⟩=>⟨fun h2=>?_,fun h2=>?_⟩⟩
  ·rw[Iw _ _ _ _ _ hl];simp;omega
  ·rw[Iw _ _ _ _ _ hl,w5 _ _ _ _ _ hl]
   have hd:((au n.toNat fun y=>p (i:Int) (y:Int)).take j++List.replicate (n.toNat-j) 0).length=n.toNat:=by
    rw[Ag,AT,Bl,hr];omega
   rw[hd];refine⟨by omega,hq _ _ (by omega) h (by omega) h2,by omega,by omega,j+1,by omega,by omega,by omega,?_⟩
   have:=wU (au n.toNat fun y=>p (i:Int) (y:Int)) 0 0 j (by rw[hr];omega)
   rw[hr,er _ _ _ (by omega)]at this
   rw[this]
  ·refine⟨by omega,i+1,by omega,by omega,by omega,?_⟩
   have e:(au n.toNat fun y=>p (i:Int) (y:Int)).take j=au n.toNat fun y=>p (i:Int) (y:Int):=AU (by rw[hr];omega)
   rw[<-dZ (b9 n.toNat fun x y=>p (x:Int) (y:Int)) [] i (by omega),pm _ _ _ (by omega),show n.toNat-j=0 by omega,e]
   simp
 ·rw[AU (by omega),show n.toNat-i=0 by omega];simp
theorem Rn:Fits Tryz.prog 124 ⟨[],xd⟩:=by
 refine aU (Γ:=ah Rm) aI Tryz.func124 fun ds p h hp=>?_
 unfold xd at h;split at h
 ·cases h
  exact⟨aj,Rl _ _ _ ,by rw[ag2];exact ag3 _ _ _  hp⟩
 ·cases h
theorem ag4{n:Nat}{f g:Nat->Nat->Int}(h:∀x y,x<n->y<n->f x y=g x y):b9 n f=b9 n g:=by
 unfold b9;apply Bk
 intro x hx
 exact nB fun y hy=>h x y (Af.1 hx) hy
theorem ag5(n:Nat)(f:Nat->Nat->Int)(h:n<=144):aS (b9 n f):=⟨by rw[pk];omega,fun r hr=>by
 simp only[b9,AH]at hr;obtain⟨x,_,rfl⟩:=hr;rw[ep];omega⟩
end Go.Sx
