/- Table -/
import Derived.Test.YtkmldclpaniclaaGreatProg
import Derived.Test.YtkmldclpaniclaaGreatSxZ
import Derived.KernelRfl
set_option linter.unusedSimpArgs false
set_option linter.unusedVariables false
set_option linter.defProp false
open Go Go.Proofs
namespace Go.Sx
def pu:List AD->Option Post
 | [.c (.int .i64 n),.c (.int .i64 a),.c (.int .i64 b)]=>some ⟨True,.c (.bool (decide (a<=n/\n<=b))),[]⟩
 |_=>none
theorem yf:Fits Tryz.prog 73 ⟨[],pu⟩:=by
 refine ffv (Γ:=af []) aG Tryz.func73 fun ds p h ξ=>?_
 unfold pu at h;split at h<;>cases h
 rename_i n a b
 refine⟨ah,ak,ab (decide (a<=n)) (decide (n<=b)=decide (a<=n/\n<=b)/\True) (false=decide (a<=n/\n<=b)/\True),by kernel_rfl,?_⟩
 simp only[aH]at ξ⊢;refine⟨fun h=>?_,fun h=>?_⟩
 ·simp[h]
 ·simp[h]
def pv:List AD->Option Post
 | [.c (.int .i64 n),.c (.int .i64 a),.c (.int .i64 b)]=>some ⟨True,.c (.bool (decide (a<=n/\n<=b))),[]⟩
 |_=>none
theorem yh:Fits Tryz.prog 71 ⟨[],pv⟩:=by
 refine ffv (Γ:=af []) aG Tryz.func71 fun ds p h ξ=>?_
 unfold pv at h;split at h<;>cases h
 rename_i n a b
 refine⟨ah,ak,ab (decide (a<=n)) (decide (n<=b)=decide (a<=n/\n<=b)/\True) (false=decide (a<=n/\n<=b)/\True),by kernel_rfl,?_⟩
 simp only[aH]at ξ⊢;refine⟨fun h=>?_,fun h=>?_⟩
 ·simp[h]
 ·simp[h]
def dG(lo hi:Int)(l:Db):Bool:=l.all fun x=>decide (lo<=x/\x<=hi)
theorem Rq(lo hi:Int)(l:Db)(i:Nat)(h:i<l.length):dG lo hi (l.drop i)=(decide (lo<=l.getD i 0/\l.getD i 0<=hi)&&dG lo hi (l.drop (i+1))):=by
 rw[drop_cons' l 0 i h];rfl
theorem am2{lo hi:Int}{l:Db}(h:dG lo hi l=true)(i:Nat)(hi':i<l.length):lo<=l.getD i 0/\l.getD i 0<=hi:=by
 rw[cg l 0 i hi'];have:=AM.1 h _ (CJ hi')
 simpa using this
def I8:List AD->Option Post
 | [.c (.ints .i64 l),.c (.int .i64 a),.c (.int .i64 b)]=>some ⟨ar l.length,.c (.bool (dG a b l)),[]⟩
 |_=>none
def Rr(l:Db)(a:Int)(b:Int):Nat->Option Ann
 |0=>U' fun i=>⟨⟨[(1,D' a),(2,D' b),(9,G' l),(10,D' l.length),(11,D' i)],[]⟩,i<=l.length/\dG a b l=dG a b (l.drop i),l.length-i⟩
 |_=>none
theorem am5:Fits Tryz.prog 206 ⟨[],I8⟩:=by
 refine ffv (Γ:=af [(73,⟨[],pu⟩)]) (aj yf aG) Tryz.func206 fun ds p h ξ=>?_
 unfold I8 at h;split at h<;>cases h
 rename_i l a b
 refine⟨ah,Rr l a b,(∃x0:Nat,(x0<=l.length/\dG a b l=dG a b (List.drop x0 l))/\a=a/\b=b/\l=l/\(l.length:Int)=(l.length:Int)/\(0:Int)=(x0:Int))/\∀x1:Nat,x1<=l.length/\dG a b l=dG a b (List.drop x1 l)->ab (decide ((x1:Int)<(l.length:Int))) (aa (x1:Int) l.length/\(True/\True)/\ab (!decide (a<=l.getD (x1:Int).toNat (0:Int)/\l.getD (x1:Int).toNat (0:Int)<=b)) (false=dG a b l/\True) (ae ((x1:Int)+(1:Int))/\∃x2:Nat,(x2<=l.length/\dG a b l=dG a b (List.drop x2 l))/\l.length-x2<l.length-x1/\a=a/\b=b/\l=l/\(l.length:Int)=(l.length:Int)/\(x1:Int)+(1:Int)=(x2:Int))) (true=dG a b l/\True),by kernel_rfl,?_⟩
 simp only[aH]at ξ⊢;refine⟨⟨0,⟨by omega,rfl⟩,rfl⟩,fun i ⟨hi,he⟩=>⟨fun h=>?_,fun h=>?_⟩⟩
 ·have hd:=Rq a b l i (by omega)
  refine⟨by omega,fun h1=>?_,fun h1=>⟨by omega,i+1,⟨by omega,?_⟩,by omega,by omega⟩⟩
  ·rw[he,hd,AZ h1];rfl
  ·rw[he,hd,AY h1];rfl
 ·rw[he,A4 (by omega)];rfl
def yj(l:Dc):Nat:=(l.map List.length).sum
def aD(l:Dc):Prop:=l.length<=1099511627776/\∀r∈l,r.length<=1099511627776
theorem am6{l:Dc}(h:aD l)(i:Nat)(hi:i<l.length):(l.getD i []).length<=1099511627776:=h.2 _ (cU l [] i hi)
theorem pz{α:Type}{l:List α}(d:α)(p:α->Bool){i:Nat}(h:i<l.length):(l.drop i).all p=(p (l.getD i d)&&(l.drop (i+1)).all p):=by
 rw[drop_cons' l d i h];rfl
theorem am7{α:Type}{l:List α}(d:α){p:α->Bool}(h:l.all p=true)(i:Nat)(hi:i<l.length):p (l.getD i d)=true :=
 AM.1 h _ (cU l d i hi)
theorem yk{α:Type}(a b:List α)(r d:α)(i:Nat)(h:a.length=i):(a++r::b).getD i d=r:=by
 rw[getD_append_right' _ _ _ _ (by omega),h,Nat.sub_self];rfl
theorem pA{α:Type}(a b:List α)(r v:α)(i:Nat)(h:a.length=i):(a++r::b).set i v=a++v::b:=by
 rw[List.set_append_right _ _ (by omega),h,Nat.sub_self];rfl
def dR(n:Int)(r:Db):Bool:=decide ((r.length:Int)=n)&&dG 0 (n-1) r
def aM(t:Dc):Bool:=decide (1<=(t.length:Int)/\(t.length:Int)<=12)&&t.all (dR (t.length:Int))
theorem am8{n:Int}{r:Db}(h:dR n r=true):(r.length:Int)=n/\dG 0 (n-1) r=true:=by
 simpa[dR]using h
theorem bT{t:Dc}(h:aM t=true):1<=t.length/\t.length<=12 /\
  ∀x,x<t.length->(t.getD x []).length=t.length/\∀y,y<t.length->0<=(t.getD x []).getD y 0/\(t.getD x []).getD y 0<=(t.length:Int)-1:=by
 simp only[aM,AG,AQ]at h;refine⟨by omega,by omega,fun x hx=>?_⟩
 obtain⟨h1,h2⟩:=am8 (am7 [] h.2 x hx);exact⟨by omega,fun y hy=>am2 h2 y (by omega)⟩
theorem Rt{t:Dc}(h:¬ (1<=(t.length:Int)/\(t.length:Int)<=12)):aM t=false:=by simp only[aM,AZ h,Bq]
def Ja:List AD->Option Post
 | [.c (.rows .i64 t)]=>some ⟨aD t,.c (.bool (aM t)),[]⟩
 |_=>none
def Ru(t:Dc):Nat->Option Ann
 |0=>V' (fun i=>⟨⟨[(0,I' t),(3,D' t.length),(4,D' i)],[]⟩,i<=t.length/\1<=t.length/\t.length<=12/\t.all (dR (t.length:Int))=(t.drop i).all (dR (t.length:Int)),t.length-i⟩) (fun i b_=>match b_ with|2=>U' fun j=>⟨⟨[(0,I' t),(3,D' t.length),(4,D' i),(5,D' j)],[]⟩,j<=t.length/\i<t.length/\(t.getD i []).length=t.length/\dG 0 ((t.length:Int)-1) (t.getD i [])=dG 0 ((t.length:Int)-1) ((t.getD i []).drop j),t.length-j⟩|_=>none)
 |_=>none
theorem an1:Fits Tryz.prog 141 ⟨[],Ja⟩:=by
 refine ffv (Γ:=af [(71,⟨[],pv⟩)]) (aj yh aG) Tryz.func141 fun ds p h ξ=>?_
 unfold Ja at h;split at h<;>cases h
 rename_i t
 refine⟨ah,Ru t,(True/\True)/\ab (!decide ((1:Int)<=(t.length:Int)/\(t.length:Int)<=(12:Int))) (false=aM t/\True) ((∃x0:Nat,(x0<=t.length/\(1:Nat)<=t.length/\t.length<=(12:Nat)/\List.all t (dR (t.length:Int))=List.all (List.drop x0 t) (dR (t.length:Int)))/\t=t/\(t.length:Int)=(t.length:Int)/\(0:Int)=(x0:Int))/\∀x1:Nat,x1<=t.length/\(1:Nat)<=t.length/\t.length<=(12:Nat)/\List.all t (dR (t.length:Int))=List.all (List.drop x1 t) (dR (t.length:Int))->ab (decide ((x1:Int)<(t.length:Int))) (aa (x1:Int) t.length/\ab ((↑((t.getD (x1:Int).toNat []).length):Int) != (t.length:Int)) (false=aM t/\True) ((∃x2:Nat,(x2<=t.length/\x1<t.length/\(t.getD x1 []).length=t.length/\dG (0:Int) ((t.length:Int)-(1:Int)) (t.getD x1 [])=dG (0:Int) ((t.length:Int)-(1:Int)) (List.drop x2 (t.getD x1 [])))/\t=t/\(t.length:Int)=(t.length:Int)/\(x1:Int)=(x1:Int)/\(0:Int)=(x2:Int))/\∀x3:Nat,x3<=t.length/\x1<t.length/\(t.getD x1 []).length=t.length/\dG (0:Int) ((t.length:Int)-(1:Int)) (t.getD x1 [])=dG (0:Int) ((t.length:Int)-(1:Int)) (List.drop x3 (t.getD x1 []))->ab (decide ((x3:Int)<(t.length:Int))) (aa (x1:Int) t.length/\aa (x3:Int) ((t.getD (x1:Int).toNat []).length)/\ae ((t.length:Int)-(1:Int))/\(True/\True)/\ab (!decide ((0:Int)<=(List.getD t (x1:Int).toNat []).getD (x3:Int).toNat (0:Int)/\(List.getD t (x1:Int).toNat []).getD (x3:Int).toNat (0:Int)<=(t.length:Int)-(1:Int))) (false=aM t/\True) (ae ((x3:Int)+(1:Int))/\∃x4:Nat,(x4<=t.length/\x1<t.length/\(t.getD x1 []).length=t.length/\dG (0:Int) ((t.length:Int)-(1:Int)) (t.getD x1 [])=dG (0:Int) ((t.length:Int)-(1:Int)) (List.drop x4 (t.getD x1 [])))/\t.length-x4<t.length-x3/\t=t/\(t.length:Int)=(t.length:Int)/\(x1:Int)=(x1:Int)/\(x3:Int)+(1:Int)=(x4:Int))) (ae ((x1:Int)+(1:Int))/\∃x5:Nat,(x5<=t.length/\(1:Nat)<=t.length/\t.length<=(12:Nat)/\List.all t (dR (t.length:Int))=List.all (List.drop x5 t) (dR (t.length:Int)))/\t.length-x5<t.length-x1/\t=t/\(t.length:Int)=(t.length:Int)/\(x1:Int)+(1:Int)=(x5:Int)))) (true=aM t/\True)),by kernel_rfl,?_⟩
 simp only[aH]at ξ⊢;have hr:=ξ
 refine⟨fun h=>(Rt h).symm,fun hn=>⟨⟨0,⟨by omega,by omega,by omega,rfl⟩,rfl⟩,fun i ⟨hi,_,_,he⟩=>⟨fun h=>?_,fun h=>?_⟩⟩⟩
 ·have hd:=pz [] (dR (t.length:Int)) (show i<t.length by omega)
  have no:dR (t.length:Int) (t.getD i [])=false->false=aM t:=fun h=>by rw[aM,he,hd,h];simp
  refine⟨by omega,fun h1=>no (by rw[dR,AZ h1];rfl),fun h1=>⟨⟨0,⟨by omega,by omega,by omega,rfl⟩,rfl⟩,fun j ⟨hj,_,hl,ha⟩=>⟨fun h2=>?_,fun h2=>?_⟩⟩⟩
  ·have hd2:=Rq 0 ((t.length:Int)-1) (t.getD i []) j (by omega)
   refine⟨by omega,by omega,by omega,fun h3=>no ?_,fun h3=>⟨by omega,j+1,⟨by omega,by omega,hl,?_⟩,by omega,by omega⟩⟩
   ·rw[dR,ha,hd2,AZ h3];simp
   ·rw[ha,hd2,AY h3];rfl
  ·refine⟨by omega,i+1,⟨by omega,by omega,by omega,?_⟩,by omega,by omega⟩
   have:dR (t.length:Int) (t.getD i [])=true:=by
    rw[dR,AY h1,ha,A4 (by omega)];rfl
   rw[he,hd,this];rfl
 ·rw[aM,he,AY hn,A4 (by omega)];rfl
def fV(p:Db->Bool):Dc->Int->Int
 | [],_=>-1
 |x::l,k=>if p x=true then k else fV p l (k+1)
theorem Rw(p:Db->Bool):∀(l:Dc) (k:Int),0<=k->decide (0<=fV p l k)=l.any p
 | [],k,_=>rfl
 |x::l,k,h=>by
  simp only[fV,List.any_cons];by_cases hp:p x=true
  ·simp[hp,h]
  ·simpa[hp]using Rw p l (k+1) (by omega)
def Jc:List AD->Option Post
 | [.c (.rows .i64 l),.fv (.lb q p)]=>some ⟨l.length<=1099511627776/\∀x∈l,q x,.c (.int .i64 (fV p l 0)),[]⟩
 |_=>none
def Rx(l:Dc)(q:Db->Prop)(p:Db->Bool):Nat->Option Ann
 |0=>U' fun i=>⟨⟨[(0,I' l),(1,.fv (.lb q p)),(7,D' l.length),(8,D' i)],[]⟩,i<=l.length/\fV p l 0=fV p (l.drop i) (i:Int),l.length-i⟩
 |_=>none
theorem an4:Fits Tryz.prog 238 ⟨[],Jc⟩:=by
 refine ffv (Γ:=af []) aG Tryz.func238 fun ds p h ξ=>?_
 unfold Jc at h;split at h<;>cases h
 rename_i l q p
 refine⟨ah,Rx l q p,(∃x0:Nat,(x0<=l.length/\fV p l (0:Int)=fV p (List.drop x0 l) (x0:Int))/\l=l/\FV.lb q p=FV.lb q p/\(l.length:Int)=(l.length:Int)/\(0:Int)=(x0:Int))/\∀x1:Nat,x1<=l.length/\fV p l (0:Int)=fV p (List.drop x1 l) (x1:Int)->ab (decide ((x1:Int)<(l.length:Int))) (aa (x1:Int) l.length/\q (l.getD (x1:Int).toNat [])/\ab (p (l.getD (x1:Int).toNat [])) ((x1:Int)=fV p l (0:Int)/\True) (ae ((x1:Int)+(1:Int))/\∃x2:Nat,(x2<=l.length/\fV p l (0:Int)=fV p (List.drop x2 l) (x2:Int))/\l.length-x2<l.length-x1/\l=l/\FV.lb q p=FV.lb q p/\(l.length:Int)=(l.length:Int)/\(x1:Int)+(1:Int)=(x2:Int))) ((-1:Int)=fV p l (0:Int)/\True),by kernel_rfl,?_⟩
 simp only[aH]at ξ⊢;obtain⟨hl,hq⟩:=ξ;refine⟨⟨0,⟨by omega,rfl⟩,rfl⟩,fun i ⟨hi,he⟩=>⟨fun h=>?_,fun h=>?_⟩⟩
 ·rw[drop_cons' l [] i (by omega)]at he
  simp only[fV]at he;refine⟨by omega,hq _ (cU l [] i (by omega)),fun h1=>?_,fun h1=>⟨by omega,i+1,⟨by omega,?_⟩,by omega,by omega⟩⟩
  ·rw[he,AA h1]
  ·rw[he,AB (by rw[h1];exact Bool.false_ne_true)];simp
 ·rw[he,A4 (by omega)];rfl
def yq:List AD->Option Post
 | [.c (.rows .i64 l),.fv (.lb q p)]=>some ⟨l.length<=1099511627776/\∀x∈l,q x,.c (.bool (l.any p)),[]⟩
 |_=>none
theorem RA:Fits Tryz.prog 204 ⟨[],yq⟩:=by
 refine ffv (Γ:=af [(238,⟨[],Jc⟩)]) (aj an4 aG) Tryz.func204 fun ds p h ξ=>?_
 unfold yq at h;split at h<;>cases h
 rename_i l q p
 refine⟨ah,ak,((l.length<=(1099511627776:Nat)/\∀(x:Db),x∈l->q x)/\True)/\decide ((0:Int)<=fV p l (0:Int))=List.any l p/\True,by kernel_rfl,?_⟩
 simp only[aH]at ξ⊢;exact⟨ξ,Rw p l 0 (by omega)⟩
def Jf:List AD->Option Post
 | [.c (.ints .i64 r),.box [.int .i64 n]]=>some ⟨r.length<=1099511627776/\1<=n/\n<=12,.c (.bool (!dR n r)),[]⟩
 |_=>none
theorem an9:Fits Tryz.prog 205 ⟨[],Jf⟩:=by
 refine ffv (Γ:=af [(206,⟨[],I8⟩)]) (aj am5 aG) Tryz.func205 fun ds p h ξ=>?_
 unfold Jf at h;split at h<;>cases h
 rename_i r n
 refine⟨ah,ak,ab ((r.length:Int) != n) (true=!dR n r/\True) (ae (n-(1:Int))/\(ar r.length/\True)/\(!dG (0:Int) (n-(1:Int)) r)=!dR n r/\True),by kernel_rfl,?_⟩
 simp only[aH]at ξ⊢;refine⟨fun h=>by rw[dR,AZ h];rfl,fun h=>⟨by omega,ξ.1,?_⟩⟩
 rw[dR,AY h];simp
def yu:List AD->Option Post
 | [.c (.rows .i64 t)]=>some ⟨aD t,.c (.bool (aM t)),[]⟩
 |_=>none
theorem RE:Fits Tryz.prog 145 ⟨[],yu⟩:=by
 refine ffv (Γ:=af [(73,⟨[],pu⟩),(204,⟨[],yq⟩),(205,⟨[],Jf⟩)]) (aj yf (aj RA (aj an9 aG))) Tryz.func145 fun ds p h ξ=>?_
 unfold yu at h;split at h<;>cases h
 rename_i t
 refine⟨ah,ak,(True/\True)/\ab (decide ((1:Int)<=(t.length:Int)/\(t.length:Int)<=(12:Int))) (((t.length<=(1099511627776:Nat)/\∀(x:Db),x∈t->x.length<=(1099511627776:Nat)/\(1:Int)<=(t.length:Int)/\(t.length:Int)<=(12:Int))/\True)/\(!List.any t fun(x:Db)=>!dR (t.length:Int) x)=aM t/\True) (false=aM t/\True),by kernel_rfl,?_⟩
 simp only[aH]at ξ⊢;refine⟨fun h=>⟨⟨ξ.1,fun x hx=>⟨ξ.2 x hx,h⟩⟩,?_⟩,fun h=>(Rt h).symm⟩
 rw[aM,AY h,Ac,DU,Bool.not_not]
def bq(n:Nat)(f:Nat->Nat->Int):Dc:=(List.range n).map fun x=>ap n (f x)
theorem fb(n:Nat)(f:Nat->Nat->Int):(bq n f).length=n:=by simp[bq]
theorem fG(n:Nat)(f:Nat->Nat->Int)(x:Nat)(h:x<n):(bq n f).getD x []=ap n (f x):=by
 simp[bq,AN,h]
def yw(n:Int)(q:Int->Int->Prop)(p:Int->Int->Int):Post:=⟨0<=n/\n<=144/\(∀x y,0<=x->x<n->0<=y->y<n->q x y),.c (.rows 62 2 .i64 (bq n.toNat (fun x y=>p (x:Int) (y:Int)))),[]⟩
def pB:List AD->Option Post
 | [.c (.int .i64 n),.fv (.iii q p)]=>some (yw n q p)
 |_=>none
def RF(n:Int)(q:Int->Int->Prop)(p:Int->Int->Int):Nat->Option Ann
 |0=>V' (fun i=>⟨⟨[(0,D' n),(1,.fv (.iii q p)),(5,M' 9),(11,D' n),(12,D' i)],[(9,O' (((bq n.toNat (fun x y=>p (x:Int) (y:Int))).take i++List.replicate (n.toNat-i) [])))]⟩,(i:Int)<=n,n.toNat-i⟩) (fun i b_=>match b_ with|2=>U' fun j=>⟨⟨[(0,D' n),(1,.fv (.iii q p)),(5,M' 9),(11,D' n),(12,D' i),(6,D' i),(24,D' n),(25,D' j)],[(9,O' (((bq n.toNat (fun x y=>p (x:Int) (y:Int))).take i++((ap n.toNat fun y=>p (i:Int) (y:Int)).take j++List.replicate (n.toNat-j) 0)::List.replicate (n.toNat-(i+1)) [])))]⟩,(j:Int)<=n/\(i:Int)<n,n.toNat-j⟩|_=>none)
 |_=>none
def RG:List (Nat×Ctr):=[]
def Ji(n:Int)(q:Int->Int->Prop)(p:Int->Int->Int):Prop :=
 ((((0:Int)<=n)/\((n<=n)/\(ar n.toNat)))/\((∃x0:Nat,(((↑x0:Int)<=n)/\((n=n)/\((FV.iii q p=FV.iii q p)/\(((↑((List.replicate n.toNat ([]:Db)).length):Int)=n)/\(((0:Int)=(↑x0:Int))/\(List.replicate n.toNat ([]:Db)=List.take x0 (bq n.toNat fun(x y:Nat)=>p (↑x:Int) (↑y:Int))++List.replicate (n.toNat-x0) ([]:Db))))))))/\(∀x1:Nat,(((↑x1:Int)<=n)->(ab (decide ((↑x1:Int)<n)) ((((0:Int)<=n)/\((n<=n)/\(ar n.toNat)))/\((aa (↑x1:Int) ((List.take x1 (bq n.toNat fun(x y:Nat)=>p (↑x:Int) (↑y:Int))++List.replicate (n.toNat-x1) ([]:Db)).length))/\((aa (↑x1:Int) ((List.set (List.take x1 (bq n.toNat fun(x y:Nat)=>p (↑x:Int) (↑y:Int))++List.replicate (n.toNat-x1) ([]:Db)) (↑x1:Int).toNat (List.replicate n.toNat (0:Int))).length))/\((∃x2:Nat,((((↑x2:Int)<=n)/\((↑x1:Int)<n))/\((n=n)/\((FV.iii q p=FV.iii q p)/\((n=n)/\(((↑x1:Int)=(↑x1:Int))/\(((↑x1:Int)=(↑x1:Int))/\(((↑(((List.set (List.take x1 (bq n.toNat fun(x y:Nat)=>p (↑x:Int) (↑y:Int))++List.replicate (n.toNat-x1) ([]:Db)) (↑x1:Int).toNat (List.replicate n.toNat (0:Int))).getD (↑x1:Int).toNat []).length):Int)=n)/\(((0:Int)=(↑x2:Int)) /\
 (List.set (List.take x1 (bq n.toNat fun(x y:Nat)=>p (↑x:Int) (↑y:Int))++List.replicate (n.toNat-x1) ([]:Db)) (↑x1:Int).toNat (List.replicate n.toNat (0:Int))=List.take x1 (bq n.toNat fun(x y:Nat)=>p (↑x:Int) (↑y:Int))++(List.take x2 (ap n.toNat fun(y:Nat)=>p (↑x1:Int) (↑y:Int))++List.replicate (n.toNat-x2) (0:Int))::List.replicate (n.toNat-(x1+(1:Nat))) []))))))))))/\(∀x3:Nat,((((↑x3:Int)<=n)/\((↑x1:Int)<n))->(ab (decide ((↑x3:Int)<n)) ((aa (↑x1:Int) ((List.take x1 (bq n.toNat fun(x y:Nat)=>p (↑x:Int) (↑y:Int))++(List.take x3 (ap n.toNat fun(y:Nat)=>p (↑x1:Int) (↑y:Int))++List.replicate (n.toNat-x3) (0:Int))::List.replicate (n.toNat-(x1+(1:Nat))) []).length))/\((q (↑x1:Int) (↑x3:Int))/\((aa (↑x3:Int) (((List.take x1 (bq n.toNat fun(x y:Nat)=>p (↑x:Int) (↑y:Int))++(List.take x3 (ap n.toNat fun(y:Nat)=>p (↑x1:Int) (↑y:Int))++List.replicate (n.toNat-x3) (0:Int))::List.replicate (n.toNat-(x1+(1:Nat))) []).getD (↑x1:Int).toNat []).length))/\((ae ((↑x3:Int)+(1:Int)))/\(∃x4:Nat,((((↑x4:Int)<=n)/\((↑x1:Int)<n))/\((n.toNat-x4<n.toNat-x3)/\((n=n)/\((FV.iii q p=FV.iii q p)/\((n=n)/\(((↑x1:Int)=(↑x1:Int))/\(((↑x1:Int)=(↑x1:Int))/\((n=n)/\(((↑x3:Int)+(1:Int)=(↑x4:Int)) /\
 (List.set (List.take x1 (bq n.toNat fun(x y:Nat)=>p (↑x:Int) (↑y:Int))++(List.take x3 (ap n.toNat fun(y:Nat)=>p (↑x1:Int) (↑y:Int))++List.replicate (n.toNat-x3) (0:Int))::List.replicate (n.toNat-(x1+(1:Nat))) []) (↑x1:Int).toNat (List.set ((List.take x1 (bq n.toNat fun(x y:Nat)=>p (↑x:Int) (↑y:Int))++(List.take x3 (ap n.toNat fun(y:Nat)=>p (↑x1:Int) (↑y:Int))++List.replicate (n.toNat-x3) (0:Int))::List.replicate (n.toNat-(x1+(1:Nat))) []).getD (↑x1:Int).toNat []) (↑x3:Int).toNat (p (↑x1:Int) (↑x3:Int)))=List.take x1 (bq n.toNat fun(x y:Nat)=>p (↑x:Int) (↑y:Int))++(List.take x4 (ap n.toNat fun(y:Nat)=>p (↑x1:Int) (↑y:Int))++List.replicate (n.toNat-x4) (0:Int))::List.replicate (n.toNat-(x1+(1:Nat))) []))))))))))))))) ((ae ((↑x1:Int)+(1:Int)))/\(∃x5:Nat,(((↑x5:Int)<=n)/\((n.toNat-x5<n.toNat-x1)/\((n=n)/\((FV.iii q p=FV.iii q p)/\((n=n)/\(((↑x1:Int)+(1:Int)=(↑x5:Int))/\(List.take x1 (bq n.toNat fun(x y:Nat)=>p (↑x:Int) (↑y:Int))++(List.take x3 (ap n.toNat fun(y:Nat)=>p (↑x1:Int) (↑y:Int))++List.replicate (n.toNat-x3) (0:Int))::List.replicate (n.toNat-(x1+(1:Nat))) []=List.take x5 (bq n.toNat fun(x y:Nat)=>p (↑x:Int) (↑y:Int))++List.replicate (n.toNat-x5) ([]:Db)))))))))))))))))
 ((List.take x1 (bq n.toNat fun(x y:Nat)=>p (↑x:Int) (↑y:Int))++List.replicate (n.toNat-x1) ([]:Db)=bq n.toNat fun(x y:Nat)=>p (↑x:Int) (↑y:Int))/\True))))))
theorem ao2(n:Int)(q:Int->Int->Prop)(p:Int->Int->Int):aE Tryz.prog (af RG) ah (RF n q p) Tryz.f124 (aF Tryz.f124) [] [.c (.int .i64 n),.fv (.iii q p)] (yw n q p)=Ji n q p:=by kernel_rfl
theorem ao3(n:Int)(q:Int->Int->Prop)(p:Int->Int->Int)(ξ:(yw n q p).pre):Ji n q p:=by
 simp only[yw,Ji,aH]at ξ⊢;obtain⟨h0,h1,hq⟩:=ξ;have hT:=fb n.toNat fun x y=>p (x:Int) (y:Int)
 have hr:∀i:Nat,(ap n.toNat fun y=>p (i:Int) (y:Int)).length=n.toNat:=fun i=>bK _ _
 refine⟨by omega,⟨0,by omega,by omega,rfl,by simp⟩,fun i hi=>?_⟩
 have hl:((bq n.toNat fun x y=>p (x:Int) (y:Int)).take i).length=i:=by rw[AS];omega
 refine⟨fun h=>?_,fun h=>?_⟩
 ·have hs:((bq n.toNat fun x y=>p (x:Int) (y:Int)).take i++List.replicate (n.toNat-i) ([]:Db)).set i (List.replicate n.toNat 0) =
      (bq n.toNat fun x y=>p (x:Int) (y:Int)).take i++(List.replicate n.toNat 0)::List.replicate (n.toNat-(i+1)) []:=by
   rw[show n.toNat-i=(n.toNat-(i+1))+1 by omega,List.replicate_succ,pA _ _ _ _ _ hl]
  rw[hs];refine⟨by omega,by omega,by omega,⟨0,by omega,?_,rfl,by simp⟩,fun j ⟨hj,_⟩=>⟨fun h2=>?_,fun h2=>?_⟩⟩
  ·rw[yk _ _ _ _ _ hl];simp;omega
  ·rw[yk _ _ _ _ _ hl,pA _ _ _ _ _ hl]
   have hd:((ap n.toNat fun y=>p (i:Int) (y:Int)).take j++List.replicate (n.toNat-j) 0).length=n.toNat:=by
    rw[Al,AS,DR,hr];omega
   rw[hd];refine⟨by omega,hq _ _ (by omega) h (by omega) h2,by omega,by omega,j+1,by omega,by omega,by omega,?_⟩
   have:=yc (ap n.toNat fun y=>p (i:Int) (y:Int)) 0 0 j (by rw[hr];omega)
   rw[hr,cj _ _ _ (by omega)]at this
   rw[this]
  ·refine⟨by omega,i+1,by omega,by omega,by omega,?_⟩
   have e:(ap n.toNat fun y=>p (i:Int) (y:Int)).take j=ap n.toNat fun y=>p (i:Int) (y:Int):=AU (by rw[hr];omega)
   rw[<-eo (bq n.toNat fun x y=>p (x:Int) (y:Int)) [] i (by omega),fG _ _ _ (by omega),show n.toNat-j=0 by omega,e]
   simp
 ·rw[AU (by omega),show n.toNat-i=0 by omega];simp
theorem yx:Fits Tryz.prog 124 ⟨[],pB⟩:=by
 refine aI (Γ:=af RG) aG Tryz.func124 fun ds p h hp=>?_
 unfold pB at h;split at h
 ·cases h
  exact⟨ah,RF _ _ _ ,by rw[ao2];exact ao3 _ _ _  hp⟩
 ·cases h
theorem iZ{n:Nat}{f g:Nat->Nat->Int}(h:∀x y,x<n->y<n->f x y=g x y):bq n f=bq n g:=by
 unfold bq;apply Ch
 intro x hx
 exact nL fun y hy=>h x y (AW.1 hx) hy
theorem pC(n:Nat)(f:Nat->Nat->Int)(h:n<=144):aD (bq n f):=⟨by rw[fb];omega,fun r hr=>by
 simp only[bq,AT]at hr;obtain⟨x,_,rfl⟩:=hr;rw[bK];omega⟩
theorem ao4(n:Nat)(f:Nat->Nat->Int)(h:n<=144):yj (bq n f)<=20736:=by
 have e:yj (bq n f)=n*n:=by
  have:(bq n f).map List.length=List.replicate n n:=by
   apply CW
   ·simp[bq]
   ·intro i h1 h2
    simp[bq,bK]
  rw[yj,this];simp
 rw[e];exact An (BO h h) (by omega)
end Go.Sx
