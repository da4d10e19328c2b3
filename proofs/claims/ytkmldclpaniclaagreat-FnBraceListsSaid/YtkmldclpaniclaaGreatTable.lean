/- Table -/
import Derived.Test.YtkmldclpaniclaaGreatProg
import Derived.Test.YtkmldclpaniclaaGreatSxZ
import Derived.KernelRfl
set_option linter.unusedSimpArgs false
set_option linter.unusedVariables false
set_option linter.defProp false
open Go Go.Proofs
namespace Go.Sx
def qh:List AD->Option Post
 | [.c (.int .i64 n),.c (.int .i64 a),.c (.int .i64 b)]=>some ⟨True,.c (.bool (decide (a<=n/\n<=b))),[]⟩
 |_=>none
def yP:Fits Tryz.prog 73 ⟨[],qh⟩:=by
 refine ffv (Γ:=ah []) aN Tryz.func73 λds p h ξ=>?_
 unfold qh at h;split at h<;>cases h
 rename_i n a b
 refine⟨aj,ar,ab (decide (a<=n)) (decide (n<=b)=decide (a<=n/\n<=b)/\True) (false=decide (a<=n/\n<=b)/\True),by kernel_rfl,?_⟩
 simp only[aO]at ξ⊢;refine⟨λh=>?_,λh=>?_⟩
 ·simp[h]
 ·simp[h]
def sJ:List AD->Option Post
 | [.c (.int .i64 n),.c (.int .i64 a),.c (.int .i64 b)]=>some ⟨True,.c (.bool (decide (a<=n/\n<=b))),[]⟩
 |_=>none
def Kx:Fits Tryz.prog 71 ⟨[],sJ⟩:=by
 refine ffv (Γ:=ah []) aN Tryz.func71 λds p h ξ=>?_
 unfold sJ at h;split at h<;>cases h
 rename_i n a b
 refine⟨aj,ar,ab (decide (a<=n)) (decide (n<=b)=decide (a<=n/\n<=b)/\True) (false=decide (a<=n/\n<=b)/\True),by kernel_rfl,?_⟩
 simp only[aO]at ξ⊢;refine⟨λh=>?_,λh=>?_⟩
 ·simp[h]
 ·simp[h]
def ef(lo hi:Int)(l:D6):Bool:=l.all λx=>decide (lo<=x/\x<=hi)
def Uc(lo hi:Int)(l:D6)(i:Nat)(h:i<l.length):ef lo hi (l.drop i)=(decide (lo<=l.getD i 0/\l.getD i 0<=hi)&&ef lo hi (l.drop (i+1))):=by
 rw[drop_cons' l 0 i h];rfl
def aD6{lo hi:Int}{l:D6}(h:ef lo hi l=true)(i:Nat)(hi':i<l.length):lo<=l.getD i 0/\l.getD i 0<=hi:=by
 rw[bM l 0 i hi'];have:=Ac.1 h _ (A5 hi')
 simpa using this
def Ky:List AD->Option Post
 | [.c (.ints .i64 l),.c (.int .i64 a),.c (.int .i64 b)]=>some ⟨au l.length,.c (.bool (ef a b l)),[]⟩
 |_=>none
def Ud(l:D6)(a:Int)(b:Int):Nat->Option Ann
 |0=>Q' λi=>⟨⟨[(1,A' a),(2,A' b),(9,D' l),(10,A' l.length),(11,A' i)],[]⟩,i<=l.length/\ef a b l=ef a b (l.drop i),l.length-i⟩
 |_=>none
def aD9:Fits Tryz.prog 206 ⟨[],Ky⟩:=by
 refine ffv (Γ:=ah [(73,⟨[],qh⟩)]) (aq yP aN) Tryz.func206 λds p h ξ=>?_
 unfold Ky at h;split at h<;>cases h
 rename_i l a b
 refine⟨aj,Ud l a b,(∃x0:Nat,(x0<=l.length/\ef a b l=ef a b (List.drop x0 l))/\a=a/\b=b/\l=l/\(l.length:Int)=(l.length:Int)/\(0:Int)=(x0:Int))/\∀x1:Nat,x1<=l.length/\ef a b l=ef a b (List.drop x1 l)->ab (decide ((x1:Int)<(l.length:Int))) (ac (x1:Int) l.length/\(True/\True)/\ab (!decide (a<=l.getD (x1:Int).toNat (0:Int)/\l.getD (x1:Int).toNat (0:Int)<=b)) (false=ef a b l/\True) (ae ((x1:Int)+(1:Int))/\∃x2:Nat,(x2<=l.length/\ef a b l=ef a b (List.drop x2 l))/\l.length-x2<l.length-x1/\a=a/\b=b/\l=l/\(l.length:Int)=(l.length:Int)/\(x1:Int)+(1:Int)=(x2:Int))) (true=ef a b l/\True),by kernel_rfl,?_⟩
 simp only[aO]at ξ⊢;refine⟨⟨0,⟨by omega,rfl⟩,rfl⟩,λi ⟨hi,he⟩=>⟨λh=>?_,λh=>?_⟩⟩
 ·have hd:=Uc a b l i (by omega)
  refine⟨by omega,λh1=>?_,λh1=>⟨by omega,i+1,⟨by omega,?_⟩,by omega,by omega⟩⟩
  ·rw[he,hd,Ad h1];rfl
  ·rw[he,hd,Ab h1];rfl
 ·rw[he,BE (by omega)];rfl
def aJ(l:D7):Prop:=l.length<=1099511627776/\∀r∈l,r.length<=1099511627776
def aE0{l:D7}(h:aJ l)(i:Nat)(hi:i<l.length):(l.getD i []).length<=1099511627776:=h.2 _ (bN l [] i hi)
def aE1{α:Type}{l:List α}(d:α)(p:α->Bool){i:Nat}(h:i<l.length):(l.drop i).all p=(p (l.getD i d)&&(l.drop (i+1)).all p):=by
 rw[drop_cons' l d i h];rfl
def aE2{α:Type}{l:List α}(d:α){p:α->Bool}(h:l.all p=true)(i:Nat)(hi:i<l.length):p (l.getD i d)=true :=
 Ac.1 h _ (bN l d i hi)
def KA{α:Type}(a b:List α)(r d:α)(i:Nat)(h:a.length=i):(a++r::b).getD i d=r:=by
 rw[getD_append_right' _ _ _ _ (by omega),h,Nat.sub_self];rfl
def yS{α:Type}(a b:List α)(r v:α)(i:Nat)(h:a.length=i):(a++r::b).set i v=a++v::b:=by
 rw[List.set_append_right _ _ (by omega),h,Nat.sub_self];rfl
def eC(n:Int)(r:D6):Bool:=decide ((r.length:Int)=n)&&ef 0 (n-1) r
def bX(t:D7):Bool:=decide (1<=(t.length:Int)/\(t.length:Int)<=12)&&t.all (eC (t.length:Int))
def aE3{n:Int}{r:D6}(h:eC n r=true):(r.length:Int)=n/\ef 0 (n-1) r=true:=by
 simpa[eC]using h
def gH{t:D7}(h:bX t=true):1<=t.length/\t.length<=12 /\
  ∀x,x<t.length->(t.getD x []).length=t.length/\∀y,y<t.length->0<=(t.getD x []).getD y 0/\(t.getD x []).getD y 0<=(t.length:Int)-1:=by
 simp only[bX,AO,Ai]at h;refine⟨by omega,by omega,λx hx=>?_⟩
 obtain⟨h1,h2⟩:=aE3 (aE2 [] h.2 x hx);exact⟨by omega,λy hy=>aD6 h2 y (by omega)⟩
def Uf{t:D7}(h:¬ (1<=(t.length:Int)/\(t.length:Int)<=12)):bX t=false:=by simp only[bX,Ad h,DO]
def KB:List AD->Option Post
 | [.c (.rows .i64 t)]=>some ⟨aJ t,.c (.bool (bX t)),[]⟩
 |_=>none
def Ug(t:D7):Nat->Option Ann
 |0=>T' (λi=>⟨⟨[(0,G' t),(3,A' t.length),(4,A' i)],[]⟩,i<=t.length/\1<=t.length/\t.length<=12/\t.all (eC (t.length:Int))=(t.drop i).all (eC (t.length:Int)),t.length-i⟩) (λi b_=>match b_ with|2=>Q' λj=>⟨⟨[(0,G' t),(3,A' t.length),(4,A' i),(5,A' j)],[]⟩,j<=t.length/\i<t.length/\(t.getD i []).length=t.length/\ef 0 ((t.length:Int)-1) (t.getD i [])=ef 0 ((t.length:Int)-1) ((t.getD i []).drop j),t.length-j⟩|_=>none)
 |_=>none
def aE6:Fits Tryz.prog 141 ⟨[],KB⟩:=by
 refine ffv (Γ:=ah [(71,⟨[],sJ⟩)]) (aq Kx aN) Tryz.func141 λds p h ξ=>?_
 unfold KB at h;split at h<;>cases h
 rename_i t
 refine⟨aj,Ug t,(True/\True)/\ab (!decide ((1:Int)<=(t.length:Int)/\(t.length:Int)<=(12:Int))) (false=bX t/\True) ((∃x0:Nat,(x0<=t.length/\(1:Nat)<=t.length/\t.length<=(12:Nat)/\List.all t (eC (t.length:Int))=List.all (List.drop x0 t) (eC (t.length:Int)))/\t=t/\(t.length:Int)=(t.length:Int)/\(0:Int)=(x0:Int))/\∀x1:Nat,x1<=t.length/\(1:Nat)<=t.length/\t.length<=(12:Nat)/\List.all t (eC (t.length:Int))=List.all (List.drop x1 t) (eC (t.length:Int))->ab (decide ((x1:Int)<(t.length:Int))) (ac (x1:Int) t.length/\ab ((↑((t.getD (x1:Int).toNat []).length):Int) != (t.length:Int)) (false=bX t/\True) ((∃x2:Nat,(x2<=t.length/\x1<t.length/\(t.getD x1 []).length=t.length/\ef (0:Int) ((t.length:Int)-(1:Int)) (t.getD x1 [])=ef (0:Int) ((t.length:Int)-(1:Int)) (List.drop x2 (t.getD x1 [])))/\t=t/\(t.length:Int)=(t.length:Int)/\(x1:Int)=(x1:Int)/\(0:Int)=(x2:Int))/\∀x3:Nat,x3<=t.length/\x1<t.length/\(t.getD x1 []).length=t.length/\ef (0:Int) ((t.length:Int)-(1:Int)) (t.getD x1 [])=ef (0:Int) ((t.length:Int)-(1:Int)) (List.drop x3 (t.getD x1 []))->ab (decide ((x3:Int)<(t.length:Int))) (ac (x1:Int) t.length/\ac (x3:Int) ((t.getD (x1:Int).toNat []).length)/\ae ((t.length:Int)-(1:Int))/\(True/\True)/\ab (!decide ((0:Int)<=(List.getD t (x1:Int).toNat []).getD (x3:Int).toNat (0:Int)/\(List.getD t (x1:Int).toNat []).getD (x3:Int).toNat (0:Int)<=(t.length:Int)-(1:Int))) (false=bX t/\True) (ae ((x3:Int)+(1:Int))/\∃x4:Nat,(x4<=t.length/\x1<t.length/\(t.getD x1 []).length=t.length/\ef (0:Int) ((t.length:Int)-(1:Int)) (t.getD x1 [])=ef (0:Int) ((t.length:Int)-(1:Int)) (List.drop x4 (t.getD x1 [])))/\t.length-x4<t.length-x3/\t=t/\(t.length:Int)=(t.length:Int)/\(x1:Int)=(x1:Int)/\(x3:Int)+(1:Int)=(x4:Int))) (ae ((x1:Int)+(1:Int))/\∃x5:Nat,(x5<=t.length/\(1:Nat)<=t.length/\t.length<=(12:Nat)/\List.all t (eC (t.length:Int))=List.all (List.drop x5 t) (eC (t.length:Int)))/\t.length-x5<t.length-x1/\t=t/\(t.length:Int)=(t.length:Int)/\(x1:Int)+(1:Int)=(x5:Int)))) (true=bX t/\True)),by kernel_rfl,?_⟩
 simp only[aO]at ξ⊢;have hr:=ξ
 refine⟨λh=>(Uf h).symm,λhn=>⟨⟨0,⟨by omega,by omega,by omega,rfl⟩,rfl⟩,λi ⟨hi,_,_,he⟩=>⟨λh=>?_,λh=>?_⟩⟩⟩
 ·have hd:=aE1 [] (eC (t.length:Int)) (show i<t.length by omega)
  have no:eC (t.length:Int) (t.getD i [])=false->false=bX t:=λh=>by rw[bX,he,hd,h];simp
  refine⟨by omega,λh1=>no (by rw[eC,Ad h1];rfl),λh1=>⟨⟨0,⟨by omega,by omega,by omega,rfl⟩,rfl⟩,λj ⟨hj,_,hl,ha⟩=>⟨λh2=>?_,λh2=>?_⟩⟩⟩
  ·have hd2:=Uc 0 ((t.length:Int)-1) (t.getD i []) j (by omega)
   refine⟨by omega,by omega,by omega,λh3=>no ?_,λh3=>⟨by omega,j+1,⟨by omega,by omega,hl,?_⟩,by omega,by omega⟩⟩
   ·rw[eC,ha,hd2,Ad h3];simp
   ·rw[ha,hd2,Ab h3];rfl
  ·refine⟨by omega,i+1,⟨by omega,by omega,by omega,?_⟩,by omega,by omega⟩
   have:eC (t.length:Int) (t.getD i [])=true:=by
    rw[eC,Ab h1,ha,BE (by omega)];rfl
   rw[he,hd,this];rfl
 ·rw[bX,he,Ab hn,BE (by omega)];rfl
def gk(p:D6->Bool):D7->Int->Int
 | [],_=>-1
 |x::l,k=>if p x=true then k else gk p l (k+1)
def Ui(p:D6->Bool):∀(l:D7) (k:Int),0<=k->decide (0<=gk p l k)=l.any p
 | [],k,_=>rfl
 |x::l,k,h=>by
  simp only[gk,List.any_cons];by_cases hp:p x=true
  ·simp[hp,h]
  ·simpa[hp]using Ui p l (k+1) (by omega)
def KD:List AD->Option Post
 | [.c (.rows .i64 l),.fv (.lb q p)]=>some ⟨l.length<=1099511627776/\∀x∈l,q x,.c (.int .i64 (gk p l 0)),[]⟩
 |_=>none
def Uj(l:D7)(q:D6->Prop)(p:D6->Bool):Nat->Option Ann
 |0=>Q' λi=>⟨⟨[(0,G' l),(1,.fv (.lb q p)),(7,A' l.length),(8,A' i)],[]⟩,i<=l.length/\gk p l 0=gk p (l.drop i) (i:Int),l.length-i⟩
 |_=>none
def aE9:Fits Tryz.prog 238 ⟨[],KD⟩:=by
 refine ffv (Γ:=ah []) aN Tryz.func238 λds p h ξ=>?_
 unfold KD at h;split at h<;>cases h
 rename_i l q p
 refine⟨aj,Uj l q p,(∃x0:Nat,(x0<=l.length/\gk p l (0:Int)=gk p (List.drop x0 l) (x0:Int))/\l=l/\FV.lb q p=FV.lb q p/\(l.length:Int)=(l.length:Int)/\(0:Int)=(x0:Int))/\∀x1:Nat,x1<=l.length/\gk p l (0:Int)=gk p (List.drop x1 l) (x1:Int)->ab (decide ((x1:Int)<(l.length:Int))) (ac (x1:Int) l.length/\q (l.getD (x1:Int).toNat [])/\ab (p (l.getD (x1:Int).toNat [])) ((x1:Int)=gk p l (0:Int)/\True) (ae ((x1:Int)+(1:Int))/\∃x2:Nat,(x2<=l.length/\gk p l (0:Int)=gk p (List.drop x2 l) (x2:Int))/\l.length-x2<l.length-x1/\l=l/\FV.lb q p=FV.lb q p/\(l.length:Int)=(l.length:Int)/\(x1:Int)+(1:Int)=(x2:Int))) ((-1:Int)=gk p l (0:Int)/\True),by kernel_rfl,?_⟩
 simp only[aO]at ξ⊢;obtain⟨hl,hq⟩:=ξ;refine⟨⟨0,⟨by omega,rfl⟩,rfl⟩,λi ⟨hi,he⟩=>⟨λh=>?_,λh=>?_⟩⟩
 ·rw[drop_cons' l [] i (by omega)]at he
  simp only[gk]at he;refine⟨by omega,hq _ (bN l [] i (by omega)),λh1=>?_,λh1=>⟨by omega,i+1,⟨by omega,?_⟩,by omega,by omega⟩⟩
  ·rw[he,AA h1]
  ·rw[he,AB (by rw[h1];exact Bool.false_ne_true)];simp
 ·rw[he,BE (by omega)];rfl
def yW:List AD->Option Post
 | [.c (.rows .i64 l),.fv (.lb q p)]=>some ⟨l.length<=1099511627776/\∀x∈l,q x,.c (.bool (l.any p)),[]⟩
 |_=>none
def Um:Fits Tryz.prog 204 ⟨[],yW⟩:=by
 refine ffv (Γ:=ah [(238,⟨[],KD⟩)]) (aq aE9 aN) Tryz.func204 λds p h ξ=>?_
 unfold yW at h;split at h<;>cases h
 rename_i l q p
 refine⟨aj,ar,((l.length<=(1099511627776:Nat)/\∀(x:D6),x∈l->q x)/\True)/\decide ((0:Int)<=gk p l (0:Int))=List.any l p/\True,by kernel_rfl,?_⟩
 simp only[aO]at ξ⊢;exact⟨ξ,Ui p l 0 (by omega)⟩
def KH:List AD->Option Post
 | [.c (.ints .i64 r),.box [.int .i64 n]]=>some ⟨r.length<=1099511627776/\1<=n/\n<=12,.c (.bool (!eC n r)),[]⟩
 |_=>none
def aF4:Fits Tryz.prog 205 ⟨[],KH⟩:=by
 refine ffv (Γ:=ah [(206,⟨[],Ky⟩)]) (aq aD9 aN) Tryz.func205 λds p h ξ=>?_
 unfold KH at h;split at h<;>cases h
 rename_i r n
 refine⟨aj,ar,ab ((r.length:Int) != n) (true=!eC n r/\True) (ae (n-(1:Int))/\(au r.length/\True)/\(!ef (0:Int) (n-(1:Int)) r)=!eC n r/\True),by kernel_rfl,?_⟩
 simp only[aO]at ξ⊢;refine⟨λh=>by rw[eC,Ad h];rfl,λh=>⟨by omega,ξ.1,?_⟩⟩
 rw[eC,Ab h];simp
def KJ:List AD->Option Post
 | [.c (.rows .i64 t)]=>some ⟨aJ t,.c (.bool (bX t)),[]⟩
 |_=>none
def aF7:Fits Tryz.prog 145 ⟨[],KJ⟩:=by
 refine ffv (Γ:=ah [(73,⟨[],qh⟩),(204,⟨[],yW⟩),(205,⟨[],KH⟩)]) (aq yP (aq Um (aq aF4 aN))) Tryz.func145 λds p h ξ=>?_
 unfold KJ at h;split at h<;>cases h
 rename_i t
 refine⟨aj,ar,(True/\True)/\ab (decide ((1:Int)<=(t.length:Int)/\(t.length:Int)<=(12:Int))) (((t.length<=(1099511627776:Nat)/\∀(x:D6),x∈t->x.length<=(1099511627776:Nat)/\(1:Int)<=(t.length:Int)/\(t.length:Int)<=(12:Int))/\True)/\(!List.any t λ(x:D6)=>!eC (t.length:Int) x)=bX t/\True) (false=bX t/\True),by kernel_rfl,?_⟩
 simp only[aO]at ξ⊢;refine⟨λh=>⟨⟨ξ.1,λx hx=>⟨ξ.2 x hx,h⟩⟩,?_⟩,λh=>(Uf h).symm⟩
 rw[bX,Ab h,Az,Dw,Bool.not_not]
def cb(n:Nat)(f:Nat->Nat->Int):D7:=(List.range n).map λx=>ax n (f x)
def mI(n:Nat)(f:Nat->Nat->Int):(cb n f).length=n:=by simp[cb]
def ou(n:Nat)(f:Nat->Nat->Int)(x:Nat)(h:x<n):(cb n f).getD x []=ax n (f x):=by
 simp[cb,AM,h]
def yZ(n:Int)(q:Int->Int->Prop)(p:Int->Int->Int):Post:=⟨0<=n/\n<=144/\(∀x y,0<=x->x<n->0<=y->y<n->q x y),.c (.rows 62 2 .i64 (cb n.toNat (λx y=>p (x:Int) (y:Int)))),[]⟩
def ow:List AD->Option Post
 | [.c (.int .i64 n),.fv (.iii q p)]=>some (yZ n q p)
 |_=>none
def Up(n:Int)(q:Int->Int->Prop)(p:Int->Int->Int):Nat->Option Ann
 |0=>T' (λi=>⟨⟨[(0,A' n),(1,.fv (.iii q p)),(5,J' 9),(11,A' n),(12,A' i)],[(9,N' (((cb n.toNat (λx y=>p (x:Int) (y:Int))).take i++List.replicate (n.toNat-i) [])))]⟩,(i:Int)<=n,n.toNat-i⟩) (λi b_=>match b_ with|2=>Q' λj=>⟨⟨[(0,A' n),(1,.fv (.iii q p)),(5,J' 9),(11,A' n),(12,A' i),(6,A' i),(24,A' n),(25,A' j)],[(9,N' (((cb n.toNat (λx y=>p (x:Int) (y:Int))).take i++((ax n.toNat λy=>p (i:Int) (y:Int)).take j++List.replicate (n.toNat-j) 0)::List.replicate (n.toNat-(i+1)) [])))]⟩,(j:Int)<=n/\(i:Int)<n,n.toNat-j⟩|_=>none)
 |_=>none
def Uq:List (Nat×Ctr):=[]
def KM(n:Int)(q:Int->Int->Prop)(p:Int->Int->Int):Prop :=
 ((((0:Int)<=n)/\((n<=n)/\(au n.toNat)))/\((∃x0:Nat,(((↑x0:Int)<=n)/\((n=n)/\((FV.iii q p=FV.iii q p)/\(((↑((List.replicate n.toNat ([]:D6)).length):Int)=n)/\(((0:Int)=(↑x0:Int))/\(List.replicate n.toNat ([]:D6)=List.take x0 (cb n.toNat λ(x y:Nat)=>p (↑x:Int) (↑y:Int))++List.replicate (n.toNat-x0) ([]:D6))))))))/\(∀x1:Nat,(((↑x1:Int)<=n)->(ab (decide ((↑x1:Int)<n)) ((((0:Int)<=n)/\((n<=n)/\(au n.toNat)))/\((ac (↑x1:Int) ((List.take x1 (cb n.toNat λ(x y:Nat)=>p (↑x:Int) (↑y:Int))++List.replicate (n.toNat-x1) ([]:D6)).length))/\((ac (↑x1:Int) ((List.set (List.take x1 (cb n.toNat λ(x y:Nat)=>p (↑x:Int) (↑y:Int))++List.replicate (n.toNat-x1) ([]:D6)) (↑x1:Int).toNat (List.replicate n.toNat (0:Int))).length))/\((∃x2:Nat,((((↑x2:Int)<=n)/\((↑x1:Int)<n))/\((n=n)/\((FV.iii q p=FV.iii q p)/\((n=n)/\(((↑x1:Int)=(↑x1:Int))/\(((↑x1:Int)=(↑x1:Int))/\(((↑(((List.set (List.take x1 (cb n.toNat λ(x y:Nat)=>p (↑x:Int) (↑y:Int))++List.replicate (n.toNat-x1) ([]:D6)) (↑x1:Int).toNat (List.replicate n.toNat (0:Int))).getD (↑x1:Int).toNat []).length):Int)=n)/\(((0:Int)=(↑x2:Int)) /\
 (List.set (List.take x1 (cb n.toNat λ(x y:Nat)=>p (↑x:Int) (↑y:Int))++List.replicate (n.toNat-x1) ([]:D6)) (↑x1:Int).toNat (List.replicate n.toNat (0:Int))=List.take x1 (cb n.toNat λ(x y:Nat)=>p (↑x:Int) (↑y:Int))++(List.take x2 (ax n.toNat λ(y:Nat)=>p (↑x1:Int) (↑y:Int))++List.replicate (n.toNat-x2) (0:Int))::List.replicate (n.toNat-(x1+(1:Nat))) []))))))))))/\(∀x3:Nat,((((↑x3:Int)<=n)/\((↑x1:Int)<n))->(ab (decide ((↑x3:Int)<n)) ((ac (↑x1:Int) ((List.take x1 (cb n.toNat λ(x y:Nat)=>p (↑x:Int) (↑y:Int))++(List.take x3 (ax n.toNat λ(y:Nat)=>p (↑x1:Int) (↑y:Int))++List.replicate (n.toNat-x3) (0:Int))::List.replicate (n.toNat-(x1+(1:Nat))) []).length))/\((q (↑x1:Int) (↑x3:Int))/\((ac (↑x3:Int) (((List.take x1 (cb n.toNat λ(x y:Nat)=>p (↑x:Int) (↑y:Int))++(List.take x3 (ax n.toNat λ(y:Nat)=>p (↑x1:Int) (↑y:Int))++List.replicate (n.toNat-x3) (0:Int))::List.replicate (n.toNat-(x1+(1:Nat))) []).getD (↑x1:Int).toNat []).length))/\((ae ((↑x3:Int)+(1:Int)))/\(∃x4:Nat,((((↑x4:Int)<=n)/\((↑x1:Int)<n))/\((n.toNat-x4<n.toNat-x3)/\((n=n)/\((FV.iii q p=FV.iii q p)/\((n=n)/\(((↑x1:Int)=(↑x1:Int))/\(((↑x1:Int)=(↑x1:Int))/\((n=n)/\(((↑x3:Int)+(1:Int)=(↑x4:Int)) /\
 (List.set (List.take x1 (cb n.toNat λ(x y:Nat)=>p (↑x:Int) (↑y:Int))++(List.take x3 (ax n.toNat λ(y:Nat)=>p (↑x1:Int) (↑y:Int))++List.replicate (n.toNat-x3) (0:Int))::List.replicate (n.toNat-(x1+(1:Nat))) []) (↑x1:Int).toNat (List.set ((List.take x1 (cb n.toNat λ(x y:Nat)=>p (↑x:Int) (↑y:Int))++(List.take x3 (ax n.toNat λ(y:Nat)=>p (↑x1:Int) (↑y:Int))++List.replicate (n.toNat-x3) (0:Int))::List.replicate (n.toNat-(x1+(1:Nat))) []).getD (↑x1:Int).toNat []) (↑x3:Int).toNat (p (↑x1:Int) (↑x3:Int)))=List.take x1 (cb n.toNat λ(x y:Nat)=>p (↑x:Int) (↑y:Int))++(List.take x4 (ax n.toNat λ(y:Nat)=>p (↑x1:Int) (↑y:Int))++List.replicate (n.toNat-x4) (0:Int))::List.replicate (n.toNat-(x1+(1:Nat))) []))))))))))))))) ((ae ((↑x1:Int)+(1:Int)))/\(∃x5:Nat,(((↑x5:Int)<=n)/\((n.toNat-x5<n.toNat-x1)/\((n=n)/\((FV.iii q p=FV.iii q p)/\((n=n)/\(((↑x1:Int)+(1:Int)=(↑x5:Int))/\(List.take x1 (cb n.toNat λ(x y:Nat)=>p (↑x:Int) (↑y:Int))++(List.take x3 (ax n.toNat λ(y:Nat)=>p (↑x1:Int) (↑y:Int))++List.replicate (n.toNat-x3) (0:Int))::List.replicate (n.toNat-(x1+(1:Nat))) []=List.take x5 (cb n.toNat λ(x y:Nat)=>p (↑x:Int) (↑y:Int))++List.replicate (n.toNat-x5) ([]:D6)))))))))))))))))
 ((List.take x1 (cb n.toNat λ(x y:Nat)=>p (↑x:Int) (↑y:Int))++List.replicate (n.toNat-x1) ([]:D6)=cb n.toNat λ(x y:Nat)=>p (↑x:Int) (↑y:Int))/\True))))))
def aF8(n:Int)(q:Int->Int->Prop)(p:Int->Int->Int):aP Tryz.prog (ah Uq) aj (Up n q p) Tryz.f124 (aI Tryz.f124) [] [.c (.int .i64 n),.fv (.iii q p)] (yZ n q p)=KM n q p:=by kernel_rfl
def aF9(n:Int)(q:Int->Int->Prop)(p:Int->Int->Int)(ξ:(yZ n q p).pre):KM n q p:=by
 simp only[yZ,KM,aO]at ξ⊢;obtain⟨h0,h1,hq⟩:=ξ;have hT:=mI n.toNat λx y=>p (x:Int) (y:Int)
 have hr:∀i:Nat,(ax n.toNat λy=>p (i:Int) (y:Int)).length=n.toNat:=λi=>d4 _ _
 refine⟨by omega,⟨0,by omega,by omega,rfl,by simp⟩,λi hi=>?_⟩
 have hl:((cb n.toNat λx y=>p (x:Int) (y:Int)).take i).length=i:=by rw[AP];omega
 refine⟨λh=>?_,λh=>?_⟩
 ·have hs:((cb n.toNat fun x y=>p (x:Int) (y:Int)).take i++List.replicate (n.toNat-i) ([]:D6)).set i (List.replicate n.toNat 0) =
      (cb n.toNat λx y=>p (x:Int) (y:Int)).take i++(List.replicate n.toNat 0)::List.replicate (n.toNat-(i+1)) []:=by
   rw[show n.toNat-i=(n.toNat-(i+1))+1 by omega,De,yS _ _ _ _ _ hl]
  rw[hs];refine⟨by omega,by omega,by omega,⟨0,by omega,?_,rfl,by simp⟩,λj ⟨hj,_⟩=>⟨λh2=>?_,λh2=>?_⟩⟩
  ·rw[KA _ _ _ _ _ hl];simp;omega
  ·rw[KA _ _ _ _ _ hl,yS _ _ _ _ _ hl]
   have hd:((ax n.toNat λy=>p (i:Int) (y:Int)).take j++List.replicate (n.toNat-j) 0).length=n.toNat:=by
    rw[Ag,AP,Bn,hr];omega
   rw[hd];refine⟨by omega,hq _ _ (by omega) h (by omega) h2,by omega,by omega,j+1,by omega,by omega,by omega,?_⟩
   have:=yN (ax n.toNat λy=>p (i:Int) (y:Int)) 0 0 j (by rw[hr];omega)
   rw[hr,eA _ _ _ (by omega)]at this
   rw[this]
  ·refine⟨by omega,i+1,by omega,by omega,by omega,?_⟩
   have e:(ax n.toNat λy=>p (i:Int) (y:Int)).take j=ax n.toNat λy=>p (i:Int) (y:Int):=AU (by rw[hr];omega)
   rw[<-dZ (cb n.toNat λx y=>p (x:Int) (y:Int)) [] i (by omega),ou _ _ _ (by omega),show n.toNat-j=0 by omega,e]
   simp
 ·rw[AU (by omega),show n.toNat-i=0 by omega];simp
def sK:Fits Tryz.prog 124 ⟨[],ow⟩:=by
 refine aQ (Γ:=ah Uq) aN Tryz.func124 λds p h hp=>?_
 unfold ow at h;split at h
 ·cases h
  exact⟨aj,Up _ _ _ ,by rw[aF8];exact aF9 _ _ _  hp⟩
 ·cases h
def y8{n:Nat}{f g:Nat->Nat->Int}(h:∀x y,x<n->y<n->f x y=g x y):cb n f=cb n g:=by
 unfold cb;apply B6
 intro x hx
 exact ot λy hy=>h x y (Af.1 hx) hy
def aG0(n:Nat)(f:Nat->Nat->Int)(h:n<=144):aJ (cb n f):=⟨by rw[mI];omega,λr hr=>by
 simp only[cb,AJ]at hr;obtain⟨x,_,rfl⟩:=hr;rw[d4];omega⟩
end Go.Sx
