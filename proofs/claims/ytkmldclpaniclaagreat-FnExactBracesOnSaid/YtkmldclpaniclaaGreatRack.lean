/- Rack -/
import Derived.Test.YtkmldclpaniclaaGreatLists
open Go Go.Proofs
namespace Go.Sx
set_option linter.unusedSimpArgs false
set_option linter.unusedVariables false
theorem PE{α:Type}{l:List α}(d:α)(p:α->Bool){i:Nat}(h:i<l.length):(l.drop i).all p=(p (l.getD i d)&&(l.drop (i+1)).all p):=by
 rw[drop_cons' l d i h];rfl
theorem PF{α:Type}{l:List α}(d:α){p:α->Bool}(h:l.all p=true)(i:Nat)(hi:i<l.length):p (l.getD i d)=true :=
 List.all_eq_true.1 h _ (bE l d i hi)
theorem yY{α:Type}(a b:List α)(r d:α)(i:Nat)(h:a.length=i):(a++r::b).getD i d=r:=by
 rw[getD_append_right' _ _ _ _ (by omega),h,Nat.sub_self];rfl
theorem sn{α:Type}(a b:List α)(r v:α)(i:Nat)(h:a.length=i):(a++r::b).set i v=a++v::b:=by
 rw[List.set_append_right _ _ (by omega),h,Nat.sub_self];rfl
def dG(n:Int)(r:List Int):Bool:=decide ((r.length:Int)=n)&&du 0 (n-1) r
def cd(t:List (List Int)):Bool:=decide (1<=(t.length:Int)/\(t.length:Int)<=12)&&t.all (dG (t.length:Int))
theorem PG{n:Int}{r:List Int}(h:dG n r=true):(r.length:Int)=n/\du 0 (n-1) r=true:=by
 simpa[dG]using h
theorem mO{t:List (List Int)}(h:cd t=true):1<=t.length/\t.length<=12 /\
  ∀x,x<t.length->(t.getD x []).length=t.length/\∀y,y<t.length->0<=(t.getD x []).getD y 0/\(t.getD x []).getD y 0<=(t.length:Int)-1:=by
 simp only[cd,Bool.and_eq_true,decide_eq_true_eq]at h;refine⟨by omega,by omega,fun x hx=>?_⟩
 obtain⟨h1,h2⟩:=PG (PF [] h.2 x hx);exact⟨by omega,fun y hy=>N2 h2 y (by omega)⟩
theorem Hc{t:List (List Int)}(h:¬ (1<=(t.length:Int)/\(t.length:Int)<=12)):cd t=false:=by simp only[cd,decide_eq_false h,Bool.false_and]
def sq(t:List (List Int)):Post:=⟨aY t,.c (.bool (cd t)),[]⟩
def yZ:List AD->Option Post
 | [.c (.rows .i64 t)]=>some (sq t)
 |_=>none
def Hd(t:List (List Int)):Nat->Option Ann
 |0=>some (Ann.mk ((Nat)) (fun i=>⟨[(0,.c (.ro (.rows .i64 t))),(3,.c (.int .i64 ((t.length:Int)))),(4,.c (.int .i64 ((i:Int))))],[]⟩) (fun i=>i<=t.length/\1<=t.length/\t.length<=12/\t.all (dG (t.length:Int))=(t.drop i).all (dG (t.length:Int))) (fun i=>t.length-i) (fun i=>fun b_=>match b_ with|2=>some (Ann.mk ((Nat)) (fun j=>⟨[(0,.c (.ro (.rows .i64 t))),(3,.c (.int .i64 ((t.length:Int)))),(4,.c (.int .i64 ((i:Int)))),(5,.c (.int .i64 ((j:Int))))],[]⟩) (fun j=>j<=t.length/\i<t.length/\(t.getD i []).length=t.length/\du 0 ((t.length:Int)-1) (t.getD i [])=du 0 ((t.length:Int)-1) ((t.getD i []).drop j)) (fun j=>t.length-j) (fun _=>ar))|_=>none))
 |_=>none
def He:List (Nat×Ctr):=[(71,⟨[],rB⟩)]
def y6(t:List (List Int)):Prop :=
 ((True/\True)/\(af (!decide ((1:Int)<=(t.length:Int)/\(t.length:Int)<=(12:Int))) (false=cd t/\True) ((∃x0:Nat,(x0<=t.length/\(1:Nat)<=t.length/\t.length<=(12:Nat)/\List.all t (dG (t.length:Int))=List.all (List.drop x0 t) (dG (t.length:Int)))/\t=t/\(t.length:Int)=(t.length:Int)/\(0:Int)=(x0:Int))/\(∀x1:Nat,(x1<=t.length/\(1:Nat)<=t.length/\t.length<=(12:Nat)/\List.all t (dG (t.length:Int))=List.all (List.drop x1 t) (dG (t.length:Int))->(af (decide ((x1:Int)<(t.length:Int))) (ab (x1:Int) t.length/\(af ((↑((t.getD (x1:Int).toNat []).length):Int) != (t.length:Int)) (false=cd t/\True) ((∃x2:Nat,(x2<=t.length/\x1<t.length/\(t.getD x1 []).length=t.length/\du (0:Int) ((t.length:Int)-(1:Int)) (t.getD x1 [])=du (0:Int) ((t.length:Int)-(1:Int)) (List.drop x2 (t.getD x1 [])))/\t=t/\(t.length:Int)=(t.length:Int)/\(x1:Int)=(x1:Int)/\(0:Int)=(x2:Int))/\(∀x3:Nat,(x3<=t.length/\x1<t.length/\(t.getD x1 []).length=t.length/\du (0:Int) ((t.length:Int)-(1:Int)) (t.getD x1 [])=du (0:Int) ((t.length:Int)-(1:Int)) (List.drop x3 (t.getD x1 []))->(af (decide ((x3:Int)<(t.length:Int))) (ab (x1:Int) t.length/\(ab (x3:Int) ((t.getD (x1:Int).toNat []).length)/\(ae ((t.length:Int)-(1:Int))/\((True/\True) /\
 (af (!decide ((0:Int)<=(List.getD t (x1:Int).toNat []).getD (x3:Int).toNat (0:Int)/\(List.getD t (x1:Int).toNat []).getD (x3:Int).toNat (0:Int)<=(t.length:Int)-(1:Int))) ((false=cd t)/\True) ((ae ((x3:Int)+(1:Int)))/\(∃x4:Nat,(((x4<=t.length)/\((x1<t.length)/\(((t.getD x1 []).length=t.length)/\(du (0:Int) ((t.length:Int)-(1:Int)) (t.getD x1 [])=du (0:Int) ((t.length:Int)-(1:Int)) (List.drop x4 (t.getD x1 []))))))/\((t.length-x4<t.length-x3)/\((t=t)/\(((t.length:Int)=(t.length:Int))/\(((x1:Int)=(x1:Int))/\((x3:Int)+(1:Int)=(x4:Int)))))))))))))) ((ae ((x1:Int)+(1:Int)))/\(∃x5:Nat,(((x5<=t.length)/\(((1:Nat)<=t.length)/\((t.length<=(12:Nat))/\(List.all t (dG (t.length:Int))=List.all (List.drop x5 t) (dG (t.length:Int))))))/\((t.length-x5<t.length-x1)/\((t=t)/\(((t.length:Int)=(t.length:Int))/\((x1:Int)+(1:Int)=(x5:Int)))))))))))))) ((true=cd t)/\True)))))))
theorem PH(t:List (List Int)):aP Tryz.prog (ai He) aj (Hd t) Tryz.f141 (aF Tryz.f141) [] [.c (.rows .i64 t)] (sq t)=y6 t:=by kernel_rfl
theorem PI(t:List (List Int))(Yh:(sq t).pre):y6 t:=by
 simp only[sq,y6,aK,u1,u2,u3,u4,u5,u6,u7,u8,u9,v1,v2,v3,v4,v5,v6,v7,v8,v9,w1,w2,w3,w4,aC,ab,ae,ag,av]at Yh⊢;have hr:=Yh
 refine⟨fun h=>(Hc h).symm,fun hn=>⟨⟨0,⟨by omega,by omega,by omega,rfl⟩,rfl⟩,fun i ⟨hi,_,_,he⟩=>⟨fun h=>?_,fun h=>?_⟩⟩⟩
 ·have hd:=PE [] (dG (t.length:Int)) (show i<t.length by omega)
  have no:dG (t.length:Int) (t.getD i [])=false->false=cd t:=fun h=>by rw[cd,he,hd,h];simp
  refine⟨by omega,fun h1=>no (by rw[dG,decide_eq_false h1];rfl),fun h1=>⟨⟨0,⟨by omega,by omega,by omega,rfl⟩,rfl⟩,fun j ⟨hj,_,hl,ha⟩=>⟨fun h2=>?_,fun h2=>?_⟩⟩⟩
  ·have hd2:=Fk 0 ((t.length:Int)-1) (t.getD i []) j (by omega)
   refine⟨by omega,by omega,by omega,fun h3=>no ?_,fun h3=>⟨by omega,j+1,⟨by omega,by omega,hl,?_⟩,by omega,by omega⟩⟩
   ·rw[dG,ha,hd2,decide_eq_false h3];simp
   ·rw[ha,hd2,decide_eq_true h3];rfl
  ·refine⟨by omega,i+1,⟨by omega,by omega,by omega,?_⟩,by omega,by omega⟩
   have:dG (t.length:Int) (t.getD i [])=true:=by
    rw[dG,decide_eq_true h1,ha,List.drop_of_length_le (by omega)];rfl
   rw[he,hd,this];rfl
 ·rw[cd,he,decide_eq_true hn,List.drop_of_length_le (by omega)];rfl
theorem PJ:Fits Tryz.prog 141 ⟨[],yZ⟩:=by
 refine aW (Γ:=ai He) (az Fj aJ) Tryz.func141 fun ds p h hp=>?_
 unfold yZ at h;split at h
 ·cases h
  exact⟨aj,Hd _ ,by rw[PH];exact PI _  hp⟩
 ·cases h
def fg(p:List Int->Bool):List (List Int)->Int->Int
 | [],_=>-1
 |x::l,k=>if p x=true then k else fg p l (k+1)
theorem Hf(p:List Int->Bool):∀(l:List (List Int)) (k:Int),0<=k->decide (0<=fg p l k)=l.any p
 | [],k,_=>rfl
 |x::l,k,h=>by
  simp only[fg,List.any_cons];by_cases hp:p x=true
  ·simp[hp,h]
  ·simpa[hp]using Hf p l (k+1) (by omega)
def sr(l:List (List Int))(q:List Int->Prop)(p:List Int->Bool):Post:=⟨l.length<=1099511627776/\∀x∈l,q x,.c (.int .i64 (fg p l 0)),[]⟩
def y7:List AD->Option Post
 | [.c (.rows .i64 l),.fv (.lb q p)]=>some (sr l q p)
 |_=>none
def Hg(l:List (List Int))(q:List Int->Prop)(p:List Int->Bool):Nat->Option Ann
 |0=>some (Ann.mk ((Nat)) (fun i=>⟨[(0,.c (.ro (.rows .i64 l))),(1,.fv (.lb q p)),(7,.c (.int .i64 ((l.length:Int)))),(8,.c (.int .i64 ((i:Int))))],[]⟩) (fun i=>i<=l.length/\fg p l 0=fg p (l.drop i) (i:Int)) (fun i=>l.length-i) (fun _=>ar))
 |_=>none
def Hh:List (Nat×Ctr):=[]
def y8(l:List (List Int))(q:List Int->Prop)(p:List Int->Bool):Prop :=
 (∃x0:Nat,(x0<=l.length/\fg p l (0:Int)=fg p (List.drop x0 l) (x0:Int))/\l=l/\FV.lb q p=FV.lb q p/\(l.length:Int)=(l.length:Int)/\(0:Int)=(x0:Int))/\∀x1:Nat,x1<=l.length/\fg p l (0:Int)=fg p (List.drop x1 l) (x1:Int)->af (decide ((x1:Int)<(l.length:Int))) (ab (x1:Int) l.length/\q (l.getD (x1:Int).toNat [])/\af (p (l.getD (x1:Int).toNat [])) ((x1:Int)=fg p l (0:Int)/\True) (ae ((x1:Int)+(1:Int))/\∃x2:Nat,(x2<=l.length/\fg p l (0:Int)=fg p (List.drop x2 l) (x2:Int))/\l.length-x2<l.length-x1/\l=l/\FV.lb q p=FV.lb q p/\(l.length:Int)=(l.length:Int)/\(x1:Int)+(1:Int)=(x2:Int))) ((-1:Int)=fg p l (0:Int)/\True)
theorem PK(l:List (List Int))(q:List Int->Prop)(p:List Int->Bool):aP Tryz.prog (ai Hh) aj (Hg l q p) Tryz.f238 (aF Tryz.f238) [] [.c (.rows .i64 l),.fv (.lb q p)] (sr l q p)=y8 l q p:=by kernel_rfl
theorem PN(l:List (List Int))(q:List Int->Prop)(p:List Int->Bool)(Yh:(sr l q p).pre):y8 l q p:=by
 simp only[sr,y8,aK,u1,u2,u3,u4,u5,u6,u7,u8,u9,v1,v2,v3,v4,v5,v6,v7,v8,v9,w1,w2,w3,w4,aC,ab,ae,ag,av]at Yh⊢;obtain⟨hl,hq⟩:=Yh;refine⟨⟨0,⟨by omega,rfl⟩,rfl⟩,fun i ⟨hi,he⟩=>⟨fun h=>?_,fun h=>?_⟩⟩
 ·rw[drop_cons' l [] i (by omega)]at he
  simp only[fg]at he;refine⟨by omega,hq _ (bE l [] i (by omega)),fun h1=>?_,fun h1=>⟨by omega,i+1,⟨by omega,?_⟩,by omega,by omega⟩⟩
  ·rw[he,if_pos h1]
  ·rw[he,if_neg (by rw[h1];exact Bool.false_ne_true)];simp
 ·rw[he,List.drop_of_length_le (by omega)];rfl
theorem PO:Fits Tryz.prog 238 ⟨[],y7⟩:=by
 refine aW (Γ:=ai Hh) aJ Tryz.func238 fun ds p h hp=>?_
 unfold y7 at h;split at h
 ·cases h
  exact⟨aj,Hg _ _ _ ,by rw[PK];exact PN _ _ _  hp⟩
 ·cases h
def ss(l:List (List Int))(q:List Int->Prop)(p:List Int->Bool):Post:=⟨l.length<=1099511627776/\∀x∈l,q x,.c (.bool (l.any p)),[]⟩
def su:List AD->Option Post
 | [.c (.rows .i64 l),.fv (.lb q p)]=>some (ss l q p)
 |_=>none
def Hi:List (Nat×Ctr):=[(238,⟨[],y7⟩)]
def y9(l:List (List Int))(q:List Int->Prop)(p:List Int->Bool):Prop :=
 ((l.length<=(1099511627776:Nat)/\∀(x:List Int),x∈l->q x)/\True)/\decide ((0:Int)<=fg p l (0:Int))=List.any l p/\True
theorem PP(l:List (List Int))(q:List Int->Prop)(p:List Int->Bool):aP Tryz.prog (ai Hi) aj ar Tryz.f204 (aF Tryz.f204) [] [.c (.rows .i64 l),.fv (.lb q p)] (ss l q p)=y9 l q p:=by kernel_rfl
theorem PQ(l:List (List Int))(q:List Int->Prop)(p:List Int->Bool)(Yh:(ss l q p).pre):y9 l q p:=by
 simp only[ss,y9,aK,u1,u2,u3,u4,u5,u6,u7,u8,u9,v1,v2,v3,v4,v5,v6,v7,v8,v9,w1,w2,w3,w4,aC,ab,ae,ag,av]at Yh⊢;exact⟨Yh,Hf p l 0 (by omega)⟩
theorem Hj:Fits Tryz.prog 204 ⟨[],su⟩:=by
 refine aW (Γ:=ai Hi) (az PO aJ) Tryz.func204 fun ds p h hp=>?_
 unfold su at h;split at h
 ·cases h
  exact⟨aj,ar,by rw[PP];exact PQ _ _ _  hp⟩
 ·cases h
def sw(r:List Int)(n:Int):Post:=⟨r.length<=1099511627776/\1<=n/\n<=12,.c (.bool (!dG n r)),[]⟩
def za:List AD->Option Post
 | [.c (.ints .i64 r),.box [.int .i64 n]]=>some (sw r n)
 |_=>none
def Hk:List (Nat×Ctr):=[(206,⟨[],xJ⟩)]
def zb(r:List Int)(n:Int):Prop :=
 af ((r.length:Int) != n) (true=!dG n r/\True) (ae (n-(1:Int))/\(ag r.length/\True)/\(!du (0:Int) (n-(1:Int)) r)=!dG n r/\True)
theorem PR(r:List Int)(n:Int):aP Tryz.prog (ai Hk) aj ar Tryz.f205 (aF Tryz.f205) [] [.c (.ints .i64 r),.box [.int .i64 n]] (sw r n)=zb r n:=by kernel_rfl
theorem PS(r:List Int)(n:Int)(Yh:(sw r n).pre):zb r n:=by
 simp only[sw,zb,aK,u1,u2,u3,u4,u5,u6,u7,u8,u9,v1,v2,v3,v4,v5,v6,v7,v8,v9,w1,w2,w3,w4,aC,ab,ae,ag,av]at Yh⊢;refine⟨fun h=>by rw[dG,decide_eq_false h];rfl,fun h=>⟨by omega,Yh.1,?_⟩⟩
 rw[dG,decide_eq_true h];simp
theorem PT:Fits Tryz.prog 205 ⟨[],za⟩:=by
 refine aW (Γ:=ai Hk) (az N5 aJ) Tryz.func205 fun ds p h hp=>?_
 unfold za at h;split at h
 ·cases h
  exact⟨aj,ar,by rw[PR];exact PS _ _  hp⟩
 ·cases h
def sx(t:List (List Int)):Post:=⟨aY t,.c (.bool (cd t)),[]⟩
def zc:List AD->Option Post
 | [.c (.rows .i64 t)]=>some (sx t)
 |_=>none
def Hl:List (Nat×Ctr):=[(73,⟨[],nV⟩),(204,⟨[],su⟩),(205,⟨[],za⟩)]
def zd(t:List (List Int)):Prop :=
 (True/\True)/\af (decide ((1:Int)<=(t.length:Int)/\(t.length:Int)<=(12:Int))) (((t.length<=(1099511627776:Nat)/\∀(x:List Int),x∈t->x.length<=(1099511627776:Nat)/\(1:Int)<=(t.length:Int)/\(t.length:Int)<=(12:Int))/\True)/\(!List.any t fun(x:List Int)=>!dG (t.length:Int) x)=cd t/\True) (false=cd t/\True)
theorem PU(t:List (List Int)):aP Tryz.prog (ai Hl) aj ar Tryz.f145 (aF Tryz.f145) [] [.c (.rows .i64 t)] (sx t)=zd t:=by kernel_rfl
theorem PV(t:List (List Int))(Yh:(sx t).pre):zd t:=by
 simp only[sx,zd,aK,u1,u2,u3,u4,u5,u6,u7,u8,u9,v1,v2,v3,v4,v5,v6,v7,v8,v9,w1,w2,w3,w4,aC,ab,ae,ag,av]at Yh⊢;refine⟨fun h=>⟨⟨Yh.1,fun x hx=>⟨Yh.2 x hx,h⟩⟩,?_⟩,fun h=>(Hc h).symm⟩
 rw[cd,decide_eq_true h,Bool.true_and,List.all_eq_not_any_not,Bool.not_not]
theorem PW:Fits Tryz.prog 145 ⟨[],zc⟩:=by
 refine aW (Γ:=ai Hl) (az xH (az Hj (az PT aJ))) Tryz.func145 fun ds p h hp=>?_
 unfold zc at h;split at h
 ·cases h
  exact⟨aj,ar,by rw[PU];exact PV _  hp⟩
 ·cases h
def bZ(n:Nat)(f:Nat->Nat->Int):List (List Int):=(List.range n).map fun x=>aM n (f x)
theorem sy(n:Nat)(f:Nat->Nat->Int):(bZ n f).length=n:=by simp[bZ]
theorem sA(n:Nat)(f:Nat->Nat->Int)(x:Nat)(h:x<n):(bZ n f).getD x []=aM n (f x):=by
 simp[bZ,List.getD_eq_getElem?_getD,h]
def sB(n:Int)(q:Int->Int->Prop)(p:Int->Int->Int):Post:=⟨0<=n/\n<=144/\(∀x y,0<=x->x<n->0<=y->y<n->q x y),.c (.rows 62 2 .i64 (bZ n.toNat (fun x y=>p (x:Int) (y:Int)))),[]⟩
def sC:List AD->Option Post
 | [.c (.int .i64 n),.fv (.iii q p)]=>some (sB n q p)
 |_=>none
def Hm(n:Int)(q:Int->Int->Prop)(p:Int->Int->Int):Nat->Option Ann
 |0=>some (Ann.mk ((Nat)) (fun i=>⟨[(0,.c (.int .i64 n)),(1,.fv (.iii q p)),(5,.c (.own 9)),(11,.c (.int .i64 n)),(12,.c (.int .i64 ((i:Int))))],[(9,some (.rows 0 62 2 .i64 ((bZ n.toNat (fun x y=>p (x:Int) (y:Int))).take i++List.replicate (n.toNat-i) [])))]⟩) (fun i=>(i:Int)<=n) (fun i=>n.toNat-i) (fun i=>fun b_=>match b_ with|2=>some (Ann.mk ((Nat)) (fun j=>⟨[(0,.c (.int .i64 n)),(1,.fv (.iii q p)),(5,.c (.own 9)),(11,.c (.int .i64 n)),(12,.c (.int .i64 ((i:Int)))),(6,.c (.int .i64 ((i:Int)))),(24,.c (.int .i64 n)),(25,.c (.int .i64 ((j:Int))))],[(9,some (.rows 0 62 2 .i64 ((bZ n.toNat (fun x y=>p (x:Int) (y:Int))).take i++((aM n.toNat fun y=>p (i:Int) (y:Int)).take j++List.replicate (n.toNat-j) 0)::List.replicate (n.toNat-(i+1)) [])))]⟩) (fun j=>(j:Int)<=n/\(i:Int)<n) (fun j=>n.toNat-j) (fun _=>ar))|_=>none))
 |_=>none
def Hn:List (Nat×Ctr):=[]
def ze(n:Int)(q:Int->Int->Prop)(p:Int->Int->Int):Prop :=
 (((0:Int)<=n/\n<=n/\ag n.toNat)/\((∃x0:Nat,(x0:Int)<=n/\n=n/\FV.iii q p=FV.iii q p/\(↑((List.replicate n.toNat ([]:List Int)).length):Int)=n/\(0:Int)=(x0:Int)/\List.replicate n.toNat ([]:List Int)=List.take x0 (bZ n.toNat fun(x y:Nat)=>p (x:Int) (y:Int))++List.replicate (n.toNat-x0) ([]:List Int))/\(∀x1:Nat,((x1:Int)<=n->(af (decide ((x1:Int)<n)) (((0:Int)<=n/\n<=n/\ag n.toNat)/\(ab (x1:Int) ((List.take x1 (bZ n.toNat fun(x y:Nat)=>p (x:Int) (y:Int))++List.replicate (n.toNat-x1) ([]:List Int)).length)/\(ab (x1:Int) ((List.set (List.take x1 (bZ n.toNat fun(x y:Nat)=>p (x:Int) (y:Int))++List.replicate (n.toNat-x1) ([]:List Int)) (x1:Int).toNat (List.replicate n.toNat (0:Int))).length)/\((∃x2:Nat,(((x2:Int)<=n/\(x1:Int)<n)/\(n=n/\(FV.iii q p=FV.iii q p/\(n=n/\((x1:Int)=(x1:Int)/\((x1:Int)=(x1:Int)/\((↑(((List.set (List.take x1 (bZ n.toNat fun(x y:Nat)=>p (x:Int) (y:Int))++List.replicate (n.toNat-x1) ([]:List Int)) (x1:Int).toNat (List.replicate n.toNat (0:Int))).getD (x1:Int).toNat []).length):Int)=n/\(((0:Int)=(x2:Int)) /\
 (List.set (List.take x1 (bZ n.toNat fun(x y:Nat)=>p (x:Int) (y:Int))++List.replicate (n.toNat-x1) ([]:List Int)) (x1:Int).toNat (List.replicate n.toNat (0:Int))=List.take x1 (bZ n.toNat fun(x y:Nat)=>p (x:Int) (y:Int))++(List.take x2 (aM n.toNat fun(y:Nat)=>p (x1:Int) (y:Int))++List.replicate (n.toNat-x2) (0:Int))::List.replicate (n.toNat-(x1+(1:Nat))) []))))))))))/\(∀x3:Nat,((((x3:Int)<=n)/\((x1:Int)<n))->(af (decide ((x3:Int)<n)) ((ab (x1:Int) ((List.take x1 (bZ n.toNat fun(x y:Nat)=>p (x:Int) (y:Int))++(List.take x3 (aM n.toNat fun(y:Nat)=>p (x1:Int) (y:Int))++List.replicate (n.toNat-x3) (0:Int))::List.replicate (n.toNat-(x1+(1:Nat))) []).length))/\((q (x1:Int) (x3:Int))/\((ab (x3:Int) (((List.take x1 (bZ n.toNat fun(x y:Nat)=>p (x:Int) (y:Int))++(List.take x3 (aM n.toNat fun(y:Nat)=>p (x1:Int) (y:Int))++List.replicate (n.toNat-x3) (0:Int))::List.replicate (n.toNat-(x1+(1:Nat))) []).getD (x1:Int).toNat []).length))/\((ae ((x3:Int)+(1:Int)))/\(∃x4:Nat,((((x4:Int)<=n)/\((x1:Int)<n))/\((n.toNat-x4<n.toNat-x3)/\((n=n)/\((FV.iii q p=FV.iii q p)/\((n=n)/\(((x1:Int)=(x1:Int))/\(((x1:Int)=(x1:Int))/\((n=n)/\(((x3:Int)+(1:Int)=(x4:Int)) /\
 (List.set (List.take x1 (bZ n.toNat fun(x y:Nat)=>p (x:Int) (y:Int))++(List.take x3 (aM n.toNat fun(y:Nat)=>p (x1:Int) (y:Int))++List.replicate (n.toNat-x3) (0:Int))::List.replicate (n.toNat-(x1+(1:Nat))) []) (x1:Int).toNat (List.set ((List.take x1 (bZ n.toNat fun(x y:Nat)=>p (x:Int) (y:Int))++(List.take x3 (aM n.toNat fun(y:Nat)=>p (x1:Int) (y:Int))++List.replicate (n.toNat-x3) (0:Int))::List.replicate (n.toNat-(x1+(1:Nat))) []).getD (x1:Int).toNat []) (x3:Int).toNat (p (x1:Int) (x3:Int)))=List.take x1 (bZ n.toNat fun(x y:Nat)=>p (x:Int) (y:Int))++(List.take x4 (aM n.toNat fun(y:Nat)=>p (x1:Int) (y:Int))++List.replicate (n.toNat-x4) (0:Int))::List.replicate (n.toNat-(x1+(1:Nat))) []))))))))))))))) ((ae ((x1:Int)+(1:Int)))/\(∃x5:Nat,(((x5:Int)<=n)/\((n.toNat-x5<n.toNat-x1)/\((n=n)/\((FV.iii q p=FV.iii q p)/\((n=n)/\(((x1:Int)+(1:Int)=(x5:Int))/\(List.take x1 (bZ n.toNat fun(x y:Nat)=>p (x:Int) (y:Int))++(List.take x3 (aM n.toNat fun(y:Nat)=>p (x1:Int) (y:Int))++List.replicate (n.toNat-x3) (0:Int))::List.replicate (n.toNat-(x1+(1:Nat))) []=List.take x5 (bZ n.toNat fun(x y:Nat)=>p (x:Int) (y:Int))++List.replicate (n.toNat-x5) ([]:List Int)))))))))))))))))
 ((List.take x1 (bZ n.toNat fun(x y:Nat)=>p (x:Int) (y:Int))++List.replicate (n.toNat-x1) ([]:List Int)=bZ n.toNat fun(x y:Nat)=>p (x:Int) (y:Int))/\True))))))
theorem PX(n:Int)(q:Int->Int->Prop)(p:Int->Int->Int):aP Tryz.prog (ai Hn) aj (Hm n q p) Tryz.f124 (aF Tryz.f124) [] [.c (.int .i64 n),.fv (.iii q p)] (sB n q p)=ze n q p:=by kernel_rfl
theorem PY(n:Int)(q:Int->Int->Prop)(p:Int->Int->Int)(Yh:(sB n q p).pre):ze n q p:=by
 simp only[sB,ze,aK,u1,u2,u3,u4,u5,u6,u7,u8,u9,v1,v2,v3,v4,v5,v6,v7,v8,v9,w1,w2,w3,w4,aC,ab,ae,ag,av]at Yh⊢;obtain⟨h0,h1,hq⟩:=Yh;have hT:=sy n.toNat fun x y=>p (x:Int) (y:Int)
 have hr:∀i:Nat,(aM n.toNat fun y=>p (i:Int) (y:Int)).length=n.toNat:=fun i=>fL _ _
 refine⟨by omega,⟨0,by omega,by omega,rfl,by simp⟩,fun i hi=>?_⟩
 have hl:((bZ n.toNat fun x y=>p (x:Int) (y:Int)).take i).length=i:=by rw[List.length_take];omega
 refine⟨fun h=>?_,fun h=>?_⟩
 ·have hs:((bZ n.toNat fun x y=>p (x:Int) (y:Int)).take i++List.replicate (n.toNat-i) ([]:List Int)).set i (List.replicate n.toNat 0) =
      (bZ n.toNat fun x y=>p (x:Int) (y:Int)).take i++(List.replicate n.toNat 0)::List.replicate (n.toNat-(i+1)) []:=by
   rw[show n.toNat-i=(n.toNat-(i+1))+1 by omega,List.replicate_succ,sn _ _ _ _ _ hl]
  rw[hs];refine⟨by omega,by omega,by omega,⟨0,by omega,?_,rfl,by simp⟩,fun j ⟨hj,_⟩=>⟨fun h2=>?_,fun h2=>?_⟩⟩
  ·rw[yY _ _ _ _ _ hl];simp;omega
  ·rw[yY _ _ _ _ _ hl,sn _ _ _ _ _ hl]
   have hd:((aM n.toNat fun y=>p (i:Int) (y:Int)).take j++List.replicate (n.toNat-j) 0).length=n.toNat:=by
    rw[List.length_append,List.length_take,List.length_replicate,hr];omega
   rw[hd];refine⟨by omega,hq _ _ (by omega) h (by omega) h2,by omega,by omega,j+1,by omega,by omega,by omega,?_⟩
   have:=po (aM n.toNat fun y=>p (i:Int) (y:Int)) 0 0 j (by rw[hr];omega)
   rw[hr,eY _ _ _ (by omega)]at this
   rw[this]
  ·refine⟨by omega,i+1,by omega,by omega,by omega,?_⟩
   have e:(aM n.toNat fun y=>p (i:Int) (y:Int)).take j=aM n.toNat fun y=>p (i:Int) (y:Int):=List.take_of_length_le (by rw[hr];omega)
   rw[<-da (bZ n.toNat fun x y=>p (x:Int) (y:Int)) [] i (by omega),sA _ _ _ (by omega),show n.toNat-j=0 by omega,e]
   simp
 ·rw[List.take_of_length_le (by omega),show n.toNat-i=0 by omega];simp
theorem Ho:Fits Tryz.prog 124 ⟨[],sC⟩:=by
 refine aW (Γ:=ai Hn) aJ Tryz.func124 fun ds p h hp=>?_
 unfold sC at h;split at h
 ·cases h
  exact⟨aj,Hm _ _ _ ,by rw[PX];exact PY _ _ _  hp⟩
 ·cases h
theorem PZ{n:Nat}{f g:Nat->Nat->Int}(h:∀x y,x<n->y<n->f x y=g x y):bZ n f=bZ n g:=by
 unfold bZ;apply List.map_congr_left
 intro x hx
 exact l9 fun y hy=>h x y (List.mem_range.1 hx) hy
theorem P0(n:Nat)(f:Nat->Nat->Int)(h:n<=144):aY (bZ n f):=⟨by rw[sy];omega,fun r hr=>by
 simp only[bZ,List.mem_map]at hr;obtain⟨x,_,rfl⟩:=hr;rw[fL];omega⟩
theorem kZ:∀{a b:List Int},a.Nodup->(∀x∈a,x∈b)->a.length<=b.length
 | [],_,_,_=>Nat.zero_le _
 |x::a,b,hn,hs=>by
  rw[List.nodup_cons]at hn;have h1:x∈b:=hs x (by simp)
  have h2:=kZ (b:=b.erase x) hn.2 fun y hy=>(List.mem_erase_of_ne (by rintro rfl;exact hn.1 hy)).2 (hs y (by simp[hy]))
  rw[List.length_erase_of_mem h1]at h2;have:=List.length_pos_of_mem h1
  simp only[List.length_cons];omega
def ints(n:Nat):List Int:=(List.range n).map fun i:Nat=>(i:Int)
theorem zf:∀n,(ints n).Nodup
 |0=>by simp[ints]
 |n+1=>by
  have:ints (n+1)=ints n++[(n:Int)]:=by simp[ints,List.range_succ]
  rw[this,List.nodup_append];refine⟨zf n,by simp,fun a ha b hb=>?_⟩
  simp only[ints,List.mem_map,List.mem_range]at ha;obtain⟨i,hi,rfl⟩:=ha;simp at hb
  omega
theorem mP{n:Nat}{x:Int}:x∈ints n↔0<=x/\x<(n:Int):=by
 simp only[ints,List.mem_map,List.mem_range];exact⟨by rintro⟨i,hi,rfl⟩;omega,fun h=>⟨x.toNat,by omega,by omega⟩⟩
def cH(l:List Int):Bool:=decide ((∀x∈l,0<=x/\x<(l.length:Int))/\l.Nodup)
theorem zg{l:List Int}:cH l=true↔∀x:Int,0<=x->x<(l.length:Int)->x∈l:=by
 simp only[cH,decide_eq_true_eq]
 constructor
 ·rintro⟨h1,h2⟩ x hx hx2
  refine Classical.byContradiction fun hn=>?_
  have:=kZ (a:=x::l) (b:=ints l.length) (List.nodup_cons.2 ⟨hn,h2⟩) fun y hy=>by
   rcases List.mem_cons.1 hy with rfl|hy
   ·exact mP.2 ⟨hx,hx2⟩
   ·exact mP.2 (h1 y hy)
  simp[ints]at this
  omega
 ·intro h
  have sub:∀l':List Int,l'.length<l.length->¬ ∀x∈ints l.length,x∈l':=fun l' hl hc=>by
   have:=kZ (zf l.length) hc
   simp[ints]at this
   omega
  have hall:∀x∈ints l.length,x∈l:=fun x hx=>h x (mP.1 hx).1 (mP.1 hx).2
  refine⟨fun x hx=>Classical.byContradiction fun hn=>?_,Classical.byContradiction fun hn=>?_⟩
  ·refine sub (l.erase x) (by rw[List.length_erase_of_mem hx];have:=List.length_pos_of_mem hx;omega) fun y hy=>?_
   exact(List.mem_erase_of_ne (by rintro rfl;exact hn (mP.1 hy))).2 (hall y hy)
  ·rw[List.nodup_iff_count]at hn
   simp only[Classical.not_forall]at hn;obtain⟨a,ha⟩:=hn;have hm:a∈l:=List.count_pos_iff.1 (by omega)
   have hm2:a∈l.erase a:=List.count_pos_iff.1 (by rw[List.count_erase_self];omega)
   refine sub (l.erase a) (by rw[List.length_erase_of_mem hm];have:=List.length_pos_of_mem hm;omega) fun y hy=>?_
   by_cases hya:y=a
   ·rw[hya];exact hm2
   ·exact(List.mem_erase_of_ne hya).2 (hall y hy)
def bf(x:Int):List Int->Int->Int
 | [],_=>-1
 |y::l,k=>if y=x then k else bf x l (k+1)
theorem Hp(x:Int):∀(l:List Int) (k:Int),0<=k->decide (0<=bf x l k)=decide (x∈l)
 | [],k,_=>by simp[bf]
 |y::l,k,h=>by
  simp only[bf,List.mem_cons];by_cases hp:y=x
  ·simp[hp,h]
  ·simp only[hp,if_false,Hp x l (k+1) (by omega)]
   have:¬ x=y:=fun e=>hp e.symm
   simp[this]
def sD(l:List Int)(n:Int):Post:=⟨l.length<=1099511627776,.c (.int .i64 (bf n l 0)),[]⟩
def zh:List AD->Option Post
 | [.c (.ints .i64 l),.c (.int .i64 n)]=>some (sD l n)
 |_=>none
def Hq(l:List Int)(n:Int):Nat->Option Ann
 |0=>some (Ann.mk ((Nat)) (fun i=>⟨[(0,.c (.ro (.ints .i64 l))),(1,.c (.int .i64 n)),(5,.c (.int .i64 ((i:Int))))],[]⟩) (fun i=>i<=l.length/\bf n l 0=bf n (l.drop i) (i:Int)) (fun i=>l.length-i) (fun _=>ar))
 |_=>none
def Hr:List (Nat×Ctr):=[]
def zi(l:List Int)(n:Int):Prop :=
 (∃x0:Nat,(x0<=l.length/\bf n l (0:Int)=bf n (List.drop x0 l) (x0:Int))/\l=l/\n=n/\(0:Int)=(x0:Int))/\∀x1:Nat,x1<=l.length/\bf n l (0:Int)=bf n (List.drop x1 l) (x1:Int)->af (decide ((x1:Int)<(l.length:Int))) (ab (x1:Int) l.length/\af (l.getD (x1:Int).toNat (0:Int) == n) ((x1:Int)=bf n l (0:Int)/\True) (ae ((x1:Int)+(1:Int))/\∃x2:Nat,(x2<=l.length/\bf n l (0:Int)=bf n (List.drop x2 l) (x2:Int))/\l.length-x2<l.length-x1/\l=l/\n=n/\(x1:Int)+(1:Int)=(x2:Int))) ((-1:Int)=bf n l (0:Int)/\True)
theorem P1(l:List Int)(n:Int):aP Tryz.prog (ai Hr) aj (Hq l n) Tryz.f211 (aF Tryz.f211) [] [.c (.ints .i64 l),.c (.int .i64 n)] (sD l n)=zi l n:=by kernel_rfl
theorem P2(l:List Int)(n:Int)(Yh:(sD l n).pre):zi l n:=by
 simp only[sD,zi,aK,u1,u2,u3,u4,u5,u6,u7,u8,u9,v1,v2,v3,v4,v5,v6,v7,v8,v9,w1,w2,w3,w4,aC,ab,ae,ag,av]at Yh⊢;refine⟨⟨0,⟨by omega,rfl⟩,rfl⟩,fun i ⟨hi,he⟩=>⟨fun h=>?_,fun h=>?_⟩⟩
 ·rw[drop_cons' l 0 i (by omega)]at he
  simp only[bf]at he;refine⟨by omega,fun h1=>?_,fun h1=>⟨by omega,i+1,⟨by omega,?_⟩,by omega,by omega⟩⟩
  ·rw[he,if_pos h1]
  ·rw[he,if_neg h1];simp
 ·rw[he,List.drop_of_length_le (by omega)];rfl
theorem P3:Fits Tryz.prog 211 ⟨[],zh⟩:=by
 refine aW (Γ:=ai Hr) aJ Tryz.func211 fun ds p h hp=>?_
 unfold zh at h;split at h
 ·cases h
  exact⟨aj,Hq _ _ ,by rw[P1];exact P2 _ _  hp⟩
 ·cases h
def sE(l:List Int)(n:Int):Post:=⟨l.length<=1099511627776,.c (.bool (decide (n∈l))),[]⟩
def sF:List AD->Option Post
 | [.c (.ints .i64 l),.c (.int .i64 n)]=>some (sE l n)
 |_=>none
def Hs:List (Nat×Ctr):=[(211,⟨[],zh⟩)]
def zj(l:List Int)(n:Int):Prop :=
 (l.length<=(1099511627776:Nat)/\True)/\decide ((0:Int)<=bf n l (0:Int))=decide (n∈l)/\True
theorem P4(l:List Int)(n:Int):aP Tryz.prog (ai Hs) aj ar Tryz.f182 (aF Tryz.f182) [] [.c (.ints .i64 l),.c (.int .i64 n)] (sE l n)=zj l n:=by kernel_rfl
theorem P5(l:List Int)(n:Int)(Yh:(sE l n).pre):zj l n:=by
 simp only[sE,zj,aK,u1,u2,u3,u4,u5,u6,u7,u8,u9,v1,v2,v3,v4,v5,v6,v7,v8,v9,w1,w2,w3,w4,aC,ab,ae,ag,av]at Yh⊢;exact⟨Yh,Hp n l 0 (by omega)⟩
theorem Ht:Fits Tryz.prog 182 ⟨[],sF⟩:=by
 refine aW (Γ:=ai Hs) (az P3 aJ) Tryz.func182 fun ds p h hp=>?_
 unfold sF at h;split at h
 ·cases h
  exact⟨aj,ar,by rw[P4];exact P5 _ _  hp⟩
 ·cases h
def sG(l:List Int):Post:=⟨l.length<=1099511627776,.c (.bool (decide (1<=(l.length:Int)/\(l.length:Int)<=12)&&cH l)),[]⟩
def zk:List AD->Option Post
 | [.c (.ints .i64 l)]=>some (sG l)
 |_=>none
def Hu(l:List Int):Nat->Option Ann
 |0=>some (Ann.mk ((Nat)) (fun i=>⟨[(0,.c (.ro (.ints .i64 l))),(3,.c (.int .i64 ((l.length:Int)))),(4,.c (.int .i64 ((i:Int))))],[]⟩) (fun i=>i<=l.length/\∀x:Int,0<=x->x<(i:Int)->x∈l) (fun i=>l.length-i) (fun _=>ar))
 |_=>none
def Hv:List (Nat×Ctr):=[(71,⟨[],rB⟩),(182,⟨[],sF⟩)]
def zm(l:List Int):Prop :=
 (True/\True)/\af (!decide ((1:Int)<=(l.length:Int)/\(l.length:Int)<=(12:Int))) (false=(decide ((1:Int)<=(l.length:Int)/\(l.length:Int)<=(12:Int))&&cH l)/\True) ((∃x0:Nat,(x0<=l.length/\∀(x:Int),(0:Int)<=x->x<(x0:Int)->x∈l)/\l=l/\(l.length:Int)=(l.length:Int)/\(0:Int)=(x0:Int))/\∀x1:Nat,(x1<=l.length/\∀(x:Int),(0:Int)<=x->x<(x1:Int)->x∈l)->af (decide ((x1:Int)<(l.length:Int))) ((l.length<=(1099511627776:Nat)/\True)/\af (!decide ((x1:Int)∈l)) (false=(decide ((1:Int)<=(l.length:Int)/\(l.length:Int)<=(12:Int))&&cH l)/\True) (ae ((x1:Int)+(1:Int))/\∃x2:Nat,(x2<=l.length/\∀(x:Int),(0:Int)<=x->x<(x2:Int)->x∈l)/\l.length-x2<l.length-x1/\l=l/\(l.length:Int)=(l.length:Int)/\(x1:Int)+(1:Int)=(x2:Int))) (true=(decide ((1:Int)<=(l.length:Int)/\(l.length:Int)<=(12:Int))&&cH l)/\True))
theorem P6(l:List Int):aP Tryz.prog (ai Hv) aj (Hu l) Tryz.f131 (aF Tryz.f131) [] [.c (.ints .i64 l)] (sG l)=zm l:=by kernel_rfl
theorem P7(l:List Int)(Yh:(sG l).pre):zm l:=by
 simp only[sG,zm,aK,u1,u2,u3,u4,u5,u6,u7,u8,u9,v1,v2,v3,v4,v5,v6,v7,v8,v9,w1,w2,w3,w4,aC,ab,ae,ag,av]at Yh⊢;refine⟨fun h=>by rw[decide_eq_false h];rfl,fun h=>⟨⟨0,⟨by omega,fun x a b=>by omega⟩,rfl⟩,fun i ⟨hi,he⟩=>⟨fun h2=>⟨Yh,fun h3=>?_,fun h3=>⟨by omega,i+1,⟨by omega,fun x a b=>?_⟩,by omega,by omega⟩⟩,fun h2=>?_⟩⟩⟩
 ·have:cH l=false:=by
   cases hb:cH l with
   |false=>rfl
   |true=>exact absurd (zg.1 hb i (by omega) h2) h3
  rw[this,Bool.and_false]
 ·by_cases hx:x=(i:Int)
  ·rw[hx];exact h3
  ·exact he x a (by omega)
 ·rw[decide_eq_true h,zg.2 fun x a b=>he x a (by omega)];rfl
theorem P8:Fits Tryz.prog 131 ⟨[],zk⟩:=by
 refine aW (Γ:=ai Hv) (az Fj (az Ht aJ)) Tryz.func131 fun ds p h hp=>?_
 unfold zk at h;split at h
 ·cases h
  exact⟨aj,Hu _ ,by rw[P6];exact P7 _  hp⟩
 ·cases h
def eG(n:Nat)(l:List Int):List Bool:=(List.range n).map fun i:Nat=>decide ((i:Int)∈l)
theorem Hw(n:Nat)(l:List Int):(eG n l).length=n:=by simp[eG]
theorem Hx(n:Nat)(l:List Int)(k:Nat)(h:k<n):(eG n l).getD k false=decide ((k:Int)∈l):=by
 simp[eG,List.getD_eq_getElem?_getD,h]
theorem P9(n:Nat):eG n []=List.replicate n false:=by
 apply List.ext_getElem
 ·simp[eG]
 ·intro i h1 h2
  simp[eG]
theorem Qa(n:Nat)(l:List Int)(k:Nat)(h:k<n):(eG n l).set k true=eG n (l++[(k:Int)]):=by
 apply List.ext_getElem
 ·simp[eG]
 ·intro i h1 h2
  simp only[eG,List.getElem_set,List.getElem_map,List.getElem_range,List.mem_append,List.mem_singleton];by_cases hk:k=i
  ·subst hk;simp
  ·have:¬ (i:Int)=(k:Int):=by omega
   simp[hk,this]
def sH(l:List Int):Post:=⟨l.length<=1099511627776,.c (.bool (cH l)),[]⟩
def zn:List AD->Option Post
 | [.c (.ints .i64 l)]=>some (sH l)
 |_=>none
def Hy(l:List Int):Nat->Option Ann
 |0=>some (Ann.mk ((Nat)) (fun i=>⟨[(0,.c (.ro (.ints .i64 l))),(3,.c (.own 8)),(9,.c (.ro (.ints .i64 l))),(10,.c (.int .i64 ((l.length:Int)))),(11,.c (.int .i64 ((i:Int))))],[(8,some (.bools 4 (eG l.length (l.take i))))]⟩) (fun i=>i<=l.length/\(∀x∈l.take i,0<=x/\x<(l.length:Int))/\(l.take i).Nodup) (fun i=>l.length-i) (fun _=>ar))
 |_=>none
def Hz:List (Nat×Ctr):=[(73,⟨[],nV⟩)]
def zo(l:List Int):Prop :=
 (((0:Int)<=(l.length:Int)/\(l.length:Int)<=(l.length:Int)/\ag ((l.length:Int).toNat))/\((∃x0:Nat,(x0<=l.length/\(∀(x:Int),x∈List.take x0 l->(0:Int)<=x/\x<(l.length:Int))/\List.Nodup (List.take x0 l))/\l=l/\l=l/\(l.length:Int)=(l.length:Int)/\(0:Int)=(x0:Int)/\List.replicate ((l.length:Int).toNat) false=eG l.length (List.take x0 l))/\(∀x1:Nat,(x1<=l.length/\(∀(x:Int),x∈List.take x1 l->(0:Int)<=x/\x<(l.length:Int))/\List.Nodup (List.take x1 l)->(af (decide ((x1:Int)<(l.length:Int))) (ab (x1:Int) l.length/\(ae ((l.length:Int)-(1:Int))/\((True/\True)/\(af (!decide ((0:Int)<=l.getD (x1:Int).toNat (0:Int)/\l.getD (x1:Int).toNat (0:Int)<=(l.length:Int)-(1:Int))) (false=cH l/\True) (ab (l.getD (x1:Int).toNat (0:Int)) ((eG l.length (List.take x1 l)).length)/\(af ((eG l.length (List.take x1 l)).getD ((l.getD (x1:Int).toNat (0:Int)).toNat) false) (false=cH l/\True) (ab (l.getD (x1:Int).toNat (0:Int)) ((eG l.length (List.take x1 l)).length)/\(ae ((x1:Int)+(1:Int))/\(∃x2:Nat,((x2<=l.length/\(∀(x:Int),x∈List.take x2 l->(0:Int)<=x/\x<(l.length:Int))/\List.Nodup (List.take x2 l))/\(l.length-x2<l.length-x1/\(l=l/\(l=l/\((l.length:Int)=(l.length:Int)/\(((x1:Int)+(1:Int)=(x2:Int)) /\
 (List.set (eG l.length (List.take x1 l)) ((l.getD (x1:Int).toNat (0:Int)).toNat) true=eG l.length (List.take x2 l))))))))))))))))) ((true=cH l)/\True))))))
theorem Qb(l:List Int):aP Tryz.prog (ai Hz) aj (Hy l) Tryz.f208 (aF Tryz.f208) [] [.c (.ints .i64 l)] (sH l)=zo l:=by kernel_rfl
theorem Qc(l:List Int)(Yh:(sH l).pre):zo l:=by
 simp only[sH,zo,aK,u1,u2,u3,u4,u5,u6,u7,u8,u9,v1,v2,v3,v4,v5,v6,v7,v8,v9,w1,w2,w3,w4,aC,ab,ae,ag,av]at Yh⊢;refine⟨by omega,⟨0,⟨by omega,by simp,by simp⟩,rfl,(P9 _).symm⟩,fun i ⟨hi,h1,h2⟩=>⟨fun h=>⟨by omega,by omega,fun h3=>?_,fun h3=>⟨?_,fun h4=>?_,fun h4=>⟨?_,by omega,i+1,⟨by omega,fun x hx=>?_,?_⟩,by omega,by omega,?_⟩⟩⟩,fun h=>?_⟩⟩
 ·exact(decide_eq_false fun e=>h3 (by have:=e.1 _ (bE l 0 i (by omega));omega)).symm
 ·rw[Hw];omega
 ·rw[Hx _ _ _ (by omega),decide_eq_true_eq]at h4
  rw[show(((l.getD i 0).toNat:Nat):Int)=l.getD i 0 by omega]at h4
  refine(decide_eq_false fun e=>?_).symm
  have h5:(l.take (i+1)).Nodup:=List.Pairwise.sublist (List.take_sublist _ _) e.2
  rw[<-da l 0 i (by omega),List.nodup_append]at h5
  exact h5.2.2 _ h4 _ (by simp) rfl
 ·rw[Hw];omega
 ·rw[<-da l 0 i (by omega),List.mem_append]at hx
  rcases hx with hx|hx
  ·exact h1 x hx
  ·simp only[List.mem_singleton]at hx
   rw[hx];omega
 ·rw[Hx _ _ _ (by omega),decide_eq_false_iff_not]at h4
  rw[show(((l.getD i 0).toNat:Nat):Int)=l.getD i 0 by omega]at h4
  rw[<-da l 0 i (by omega),List.nodup_append]
  refine⟨h2,by simp,fun a ha b hb=>?_⟩
  simp only[List.mem_singleton]at hb
  rintro rfl
  rw[hb]at ha;exact h4 ha
 ·rw[<-da l 0 i (by omega),Qa _ _ _ (by omega),show(((l.getD i 0).toNat:Nat):Int)=l.getD i 0 by omega]
 ·rw[List.take_of_length_le (by omega)]at h1 h2
  exact(decide_eq_true ⟨h1,h2⟩).symm
theorem Qd:Fits Tryz.prog 208 ⟨[],zn⟩:=by
 refine aW (Γ:=ai Hz) (az xH aJ) Tryz.func208 fun ds p h hp=>?_
 unfold zn at h;split at h
 ·cases h
  exact⟨aj,Hy _ ,by rw[Qb];exact Qc _  hp⟩
 ·cases h
def sI(l:List Int):Post:=⟨l.length<=1099511627776,.c (.bool (!cH l)),[]⟩
def zp:List AD->Option Post
 | [.c (.ints .i64 l)]=>some (sI l)
 |_=>none
def HA:List (Nat×Ctr):=[(208,⟨[],zn⟩)]
def zq(l:List Int):Prop :=
 (l.length<=(1099511627776:Nat)/\True)/\(!cH l)=!cH l/\True
theorem Qe(l:List Int):aP Tryz.prog (ai HA) aj ar Tryz.f207 (aF Tryz.f207) [] [.c (.ints .i64 l)] (sI l)=zq l:=by kernel_rfl
theorem Qf(l:List Int)(Yh:(sI l).pre):zq l:=by
 simp only[sI,zq,aK,u1,u2,u3,u4,u5,u6,u7,u8,u9,v1,v2,v3,v4,v5,v6,v7,v8,v9,w1,w2,w3,w4,aC,ab,ae,ag,av]at Yh⊢;exact Yh
theorem Qg:Fits Tryz.prog 207 ⟨[],zp⟩:=by
 refine aW (Γ:=ai HA) (az Qd aJ) Tryz.func207 fun ds p h hp=>?_
 unfold zp at h;split at h
 ·cases h
  exact⟨aj,ar,by rw[Qe];exact Qf _  hp⟩
 ·cases h
def sJ(t:List (List Int)):Post:=⟨aY t,.c (.bool (t.all cH)),[]⟩
def zr:List AD->Option Post
 | [.c (.rows .i64 t)]=>some (sJ t)
 |_=>none
def HB:List (Nat×Ctr):=[(204,⟨[],su⟩),(207,⟨[],zp⟩)]
def zs(t:List (List Int)):Prop :=
 ((t.length<=(1099511627776:Nat)/\∀(x:List Int),x∈t->x.length<=(1099511627776:Nat))/\True)/\(!List.any t fun(x:List Int)=>!cH x)=List.all t cH/\True
theorem Qh(t:List (List Int)):aP Tryz.prog (ai HB) aj ar Tryz.f146 (aF Tryz.f146) [] [.c (.rows .i64 t)] (sJ t)=zs t:=by kernel_rfl
theorem Qi(t:List (List Int))(Yh:(sJ t).pre):zs t:=by
 simp only[sJ,zs,aK,u1,u2,u3,u4,u5,u6,u7,u8,u9,v1,v2,v3,v4,v5,v6,v7,v8,v9,w1,w2,w3,w4,aC,ab,ae,ag,av]at Yh⊢;refine⟨⟨Yh.1,Yh.2⟩,?_⟩
 rw[List.all_eq_not_any_not,Bool.not_not]
theorem Qj:Fits Tryz.prog 146 ⟨[],zr⟩:=by
 refine aW (Γ:=ai HB) (az Hj (az Qg aJ)) Tryz.func146 fun ds p h hp=>?_
 unfold zr at h;split at h
 ·cases h
  exact⟨aj,ar,by rw[Qh];exact Qi _  hp⟩
 ·cases h
def en(t:List (List Int))(x y:Nat):Int:=(t.getD x []).getD y 0
end Go.Sx
