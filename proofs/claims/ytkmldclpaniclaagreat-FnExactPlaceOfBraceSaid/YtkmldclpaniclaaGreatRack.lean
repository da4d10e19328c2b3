/- Rack -/
import Derived.Test.YtkmldclpaniclaaGreatLists
open Go Go.Proofs
namespace Go.Sx
set_option linter.unusedSimpArgs false
set_option linter.unusedVariables false
theorem R8{α:Type}{l:List α}(d:α)(p:α->Bool){i:Nat}(h:i<l.length):(l.drop i).all p=(p (l.getD i d)&&(l.drop (i+1)).all p):=by
 rw[drop_cons' l d i h];rfl
theorem R9{α:Type}{l:List α}(d:α){p:α->Bool}(h:l.all p=true)(i:Nat)(hi:i<l.length):p (l.getD i d)=true :=
 List.all_eq_true.1 h _ (bM l d i hi)
theorem AC{α:Type}(a b:List α)(r d:α)(i:Nat)(h:a.length=i):(a++r::b).getD i d=r:=by
 rw[getD_append_right' _ _ _ _ (by omega),h,Nat.sub_self];rfl
theorem tj{α:Type}(a b:List α)(r v:α)(i:Nat)(h:a.length=i):(a++r::b).set i v=a++v::b:=by
 rw[List.set_append_right _ _ (by omega),h,Nat.sub_self];rfl
def dN(n:Int)(r:V7):Bool:=decide ((r.length:Int)=n)&&dz 0 (n-1) r
def b6(t:V8):Bool:=decide (1<=(t.length:Int)/\(t.length:Int)<=12)&&t.all (dN (t.length:Int))
theorem Sa{n:Int}{r:V7}(h:dN n r=true):(r.length:Int)=n/\dz 0 (n-1) r=true:=by
 simpa[dN]using h
theorem gu{t:V8}(h:b6 t=true):1<=t.length/\t.length<=12 /\
  ∀x,x<t.length->(t.getD x []).length=t.length/\∀y,y<t.length->0<=(t.getD x []).getD y 0/\(t.getD x []).getD y 0<=(t.length:Int)-1:=by
 simp only[b6,Bool.and_eq_true,decide_eq_true_eq]at h;refine⟨by omega,by omega,fun x hx=>?_⟩
 obtain⟨h1,h2⟩:=Sa (R9 [] h.2 x hx);exact⟨by omega,fun y hy=>P2 h2 y (by omega)⟩
theorem IQ{t:V8}(h:¬ (1<=(t.length:Int)/\(t.length:Int)<=12)):b6 t=false:=by simp only[b6,decide_eq_false h,Bool.false_and]
def tp(t:V8):Post:=⟨aM t,.c (.bool (b6 t)),[]⟩
def AE:List AD->Option Post
 | [.c (.rows .i64 t)]=>some (tp t)
 |_=>none
def IR(t:V8):Nat->Option Ann
 |0=>some (Ann.mk ((Nat)) (fun i=>⟨[(0,.c (.ro (.rows .i64 t))),(3,.c (.int .i64 ((t.length:Int)))),(4,.c (.int .i64 ((i:Int))))],[]⟩) (fun i=>i<=t.length/\1<=t.length/\t.length<=12/\t.all (dN (t.length:Int))=(t.drop i).all (dN (t.length:Int))) (fun i=>t.length-i) (fun i=>fun b_=>match b_ with|2=>some (Ann.mk ((Nat)) (fun j=>⟨[(0,.c (.ro (.rows .i64 t))),(3,.c (.int .i64 ((t.length:Int)))),(4,.c (.int .i64 ((i:Int)))),(5,.c (.int .i64 ((j:Int))))],[]⟩) (fun j=>j<=t.length/\i<t.length/\(t.getD i []).length=t.length/\dz 0 ((t.length:Int)-1) (t.getD i [])=dz 0 ((t.length:Int)-1) ((t.getD i []).drop j)) (fun j=>t.length-j) (fun _=>am))|_=>none))
 |_=>none
def IS:List (Nat×Ctr):=[(71,⟨[],si⟩)]
def AF(t:V8):Prop :=
 ((True/\True)/\(ae (!decide ((1:Int)<=(t.length:Int)/\(t.length:Int)<=(12:Int))) (false=b6 t/\True) ((∃x0:Nat,(x0<=t.length/\(1:Nat)<=t.length/\t.length<=(12:Nat)/\List.all t (dN (t.length:Int))=List.all (List.drop x0 t) (dN (t.length:Int)))/\t=t/\(t.length:Int)=(t.length:Int)/\(0:Int)=(x0:Int))/\(∀x1:Nat,(x1<=t.length/\(1:Nat)<=t.length/\t.length<=(12:Nat)/\List.all t (dN (t.length:Int))=List.all (List.drop x1 t) (dN (t.length:Int))->(ae (decide ((x1:Int)<(t.length:Int))) (aa (x1:Int) t.length/\(ae ((↑((t.getD (x1:Int).toNat []).length):Int) != (t.length:Int)) (false=b6 t/\True) ((∃x2:Nat,(x2<=t.length/\x1<t.length/\(t.getD x1 []).length=t.length/\dz (0:Int) ((t.length:Int)-(1:Int)) (t.getD x1 [])=dz (0:Int) ((t.length:Int)-(1:Int)) (List.drop x2 (t.getD x1 [])))/\t=t/\(t.length:Int)=(t.length:Int)/\(x1:Int)=(x1:Int)/\(0:Int)=(x2:Int))/\(∀x3:Nat,(x3<=t.length/\x1<t.length/\(t.getD x1 []).length=t.length/\dz (0:Int) ((t.length:Int)-(1:Int)) (t.getD x1 [])=dz (0:Int) ((t.length:Int)-(1:Int)) (List.drop x3 (t.getD x1 []))->(ae (decide ((x3:Int)<(t.length:Int))) (aa (x1:Int) t.length/\(aa (x3:Int) ((t.getD (x1:Int).toNat []).length)/\(ac ((t.length:Int)-(1:Int))/\((True/\True) /\
 (ae (!decide ((0:Int)<=(List.getD t (x1:Int).toNat []).getD (x3:Int).toNat (0:Int)/\(List.getD t (x1:Int).toNat []).getD (x3:Int).toNat (0:Int)<=(t.length:Int)-(1:Int))) ((false=b6 t)/\True) ((ac ((x3:Int)+(1:Int)))/\(∃x4:Nat,(((x4<=t.length)/\((x1<t.length)/\(((t.getD x1 []).length=t.length)/\(dz (0:Int) ((t.length:Int)-(1:Int)) (t.getD x1 [])=dz (0:Int) ((t.length:Int)-(1:Int)) (List.drop x4 (t.getD x1 []))))))/\((t.length-x4<t.length-x3)/\((t=t)/\(((t.length:Int)=(t.length:Int))/\(((x1:Int)=(x1:Int))/\((x3:Int)+(1:Int)=(x4:Int)))))))))))))) ((ac ((x1:Int)+(1:Int)))/\(∃x5:Nat,(((x5<=t.length)/\(((1:Nat)<=t.length)/\((t.length<=(12:Nat))/\(List.all t (dN (t.length:Int))=List.all (List.drop x5 t) (dN (t.length:Int))))))/\((t.length-x5<t.length-x1)/\((t=t)/\(((t.length:Int)=(t.length:Int))/\((x1:Int)+(1:Int)=(x5:Int)))))))))))))) ((true=b6 t)/\True)))))))
theorem Sb(t:V8):aJ Tryz.prog (ai IS) ak (IR t) Tryz.f141 (aE Tryz.f141) [] [.c (.rows .i64 t)] (tp t)=AF t:=by kernel_rfl
theorem Sc(t:V8)(Yh:(tp t).pre):AF t:=by
 simp only[tp,AF,aG,u1,u2,u3,u4,u5,u6,u7,u8,u9,v1,v2,v3,v4,v5,v6,v7,v8,v9,w1,w2,w3,w4,aH,aa,ac,af,ar]at Yh⊢;have hr:=Yh
 refine⟨fun h=>(IQ h).symm,fun hn=>⟨⟨0,⟨by omega,by omega,by omega,rfl⟩,rfl⟩,fun i ⟨hi,_,_,he⟩=>⟨fun h=>?_,fun h=>?_⟩⟩⟩
 ·have hd:=R8 [] (dN (t.length:Int)) (show i<t.length by omega)
  have no:dN (t.length:Int) (t.getD i [])=false->false=b6 t:=fun h=>by rw[b6,he,hd,h];simp
  refine⟨by omega,fun h1=>no (by rw[dN,decide_eq_false h1];rfl),fun h1=>⟨⟨0,⟨by omega,by omega,by omega,rfl⟩,rfl⟩,fun j ⟨hj,_,hl,ha⟩=>⟨fun h2=>?_,fun h2=>?_⟩⟩⟩
  ·have hd2:=GE 0 ((t.length:Int)-1) (t.getD i []) j (by omega)
   refine⟨by omega,by omega,by omega,fun h3=>no ?_,fun h3=>⟨by omega,j+1,⟨by omega,by omega,hl,?_⟩,by omega,by omega⟩⟩
   ·rw[dN,ha,hd2,decide_eq_false h3];simp
   ·rw[ha,hd2,decide_eq_true h3];rfl
  ·refine⟨by omega,i+1,⟨by omega,by omega,by omega,?_⟩,by omega,by omega⟩
   have:dN (t.length:Int) (t.getD i [])=true:=by
    rw[dN,decide_eq_true h1,ha,List.drop_of_length_le (by omega)];rfl
   rw[he,hd,this];rfl
 ·rw[b6,he,decide_eq_true hn,List.drop_of_length_le (by omega)];rfl
theorem Sd:Fits Tryz.prog 141 ⟨[],AE⟩:=by
 refine aO (Γ:=ai IS) (aw GD aF) Tryz.func141 fun ds p h hp=>?_
 unfold AE at h;split at h
 ·cases h
  exact⟨ak,IR _ ,by rw[Sb];exact Sc _  hp⟩
 ·cases h
def fq(p:V7->Bool):V8->Int->Int
 | [],_=>-1
 |x::l,k=>if p x=true then k else fq p l (k+1)
theorem IT(p:V7->Bool):∀(l:V8) (k:Int),0<=k->decide (0<=fq p l k)=l.any p
 | [],k,_=>rfl
 |x::l,k,h=>by
  simp only[fq,List.any_cons];by_cases hp:p x=true
  ·simp[hp,h]
  ·simpa[hp]using IT p l (k+1) (by omega)
def tu(l:V8)(q:V7->Prop)(p:V7->Bool):Post:=⟨l.length<=1099511627776/\∀x∈l,q x,.c (.int .i64 (fq p l 0)),[]⟩
def AG:List AD->Option Post
 | [.c (.rows .i64 l),.fv (.lb q p)]=>some (tu l q p)
 |_=>none
def IU(l:V8)(q:V7->Prop)(p:V7->Bool):Nat->Option Ann
 |0=>some (Ann.mk ((Nat)) (fun i=>⟨[(0,.c (.ro (.rows .i64 l))),(1,.fv (.lb q p)),(7,.c (.int .i64 ((l.length:Int)))),(8,.c (.int .i64 ((i:Int))))],[]⟩) (fun i=>i<=l.length/\fq p l 0=fq p (l.drop i) (i:Int)) (fun i=>l.length-i) (fun _=>am))
 |_=>none
def IV:List (Nat×Ctr):=[]
def AH(l:V8)(q:V7->Prop)(p:V7->Bool):Prop :=
 (∃x0:Nat,(x0<=l.length/\fq p l (0:Int)=fq p (List.drop x0 l) (x0:Int))/\l=l/\FV.lb q p=FV.lb q p/\(l.length:Int)=(l.length:Int)/\(0:Int)=(x0:Int))/\∀x1:Nat,x1<=l.length/\fq p l (0:Int)=fq p (List.drop x1 l) (x1:Int)->ae (decide ((x1:Int)<(l.length:Int))) (aa (x1:Int) l.length/\q (l.getD (x1:Int).toNat [])/\ae (p (l.getD (x1:Int).toNat [])) ((x1:Int)=fq p l (0:Int)/\True) (ac ((x1:Int)+(1:Int))/\∃x2:Nat,(x2<=l.length/\fq p l (0:Int)=fq p (List.drop x2 l) (x2:Int))/\l.length-x2<l.length-x1/\l=l/\FV.lb q p=FV.lb q p/\(l.length:Int)=(l.length:Int)/\(x1:Int)+(1:Int)=(x2:Int))) ((-1:Int)=fq p l (0:Int)/\True)
theorem Se(l:V8)(q:V7->Prop)(p:V7->Bool):aJ Tryz.prog (ai IV) ak (IU l q p) Tryz.f238 (aE Tryz.f238) [] [.c (.rows .i64 l),.fv (.lb q p)] (tu l q p)=AH l q p:=by kernel_rfl
theorem Sf(l:V8)(q:V7->Prop)(p:V7->Bool)(Yh:(tu l q p).pre):AH l q p:=by
 simp only[tu,AH,aG,u1,u2,u3,u4,u5,u6,u7,u8,u9,v1,v2,v3,v4,v5,v6,v7,v8,v9,w1,w2,w3,w4,aH,aa,ac,af,ar]at Yh⊢;obtain⟨hl,hq⟩:=Yh;refine⟨⟨0,⟨by omega,rfl⟩,rfl⟩,fun i ⟨hi,he⟩=>⟨fun h=>?_,fun h=>?_⟩⟩
 ·rw[drop_cons' l [] i (by omega)]at he
  simp only[fq]at he;refine⟨by omega,hq _ (bM l [] i (by omega)),fun h1=>?_,fun h1=>⟨by omega,i+1,⟨by omega,?_⟩,by omega,by omega⟩⟩
  ·rw[he,if_pos h1]
  ·rw[he,if_neg (by rw[h1];exact Bool.false_ne_true)];simp
 ·rw[he,List.drop_of_length_le (by omega)];rfl
theorem Sg:Fits Tryz.prog 238 ⟨[],AG⟩:=by
 refine aO (Γ:=ai IV) aF Tryz.func238 fun ds p h hp=>?_
 unfold AG at h;split at h
 ·cases h
  exact⟨ak,IU _ _ _ ,by rw[Se];exact Sf _ _ _  hp⟩
 ·cases h
def tv(l:V8)(q:V7->Prop)(p:V7->Bool):Post:=⟨l.length<=1099511627776/\∀x∈l,q x,.c (.bool (l.any p)),[]⟩
def tw:List AD->Option Post
 | [.c (.rows .i64 l),.fv (.lb q p)]=>some (tv l q p)
 |_=>none
def IW:List (Nat×Ctr):=[(238,⟨[],AG⟩)]
def AI(l:V8)(q:V7->Prop)(p:V7->Bool):Prop :=
 ((l.length<=(1099511627776:Nat)/\∀(x:V7),x∈l->q x)/\True)/\decide ((0:Int)<=fq p l (0:Int))=List.any l p/\True
theorem Sh(l:V8)(q:V7->Prop)(p:V7->Bool):aJ Tryz.prog (ai IW) ak am Tryz.f204 (aE Tryz.f204) [] [.c (.rows .i64 l),.fv (.lb q p)] (tv l q p)=AI l q p:=by kernel_rfl
theorem Si(l:V8)(q:V7->Prop)(p:V7->Bool)(Yh:(tv l q p).pre):AI l q p:=by
 simp only[tv,AI,aG,u1,u2,u3,u4,u5,u6,u7,u8,u9,v1,v2,v3,v4,v5,v6,v7,v8,v9,w1,w2,w3,w4,aH,aa,ac,af,ar]at Yh⊢;exact⟨Yh,IT p l 0 (by omega)⟩
theorem IX:Fits Tryz.prog 204 ⟨[],tw⟩:=by
 refine aO (Γ:=ai IW) (aw Sg aF) Tryz.func204 fun ds p h hp=>?_
 unfold tw at h;split at h
 ·cases h
  exact⟨ak,am,by rw[Sh];exact Si _ _ _  hp⟩
 ·cases h
def tz(r:V7)(n:Int):Post:=⟨r.length<=1099511627776/\1<=n/\n<=12,.c (.bool (!dN n r)),[]⟩
def AJ:List AD->Option Post
 | [.c (.ints .i64 r),.box [.int .i64 n]]=>some (tz r n)
 |_=>none
def IY:List (Nat×Ctr):=[(206,⟨[],yy⟩)]
def AK(r:V7)(n:Int):Prop :=
 ae ((r.length:Int) != n) (true=!dN n r/\True) (ac (n-(1:Int))/\(af r.length/\True)/\(!dz (0:Int) (n-(1:Int)) r)=!dN n r/\True)
theorem Sj(r:V7)(n:Int):aJ Tryz.prog (ai IY) ak am Tryz.f205 (aE Tryz.f205) [] [.c (.ints .i64 r),.box [.int .i64 n]] (tz r n)=AK r n:=by kernel_rfl
theorem Sk(r:V7)(n:Int)(Yh:(tz r n).pre):AK r n:=by
 simp only[tz,AK,aG,u1,u2,u3,u4,u5,u6,u7,u8,u9,v1,v2,v3,v4,v5,v6,v7,v8,v9,w1,w2,w3,w4,aH,aa,ac,af,ar]at Yh⊢;refine⟨fun h=>by rw[dN,decide_eq_false h];rfl,fun h=>⟨by omega,Yh.1,?_⟩⟩
 rw[dN,decide_eq_true h];simp
theorem Sl:Fits Tryz.prog 205 ⟨[],AJ⟩:=by
 refine aO (Γ:=ai IY) (aw P5 aF) Tryz.func205 fun ds p h hp=>?_
 unfold AJ at h;split at h
 ·cases h
  exact⟨ak,am,by rw[Sj];exact Sk _ _  hp⟩
 ·cases h
def tA(t:V8):Post:=⟨aM t,.c (.bool (b6 t)),[]⟩
def AL:List AD->Option Post
 | [.c (.rows .i64 t)]=>some (tA t)
 |_=>none
def IZ:List (Nat×Ctr):=[(73,⟨[],oF⟩),(204,⟨[],tw⟩),(205,⟨[],AJ⟩)]
def AM(t:V8):Prop :=
 (True/\True)/\ae (decide ((1:Int)<=(t.length:Int)/\(t.length:Int)<=(12:Int))) (((t.length<=(1099511627776:Nat)/\∀(x:V7),x∈t->x.length<=(1099511627776:Nat)/\(1:Int)<=(t.length:Int)/\(t.length:Int)<=(12:Int))/\True)/\(!List.any t fun(x:V7)=>!dN (t.length:Int) x)=b6 t/\True) (false=b6 t/\True)
theorem Sm(t:V8):aJ Tryz.prog (ai IZ) ak am Tryz.f145 (aE Tryz.f145) [] [.c (.rows .i64 t)] (tA t)=AM t:=by kernel_rfl
theorem Sn(t:V8)(Yh:(tA t).pre):AM t:=by
 simp only[tA,AM,aG,u1,u2,u3,u4,u5,u6,u7,u8,u9,v1,v2,v3,v4,v5,v6,v7,v8,v9,w1,w2,w3,w4,aH,aa,ac,af,ar]at Yh⊢;refine⟨fun h=>⟨⟨Yh.1,fun x hx=>⟨Yh.2 x hx,h⟩⟩,?_⟩,fun h=>(IQ h).symm⟩
 rw[b6,decide_eq_true h,Bool.true_and,List.all_eq_not_any_not,Bool.not_not]
theorem So:Fits Tryz.prog 145 ⟨[],AL⟩:=by
 refine aO (Γ:=ai IZ) (aw yw (aw IX (aw Sl aF))) Tryz.func145 fun ds p h hp=>?_
 unfold AL at h;split at h
 ·cases h
  exact⟨ak,am,by rw[Sm];exact Sn _  hp⟩
 ·cases h
def bN(n:Nat)(f:Nat->Nat->Int):V8:=(List.range n).map fun x=>au n (f x)
theorem nt(n:Nat)(f:Nat->Nat->Int):(bN n f).length=n:=by simp[bN]
theorem oZ(n:Nat)(f:Nat->Nat->Int)(x:Nat)(h:x<n):(bN n f).getD x []=au n (f x):=by
 simp[bN,List.getD_eq_getElem?_getD,h]
def tB(n:Int)(q:Int->Int->Prop)(p:Int->Int->Int):Post:=⟨0<=n/\n<=144/\(∀x y,0<=x->x<n->0<=y->y<n->q x y),.c (.rows 62 2 .i64 (bN n.toNat (fun x y=>p (x:Int) (y:Int)))),[]⟩
def lK:List AD->Option Post
 | [.c (.int .i64 n),.fv (.iii q p)]=>some (tB n q p)
 |_=>none
def I0(n:Int)(q:Int->Int->Prop)(p:Int->Int->Int):Nat->Option Ann
 |0=>some (Ann.mk ((Nat)) (fun i=>⟨[(0,.c (.int .i64 n)),(1,.fv (.iii q p)),(5,.c (.own 9)),(11,.c (.int .i64 n)),(12,.c (.int .i64 ((i:Int))))],[(9,some (.rows 0 62 2 .i64 ((bN n.toNat (fun x y=>p (x:Int) (y:Int))).take i++List.replicate (n.toNat-i) [])))]⟩) (fun i=>(i:Int)<=n) (fun i=>n.toNat-i) (fun i=>fun b_=>match b_ with|2=>some (Ann.mk ((Nat)) (fun j=>⟨[(0,.c (.int .i64 n)),(1,.fv (.iii q p)),(5,.c (.own 9)),(11,.c (.int .i64 n)),(12,.c (.int .i64 ((i:Int)))),(6,.c (.int .i64 ((i:Int)))),(24,.c (.int .i64 n)),(25,.c (.int .i64 ((j:Int))))],[(9,some (.rows 0 62 2 .i64 ((bN n.toNat (fun x y=>p (x:Int) (y:Int))).take i++((au n.toNat fun y=>p (i:Int) (y:Int)).take j++List.replicate (n.toNat-j) 0)::List.replicate (n.toNat-(i+1)) [])))]⟩) (fun j=>(j:Int)<=n/\(i:Int)<n) (fun j=>n.toNat-j) (fun _=>am))|_=>none))
 |_=>none
def I2:List (Nat×Ctr):=[]
def AN(n:Int)(q:Int->Int->Prop)(p:Int->Int->Int):Prop :=
 (((0:Int)<=n/\n<=n/\af n.toNat)/\((∃x0:Nat,(x0:Int)<=n/\n=n/\FV.iii q p=FV.iii q p/\(↑((List.replicate n.toNat ([]:V7)).length):Int)=n/\(0:Int)=(x0:Int)/\List.replicate n.toNat ([]:V7)=List.take x0 (bN n.toNat fun(x y:Nat)=>p (x:Int) (y:Int))++List.replicate (n.toNat-x0) ([]:V7))/\(∀x1:Nat,((x1:Int)<=n->(ae (decide ((x1:Int)<n)) (((0:Int)<=n/\n<=n/\af n.toNat)/\(aa (x1:Int) ((List.take x1 (bN n.toNat fun(x y:Nat)=>p (x:Int) (y:Int))++List.replicate (n.toNat-x1) ([]:V7)).length)/\(aa (x1:Int) ((List.set (List.take x1 (bN n.toNat fun(x y:Nat)=>p (x:Int) (y:Int))++List.replicate (n.toNat-x1) ([]:V7)) (x1:Int).toNat (List.replicate n.toNat (0:Int))).length)/\((∃x2:Nat,(((x2:Int)<=n/\(x1:Int)<n)/\(n=n/\(FV.iii q p=FV.iii q p/\(n=n/\((x1:Int)=(x1:Int)/\((x1:Int)=(x1:Int)/\((↑(((List.set (List.take x1 (bN n.toNat fun(x y:Nat)=>p (x:Int) (y:Int))++List.replicate (n.toNat-x1) ([]:V7)) (x1:Int).toNat (List.replicate n.toNat (0:Int))).getD (x1:Int).toNat []).length):Int)=n/\(((0:Int)=(x2:Int)) /\
 (List.set (List.take x1 (bN n.toNat fun(x y:Nat)=>p (x:Int) (y:Int))++List.replicate (n.toNat-x1) ([]:V7)) (x1:Int).toNat (List.replicate n.toNat (0:Int))=List.take x1 (bN n.toNat fun(x y:Nat)=>p (x:Int) (y:Int))++(List.take x2 (au n.toNat fun(y:Nat)=>p (x1:Int) (y:Int))++List.replicate (n.toNat-x2) (0:Int))::List.replicate (n.toNat-(x1+(1:Nat))) []))))))))))/\(∀x3:Nat,((((x3:Int)<=n)/\((x1:Int)<n))->(ae (decide ((x3:Int)<n)) ((aa (x1:Int) ((List.take x1 (bN n.toNat fun(x y:Nat)=>p (x:Int) (y:Int))++(List.take x3 (au n.toNat fun(y:Nat)=>p (x1:Int) (y:Int))++List.replicate (n.toNat-x3) (0:Int))::List.replicate (n.toNat-(x1+(1:Nat))) []).length))/\((q (x1:Int) (x3:Int))/\((aa (x3:Int) (((List.take x1 (bN n.toNat fun(x y:Nat)=>p (x:Int) (y:Int))++(List.take x3 (au n.toNat fun(y:Nat)=>p (x1:Int) (y:Int))++List.replicate (n.toNat-x3) (0:Int))::List.replicate (n.toNat-(x1+(1:Nat))) []).getD (x1:Int).toNat []).length))/\((ac ((x3:Int)+(1:Int)))/\(∃x4:Nat,((((x4:Int)<=n)/\((x1:Int)<n))/\((n.toNat-x4<n.toNat-x3)/\((n=n)/\((FV.iii q p=FV.iii q p)/\((n=n)/\(((x1:Int)=(x1:Int))/\(((x1:Int)=(x1:Int))/\((n=n)/\(((x3:Int)+(1:Int)=(x4:Int)) /\
 (List.set (List.take x1 (bN n.toNat fun(x y:Nat)=>p (x:Int) (y:Int))++(List.take x3 (au n.toNat fun(y:Nat)=>p (x1:Int) (y:Int))++List.replicate (n.toNat-x3) (0:Int))::List.replicate (n.toNat-(x1+(1:Nat))) []) (x1:Int).toNat (List.set ((List.take x1 (bN n.toNat fun(x y:Nat)=>p (x:Int) (y:Int))++(List.take x3 (au n.toNat fun(y:Nat)=>p (x1:Int) (y:Int))++List.replicate (n.toNat-x3) (0:Int))::List.replicate (n.toNat-(x1+(1:Nat))) []).getD (x1:Int).toNat []) (x3:Int).toNat (p (x1:Int) (x3:Int)))=List.take x1 (bN n.toNat fun(x y:Nat)=>p (x:Int) (y:Int))++(List.take x4 (au n.toNat fun(y:Nat)=>p (x1:Int) (y:Int))++List.replicate (n.toNat-x4) (0:Int))::List.replicate (n.toNat-(x1+(1:Nat))) []))))))))))))))) ((ac ((x1:Int)+(1:Int)))/\(∃x5:Nat,(((x5:Int)<=n)/\((n.toNat-x5<n.toNat-x1)/\((n=n)/\((FV.iii q p=FV.iii q p)/\((n=n)/\(((x1:Int)+(1:Int)=(x5:Int))/\(List.take x1 (bN n.toNat fun(x y:Nat)=>p (x:Int) (y:Int))++(List.take x3 (au n.toNat fun(y:Nat)=>p (x1:Int) (y:Int))++List.replicate (n.toNat-x3) (0:Int))::List.replicate (n.toNat-(x1+(1:Nat))) []=List.take x5 (bN n.toNat fun(x y:Nat)=>p (x:Int) (y:Int))++List.replicate (n.toNat-x5) ([]:V7)))))))))))))))))
 ((List.take x1 (bN n.toNat fun(x y:Nat)=>p (x:Int) (y:Int))++List.replicate (n.toNat-x1) ([]:V7)=bN n.toNat fun(x y:Nat)=>p (x:Int) (y:Int))/\True))))))
theorem Sp(n:Int)(q:Int->Int->Prop)(p:Int->Int->Int):aJ Tryz.prog (ai I2) ak (I0 n q p) Tryz.f124 (aE Tryz.f124) [] [.c (.int .i64 n),.fv (.iii q p)] (tB n q p)=AN n q p:=by kernel_rfl
theorem Sq(n:Int)(q:Int->Int->Prop)(p:Int->Int->Int)(Yh:(tB n q p).pre):AN n q p:=by
 simp only[tB,AN,aG,u1,u2,u3,u4,u5,u6,u7,u8,u9,v1,v2,v3,v4,v5,v6,v7,v8,v9,w1,w2,w3,w4,aH,aa,ac,af,ar]at Yh⊢;obtain⟨h0,h1,hq⟩:=Yh;have hT:=nt n.toNat fun x y=>p (x:Int) (y:Int)
 have hr:∀i:Nat,(au n.toNat fun y=>p (i:Int) (y:Int)).length=n.toNat:=fun i=>eu _ _
 refine⟨by omega,⟨0,by omega,by omega,rfl,by simp⟩,fun i hi=>?_⟩
 have hl:((bN n.toNat fun x y=>p (x:Int) (y:Int)).take i).length=i:=by rw[List.length_take];omega
 refine⟨fun h=>?_,fun h=>?_⟩
 ·have hs:((bN n.toNat fun x y=>p (x:Int) (y:Int)).take i++List.replicate (n.toNat-i) ([]:V7)).set i (List.replicate n.toNat 0) =
      (bN n.toNat fun x y=>p (x:Int) (y:Int)).take i++(List.replicate n.toNat 0)::List.replicate (n.toNat-(i+1)) []:=by
   rw[show n.toNat-i=(n.toNat-(i+1))+1 by omega,List.replicate_succ,tj _ _ _ _ _ hl]
  rw[hs];refine⟨by omega,by omega,by omega,⟨0,by omega,?_,rfl,by simp⟩,fun j ⟨hj,_⟩=>⟨fun h2=>?_,fun h2=>?_⟩⟩
  ·rw[AC _ _ _ _ _ hl];simp;omega
  ·rw[AC _ _ _ _ _ hl,tj _ _ _ _ _ hl]
   have hd:((au n.toNat fun y=>p (i:Int) (y:Int)).take j++List.replicate (n.toNat-j) 0).length=n.toNat:=by
    rw[List.length_append,List.length_take,List.length_replicate,hr];omega
   rw[hd];refine⟨by omega,hq _ _ (by omega) h (by omega) h2,by omega,by omega,j+1,by omega,by omega,by omega,?_⟩
   have:=oo (au n.toNat fun y=>p (i:Int) (y:Int)) 0 0 j (by rw[hr];omega)
   rw[hr,eJ _ _ _ (by omega)]at this
   rw[this]
  ·refine⟨by omega,i+1,by omega,by omega,by omega,?_⟩
   have e:(au n.toNat fun y=>p (i:Int) (y:Int)).take j=au n.toNat fun y=>p (i:Int) (y:Int):=List.take_of_length_le (by rw[hr];omega)
   rw[<-dF (bN n.toNat fun x y=>p (x:Int) (y:Int)) [] i (by omega),oZ _ _ _ (by omega),show n.toNat-j=0 by omega,e]
   simp
 ·rw[List.take_of_length_le (by omega),show n.toNat-i=0 by omega];simp
theorem o5:Fits Tryz.prog 124 ⟨[],lK⟩:=by
 refine aO (Γ:=ai I2) aF Tryz.func124 fun ds p h hp=>?_
 unfold lK at h;split at h
 ·cases h
  exact⟨ak,I0 _ _ _ ,by rw[Sp];exact Sq _ _ _  hp⟩
 ·cases h
theorem tC{n:Nat}{f g:Nat->Nat->Int}(h:∀x y,x<n->y<n->f x y=g x y):bN n f=bN n g:=by
 unfold bN;apply List.map_congr_left
 intro x hx
 exact mG fun y hy=>h x y (List.mem_range.1 hx) hy
theorem Sr(n:Nat)(f:Nat->Nat->Int)(h:n<=144):aM (bN n f):=⟨by rw[nt];omega,fun r hr=>by
 simp only[bN,List.mem_map]at hr;obtain⟨x,_,rfl⟩:=hr;rw[eu];omega⟩
theorem lL:∀{a b:V7},a.Nodup->(∀x∈a,x∈b)->a.length<=b.length
 | [],_,_,_=>Nat.zero_le _
 |x::a,b,hn,hs=>by
  rw[List.nodup_cons]at hn;have h1:x∈b:=hs x (by simp)
  have h2:=lL (b:=b.erase x) hn.2 fun y hy=>(List.mem_erase_of_ne (by rintro rfl;exact hn.1 hy)).2 (hs y (by simp[hy]))
  rw[List.length_erase_of_mem h1]at h2;have:=List.length_pos_of_mem h1
  simp only[List.length_cons];omega
def ints(n:Nat):V7:=(List.range n).map fun i:Nat=>(i:Int)
theorem AO:∀n,(ints n).Nodup
 |0=>by simp[ints]
 |n+1=>by
  have:ints (n+1)=ints n++[(n:Int)]:=by simp[ints,List.range_succ]
  rw[this,List.nodup_append];refine⟨AO n,by simp,fun a ha b hb=>?_⟩
  simp only[ints,List.mem_map,List.mem_range]at ha;obtain⟨i,hi,rfl⟩:=ha;simp at hb
  omega
theorem nu{n:Nat}{x:Int}:x∈ints n↔0<=x/\x<(n:Int):=by
 simp only[ints,List.mem_map,List.mem_range];exact⟨by rintro⟨i,hi,rfl⟩;omega,fun h=>⟨x.toNat,by omega,by omega⟩⟩
def cM(l:V7):Bool:=decide ((∀x∈l,0<=x/\x<(l.length:Int))/\l.Nodup)
theorem AP{l:V7}:cM l=true↔∀x:Int,0<=x->x<(l.length:Int)->x∈l:=by
 simp only[cM,decide_eq_true_eq]
 constructor
 ·rintro⟨h1,h2⟩ x hx hx2
  refine Classical.byContradiction fun hn=>?_
  have:=lL (a:=x::l) (b:=ints l.length) (List.nodup_cons.2 ⟨hn,h2⟩) fun y hy=>by
   rcases List.mem_cons.1 hy with rfl|hy
   ·exact nu.2 ⟨hx,hx2⟩
   ·exact nu.2 (h1 y hy)
  simp[ints]at this
  omega
 ·intro h
  have sub:∀l':V7,l'.length<l.length->¬ ∀x∈ints l.length,x∈l':=fun l' hl hc=>by
   have:=lL (AO l.length) hc
   simp[ints]at this
   omega
  have hall:∀x∈ints l.length,x∈l:=fun x hx=>h x (nu.1 hx).1 (nu.1 hx).2
  refine⟨fun x hx=>Classical.byContradiction fun hn=>?_,Classical.byContradiction fun hn=>?_⟩
  ·refine sub (l.erase x) (by rw[List.length_erase_of_mem hx];have:=List.length_pos_of_mem hx;omega) fun y hy=>?_
   exact(List.mem_erase_of_ne (by rintro rfl;exact hn (nu.1 hy))).2 (hall y hy)
  ·rw[List.nodup_iff_count]at hn
   simp only[Classical.not_forall]at hn;obtain⟨a,ha⟩:=hn;have hm:a∈l:=List.count_pos_iff.1 (by omega)
   have hm2:a∈l.erase a:=List.count_pos_iff.1 (by rw[List.count_erase_self];omega)
   refine sub (l.erase a) (by rw[List.length_erase_of_mem hm];have:=List.length_pos_of_mem hm;omega) fun y hy=>?_
   by_cases hya:y=a
   ·rw[hya];exact hm2
   ·exact(List.mem_erase_of_ne hya).2 (hall y hy)
def aZ(x:Int):V7->Int->Int
 | [],_=>-1
 |y::l,k=>if y=x then k else aZ x l (k+1)
theorem AQ(x:Int):∀(l:V7) (k:Int),0<=k->decide (0<=aZ x l k)=decide (x∈l)
 | [],k,_=>by simp[aZ]
 |y::l,k,h=>by
  simp only[aZ,List.mem_cons];by_cases hp:y=x
  ·simp[hp,h]
  ·simp only[hp,if_false,AQ x l (k+1) (by omega)]
   have:¬ x=y:=fun e=>hp e.symm
   simp[this]
def tD(l:V7)(n:Int):Post:=⟨l.length<=1099511627776,.c (.int .i64 (aZ n l 0)),[]⟩
def tE:List AD->Option Post
 | [.c (.ints .i64 l),.c (.int .i64 n)]=>some (tD l n)
 |_=>none
def I3(l:V7)(n:Int):Nat->Option Ann
 |0=>some (Ann.mk ((Nat)) (fun i=>⟨[(0,.c (.ro (.ints .i64 l))),(1,.c (.int .i64 n)),(5,.c (.int .i64 ((i:Int))))],[]⟩) (fun i=>i<=l.length/\aZ n l 0=aZ n (l.drop i) (i:Int)) (fun i=>l.length-i) (fun _=>am))
 |_=>none
def I4:List (Nat×Ctr):=[]
def AR(l:V7)(n:Int):Prop :=
 (∃x0:Nat,(x0<=l.length/\aZ n l (0:Int)=aZ n (List.drop x0 l) (x0:Int))/\l=l/\n=n/\(0:Int)=(x0:Int))/\∀x1:Nat,x1<=l.length/\aZ n l (0:Int)=aZ n (List.drop x1 l) (x1:Int)->ae (decide ((x1:Int)<(l.length:Int))) (aa (x1:Int) l.length/\ae (l.getD (x1:Int).toNat (0:Int) == n) ((x1:Int)=aZ n l (0:Int)/\True) (ac ((x1:Int)+(1:Int))/\∃x2:Nat,(x2<=l.length/\aZ n l (0:Int)=aZ n (List.drop x2 l) (x2:Int))/\l.length-x2<l.length-x1/\l=l/\n=n/\(x1:Int)+(1:Int)=(x2:Int))) ((-1:Int)=aZ n l (0:Int)/\True)
theorem Ss(l:V7)(n:Int):aJ Tryz.prog (ai I4) ak (I3 l n) Tryz.f211 (aE Tryz.f211) [] [.c (.ints .i64 l),.c (.int .i64 n)] (tD l n)=AR l n:=by kernel_rfl
theorem Su(l:V7)(n:Int)(Yh:(tD l n).pre):AR l n:=by
 simp only[tD,AR,aG,u1,u2,u3,u4,u5,u6,u7,u8,u9,v1,v2,v3,v4,v5,v6,v7,v8,v9,w1,w2,w3,w4,aH,aa,ac,af,ar]at Yh⊢;refine⟨⟨0,⟨by omega,rfl⟩,rfl⟩,fun i ⟨hi,he⟩=>⟨fun h=>?_,fun h=>?_⟩⟩
 ·rw[drop_cons' l 0 i (by omega)]at he
  simp only[aZ]at he;refine⟨by omega,fun h1=>?_,fun h1=>⟨by omega,i+1,⟨by omega,?_⟩,by omega,by omega⟩⟩
  ·rw[he,if_pos h1]
  ·rw[he,if_neg h1];simp
 ·rw[he,List.drop_of_length_le (by omega)];rfl
theorem I5:Fits Tryz.prog 211 ⟨[],tE⟩:=by
 refine aO (Γ:=ai I4) aF Tryz.func211 fun ds p h hp=>?_
 unfold tE at h;split at h
 ·cases h
  exact⟨ak,I3 _ _ ,by rw[Ss];exact Su _ _  hp⟩
 ·cases h
def tF(l:V7)(n:Int):Post:=⟨l.length<=1099511627776,.c (.bool (decide (n∈l))),[]⟩
def tG:List AD->Option Post
 | [.c (.ints .i64 l),.c (.int .i64 n)]=>some (tF l n)
 |_=>none
def I6:List (Nat×Ctr):=[(211,⟨[],tE⟩)]
def AT(l:V7)(n:Int):Prop :=
 (l.length<=(1099511627776:Nat)/\True)/\decide ((0:Int)<=aZ n l (0:Int))=decide (n∈l)/\True
theorem Sv(l:V7)(n:Int):aJ Tryz.prog (ai I6) ak am Tryz.f182 (aE Tryz.f182) [] [.c (.ints .i64 l),.c (.int .i64 n)] (tF l n)=AT l n:=by kernel_rfl
theorem Sw(l:V7)(n:Int)(Yh:(tF l n).pre):AT l n:=by
 simp only[tF,AT,aG,u1,u2,u3,u4,u5,u6,u7,u8,u9,v1,v2,v3,v4,v5,v6,v7,v8,v9,w1,w2,w3,w4,aH,aa,ac,af,ar]at Yh⊢;exact⟨Yh,AQ n l 0 (by omega)⟩
theorem I7:Fits Tryz.prog 182 ⟨[],tG⟩:=by
 refine aO (Γ:=ai I6) (aw I5 aF) Tryz.func182 fun ds p h hp=>?_
 unfold tG at h;split at h
 ·cases h
  exact⟨ak,am,by rw[Sv];exact Sw _ _  hp⟩
 ·cases h
def tH(l:V7):Post:=⟨l.length<=1099511627776,.c (.bool (decide (1<=(l.length:Int)/\(l.length:Int)<=12)&&cM l)),[]⟩
def AU:List AD->Option Post
 | [.c (.ints .i64 l)]=>some (tH l)
 |_=>none
def I8(l:V7):Nat->Option Ann
 |0=>some (Ann.mk ((Nat)) (fun i=>⟨[(0,.c (.ro (.ints .i64 l))),(3,.c (.int .i64 ((l.length:Int)))),(4,.c (.int .i64 ((i:Int))))],[]⟩) (fun i=>i<=l.length/\∀x:Int,0<=x->x<(i:Int)->x∈l) (fun i=>l.length-i) (fun _=>am))
 |_=>none
def I9:List (Nat×Ctr):=[(71,⟨[],si⟩),(182,⟨[],tG⟩)]
def AV(l:V7):Prop :=
 (True/\True)/\ae (!decide ((1:Int)<=(l.length:Int)/\(l.length:Int)<=(12:Int))) (false=(decide ((1:Int)<=(l.length:Int)/\(l.length:Int)<=(12:Int))&&cM l)/\True) ((∃x0:Nat,(x0<=l.length/\∀(x:Int),(0:Int)<=x->x<(x0:Int)->x∈l)/\l=l/\(l.length:Int)=(l.length:Int)/\(0:Int)=(x0:Int))/\∀x1:Nat,(x1<=l.length/\∀(x:Int),(0:Int)<=x->x<(x1:Int)->x∈l)->ae (decide ((x1:Int)<(l.length:Int))) ((l.length<=(1099511627776:Nat)/\True)/\ae (!decide ((x1:Int)∈l)) (false=(decide ((1:Int)<=(l.length:Int)/\(l.length:Int)<=(12:Int))&&cM l)/\True) (ac ((x1:Int)+(1:Int))/\∃x2:Nat,(x2<=l.length/\∀(x:Int),(0:Int)<=x->x<(x2:Int)->x∈l)/\l.length-x2<l.length-x1/\l=l/\(l.length:Int)=(l.length:Int)/\(x1:Int)+(1:Int)=(x2:Int))) (true=(decide ((1:Int)<=(l.length:Int)/\(l.length:Int)<=(12:Int))&&cM l)/\True))
theorem Sy(l:V7):aJ Tryz.prog (ai I9) ak (I8 l) Tryz.f131 (aE Tryz.f131) [] [.c (.ints .i64 l)] (tH l)=AV l:=by kernel_rfl
theorem Sz(l:V7)(Yh:(tH l).pre):AV l:=by
 simp only[tH,AV,aG,u1,u2,u3,u4,u5,u6,u7,u8,u9,v1,v2,v3,v4,v5,v6,v7,v8,v9,w1,w2,w3,w4,aH,aa,ac,af,ar]at Yh⊢;refine⟨fun h=>by rw[decide_eq_false h];rfl,fun h=>⟨⟨0,⟨by omega,fun x a b=>by omega⟩,rfl⟩,fun i ⟨hi,he⟩=>⟨fun h2=>⟨Yh,fun h3=>?_,fun h3=>⟨by omega,i+1,⟨by omega,fun x a b=>?_⟩,by omega,by omega⟩⟩,fun h2=>?_⟩⟩⟩
 ·have:cM l=false:=by
   cases hb:cM l with
   |false=>rfl
   |true=>exact absurd (AP.1 hb i (by omega) h2) h3
  rw[this,Bool.and_false]
 ·by_cases hx:x=(i:Int)
  ·rw[hx];exact h3
  ·exact he x a (by omega)
 ·rw[decide_eq_true h,AP.2 fun x a b=>he x a (by omega)];rfl
theorem SA:Fits Tryz.prog 131 ⟨[],AU⟩:=by
 refine aO (Γ:=ai I9) (aw GD (aw I7 aF)) Tryz.func131 fun ds p h hp=>?_
 unfold AU at h;split at h
 ·cases h
  exact⟨ak,I8 _ ,by rw[Sy];exact Sz _  hp⟩
 ·cases h
def eP(n:Nat)(l:V7):List Bool:=(List.range n).map fun i:Nat=>decide ((i:Int)∈l)
theorem Ja(n:Nat)(l:V7):(eP n l).length=n:=by simp[eP]
theorem Jb(n:Nat)(l:V7)(k:Nat)(h:k<n):(eP n l).getD k false=decide ((k:Int)∈l):=by
 simp[eP,List.getD_eq_getElem?_getD,h]
theorem SB(n:Nat):eP n []=List.replicate n false:=by
 apply List.ext_getElem
 ·simp[eP]
 ·intro i h1 h2
  simp[eP]
theorem SD(n:Nat)(l:V7)(k:Nat)(h:k<n):(eP n l).set k true=eP n (l++[(k:Int)]):=by
 apply List.ext_getElem
 ·simp[eP]
 ·intro i h1 h2
  simp only[eP,List.getElem_set,List.getElem_map,List.getElem_range,List.mem_append,List.mem_singleton];by_cases hk:k=i
  ·subst hk;simp
  ·have:¬ (i:Int)=(k:Int):=by omega
   simp[hk,this]
def tI(l:V7):Post:=⟨l.length<=1099511627776,.c (.bool (cM l)),[]⟩
def AW:List AD->Option Post
 | [.c (.ints .i64 l)]=>some (tI l)
 |_=>none
def Jc(l:V7):Nat->Option Ann
 |0=>some (Ann.mk ((Nat)) (fun i=>⟨[(0,.c (.ro (.ints .i64 l))),(3,.c (.own 8)),(9,.c (.ro (.ints .i64 l))),(10,.c (.int .i64 ((l.length:Int)))),(11,.c (.int .i64 ((i:Int))))],[(8,some (.bools 4 (eP l.length (l.take i))))]⟩) (fun i=>i<=l.length/\(∀x∈l.take i,0<=x/\x<(l.length:Int))/\(l.take i).Nodup) (fun i=>l.length-i) (fun _=>am))
 |_=>none
def Jd:List (Nat×Ctr):=[(73,⟨[],oF⟩)]
def AX(l:V7):Prop :=
 (((0:Int)<=(l.length:Int)/\(l.length:Int)<=(l.length:Int)/\af (l.length:Int).toNat)/\((∃x0:Nat,(x0<=l.length/\(∀(x:Int),x∈List.take x0 l->(0:Int)<=x/\x<(l.length:Int))/\List.Nodup (List.take x0 l))/\l=l/\l=l/\(l.length:Int)=(l.length:Int)/\(0:Int)=(x0:Int)/\List.replicate (l.length:Int).toNat false=eP l.length (List.take x0 l))/\(∀x1:Nat,(x1<=l.length/\(∀(x:Int),x∈List.take x1 l->(0:Int)<=x/\x<(l.length:Int))/\List.Nodup (List.take x1 l)->(ae (decide ((x1:Int)<(l.length:Int))) (aa (x1:Int) l.length/\(ac ((l.length:Int)-(1:Int))/\((True/\True)/\(ae (!decide ((0:Int)<=l.getD (x1:Int).toNat (0:Int)/\l.getD (x1:Int).toNat (0:Int)<=(l.length:Int)-(1:Int))) (false=cM l/\True) (aa (l.getD (x1:Int).toNat (0:Int)) ((eP l.length (List.take x1 l)).length)/\(ae ((eP l.length (List.take x1 l)).getD ((l.getD (x1:Int).toNat (0:Int)).toNat) false) (false=cM l/\True) (aa (l.getD (x1:Int).toNat (0:Int)) ((eP l.length (List.take x1 l)).length)/\(ac ((x1:Int)+(1:Int))/\(∃x2:Nat,((x2<=l.length/\(∀(x:Int),x∈List.take x2 l->(0:Int)<=x/\x<(l.length:Int))/\List.Nodup (List.take x2 l))/\(l.length-x2<l.length-x1/\(l=l/\(l=l/\((l.length:Int)=(l.length:Int)/\(((x1:Int)+(1:Int)=(x2:Int)) /\
 (List.set (eP l.length (List.take x1 l)) ((l.getD (x1:Int).toNat (0:Int)).toNat) true=eP l.length (List.take x2 l))))))))))))))))) ((true=cM l)/\True))))))
theorem SE(l:V7):aJ Tryz.prog (ai Jd) ak (Jc l) Tryz.f208 (aE Tryz.f208) [] [.c (.ints .i64 l)] (tI l)=AX l:=by kernel_rfl
theorem SF(l:V7)(Yh:(tI l).pre):AX l:=by
 simp only[tI,AX,aG,u1,u2,u3,u4,u5,u6,u7,u8,u9,v1,v2,v3,v4,v5,v6,v7,v8,v9,w1,w2,w3,w4,aH,aa,ac,af,ar]at Yh⊢;refine⟨by omega,⟨0,⟨by omega,by simp,by simp⟩,rfl,(SB _).symm⟩,fun i ⟨hi,h1,h2⟩=>⟨fun h=>⟨by omega,by omega,fun h3=>?_,fun h3=>⟨?_,fun h4=>?_,fun h4=>⟨?_,by omega,i+1,⟨by omega,fun x hx=>?_,?_⟩,by omega,by omega,?_⟩⟩⟩,fun h=>?_⟩⟩
 ·exact(decide_eq_false fun e=>h3 (by have:=e.1 _ (bM l 0 i (by omega));omega)).symm
 ·rw[Ja];omega
 ·rw[Jb _ _ _ (by omega),decide_eq_true_eq]at h4
  rw[show(((l.getD i 0).toNat:Nat):Int)=l.getD i 0 by omega]at h4
  refine(decide_eq_false fun e=>?_).symm
  have h5:(l.take (i+1)).Nodup:=List.Pairwise.sublist (List.take_sublist _ _) e.2
  rw[<-dF l 0 i (by omega),List.nodup_append]at h5
  exact h5.2.2 _ h4 _ (by simp) rfl
 ·rw[Ja];omega
 ·rw[<-dF l 0 i (by omega),List.mem_append]at hx
  rcases hx with hx|hx
  ·exact h1 x hx
  ·simp only[List.mem_singleton]at hx
   rw[hx];omega
 ·rw[Jb _ _ _ (by omega),decide_eq_false_iff_not]at h4
  rw[show(((l.getD i 0).toNat:Nat):Int)=l.getD i 0 by omega]at h4
  rw[<-dF l 0 i (by omega),List.nodup_append]
  refine⟨h2,by simp,fun a ha b hb=>?_⟩
  simp only[List.mem_singleton]at hb
  rintro rfl
  rw[hb]at ha;exact h4 ha
 ·rw[<-dF l 0 i (by omega),SD _ _ _ (by omega),show(((l.getD i 0).toNat:Nat):Int)=l.getD i 0 by omega]
 ·rw[List.take_of_length_le (by omega)]at h1 h2
  exact(decide_eq_true ⟨h1,h2⟩).symm
theorem SG:Fits Tryz.prog 208 ⟨[],AW⟩:=by
 refine aO (Γ:=ai Jd) (aw yw aF) Tryz.func208 fun ds p h hp=>?_
 unfold AW at h;split at h
 ·cases h
  exact⟨ak,Jc _ ,by rw[SE];exact SF _  hp⟩
 ·cases h
def tJ(l:V7):Post:=⟨l.length<=1099511627776,.c (.bool (!cM l)),[]⟩
def AY:List AD->Option Post
 | [.c (.ints .i64 l)]=>some (tJ l)
 |_=>none
def Je:List (Nat×Ctr):=[(208,⟨[],AW⟩)]
def AZ(l:V7):Prop :=
 (l.length<=(1099511627776:Nat)/\True)/\(!cM l)=!cM l/\True
theorem SH(l:V7):aJ Tryz.prog (ai Je) ak am Tryz.f207 (aE Tryz.f207) [] [.c (.ints .i64 l)] (tJ l)=AZ l:=by kernel_rfl
theorem SI(l:V7)(Yh:(tJ l).pre):AZ l:=by
 simp only[tJ,AZ,aG,u1,u2,u3,u4,u5,u6,u7,u8,u9,v1,v2,v3,v4,v5,v6,v7,v8,v9,w1,w2,w3,w4,aH,aa,ac,af,ar]at Yh⊢;exact Yh
theorem SJ:Fits Tryz.prog 207 ⟨[],AY⟩:=by
 refine aO (Γ:=ai Je) (aw SG aF) Tryz.func207 fun ds p h hp=>?_
 unfold AY at h;split at h
 ·cases h
  exact⟨ak,am,by rw[SH];exact SI _  hp⟩
 ·cases h
def tK(t:V8):Post:=⟨aM t,.c (.bool (t.all cM)),[]⟩
def A0:List AD->Option Post
 | [.c (.rows .i64 t)]=>some (tK t)
 |_=>none
def Jf:List (Nat×Ctr):=[(204,⟨[],tw⟩),(207,⟨[],AY⟩)]
def A4(t:V8):Prop :=
 ((t.length<=(1099511627776:Nat)/\∀(x:V7),x∈t->x.length<=(1099511627776:Nat))/\True)/\(!List.any t fun(x:V7)=>!cM x)=List.all t cM/\True
theorem SK(t:V8):aJ Tryz.prog (ai Jf) ak am Tryz.f146 (aE Tryz.f146) [] [.c (.rows .i64 t)] (tK t)=A4 t:=by kernel_rfl
theorem SM(t:V8)(Yh:(tK t).pre):A4 t:=by
 simp only[tK,A4,aG,u1,u2,u3,u4,u5,u6,u7,u8,u9,v1,v2,v3,v4,v5,v6,v7,v8,v9,w1,w2,w3,w4,aH,aa,ac,af,ar]at Yh⊢;refine⟨⟨Yh.1,Yh.2⟩,?_⟩
 rw[List.all_eq_not_any_not,Bool.not_not]
theorem SN:Fits Tryz.prog 146 ⟨[],A0⟩:=by
 refine aO (Γ:=ai Jf) (aw IX (aw SJ aF)) Tryz.func146 fun ds p h hp=>?_
 unfold A0 at h;split at h
 ·cases h
  exact⟨ak,am,by rw[SK];exact SM _  hp⟩
 ·cases h
def b9{α:Type}(n:Nat)(q:Nat->Option α):Nat->Option α
 |0=>none
 |k+1=>(q (n-(k+1))).or (b9 n q k)
theorem ko{α:Type}(n:Nat)(q:Nat->Option α)(i:Nat)(h:i<n):b9 n q (n-i)=(q i).or (b9 n q (n-(i+1))):=by
 rw[show n-i=(n-(i+1))+1 by omega,b9,show n-(n-(i+1)+1)=i by omega]
def en(t:V8)(x y:Nat):Int:=(t.getD x []).getD y 0
end Go.Sx
