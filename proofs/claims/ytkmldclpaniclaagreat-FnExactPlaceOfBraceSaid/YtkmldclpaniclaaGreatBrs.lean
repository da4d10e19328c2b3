/- Brs -/
import Derived.Test.YtkmldclpaniclaaGreatCrcP
import Derived.Test.YtkmldclpaniclaaGreatActP
import Derived.Test.YtkmldclpaniclaaGreatMpgE
open Go Go.Proofs
namespace Go.Sx
set_option linter.unusedSimpArgs false
set_option linter.unusedVariables false
theorem Eq{p:V7}{n:Nat}(hn:p.length<=n)(h0:1<=n):∀i k,i<=p.length->k<p.length->0<=(eU p i).getD k 0/\(eU p i).getD k 0<(n:Int)
 |0,k,_,hk=>by simp[eU,List.getD_eq_getElem?_getD,hk];omega
 |i+1,k,hi,hk=>by
  rw[eU,hZ _ _ _ _ (by rw[mL];exact hk)]
  split
  ·omega
  ·exact Eq hn h0 i k (by omega) hk
def qv(p:V7):Post:=⟨af p.length/\iS p.length p,.c (.ints 2 .i64 (cD p)),[]⟩
def wk:List AD->Option Post
 | [.c (.ints .i64 p)]=>some (qv p)
 |_=>none
def Er(p:V7):Nat->Option Ann
 |0=>some (Ann.mk ((Nat)) (fun i=>⟨[(0,.c (.ro (.ints .i64 p))),(3,.c (.own 8)),(9,.c (.ro (.ints .i64 p))),(10,.c (.int .i64 ((p.length:Int)))),(11,.c (.int .i64 ((i:Int))))],[(8,some (.ints 2 .i64 (eU p i)))]⟩) (fun i=>i<=p.length) (fun i=>p.length-i) (fun _=>am))
 |_=>none
def Es:List (Nat×Ctr):=[]
def wl(p:V7):Prop :=
 ((0:Int)<=(p.length:Int)/\(p.length:Int)<=(p.length:Int)/\af (p.length:Int).toNat)/\(∃x0:Nat,x0<=p.length/\p=p/\p=p/\(p.length:Int)=(p.length:Int)/\(0:Int)=(x0:Int)/\List.replicate (p.length:Int).toNat (0:Int)=eU p x0)/\∀x1:Nat,x1<=p.length->ae (decide ((x1:Int)<(p.length:Int))) (aa (x1:Int) p.length/\aa (p.getD (x1:Int).toNat (0:Int)) (eU p x1).length/\ac ((x1:Int)+(1:Int))/\∃x2:Nat,x2<=p.length/\p.length-x2<p.length-x1/\p=p/\p=p/\(p.length:Int)=(p.length:Int)/\(x1:Int)+(1:Int)=(x2:Int)/\List.set (eU p x1) ((p.getD (x1:Int).toNat (0:Int)).toNat) (x1:Int)=eU p x2) (eU p x1=cD p/\True)
theorem MJ(p:V7):aJ Tryz.prog (ai Es) ak (Er p) Tryz.f148 (aE Tryz.f148) [] [.c (.ints .i64 p)] (qv p)=wl p:=by kernel_rfl
theorem MK(p:V7)(Yh:(qv p).pre):wl p:=by
 simp only[qv,wl,aG,u1,u2,u3,u4,u5,u6,u7,u8,u9,v1,v2,v3,v4,v5,v6,v7,v8,v9,w1,w2,w3,w4,aH,aa,ac,af,ar]at Yh⊢;obtain⟨h1,h2⟩:=Yh;refine⟨by omega,⟨0,by omega,rfl,rfl⟩,fun i hi=>⟨fun h=>?_,fun h=>?_⟩⟩
 ·have hr:=h2 i (by omega)
  rw[mL];exact⟨by omega,by omega,by omega,i+1,by omega,by omega,by omega,rfl⟩
 ·rw[show i=p.length by omega];rfl
theorem MM:Fits Tryz.prog 148 ⟨[],wk⟩:=by
 refine aO (Γ:=ai Es) aF Tryz.func148 fun ds p h hp=>?_
 unfold wk at h;split at h
 ·cases h
  exact⟨ak,Er _ ,by rw[MJ];exact MK _  hp⟩
 ·cases h
def qw(x:Int)(y:Int)(p:V7)(t:V8)(q:V7):Post:=⟨0<=x/\x<(q.length:Int)/\0<=y/\y<(q.length:Int)/\0<=q.getD x.toNat 0/\q.getD x.toNat 0<(t.length:Int)/\0<=q.getD y.toNat 0/\q.getD y.toNat 0<((t.getD (q.getD x.toNat 0).toNat []).length:Int)/\0<=(t.getD (q.getD x.toNat 0).toNat []).getD (q.getD y.toNat 0).toNat 0/\(t.getD (q.getD x.toNat 0).toNat []).getD (q.getD y.toNat 0).toNat 0<(p.length:Int),.c (.int .i64 (p.getD ((t.getD (q.getD x.toNat 0).toNat []).getD (q.getD y.toNat 0).toNat 0).toNat 0)),[]⟩
def ow:List AD->Option Post
 | [.c (.int .i64 x),.c (.int .i64 y),.box [.ints .i64 p],.box [.rows .i64 t],.box [.ints .i64 q]]=>some (qw x y p t q)
 |_=>none
def Et:List (Nat×Ctr):=[]
def wm(x:Int)(y:Int)(p:V7)(t:V8)(q:V7):Prop :=
 aa x q.length/\aa (q.getD x.toNat (0:Int)) t.length/\aa y q.length/\aa (q.getD y.toNat (0:Int)) ((t.getD ((q.getD x.toNat (0:Int)).toNat) []).length)/\aa ((List.getD t ((List.getD q x.toNat (0:Int)).toNat) []).getD ((q.getD y.toNat (0:Int)).toNat) (0:Int)) p.length/\p.getD (((List.getD t ((List.getD q x.toNat (0:Int)).toNat) []).getD ((q.getD y.toNat (0:Int)).toNat) (0:Int)).toNat) (0:Int)=p.getD (((List.getD t ((List.getD q x.toNat (0:Int)).toNat) []).getD ((q.getD y.toNat (0:Int)).toNat) (0:Int)).toNat) (0:Int)/\True
theorem MN(x:Int)(y:Int)(p:V7)(t:V8)(q:V7):aJ Tryz.prog (ai Et) ak am Tryz.f149 (aE Tryz.f149) [] [.c (.int .i64 x),.c (.int .i64 y),.box [.ints .i64 p],.box [.rows .i64 t],.box [.ints .i64 q]] (qw x y p t q)=wm x y p t q:=by kernel_rfl
theorem MP(x:Int)(y:Int)(p:V7)(t:V8)(q:V7)(Yh:(qw x y p t q).pre):wm x y p t q:=by
 simp only[qw,wm,aG,u1,u2,u3,u4,u5,u6,u7,u8,u9,v1,v2,v3,v4,v5,v6,v7,v8,v9,w1,w2,w3,w4,aH,aa,ac,af,ar]at Yh⊢;omega
theorem MQ:Fits Tryz.prog 149 ⟨[],ow⟩:=by
 refine aO (Γ:=ai Et) aF Tryz.func149 fun ds p h hp=>?_
 unfold ow at h;split at h
 ·cases h
  exact⟨ak,am,by rw[MN];exact MP _ _ _ _ _  hp⟩
 ·cases h
def qx(t:V8)(p:V7):Post:=⟨1<=t.length/\t.length<=12/\ay t.length t/\p.length=t.length/\iS p.length p,.c (.rows 62 2 .i64 (eC t p)),[]⟩
def wn:List AD->Option Post
 | [.c (.rows .i64 t),.c (.ints .i64 p)]=>some (qx t p)
 |_=>none
def Eu:List (Nat×Ctr):=[(148,⟨[],wk⟩),(124,⟨[],lK⟩),(149,⟨[],ow⟩)]
def wo(t:V8)(p:V7):Prop :=
 ((af p.length/\iS p.length p)/\True)/\(((0:Int)<=(t.length:Int)/\(t.length:Int)<=(144:Int)/\∀(x y:Int),(0:Int)<=x->x<(t.length:Int)->(0:Int)<=y->y<(t.length:Int)->iC (ow [AD.c (FC.int IntKind.i64 x),AD.c (FC.int IntKind.i64 y),AD.box [FC.ints IntKind.i64 p],AD.box [FC.rows IntKind.i64 t],AD.box [FC.ints IntKind.i64 (cD p)]]))/\True)/\(bN (t.length:Int).toNat fun(x y:Nat)=>iB (ow [AD.c (FC.int IntKind.i64 (x:Int)),AD.c (FC.int IntKind.i64 (y:Int)),AD.box [FC.ints IntKind.i64 p],AD.box [FC.rows IntKind.i64 t],AD.box [FC.ints IntKind.i64 (cD p)]]))=eC t p/\True
theorem MT(t:V8)(p:V7):aJ Tryz.prog (ai Eu) ak am Tryz.f102 (aE Tryz.f102) [] [.c (.rows .i64 t),.c (.ints .i64 p)] (qx t p)=wo t p:=by kernel_rfl
theorem MU(t:V8)(p:V7)(Yh:(qx t p).pre):wo t p:=by
 simp only[qx,wo,aG,u1,u2,u3,u4,u5,u6,u7,u8,u9,v1,v2,v3,v4,v5,v6,v7,v8,v9,w1,w2,w3,w4,aH,aa,ac,af,ar]at Yh⊢;obtain⟨n1,n2,ht,h3,h2⟩:=Yh;have bl:(cD p).length=t.length:=(mL p _).trans h3
 have bi:∀k,k<t.length->0<=(cD p).getD k 0/\(cD p).getD k 0<(t.length:Int):=fun k hk=>Eq (by omega) n1 _ k (Nat.le_refl _) (by omega)
 refine⟨⟨by omega,h2⟩,⟨by omega,by omega,fun x y a b c d=>?_⟩,tC fun x y hx hy=>rfl⟩
 have bx:=bi x.toNat (by omega)
 have b2:=bi y.toNat (by omega)
 have r:=ht.2 ((cD p).getD x.toNat 0).toNat (by omega)
 have r2:=r.2 ((cD p).getD y.toNat 0).toNat (by omega)
 simp only[en]at r2;exact⟨by omega,by omega,by omega,by omega,by omega,by omega,by omega,by omega,by omega,by omega⟩
theorem MV:Fits Tryz.prog 102 ⟨[],wn⟩:=by
 refine aO (Γ:=ai Eu) (aw MM (aw o5 (aw MQ aF))) Tryz.func102 fun ds p h hp=>?_
 unfold wn at h;split at h
 ·cases h
  exact⟨ak,am,by rw[MT];exact MU _ _  hp⟩
 ·cases h
def eR(p:V8->Bool):V9->Int->Int
 | [],_=>-1
 |x::l,i=>if p x=true then i else eR p l (i+1)
theorem Ev(p:V8->Bool):∀(l:V9) (i:Int),0<=i->decide (0<=eR p l i)=l.any p
 | [],i,_=>by simp[eR]
 |x::l,i,h=>by
  rw[eR,List.any_cons];split
  ·rename_i hx;rw[hx,decide_eq_true h];rfl
  ·rename_i hx;rw[Ev p l (i+1) (by omega)];simp[hx]
def qy(l:V9)(q:V8->Prop)(p:V8->Bool):Post:=⟨l.length<=1099511627776/\∀x∈l,q x,.c (.int .i64 (eR p l 0)),[]⟩
def wp:List AD->Option Post
 | [.c (.r3 .i64 l),.fv (.tb q p)]=>some (qy l q p)
 |_=>none
def Ew(l:V9)(q:V8->Prop)(p:V8->Bool):Nat->Option Ann
 |0=>some (Ann.mk ((Nat)) (fun i=>⟨[(0,.c (.ro (.r3 .i64 l))),(1,.fv (.tb q p)),(7,.c (.int .i64 ((l.length:Int)))),(8,.c (.int .i64 ((i:Int))))],[]⟩) (fun i=>i<=l.length/\eR p l 0=eR p (l.drop i) (i:Int)) (fun i=>l.length-i) (fun _=>am))
 |_=>none
def Ex:List (Nat×Ctr):=[]
def wq(l:V9)(q:V8->Prop)(p:V8->Bool):Prop :=
 (∃x0:Nat,(x0<=l.length/\eR p l (0:Int)=eR p (List.drop x0 l) (x0:Int))/\l=l/\FV.tb q p=FV.tb q p/\(l.length:Int)=(l.length:Int)/\(0:Int)=(x0:Int))/\∀x1:Nat,x1<=l.length/\eR p l (0:Int)=eR p (List.drop x1 l) (x1:Int)->ae (decide ((x1:Int)<(l.length:Int))) (aa (x1:Int) l.length/\q (l.getD (x1:Int).toNat ([]:V8))/\ae (p (l.getD (x1:Int).toNat ([]:V8))) ((x1:Int)=eR p l (0:Int)/\True) (ac ((x1:Int)+(1:Int))/\∃x2:Nat,(x2<=l.length/\eR p l (0:Int)=eR p (List.drop x2 l) (x2:Int))/\l.length-x2<l.length-x1/\l=l/\FV.tb q p=FV.tb q p/\(l.length:Int)=(l.length:Int)/\(x1:Int)+(1:Int)=(x2:Int))) ((-1:Int)=eR p l (0:Int)/\True)
theorem MY(l:V9)(q:V8->Prop)(p:V8->Bool):aJ Tryz.prog (ai Ex) ak (Ew l q p) Tryz.f147 (aE Tryz.f147) [] [.c (.r3 .i64 l),.fv (.tb q p)] (qy l q p)=wq l q p:=by kernel_rfl
theorem MZ(l:V9)(q:V8->Prop)(p:V8->Bool)(Yh:(qy l q p).pre):wq l q p:=by
 simp only[qy,wq,aG,u1,u2,u3,u4,u5,u6,u7,u8,u9,v1,v2,v3,v4,v5,v6,v7,v8,v9,w1,w2,w3,w4,aH,aa,ac,af,ar]at Yh⊢;obtain⟨hl,hq⟩:=Yh;refine⟨⟨0,⟨by omega,rfl⟩,rfl⟩,fun i ⟨hi,he⟩=>⟨fun h=>?_,fun h=>?_⟩⟩
 ·rw[drop_cons' l [] i (by omega)]at he
  simp only[eR]at he;refine⟨by omega,hq _ (bM l [] i (by omega)),fun h1=>?_,fun h1=>⟨by omega,i+1,⟨by omega,?_⟩,by omega,by omega⟩⟩
  ·rw[he,if_pos h1]
  ·rw[he,if_neg (by rw[h1];exact Bool.false_ne_true)];simp
 ·rw[he,List.drop_of_length_le (by omega)];rfl
theorem M0:Fits Tryz.prog 147 ⟨[],wp⟩:=by
 refine aO (Γ:=ai Ex) aF Tryz.func147 fun ds p h hp=>?_
 unfold wp at h;split at h
 ·cases h
  exact⟨ak,Ew _ _ _ ,by rw[MY];exact MZ _ _ _  hp⟩
 ·cases h
def qz(l:V9)(q:V8->Prop)(p:V8->Bool):Post:=⟨l.length<=1099511627776/\∀x∈l,q x,.c (.bool (l.any p)),[]⟩
def wt:List AD->Option Post
 | [.c (.r3 .i64 l),.fv (.tb q p)]=>some (qz l q p)
 |_=>none
def Ey:List (Nat×Ctr):=[(147,⟨[],wp⟩)]
def wu(l:V9)(q:V8->Prop)(p:V8->Bool):Prop :=
 ((l.length<=(1099511627776:Nat)/\∀(x:V8),x∈l->q x)/\True)/\decide ((0:Int)<=eR p l (0:Int))=List.any l p/\True
theorem M1(l:V9)(q:V8->Prop)(p:V8->Bool):aJ Tryz.prog (ai Ey) ak am Tryz.f99 (aE Tryz.f99) [] [.c (.r3 .i64 l),.fv (.tb q p)] (qz l q p)=wu l q p:=by kernel_rfl
theorem M2(l:V9)(q:V8->Prop)(p:V8->Bool)(Yh:(qz l q p).pre):wu l q p:=by
 simp only[qz,wu,aG,u1,u2,u3,u4,u5,u6,u7,u8,u9,v1,v2,v3,v4,v5,v6,v7,v8,v9,w1,w2,w3,w4,aH,aa,ac,af,ar]at Yh⊢;exact⟨Yh,Ev p l 0 (by omega)⟩
theorem M3:Fits Tryz.prog 99 ⟨[],wt⟩:=by
 refine aO (Γ:=ai Ey) (aw M0 aF) Tryz.func99 fun ds p h hp=>?_
 unfold wt at h;split at h
 ·cases h
  exact⟨ak,am,by rw[M1];exact M2 _ _ _  hp⟩
 ·cases h
def qA(a:V8)(b:V8):Post:=⟨aM a/\aM b,.c (.bool (decide (a=b))),[]⟩
def wv:List AD->Option Post
 | [.c (.rows .i64 a),.box [.rows .i64 b]]=>some (qA a b)
 |_=>none
def Ez:List (Nat×Ctr):=[(101,⟨[],xb⟩)]
def wx(a:V8)(b:V8):Prop :=
 ((aM a/\aM b)/\True)/\decide (a=b)=decide (a=b)/\True
theorem M4(a:V8)(b:V8):aJ Tryz.prog (ai Ez) ak am Tryz.f100 (aE Tryz.f100) [] [.c (.rows .i64 a),.box [.rows .i64 b]] (qA a b)=wx a b:=by kernel_rfl
theorem M5(a:V8)(b:V8)(Yh:(qA a b).pre):wx a b:=by
 simp only[qA,wx,aG,u1,u2,u3,u4,u5,u6,u7,u8,u9,v1,v2,v3,v4,v5,v6,v7,v8,v9,w1,w2,w3,w4,aH,aa,ac,af,ar]at Yh⊢;exact Yh
theorem M6:Fits Tryz.prog 100 ⟨[],wv⟩:=by
 refine aO (Γ:=ai Ez) (aw NU aF) Tryz.func100 fun ds p h hp=>?_
 unfold wv at h;split at h
 ·cases h
  exact⟨ak,am,by rw[M4];exact M5 _ _  hp⟩
 ·cases h
theorem M7{l:V8}{i k:Nat}(h:i<l.length)(hk:k=l.length-i):(l.take i++List.replicate k []).set i (l.getD i [])=l.take (i+1)++List.replicate (l.length-(i+1)) []:=by
 subst hk;exact(oo l [] [] i h)
def qB(t:V8):Post:=⟨t.length<=144/\(∀r∈t,r.length≠0/\r.length<=144),.c (.rows 62 2 .i64 t),[]⟩
def wy:List AD->Option Post
 | [.c (.rows .i64 t)]=>some (qB t)
 |_=>none
def EA(t:V8):Nat->Option Ann
 |0=>some (Ann.mk ((Nat)) (fun i=>⟨[(3,.c (.own 8)),(9,.c (.ro (.rows .i64 t))),(10,.c (.int .i64 ((t.length:Int)))),(11,.c (.int .i64 ((i:Int))))],[(8,some (.rows 0 62 2 .i64 (t.take i++List.replicate (t.length-i) [])))]⟩) (fun i=>i<=t.length) (fun i=>t.length-i) (fun _=>am))
 |_=>none
def EB:List (Nat×Ctr):=[(82,⟨[],sL⟩)]
def wz(t:V8):Prop :=
 ((0:Int)<=(t.length:Int)/\(t.length:Int)<=(t.length:Int)/\af (t.length:Int).toNat)/\(∃x0:Nat,x0<=t.length/\t=t/\(t.length:Int)=(t.length:Int)/\(0:Int)=(x0:Int)/\List.replicate (t.length:Int).toNat []=List.take x0 t++List.replicate (t.length-x0) ([]:V7))/\∀x1:Nat,x1<=t.length->ae (decide ((x1:Int)<(t.length:Int))) (aa (x1:Int) t.length/\(((t.getD (x1:Int).toNat []).length≠(0:Nat)/\af ((t.getD (x1:Int).toNat []).length))/\True)/\aa (x1:Int) ((List.take x1 t++List.replicate (t.length-x1) ([]:V7)).length)/\ac ((x1:Int)+(1:Int))/\∃x2:Nat,x2<=t.length/\t.length-x2<t.length-x1/\t=t/\(t.length:Int)=(t.length:Int)/\(x1:Int)+(1:Int)=(x2:Int)/\List.set (List.take x1 t++List.replicate (t.length-x1) ([]:V7)) (x1:Int).toNat (t.getD (x1:Int).toNat [])=List.take x2 t++List.replicate (t.length-x2) ([]:V7)) (List.take x1 t++List.replicate (t.length-x1) ([]:V7)=t/\True)
theorem M8(t:V8):aJ Tryz.prog (ai EB) ak (EA t) Tryz.f103 (aE Tryz.f103) [] [.c (.rows .i64 t)] (qB t)=wz t:=by kernel_rfl
theorem M9(t:V8)(Yh:(qB t).pre):wz t:=by
 simp only[qB,wz,aG,u1,u2,u3,u4,u5,u6,u7,u8,u9,v1,v2,v3,v4,v5,v6,v7,v8,v9,w1,w2,w3,w4,aH,aa,ac,af,ar]at Yh⊢;obtain⟨h1,h2⟩:=Yh;refine⟨by omega,⟨0,by omega,rfl,by simp⟩,fun i hi=>⟨fun h=>?_,fun h=>by rw[List.take_of_length_le (by omega),show t.length-i=0 by omega,List.replicate_zero,List.append_nil]⟩⟩
 have r:=h2 _ (bM t [] i (by omega))
 exact⟨by omega,⟨by omega,by omega⟩,by omega,by omega,i+1,by omega,by omega,by omega,M7 (by omega) rfl⟩
theorem Na:Fits Tryz.prog 103 ⟨[],wy⟩:=by
 refine aO (Γ:=ai EB) (aw HZ aF) Tryz.func103 fun ds p h hp=>?_
 unfold wy at h;split at h
 ·cases h
  exact⟨ak,EA _ ,by rw[M8];exact M9 _  hp⟩
 ·cases h
def jp(A:V8)(st:V9×V9)(c:V8):V9×V9 :=
 if st.1.any (fun s=>decide (s=c))=true then st else(st.1++A.map (eC c),st.2++[c])
def da(A:V8)(cs:V9):V9×V9:=cs.foldl (jp A) ([],[])
def a8(t:V8):V9:=c7 (cj t (ab t) 9 [] [])
def bB(t:V8)(cs:V9):WB:=cs.map fun c=>(t,c)
theorem qC{A:V8}{cs:V9}{i:Nat}(h:i<cs.length):da A (cs.take (i+1))=jp A (da A (cs.take i)) (cs.getD i []):=by
 rw[<-dF cs [] i h,da,List.foldl_append];rfl
theorem EC(A:V8)(cs:V9):∀i,i<=cs.length->(da A (cs.take i)).1.length<=i*A.length/\(da A (cs.take i)).2.length<=i
 |0,_=>by simp[da]
 |i+1,h=>by
  obtain⟨h1,h2⟩:=EC A cs i (by omega)
  rw[qC (by omega),jp]
  split
  ·exact⟨Nat.le_trans h1 (Nat.mul_le_mul_right _ (by omega)),by omega⟩
  ·simp only[List.length_append,List.length_map,List.length_singleton,Nat.add_mul,Nat.one_mul]
   omega
theorem wA{P:V8->Prop}{A:V8}{cs:V9}(hP:∀c∈cs,∀f∈A,P (eC c f)):∀i,i<=cs.length->∀s∈(da A (cs.take i)).1,P s
 |0,_=>by simp[da]
 |i+1,h=>by
  rw[qC (by omega),jp]
  split
  ·exact wA hP i (by omega)
  ·intro s hs
   rcases List.mem_append.1 hs with hs|hs
   ·exact wA hP i (by omega) s hs
   ·obtain⟨f,hf,rfl⟩:=List.mem_map.1 hs
    exact hP _ (bM cs [] i (by omega)) f hf
theorem qD{n:Nat}{t:V8}(G:GrpT n t)(hn:n<=7):a8 t=aD t (ab t):=qh G hn
theorem Nb{n:Nat}{t:V8}(G:GrpT n t)(hn:n<=7):(a8 t).length<=2401:=by rw[qD G hn];exact qk G hn
theorem ED{n:Nat}{t:V8}(G:GrpT n t)(hn:n<=7){c:V8}(hc:c∈a8 t):ay n c:=by
 rw[qD G hn]at hc;obtain⟨L,hL,rfl⟩:=(vX G hn).1 hc;exact vW G hn hL
theorem EE{n:Nat}{c:V8}(h:ay n c)(hn:n<=12):aM c:=⟨by rw[h.1];omega,fun r hr=>by
 obtain⟨i,hi,rfl⟩:=List.getElem_of_mem hr;have:=(h.2 i (by rw[<-h.1];exact hi)).1
 rw[bF c [] i hi]at this;omega⟩
def qE(t:V8):Post:=⟨ba t=true/\t.length<=7,.c (.tr [39,62,2] (.p3 .i64 (bB t (da (ab t) (a8 t)).2))),[]⟩
def wB:List AD->Option Post
 | [.c (.rows .i64 t)]=>some (qE t)
 |_=>none
def EF(t:V8):Nat->Option Ann
 |0=>some (Ann.mk ((Nat)) (fun i=>⟨[(0,.c (.ro (.rows .i64 t))),(3,.c (.ro (.rows .i64 ((ab t))))),(4,.c (.own 601)),(5,.c (.own 602)),(13,.c (.own 600)),(14,.c (.int .i64 (((a8 t).length:Int)))),(15,.c (.int .i64 ((i:Int))))],[(600,some (.trk 0 [22,62,2] (.r3 .i64 (a8 t)) i)),(601,some (.tr 0 [22,62,2] (.r3 .i64 ((da (ab t) ((a8 t).take i)).1)))),(602,some (.tr 0 [39,62,2] (.p3 .i64 (bB t (da (ab t) ((a8 t).take i)).2))))]⟩) (fun i=>i<=(a8 t).length) (fun i=>(a8 t).length-i) (fun i=>fun b_=>match b_ with|2=>some (Ann.mk ((Nat)) (fun j=>⟨[(0,.c (.ro (.rows .i64 t))),(3,.c (.ro (.rows .i64 ((ab t))))),(4,.c (.own 601)),(5,.c (.own 602)),(7,.c (.ptr 604 0)),(13,.c (.own 600)),(14,.c (.int .i64 (((a8 t).length:Int)))),(15,.c (.int .i64 ((i:Int)))),(22,.c (.ro (.rows .i64 ((ab t))))),(23,.c (.int .i64 (((ab t).length:Int)))),(24,.c (.int .i64 ((j:Int))))],[(600,some (.trk 0 [22,62,2] (.r3 .i64 (a8 t)) (i+1))),(601,some (.tr 0 [22,62,2] (.r3 .i64 (((da (ab t) ((a8 t).take i)).1++((ab t).take j).map (eC ((a8 t).getD i []))))))),(602,some (.tr 0 [39,62,2] (.p3 .i64 (bB t (da (ab t) ((a8 t).take i)).2)))),(604,some (.box [.own 605])),(605,some (.rows 0 62 2 .i64 ((a8 t).getD i [])))]⟩) (fun j=>i<(a8 t).length/\j<=(ab t).length/\(da (ab t) ((a8 t).take i)).1.any (fun s=>decide (s=(a8 t).getD i []))=false) (fun j=>(ab t).length-j) (fun _=>am))|_=>none))
 |_=>none
def EG(t:Nat):Bool:=[3000018,2000032,5000040].contains t
def EH:List (Nat×Ctr):=[(87,⟨[],sO⟩),(85,⟨[],xA⟩),(99,⟨[],wt⟩),(100,⟨[],wv⟩),(102,⟨[],wn⟩),(103,⟨[],wy⟩)]
def di(t:V8)(x0:Nat):=(da (ab t) (List.take x0 (a8 t)))
def gg(t:V8)(x0:Nat):=((a8 t).getD x0 ([]:V8))
def wD(t:V8):Prop :=
 ((((1:Nat)<=t.length/\jB (t::([]:V9)) (t::([]:V9))/\(cz (t::([]:V9)) (t::([]:V9))).length<=(1000000000:Nat))/\True)/\(((ba t=true/\t.length<=(7:Nat))/\True)/\((∃x0:Nat,x0<=(a8 t).length/\t=t/\cz (t::([]:V9)) (t::([]:V9))=ab t/\(↑(FC.len (FC.r3 IntKind.i64 (c7 (cj t (ab t) (9:Nat) ([]:V8) ([]:V9))))):Int)=(↑((a8 t).length):Int)/\(0:Int)=(x0:Int)/\c7 (cj t (ab t) (9:Nat) ([]:V8) ([]:V9))=a8 t/\x0=(0:Nat)/\FC.len (FC.r3 IntKind.i64 (di t x0).1)=(0:Nat)/\FC.len (FC.p3 IntKind.i64 (bB t (di t x0).2))=(0:Nat))/\(∀x1:Nat,(x1<=(a8 t).length->(ae (decide ((x1:Int)<(↑((a8 t).length):Int))) (aa (x1:Int) (FC.len (FC.r3 IntKind.i64 (a8 t)))/\(((x1:Int).toNat=x1/\x1<(a8 t).length)/\(((((di t x1).1).length<=(1099511627776:Nat)/\∀(x:V8),x∈(di t x1).1->aM x/\aM ((a8 t).getD (x1:Int).toNat ([]:V8)))/\True)/\(ae (List.any ((da (ab t) (List.take x1 (a8 t))).1) fun(x:V8)=>decide (x=(a8 t).getD (x1:Int).toNat ([]:V8))) (ac ((x1:Int)+(1:Int))/\(∃x2:Nat,(x2<=(a8 t).length/\((a8 t).length-x2<(a8 t).length-x1/\((t=t) /\
 ((ab t=ab t)/\(((↑((a8 t).length):Int)=(↑((a8 t).length):Int))/\(((x1:Int)+(1:Int)=(x2:Int))/\((a8 t=a8 t)/\((x1+(1:Nat)=x2)/\(((di t x1).1=(di t x2).1)/\(bB t (di t x1).2=bB t (di t x2).2)))))))))))) ((∃x3:Nat,(((x1<(a8 t).length)/\((x3<=(ab t).length)/\((List.any (di t x1).1 fun(s:V8)=>decide (s=(a8 t).getD x1 ([]:V8)))=false)))/\((t=t)/\((ab t=ab t)/\(((↑((a8 t).length):Int)=(↑((a8 t).length):Int))/\(((x1:Int)=(x1:Int))/\((ab t=ab t)/\(((↑((ab t).length):Int)=(↑((ab t).length):Int))/\(((0:Int)=(x3:Int))/\((a8 t=a8 t)/\((x1+(1:Nat)=x1+(1:Nat))/\(((di t x1).1=(di t x1).1++List.map (eC (gg t x1)) (List.take x3 (ab t)))/\((bB t (di t x1).2=bB t (di t x1).2)/\((a8 t).getD (x1:Int).toNat ([]:V8)=(a8 t).getD x1 ([]:V8)))))))))))))))/\(∀x4:Nat,(((x1<(a8 t).length)/\((x4<=(ab t).length)/\((List.any (di t x1).1 fun(s:V8)=>decide (s=(a8 t).getD x1 ([]:V8)))=false)))->(ae (decide ((x4:Int)<(↑((ab t).length):Int))) ((aa (x4:Int) (ab t).length)/\(((((1:Nat)<=(gg t x1).length)/\(((gg t x1).length<=(12:Nat))/\((ay (gg t x1).length (gg t x1))/\((((ab t).getD (x4:Int).toNat []).length=(gg t x1).length) /\
 (iS (((ab t).getD (x4:Int).toNat []).length) ((ab t).getD (x4:Int).toNat []))))))/\True)/\((af (FC.len (FC.r3 IntKind.i64 ((di t x1).1++List.map (eC (gg t x1)) (List.take x4 (ab t))))+FC.len (FC.r3 IntKind.i64 (eC (gg t x1) ((ab t).getD (x4:Int).toNat [])::([]:V9)))))/\((ac ((x4:Int)+(1:Int)))/\(∃x5:Nat,(((x1<(a8 t).length)/\((x5<=(ab t).length)/\((List.any (di t x1).1 fun(s:V8)=>decide (s=(a8 t).getD x1 ([]:V8)))=false)))/\(((ab t).length-x5<(ab t).length-x4)/\((t=t)/\((ab t=ab t)/\(((↑((a8 t).length):Int)=(↑((a8 t).length):Int))/\(((x1:Int)=(x1:Int))/\((ab t=ab t)/\(((↑((ab t).length):Int)=(↑((ab t).length):Int))/\(((x4:Int)+(1:Int)=(x5:Int))/\((a8 t=a8 t)/\((x1+(1:Nat)=x1+(1:Nat))/\(((di t x1).1++List.map (eC (gg t x1)) (List.take x4 (ab t))++eC (gg t x1) ((ab t).getD (x4:Int).toNat [])::([]:V9)=(di t x1).1++List.map (eC (gg t x1)) (List.take x5 (ab t)))/\((bB t (di t x1).2=bB t (di t x1).2)/\((a8 t).getD x1 ([]:V8)=(a8 t).getD x1 ([]:V8)))))))))))))))))))) ((((t.length<=(144:Nat))/\(∀(r:V7),r∈t->r.length≠(0:Nat)/\r.length<=(144:Nat)))/\True) /\
 ((af (FC.len (FC.p3 IntKind.i64 (bB t (di t x1).2))+FC.len (FC.p3 IntKind.i64 [(t,(a8 t).getD x1 ([]:V8))])))/\((ac ((x1:Int)+(1:Int)))/\(∃x6:Nat,((x6<=(a8 t).length)/\(((a8 t).length-x6<(a8 t).length-x1)/\((t=t)/\((ab t=ab t)/\(((↑((a8 t).length):Int)=(↑((a8 t).length):Int))/\(((x1:Int)+(1:Int)=(x6:Int))/\((a8 t=a8 t)/\((x1+(1:Nat)=x6)/\(((di t x1).1++List.map (eC (gg t x1)) (List.take x4 (ab t))=(di t x6).1)/\(bB t (di t x1).2++[(t,(a8 t).getD x1 ([]:V8))]=bB t (di t x6).2)))))))))))))))))))))) ((bB t (di t x1).2=bB t ((da (ab t) (a8 t)).2))/\True)))))))
theorem Nc(t:V8):aJ Tryz.prog (ai EH) EG (EF t) Tryz.f54 (aE Tryz.f54) [] [.c (.rows .i64 t)] (qE t)=wD t:=by kernel_rfl
theorem Nd(t:V8)(Yh:(qE t).pre):wD t:=by
 simp only[qE,wD,di,gg,aG,u1,u2,u3,u4,u5,u6,u7,u8,u9,v1,v2,v3,v4,v5,v6,v7,v8,v9,w1,w2,w3,w4,aH,aa,ac,af,ar]at Yh⊢;obtain⟨h,hn⟩:=Yh;have G:=js h
 have hcl:=Nb G hn
 have hA:=kX G hn
 have hct:=fun c hc=>ED G hn (c:=c) hc
 have hS:=lj G hn
 have hAp:∀j,j<(ab t).length->IsP t.length ((ab t).getD j []):=fun j hj=>(qg G hn (bM _ [] j hj)).p
 have rm:∀i,i<=(a8 t).length->∀s∈(da (ab t) ((a8 t).take i)).1,aM s:=fun i hi=>wA (P:=aM) (fun c hc f hf=>EE (Ee (hct c hc) (qg G hn hf).p).tb (by omega)) i hi
 have len:=EC (ab t) (a8 t)
 simp only[Int.toNat_natCast,FC.len]at *;refine⟨⟨G.pos,li G hn,by rw[hS];omega⟩,⟨h,hn⟩,⟨0,by omega,hS,rfl,rfl,rfl,rfl,rfl,rfl⟩,fun i hi=>⟨fun hlt=>?_,fun hge=>?_⟩⟩
 ·have hlt:i<(a8 t).length:=by omega
  have hc:=hct _ (bM (a8 t) [] i hlt)
  obtain⟨l1,l2⟩:=len i hi;have l3:i*(ab t).length<=2401*49:=Nat.mul_le_mul (by omega) hA
  have rc:=EE hc (by omega)
  have st:=qC (A:=ab t) hlt
  have hc1:=hc.1
  refine⟨by omega,hlt,⟨by omega,fun x hx=>⟨rm i hi x hx,rc⟩⟩,fun hany=>⟨by omega,i+1,by omega,by omega,by omega,rfl,?_,?_⟩,fun hany=>⟨⟨0,⟨hlt,by omega,hany⟩,rfl,by simp⟩,fun j ⟨_,hj,_⟩=>⟨fun hjl=>?_,fun hjl=>?_⟩⟩⟩
  ·rw[st,jp,if_pos hany]
  ·rw[st,jp,if_pos hany]
  ·have hjl:j<(ab t).length:=by omega
   have P:=hAp j hjl
   have lp:=P.len
   have eq:(da (ab t) ((a8 t).take i)).1++((ab t).take j).map (eC ((a8 t).getD i []))++[eC ((a8 t).getD i []) ((ab t).getD j [])]=(da (ab t) ((a8 t).take i)).1++((ab t).take (j+1)).map (eC ((a8 t).getD i [])):=by
    rw[<-dF (ab t) [] j hjl,List.map_append,List.append_assoc];rfl
   refine⟨by omega,⟨by have:=G.pos;omega,by omega,by rw[hc1];exact hc,by omega,fun k hk=>by rw[lp];exact P.rng k (by omega)⟩,?_,by omega,j+1,⟨hlt,by omega,hany⟩,by omega,by omega,eq⟩
   simp only[List.length_append,List.length_map,List.length_take,List.length_singleton];omega
  ·have ej:j=(ab t).length:=by omega
   have ht:=G.tb
   refine⟨⟨by omega,fun r hr=>?_⟩,?_,by omega,i+1,by omega,by omega,by omega,rfl,?_,?_⟩
   ·obtain⟨k,hk,rfl⟩:=List.getElem_of_mem hr
    have:=(ht.2 k hk).1
    rw[bF t [] k hk]at this;have:=G.pos
    omega
   ·simp only[bB,List.length_map,List.length_singleton];omega
   ·rw[st,jp,if_neg (by rw[hany];simp),ej,List.take_length]
   ·rw[st,jp,if_neg (by rw[hany];simp)]
    simp[bB]
 ·rw[show i=(a8 t).length by omega,List.take_length]
theorem Nf:Fits Tryz.prog 54 ⟨[],wB⟩:=by
 refine aO (Γ:=ai EH) (aw H9 (aw Ow (aw M3 (aw M6 (aw MV (aw Na aF)))))) Tryz.func54 fun ds p h hp=>?_
 unfold wB at h;split at h
 ·cases h
  exact⟨EG,EF _ ,by rw[Nc];exact Nd _  hp⟩
 ·cases h
end Go.Sx
