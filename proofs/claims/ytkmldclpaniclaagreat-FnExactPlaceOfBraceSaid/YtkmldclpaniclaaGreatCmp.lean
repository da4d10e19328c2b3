/- Cmp -/
import Derived.Test.YtkmldclpaniclaaGreatRack
open Go Go.Proofs
namespace Go.Sx
set_option linter.unusedSimpArgs false
set_option linter.unusedVariables false
def bQ(x y:Int):Int:=if x<y then -1 else if y<x then 1 else 0
theorem Fa{x y:Int}:bQ x y=0↔x=y:=by
 unfold bQ;split
 ·omega
 ·split<;>omega
def bn{α:Type}(c:α->α->Int):List α->List α->Int
 | [],[]=>0
 | [],_::_=>-1
 |_::_,[]=>1
 |x::a,y::b=>if c x y=0 then bn c a b else c x y
theorem qP{α:Type}{c:α->α->Int}(hc:∀x y,c x y=0↔x=y):∀{a b:List α},bn c a b=0↔a=b
 | [],[]=>by simp[bn]
 | [],_::_=>by simp[bn]
 |_::_,[]=>by simp[bn]
 |x::a,y::b=>by
  simp only[bn,List.cons.injEq];by_cases h:c x y=0
  ·rw[if_pos h,qP hc]
   simp[(hc x y).1 h]
  ·rw[if_neg h]
   exact⟨fun e=>absurd e h,fun e=>absurd ((hc x y).2 e.1) h⟩
theorem qQ{α:Type}(c:α->α->Int)(d:α)(a b:List α)(i:Nat)(ha:i<a.length)(hb:i<b.length) :
  bn c (a.drop i) (b.drop i)=if c (a.getD i d) (b.getD i d)=0 then bn c (a.drop (i+1)) (b.drop (i+1))else c (a.getD i d) (b.getD i d):=by
 rw[drop_cons' a d i ha,drop_cons' b d i hb];rfl
theorem Fb{α:Type}(c:α->α->Int)(d:α)(a b:List α)(i:Nat)(ha:i<a.length)(hb:b.length<=i):bn c (a.drop i) (b.drop i)=1:=by
 rw[drop_cons' a d i ha,List.drop_of_length_le hb];rfl
theorem qR{α:Type}(c:α->α->Int)(d:α)(a b:List α)(i:Nat)(ha:a.length<=i):bn c (a.drop i) (b.drop i)=if i<b.length then -1 else 0:=by
 rw[List.drop_of_length_le ha];split
 ·rename_i h;rw[drop_cons' b d i h];rfl
 ·rw[List.drop_of_length_le (by omega)];rfl
def qS(x:Int):Post:=⟨True,.c (.bool false),[]⟩
def wW:List AD->Option Post
 | [.c (.int .i64 x)]=>some (qS x)
 |_=>none
def Fc:List (Nat×Ctr):=[]
def wX(x:Int):Prop :=
 (x != x)=false/\True
theorem Nz(x:Int):aJ Tryz.prog (ai Fc) ak am Tryz.f201 (aE Tryz.f201) [] [.c (.int .i64 x)] (qS x)=wX x:=by kernel_rfl
theorem NA(x:Int)(Yh:(qS x).pre):wX x:=by
 simp only[qS,wX,aG,u1,u2,u3,u4,u5,u6,u7,u8,u9,v1,v2,v3,v4,v5,v6,v7,v8,v9,w1,w2,w3,w4,aH,aa,ac,af,ar]at Yh⊢
theorem NB:Fits Tryz.prog 201 ⟨[],wW⟩:=by
 refine aO (Γ:=ai Fc) aF Tryz.func201 fun ds p h hp=>?_
 unfold wW at h;split at h
 ·cases h
  exact⟨ak,am,by rw[Nz];exact NA _  hp⟩
 ·cases h
def qT(x:Int)(y:Int):Post:=⟨True,.c (.int .i64 (bQ x y)),[]⟩
def wY:List AD->Option Post
 | [.c (.int .i64 x),.c (.int .i64 y)]=>some (qT x y)
 |_=>none
def Fd:List (Nat×Ctr):=[(201,⟨[],wW⟩)]
def wZ(x:Int)(y:Int):Prop :=
 (True/\True)/\(True/\True)/\ae (decide (x<y)) ((-1:Int)=bQ x y/\True) (ae (decide (y<x)) ((1:Int)=bQ x y/\True) ((0:Int)=bQ x y/\True))
theorem NC(x:Int)(y:Int):aJ Tryz.prog (ai Fd) ak am Tryz.f140 (aE Tryz.f140) [] [.c (.int .i64 x),.c (.int .i64 y)] (qT x y)=wZ x y:=by kernel_rfl
theorem ND(x:Int)(y:Int)(Yh:(qT x y).pre):wZ x y:=by
 simp only[qT,wZ,aG,u1,u2,u3,u4,u5,u6,u7,u8,u9,v1,v2,v3,v4,v5,v6,v7,v8,v9,w1,w2,w3,w4,aH,aa,ac,af,ar]at Yh⊢;unfold bQ;refine⟨fun h=>?_,fun h=>⟨fun h2=>?_,fun h2=>?_⟩⟩
 ·rw[if_pos h]
 ·rw[if_neg h,if_pos h2]
 ·rw[if_neg h,if_neg h2]
theorem NE:Fits Tryz.prog 140 ⟨[],wY⟩:=by
 refine aO (Γ:=ai Fd) (aw NB aF) Tryz.func140 fun ds p h hp=>?_
 unfold wY at h;split at h
 ·cases h
  exact⟨ak,am,by rw[NC];exact ND _ _  hp⟩
 ·cases h
def qU(a:V7)(b:V7):Post:=⟨af a.length/\af b.length,.c (.int .i64 (bn bQ a b)),[]⟩
def w5:List AD->Option Post
 | [.c (.ints .i64 a),.c (.ints .i64 b)]=>some (qU a b)
 |_=>none
def Fe(a:V7)(b:V7):Nat->Option Ann
 |0=>some (Ann.mk ((Nat)) (fun i=>⟨[(0,.c (.ro (.ints .i64 a))),(1,.c (.ro (.ints .i64 b))),(9,.c (.ro (.ints .i64 a))),(10,.c (.int .i64 ((a.length:Int)))),(11,.c (.int .i64 ((i:Int))))],[]⟩) (fun i=>i<=a.length/\i<=b.length/\bn bQ a b=bn bQ (a.drop i) (b.drop i)) (fun i=>a.length-i) (fun _=>am))
 |_=>none
def Ff:List (Nat×Ctr):=[(140,⟨[],wY⟩)]
def w6(a:V7)(b:V7):Prop :=
 (∃x0:Nat,(x0<=a.length/\x0<=b.length/\bn bQ a b=bn bQ (List.drop x0 a) (List.drop x0 b))/\a=a/\b=b/\a=a/\(a.length:Int)=(a.length:Int)/\(0:Int)=(x0:Int))/\∀x1:Nat,x1<=a.length/\x1<=b.length/\bn bQ a b=bn bQ (List.drop x1 a) (List.drop x1 b)->ae (decide ((x1:Int)<(a.length:Int))) (aa (x1:Int) a.length/\ae (decide ((b.length:Int)<=(x1:Int))) ((1:Int)=bn bQ a b/\True) (aa (x1:Int) b.length/\(True/\True)/\ae (bQ (a.getD (x1:Int).toNat (0:Int)) (b.getD (x1:Int).toNat (0:Int)) != (0:Int)) (bQ (a.getD (x1:Int).toNat (0:Int)) (b.getD (x1:Int).toNat (0:Int))=bn bQ a b/\True) (ac ((x1:Int)+(1:Int))/\∃x2:Nat,(x2<=a.length/\x2<=b.length/\bn bQ a b=bn bQ (List.drop x2 a) (List.drop x2 b))/\a.length-x2<a.length-x1/\a=a/\b=b/\a=a/\(a.length:Int)=(a.length:Int)/\(x1:Int)+(1:Int)=(x2:Int)))) (ae (decide ((a.length:Int)<(b.length:Int))) ((-1:Int)=bn bQ a b/\True) ((0:Int)=bn bQ a b/\True))
theorem NF(a:V7)(b:V7):aJ Tryz.prog (ai Ff) ak (Fe a b) Tryz.f90 (aE Tryz.f90) [] [.c (.ints .i64 a),.c (.ints .i64 b)] (qU a b)=w6 a b:=by kernel_rfl
theorem NH(a:V7)(b:V7)(Yh:(qU a b).pre):w6 a b:=by
 simp only[qU,w6,aG,u1,u2,u3,u4,u5,u6,u7,u8,u9,v1,v2,v3,v4,v5,v6,v7,v8,v9,w1,w2,w3,w4,aH,aa,ac,af,ar]at Yh⊢;refine⟨⟨0,⟨by omega,by omega,rfl⟩,rfl⟩,fun i ⟨hi,hj,he⟩=>⟨fun h=>⟨by omega,fun h2=>?_,fun h2=>⟨by omega,fun h3=>?_,fun h3=>⟨by omega,i+1,⟨by omega,by omega,?_⟩,by omega,by omega⟩⟩⟩,fun h=>⟨fun h2=>?_,fun h2=>?_⟩⟩⟩
 ·rw[he,Fb bQ 0 a b i (by omega) (by omega)]
 ·rw[he,qQ bQ 0 a b i (by omega) (by omega),if_neg h3]
 ·rw[he,qQ bQ 0 a b i (by omega) (by omega),if_pos h3]
 ·rw[he,qR bQ 0 a b i (by omega),if_pos (by omega)]
 ·rw[he,qR bQ 0 a b i (by omega),if_neg (by omega)]
theorem NI:Fits Tryz.prog 90 ⟨[],w5⟩:=by
 refine aO (Γ:=ai Ff) (aw NE aF) Tryz.func90 fun ds p h hp=>?_
 unfold w5 at h;split at h
 ·cases h
  exact⟨ak,Fe _ _ ,by rw[NF];exact NH _ _  hp⟩
 ·cases h
def qV(a:V7)(b:V7):Post:=⟨af a.length/\af b.length,.c (.int .i64 (bn bQ a b)),[]⟩
def oy:List AD->Option Post
 | [.c (.ints .i64 a),.c (.ints .i64 b)]=>some (qV a b)
 |_=>none
def Fg:List (Nat×Ctr):=[(90,⟨[],w5⟩)]
def w7(a:V7)(b:V7):Prop :=
 ((af a.length/\af b.length)/\True)/\bn bQ a b=bn bQ a b/\True
theorem NJ(a:V7)(b:V7):aJ Tryz.prog (ai Fg) ak am Tryz.f188 (aE Tryz.f188) [] [.c (.ints .i64 a),.c (.ints .i64 b)] (qV a b)=w7 a b:=by kernel_rfl
theorem NK(a:V7)(b:V7)(Yh:(qV a b).pre):w7 a b:=by
 simp only[qV,w7,aG,u1,u2,u3,u4,u5,u6,u7,u8,u9,v1,v2,v3,v4,v5,v6,v7,v8,v9,w1,w2,w3,w4,aH,aa,ac,af,ar]at Yh⊢;exact Yh
theorem NM:Fits Tryz.prog 188 ⟨[],oy⟩:=by
 refine aO (Γ:=ai Fg) (aw NI aF) Tryz.func188 fun ds p h hp=>?_
 unfold oy at h;split at h
 ·cases h
  exact⟨ak,am,by rw[NJ];exact NK _ _  hp⟩
 ·cases h
def qW(a:V8)(b:V8)(q:V7->V7->Prop)(p:V7->V7->Int):Post:=⟨a.length<=1099511627776/\b.length<=1099511627776/\(∀x∈a,∀y∈b,q x y),.c (.int .i64 (bn p a b)),[]⟩
def w8:List AD->Option Post
 | [.c (.rows .i64 a),.c (.rows .i64 b),.fv (.lli q p)]=>some (qW a b q p)
 |_=>none
def Fh(a:V8)(b:V8)(q:V7->V7->Prop)(p:V7->V7->Int):Nat->Option Ann
 |0=>some (Ann.mk ((Nat)) (fun i=>⟨[(0,.c (.ro (.rows .i64 a))),(1,.c (.ro (.rows .i64 b))),(2,.fv (.lli q p)),(11,.c (.ro (.rows .i64 a))),(12,.c (.int .i64 ((a.length:Int)))),(13,.c (.int .i64 ((i:Int))))],[]⟩) (fun i=>i<=a.length/\i<=b.length/\bn p a b=bn p (a.drop i) (b.drop i)) (fun i=>a.length-i) (fun _=>am))
 |_=>none
def Fi:List (Nat×Ctr):=[]
def w9(a:V8)(b:V8)(q:V7->V7->Prop)(p:V7->V7->Int):Prop :=
 (∃x0:Nat,(x0<=a.length/\x0<=b.length/\bn p a b=bn p (List.drop x0 a) (List.drop x0 b))/\a=a/\b=b/\FV.lli q p=FV.lli q p/\a=a/\(a.length:Int)=(a.length:Int)/\(0:Int)=(x0:Int))/\∀x1:Nat,x1<=a.length/\x1<=b.length/\bn p a b=bn p (List.drop x1 a) (List.drop x1 b)->ae (decide ((x1:Int)<(a.length:Int))) (aa (x1:Int) a.length/\ae (decide ((b.length:Int)<=(x1:Int))) ((1:Int)=bn p a b/\True) (aa (x1:Int) b.length/\q (a.getD (x1:Int).toNat []) (b.getD (x1:Int).toNat [])/\ae (p (a.getD (x1:Int).toNat []) (b.getD (x1:Int).toNat []) != (0:Int)) (p (a.getD (x1:Int).toNat []) (b.getD (x1:Int).toNat [])=bn p a b/\True) (ac ((x1:Int)+(1:Int))/\∃x2:Nat,(x2<=a.length/\x2<=b.length/\bn p a b=bn p (List.drop x2 a) (List.drop x2 b))/\a.length-x2<a.length-x1/\a=a/\b=b/\FV.lli q p=FV.lli q p/\a=a/\(a.length:Int)=(a.length:Int)/\(x1:Int)+(1:Int)=(x2:Int)))) (ae (decide ((a.length:Int)<(b.length:Int))) ((-1:Int)=bn p a b/\True) ((0:Int)=bn p a b/\True))
theorem NN(a:V8)(b:V8)(q:V7->V7->Prop)(p:V7->V7->Int):aJ Tryz.prog (ai Fi) ak (Fh a b q p) Tryz.f187 (aE Tryz.f187) [] [.c (.rows .i64 a),.c (.rows .i64 b),.fv (.lli q p)] (qW a b q p)=w9 a b q p:=by kernel_rfl
theorem NO(a:V8)(b:V8)(q:V7->V7->Prop)(p:V7->V7->Int)(Yh:(qW a b q p).pre):w9 a b q p:=by
 simp only[qW,w9,aG,u1,u2,u3,u4,u5,u6,u7,u8,u9,v1,v2,v3,v4,v5,v6,v7,v8,v9,w1,w2,w3,w4,aH,aa,ac,af,ar]at Yh⊢;obtain⟨l1,l2,hq⟩:=Yh;refine⟨⟨0,⟨by omega,by omega,rfl⟩,rfl⟩,fun i ⟨hi,hj,he⟩=>⟨fun h=>⟨by omega,fun h2=>?_,fun h2=>⟨by omega,hq _ (bM a [] i (by omega)) _ (bM b [] i (by omega)),fun h3=>?_,fun h3=>⟨by omega,i+1,⟨by omega,by omega,?_⟩,by omega,by omega⟩⟩⟩,fun h=>⟨fun h2=>?_,fun h2=>?_⟩⟩⟩
 ·rw[he,Fb p [] a b i (by omega) (by omega)]
 ·rw[he,qQ p [] a b i (by omega) (by omega),if_neg h3]
 ·rw[he,qQ p [] a b i (by omega) (by omega),if_pos h3]
 ·rw[he,qR p [] a b i (by omega),if_pos (by omega)]
 ·rw[he,qR p [] a b i (by omega),if_neg (by omega)]
theorem NP:Fits Tryz.prog 187 ⟨[],w8⟩:=by
 refine aO (Γ:=ai Fi) aF Tryz.func187 fun ds p h hp=>?_
 unfold w8 at h;split at h
 ·cases h
  exact⟨ak,Fh _ _ _ _ ,by rw[NN];exact NO _ _ _ _  hp⟩
 ·cases h
def qX(a:V8)(b:V8):Post:=⟨aM a/\aM b,.c (.int .i64 (bn (bn bQ) a b)),[]⟩
def qY:List AD->Option Post
 | [.c (.rows .i64 a),.c (.rows .i64 b)]=>some (qX a b)
 |_=>none
def Fj:List (Nat×Ctr):=[(187,⟨[],w8⟩),(188,⟨[],oy⟩)]
def xa(a:V8)(b:V8):Prop :=
 ((a.length<=(1099511627776:Nat)/\b.length<=(1099511627776:Nat)/\∀(x:V7),x∈a->∀(y:V7),y∈b->iC (oy [AD.c (FC.ints IntKind.i64 x),AD.c (FC.ints IntKind.i64 y)]))/\True)/\bn (fun(x y:V7)=>iB (oy [AD.c (FC.ints IntKind.i64 x),AD.c (FC.ints IntKind.i64 y)])) a b=bn (bn bQ) a b/\True
theorem NQ(a:V8)(b:V8):aJ Tryz.prog (ai Fj) ak am Tryz.f135 (aE Tryz.f135) [] [.c (.rows .i64 a),.c (.rows .i64 b)] (qX a b)=xa a b:=by kernel_rfl
theorem NR(a:V8)(b:V8)(Yh:(qX a b).pre):xa a b:=by
 simp only[qX,xa,aG,u1,u2,u3,u4,u5,u6,u7,u8,u9,v1,v2,v3,v4,v5,v6,v7,v8,v9,w1,w2,w3,w4,aH,aa,ac,af,ar]at Yh⊢;exact⟨⟨Yh.1.1,Yh.2.1,fun x hx y hy=>⟨Yh.1.2 x hx,Yh.2.2 y hy⟩⟩,rfl⟩
theorem qZ:Fits Tryz.prog 135 ⟨[],qY⟩:=by
 refine aO (Γ:=ai Fj) (aw NP (aw NM aF)) Tryz.func135 fun ds p h hp=>?_
 unfold qY at h;split at h
 ·cases h
  exact⟨ak,am,by rw[NQ];exact NR _ _  hp⟩
 ·cases h
def re(a:V8)(b:V8):Post:=⟨aM a/\aM b,.c (.bool (decide (a=b))),[]⟩
def xb:List AD->Option Post
 | [.c (.rows .i64 a),.c (.rows .i64 b)]=>some (re a b)
 |_=>none
def Fk:List (Nat×Ctr):=[(135,⟨[],qY⟩)]
def xc(a:V8)(b:V8):Prop :=
 ((aM a/\aM b)/\True)/\(bn (bn bQ) a b == (0:Int))=decide (a=b)/\True
theorem NS(a:V8)(b:V8):aJ Tryz.prog (ai Fk) ak am Tryz.f101 (aE Tryz.f101) [] [.c (.rows .i64 a),.c (.rows .i64 b)] (re a b)=xc a b:=by kernel_rfl
theorem NT(a:V8)(b:V8)(Yh:(re a b).pre):xc a b:=by
 simp only[re,xc,aG,u1,u2,u3,u4,u5,u6,u7,u8,u9,v1,v2,v3,v4,v5,v6,v7,v8,v9,w1,w2,w3,w4,aH,aa,ac,af,ar]at Yh⊢;refine⟨Yh,?_⟩
 have h:=qP (c:=bn bQ) (fun x y=>qP (c:=bQ) (fun x y=>Fa) (a:=x) (b:=y)) (a:=a) (b:=b)
 rw[Bool.eq_iff_iff,beq_iff_eq,decide_eq_true_eq];exact h
theorem NU:Fits Tryz.prog 101 ⟨[],xb⟩:=by
 refine aO (Γ:=ai Fk) (aw qZ aF) Tryz.func101 fun ds p h hp=>?_
 unfold xb at h;split at h
 ·cases h
  exact⟨ak,am,by rw[NS];exact NT _ _  hp⟩
 ·cases h
def rh(a:V7)(b:V7):Post:=⟨af a.length,.c (.bool (decide (a=b))),[]⟩
def oz:List AD->Option Post
 | [.c (.ints .i64 a),.c (.ints .i64 b)]=>some (rh a b)
 |_=>none
def Fl(a:V7)(b:V7):Nat->Option Ann
 |0=>some (Ann.mk ((Nat)) (fun i=>⟨[(0,.c (.ro (.ints .i64 a))),(1,.c (.ro (.ints .i64 b))),(5,.c (.int .i64 ((i:Int))))],[]⟩) (fun i=>i<=a.length/\a.length=b.length/\a.take i=b.take i) (fun i=>a.length-i) (fun _=>am))
 |_=>none
def Fm:List (Nat×Ctr):=[]
def xd(a:V7)(b:V7):Prop :=
 ae ((a.length:Int) != (b.length:Int)) (false=decide (a=b)/\True) ((∃x0:Nat,(x0<=a.length/\a.length=b.length/\List.take x0 a=List.take x0 b)/\a=a/\b=b/\(0:Int)=(x0:Int))/\∀x1:Nat,x1<=a.length/\a.length=b.length/\List.take x1 a=List.take x1 b->ae (decide ((x1:Int)<(a.length:Int))) (aa (x1:Int) a.length/\aa (x1:Int) b.length/\ae (a.getD (x1:Int).toNat (0:Int) != b.getD (x1:Int).toNat (0:Int)) (false=decide (a=b)/\True) (ac ((x1:Int)+(1:Int))/\∃x2:Nat,(x2<=a.length/\a.length=b.length/\List.take x2 a=List.take x2 b)/\a.length-x2<a.length-x1/\a=a/\b=b/\(x1:Int)+(1:Int)=(x2:Int))) (true=decide (a=b)/\True))
theorem NV(a:V7)(b:V7):aJ Tryz.prog (ai Fm) ak (Fl a b) Tryz.f202 (aE Tryz.f202) [] [.c (.ints .i64 a),.c (.ints .i64 b)] (rh a b)=xd a b:=by kernel_rfl
theorem NW(a:V7)(b:V7)(Yh:(rh a b).pre):xd a b:=by
 simp only[rh,xd,aG,u1,u2,u3,u4,u5,u6,u7,u8,u9,v1,v2,v3,v4,v5,v6,v7,v8,v9,w1,w2,w3,w4,aH,aa,ac,af,ar]at Yh⊢;refine⟨fun h=>?_,fun h=>⟨⟨0,⟨by omega,by omega,rfl⟩,by simp⟩,fun i hi=>⟨fun h1=>⟨by omega,by omega,fun h2=>?_,fun h2=>⟨by omega,i+1,⟨by omega,hi.2.1,?_⟩,by omega,by omega⟩⟩,fun h1=>?_⟩⟩⟩
 ·exact(decide_eq_false fun e=>h (by rw[e])).symm
 ·exact(decide_eq_false fun e=>h2 (by rw[e])).symm
 ·exact(D2 a b 0 i (by omega) (by omega) hi.2.2).2 h2
 ·refine(decide_eq_true ?_).symm
  have:=hi.2.2
  rwa[List.take_of_length_le (by omega),List.take_of_length_le (by omega)]at this
theorem xe:Fits Tryz.prog 202 ⟨[],oz⟩:=by
 refine aO (Γ:=ai Fm) aF Tryz.func202 fun ds p h hp=>?_
 unfold oz at h;split at h
 ·cases h
  exact⟨ak,Fl _ _ ,by rw[NV];exact NW _ _  hp⟩
 ·cases h
end Go.Sx
