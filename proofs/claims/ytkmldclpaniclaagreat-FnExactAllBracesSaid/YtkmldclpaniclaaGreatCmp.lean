/- Cmp -/
import Derived.Test.YtkmldclpaniclaaGreatRack
open Go Go.Proofs
namespace Go.Sx
set_option linter.unusedSimpArgs false
set_option linter.unusedVariables false
def bS(x y:Int):Int:=if x<y then -1 else if y<x then 1 else 0
theorem DN{x y:Int}:bS x y=0↔x=y:=by
 unfold bS;split
 ·omega
 ·split<;>omega
def bm{α:Type}(c:α->α->Int):List α->List α->Int
 | [],[]=>0
 | [],_::_=>-1
 |_::_,[]=>1
 |x::a,y::b=>if c x y=0 then bm c a b else c x y
theorem qj{α:Type}{c:α->α->Int}(hc:∀x y,c x y=0↔x=y):∀{a b:List α},bm c a b=0↔a=b
 | [],[]=>by simp[bm]
 | [],_::_=>by simp[bm]
 |_::_,[]=>by simp[bm]
 |x::a,y::b=>by
  simp only[bm,List.cons.injEq];by_cases h:c x y=0
  ·rw[if_pos h,qj hc]
   simp[(hc x y).1 h]
  ·rw[if_neg h]
   exact⟨fun e=>absurd e h,fun e=>absurd ((hc x y).2 e.1) h⟩
theorem qk{α:Type}(c:α->α->Int)(d:α)(a b:List α)(i:Nat)(ha:i<a.length)(hb:i<b.length) :
  bm c (a.drop i) (b.drop i)=if c (a.getD i d) (b.getD i d)=0 then bm c (a.drop (i+1)) (b.drop (i+1))else c (a.getD i d) (b.getD i d):=by
 rw[drop_cons' a d i ha,drop_cons' b d i hb];rfl
theorem DO{α:Type}(c:α->α->Int)(d:α)(a b:List α)(i:Nat)(ha:i<a.length)(hb:b.length<=i):bm c (a.drop i) (b.drop i)=1:=by
 rw[drop_cons' a d i ha,List.drop_of_length_le hb];rfl
theorem ql{α:Type}(c:α->α->Int)(d:α)(a b:List α)(i:Nat)(ha:a.length<=i):bm c (a.drop i) (b.drop i)=if i<b.length then -1 else 0:=by
 rw[List.drop_of_length_le ha];split
 ·rename_i h;rw[drop_cons' b d i h];rfl
 ·rw[List.drop_of_length_le (by omega)];rfl
def qm(x:Int):Post:=⟨True,.c (.bool false),[]⟩
def vK:List AD->Option Post
 | [.c (.int .i64 x)]=>some (qm x)
 |_=>none
def DP:List (Nat×Ctr):=[]
def vL(x:Int):Prop :=
 (x != x)=false/\True
theorem Li(x:Int):aY Tryz.prog (aj DP) am av Tryz.f201 (aP Tryz.f201) [] [.c (.int .i64 x)] (qm x)=vL x:=by kernel_rfl
theorem Lj(x:Int)(Yh:(qm x).pre):vL x:=by
 simp only[qm,vL,aX,u1,u2,u3,u4,u5,u6,u7,u8,u9,v1,v2,v3,v4,v5,v6,v7,v8,v9,w1,w2,w3,w4,aN,ab,ac,ah,ax]at Yh⊢
theorem Lk:Fits Tryz.prog 201 ⟨[],vK⟩:=by
 refine bf (Γ:=aj DP) aW Tryz.func201 fun ds p h hp=>?_
 unfold vK at h;split at h
 ·cases h
  exact⟨am,av,by rw[Li];exact Lj _  hp⟩
 ·cases h
def qn(x:Int)(y:Int):Post:=⟨True,.c (.int .i64 (bS x y)),[]⟩
def vM:List AD->Option Post
 | [.c (.int .i64 x),.c (.int .i64 y)]=>some (qn x y)
 |_=>none
def DQ:List (Nat×Ctr):=[(201,⟨[],vK⟩)]
def vN(x:Int)(y:Int):Prop :=
 (True/\True)/\(True/\True)/\ae (decide (x<y)) ((-1:Int)=bS x y/\True) (ae (decide (y<x)) ((1:Int)=bS x y/\True) ((0:Int)=bS x y/\True))
theorem Ll(x:Int)(y:Int):aY Tryz.prog (aj DQ) am av Tryz.f140 (aP Tryz.f140) [] [.c (.int .i64 x),.c (.int .i64 y)] (qn x y)=vN x y:=by kernel_rfl
theorem Lm(x:Int)(y:Int)(Yh:(qn x y).pre):vN x y:=by
 simp only[qn,vN,aX,u1,u2,u3,u4,u5,u6,u7,u8,u9,v1,v2,v3,v4,v5,v6,v7,v8,v9,w1,w2,w3,w4,aN,ab,ac,ah,ax]at Yh⊢;unfold bS;refine⟨fun h=>?_,fun h=>⟨fun h2=>?_,fun h2=>?_⟩⟩
 ·rw[if_pos h]
 ·rw[if_neg h,if_pos h2]
 ·rw[if_neg h,if_neg h2]
theorem Ln:Fits Tryz.prog 140 ⟨[],vM⟩:=by
 refine bf (Γ:=aj DQ) (aD Lk aW) Tryz.func140 fun ds p h hp=>?_
 unfold vM at h;split at h
 ·cases h
  exact⟨am,av,by rw[Ll];exact Lm _ _  hp⟩
 ·cases h
def qo(a:List Int)(b:List Int):Post:=⟨ah a.length/\ah b.length,.c (.int .i64 (bm bS a b)),[]⟩
def vO:List AD->Option Post
 | [.c (.ints .i64 a),.c (.ints .i64 b)]=>some (qo a b)
 |_=>none
def DR(a:List Int)(b:List Int):Nat->Option Ann
 |0=>some (Ann.mk ((Nat)) (fun i=>⟨[(0,.c (.ro (.ints .i64 a))),(1,.c (.ro (.ints .i64 b))),(9,.c (.ro (.ints .i64 a))),(10,.c (.int .i64 ((a.length:Int)))),(11,.c (.int .i64 ((i:Int))))],[]⟩) (fun i=>i<=a.length/\i<=b.length/\bm bS a b=bm bS (a.drop i) (b.drop i)) (fun i=>a.length-i) (fun _=>av))
 |_=>none
def DS:List (Nat×Ctr):=[(140,⟨[],vM⟩)]
def vP(a:List Int)(b:List Int):Prop :=
 (∃x0:Nat,(x0<=a.length/\x0<=b.length/\bm bS a b=bm bS (List.drop x0 a) (List.drop x0 b))/\a=a/\b=b/\a=a/\(a.length:Int)=(a.length:Int)/\(0:Int)=(x0:Int))/\∀x1:Nat,x1<=a.length/\x1<=b.length/\bm bS a b=bm bS (List.drop x1 a) (List.drop x1 b)->ae (decide ((x1:Int)<(a.length:Int))) (ab (x1:Int) a.length/\ae (decide ((b.length:Int)<=(x1:Int))) ((1:Int)=bm bS a b/\True) (ab (x1:Int) b.length/\(True/\True)/\ae (bS (a.getD (x1:Int).toNat (0:Int)) (b.getD (x1:Int).toNat (0:Int)) != (0:Int)) (bS (a.getD (x1:Int).toNat (0:Int)) (b.getD (x1:Int).toNat (0:Int))=bm bS a b/\True) (ac ((x1:Int)+(1:Int))/\∃x2:Nat,(x2<=a.length/\x2<=b.length/\bm bS a b=bm bS (List.drop x2 a) (List.drop x2 b))/\a.length-x2<a.length-x1/\a=a/\b=b/\a=a/\(a.length:Int)=(a.length:Int)/\(x1:Int)+(1:Int)=(x2:Int)))) (ae (decide ((a.length:Int)<(b.length:Int))) ((-1:Int)=bm bS a b/\True) ((0:Int)=bm bS a b/\True))
theorem Lo(a:List Int)(b:List Int):aY Tryz.prog (aj DS) am (DR a b) Tryz.f90 (aP Tryz.f90) [] [.c (.ints .i64 a),.c (.ints .i64 b)] (qo a b)=vP a b:=by kernel_rfl
theorem Lp(a:List Int)(b:List Int)(Yh:(qo a b).pre):vP a b:=by
 simp only[qo,vP,aX,u1,u2,u3,u4,u5,u6,u7,u8,u9,v1,v2,v3,v4,v5,v6,v7,v8,v9,w1,w2,w3,w4,aN,ab,ac,ah,ax]at Yh⊢;refine⟨⟨0,⟨by omega,by omega,rfl⟩,rfl⟩,fun i ⟨hi,hj,he⟩=>⟨fun h=>⟨by omega,fun h2=>?_,fun h2=>⟨by omega,fun h3=>?_,fun h3=>⟨by omega,i+1,⟨by omega,by omega,?_⟩,by omega,by omega⟩⟩⟩,fun h=>⟨fun h2=>?_,fun h2=>?_⟩⟩⟩
 ·rw[he,DO bS 0 a b i (by omega) (by omega)]
 ·rw[he,qk bS 0 a b i (by omega) (by omega),if_neg h3]
 ·rw[he,qk bS 0 a b i (by omega) (by omega),if_pos h3]
 ·rw[he,ql bS 0 a b i (by omega),if_pos (by omega)]
 ·rw[he,ql bS 0 a b i (by omega),if_neg (by omega)]
theorem Lq:Fits Tryz.prog 90 ⟨[],vO⟩:=by
 refine bf (Γ:=aj DS) (aD Ln aW) Tryz.func90 fun ds p h hp=>?_
 unfold vO at h;split at h
 ·cases h
  exact⟨am,DR _ _ ,by rw[Lo];exact Lp _ _  hp⟩
 ·cases h
def qp(a:List Int)(b:List Int):Post:=⟨ah a.length/\ah b.length,.c (.int .i64 (bm bS a b)),[]⟩
def nR:List AD->Option Post
 | [.c (.ints .i64 a),.c (.ints .i64 b)]=>some (qp a b)
 |_=>none
def DT:List (Nat×Ctr):=[(90,⟨[],vO⟩)]
def vQ(a:List Int)(b:List Int):Prop :=
 ((ah a.length/\ah b.length)/\True)/\bm bS a b=bm bS a b/\True
theorem Lr(a:List Int)(b:List Int):aY Tryz.prog (aj DT) am av Tryz.f188 (aP Tryz.f188) [] [.c (.ints .i64 a),.c (.ints .i64 b)] (qp a b)=vQ a b:=by kernel_rfl
theorem Ls(a:List Int)(b:List Int)(Yh:(qp a b).pre):vQ a b:=by
 simp only[qp,vQ,aX,u1,u2,u3,u4,u5,u6,u7,u8,u9,v1,v2,v3,v4,v5,v6,v7,v8,v9,w1,w2,w3,w4,aN,ab,ac,ah,ax]at Yh⊢;exact Yh
theorem Lu:Fits Tryz.prog 188 ⟨[],nR⟩:=by
 refine bf (Γ:=aj DT) (aD Lq aW) Tryz.func188 fun ds p h hp=>?_
 unfold nR at h;split at h
 ·cases h
  exact⟨am,av,by rw[Lr];exact Ls _ _  hp⟩
 ·cases h
def qq(a:List (List Int))(b:List (List Int))(q:List Int->List Int->Prop)(p:List Int->List Int->Int):Post:=⟨a.length<=1099511627776/\b.length<=1099511627776/\(∀x∈a,∀y∈b,q x y),.c (.int .i64 (bm p a b)),[]⟩
def vR:List AD->Option Post
 | [.c (.rows .i64 a),.c (.rows .i64 b),.fv (.lli q p)]=>some (qq a b q p)
 |_=>none
def DU(a:List (List Int))(b:List (List Int))(q:List Int->List Int->Prop)(p:List Int->List Int->Int):Nat->Option Ann
 |0=>some (Ann.mk ((Nat)) (fun i=>⟨[(0,.c (.ro (.rows .i64 a))),(1,.c (.ro (.rows .i64 b))),(2,.fv (.lli q p)),(11,.c (.ro (.rows .i64 a))),(12,.c (.int .i64 ((a.length:Int)))),(13,.c (.int .i64 ((i:Int))))],[]⟩) (fun i=>i<=a.length/\i<=b.length/\bm p a b=bm p (a.drop i) (b.drop i)) (fun i=>a.length-i) (fun _=>av))
 |_=>none
def DV:List (Nat×Ctr):=[]
def vS(a:List (List Int))(b:List (List Int))(q:List Int->List Int->Prop)(p:List Int->List Int->Int):Prop :=
 (∃x0:Nat,(x0<=a.length/\x0<=b.length/\bm p a b=bm p (List.drop x0 a) (List.drop x0 b))/\a=a/\b=b/\FV.lli q p=FV.lli q p/\a=a/\(a.length:Int)=(a.length:Int)/\(0:Int)=(x0:Int))/\∀x1:Nat,x1<=a.length/\x1<=b.length/\bm p a b=bm p (List.drop x1 a) (List.drop x1 b)->ae (decide ((x1:Int)<(a.length:Int))) (ab (x1:Int) a.length/\ae (decide ((b.length:Int)<=(x1:Int))) ((1:Int)=bm p a b/\True) (ab (x1:Int) b.length/\q (a.getD (x1:Int).toNat []) (b.getD (x1:Int).toNat [])/\ae (p (a.getD (x1:Int).toNat []) (b.getD (x1:Int).toNat []) != (0:Int)) (p (a.getD (x1:Int).toNat []) (b.getD (x1:Int).toNat [])=bm p a b/\True) (ac ((x1:Int)+(1:Int))/\∃x2:Nat,(x2<=a.length/\x2<=b.length/\bm p a b=bm p (List.drop x2 a) (List.drop x2 b))/\a.length-x2<a.length-x1/\a=a/\b=b/\FV.lli q p=FV.lli q p/\a=a/\(a.length:Int)=(a.length:Int)/\(x1:Int)+(1:Int)=(x2:Int)))) (ae (decide ((a.length:Int)<(b.length:Int))) ((-1:Int)=bm p a b/\True) ((0:Int)=bm p a b/\True))
theorem Lv(a:List (List Int))(b:List (List Int))(q:List Int->List Int->Prop)(p:List Int->List Int->Int):aY Tryz.prog (aj DV) am (DU a b q p) Tryz.f187 (aP Tryz.f187) [] [.c (.rows .i64 a),.c (.rows .i64 b),.fv (.lli q p)] (qq a b q p)=vS a b q p:=by kernel_rfl
theorem Lw(a:List (List Int))(b:List (List Int))(q:List Int->List Int->Prop)(p:List Int->List Int->Int)(Yh:(qq a b q p).pre):vS a b q p:=by
 simp only[qq,vS,aX,u1,u2,u3,u4,u5,u6,u7,u8,u9,v1,v2,v3,v4,v5,v6,v7,v8,v9,w1,w2,w3,w4,aN,ab,ac,ah,ax]at Yh⊢;obtain⟨l1,l2,hq⟩:=Yh;refine⟨⟨0,⟨by omega,by omega,rfl⟩,rfl⟩,fun i ⟨hi,hj,he⟩=>⟨fun h=>⟨by omega,fun h2=>?_,fun h2=>⟨by omega,hq _ (bO a [] i (by omega)) _ (bO b [] i (by omega)),fun h3=>?_,fun h3=>⟨by omega,i+1,⟨by omega,by omega,?_⟩,by omega,by omega⟩⟩⟩,fun h=>⟨fun h2=>?_,fun h2=>?_⟩⟩⟩
 ·rw[he,DO p [] a b i (by omega) (by omega)]
 ·rw[he,qk p [] a b i (by omega) (by omega),if_neg h3]
 ·rw[he,qk p [] a b i (by omega) (by omega),if_pos h3]
 ·rw[he,ql p [] a b i (by omega),if_pos (by omega)]
 ·rw[he,ql p [] a b i (by omega),if_neg (by omega)]
theorem Lx:Fits Tryz.prog 187 ⟨[],vR⟩:=by
 refine bf (Γ:=aj DV) aW Tryz.func187 fun ds p h hp=>?_
 unfold vR at h;split at h
 ·cases h
  exact⟨am,DU _ _ _ _ ,by rw[Lv];exact Lw _ _ _ _  hp⟩
 ·cases h
def qr(a:List (List Int))(b:List (List Int)):Post:=⟨bK a/\bK b,.c (.int .i64 (bm (bm bS) a b)),[]⟩
def qt:List AD->Option Post
 | [.c (.rows .i64 a),.c (.rows .i64 b)]=>some (qr a b)
 |_=>none
def DW:List (Nat×Ctr):=[(187,⟨[],vR⟩),(188,⟨[],nR⟩)]
def vT(a:List (List Int))(b:List (List Int)):Prop :=
 ((a.length<=(1099511627776:Nat)/\b.length<=(1099511627776:Nat)/\∀(x:List Int),x∈a->∀(y:List Int),y∈b->ip (nR [AD.c (FC.ints IntKind.i64 x),AD.c (FC.ints IntKind.i64 y)]))/\True)/\bm (fun(x y:List Int)=>io (nR [AD.c (FC.ints IntKind.i64 x),AD.c (FC.ints IntKind.i64 y)])) a b=bm (bm bS) a b/\True
theorem Ly(a:List (List Int))(b:List (List Int)):aY Tryz.prog (aj DW) am av Tryz.f135 (aP Tryz.f135) [] [.c (.rows .i64 a),.c (.rows .i64 b)] (qr a b)=vT a b:=by kernel_rfl
theorem Lz(a:List (List Int))(b:List (List Int))(Yh:(qr a b).pre):vT a b:=by
 simp only[qr,vT,aX,u1,u2,u3,u4,u5,u6,u7,u8,u9,v1,v2,v3,v4,v5,v6,v7,v8,v9,w1,w2,w3,w4,aN,ab,ac,ah,ax]at Yh⊢;exact⟨⟨Yh.1.1,Yh.2.1,fun x hx y hy=>⟨Yh.1.2 x hx,Yh.2.2 y hy⟩⟩,rfl⟩
theorem qv:Fits Tryz.prog 135 ⟨[],qt⟩:=by
 refine bf (Γ:=aj DW) (aD Lx (aD Lu aW)) Tryz.func135 fun ds p h hp=>?_
 unfold qt at h;split at h
 ·cases h
  exact⟨am,av,by rw[Ly];exact Lz _ _  hp⟩
 ·cases h
def qw(a:List (List Int))(b:List (List Int)):Post:=⟨bK a/\bK b,.c (.bool (decide (a=b))),[]⟩
def vU:List AD->Option Post
 | [.c (.rows .i64 a),.c (.rows .i64 b)]=>some (qw a b)
 |_=>none
def DX:List (Nat×Ctr):=[(135,⟨[],qt⟩)]
def vV(a:List (List Int))(b:List (List Int)):Prop :=
 ((bK a/\bK b)/\True)/\(bm (bm bS) a b == (0:Int))=decide (a=b)/\True
theorem LA(a:List (List Int))(b:List (List Int)):aY Tryz.prog (aj DX) am av Tryz.f101 (aP Tryz.f101) [] [.c (.rows .i64 a),.c (.rows .i64 b)] (qw a b)=vV a b:=by kernel_rfl
theorem LB(a:List (List Int))(b:List (List Int))(Yh:(qw a b).pre):vV a b:=by
 simp only[qw,vV,aX,u1,u2,u3,u4,u5,u6,u7,u8,u9,v1,v2,v3,v4,v5,v6,v7,v8,v9,w1,w2,w3,w4,aN,ab,ac,ah,ax]at Yh⊢;refine⟨Yh,?_⟩
 have h:=qj (c:=bm bS) (fun x y=>qj (c:=bS) (fun x y=>DN) (a:=x) (b:=y)) (a:=a) (b:=b)
 rw[Bool.eq_iff_iff,beq_iff_eq,decide_eq_true_eq];exact h
theorem LC:Fits Tryz.prog 101 ⟨[],vU⟩:=by
 refine bf (Γ:=aj DX) (aD qv aW) Tryz.func101 fun ds p h hp=>?_
 unfold vU at h;split at h
 ·cases h
  exact⟨am,av,by rw[LA];exact LB _ _  hp⟩
 ·cases h
def qx(a:List Int)(b:List Int):Post:=⟨ah a.length,.c (.bool (decide (a=b))),[]⟩
def nS:List AD->Option Post
 | [.c (.ints .i64 a),.c (.ints .i64 b)]=>some (qx a b)
 |_=>none
def DY(a:List Int)(b:List Int):Nat->Option Ann
 |0=>some (Ann.mk ((Nat)) (fun i=>⟨[(0,.c (.ro (.ints .i64 a))),(1,.c (.ro (.ints .i64 b))),(5,.c (.int .i64 ((i:Int))))],[]⟩) (fun i=>i<=a.length/\a.length=b.length/\a.take i=b.take i) (fun i=>a.length-i) (fun _=>av))
 |_=>none
def DZ:List (Nat×Ctr):=[]
def vW(a:List Int)(b:List Int):Prop :=
 ae ((a.length:Int) != (b.length:Int)) (false=decide (a=b)/\True) ((∃x0:Nat,(x0<=a.length/\a.length=b.length/\List.take x0 a=List.take x0 b)/\a=a/\b=b/\(0:Int)=(x0:Int))/\∀x1:Nat,x1<=a.length/\a.length=b.length/\List.take x1 a=List.take x1 b->ae (decide ((x1:Int)<(a.length:Int))) (ab (x1:Int) a.length/\ab (x1:Int) b.length/\ae (a.getD (x1:Int).toNat (0:Int) != b.getD (x1:Int).toNat (0:Int)) (false=decide (a=b)/\True) (ac ((x1:Int)+(1:Int))/\∃x2:Nat,(x2<=a.length/\a.length=b.length/\List.take x2 a=List.take x2 b)/\a.length-x2<a.length-x1/\a=a/\b=b/\(x1:Int)+(1:Int)=(x2:Int))) (true=decide (a=b)/\True))
theorem LD(a:List Int)(b:List Int):aY Tryz.prog (aj DZ) am (DY a b) Tryz.f202 (aP Tryz.f202) [] [.c (.ints .i64 a),.c (.ints .i64 b)] (qx a b)=vW a b:=by kernel_rfl
theorem LE(a:List Int)(b:List Int)(Yh:(qx a b).pre):vW a b:=by
 simp only[qx,vW,aX,u1,u2,u3,u4,u5,u6,u7,u8,u9,v1,v2,v3,v4,v5,v6,v7,v8,v9,w1,w2,w3,w4,aN,ab,ac,ah,ax]at Yh⊢;refine⟨fun h=>?_,fun h=>⟨⟨0,⟨by omega,by omega,rfl⟩,by simp⟩,fun i hi=>⟨fun h1=>⟨by omega,by omega,fun h2=>?_,fun h2=>⟨by omega,i+1,⟨by omega,hi.2.1,?_⟩,by omega,by omega⟩⟩,fun h1=>?_⟩⟩⟩
 ·exact(decide_eq_false fun e=>h (by rw[e])).symm
 ·exact(decide_eq_false fun e=>h2 (by rw[e])).symm
 ·exact(pF a b 0 i (by omega) (by omega) hi.2.2).2 h2
 ·refine(decide_eq_true ?_).symm
  have:=hi.2.2
  rwa[List.take_of_length_le (by omega),List.take_of_length_le (by omega)]at this
theorem vX:Fits Tryz.prog 202 ⟨[],nS⟩:=by
 refine bf (Γ:=aj DZ) aW Tryz.func202 fun ds p h hp=>?_
 unfold nS at h;split at h
 ·cases h
  exact⟨am,DY _ _ ,by rw[LD];exact LE _ _  hp⟩
 ·cases h
end Go.Sx
