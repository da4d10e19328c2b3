/- Cmp -/
import Derived.Test.YtkmldclpaniclaaGreatRack
open Go Go.Proofs
namespace Go.Sx
set_option linter.unusedSimpArgs false
set_option linter.unusedVariables false
def bL(x y:Int):Int:=if x<y then -1 else if y<x then 1 else 0
theorem DK{x y:Int}:bL x y=0↔x=y:=by
 unfold bL;split
 ·omega
 ·split<;>omega
def bj{α:Type}(c:α->α->Int):List α->List α->Int
 | [],[]=>0
 | [],_::_=>-1
 |_::_,[]=>1
 |x::a,y::b=>if c x y=0 then bj c a b else c x y
theorem qe{α:Type}{c:α->α->Int}(hc:∀x y,c x y=0↔x=y):∀{a b:List α},bj c a b=0↔a=b
 | [],[]=>by simp[bj]
 | [],_::_=>by simp[bj]
 |_::_,[]=>by simp[bj]
 |x::a,y::b=>by
  simp only[bj,List.cons.injEq];by_cases h:c x y=0
  ·rw[if_pos h,qe hc]
   simp[(hc x y).1 h]
  ·rw[if_neg h]
   exact⟨fun e=>absurd e h,fun e=>absurd ((hc x y).2 e.1) h⟩
theorem qf{α:Type}(c:α->α->Int)(d:α)(a b:List α)(i:Nat)(ha:i<a.length)(hb:i<b.length) :
  bj c (a.drop i) (b.drop i)=if c (a.getD i d) (b.getD i d)=0 then bj c (a.drop (i+1)) (b.drop (i+1))else c (a.getD i d) (b.getD i d):=by
 rw[drop_cons' a d i ha,drop_cons' b d i hb];rfl
theorem DL{α:Type}(c:α->α->Int)(d:α)(a b:List α)(i:Nat)(ha:i<a.length)(hb:b.length<=i):bj c (a.drop i) (b.drop i)=1:=by
 rw[drop_cons' a d i ha,List.drop_of_length_le hb];rfl
theorem qg{α:Type}(c:α->α->Int)(d:α)(a b:List α)(i:Nat)(ha:a.length<=i):bj c (a.drop i) (b.drop i)=if i<b.length then -1 else 0:=by
 rw[List.drop_of_length_le ha];split
 ·rename_i h;rw[drop_cons' b d i h];rfl
 ·rw[List.drop_of_length_le (by omega)];rfl
def qh(x:Int):Post:=⟨True,.c (.bool false),[]⟩
def wc:List AD->Option Post
 | [.c (.int .i64 x)]=>some (qh x)
 |_=>none
def DM:List (Nat×Ctr):=[]
def we(x:Int):Prop :=
 (x != x)=false/\True
theorem LD(x:Int):aP Tryz.prog (ai DM) aj ar Tryz.f201 (aF Tryz.f201) [] [.c (.int .i64 x)] (qh x)=we x:=by kernel_rfl
theorem LE(x:Int)(Yh:(qh x).pre):we x:=by
 simp only[qh,we,aK,u1,u2,u3,u4,u5,u6,u7,u8,u9,v1,v2,v3,v4,v5,v6,v7,v8,v9,w1,w2,w3,w4,aC,ab,ae,ag,av]at Yh⊢
theorem LF:Fits Tryz.prog 201 ⟨[],wc⟩:=by
 refine aW (Γ:=ai DM) aJ Tryz.func201 fun ds p h hp=>?_
 unfold wc at h;split at h
 ·cases h
  exact⟨aj,ar,by rw[LD];exact LE _  hp⟩
 ·cases h
def qi(x:Int)(y:Int):Post:=⟨True,.c (.int .i64 (bL x y)),[]⟩
def wg:List AD->Option Post
 | [.c (.int .i64 x),.c (.int .i64 y)]=>some (qi x y)
 |_=>none
def DN:List (Nat×Ctr):=[(201,⟨[],wc⟩)]
def wh(x:Int)(y:Int):Prop :=
 (True/\True)/\(True/\True)/\af (decide (x<y)) ((-1:Int)=bL x y/\True) (af (decide (y<x)) ((1:Int)=bL x y/\True) ((0:Int)=bL x y/\True))
theorem LG(x:Int)(y:Int):aP Tryz.prog (ai DN) aj ar Tryz.f140 (aF Tryz.f140) [] [.c (.int .i64 x),.c (.int .i64 y)] (qi x y)=wh x y:=by kernel_rfl
theorem LH(x:Int)(y:Int)(Yh:(qi x y).pre):wh x y:=by
 simp only[qi,wh,aK,u1,u2,u3,u4,u5,u6,u7,u8,u9,v1,v2,v3,v4,v5,v6,v7,v8,v9,w1,w2,w3,w4,aC,ab,ae,ag,av]at Yh⊢;unfold bL;refine⟨fun h=>?_,fun h=>⟨fun h2=>?_,fun h2=>?_⟩⟩
 ·rw[if_pos h]
 ·rw[if_neg h,if_pos h2]
 ·rw[if_neg h,if_neg h2]
theorem LI:Fits Tryz.prog 140 ⟨[],wg⟩:=by
 refine aW (Γ:=ai DN) (az LF aJ) Tryz.func140 fun ds p h hp=>?_
 unfold wg at h;split at h
 ·cases h
  exact⟨aj,ar,by rw[LG];exact LH _ _  hp⟩
 ·cases h
def qj(a:List Int)(b:List Int):Post:=⟨ag a.length/\ag b.length,.c (.int .i64 (bj bL a b)),[]⟩
def wi:List AD->Option Post
 | [.c (.ints .i64 a),.c (.ints .i64 b)]=>some (qj a b)
 |_=>none
def DO(a:List Int)(b:List Int):Nat->Option Ann
 |0=>some (Ann.mk ((Nat)) (fun i=>⟨[(0,.c (.ro (.ints .i64 a))),(1,.c (.ro (.ints .i64 b))),(9,.c (.ro (.ints .i64 a))),(10,.c (.int .i64 ((a.length:Int)))),(11,.c (.int .i64 ((i:Int))))],[]⟩) (fun i=>i<=a.length/\i<=b.length/\bj bL a b=bj bL (a.drop i) (b.drop i)) (fun i=>a.length-i) (fun _=>ar))
 |_=>none
def DP:List (Nat×Ctr):=[(140,⟨[],wg⟩)]
def wj(a:List Int)(b:List Int):Prop :=
 (∃x0:Nat,(x0<=a.length/\x0<=b.length/\bj bL a b=bj bL (List.drop x0 a) (List.drop x0 b))/\a=a/\b=b/\a=a/\(a.length:Int)=(a.length:Int)/\(0:Int)=(x0:Int))/\∀x1:Nat,x1<=a.length/\x1<=b.length/\bj bL a b=bj bL (List.drop x1 a) (List.drop x1 b)->af (decide ((x1:Int)<(a.length:Int))) (ab (x1:Int) a.length/\af (decide ((b.length:Int)<=(x1:Int))) ((1:Int)=bj bL a b/\True) (ab (x1:Int) b.length/\(True/\True)/\af (bL (a.getD (x1:Int).toNat (0:Int)) (b.getD (x1:Int).toNat (0:Int)) != (0:Int)) (bL (a.getD (x1:Int).toNat (0:Int)) (b.getD (x1:Int).toNat (0:Int))=bj bL a b/\True) (ae ((x1:Int)+(1:Int))/\∃x2:Nat,(x2<=a.length/\x2<=b.length/\bj bL a b=bj bL (List.drop x2 a) (List.drop x2 b))/\a.length-x2<a.length-x1/\a=a/\b=b/\a=a/\(a.length:Int)=(a.length:Int)/\(x1:Int)+(1:Int)=(x2:Int)))) (af (decide ((a.length:Int)<(b.length:Int))) ((-1:Int)=bj bL a b/\True) ((0:Int)=bj bL a b/\True))
theorem LJ(a:List Int)(b:List Int):aP Tryz.prog (ai DP) aj (DO a b) Tryz.f90 (aF Tryz.f90) [] [.c (.ints .i64 a),.c (.ints .i64 b)] (qj a b)=wj a b:=by kernel_rfl
theorem LK(a:List Int)(b:List Int)(Yh:(qj a b).pre):wj a b:=by
 simp only[qj,wj,aK,u1,u2,u3,u4,u5,u6,u7,u8,u9,v1,v2,v3,v4,v5,v6,v7,v8,v9,w1,w2,w3,w4,aC,ab,ae,ag,av]at Yh⊢;refine⟨⟨0,⟨by omega,by omega,rfl⟩,rfl⟩,fun i ⟨hi,hj,he⟩=>⟨fun h=>⟨by omega,fun h2=>?_,fun h2=>⟨by omega,fun h3=>?_,fun h3=>⟨by omega,i+1,⟨by omega,by omega,?_⟩,by omega,by omega⟩⟩⟩,fun h=>⟨fun h2=>?_,fun h2=>?_⟩⟩⟩
 ·rw[he,DL bL 0 a b i (by omega) (by omega)]
 ·rw[he,qf bL 0 a b i (by omega) (by omega),if_neg h3]
 ·rw[he,qf bL 0 a b i (by omega) (by omega),if_pos h3]
 ·rw[he,qg bL 0 a b i (by omega),if_pos (by omega)]
 ·rw[he,qg bL 0 a b i (by omega),if_neg (by omega)]
theorem LL:Fits Tryz.prog 90 ⟨[],wi⟩:=by
 refine aW (Γ:=ai DP) (az LI aJ) Tryz.func90 fun ds p h hp=>?_
 unfold wi at h;split at h
 ·cases h
  exact⟨aj,DO _ _ ,by rw[LJ];exact LK _ _  hp⟩
 ·cases h
def qk(a:List Int)(b:List Int):Post:=⟨ag a.length/\ag b.length,.c (.int .i64 (bj bL a b)),[]⟩
def nM:List AD->Option Post
 | [.c (.ints .i64 a),.c (.ints .i64 b)]=>some (qk a b)
 |_=>none
def DQ:List (Nat×Ctr):=[(90,⟨[],wi⟩)]
def wk(a:List Int)(b:List Int):Prop :=
 ((ag a.length/\ag b.length)/\True)/\bj bL a b=bj bL a b/\True
theorem LM(a:List Int)(b:List Int):aP Tryz.prog (ai DQ) aj ar Tryz.f188 (aF Tryz.f188) [] [.c (.ints .i64 a),.c (.ints .i64 b)] (qk a b)=wk a b:=by kernel_rfl
theorem LN(a:List Int)(b:List Int)(Yh:(qk a b).pre):wk a b:=by
 simp only[qk,wk,aK,u1,u2,u3,u4,u5,u6,u7,u8,u9,v1,v2,v3,v4,v5,v6,v7,v8,v9,w1,w2,w3,w4,aC,ab,ae,ag,av]at Yh⊢;exact Yh
theorem LO:Fits Tryz.prog 188 ⟨[],nM⟩:=by
 refine aW (Γ:=ai DQ) (az LL aJ) Tryz.func188 fun ds p h hp=>?_
 unfold nM at h;split at h
 ·cases h
  exact⟨aj,ar,by rw[LM];exact LN _ _  hp⟩
 ·cases h
def ql(a:List (List Int))(b:List (List Int))(q:List Int->List Int->Prop)(p:List Int->List Int->Int):Post:=⟨a.length<=1099511627776/\b.length<=1099511627776/\(∀x∈a,∀y∈b,q x y),.c (.int .i64 (bj p a b)),[]⟩
def wl:List AD->Option Post
 | [.c (.rows .i64 a),.c (.rows .i64 b),.fv (.lli q p)]=>some (ql a b q p)
 |_=>none
def DR(a:List (List Int))(b:List (List Int))(q:List Int->List Int->Prop)(p:List Int->List Int->Int):Nat->Option Ann
 |0=>some (Ann.mk ((Nat)) (fun i=>⟨[(0,.c (.ro (.rows .i64 a))),(1,.c (.ro (.rows .i64 b))),(2,.fv (.lli q p)),(11,.c (.ro (.rows .i64 a))),(12,.c (.int .i64 ((a.length:Int)))),(13,.c (.int .i64 ((i:Int))))],[]⟩) (fun i=>i<=a.length/\i<=b.length/\bj p a b=bj p (a.drop i) (b.drop i)) (fun i=>a.length-i) (fun _=>ar))
 |_=>none
def DS:List (Nat×Ctr):=[]
def wm(a:List (List Int))(b:List (List Int))(q:List Int->List Int->Prop)(p:List Int->List Int->Int):Prop :=
 (∃x0:Nat,(x0<=a.length/\x0<=b.length/\bj p a b=bj p (List.drop x0 a) (List.drop x0 b))/\a=a/\b=b/\FV.lli q p=FV.lli q p/\a=a/\(a.length:Int)=(a.length:Int)/\(0:Int)=(x0:Int))/\∀x1:Nat,x1<=a.length/\x1<=b.length/\bj p a b=bj p (List.drop x1 a) (List.drop x1 b)->af (decide ((x1:Int)<(a.length:Int))) (ab (x1:Int) a.length/\af (decide ((b.length:Int)<=(x1:Int))) ((1:Int)=bj p a b/\True) (ab (x1:Int) b.length/\q (a.getD (x1:Int).toNat []) (b.getD (x1:Int).toNat [])/\af (p (a.getD (x1:Int).toNat []) (b.getD (x1:Int).toNat []) != (0:Int)) (p (a.getD (x1:Int).toNat []) (b.getD (x1:Int).toNat [])=bj p a b/\True) (ae ((x1:Int)+(1:Int))/\∃x2:Nat,(x2<=a.length/\x2<=b.length/\bj p a b=bj p (List.drop x2 a) (List.drop x2 b))/\a.length-x2<a.length-x1/\a=a/\b=b/\FV.lli q p=FV.lli q p/\a=a/\(a.length:Int)=(a.length:Int)/\(x1:Int)+(1:Int)=(x2:Int)))) (af (decide ((a.length:Int)<(b.length:Int))) ((-1:Int)=bj p a b/\True) ((0:Int)=bj p a b/\True))
theorem LP(a:List (List Int))(b:List (List Int))(q:List Int->List Int->Prop)(p:List Int->List Int->Int):aP Tryz.prog (ai DS) aj (DR a b q p) Tryz.f187 (aF Tryz.f187) [] [.c (.rows .i64 a),.c (.rows .i64 b),.fv (.lli q p)] (ql a b q p)=wm a b q p:=by kernel_rfl
theorem LQ(a:List (List Int))(b:List (List Int))(q:List Int->List Int->Prop)(p:List Int->List Int->Int)(Yh:(ql a b q p).pre):wm a b q p:=by
 simp only[ql,wm,aK,u1,u2,u3,u4,u5,u6,u7,u8,u9,v1,v2,v3,v4,v5,v6,v7,v8,v9,w1,w2,w3,w4,aC,ab,ae,ag,av]at Yh⊢;obtain⟨l1,l2,hq⟩:=Yh;refine⟨⟨0,⟨by omega,by omega,rfl⟩,rfl⟩,fun i ⟨hi,hj,he⟩=>⟨fun h=>⟨by omega,fun h2=>?_,fun h2=>⟨by omega,hq _ (bE a [] i (by omega)) _ (bE b [] i (by omega)),fun h3=>?_,fun h3=>⟨by omega,i+1,⟨by omega,by omega,?_⟩,by omega,by omega⟩⟩⟩,fun h=>⟨fun h2=>?_,fun h2=>?_⟩⟩⟩
 ·rw[he,DL p [] a b i (by omega) (by omega)]
 ·rw[he,qf p [] a b i (by omega) (by omega),if_neg h3]
 ·rw[he,qf p [] a b i (by omega) (by omega),if_pos h3]
 ·rw[he,qg p [] a b i (by omega),if_pos (by omega)]
 ·rw[he,qg p [] a b i (by omega),if_neg (by omega)]
theorem LR:Fits Tryz.prog 187 ⟨[],wl⟩:=by
 refine aW (Γ:=ai DS) aJ Tryz.func187 fun ds p h hp=>?_
 unfold wl at h;split at h
 ·cases h
  exact⟨aj,DR _ _ _ _ ,by rw[LP];exact LQ _ _ _ _  hp⟩
 ·cases h
def qm(a:List (List Int))(b:List (List Int)):Post:=⟨aY a/\aY b,.c (.int .i64 (bj (bj bL) a b)),[]⟩
def qn:List AD->Option Post
 | [.c (.rows .i64 a),.c (.rows .i64 b)]=>some (qm a b)
 |_=>none
def DT:List (Nat×Ctr):=[(187,⟨[],wl⟩),(188,⟨[],nM⟩)]
def wn(a:List (List Int))(b:List (List Int)):Prop :=
 ((a.length<=(1099511627776:Nat)/\b.length<=(1099511627776:Nat)/\∀(x:List Int),x∈a->∀(y:List Int),y∈b->jZ (nM [AD.c (FC.ints IntKind.i64 x),AD.c (FC.ints IntKind.i64 y)]))/\True)/\bj (fun(x y:List Int)=>jY (nM [AD.c (FC.ints IntKind.i64 x),AD.c (FC.ints IntKind.i64 y)])) a b=bj (bj bL) a b/\True
theorem LS(a:List (List Int))(b:List (List Int)):aP Tryz.prog (ai DT) aj ar Tryz.f135 (aF Tryz.f135) [] [.c (.rows .i64 a),.c (.rows .i64 b)] (qm a b)=wn a b:=by kernel_rfl
theorem LT(a:List (List Int))(b:List (List Int))(Yh:(qm a b).pre):wn a b:=by
 simp only[qm,wn,aK,u1,u2,u3,u4,u5,u6,u7,u8,u9,v1,v2,v3,v4,v5,v6,v7,v8,v9,w1,w2,w3,w4,aC,ab,ae,ag,av]at Yh⊢;exact⟨⟨Yh.1.1,Yh.2.1,fun x hx y hy=>⟨Yh.1.2 x hx,Yh.2.2 y hy⟩⟩,rfl⟩
theorem qo:Fits Tryz.prog 135 ⟨[],qn⟩:=by
 refine aW (Γ:=ai DT) (az LR (az LO aJ)) Tryz.func135 fun ds p h hp=>?_
 unfold qn at h;split at h
 ·cases h
  exact⟨aj,ar,by rw[LS];exact LT _ _  hp⟩
 ·cases h
def qp(a:List (List Int))(b:List (List Int)):Post:=⟨aY a/\aY b,.c (.bool (decide (a=b))),[]⟩
def wo:List AD->Option Post
 | [.c (.rows .i64 a),.c (.rows .i64 b)]=>some (qp a b)
 |_=>none
def DU:List (Nat×Ctr):=[(135,⟨[],qn⟩)]
def wp(a:List (List Int))(b:List (List Int)):Prop :=
 ((aY a/\aY b)/\True)/\(bj (bj bL) a b == (0:Int))=decide (a=b)/\True
theorem LU(a:List (List Int))(b:List (List Int)):aP Tryz.prog (ai DU) aj ar Tryz.f101 (aF Tryz.f101) [] [.c (.rows .i64 a),.c (.rows .i64 b)] (qp a b)=wp a b:=by kernel_rfl
theorem LV(a:List (List Int))(b:List (List Int))(Yh:(qp a b).pre):wp a b:=by
 simp only[qp,wp,aK,u1,u2,u3,u4,u5,u6,u7,u8,u9,v1,v2,v3,v4,v5,v6,v7,v8,v9,w1,w2,w3,w4,aC,ab,ae,ag,av]at Yh⊢;refine⟨Yh,?_⟩
 have h:=qe (c:=bj bL) (fun x y=>qe (c:=bL) (fun x y=>DK) (a:=x) (b:=y)) (a:=a) (b:=b)
 rw[Bool.eq_iff_iff,beq_iff_eq,decide_eq_true_eq];exact h
theorem LW:Fits Tryz.prog 101 ⟨[],wo⟩:=by
 refine aW (Γ:=ai DU) (az qo aJ) Tryz.func101 fun ds p h hp=>?_
 unfold wo at h;split at h
 ·cases h
  exact⟨aj,ar,by rw[LU];exact LV _ _  hp⟩
 ·cases h
def qq(a:List Int)(b:List Int):Post:=⟨ag a.length,.c (.bool (decide (a=b))),[]⟩
def nN:List AD->Option Post
 | [.c (.ints .i64 a),.c (.ints .i64 b)]=>some (qq a b)
 |_=>none
def DV(a:List Int)(b:List Int):Nat->Option Ann
 |0=>some (Ann.mk ((Nat)) (fun i=>⟨[(0,.c (.ro (.ints .i64 a))),(1,.c (.ro (.ints .i64 b))),(5,.c (.int .i64 ((i:Int))))],[]⟩) (fun i=>i<=a.length/\a.length=b.length/\a.take i=b.take i) (fun i=>a.length-i) (fun _=>ar))
 |_=>none
def DW:List (Nat×Ctr):=[]
def wq(a:List Int)(b:List Int):Prop :=
 af ((a.length:Int) != (b.length:Int)) (false=decide (a=b)/\True) ((∃x0:Nat,(x0<=a.length/\a.length=b.length/\List.take x0 a=List.take x0 b)/\a=a/\b=b/\(0:Int)=(x0:Int))/\∀x1:Nat,x1<=a.length/\a.length=b.length/\List.take x1 a=List.take x1 b->af (decide ((x1:Int)<(a.length:Int))) (ab (x1:Int) a.length/\ab (x1:Int) b.length/\af (a.getD (x1:Int).toNat (0:Int) != b.getD (x1:Int).toNat (0:Int)) (false=decide (a=b)/\True) (ae ((x1:Int)+(1:Int))/\∃x2:Nat,(x2<=a.length/\a.length=b.length/\List.take x2 a=List.take x2 b)/\a.length-x2<a.length-x1/\a=a/\b=b/\(x1:Int)+(1:Int)=(x2:Int))) (true=decide (a=b)/\True))
theorem LX(a:List Int)(b:List Int):aP Tryz.prog (ai DW) aj (DV a b) Tryz.f202 (aF Tryz.f202) [] [.c (.ints .i64 a),.c (.ints .i64 b)] (qq a b)=wq a b:=by kernel_rfl
theorem LY(a:List Int)(b:List Int)(Yh:(qq a b).pre):wq a b:=by
 simp only[qq,wq,aK,u1,u2,u3,u4,u5,u6,u7,u8,u9,v1,v2,v3,v4,v5,v6,v7,v8,v9,w1,w2,w3,w4,aC,ab,ae,ag,av]at Yh⊢;refine⟨fun h=>?_,fun h=>⟨⟨0,⟨by omega,by omega,rfl⟩,by simp⟩,fun i hi=>⟨fun h1=>⟨by omega,by omega,fun h2=>?_,fun h2=>⟨by omega,i+1,⟨by omega,hi.2.1,?_⟩,by omega,by omega⟩⟩,fun h1=>?_⟩⟩⟩
 ·exact(decide_eq_false fun e=>h (by rw[e])).symm
 ·exact(decide_eq_false fun e=>h2 (by rw[e])).symm
 ·exact(pq a b 0 i (by omega) (by omega) hi.2.2).2 h2
 ·refine(decide_eq_true ?_).symm
  have:=hi.2.2
  rwa[List.take_of_length_le (by omega),List.take_of_length_le (by omega)]at this
theorem wt:Fits Tryz.prog 202 ⟨[],nN⟩:=by
 refine aW (Γ:=ai DW) aJ Tryz.func202 fun ds p h hp=>?_
 unfold nN at h;split at h
 ·cases h
  exact⟨aj,DV _ _ ,by rw[LX];exact LY _ _  hp⟩
 ·cases h
end Go.Sx
