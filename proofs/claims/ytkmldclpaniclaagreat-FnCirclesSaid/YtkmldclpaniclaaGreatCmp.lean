/- Cmp -/
import Derived.Test.YtkmldclpaniclaaGreatTable
set_option linter.unusedSimpArgs false
set_option linter.unusedVariables false
set_option linter.defProp false
open Go Go.Proofs
namespace Go.Sx
def bg(x y:Int):Int:=if x<y then -1 else if y<x then 1 else 0
theorem mf{x y:Int}:bg x y=0↔x=y:=by
 unfold bg;split
 ·omega
 ·split<;>omega
def aR{α:Type}(c:α->α->Int):List α->List α->Int
 | [],[]=>0
 | [],_::_=>-1
 |_::_,[]=>1
 |x::a,y::b=>if c x y=0 then aR c a b else c x y
theorem mg{α:Type}{c:α->α->Int}(hc:∀x y,c x y=0↔x=y):∀{a b:List α},aR c a b=0↔a=b
 | [],[]=>by simp[aR]
 | [],_::_=>by simp[aR]
 |_::_,[]=>by simp[aR]
 |x::a,y::b=>by
  simp only[aR,CY];by_cases h:c x y=0
  ·rw[AA h,mg hc]
   simp[(hc x y).1 h]
  ·rw[AB h]
   exact⟨fun e=>absurd e h,fun e=>absurd ((hc x y).2 e.1) h⟩
theorem sg{α:Type}(c:α->α->Int)(d:α)(a b:List α)(i:Nat)(ha:i<a.length)(hb:i<b.length) :
  aR c (a.drop i) (b.drop i)=if c (a.getD i d) (b.getD i d)=0 then aR c (a.drop (i+1)) (b.drop (i+1))else c (a.getD i d) (b.getD i d):=by
 rw[drop_cons' a d i ha,drop_cons' b d i hb];rfl
theorem J0{α:Type}(c:α->α->Int)(d:α)(a b:List α)(i:Nat)(ha:i<a.length)(hb:b.length<=i):aR c (a.drop i) (b.drop i)=1:=by
 rw[drop_cons' a d i ha,BF hb];rfl
theorem sh{α:Type}(c:α->α->Int)(d:α)(a b:List α)(i:Nat)(ha:a.length<=i):aR c (a.drop i) (b.drop i)=if i<b.length then -1 else 0:=by
 rw[BF ha];split
 ·rename_i h;rw[drop_cons' b d i h];rfl
 ·rw[BF (by omega)];rfl
def yI:List AD->Option Post
 | [.c (.int .i64 x)]=>some ⟨True,.c (.bool false),[]⟩
 |_=>none
theorem Tf:Fits Tryz.prog 201 ⟨[],yI⟩:=by
 refine ffv (Γ:=ah []) aI Tryz.func201 fun ds p h ξ=>?_
 unfold yI at h;split at h<;>cases h
 rename_i x
 refine⟨aj,ar,(x != x)=false/\True,by kernel_rfl,?_⟩
 simp only[aJ]at ξ⊢
def yK:List AD->Option Post
 | [.c (.int .i64 x),.c (.int .i64 y)]=>some ⟨True,.c (.int .i64 (bg x y)),[]⟩
 |_=>none
theorem Ti:Fits Tryz.prog 140 ⟨[],yK⟩:=by
 refine ffv (Γ:=ah [(201,⟨[],yI⟩)]) (aw Tf aI) Tryz.func140 fun ds p h ξ=>?_
 unfold yK at h;split at h<;>cases h
 rename_i x y
 refine⟨aj,ar,(True/\True)/\(True/\True)/\ab (decide (x<y)) ((-1:Int)=bg x y/\True) (ab (decide (y<x)) ((1:Int)=bg x y/\True) ((0:Int)=bg x y/\True)),by kernel_rfl,?_⟩
 simp only[aJ]at ξ⊢;unfold bg;refine⟨fun h=>?_,fun h=>⟨fun h2=>?_,fun h2=>?_⟩⟩
 ·rw[AA h]
 ·rw[AB h,AA h2]
 ·rw[AB h,AB h2]
def sn:List AD->Option Post
 | [.c (.ints .i64 a),.c (.ints .i64 b)]=>some ⟨am a.length/\am b.length,.c (.int .i64 (aR bg a b)),[]⟩
 |_=>none
def J3(a:D1)(b:D1):Nat->Option Ann
 |0=>Q' fun i=>⟨⟨[(0,D' a),(1,D' b),(9,D' a),(10,A' a.length),(11,A' i)],[]⟩,i<=a.length/\i<=b.length/\aR bg a b=aR bg (a.drop i) (b.drop i),a.length-i⟩
 |_=>none
theorem sq:Fits Tryz.prog 90 ⟨[],sn⟩:=by
 refine ffv (Γ:=ah [(140,⟨[],yK⟩)]) (aw Ti aI) Tryz.func90 fun ds p h ξ=>?_
 unfold sn at h;split at h<;>cases h
 rename_i a b
 refine⟨aj,J3 a b,(∃x0:Nat,(x0<=a.length/\x0<=b.length/\aR bg a b=aR bg (List.drop x0 a) (List.drop x0 b))/\a=a/\b=b/\a=a/\(a.length:Int)=(a.length:Int)/\(0:Int)=(x0:Int))/\∀x1:Nat,x1<=a.length/\x1<=b.length/\aR bg a b=aR bg (List.drop x1 a) (List.drop x1 b)->ab (decide ((x1:Int)<(a.length:Int))) (ac (x1:Int) a.length/\ab (decide ((b.length:Int)<=(x1:Int))) ((1:Int)=aR bg a b/\True) (ac (x1:Int) b.length/\(True/\True)/\ab (bg (a.getD (x1:Int).toNat (0:Int)) (b.getD (x1:Int).toNat (0:Int)) != (0:Int)) (bg (a.getD (x1:Int).toNat (0:Int)) (b.getD (x1:Int).toNat (0:Int))=aR bg a b/\True) (af ((x1:Int)+(1:Int))/\∃x2:Nat,(x2<=a.length/\x2<=b.length/\aR bg a b=aR bg (List.drop x2 a) (List.drop x2 b))/\a.length-x2<a.length-x1/\a=a/\b=b/\a=a/\(a.length:Int)=(a.length:Int)/\(x1:Int)+(1:Int)=(x2:Int)))) (ab (decide ((a.length:Int)<(b.length:Int))) ((-1:Int)=aR bg a b/\True) ((0:Int)=aR bg a b/\True)),by kernel_rfl,?_⟩
 simp only[aJ]at ξ⊢;refine⟨⟨0,⟨by omega,by omega,rfl⟩,rfl⟩,fun i ⟨hi,hj,he⟩=>⟨fun h=>⟨by omega,fun h2=>?_,fun h2=>⟨by omega,fun h3=>?_,fun h3=>⟨by omega,i+1,⟨by omega,by omega,?_⟩,by omega,by omega⟩⟩⟩,fun h=>⟨fun h2=>?_,fun h2=>?_⟩⟩⟩
 ·rw[he,J0 bg 0 a b i (by omega) (by omega)]
 ·rw[he,sg bg 0 a b i (by omega) (by omega),AB h3]
 ·rw[he,sg bg 0 a b i (by omega) (by omega),AA h3]
 ·rw[he,sh bg 0 a b i (by omega),AA (by omega)]
 ·rw[he,sh bg 0 a b i (by omega),AB (by omega)]
def pA:List AD->Option Post
 | [.c (.ints .i64 a),.c (.ints .i64 b)]=>some ⟨am a.length/\am b.length,.c (.int .i64 (aR bg a b)),[]⟩
 |_=>none
theorem Tn:Fits Tryz.prog 188 ⟨[],pA⟩:=by
 refine ffv (Γ:=ah [(90,⟨[],sn⟩)]) (aw sq aI) Tryz.func188 fun ds p h ξ=>?_
 unfold pA at h;split at h<;>cases h
 rename_i a b
 refine⟨aj,ar,((am a.length/\am b.length)/\True)/\aR bg a b=aR bg a b/\True,by kernel_rfl,?_⟩
 simp only[aJ]at ξ⊢;exact ξ
def yO:List AD->Option Post
 | [.c (.rows .i64 a),.c (.rows .i64 b),.fv (.lli q p)]=>some ⟨a.length<=1099511627776/\b.length<=1099511627776/\(∀x∈a,∀y∈b,q x y),.c (.int .i64 (aR p a b)),[]⟩
 |_=>none
def J6(a:D2)(b:D2)(q:D1->D1->Prop)(p:D1->D1->Int):Nat->Option Ann
 |0=>Q' fun i=>⟨⟨[(0,G' a),(1,G' b),(2,.fv (.lli q p)),(11,G' a),(12,A' a.length),(13,A' i)],[]⟩,i<=a.length/\i<=b.length/\aR p a b=aR p (a.drop i) (b.drop i),a.length-i⟩
 |_=>none
theorem Tq:Fits Tryz.prog 187 ⟨[],yO⟩:=by
 refine ffv (Γ:=ah []) aI Tryz.func187 fun ds p h ξ=>?_
 unfold yO at h;split at h<;>cases h
 rename_i a b q p
 refine⟨aj,J6 a b q p,(∃x0:Nat,(x0<=a.length/\x0<=b.length/\aR p a b=aR p (List.drop x0 a) (List.drop x0 b))/\a=a/\b=b/\FV.lli q p=FV.lli q p/\a=a/\(a.length:Int)=(a.length:Int)/\(0:Int)=(x0:Int))/\∀x1:Nat,x1<=a.length/\x1<=b.length/\aR p a b=aR p (List.drop x1 a) (List.drop x1 b)->ab (decide ((x1:Int)<(a.length:Int))) (ac (x1:Int) a.length/\ab (decide ((b.length:Int)<=(x1:Int))) ((1:Int)=aR p a b/\True) (ac (x1:Int) b.length/\q (a.getD (x1:Int).toNat []) (b.getD (x1:Int).toNat [])/\ab (p (a.getD (x1:Int).toNat []) (b.getD (x1:Int).toNat []) != (0:Int)) (p (a.getD (x1:Int).toNat []) (b.getD (x1:Int).toNat [])=aR p a b/\True) (af ((x1:Int)+(1:Int))/\∃x2:Nat,(x2<=a.length/\x2<=b.length/\aR p a b=aR p (List.drop x2 a) (List.drop x2 b))/\a.length-x2<a.length-x1/\a=a/\b=b/\FV.lli q p=FV.lli q p/\a=a/\(a.length:Int)=(a.length:Int)/\(x1:Int)+(1:Int)=(x2:Int)))) (ab (decide ((a.length:Int)<(b.length:Int))) ((-1:Int)=aR p a b/\True) ((0:Int)=aR p a b/\True)),by kernel_rfl,?_⟩
 simp only[aJ]at ξ⊢;obtain⟨l1,l2,hq⟩:=ξ;refine⟨⟨0,⟨by omega,by omega,rfl⟩,rfl⟩,fun i ⟨hi,hj,he⟩=>⟨fun h=>⟨by omega,fun h2=>?_,fun h2=>⟨by omega,hq _ (bI a [] i (by omega)) _ (bI b [] i (by omega)),fun h3=>?_,fun h3=>⟨by omega,i+1,⟨by omega,by omega,?_⟩,by omega,by omega⟩⟩⟩,fun h=>⟨fun h2=>?_,fun h2=>?_⟩⟩⟩
 ·rw[he,J0 p [] a b i (by omega) (by omega)]
 ·rw[he,sg p [] a b i (by omega) (by omega),AB h3]
 ·rw[he,sg p [] a b i (by omega) (by omega),AA h3]
 ·rw[he,sh p [] a b i (by omega),AA (by omega)]
 ·rw[he,sh p [] a b i (by omega),AB (by omega)]
def sw:List AD->Option Post
 | [.c (.rows .i64 a),.c (.rows .i64 b)]=>some ⟨aS a/\aS b,.c (.int .i64 (aR (aR bg) a b)),[]⟩
 |_=>none
theorem sx:Fits Tryz.prog 135 ⟨[],sw⟩:=by
 refine ffv (Γ:=ah [(187,⟨[],yO⟩),(188,⟨[],pA⟩)]) (aw Tq (aw Tn aI)) Tryz.func135 fun ds p h ξ=>?_
 unfold sw at h;split at h<;>cases h
 rename_i a b
 refine⟨aj,ar,((a.length<=(1099511627776:Nat)/\b.length<=(1099511627776:Nat)/\∀(x:D1),x∈a->∀(y:D1),y∈b->lz (pA [AD.c (FC.ints IntKind.i64 x),AD.c (FC.ints IntKind.i64 y)]))/\True)/\aR (fun(x y:D1)=>lw (pA [AD.c (FC.ints IntKind.i64 x),AD.c (FC.ints IntKind.i64 y)])) a b=aR (aR bg) a b/\True,by kernel_rfl,?_⟩
 simp only[aJ]at ξ⊢;exact⟨⟨ξ.1.1,ξ.2.1,fun x hx y hy=>⟨ξ.1.2 x hx,ξ.2.2 y hy⟩⟩,rfl⟩
def yR:List AD->Option Post
 | [.c (.rows .i64 a),.c (.rows .i64 b)]=>some ⟨aS a/\aS b,.c (.bool (decide (a=b))),[]⟩
 |_=>none
theorem Tw:Fits Tryz.prog 101 ⟨[],yR⟩:=by
 refine ffv (Γ:=ah [(135,⟨[],sw⟩)]) (aw sx aI) Tryz.func101 fun ds p h ξ=>?_
 unfold yR at h;split at h<;>cases h
 rename_i a b
 refine⟨aj,ar,((aS a/\aS b)/\True)/\(aR (aR bg) a b == (0:Int))=decide (a=b)/\True,by kernel_rfl,?_⟩
 simp only[aJ]at ξ⊢;refine⟨ξ,?_⟩
 have h:=mg (c:=aR bg) (fun x y=>mg (c:=bg) (fun x y=>mf) (a:=x) (b:=y)) (a:=a) (b:=b)
 rw[Cs,beq_iff_eq,Ab];exact h
def pB:List AD->Option Post
 | [.c (.ints .i64 a),.c (.ints .i64 b)]=>some ⟨am a.length,.c (.bool (decide (a=b))),[]⟩
 |_=>none
def Ka(a:D1)(b:D1):Nat->Option Ann
 |0=>Q' fun i=>⟨⟨[(0,D' a),(1,D' b),(5,A' i)],[]⟩,i<=a.length/\a.length=b.length/\a.take i=b.take i,a.length-i⟩
 |_=>none
theorem yU:Fits Tryz.prog 202 ⟨[],pB⟩:=by
 refine ffv (Γ:=ah []) aI Tryz.func202 fun ds p h ξ=>?_
 unfold pB at h;split at h<;>cases h
 rename_i a b
 refine⟨aj,Ka a b,ab ((a.length:Int) != (b.length:Int)) (false=decide (a=b)/\True) ((∃x0:Nat,(x0<=a.length/\a.length=b.length/\List.take x0 a=List.take x0 b)/\a=a/\b=b/\(0:Int)=(x0:Int))/\∀x1:Nat,x1<=a.length/\a.length=b.length/\List.take x1 a=List.take x1 b->ab (decide ((x1:Int)<(a.length:Int))) (ac (x1:Int) a.length/\ac (x1:Int) b.length/\ab (a.getD (x1:Int).toNat (0:Int) != b.getD (x1:Int).toNat (0:Int)) (false=decide (a=b)/\True) (af ((x1:Int)+(1:Int))/\∃x2:Nat,(x2<=a.length/\a.length=b.length/\List.take x2 a=List.take x2 b)/\a.length-x2<a.length-x1/\a=a/\b=b/\(x1:Int)+(1:Int)=(x2:Int))) (true=decide (a=b)/\True)),by kernel_rfl,?_⟩
 simp only[aJ]at ξ⊢;refine⟨fun h=>?_,fun h=>⟨⟨0,⟨by omega,by omega,rfl⟩,by simp⟩,fun i hi=>⟨fun h1=>⟨by omega,by omega,fun h2=>?_,fun h2=>⟨by omega,i+1,⟨by omega,hi.2.1,?_⟩,by omega,by omega⟩⟩,fun h1=>?_⟩⟩⟩
 ·exact(Ae fun e=>h (by rw[e])).symm
 ·exact(Ae fun e=>h2 (by rw[e])).symm
 ·exact(wV a b 0 i (by omega) (by omega) hi.2.2).2 h2
 ·refine(Aa ?_).symm
  have:=hi.2.2
  rwa[AU (by omega),AU (by omega)]at this
end Go.Sx
