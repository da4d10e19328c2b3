/- Cmp -/
import Derived.Test.YtkmldclpaniclaaGreatTable
set_option linter.unusedSimpArgs false
set_option linter.unusedVariables false
set_option linter.defProp false
open Go Go.Proofs
namespace Go.Sx
def cf(x y:Int):Int:=if x<y then -1 else if y<x then 1 else 0
def Nf{x y:Int}:cf x y=0↔x=y:=by
 unfold cf;split
 ·omega
 ·split<;>omega
def bC{α:Type}(c:α->α->Int):List α->List α->Int
 | [],[]=>0
 | [],_::_=>-1
 |_::_,[]=>1
 |x::a,y::b=>if c x y=0 then bC c a b else c x y
def ur{α:Type}{c:α->α->Int}(hc:∀x y,c x y=0↔x=y):∀{a b:List α},bC c a b=0↔a=b
 | [],[]=>by simp[bC]
 | [],_::_=>by simp[bC]
 |_::_,[]=>by simp[bC]
 |x::a,y::b=>by
  simp only[bC,Cf];by_cases h:c x y=0
  ·rw[AA h,ur hc]
   simp[(hc x y).1 h]
  ·rw[AB h]
   exact⟨λe=>absurd e h,λe=>absurd ((hc x y).2 e.1) h⟩
def ut{α:Type}(c:α->α->Int)(d:α)(a b:List α)(i:Nat)(ha:i<a.length)(hb:i<b.length) :
  bC c (a.drop i) (b.drop i)=if c (a.getD i d) (b.getD i d)=0 then bC c (a.drop (i+1)) (b.drop (i+1))else c (a.getD i d) (b.getD i d):=by
 rw[drop_cons' a d i ha,drop_cons' b d i hb];rfl
def Ng{α:Type}(c:α->α->Int)(d:α)(a b:List α)(i:Nat)(ha:i<a.length)(hb:b.length<=i):bC c (a.drop i) (b.drop i)=1:=by
 rw[drop_cons' a d i ha,BE hb];rfl
def uu{α:Type}(c:α->α->Int)(d:α)(a b:List α)(i:Nat)(ha:a.length<=i):bC c (a.drop i) (b.drop i)=if i<b.length then -1 else 0:=by
 rw[BE ha];split
 ·rename_i h;rw[drop_cons' b d i h];rfl
 ·rw[BE (by omega)];rfl
def Fa:List AD->Option Post
 | [.c (.int .i64 x)]=>some ⟨True,.c (.bool false),[]⟩
 |_=>none
def Xn:Fits Tryz.prog 201 ⟨[],Fa⟩:=by
 refine ffv (Γ:=ah []) aN Tryz.func201 λds p h ξ=>?_
 unfold Fa at h;split at h<;>cases h
 rename_i x
 refine⟨aj,ar,(x != x)=false/\True,by kernel_rfl,?_⟩
 simp only[aO]at ξ⊢
def Fc:List AD->Option Post
 | [.c (.int .i64 x),.c (.int .i64 y)]=>some ⟨True,.c (.int .i64 (cf x y)),[]⟩
 |_=>none
def Xq:Fits Tryz.prog 140 ⟨[],Fc⟩:=by
 refine ffv (Γ:=ah [(201,⟨[],Fa⟩)]) (aq Xn aN) Tryz.func140 λds p h ξ=>?_
 unfold Fc at h;split at h<;>cases h
 rename_i x y
 refine⟨aj,ar,(True/\True)/\(True/\True)/\ab (decide (x<y)) ((-1:Int)=cf x y/\True) (ab (decide (y<x)) ((1:Int)=cf x y/\True) ((0:Int)=cf x y/\True)),by kernel_rfl,?_⟩
 simp only[aO]at ξ⊢;unfold cf;refine⟨λh=>?_,λh=>⟨λh2=>?_,λh2=>?_⟩⟩
 ·rw[AA h]
 ·rw[AB h,AA h2]
 ·rw[AB h,AB h2]
def Fe:List AD->Option Post
 | [.c (.ints .i64 a),.c (.ints .i64 b)]=>some ⟨au a.length/\au b.length,.c (.int .i64 (bC cf a b)),[]⟩
 |_=>none
def Nj(a:D6)(b:D6):Nat->Option Ann
 |0=>Q' λi=>⟨⟨[(0,D' a),(1,D' b),(9,D' a),(10,A' a.length),(11,A' i)],[]⟩,i<=a.length/\i<=b.length/\bC cf a b=bC cf (a.drop i) (b.drop i),a.length-i⟩
 |_=>none
def Xt:Fits Tryz.prog 90 ⟨[],Fe⟩:=by
 refine ffv (Γ:=ah [(140,⟨[],Fc⟩)]) (aq Xq aN) Tryz.func90 λds p h ξ=>?_
 unfold Fe at h;split at h<;>cases h
 rename_i a b
 refine⟨aj,Nj a b,(∃x0:Nat,(x0<=a.length/\x0<=b.length/\bC cf a b=bC cf (List.drop x0 a) (List.drop x0 b))/\a=a/\b=b/\a=a/\(a.length:Int)=(a.length:Int)/\(0:Int)=(x0:Int))/\∀x1:Nat,x1<=a.length/\x1<=b.length/\bC cf a b=bC cf (List.drop x1 a) (List.drop x1 b)->ab (decide ((x1:Int)<(a.length:Int))) (ac (x1:Int) a.length/\ab (decide ((b.length:Int)<=(x1:Int))) ((1:Int)=bC cf a b/\True) (ac (x1:Int) b.length/\(True/\True)/\ab (cf (a.getD (x1:Int).toNat (0:Int)) (b.getD (x1:Int).toNat (0:Int)) != (0:Int)) (cf (a.getD (x1:Int).toNat (0:Int)) (b.getD (x1:Int).toNat (0:Int))=bC cf a b/\True) (ae ((x1:Int)+(1:Int))/\∃x2:Nat,(x2<=a.length/\x2<=b.length/\bC cf a b=bC cf (List.drop x2 a) (List.drop x2 b))/\a.length-x2<a.length-x1/\a=a/\b=b/\a=a/\(a.length:Int)=(a.length:Int)/\(x1:Int)+(1:Int)=(x2:Int)))) (ab (decide ((a.length:Int)<(b.length:Int))) ((-1:Int)=bC cf a b/\True) ((0:Int)=bC cf a b/\True)),by kernel_rfl,?_⟩
 simp only[aO]at ξ⊢;refine⟨⟨0,⟨by omega,by omega,rfl⟩,rfl⟩,λi ⟨hi,hj,he⟩=>⟨λh=>⟨by omega,λh2=>?_,λh2=>⟨by omega,λh3=>?_,λh3=>⟨by omega,i+1,⟨by omega,by omega,?_⟩,by omega,by omega⟩⟩⟩,λh=>⟨λh2=>?_,λh2=>?_⟩⟩⟩
 ·rw[he,Ng cf 0 a b i (by omega) (by omega)]
 ·rw[he,ut cf 0 a b i (by omega) (by omega),AB h3]
 ·rw[he,ut cf 0 a b i (by omega) (by omega),AA h3]
 ·rw[he,uu cf 0 a b i (by omega),AA (by omega)]
 ·rw[he,uu cf 0 a b i (by omega),AB (by omega)]
def qx:List AD->Option Post
 | [.c (.ints .i64 a),.c (.ints .i64 b)]=>some ⟨au a.length/\au b.length,.c (.int .i64 (bC cf a b)),[]⟩
 |_=>none
def Xw:Fits Tryz.prog 188 ⟨[],qx⟩:=by
 refine ffv (Γ:=ah [(90,⟨[],Fe⟩)]) (aq Xt aN) Tryz.func188 λds p h ξ=>?_
 unfold qx at h;split at h<;>cases h
 rename_i a b
 refine⟨aj,ar,((au a.length/\au b.length)/\True)/\bC cf a b=bC cf a b/\True,by kernel_rfl,?_⟩
 simp only[aO]at ξ⊢;exact ξ
def Fh:List AD->Option Post
 | [.c (.rows .i64 a),.c (.rows .i64 b),.fv (.lli q p)]=>some ⟨a.length<=1099511627776/\b.length<=1099511627776/\(∀x∈a,∀y∈b,q x y),.c (.int .i64 (bC p a b)),[]⟩
 |_=>none
def Nm(a:D7)(b:D7)(q:D6->D6->Prop)(p:D6->D6->Int):Nat->Option Ann
 |0=>Q' λi=>⟨⟨[(0,G' a),(1,G' b),(2,.fv (.lli q p)),(11,G' a),(12,A' a.length),(13,A' i)],[]⟩,i<=a.length/\i<=b.length/\bC p a b=bC p (a.drop i) (b.drop i),a.length-i⟩
 |_=>none
def Xz:Fits Tryz.prog 187 ⟨[],Fh⟩:=by
 refine ffv (Γ:=ah []) aN Tryz.func187 λds p h ξ=>?_
 unfold Fh at h;split at h<;>cases h
 rename_i a b q p
 refine⟨aj,Nm a b q p,(∃x0:Nat,(x0<=a.length/\x0<=b.length/\bC p a b=bC p (List.drop x0 a) (List.drop x0 b))/\a=a/\b=b/\FV.lli q p=FV.lli q p/\a=a/\(a.length:Int)=(a.length:Int)/\(0:Int)=(x0:Int))/\∀x1:Nat,x1<=a.length/\x1<=b.length/\bC p a b=bC p (List.drop x1 a) (List.drop x1 b)->ab (decide ((x1:Int)<(a.length:Int))) (ac (x1:Int) a.length/\ab (decide ((b.length:Int)<=(x1:Int))) ((1:Int)=bC p a b/\True) (ac (x1:Int) b.length/\q (a.getD (x1:Int).toNat []) (b.getD (x1:Int).toNat [])/\ab (p (a.getD (x1:Int).toNat []) (b.getD (x1:Int).toNat []) != (0:Int)) (p (a.getD (x1:Int).toNat []) (b.getD (x1:Int).toNat [])=bC p a b/\True) (ae ((x1:Int)+(1:Int))/\∃x2:Nat,(x2<=a.length/\x2<=b.length/\bC p a b=bC p (List.drop x2 a) (List.drop x2 b))/\a.length-x2<a.length-x1/\a=a/\b=b/\FV.lli q p=FV.lli q p/\a=a/\(a.length:Int)=(a.length:Int)/\(x1:Int)+(1:Int)=(x2:Int)))) (ab (decide ((a.length:Int)<(b.length:Int))) ((-1:Int)=bC p a b/\True) ((0:Int)=bC p a b/\True)),by kernel_rfl,?_⟩
 simp only[aO]at ξ⊢;obtain⟨l1,l2,hq⟩:=ξ;refine⟨⟨0,⟨by omega,by omega,rfl⟩,rfl⟩,λi ⟨hi,hj,he⟩=>⟨λh=>⟨by omega,λh2=>?_,λh2=>⟨by omega,hq _ (bN a [] i (by omega)) _ (bN b [] i (by omega)),λh3=>?_,λh3=>⟨by omega,i+1,⟨by omega,by omega,?_⟩,by omega,by omega⟩⟩⟩,λh=>⟨λh2=>?_,λh2=>?_⟩⟩⟩
 ·rw[he,Ng p [] a b i (by omega) (by omega)]
 ·rw[he,ut p [] a b i (by omega) (by omega),AB h3]
 ·rw[he,ut p [] a b i (by omega) (by omega),AA h3]
 ·rw[he,uu p [] a b i (by omega),AA (by omega)]
 ·rw[he,uu p [] a b i (by omega),AB (by omega)]
def uB:List AD->Option Post
 | [.c (.rows .i64 a),.c (.rows .i64 b)]=>some ⟨aJ a/\aJ b,.c (.int .i64 (bC (bC cf) a b)),[]⟩
 |_=>none
def uC:Fits Tryz.prog 135 ⟨[],uB⟩:=by
 refine ffv (Γ:=ah [(187,⟨[],Fh⟩),(188,⟨[],qx⟩)]) (aq Xz (aq Xw aN)) Tryz.func135 λds p h ξ=>?_
 unfold uB at h;split at h<;>cases h
 rename_i a b
 refine⟨aj,ar,((a.length<=(1099511627776:Nat)/\b.length<=(1099511627776:Nat)/\∀(x:D6),x∈a->∀(y:D6),y∈b->jy (qx [AD.c (FC.ints IntKind.i64 x),AD.c (FC.ints IntKind.i64 y)]))/\True)/\bC (λ(x y:D6)=>jx (qx [AD.c (FC.ints IntKind.i64 x),AD.c (FC.ints IntKind.i64 y)])) a b=bC (bC cf) a b/\True,by kernel_rfl,?_⟩
 simp only[aO]at ξ⊢;exact⟨⟨ξ.1.1,ξ.2.1,λx hx y hy=>⟨ξ.1.2 x hx,ξ.2.2 y hy⟩⟩,rfl⟩
def Fk:List AD->Option Post
 | [.c (.rows .i64 a),.c (.rows .i64 b)]=>some ⟨aJ a/\aJ b,.c (.bool (decide (a=b))),[]⟩
 |_=>none
def XE:Fits Tryz.prog 101 ⟨[],Fk⟩:=by
 refine ffv (Γ:=ah [(135,⟨[],uB⟩)]) (aq uC aN) Tryz.func101 λds p h ξ=>?_
 unfold Fk at h;split at h<;>cases h
 rename_i a b
 refine⟨aj,ar,((aJ a/\aJ b)/\True)/\(bC (bC cf) a b == (0:Int))=decide (a=b)/\True,by kernel_rfl,?_⟩
 simp only[aO]at ξ⊢;refine⟨ξ,?_⟩
 have h:=ur (c:=bC cf) (λx y=>ur (c:=cf) (λx y=>Nf) (a:=x) (b:=y)) (a:=a) (b:=b)
 rw[Cu,beq_iff_eq,Ai];exact h
def qy:List AD->Option Post
 | [.c (.ints .i64 a),.c (.ints .i64 b)]=>some ⟨au a.length,.c (.bool (decide (a=b))),[]⟩
 |_=>none
def Nq(a:D6)(b:D6):Nat->Option Ann
 |0=>Q' λi=>⟨⟨[(0,D' a),(1,D' b),(5,A' i)],[]⟩,i<=a.length/\a.length=b.length/\a.take i=b.take i,a.length-i⟩
 |_=>none
def Fn:Fits Tryz.prog 202 ⟨[],qy⟩:=by
 refine ffv (Γ:=ah []) aN Tryz.func202 λds p h ξ=>?_
 unfold qy at h;split at h<;>cases h
 rename_i a b
 refine⟨aj,Nq a b,ab ((a.length:Int) != (b.length:Int)) (false=decide (a=b)/\True) ((∃x0:Nat,(x0<=a.length/\a.length=b.length/\List.take x0 a=List.take x0 b)/\a=a/\b=b/\(0:Int)=(x0:Int))/\∀x1:Nat,x1<=a.length/\a.length=b.length/\List.take x1 a=List.take x1 b->ab (decide ((x1:Int)<(a.length:Int))) (ac (x1:Int) a.length/\ac (x1:Int) b.length/\ab (a.getD (x1:Int).toNat (0:Int) != b.getD (x1:Int).toNat (0:Int)) (false=decide (a=b)/\True) (ae ((x1:Int)+(1:Int))/\∃x2:Nat,(x2<=a.length/\a.length=b.length/\List.take x2 a=List.take x2 b)/\a.length-x2<a.length-x1/\a=a/\b=b/\(x1:Int)+(1:Int)=(x2:Int))) (true=decide (a=b)/\True)),by kernel_rfl,?_⟩
 simp only[aO]at ξ⊢;refine⟨λh=>?_,λh=>⟨⟨0,⟨by omega,by omega,rfl⟩,by simp⟩,λi hi=>⟨λh1=>⟨by omega,by omega,λh2=>?_,λh2=>⟨by omega,i+1,⟨by omega,hi.2.1,?_⟩,by omega,by omega⟩⟩,λh1=>?_⟩⟩⟩
 ·exact(Ad λe=>h (by rw[e])).symm
 ·exact(Ad λe=>h2 (by rw[e])).symm
 ·exact(Ku a b 0 i (by omega) (by omega) hi.2.2).2 h2
 ·refine(Ab ?_).symm
  have:=hi.2.2
  rwa[AU (by omega),AU (by omega)]at this
end Go.Sx
