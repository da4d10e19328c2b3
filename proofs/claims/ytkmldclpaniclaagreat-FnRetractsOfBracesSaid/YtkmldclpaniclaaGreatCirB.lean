/- CirB -/
import Derived.Test.YtkmldclpaniclaaGreatGrp
set_option linter.unusedSimpArgs false
set_option linter.unusedVariables false
set_option linter.defProp false
open Go Go.Proofs
namespace Go.Sx
def d8(t A:Dc)(K:Db):Db×Bool :=
 match eU t A K with
 |none=>([],false)
 |some o=>(o,true)
theorem JQ{t A:Dc}{o:Db}{x y:Nat}(h:d4 t A o x y=none):∀k,d4 t A o x (y+k)=none
 |0=>h
 |k+1=>by rw[<-A0,d4,JQ h k];rfl
theorem JR{t A:Dc}{o:Db}{x:Nat}(h:fo t A o x=none):∀k,fo t A o (x+k)=none
 |0=>h
 |k+1=>by rw[<-A0,fo,JR h k];rfl
theorem So{t A:Dc}{K o c e:Db}{fu i j:Nat}(hr:eU t A K=gz t A (fu+1) o)(hx:fo t A o i=some c)(hy:d4 t A c i j=some e)(hi:i<t.length)(hj:j<t.length)(h:iA t A e i j=none):d8 t A K=([],false):=by
 have h1:d4 t A c i (j+1)=none:=by rw[d4,hy];exact h
 have h2:=JQ h1 (t.length-(j+1))
 rw[show j+1+(t.length-(j+1))=t.length by omega]at h2
 have h3:fo t A o (i+1)=none:=by rw[fo,hx];exact h2
 have h4:=JR h3 (t.length-(i+1))
 rw[show i+1+(t.length-(i+1))=t.length by omega]at h4
 rw[d8,hr,gz,h4]
def yW:List AD->Option Post
 | [.c (.rows .i64 t),.c (.rows .i64 A),.c (.ints .i64 K)]=>some ⟨t.length<=12/\ba t.length t/\AuOk t.length A/\A.length<=1000000/\KOk t.length A.length K,.tup [.inl (.ints 2 .i64 (d8 t A K).1),.inl (.bool (d8 t A K).2)],[]⟩
 |_=>none
def JS(t:Dc)(A:Dc)(K:Db):Nat->Option Ann
 |0=>some (Ann.mk ((Nat)×(Db)×(Bool)) (fun x=>match x with|(fu,o,g)=>⟨[(0,I' t),(1,I' A),(8,M' 8),(9,.c (.bool g))],[(8,Q' o)]⟩) (fun x=>match x with|(fu,o,g)=>KOk t.length A.length o/\(g=true->aL o<fu/\eU t A K=gz t A fu o)/\(g=false->eU t A K=some o)) (fun x=>match x with|(fu,o,g)=>2*fu+(if g=true then 1 else 0)) (fun x=>match x with|(fu,o,g)=>fun b_=>match b_ with|2=>some (Ann.mk ((Nat)×(Db)) (fun x=>match x with|(i,c)=>⟨[(0,I' t),(1,I' A),(8,M' 8),(9,.c (.bool (decide (aL c<aL o)))),(10,D' i)],[(8,Q' c)]⟩) (fun x=>match x with|(i,c)=>i<=t.length/\g=true/\KOk t.length A.length c/\fo t A o i=some c/\aL c<=aL o) (fun x=>match x with|(i,c)=>t.length-i) (fun x=>match x with|(i,c)=>fun b_=>match b_ with|4=>some (Ann.mk ((Nat)×(Db)) (fun x=>match x with|(j,e)=>⟨[(0,I' t),(1,I' A),(8,M' 8),(9,.c (.bool (decide (aL e<aL o)))),(10,D' i),(11,D' j)],[(8,Q' e)]⟩) (fun x=>match x with|(j,e)=>i<t.length/\j<=t.length/\KOk t.length A.length e/\d4 t A c i j=some e/\aL e<=aL c) (fun x=>match x with|(j,e)=>t.length-j) (fun _=>ak))|_=>none))|_=>none))
 |_=>none
def mj(t:Dc)(A:Dc)(x0:Nat×Db)(x1:Nat×Db):=((List.getD t (↑x0.1:Int).toNat []).getD (((List.getD A ((List.getD x1.2 (↑x0.1:Int).toNat (0:Int)).toNat) []).getD (↑x1.1:Int).toNat (0:Int)).toNat) (0:Int))
theorem Sr:Fits Tryz.prog 190 ⟨[],yW⟩:=by
 refine ffv (Γ:=af [(144,⟨[],ox⟩),(189,⟨[],nZ⟩),(232,⟨[],sU⟩)]) (aj uM (aj sM (aj KD aG))) Tryz.func190 fun ds p h ξ=>?_
 unfold yW at h;split at h<;>cases h
 rename_i t A K
 refine⟨ah,JS t A K,(ar K.length/\True)/\(∃x0:Nat×Db×Bool,(KOk t.length A.length x0.2.1/\(x0.2.2=true->aL x0.2.1<x0.1/\eU t A K=gz t A x0.1 x0.2.1)/\(x0.2.2=false->eU t A K=Option.some x0.2.1))/\t=t/\A=A/\true=x0.2.2/\K=x0.2.1)/\∀x1:Nat×Db×Bool,KOk t.length A.length x1.2.1/\(x1.2.2=true->aL x1.2.1<x1.1/\eU t A K=gz t A x1.1 x1.2.1)/\(x1.2.2=false->eU t A K=Option.some x1.2.1)->ab x1.2.2 ((∃x2:Nat×Db,(x2.1<=t.length/\x1.2.2=true/\KOk t.length A.length x2.2/\fo t A x1.2.1 x2.1=Option.some x2.2/\aL x2.2<=aL x1.2.1)/\t=t/\A=A/\false=decide (aL x2.2<aL x1.2.1)/\(0:Int)=(↑x2.1:Int)/\x1.2.1=x2.2)/\∀x3:Nat×Db,x3.1<=t.length/\x1.2.2=true/\KOk t.length A.length x3.2/\fo t A x1.2.1 x3.1=Option.some x3.2/\aL x3.2<=aL x1.2.1->ab (decide ((↑x3.1:Int)<(t.length:Int))) ((∃x4:Nat×Db,(x3.1<t.length/\x4.1<=t.length/\KOk t.length A.length x4.2/\d4 t A x3.2 x3.1 x4.1=Option.some x4.2/\aL x4.2<=aL x3.2)/\t=t/\A=A/\decide (aL x3.2<aL x1.2.1)=decide (aL x4.2<aL x1.2.1)/\(↑x3.1:Int)=(↑x3.1:Int)/\(0:Int)=(↑x4.1:Int)/\x3.2=x4.2)/\∀x5:Nat×Db,x3.1<t.length/\x5.1<=t.length/\KOk t.length A.length x5.2/\d4 t A x3.2 x3.1 x5.1=Option.some x5.2/\aL x5.2<=aL x3.2->ab (decide ((↑x5.1:Int)<(t.length:Int))) (aa (↑x3.1:Int) x5.2.length/\ab (decide (x5.2.getD (↑x3.1:Int).toNat (0:Int)<(0:Int))) (ae ((↑x5.1:Int)+(1:Int))/\∃x6:Nat×Db,(x3.1<t.length/\x6.1<=t.length/\KOk t.length A.length x6.2/\d4 t A x3.2 x3.1 x6.1=Option.some x6.2/\aL x6.2<=aL x3.2)/\t.length-x6.1<t.length-x5.1/\t=t/\A=A/\decide (aL x5.2<aL x1.2.1)=decide (aL x6.2<aL x1.2.1)/\(↑x3.1:Int)=(↑x3.1:Int)/\(↑x5.1:Int)+(1:Int)=(↑x6.1:Int)/\x5.2=x6.2) (aa (↑x5.1:Int) x5.2.length/\ab (decide (x5.2.getD (↑x5.1:Int).toNat (0:Int)<(0:Int))) (ae ((↑x5.1:Int)+(1:Int))/\∃x7:Nat×Db,(x3.1<t.length/\x7.1<=t.length/\KOk t.length A.length x7.2/\d4 t A x3.2 x3.1 x7.1=Option.some x7.2/\aL x7.2<=aL x3.2)/\t.length-x7.1<t.length-x5.1/\t=t/\A=A/\decide (aL x5.2<aL x1.2.1)=decide (aL x7.2<aL x1.2.1)/\(↑x3.1:Int)=(↑x3.1:Int)/\(↑x5.1:Int)+(1:Int)=(↑x7.1:Int)/\x5.2=x7.2) (aa (↑x3.1:Int) t.length/\aa (↑x3.1:Int) x5.2.length/\aa (x5.2.getD (↑x3.1:Int).toNat (0:Int)) A.length/\aa (↑x5.1:Int) ((A.getD ((x5.2.getD (↑x3.1:Int).toNat (0:Int)).toNat) []).length)/\aa ((List.getD A ((List.getD x5.2 (↑x3.1:Int).toNat (0:Int)).toNat) []).getD (↑x5.1:Int).toNat (0:Int)) ((t.getD (↑x3.1:Int).toNat []).length)/\aa (↑x5.1:Int) x5.2.length/\aa (x5.2.getD (↑x5.1:Int).toNat (0:Int)) A.length/\aa (↑x3.1:Int) x5.2.length/\aa (x5.2.getD (↑x3.1:Int).toNat (0:Int)) A.length/\((ar ((A.getD ((x5.2.getD (↑x5.1:Int).toNat (0:Int)).toNat) []).length)/\kw ((A.getD ((x5.2.getD (↑x3.1:Int).toNat (0:Int)).toNat) []).length) (A.getD ((x5.2.getD (↑x5.1:Int).toNat (0:Int)).toNat) []))/\True)/\(aD A/\True)/\aa (mj t A x3 x5) x5.2.length/\ab (decide (x5.2.getD (((List.getD t (↑x3.1:Int).toNat []).getD (((List.getD A ((List.getD x5.2 (↑x3.1:Int).toNat (0:Int)).toNat) []).getD (↑x5.1:Int).toNat (0:Int)).toNat) (0:Int)).toNat) (0:Int)<(0:Int))) (aa (mj t A x3 x5) x5.2.length/\aa (mj t A x3 x5) ((List.set x5.2 (mj t A x3 x5).toNat (fW A (bA (A.getD ((x5.2.getD (↑x5.1:Int).toNat (0:Int)).toNat) []) (A.getD ((x5.2.getD (↑x3.1:Int).toNat (0:Int)).toNat) [])))).length)/\ab ((List.set x5.2 ((List.getD (List.getD t (↑x3.1:Int).toNat []) ((List.getD (List.getD A ((List.getD x5.2 (↑x3.1:Int).toNat (0:Int)).toNat) []) (↑x5.1:Int).toNat (0:Int)).toNat) (0:Int)).toNat) (fW A (bA (List.getD A ((List.getD x5.2 (↑x5.1:Int).toNat (0:Int)).toNat) []) (List.getD A ((List.getD x5.2 (↑x3.1:Int).toNat (0:Int)).toNat) [])))).getD (((List.getD t (↑x3.1:Int).toNat []).getD (((List.getD A ((List.getD x5.2 (↑x3.1:Int).toNat (0:Int)).toNat) []).getD (↑x5.1:Int).toNat (0:Int)).toNat) (0:Int)).toNat) (0:Int) != fW A (bA (A.getD ((x5.2.getD (↑x5.1:Int).toNat (0:Int)).toNat) []) (A.getD ((x5.2.getD (↑x3.1:Int).toNat (0:Int)).toNat) []))) (([]=(d8 t A K).1/\false=(d8 t A K).2/\True)/\True) (ae ((↑x5.1:Int)+(1:Int))/\∃x8:Nat×Db,(x3.1<t.length/\x8.1<=t.length/\KOk t.length A.length x8.2/\d4 t A x3.2 x3.1 x8.1=Option.some x8.2/\aL x8.2<=aL x3.2)/\t.length-x8.1<t.length-x5.1/\t=t/\A=A/\true=decide (aL x8.2<aL x1.2.1)/\(↑x3.1:Int)=(↑x3.1:Int)/\(↑x5.1:Int)+(1:Int)=(↑x8.1:Int)/\List.set x5.2 (mj t A x3 x5).toNat (fW A (bA (A.getD ((x5.2.getD (↑x5.1:Int).toNat (0:Int)).toNat) []) (A.getD ((x5.2.getD (↑x3.1:Int).toNat (0:Int)).toNat) [])))=x8.2)) (aa (mj t A x3 x5) x5.2.length/\ab (x5.2.getD (((List.getD t (↑x3.1:Int).toNat []).getD (((List.getD A ((List.getD x5.2 (↑x3.1:Int).toNat (0:Int)).toNat) []).getD (↑x5.1:Int).toNat (0:Int)).toNat) (0:Int)).toNat) (0:Int) != fW A (bA (A.getD ((x5.2.getD (↑x5.1:Int).toNat (0:Int)).toNat) []) (A.getD ((x5.2.getD (↑x3.1:Int).toNat (0:Int)).toNat) []))) (([]=(d8 t A K).1/\false=(d8 t A K).2/\True)/\True) (ae ((↑x5.1:Int)+(1:Int))/\∃x9:Nat×Db,(x3.1<t.length/\x9.1<=t.length/\KOk t.length A.length x9.2/\d4 t A x3.2 x3.1 x9.1=Option.some x9.2/\aL x9.2<=aL x3.2)/\t.length-x9.1<t.length-x5.1/\t=t/\A=A/\decide (aL x5.2<aL x1.2.1)=decide (aL x9.2<aL x1.2.1)/\(↑x3.1:Int)=(↑x3.1:Int)/\(↑x5.1:Int)+(1:Int)=(↑x9.1:Int)/\x5.2=x9.2))))) (ae ((↑x3.1:Int)+(1:Int))/\∃x10:Nat×Db,(x10.1<=t.length/\x1.2.2=true/\KOk t.length A.length x10.2/\fo t A x1.2.1 x10.1=Option.some x10.2/\aL x10.2<=aL x1.2.1)/\t.length-x10.1<t.length-x3.1/\t=t/\A=A/\decide (aL x5.2<aL x1.2.1)=decide (aL x10.2<aL x1.2.1)/\(↑x3.1:Int)+(1:Int)=(↑x10.1:Int)/\x5.2=x10.2)) (∃x11:Nat×Db×Bool,(KOk t.length A.length x11.2.1/\(x11.2.2=true->aL x11.2.1<x11.1/\eU t A K=gz t A x11.1 x11.2.1)/\(x11.2.2=false->eU t A K=Option.some x11.2.1))/\(((2:Nat)*x11.1+if x11.2.2=true then(1:Nat)else(0:Nat))<(2:Nat)*x1.1+if x1.2.2=true then(1:Nat)else(0:Nat))/\t=t/\A=A/\decide (aL x3.2<aL x1.2.1)=x11.2.2/\x3.2=x11.2.1)) ((x1.2.1=(d8 t A K).1/\true=(d8 t A K).2/\True)/\True),by kernel_rfl,?_⟩
 simp only[mj,aH]at ξ⊢;obtain⟨h1,h2,h3,h4,h5⟩:=ξ;have kl:=h5.len
 have ng:=S3 K
 refine⟨by omega,⟨⟨t.length+1,K,true⟩,⟨h5,fun _=>⟨by dsimp only;omega,rfl⟩,fun h=>by cases h⟩,rfl,rfl⟩,fun⟨fu,o,g⟩ ⟨o1,o2,o3⟩=>?_⟩
 dsimp only at o1 o2 o3⊢;refine⟨fun hg=>?_,fun hg=>?_⟩
 ·subst hg
  obtain⟨o2,o4⟩:=o2 rfl;obtain⟨fu,rfl⟩:∃m,fu=m+1:=⟨fu-1,by omega⟩
  refine⟨⟨⟨0,o⟩,⟨Ad _,rfl,o1,rfl,AE _⟩,(AZ (Nat.lt_irrefl _)).symm,rfl,rfl⟩,fun⟨i,c⟩ ⟨c1,_,c2,c3,c4⟩=>?_⟩
  dsimp only at c1 c2 c3 c4⊢;refine⟨fun hi=>⟨⟨⟨0,c⟩,⟨by omega,Ad _,c2,rfl,AE _⟩,rfl,rfl,rfl⟩,fun⟨j,e⟩ ⟨_,e1,e2,e3,e4⟩=>?_⟩,fun hi=>?_⟩
  ·dsimp only at e1 e2 e3 e4⊢
   refine⟨fun hj=>?_,fun hj=>?_⟩
   ·have el:=e2.len
    have ri:=e2.rng i (by omega)
    have rj:=e2.rng j (by omega)
    have same:iA t A e i j=some e->d4 t A c i (j+1)=some e:=fun h=>by rw[d4,e3];exact h
    refine⟨by omega,fun q=>⟨by omega,⟨j+1,e⟩,⟨by omega,by dsimp only;omega,e2,same (by unfold iA;rw[if_pos (.inl q)]),e4⟩,by dsimp only;omega,rfl,by dsimp only;omega,rfl⟩,fun q=>⟨by omega,fun q2=>⟨by omega,⟨j+1,e⟩,⟨by omega,by dsimp only;omega,e2,same (by unfold iA;rw[if_pos (.inr q2)]),e4⟩,by dsimp only;omega,rfl,by dsimp only;omega,rfl⟩,fun q2=>?_⟩⟩
    have W:=Ki h3 e2 (x:=i) (y:=j) (by omega) (by omega) (by omega) (by omega)
    have Z:=Kj h2 h3 e2 (x:=i) (y:=j) (by omega) (by omega) (by omega)
    have Lt:(t.getD i []).length=t.length:=(h2.2 i (by omega)).1
    have La:=h3.len (e.getD i 0).toNat (by omega)
    have Lb:=h3.len (e.getD j 0).toNat (by omega)
    have hw:fW A (bA (A.getD (e.getD j 0).toNat []) (A.getD (e.getD i 0).toNat []))=gy A e i j:=by rw[fW,AA W.1];rfl
    have hz:((t.getD i []).getD ((A.getD (e.getD i 0).toNat []).getD j 0).toNat 0).toNat=fL t A e i j:=rfl
    have hq:kw (A.getD (e.getD i 0).toNat []).length (A.getD (e.getD j 0).toNat []):=fun x hx=>by
     have:=h3.rng (e.getD j 0).toNat x (by omega) (by omega)
     rw[La];exact this
    have hA:aD A:=⟨by omega,fun r hr=>by
     obtain⟨x,hx,rfl⟩:=Ay hr;have:=h3.len x hx
     rw[cg A [] x hx]at this;omega⟩
    have Z1:0<=(A.getD (e.getD i 0).toNat []).getD j 0/\(A.getD (e.getD i 0).toNat []).getD j 0<(t.length:Int):=Z.1
    have Z2:0<=(t.getD i []).getD ((A.getD (e.getD i 0).toNat []).getD j 0).toNat 0/\(t.getD i []).getD ((A.getD (e.getD i 0).toNat []).getD j 0).toNat 0<(t.length:Int):=Z.2.1
    rw[hw,hz];have SS:iA t A e i j=if e.getD (fL t A e i j) 0<0 then some (e.set (fL t A e i j) (gy A e i j))else if e.getD (fL t A e i j) 0=gy A e i j then some e else none:=by
     conv=>lhs;unfold iA
     rw[AB (by omega)]
    have gs:e.getD (fL t A e i j) 0<0->(e.set (fL t A e i j) (gy A e i j)).getD (fL t A e i j) 0=gy A e i j:=fun _=>by
     rw[kq _ _ _ _ (by rw[el];exact Z.2.2),AA rfl]
    refine⟨by omega,by omega,by omega,by omega,by omega,by omega,by omega,by omega,by omega,⟨by omega,hq⟩,hA,by omega,fun z=>⟨by omega,by omega,fun y=>absurd (gs z) y,fun y=>?_⟩,fun z=>⟨by omega,fun y=>?_,fun y=>?_⟩⟩
    ·have N:=sN (K:=e) (z:=fL t A e i j) (w:=gy A e i j) (by rw[el];exact Z.2.2) z W.2.1
     refine⟨by omega,⟨j+1,e.set (fL t A e i j) (gy A e i j)⟩,⟨by omega,by dsimp only;omega,e2.set _ ⟨by omega,W.2.2⟩,?_,by dsimp only;omega⟩,by dsimp only;omega,?_,by dsimp only;omega,rfl⟩
     ·dsimp only;rw[d4,e3];show iA t A e i j=_;rw[SS,if_pos z]
     ·exact(decide_eq_true (by dsimp only;omega)).symm
    ·rw[So o4 c3 e3 (by omega) (by omega) (by rw[SS,AB z,AB y])];exact⟨rfl,rfl⟩
    ·refine⟨by omega,⟨j+1,e⟩,⟨by omega,by dsimp only;omega,e2,same (by rw[SS,if_neg z,if_pos y]),e4⟩,by dsimp only;omega,rfl,by dsimp only;omega,rfl⟩
   ·refine⟨by omega,⟨i+1,e⟩,⟨by dsimp only;omega,rfl,e2,?_,by dsimp only;omega⟩,by dsimp only;omega,rfl,by dsimp only;omega,rfl⟩
    dsimp only;rw[fo,c3]
    show d4 t A c i t.length=_
    rw[show t.length=j by omega];exact e3
  ·have ei:i=t.length:=by omega
   rw[ei]at c3;by_cases q:aL c<aL o
   ·refine⟨⟨fu,c,true⟩,⟨c2,fun _=>⟨by dsimp only;omega,?_⟩,fun h=>by cases h⟩,?_,decide_eq_true q,rfl⟩
    ·dsimp only;rw[o4,gz,c3];simp only;rw[if_pos q]
    ·dsimp only;first|omega|(simp;done)|(simp;omega)
   ·refine⟨⟨fu,c,false⟩,⟨c2,fun h=>(by cases h),fun _=>?_⟩,?_,AZ q,rfl⟩
    ·dsimp only;rw[o4,gz,c3];simp only;rw[if_neg q]
    ·dsimp only;first|omega|(simp;done)|(simp;omega)
 ·rw[d8,o3 hg];exact⟨rfl,rfl⟩
end Go.Sx
