/- CirC -/
import Derived.Test.YtkmldclpaniclaaGreatEqt
set_option linter.unusedSimpArgs false
set_option linter.unusedVariables false
set_option linter.defProp false
open Go Go.Proofs
namespace Go.Sx
def dI(t A:D7)(K:D6):D6×Bool :=
 match dr t A K with
 |none=>([],false)
 |some o=>(o,true)
def MT{t A:D7}{o:D6}{x y:Nat}(h:dT t A o x y=none):∀k,dT t A o x (y+k)=none
 |0=>h
 |k+1=>by rw[<-BU,dT,MT h k];rfl
def MU{t A:D7}{o:D6}{x:Nat}(h:eS t A o x=none):∀k,eS t A o (x+k)=none
 |0=>h
 |k+1=>by rw[<-BU,eS,MU h k];rfl
def WV{t A:D7}{K o c e:D6}{fu i j:Nat}(hr:dr t A K=fw t A (fu+1) o)(hx:eS t A o i=some c)(hy:dT t A c i j=some e)(hi:i<t.length)(hj:j<t.length)(h:fY t A e i j=none):dI t A K=([],false):=by
 have h1:dT t A c i (j+1)=none:=by rw[dT,hy];exact h
 have h2:=MT h1 (t.length-(j+1))
 rw[show j+1+(t.length-(j+1))=t.length by omega]at h2
 have h3:eS t A o (i+1)=none:=by rw[eS,hx];exact h2
 have h4:=MU h3 (t.length-(i+1))
 rw[show i+1+(t.length-(i+1))=t.length by omega]at h4
 rw[dI,hr,fw,h4]
def uk:List AD->Option Post
 | [.c (.rows .i64 t),.c (.rows .i64 A),.c (.ints .i64 K)]=>some ⟨t.length<=12/\am t.length t/\AuOk t.length A/\A.length<=1000000/\KOk t.length A.length K,.tup [.inl (.ints 2 .i64 (dI t A K).1),.inl (.bool (dI t A K).2)],[]⟩
 |_=>none
def MV(t:D7)(A:D7)(K:D6):Nat->Option Ann
 |0=>some (Ann.mk ((Nat)×(D6)×(Bool)) (λx=>match x with|(fu,o,g)=>⟨[(0,G' t),(1,G' A),(8,J' 8),(9,.c (.bool g))],[(8,O' o)]⟩) (λx=>match x with|(fu,o,g)=>KOk t.length A.length o/\(g=true->aB o<fu/\dr t A K=fw t A fu o)/\(g=false->dr t A K=some o)) (λx=>match x with|(fu,o,g)=>2*fu+(if g=true then 1 else 0)) (λx=>match x with|(fu,o,g)=>λb_=>match b_ with|2=>some (Ann.mk ((Nat)×(D6)) (λx=>match x with|(i,c)=>⟨[(0,G' t),(1,G' A),(8,J' 8),(9,.c (.bool (decide (aB c<aB o)))),(10,A' i)],[(8,O' c)]⟩) (λx=>match x with|(i,c)=>i<=t.length/\g=true/\KOk t.length A.length c/\eS t A o i=some c/\aB c<=aB o) (λx=>match x with|(i,c)=>t.length-i) (λx=>match x with|(i,c)=>λb_=>match b_ with|4=>some (Ann.mk ((Nat)×(D6)) (λx=>match x with|(j,e)=>⟨[(0,G' t),(1,G' A),(8,J' 8),(9,.c (.bool (decide (aB e<aB o)))),(10,A' i),(11,A' j)],[(8,O' e)]⟩) (λx=>match x with|(j,e)=>i<t.length/\j<=t.length/\KOk t.length A.length e/\dT t A c i j=some e/\aB e<=aB c) (λx=>match x with|(j,e)=>t.length-j) (λ_=>ar))|_=>none))|_=>none))
 |_=>none
def mQ(t:D7)(A:D7)(x0:Nat×D6)(x1:Nat×D6):=((List.getD t (↑x0.1:Int).toNat []).getD (((List.getD A ((List.getD x1.2 (↑x0.1:Int).toNat (0:Int)).toNat) []).getD (↑x1.1:Int).toNat (0:Int)).toNat) (0:Int))
def MZ:Fits Tryz.prog 190 ⟨[],uk⟩:=by
 refine ffv (Γ:=ah [(144,⟨[],nq⟩),(189,⟨[],qC⟩),(232,⟨[],FP⟩)]) (aq rt (aq FM (aq Yj aN))) Tryz.func190 λds p h ξ=>?_
 unfold uk at h;split at h<;>cases h
 rename_i t A K
 refine⟨aj,MV t A K,(au K.length/\True)/\(∃x0:Nat×D6×Bool,(KOk t.length A.length x0.2.1/\(x0.2.2=true->aB x0.2.1<x0.1/\dr t A K=fw t A x0.1 x0.2.1)/\(x0.2.2=false->dr t A K=Option.some x0.2.1))/\t=t/\A=A/\true=x0.2.2/\K=x0.2.1)/\∀x1:Nat×D6×Bool,KOk t.length A.length x1.2.1/\(x1.2.2=true->aB x1.2.1<x1.1/\dr t A K=fw t A x1.1 x1.2.1)/\(x1.2.2=false->dr t A K=Option.some x1.2.1)->ab x1.2.2 ((∃x2:Nat×D6,(x2.1<=t.length/\x1.2.2=true/\KOk t.length A.length x2.2/\eS t A x1.2.1 x2.1=Option.some x2.2/\aB x2.2<=aB x1.2.1)/\t=t/\A=A/\false=decide (aB x2.2<aB x1.2.1)/\(0:Int)=(↑x2.1:Int)/\x1.2.1=x2.2)/\∀x3:Nat×D6,x3.1<=t.length/\x1.2.2=true/\KOk t.length A.length x3.2/\eS t A x1.2.1 x3.1=Option.some x3.2/\aB x3.2<=aB x1.2.1->ab (decide ((↑x3.1:Int)<(t.length:Int))) ((∃x4:Nat×D6,(x3.1<t.length/\x4.1<=t.length/\KOk t.length A.length x4.2/\dT t A x3.2 x3.1 x4.1=Option.some x4.2/\aB x4.2<=aB x3.2)/\t=t/\A=A/\decide (aB x3.2<aB x1.2.1)=decide (aB x4.2<aB x1.2.1)/\(↑x3.1:Int)=(↑x3.1:Int)/\(0:Int)=(↑x4.1:Int)/\x3.2=x4.2)/\∀x5:Nat×D6,x3.1<t.length/\x5.1<=t.length/\KOk t.length A.length x5.2/\dT t A x3.2 x3.1 x5.1=Option.some x5.2/\aB x5.2<=aB x3.2->ab (decide ((↑x5.1:Int)<(t.length:Int))) (ac (↑x3.1:Int) x5.2.length/\ab (decide (x5.2.getD (↑x3.1:Int).toNat (0:Int)<(0:Int))) (ae ((↑x5.1:Int)+(1:Int))/\∃x6:Nat×D6,(x3.1<t.length/\x6.1<=t.length/\KOk t.length A.length x6.2/\dT t A x3.2 x3.1 x6.1=Option.some x6.2/\aB x6.2<=aB x3.2)/\t.length-x6.1<t.length-x5.1/\t=t/\A=A/\decide (aB x5.2<aB x1.2.1)=decide (aB x6.2<aB x1.2.1)/\(↑x3.1:Int)=(↑x3.1:Int)/\(↑x5.1:Int)+(1:Int)=(↑x6.1:Int)/\x5.2=x6.2) (ac (↑x5.1:Int) x5.2.length/\ab (decide (x5.2.getD (↑x5.1:Int).toNat (0:Int)<(0:Int))) (ae ((↑x5.1:Int)+(1:Int))/\∃x7:Nat×D6,(x3.1<t.length/\x7.1<=t.length/\KOk t.length A.length x7.2/\dT t A x3.2 x3.1 x7.1=Option.some x7.2/\aB x7.2<=aB x3.2)/\t.length-x7.1<t.length-x5.1/\t=t/\A=A/\decide (aB x5.2<aB x1.2.1)=decide (aB x7.2<aB x1.2.1)/\(↑x3.1:Int)=(↑x3.1:Int)/\(↑x5.1:Int)+(1:Int)=(↑x7.1:Int)/\x5.2=x7.2) (ac (↑x3.1:Int) t.length/\ac (↑x3.1:Int) x5.2.length/\ac (x5.2.getD (↑x3.1:Int).toNat (0:Int)) A.length/\ac (↑x5.1:Int) ((A.getD ((x5.2.getD (↑x3.1:Int).toNat (0:Int)).toNat) []).length)/\ac ((List.getD A ((List.getD x5.2 (↑x3.1:Int).toNat (0:Int)).toNat) []).getD (↑x5.1:Int).toNat (0:Int)) ((t.getD (↑x3.1:Int).toNat []).length)/\ac (↑x5.1:Int) x5.2.length/\ac (x5.2.getD (↑x5.1:Int).toNat (0:Int)) A.length/\ac (↑x3.1:Int) x5.2.length/\ac (x5.2.getD (↑x3.1:Int).toNat (0:Int)) A.length/\((au ((A.getD ((x5.2.getD (↑x5.1:Int).toNat (0:Int)).toNat) []).length)/\gN ((A.getD ((x5.2.getD (↑x3.1:Int).toNat (0:Int)).toNat) []).length) (A.getD ((x5.2.getD (↑x5.1:Int).toNat (0:Int)).toNat) []))/\True)/\(aJ A/\True)/\ac (mQ t A x3 x5) x5.2.length/\ab (decide (x5.2.getD (((List.getD t (↑x3.1:Int).toNat []).getD (((List.getD A ((List.getD x5.2 (↑x3.1:Int).toNat (0:Int)).toNat) []).getD (↑x5.1:Int).toNat (0:Int)).toNat) (0:Int)).toNat) (0:Int)<(0:Int))) (ac (mQ t A x3 x5) x5.2.length/\ac (mQ t A x3 x5) ((List.set x5.2 (mQ t A x3 x5).toNat (iL A (aR (A.getD ((x5.2.getD (↑x5.1:Int).toNat (0:Int)).toNat) []) (A.getD ((x5.2.getD (↑x3.1:Int).toNat (0:Int)).toNat) [])))).length)/\ab ((List.set x5.2 ((List.getD (List.getD t (↑x3.1:Int).toNat []) ((List.getD (List.getD A ((List.getD x5.2 (↑x3.1:Int).toNat (0:Int)).toNat) []) (↑x5.1:Int).toNat (0:Int)).toNat) (0:Int)).toNat) (iL A (aR (List.getD A ((List.getD x5.2 (↑x5.1:Int).toNat (0:Int)).toNat) []) (List.getD A ((List.getD x5.2 (↑x3.1:Int).toNat (0:Int)).toNat) [])))).getD (((List.getD t (↑x3.1:Int).toNat []).getD (((List.getD A ((List.getD x5.2 (↑x3.1:Int).toNat (0:Int)).toNat) []).getD (↑x5.1:Int).toNat (0:Int)).toNat) (0:Int)).toNat) (0:Int) != iL A (aR (A.getD ((x5.2.getD (↑x5.1:Int).toNat (0:Int)).toNat) []) (A.getD ((x5.2.getD (↑x3.1:Int).toNat (0:Int)).toNat) []))) (([]=(dI t A K).1/\false=(dI t A K).2/\True)/\True) (ae ((↑x5.1:Int)+(1:Int))/\∃x8:Nat×D6,(x3.1<t.length/\x8.1<=t.length/\KOk t.length A.length x8.2/\dT t A x3.2 x3.1 x8.1=Option.some x8.2/\aB x8.2<=aB x3.2)/\t.length-x8.1<t.length-x5.1/\t=t/\A=A/\true=decide (aB x8.2<aB x1.2.1)/\(↑x3.1:Int)=(↑x3.1:Int)/\(↑x5.1:Int)+(1:Int)=(↑x8.1:Int)/\List.set x5.2 (mQ t A x3 x5).toNat (iL A (aR (A.getD ((x5.2.getD (↑x5.1:Int).toNat (0:Int)).toNat) []) (A.getD ((x5.2.getD (↑x3.1:Int).toNat (0:Int)).toNat) [])))=x8.2)) (ac (mQ t A x3 x5) x5.2.length/\ab (x5.2.getD (((List.getD t (↑x3.1:Int).toNat []).getD (((List.getD A ((List.getD x5.2 (↑x3.1:Int).toNat (0:Int)).toNat) []).getD (↑x5.1:Int).toNat (0:Int)).toNat) (0:Int)).toNat) (0:Int) != iL A (aR (A.getD ((x5.2.getD (↑x5.1:Int).toNat (0:Int)).toNat) []) (A.getD ((x5.2.getD (↑x3.1:Int).toNat (0:Int)).toNat) []))) (([]=(dI t A K).1/\false=(dI t A K).2/\True)/\True) (ae ((↑x5.1:Int)+(1:Int))/\∃x9:Nat×D6,(x3.1<t.length/\x9.1<=t.length/\KOk t.length A.length x9.2/\dT t A x3.2 x3.1 x9.1=Option.some x9.2/\aB x9.2<=aB x3.2)/\t.length-x9.1<t.length-x5.1/\t=t/\A=A/\decide (aB x5.2<aB x1.2.1)=decide (aB x9.2<aB x1.2.1)/\(↑x3.1:Int)=(↑x3.1:Int)/\(↑x5.1:Int)+(1:Int)=(↑x9.1:Int)/\x5.2=x9.2))))) (ae ((↑x3.1:Int)+(1:Int))/\∃x10:Nat×D6,(x10.1<=t.length/\x1.2.2=true/\KOk t.length A.length x10.2/\eS t A x1.2.1 x10.1=Option.some x10.2/\aB x10.2<=aB x1.2.1)/\t.length-x10.1<t.length-x3.1/\t=t/\A=A/\decide (aB x5.2<aB x1.2.1)=decide (aB x10.2<aB x1.2.1)/\(↑x3.1:Int)+(1:Int)=(↑x10.1:Int)/\x5.2=x10.2)) (∃x11:Nat×D6×Bool,(KOk t.length A.length x11.2.1/\(x11.2.2=true->aB x11.2.1<x11.1/\dr t A K=fw t A x11.1 x11.2.1)/\(x11.2.2=false->dr t A K=Option.some x11.2.1))/\(((2:Nat)*x11.1+if x11.2.2=true then(1:Nat)else(0:Nat))<(2:Nat)*x1.1+if x1.2.2=true then(1:Nat)else(0:Nat))/\t=t/\A=A/\decide (aB x3.2<aB x1.2.1)=x11.2.2/\x3.2=x11.2.1)) ((x1.2.1=(dI t A K).1/\true=(dI t A K).2/\True)/\True),by kernel_rfl,?_⟩
 simp only[mQ,aO]at ξ⊢;obtain⟨h1,h2,h3,h4,h5⟩:=ξ;have kl:=h5.len
 have ng:=FN K
 refine⟨by omega,⟨⟨t.length+1,K,true⟩,⟨h5,λ_=>⟨by dsimp only;omega,rfl⟩,λh=>by cases h⟩,rfl,rfl⟩,λ⟨fu,o,g⟩ ⟨o1,o2,o3⟩=>?_⟩
 dsimp only at o1 o2 o3⊢;refine⟨λhg=>?_,λhg=>?_⟩
 ·subst hg
  obtain⟨o2,o4⟩:=o2 rfl;obtain⟨fu,rfl⟩:∃m,fu=m+1:=⟨fu-1,by omega⟩
  refine⟨⟨⟨0,o⟩,⟨AT _,rfl,o1,rfl,AE _⟩,(Ad (Nat.lt_irrefl _)).symm,rfl,rfl⟩,λ⟨i,c⟩ ⟨c1,_,c2,c3,c4⟩=>?_⟩
  dsimp only at c1 c2 c3 c4⊢;refine⟨λhi=>⟨⟨⟨0,c⟩,⟨by omega,AT _,c2,rfl,AE _⟩,rfl,rfl,rfl⟩,λ⟨j,e⟩ ⟨_,e1,e2,e3,e4⟩=>?_⟩,λhi=>?_⟩
  ·dsimp only at e1 e2 e3 e4⊢
   refine⟨λhj=>?_,λhj=>?_⟩
   ·have el:=e2.len
    have ri:=e2.rng i (by omega)
    have rj:=e2.rng j (by omega)
    have same:fY t A e i j=some e->dT t A c i (j+1)=some e:=λh=>by rw[dT,e3];exact h
    refine⟨by omega,λq=>⟨by omega,⟨j+1,e⟩,⟨by omega,by dsimp only;omega,e2,same (by unfold fY;rw[if_pos (.inl q)]),e4⟩,by dsimp only;omega,rfl,by dsimp only;omega,rfl⟩,λq=>⟨by omega,λq2=>⟨by omega,⟨j+1,e⟩,⟨by omega,by dsimp only;omega,e2,same (by unfold fY;rw[if_pos (.inr q2)]),e4⟩,by dsimp only;omega,rfl,by dsimp only;omega,rfl⟩,λq2=>?_⟩⟩
    have W:=oT h3 e2 (x:=i) (y:=j) (by omega) (by omega) (by omega) (by omega)
    have Z:=mW h2 h3 e2 (x:=i) (y:=j) (by omega) (by omega) (by omega)
    have Lt:(t.getD i []).length=t.length:=(h2.2 i (by omega)).1
    have La:=h3.len (e.getD i 0).toNat (by omega)
    have Lb:=h3.len (e.getD j 0).toNat (by omega)
    have hw:iL A (aR (A.getD (e.getD j 0).toNat []) (A.getD (e.getD i 0).toNat []))=d6 A e i j:=by rw[iL,AA W.1];rfl
    have hz:((t.getD i []).getD ((A.getD (e.getD i 0).toNat []).getD j 0).toNat 0).toNat=bW t A e i j:=rfl
    have hq:gN (A.getD (e.getD i 0).toNat []).length (A.getD (e.getD j 0).toNat []):=λx hx=>by
     have:=h3.rng (e.getD j 0).toNat x (by omega) (by omega)
     rw[La];exact this
    have hA:aJ A:=⟨by omega,λr hr=>by
     obtain⟨x,hx,rfl⟩:=A7 hr;have:=h3.len x hx
     rw[bM A [] x hx]at this;omega⟩
    have Z1:0<=(A.getD (e.getD i 0).toNat []).getD j 0/\(A.getD (e.getD i 0).toNat []).getD j 0<(t.length:Int):=Z.1
    have Z2:0<=(t.getD i []).getD ((A.getD (e.getD i 0).toNat []).getD j 0).toNat 0/\(t.getD i []).getD ((A.getD (e.getD i 0).toNat []).getD j 0).toNat 0<(t.length:Int):=Z.2.1
    rw[hw,hz];have SS:fY t A e i j=if e.getD (bW t A e i j) 0<0 then some (e.set (bW t A e i j) (d6 A e i j))else if e.getD (bW t A e i j) 0=d6 A e i j then some e else none:=by
     conv=>lhs;unfold fY
     rw[AB (by omega)]
    have gs:e.getD (bW t A e i j) 0<0->(e.set (bW t A e i j) (d6 A e i j)).getD (bW t A e i j) 0=d6 A e i j:=λ_=>by
     rw[jb _ _ _ _ (by rw[el];exact Z.2.2),AA rfl]
    refine⟨by omega,by omega,by omega,by omega,by omega,by omega,by omega,by omega,by omega,⟨by omega,hq⟩,hA,by omega,λz=>⟨by omega,by omega,λy=>absurd (gs z) y,λy=>?_⟩,λz=>⟨by omega,λy=>?_,λy=>?_⟩⟩
    ·have N:=qD (K:=e) (z:=bW t A e i j) (w:=d6 A e i j) (by rw[el];exact Z.2.2) z W.2.1
     refine⟨by omega,⟨j+1,e.set (bW t A e i j) (d6 A e i j)⟩,⟨by omega,by dsimp only;omega,e2.set _ ⟨by omega,W.2.2⟩,?_,by dsimp only;omega⟩,by dsimp only;omega,?_,by dsimp only;omega,rfl⟩
     ·dsimp only;rw[dT,e3];show fY t A e i j=_;rw[SS,if_pos z]
     ·exact(decide_eq_true (by dsimp only;omega)).symm
    ·rw[WV o4 c3 e3 (by omega) (by omega) (by rw[SS,AB z,AB y])];exact⟨rfl,rfl⟩
    ·refine⟨by omega,⟨j+1,e⟩,⟨by omega,by dsimp only;omega,e2,same (by rw[SS,if_neg z,if_pos y]),e4⟩,by dsimp only;omega,rfl,by dsimp only;omega,rfl⟩
   ·refine⟨by omega,⟨i+1,e⟩,⟨by dsimp only;omega,rfl,e2,?_,by dsimp only;omega⟩,by dsimp only;omega,rfl,by dsimp only;omega,rfl⟩
    dsimp only;rw[eS,c3]
    show dT t A c i t.length=_
    rw[show t.length=j by omega];exact e3
  ·have ei:i=t.length:=by omega
   rw[ei]at c3;by_cases q:aB c<aB o
   ·refine⟨⟨fu,c,true⟩,⟨c2,λ_=>⟨by dsimp only;omega,?_⟩,λh=>by cases h⟩,?_,decide_eq_true q,rfl⟩
    ·dsimp only;rw[o4,fw,c3];simp only;rw[if_pos q]
    ·dsimp only;first|omega|(simp;done)|(simp;omega)
   ·refine⟨⟨fu,c,false⟩,⟨c2,λh=>(by cases h),λ_=>?_⟩,?_,Ad q,rfl⟩
    ·dsimp only;rw[o4,fw,c3];simp only;rw[if_neg q]
    ·dsimp only;first|omega|(simp;done)|(simp;omega)
 ·rw[dI,o3 hg];exact⟨rfl,rfl⟩
def M0{t A:D7}{K:D6}(h:(dI t A K).2=true):dr t A K=some (dI t A K).1:=by
 unfold dI at h⊢;cases e:dr t A K with
 |none=>rw[e]at h;cases h
 |some x=>rfl
def M1{t A:D7}{K:D6}(h:(dI t A K).2=false):dr t A K=none:=by
 unfold dI at h;cases e:dr t A K with
 |none=>rfl
 |some x=>rw[e]at h;cases h
def M2{t A:D7}{rec:D6->D8->D8}{K K':D6}{i:Nat}{o:D8}(h:dr t A (K.set (av K) (i:Int))=some K'):bZ t A rec K i o=rec K' o:=by unfold bZ;rw[h]
def M3{t A:D7}{rec:D6->D8->D8}{K:D6}{i:Nat}{o:D8}(h:dr t A (K.set (av K) (i:Int))=none):bZ t A rec K i o=o:=by unfold bZ;rw[h]
def ul{n:Nat}{t A:D7}(ht:am n t)(hA:AuOk n A){K:D6}(hK:KOk n A.length K)(hp:av K=K.length):am n (bf t A K):=by
 refine⟨by simp[bf,ht.1],λx hx=>?_⟩
 have hk:=oU K hp x (by rw[hK.len];exact hx)
 have hr:=hK.rng x hx
 have row:(bf t A K).getD x []=aR (A.getD (K.getD x 0).toNat []) (t.getD x []):=by
  rw[bf];simp[AM,ht.1,hx]
 have L:=hA.len (K.getD x 0).toNat (by omega)
 refine⟨by rw[row,aR,AW,L],λy hy=>?_⟩
 have r:=hA.rng (K.getD x 0).toNat y (by omega) hy
 have v:=(ht.2 x hx).2 (en A (K.getD x 0).toNat y).toNat (by omega)
 have:en (bf t A K) x y=en t x (en A (K.getD x 0).toNat y).toNat:=by
  unfold en at *;rw[row,aR,lJ _ _ 0 0 _ (by omega)]
 rw[this];exact v
def mR{n:Nat}{t:D7}(h:am n t)(hn:n<=12):aJ t:=⟨by rw[h.1];omega,λr hr=>by
 obtain⟨x,hx,rfl⟩:=A7 hr;have:=(h.2 x (by rw[h.1]at hx;exact hx)).1
 rw[bM t [] x hx]at this;omega⟩
def oG(d:Nat)(t:D7)(A:D7)(K:D6)(out:D8):Post:=⟨aB K<d/\t.length<=12/\am t.length t/\AuOk t.length A/\A.length<=100/\KOk t.length A.length K/\(∀c,c∈out->am t.length c)/\out.length+100 ^ aB K<=1099511627775,.c (.ro (.r3 .i64 ((bH t A d K out)))),[]⟩
def qr(d:Nat):List AD->Option Post
 | [.c (.rows .i64 t),.c (.rows .i64 A),.c (.ints .i64 K),.c (.r3 .i64 out)]=>some (oG d t A K out)
 |_=>none
def M4(d:Nat)(t:D7)(A:D7)(K:D6)(out:D8):Nat->Option Ann
 |0=>Q' λx=>⟨⟨[(0,G' t),(1,G' A),(2,D' K),(3,I' out),(9,A' x)],[]⟩,(x<=K.length/\(∀j,j<x->0<=K.getD j 0)),K.length-x⟩
 |1004=>some (Ann.mk ((Unit)) (λu=>⟨[(0,G' t),(1,G' A),(2,D' K),(3,I' out),(9,A' (av K:Int))],[]⟩) (λu=>True) (λu=>0) (λu=>λb_=>match b_ with|2=>Q' λy=>⟨⟨[(0,G' t),(1,G' A),(2,D' K),(3,I' out),(9,A' (av K:Int)),(10,J' 10),(11,A' y)],[(10,N' (((List.range y).map λy=>aR (A.getD (K.getD y 0).toNat []) (t.getD y []))))]⟩,y<=t.length/\av K=K.length,t.length-y⟩|4=>Q' λj=>⟨⟨[(0,G' t),(1,G' A),(2,D' K),(3,I' out),(9,A' (av K:Int)),(10,G' (bf t A K)),(12,A' j)],[]⟩,(j<=out.length/\av K=K.length/\(∀j1,j1<j->bO (out.getD j1 []) (bf t A K)=true)),out.length-j⟩|1013=>some (Ann.mk ((Unit)) (λu=>⟨[(3,I' out),(10,G' (bf t A K)),(12,A' (ca (bf t A K) out:Int))],[]⟩) (λu=>av K=K.length) (λu=>0) (λ_=>ar))|6=>Q' λi=>⟨⟨[(0,G' t),(1,G' A),(2,D' K),(3,I' (cA (bZ t A (bH t A (d-1)) K) out i)),(9,A' (av K:Int)),(14,A' i)],[]⟩,i<=A.length/\av K≠K.length,A.length-i⟩|_=>none))
 |_=>none
def M5(d:Nat):List (Nat×Ctr):=[(189,⟨[],qC⟩),(142,⟨[],qH⟩),(144,⟨[],nq⟩),(190,⟨[],uk⟩),(136,⟨[],qr d⟩)]
def EB(d:Nat)(t:D7)(A:D7)(K:D6)(out:D8):Prop :=
 (((∃x0:Nat,(((x0<=K.length)/\(∀(j:Nat),j<x0->(0:Int)<=K.getD j (0:Int)))/\((t=t)/\((A=A)/\((K=K)/\((out=out)/\((0:Int)=(↑x0:Int))))))))/\(∀x1:Nat,(((x1<=K.length)/\(∀(j:Nat),j<x1->(0:Int)<=K.getD j (0:Int)))->(ab (decide ((↑x1:Int)<(↑(K.length):Int))) ((ac (↑x1:Int) K.length)/\(ab (decide ((0:Int)<=K.getD (↑x1:Int).toNat (0:Int))) ((ae ((↑x1:Int)+(1:Int)))/\(∃x2:Nat,(((x2<=K.length)/\(∀(j:Nat),j<x2->(0:Int)<=K.getD j (0:Int)))/\((K.length-x2<K.length-x1)/\((t=t)/\((A=A)/\((K=K)/\((out=out)/\((↑x1:Int)+(1:Int)=(↑x2:Int)))))))))) (∃x3:Unit,(True/\((t=t)/\((A=A)/\((K=K)/\((out=out)/\((↑x1:Int)=(↑(av K):Int)))))))))) (∃x4:Unit,(True/\((t=t)/\((A=A)/\((K=K)/\((out=out)/\((↑x1:Int)=(↑(av K):Int))))))))))))/\(∀x5:Unit,(True->(ab ((↑(av K):Int) == (↑(K.length):Int)) ((∃x6:Nat,(((x6<=t.length)/\(av K=K.length))/\((t=t)/\((A=A)/\((K=K)/\((out=out)/\(((↑(av K):Int)=(↑(av K):Int))/\(((0:Int)=(↑x6:Int))/\(([]:D7)=List.map (λ(y:Nat)=>aR (A.getD ((K.getD y (0:Int)).toNat) []) (t.getD y [])) (List.range x6))))))))))/\(∀x7:Nat,(((x7<=t.length)/\(av K=K.length))->(ab (decide ((↑x7:Int)<(↑(t.length):Int))) ((ac (↑x7:Int) K.length)/\((ac (K.getD (↑x7:Int).toNat (0:Int)) A.length)/\((ac (↑x7:Int) t.length)/\((((au ((A.getD ((K.getD (↑x7:Int).toNat (0:Int)).toNat) []).length)) /\
 (gN ((t.getD (↑x7:Int).toNat []).length) (A.getD ((K.getD (↑x7:Int).toNat (0:Int)).toNat) [])))/\True)/\((au ((List.map (λ(y:Nat)=>aR (A.getD ((K.getD y (0:Int)).toNat) []) (t.getD y [])) (List.range x7)).length+(aR (A.getD ((K.getD (↑x7:Int).toNat (0:Int)).toNat) []) (t.getD (↑x7:Int).toNat [])::([]:D7)).length))/\((ae ((↑x7:Int)+(1:Int)))/\(∃x8:Nat,(((x8<=t.length)/\(av K=K.length))/\((t.length-x8<t.length-x7)/\((t=t)/\((A=A)/\((K=K)/\((out=out)/\(((↑(av K):Int)=(↑(av K):Int))/\(((↑x7:Int)+(1:Int)=(↑x8:Int))/\(List.map (λ(y:Nat)=>aR (A.getD ((K.getD y (0:Int)).toNat) []) (t.getD y [])) (List.range x7)++aR (A.getD ((K.getD (↑x7:Int).toNat (0:Int)).toNat) []) (t.getD (↑x7:Int).toNat [])::([]:D7)=List.map (λ(y:Nat)=>aR (A.getD ((K.getD y (0:Int)).toNat) []) (t.getD y [])) (List.range x8))))))))))))))))) (((∃x9:Nat,(((x9<=out.length)/\((av K=K.length)/\(∀(j1:Nat),j1<x9->bO (out.getD j1 ([]:D7)) (bf t A K)=true)))/\((t=t)/\((A=A)/\((K=K)/\((out=out)/\(((↑(av K):Int)=(↑(av K):Int))/\((List.map (λ(y:Nat)=>aR (A.getD ((K.getD y (0:Int)).toNat) []) (t.getD y [])) (List.range x7)=bf t A K)/\((0:Int)=(↑x9:Int))))))))))/\(∀x10:Nat,(((x10<=out.length)/\((av K=K.length)/\(∀(j1:Nat),j1<x10->bO (out.getD j1 ([]:D7)) (bf t A K)=true)))->(ab (decide ((↑x10:Int)<(↑(out.length):Int)))
 ((ac (↑x10:Int) out.length)/\((((aJ (out.getD (↑x10:Int).toNat ([]:D7)))/\((aJ (bf t A K))/\((out.getD (↑x10:Int).toNat ([]:D7)).length=(bf t A K).length)))/\True)/\(ab (bO (out.getD (↑x10:Int).toNat ([]:D7)) (bf t A K)) ((ae ((↑x10:Int)+(1:Int)))/\(∃x11:Nat,(((x11<=out.length)/\((av K=K.length)/\(∀(j1:Nat),j1<x11->bO (out.getD j1 ([]:D7)) (bf t A K)=true)))/\((out.length-x11<out.length-x10)/\((t=t)/\((A=A)/\((K=K)/\((out=out)/\(((↑(av K):Int)=(↑(av K):Int))/\((bf t A K=bf t A K)/\((↑x10:Int)+(1:Int)=(↑x11:Int)))))))))))) (∃x12:Unit,((av K=K.length)/\((out=out)/\((bf t A K=bf t A K)/\((↑x10:Int)=(↑(ca (bf t A K) out):Int))))))))) (∃x13:Unit,((av K=K.length)/\((out=out)/\((bf t A K=bf t A K)/\((↑x10:Int)=(↑(ca (bf t A K) out):Int))))))))))/\(∀x14:Unit,((av K=K.length)->((bS out.length (Option.some (↑(ca (bf t A K) out):Int)) Option.none)/\((au (FC.len (FC.r3 IntKind.i64 (bf t A K::([]:D8)))+FC.len (FC.r3 IntKind.i64 (cZ out (Option.some (↑(ca (bf t A K) out):Int)) Option.none))))/\((bS out.length Option.none (Option.some (↑(ca (bf t A K) out):Int)))/\((au (FC.len (FC.r3 IntKind.i64 ([]:D8))+FC.len (FC.r3 IntKind.i64 (cZ out Option.none (Option.some (↑(ca (bf t A K) out):Int)))))) /\
 ((au (FC.len (FC.r3 IntKind.i64 (([]:D8)++cZ out Option.none (Option.some (↑(ca (bf t A K) out):Int))))+FC.len (FC.r3 IntKind.i64 (bf t A K::([]:D8)++cZ out (Option.some (↑(ca (bf t A K) out):Int)) Option.none))))/\((([]:D8)++cZ out Option.none (Option.some (↑(ca (bf t A K) out):Int))++(bf t A K::([]:D8)++cZ out (Option.some (↑(ca (bf t A K) out):Int)) Option.none)=bH t A (d+(1:Nat)) K out)/\True))))))))))))) ((∃x15:Nat,(((x15<=A.length)/\(av K≠K.length))/\((t=t)/\((A=A)/\((K=K)/\((out=cA (bZ t A (bH t A (d+(1:Nat)-(1:Nat))) K) out x15)/\(((↑(av K):Int)=(↑(av K):Int))/\((0:Int)=(↑x15:Int)))))))))/\(∀x16:Nat,(((x16<=A.length)/\(av K≠K.length))->(ab (decide ((↑x16:Int)<(↑(A.length):Int))) (((au K.length)/\True)/\((ac (↑(av K):Int) K.length)/\((((t.length<=(12:Nat))/\((am t.length t)/\((AuOk t.length A)/\((A.length<=(1000000:Nat))/\(KOk t.length A.length (List.set K ((↑(av K):Int).toNat) (↑x16:Int)))))))/\True)/\(ab ((dI t A (List.set K ((↑(av K):Int).toNat) (↑x16:Int))).2) ((((aB ((dI t A (List.set K ((↑(av K):Int).toNat) (↑x16:Int))).1)<d)/\((t.length<=(12:Nat))/\((am t.length t)/\((AuOk t.length A)/\((A.length<=(100:Nat))/\((KOk t.length A.length ((dI t A (List.set K ((↑(av K):Int).toNat) (↑x16:Int))).1)) /\
 ((∀(c:D7),c∈cA (bZ t A (bH t A (d+(1:Nat)-(1:Nat))) K) out x16->am t.length c)/\((cA (bZ t A (bH t A (d+(1:Nat)-(1:Nat))) K) out x16).length+(100:Nat) ^ aB ((dI t A (List.set K ((↑(av K):Int).toNat) (↑x16:Int))).1)<=(1099511627775:Nat)))))))))/\True)/\((ae ((↑x16:Int)+(1:Int)))/\(∃x17:Nat,(((x17<=A.length)/\(av K≠K.length))/\((A.length-x17<A.length-x16)/\((t=t)/\((A=A)/\((K=K)/\((bH t A d ((dI t A (List.set K ((↑(av K):Int).toNat) (↑x16:Int))).1) (cA (bZ t A (bH t A (d+(1:Nat)-(1:Nat))) K) out x16)=cA (bZ t A (bH t A (d+(1:Nat)-(1:Nat))) K) out x17)/\(((↑(av K):Int)=(↑(av K):Int))/\((↑x16:Int)+(1:Int)=(↑x17:Int)))))))))))) ((ae ((↑x16:Int)+(1:Int)))/\(∃x18:Nat,(((x18<=A.length)/\(av K≠K.length))/\((A.length-x18<A.length-x16)/\((t=t)/\((A=A)/\((K=K)/\((cA (bZ t A (bH t A (d+(1:Nat)-(1:Nat))) K) out x16=cA (bZ t A (bH t A (d+(1:Nat)-(1:Nat))) K) out x18)/\(((↑(av K):Int)=(↑(av K):Int))/\((↑x16:Int)+(1:Int)=(↑x18:Int))))))))))))))) ((cA (bZ t A (bH t A (d+(1:Nat)-(1:Nat))) K) out x16=bH t A (d+(1:Nat)) K out)/\True)))))))))
def WY(d:Nat)(t:D7)(A:D7)(K:D6)(out:D8):aP Tryz.prog (ah (M5 d)) aj (M4 (d+1) t A K out) Tryz.f136 (aI Tryz.f136) [] [.c (.rows .i64 t),.c (.rows .i64 A),.c (.ints .i64 K),.c (.r3 .i64 out)] (oG (d+1) t A K out)=EB d t A K out:=by kernel_rfl
def WZ(d:Nat)(t:D7)(A:D7)(K:D6)(out:D8)(ξ:(oG (d+1) t A K out).pre):EB d t A K out:=by
 simp only[oG,EB,aO]at ξ⊢;simp only[FC.len,cZ,An];obtain⟨h1,h2,h3,h4,h5,h6,h7,h8⟩:=ξ;have kl:=h6.len
 have pl:=lO K
 have p1:1<=100 ^ aB K:=Cs _ _ (by omega)
 refine⟨⟨⟨0,⟨by omega,λj h=>by omega⟩,rfl⟩,λx ⟨hx,ix⟩=>⟨λg=>⟨by omega,λq=>⟨by omega,x+1,⟨by omega,λj hj=>?_⟩,by omega,by omega⟩,λq=>⟨⟨⟩,?_⟩⟩,λg=>⟨⟨⟩,?_⟩⟩⟩,λ_ _=>⟨λhp=>?_,λhp=>?_⟩⟩
 ·by_cases e:j=x
  ·subst e;exact q
  ·exact ix j (by omega)
 ·rw[qF K x ix hx (λ_=>by omega)]
 ·rw[qF K x ix hx (λz=>absurd z (by omega))]
 ·have hp:av K=K.length:=by omega
  have T:=ul h3 h4 h6 hp
  have PC:=uS (bf t A K) out
  have o7:∀j,j<out.length->am t.length (out.getD j []):=λj hj=>h7 _ (bN out [] j hj)
  have e1:av K=K.length:=hp
  refine⟨⟨0,⟨by omega,e1⟩,rfl,rfl⟩,λy ⟨hy,_⟩=>⟨λg=>?_,λg=>?_⟩⟩
  ·have hk:=oU K hp y (by omega)
   have hr:=h6.rng y (by omega)
   have L:=h4.len (K.getD y 0).toNat (by omega)
   have Lt:=(h3.2 y (by omega)).1
   refine⟨by omega,by omega,by omega,⟨by omega,λi hi=>?_⟩,by simp;omega,by omega,y+1,⟨by omega,e1⟩,by omega,by omega,?_⟩
   ·have:=h4.rng (K.getD y 0).toNat i (by omega) (by omega)
    rw[Lt];exact this
   ·rw[qP]
  ·have cT:(List.range y).map (λy=>aR (A.getD (K.getD y 0).toNat []) (t.getD y []))=bf t A K:=by rw[show y=t.length by omega];rfl
   refine⟨⟨⟨0,⟨by omega,e1,λj h=>by omega⟩,cT,rfl⟩,λj ⟨hj,_,ij⟩=>⟨λg2=>⟨by omega,⟨mR (o7 j (by omega)) h2,mR T h2,by rw[(o7 j (by omega)).1,T.1]⟩,λq=>⟨by omega,j+1,⟨by omega,e1,λj1 hj1=>?_⟩,by omega,by omega⟩,λq=>⟨⟨⟩,e1,?_⟩⟩,λg2=>⟨⟨⟩,e1,?_⟩⟩⟩,λ_ _=>?_⟩
   ·by_cases e:j1=j
    ·subst e;exact q
    ·exact ij j1 (by omega)
   ·rw[qE _ out j ij hj (λ_=>q)]
   ·rw[qE _ out j ij hj (λz=>absurd z (by omega))]
   ·simp only[AR,Bo,Ag,AP,BD,BT]
    refine⟨by omega,by omega,by omega,by omega,by omega,?_⟩
    rw[bH,AA hp,fL];rfl
 ·have hp:av K≠K.length:=by omega
  have hx:av K<K.length:=by omega
  have NG:=uV hx (i:=0)
  have P:100 ^ aB K=100 ^ (aB K-1)*100:=by rw[<-B8];congr 1;omega
  have B:∀i,i<=A.length->(∀c,c∈cA (bZ t A (bH t A d) K) out i->am t.length c)/\(cA (bZ t A (bH t A d) K) out i).length<=out.length+i*100 ^ (aB K-1):=λi hi=>by
   constructor
   ·refine qG (P:=λo=>∀c,c∈o->am t.length c) h7 i λj o hj hP=>?_
    unfold bZ;split
    ·exact hP
    ·rename_i K' hs
     exact uW h3 h4 (λK hK hp=>ul h3 h4 hK hp) d K' o (ji h3 h4 h6 hx (by omega) hs).1 hP
   ·refine uX i λj o hj=>?_
    unfold bZ;split
    ·omega
    ·rename_i K' hs
     have q:=ji h3 h4 h6 hx (by omega) hs
     have a:=FO h3 h4 (M:=100) h5 (by omega) d K' o q.1
     have b:100 ^ aB K'<=100 ^ (aB K-1):=Bv (by omega) (by omega)
     omega
  refine⟨⟨0,⟨by omega,hp⟩,rfl,rfl⟩,λi ⟨hi,_⟩=>⟨λg=>?_,λg=>?_⟩⟩
  ·obtain⟨B1,B2⟩:=B i hi
   have hk:=h6.set (av K) (w:=(i:Int)) ⟨by omega,by omega⟩
   have step:∀r,bZ t A (bH t A d) K i (cA (bZ t A (bH t A d) K) out i)=r->r=cA (bZ t A (bH t A d) K) out (i+1):=λr e=>by rw[cA,e]
   refine⟨by omega,by omega,⟨h2,h3,h4,by omega,hk⟩,λq=>?_,λq=>⟨by omega,i+1,⟨by omega,hp⟩,by omega,step _ ?_,by omega⟩⟩
   ·have ok:=M0 q
    have N:=ji h3 h4 h6 hx (i:=i) (by omega) ok
    have b:100 ^ aB (dI t A (K.set (av K) (i:Int))).1<=100 ^ (aB K-1):=Bv (by omega) (by omega)
    have c:i*100 ^ (aB K-1)+100 ^ (aB K-1)<=100 ^ (aB K-1)*100:=by
     rw[<-Ce,B9];exact Cb _ (by omega)
    refine⟨⟨by omega,h2,h3,h4,h5,N.1,B1,?_⟩,by omega,i+1,⟨by omega,hp⟩,by omega,step _ ?_,by omega⟩
    ·show(cA (bZ t A (bH t A d) K) out i).length+_<=_
     omega
    ·exact M2 ok
   ·exact M3 (M1 q)
  ·rw[bH,AB hp,show i=A.length by omega];rfl
def W0(t:D7)(A:D7)(K:D6)(out:D8)(h:(oG 0 t A K out).pre):False:=by
 simp only[oG]at h;omega
def W4(d:Nat):Fits Tryz.prog 136 ⟨[],qr d⟩:=by
 induction d with
 |zero =>
  refine yM ⟨Tryz.f136,Tryz.func136,by kernel_rfl,by kernel_rfl⟩ (by decide) λds p h hp=>?_
  unfold qr at h;split at h
  ·cases h
   exact W0 _ _ _ _  hp
  ·cases h
 |succ d ih =>
  refine qe (Γ:=ah (M5 d)) (aq FM (aq FT (aq rt (aq MZ (aq ih aN))))) Tryz.func136 (by kernel_rfl) (by kernel_rfl) (by kernel_rfl) λds p h hp=>?_
  unfold qr at h;split at h
  ·cases h
   exact⟨aj,M4 _ _ _ _ _ ,by rw[WY];exact WZ _ _ _ _ _  hp⟩
  ·cases h
def EC:List AD->Option Post
 | [.c (.rows .i64 t)]=>some ⟨bX t=true/\AuOk t.length (aa t)/\(aa t).length<=100/\t.length<=7,.c (.ro (.r3 .i64 (aF t (aa t)))),[]⟩
 |_=>none
def M6(t:D7):Nat->Option Ann
 |0=>Q' λi=>⟨⟨[(0,G' t),(3,J' 3),(4,A' i)],[(3,O' (List.replicate i (-1)))]⟩,i<=t.length,t.length-i⟩
 |_=>none
def W7:Fits Tryz.prog 86 ⟨[],EC⟩:=by
 refine ffv (Γ:=ah [(137,⟨[],qI⟩),(136,⟨[],qr 12⟩)]) (aq FW (aq (W4 12) aN)) Tryz.func86 λds p h ξ=>?_
 unfold EC at h;split at h<;>cases h
 rename_i t
 refine⟨aj,M6 t,(∃x0:Nat,x0<=t.length/\t=t/\(0:Int)=(x0:Int)/\[]=List.replicate x0 (-1:Int))/\∀x1:Nat,x1<=t.length->ab (decide ((x1:Int)<(t.length:Int))) (au ((List.replicate x1 (-1:Int)).length+[(-1:Int)].length)/\ae ((x1:Int)+(1:Int))/\∃x2:Nat,x2<=t.length/\t.length-x2<t.length-x1/\t=t/\(x1:Int)+(1:Int)=(x2:Int)/\List.replicate x1 (-1:Int)++[(-1:Int)]=List.replicate x2 (-1:Int)) (ac (0:Int) ((List.replicate x1 (-1:Int)).length)/\(bX t=true/\True)/\((aB (List.set (List.replicate x1 (-1:Int)) (0:Nat) (0:Int))<(12:Nat)/\t.length<=(12:Nat)/\am t.length t/\AuOk t.length (aa t)/\(aa t).length<=(100:Nat)/\KOk t.length (aa t).length (List.set (List.replicate x1 (-1:Int)) (0:Nat) (0:Int))/\(∀(c:D7),c∈([]:D8)->am t.length c)/\([]:D8).length+(100:Nat) ^ aB (List.set (List.replicate x1 (-1:Int)) (0:Nat) (0:Int))<=(1099511627775:Nat))/\True)/\bH t (aa t) (12:Nat) (List.set (List.replicate x1 (-1:Int)) (0:Nat) (0:Int)) ([]:D8)=aF t (aa t)/\True),by kernel_rfl,?_⟩
 simp only[aO]at ξ⊢;obtain⟨h1,h2,h3,h4⟩:=ξ;obtain⟨q1,q2,q3⟩:=gH h1;have T:am t.length t:=⟨rfl,λx hx=>⟨(q3 x hx).1,λy hy=>by
  have:=(q3 x hx).2 y hy
  have e2:en t x y=(t.getD x []).getD y 0:=rfl
  omega⟩⟩
 refine⟨⟨0,by omega,rfl,rfl⟩,λi hi=>⟨λg=>⟨by omega,by omega,i+1,by omega,by omega,by omega,?_⟩,λg=>?_⟩⟩
 ·rw[C0]
 ·rw[show i=t.length by omega]
  have NG:=uY (n:=t.length) (by omega)
  have P:100 ^ aB ((List.replicate t.length (-1)).set 0 0)<=100 ^ 6:=Bv (by omega) (by omega)
  exact⟨by omega,h1,⟨by omega,by omega,T,h2,h3,Z0.ok oV h2,λc hc=>by simp at hc,by simp;omega⟩,rfl⟩
end Go.Sx
