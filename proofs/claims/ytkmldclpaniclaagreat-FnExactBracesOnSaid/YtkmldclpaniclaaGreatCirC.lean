/- CirC -/
import Derived.Test.YtkmldclpaniclaaGreatEqt
open Go Go.Proofs
namespace Go.Sx
set_option linter.unusedSimpArgs false
set_option linter.unusedVariables false
def dJ(t A:List (List Int))(K:List Int):List Int×Bool :=
 match cP t A K with
 |none=>([],false)
 |some o=>(o,true)
theorem Dk{t A:List (List Int)}{o:List Int}{x y:Nat}(h:dt t A o x y=none):∀k,dt t A o x (y+k)=none
 |0=>h
 |k+1=>by rw[<-Nat.add_assoc,dt,Dk h k];rfl
theorem Dl{t A:List (List Int)}{o:List Int}{x:Nat}(h:ed t A o x=none):∀k,ed t A o (x+k)=none
 |0=>h
 |k+1=>by rw[<-Nat.add_assoc,ed,Dl h k];rfl
theorem Lf{t A:List (List Int)}{K o c e:List Int}{fu i j:Nat}(hr:cP t A K=eM t A (fu+1) o)(hx:ed t A o i=some c)(hy:dt t A c i j=some e)(hi:i<t.length)(hj:j<t.length)(h:fM t A e i j=none):dJ t A K=([],false):=by
 have h1:dt t A c i (j+1)=none:=by rw[dt,hy];exact h
 have h2:=Dk h1 (t.length-(j+1))
 rw[show j+1+(t.length-(j+1))=t.length by omega]at h2
 have h3:ed t A o (i+1)=none:=by rw[ed,hx];exact h2
 have h4:=Dl h3 (t.length-(i+1))
 rw[show i+1+(t.length-(i+1))=t.length by omega]at h4
 rw[dJ,hr,eM,h4]
def pU(t:List (List Int))(A:List (List Int))(K:List Int):Post:=⟨t.length<=12/\aT t.length t/\AuOk t.length A/\A.length<=1000000/\KOk t.length A.length K,.tup [.inl (.ints 2 .i64 (dJ t A K).1),.inl (.bool (dJ t A K).2)],[]⟩
def vK:List AD->Option Post
 | [.c (.rows .i64 t),.c (.rows .i64 A),.c (.ints .i64 K)]=>some (pU t A K)
 |_=>none
def Dm(t:List (List Int))(A:List (List Int))(K:List Int):Nat->Option Ann
 |0=>some (Ann.mk ((Nat)×(List Int)×(Bool)) (fun x=>match x with|(fu,o,g)=>⟨[(0,.c (.ro (.rows .i64 t))),(1,.c (.ro (.rows .i64 A))),(8,.c (.own 8)),(9,.c (.bool g))],[(8,some (.ints 2 .i64 o))]⟩) (fun x=>match x with|(fu,o,g)=>KOk t.length A.length o/\(g=true->ax o<fu/\cP t A K=eM t A fu o)/\(g=false->cP t A K=some o)) (fun x=>match x with|(fu,o,g)=>2*fu+(if g=true then 1 else 0)) (fun x=>match x with|(fu,o,g)=>fun b_=>match b_ with|2=>some (Ann.mk ((Nat)×(List Int)) (fun x=>match x with|(i,c)=>⟨[(0,.c (.ro (.rows .i64 t))),(1,.c (.ro (.rows .i64 A))),(8,.c (.own 8)),(9,.c (.bool (decide (ax c<ax o)))),(10,.c (.int .i64 ((i:Int))))],[(8,some (.ints 2 .i64 c))]⟩) (fun x=>match x with|(i,c)=>i<=t.length/\g=true/\KOk t.length A.length c/\ed t A o i=some c/\ax c<=ax o) (fun x=>match x with|(i,c)=>t.length-i) (fun x=>match x with|(i,c)=>fun b_=>match b_ with|4=>some (Ann.mk ((Nat)×(List Int)) (fun x=>match x with|(j,e)=>⟨[(0,.c (.ro (.rows .i64 t))),(1,.c (.ro (.rows .i64 A))),(8,.c (.own 8)),(9,.c (.bool (decide (ax e<ax o)))),(10,.c (.int .i64 ((i:Int)))),(11,.c (.int .i64 ((j:Int))))],[(8,some (.ints 2 .i64 e))]⟩) (fun x=>match x with|(j,e)=>i<t.length/\j<=t.length/\KOk t.length A.length e/\dt t A c i j=some e/\ax e<=ax c) (fun x=>match x with|(j,e)=>t.length-j) (fun _=>ar))|_=>none))|_=>none))
 |_=>none
def Dn:List (Nat×Ctr):=[(144,⟨[],mE⟩),(189,⟨[],p9⟩),(232,⟨[],xc⟩)]
def kD(t:List (List Int))(A:List (List Int))(x0:Nat×List Int)(x1:Nat×List Int):=((List.getD t (↑x0.1:Int).toNat []).getD (((List.getD A ((List.getD x1.2 (↑x0.1:Int).toNat (0:Int)).toNat) []).getD (↑x1.1:Int).toNat (0:Int)).toNat) (0:Int))
def vL(t:List (List Int))(A:List (List Int))(K:List Int):Prop :=
 ((ag K.length/\True)/\((∃x0:Nat×List Int×Bool,(KOk t.length A.length x0.2.1/\(x0.2.2=true->ax x0.2.1<x0.1/\cP t A K=eM t A x0.1 x0.2.1)/\(x0.2.2=false->cP t A K=Option.some x0.2.1))/\t=t/\A=A/\true=x0.2.2/\K=x0.2.1)/\(∀x1:Nat×List Int×Bool,(KOk t.length A.length x1.2.1/\(x1.2.2=true->ax x1.2.1<x1.1/\cP t A K=eM t A x1.1 x1.2.1)/\(x1.2.2=false->cP t A K=Option.some x1.2.1)->(af x1.2.2 ((∃x2:Nat×List Int,(x2.1<=t.length/\x1.2.2=true/\KOk t.length A.length x2.2/\ed t A x1.2.1 x2.1=Option.some x2.2/\ax x2.2<=ax x1.2.1)/\t=t/\A=A/\false=decide (ax x2.2<ax x1.2.1)/\(0:Int)=(↑x2.1:Int)/\x1.2.1=x2.2)/\(∀x3:Nat×List Int,(x3.1<=t.length/\x1.2.2=true/\KOk t.length A.length x3.2/\ed t A x1.2.1 x3.1=Option.some x3.2/\ax x3.2<=ax x1.2.1->(af (decide ((↑x3.1:Int)<(t.length:Int))) ((∃x4:Nat×List Int,(x3.1<t.length/\x4.1<=t.length/\KOk t.length A.length x4.2/\dt t A x3.2 x3.1 x4.1=Option.some x4.2/\ax x4.2<=ax x3.2)/\t=t/\A=A/\decide (ax x3.2<ax x1.2.1)=decide (ax x4.2<ax x1.2.1)/\(↑x3.1:Int)=(↑x3.1:Int)/\(0:Int)=(↑x4.1:Int)/\x3.2=x4.2)/\(∀x5:Nat×List Int,((x3.1<t.length/\(x5.1<=t.length/\(KOk t.length A.length x5.2/\((dt t A x3.2 x3.1 x5.1=Option.some x5.2) /\
 (ax x5.2<=ax x3.2)))))->(af (decide ((↑x5.1:Int)<(t.length:Int))) ((ab (↑x3.1:Int) x5.2.length)/\(af (decide (x5.2.getD (↑x3.1:Int).toNat (0:Int)<(0:Int))) ((ae ((↑x5.1:Int)+(1:Int)))/\(∃x6:Nat×List Int,(((x3.1<t.length)/\((x6.1<=t.length)/\((KOk t.length A.length x6.2)/\((dt t A x3.2 x3.1 x6.1=Option.some x6.2)/\(ax x6.2<=ax x3.2)))))/\((t.length-x6.1<t.length-x5.1)/\((t=t)/\((A=A)/\((decide (ax x5.2<ax x1.2.1)=decide (ax x6.2<ax x1.2.1))/\(((↑x3.1:Int)=(↑x3.1:Int))/\(((↑x5.1:Int)+(1:Int)=(↑x6.1:Int))/\(x5.2=x6.2)))))))))) ((ab (↑x5.1:Int) x5.2.length)/\(af (decide (x5.2.getD (↑x5.1:Int).toNat (0:Int)<(0:Int))) ((ae ((↑x5.1:Int)+(1:Int)))/\(∃x7:Nat×List Int,(((x3.1<t.length)/\((x7.1<=t.length)/\((KOk t.length A.length x7.2)/\((dt t A x3.2 x3.1 x7.1=Option.some x7.2)/\(ax x7.2<=ax x3.2)))))/\((t.length-x7.1<t.length-x5.1)/\((t=t)/\((A=A)/\((decide (ax x5.2<ax x1.2.1)=decide (ax x7.2<ax x1.2.1))/\(((↑x3.1:Int)=(↑x3.1:Int))/\(((↑x5.1:Int)+(1:Int)=(↑x7.1:Int))/\(x5.2=x7.2)))))))))) ((ab (↑x3.1:Int) t.length)/\((ab (↑x3.1:Int) x5.2.length)/\((ab (x5.2.getD (↑x3.1:Int).toNat (0:Int)) A.length)/\((ab (↑x5.1:Int) ((A.getD ((x5.2.getD (↑x3.1:Int).toNat (0:Int)).toNat) []).length))/\((ab ((List.getD A ((List.getD x5.2 (↑x3.1:Int).toNat (0:Int)).toNat) []).getD (↑x5.1:Int).toNat (0:Int)) ((t.getD (↑x3.1:Int).toNat []).length)) /\
 (ab (↑x5.1:Int) x5.2.length/\(ab (x5.2.getD (↑x5.1:Int).toNat (0:Int)) A.length/\(ab (↑x3.1:Int) x5.2.length/\(ab (x5.2.getD (↑x3.1:Int).toNat (0:Int)) A.length/\(((ag ((A.getD ((x5.2.getD (↑x5.1:Int).toNat (0:Int)).toNat) []).length)/\iG ((A.getD ((x5.2.getD (↑x3.1:Int).toNat (0:Int)).toNat) []).length) (A.getD ((x5.2.getD (↑x5.1:Int).toNat (0:Int)).toNat) []))/\True)/\((aY A/\True)/\(ab (kD t A x3 x5) x5.2.length/\(af (decide (x5.2.getD (((List.getD t (↑x3.1:Int).toNat []).getD (((List.getD A ((List.getD x5.2 (↑x3.1:Int).toNat (0:Int)).toNat) []).getD (↑x5.1:Int).toNat (0:Int)).toNat) (0:Int)).toNat) (0:Int)<(0:Int))) (ab (kD t A x3 x5) x5.2.length/\((ab (kD t A x3 x5) ((List.set x5.2 (kD t A x3 x5).toNat (gC A (aU (A.getD ((x5.2.getD (↑x5.1:Int).toNat (0:Int)).toNat) []) (A.getD ((x5.2.getD (↑x3.1:Int).toNat (0:Int)).toNat) [])))).length)) /\
 (af ((List.set x5.2 ((List.getD (List.getD t (↑x3.1:Int).toNat []) ((List.getD (List.getD A ((List.getD x5.2 (↑x3.1:Int).toNat (0:Int)).toNat) []) (↑x5.1:Int).toNat (0:Int)).toNat) (0:Int)).toNat) (gC A (aU (List.getD A ((List.getD x5.2 (↑x5.1:Int).toNat (0:Int)).toNat) []) (List.getD A ((List.getD x5.2 (↑x3.1:Int).toNat (0:Int)).toNat) [])))).getD (((List.getD t (↑x3.1:Int).toNat []).getD (((List.getD A ((List.getD x5.2 (↑x3.1:Int).toNat (0:Int)).toNat) []).getD (↑x5.1:Int).toNat (0:Int)).toNat) (0:Int)).toNat) (0:Int) != gC A (aU (A.getD ((x5.2.getD (↑x5.1:Int).toNat (0:Int)).toNat) []) (A.getD ((x5.2.getD (↑x3.1:Int).toNat (0:Int)).toNat) []))) ((([]=(dJ t A K).1)/\((false=(dJ t A K).2)/\True))/\True) ((ae ((↑x5.1:Int)+(1:Int)))/\(∃x8:Nat×List Int,(((x3.1<t.length)/\((x8.1<=t.length)/\((KOk t.length A.length x8.2)/\((dt t A x3.2 x3.1 x8.1=Option.some x8.2)/\(ax x8.2<=ax x3.2)))))/\((t.length-x8.1<t.length-x5.1)/\((t=t)/\((A=A)/\((true=decide (ax x8.2<ax x1.2.1))/\(((↑x3.1:Int)=(↑x3.1:Int))/\(((↑x5.1:Int)+(1:Int)=(↑x8.1:Int))/\(List.set x5.2 (kD t A x3 x5).toNat (gC A (aU (A.getD ((x5.2.getD (↑x5.1:Int).toNat (0:Int)).toNat) []) (A.getD ((x5.2.getD (↑x3.1:Int).toNat (0:Int)).toNat) [])))=x8.2))))))))))))) ((ab (kD t A x3 x5) x5.2.length) /\
 (af (x5.2.getD (((List.getD t (↑x3.1:Int).toNat []).getD (((List.getD A ((List.getD x5.2 (↑x3.1:Int).toNat (0:Int)).toNat) []).getD (↑x5.1:Int).toNat (0:Int)).toNat) (0:Int)).toNat) (0:Int) != gC A (aU (A.getD ((x5.2.getD (↑x5.1:Int).toNat (0:Int)).toNat) []) (A.getD ((x5.2.getD (↑x3.1:Int).toNat (0:Int)).toNat) []))) ((([]=(dJ t A K).1)/\((false=(dJ t A K).2)/\True))/\True) ((ae ((↑x5.1:Int)+(1:Int)))/\(∃x9:Nat×List Int,(((x3.1<t.length)/\((x9.1<=t.length)/\((KOk t.length A.length x9.2)/\((dt t A x3.2 x3.1 x9.1=Option.some x9.2)/\(ax x9.2<=ax x3.2)))))/\((t.length-x9.1<t.length-x5.1)/\((t=t)/\((A=A)/\((decide (ax x5.2<ax x1.2.1)=decide (ax x9.2<ax x1.2.1))/\(((↑x3.1:Int)=(↑x3.1:Int))/\(((↑x5.1:Int)+(1:Int)=(↑x9.1:Int))/\(x5.2=x9.2))))))))))))))))))))))))))))) ((ae ((↑x3.1:Int)+(1:Int)))/\(∃x10:Nat×List Int,(((x10.1<=t.length)/\((x1.2.2=true)/\((KOk t.length A.length x10.2)/\((ed t A x1.2.1 x10.1=Option.some x10.2)/\(ax x10.2<=ax x1.2.1)))))/\((t.length-x10.1<t.length-x3.1)/\((t=t)/\((A=A)/\((decide (ax x5.2<ax x1.2.1)=decide (ax x10.2<ax x1.2.1))/\(((↑x3.1:Int)+(1:Int)=(↑x10.1:Int))/\(x5.2=x10.2))))))))))))) (∃x11:Nat×List Int×Bool,(((KOk t.length A.length x11.2.1)/\((x11.2.2=true->ax x11.2.1<x11.1/\cP t A K=eM t A x11.1 x11.2.1)/\(x11.2.2=false->cP t A K=Option.some x11.2.1))) /\
 ((((2:Nat)*x11.1+if x11.2.2=true then(1:Nat)else(0:Nat))<(2:Nat)*x1.1+if x1.2.2=true then(1:Nat)else(0:Nat))/\((t=t)/\((A=A)/\((decide (ax x3.2<ax x1.2.1)=x11.2.2)/\(x3.2=x11.2.1))))))))))) (((x1.2.1=(dJ t A K).1)/\((true=(dJ t A K).2)/\True))/\True))))))
theorem Lg(t:List (List Int))(A:List (List Int))(K:List Int):aP Tryz.prog (ai Dn) aj (Dm t A K) Tryz.f190 (aF Tryz.f190) [] [.c (.rows .i64 t),.c (.rows .i64 A),.c (.ints .i64 K)] (pU t A K)=vL t A K:=by kernel_rfl
theorem Lh(t:List (List Int))(A:List (List Int))(K:List Int)(Yh:(pU t A K).pre):vL t A K:=by
 simp only[pU,vL,kD,aK,u1,u2,u3,u4,u5,u6,u7,u8,u9,v1,v2,v3,v4,v5,v6,v7,v8,v9,w1,w2,w3,w4,aC,ab,ae,ag,av]at Yh⊢;obtain⟨h1,h2,h3,h4,h5⟩:=Yh;have kl:=h5.len
 have ng:=vU K
 refine⟨by omega,⟨⟨t.length+1,K,true⟩,⟨h5,fun _=>⟨by dsimp only;omega,rfl⟩,fun h=>by cases h⟩,rfl,rfl⟩,fun⟨fu,o,g⟩ ⟨o1,o2,o3⟩=>?_⟩
 dsimp only at o1 o2 o3⊢;refine⟨fun hg=>?_,fun hg=>?_⟩
 ·subst hg
  obtain⟨o2,o4⟩:=o2 rfl;obtain⟨fu,rfl⟩:∃m,fu=m+1:=⟨fu-1,by omega⟩
  refine⟨⟨⟨0,o⟩,⟨Nat.zero_le _,rfl,o1,rfl,Nat.le_refl _⟩,(decide_eq_false (Nat.lt_irrefl _)).symm,rfl,rfl⟩,fun⟨i,c⟩ ⟨c1,_,c2,c3,c4⟩=>?_⟩
  dsimp only at c1 c2 c3 c4⊢;refine⟨fun hi=>⟨⟨⟨0,c⟩,⟨by omega,Nat.zero_le _,c2,rfl,Nat.le_refl _⟩,rfl,rfl,rfl⟩,fun⟨j,e⟩ ⟨_,e1,e2,e3,e4⟩=>?_⟩,fun hi=>?_⟩
  ·dsimp only at e1 e2 e3 e4⊢
   refine⟨fun hj=>?_,fun hj=>?_⟩
   ·have el:=e2.len
    have ri:=e2.rng i (by omega)
    have rj:=e2.rng j (by omega)
    have same:fM t A e i j=some e->dt t A c i (j+1)=some e:=fun h=>by rw[dt,e3];exact h
    refine⟨by omega,fun q=>⟨by omega,⟨j+1,e⟩,⟨by omega,by dsimp only;omega,e2,same (by unfold fM;rw[if_pos (.inl q)]),e4⟩,by dsimp only;omega,rfl,by dsimp only;omega,rfl⟩,fun q=>⟨by omega,fun q2=>⟨by omega,⟨j+1,e⟩,⟨by omega,by dsimp only;omega,e2,same (by unfold fM;rw[if_pos (.inr q2)]),e4⟩,by dsimp only;omega,rfl,by dsimp only;omega,rfl⟩,fun q2=>?_⟩⟩
    have W:=mg h3 e2 (x:=i) (y:=j) (by omega) (by omega) (by omega) (by omega)
    have Z:=kF h2 h3 e2 (x:=i) (y:=j) (by omega) (by omega) (by omega)
    have Lt:(t.getD i []).length=t.length:=(h2.2 i (by omega)).1
    have La:=h3.len (e.getD i 0).toNat (by omega)
    have Lb:=h3.len (e.getD j 0).toNat (by omega)
    have hw:gC A (aU (A.getD (e.getD j 0).toNat []) (A.getD (e.getD i 0).toNat []))=dF A e i j:=by rw[gC,if_pos W.1];rfl
    have hz:((t.getD i []).getD ((A.getD (e.getD i 0).toNat []).getD j 0).toNat 0).toNat=bF t A e i j:=rfl
    have hq:iG (A.getD (e.getD i 0).toNat []).length (A.getD (e.getD j 0).toNat []):=fun x hx=>by
     have:=h3.rng (e.getD j 0).toNat x (by omega) (by omega)
     rw[La];exact this
    have hA:aY A:=⟨by omega,fun r hr=>by
     obtain⟨x,hx,rfl⟩:=List.getElem_of_mem hr;have:=h3.len x hx
     rw[bD A [] x hx]at this;omega⟩
    have Z1:0<=(A.getD (e.getD i 0).toNat []).getD j 0/\(A.getD (e.getD i 0).toNat []).getD j 0<(t.length:Int):=Z.1
    have Z2:0<=(t.getD i []).getD ((A.getD (e.getD i 0).toNat []).getD j 0).toNat 0/\(t.getD i []).getD ((A.getD (e.getD i 0).toNat []).getD j 0).toNat 0<(t.length:Int):=Z.2.1
    rw[hw,hz];have SS:fM t A e i j=if e.getD (bF t A e i j) 0<0 then some (e.set (bF t A e i j) (dF A e i j))else if e.getD (bF t A e i j) 0=dF A e i j then some e else none:=by
     conv=>lhs;unfold fM
     rw[if_neg (by omega)]
    have gs:e.getD (bF t A e i j) 0<0->(e.set (bF t A e i j) (dF A e i j)).getD (bF t A e i j) 0=dF A e i j:=fun _=>by
     rw[gW _ _ _ _ (by rw[el];exact Z.2.2),if_pos rfl]
    refine⟨by omega,by omega,by omega,by omega,by omega,by omega,by omega,by omega,by omega,⟨by omega,hq⟩,hA,by omega,fun z=>⟨by omega,by omega,fun y=>absurd (gs z) y,fun y=>?_⟩,fun z=>⟨by omega,fun y=>?_,fun y=>?_⟩⟩
    ·have N:=nL (K:=e) (z:=bF t A e i j) (w:=dF A e i j) (by rw[el];exact Z.2.2) z W.2.1
     refine⟨by omega,⟨j+1,e.set (bF t A e i j) (dF A e i j)⟩,⟨by omega,by dsimp only;omega,e2.set _ ⟨by omega,W.2.2⟩,?_,by dsimp only;omega⟩,by dsimp only;omega,?_,by dsimp only;omega,rfl⟩
     ·dsimp only;rw[dt,e3];show fM t A e i j=_;rw[SS,if_pos z]
     ·exact(decide_eq_true (by dsimp only;omega)).symm
    ·rw[Lf o4 c3 e3 (by omega) (by omega) (by rw[SS,if_neg z,if_neg y])];exact⟨rfl,rfl⟩
    ·refine⟨by omega,⟨j+1,e⟩,⟨by omega,by dsimp only;omega,e2,same (by rw[SS,if_neg z,if_pos y]),e4⟩,by dsimp only;omega,rfl,by dsimp only;omega,rfl⟩
   ·refine⟨by omega,⟨i+1,e⟩,⟨by dsimp only;omega,rfl,e2,?_,by dsimp only;omega⟩,by dsimp only;omega,rfl,by dsimp only;omega,rfl⟩
    dsimp only;rw[ed,c3]
    show dt t A c i t.length=_
    rw[show t.length=j by omega];exact e3
  ·have ei:i=t.length:=by omega
   rw[ei]at c3;by_cases q:ax c<ax o
   ·refine⟨⟨fu,c,true⟩,⟨c2,fun _=>⟨by dsimp only;omega,?_⟩,fun h=>by cases h⟩,?_,decide_eq_true q,rfl⟩
    ·dsimp only;rw[o4,eM,c3];simp only;rw[if_pos q]
    ·dsimp only;first|omega|(simp;done)|(simp;omega)
   ·refine⟨⟨fu,c,false⟩,⟨c2,fun h=>(by cases h),fun _=>?_⟩,?_,decide_eq_false q,rfl⟩
    ·dsimp only;rw[o4,eM,c3];simp only;rw[if_neg q]
    ·dsimp only;first|omega|(simp;done)|(simp;omega)
 ·rw[dJ,o3 hg];exact⟨rfl,rfl⟩
theorem Li:Fits Tryz.prog 190 ⟨[],vK⟩:=by
 refine aW (Γ:=ai Dn) (az rX (az DC (az Nb aJ))) Tryz.func190 fun ds p h hp=>?_
 unfold vK at h;split at h
 ·cases h
  exact⟨aj,Dm _ _ _ ,by rw[Lg];exact Lh _ _ _  hp⟩
 ·cases h
theorem Lj{t A:List (List Int)}{K:List Int}(h:(dJ t A K).2=true):cP t A K=some (dJ t A K).1:=by
 unfold dJ at h⊢;cases e:cP t A K with
 |none=>rw[e]at h;cases h
 |some x=>rfl
theorem Lk{t A:List (List Int)}{K:List Int}(h:(dJ t A K).2=false):cP t A K=none:=by
 unfold dJ at h;cases e:cP t A K with
 |none=>rfl
 |some x=>rw[e]at h;cases h
theorem Ll{t A:List (List Int)}{rec:List Int->List (List (List Int))->List (List (List Int))}{K K':List Int}{i:Nat}{o:List (List (List Int))}(h:cP t A (K.set (aA K) (i:Int))=some K'):dc t A rec K i o=rec K' o:=by unfold dc;rw[h]
theorem Lm{t A:List (List Int)}{rec:List Int->List (List (List Int))->List (List (List Int))}{K:List Int}{i:Nat}{o:List (List (List Int))}(h:cP t A (K.set (aA K) (i:Int))=none):dc t A rec K i o=o:=by unfold dc;rw[h]
theorem Do{n:Nat}{t A:List (List Int)}(ht:aT n t)(hA:AuOk n A){K:List Int}(hK:KOk n A.length K)(hp:aA K=K.length):aT n (bG t A K):=by
 refine⟨by simp[bG,ht.1],fun x hx=>?_⟩
 have hk:=qd K hp x (by rw[hK.len];exact hx)
 have hr:=hK.rng x hx
 have row:(bG t A K).getD x []=aU (A.getD (K.getD x 0).toNat []) (t.getD x []):=by
  rw[bG];simp[List.getD_eq_getElem?_getD,ht.1,hx]
 have L:=hA.len (K.getD x 0).toNat (by omega)
 refine⟨by rw[row,aU,List.length_map,L],fun y hy=>?_⟩
 have r:=hA.rng (K.getD x 0).toNat y (by omega) hy
 have v:=(ht.2 x hx).2 (en A (K.getD x 0).toNat y).toNat (by omega)
 have:en (bG t A K) x y=en t x (en A (K.getD x 0).toNat y).toNat:=by
  unfold en at *;rw[row,aU,l8 _ _ 0 0 _ (by omega)]
 rw[this];exact v
theorem Dp{n:Nat}{t:List (List Int)}(h:aT n t)(hn:n<=12):aY t:=⟨by rw[h.1];omega,fun r hr=>by
 obtain⟨x,hx,rfl⟩:=List.getElem_of_mem hr;have:=(h.2 x (by rw[h.1]at hx;exact hx)).1
 rw[bD t [] x hx]at this;omega⟩
def me(d:Nat)(t:List (List Int))(A:List (List Int))(K:List Int)(out:List (List (List Int))):Post:=⟨ax K<d/\t.length<=12/\aT t.length t/\AuOk t.length A/\A.length<=100/\KOk t.length A.length K/\(∀c,c∈out->aT t.length c)/\out.length+100 ^ ax K<=1099511627775,.c (.ro (.r3 .i64 ((cz t A d K out)))),[]⟩
def nK(d:Nat):List AD->Option Post
 | [.c (.rows .i64 t),.c (.rows .i64 A),.c (.ints .i64 K),.c (.r3 .i64 out)]=>some (me d t A K out)
 |_=>none
def Dq(d:Nat)(t:List (List Int))(A:List (List Int))(K:List Int)(out:List (List (List Int))):Nat->Option Ann
 |0=>some (Ann.mk ((Nat)) (fun x=>⟨[(0,.c (.ro (.rows .i64 t))),(1,.c (.ro (.rows .i64 A))),(2,.c (.ro (.ints .i64 K))),(3,.c (.ro (.r3 .i64 out))),(9,.c (.int .i64 ((x:Int))))],[]⟩) (fun x=>x<=K.length/\(∀j,j<x->0<=K.getD j 0)) (fun x=>K.length-x) (fun _=>ar))
 |1004=>some (Ann.mk ((Unit)) (fun u=>⟨[(0,.c (.ro (.rows .i64 t))),(1,.c (.ro (.rows .i64 A))),(2,.c (.ro (.ints .i64 K))),(3,.c (.ro (.r3 .i64 out))),(9,.c (.int .i64 ((aA K:Int))))],[]⟩) (fun u=>True) (fun u=>0) (fun u=>fun b_=>match b_ with|2=>some (Ann.mk ((Nat)) (fun y=>⟨[(0,.c (.ro (.rows .i64 t))),(1,.c (.ro (.rows .i64 A))),(2,.c (.ro (.ints .i64 K))),(3,.c (.ro (.r3 .i64 out))),(9,.c (.int .i64 ((aA K:Int)))),(10,.c (.own 10)),(11,.c (.int .i64 ((y:Int))))],[(10,some (.rows 0 62 2 .i64 ((List.range y).map fun y=>aU (A.getD (K.getD y 0).toNat []) (t.getD y []))))]⟩) (fun y=>y<=t.length/\aA K=K.length) (fun y=>t.length-y) (fun _=>ar))|4=>some (Ann.mk ((Nat)) (fun j=>⟨[(0,.c (.ro (.rows .i64 t))),(1,.c (.ro (.rows .i64 A))),(2,.c (.ro (.ints .i64 K))),(3,.c (.ro (.r3 .i64 out))),(9,.c (.int .i64 ((aA K:Int)))),(10,.c (.ro (.rows .i64 (bG t A K)))),(12,.c (.int .i64 ((j:Int))))],[]⟩) (fun j=>j<=out.length/\aA K=K.length/\(∀j1,j1<j->bB (out.getD j1 []) (bG t A K)=true)) (fun j=>out.length-j) (fun _=>ar))|1013=>some (Ann.mk ((Unit)) (fun u=>⟨[(3,.c (.ro (.r3 .i64 out))),(10,.c (.ro (.rows .i64 (bG t A K)))),(12,.c (.int .i64 ((cb (bG t A K) out:Int))))],[]⟩) (fun u=>aA K=K.length) (fun u=>0) (fun _=>ar))|6=>some (Ann.mk ((Nat)) (fun i=>⟨[(0,.c (.ro (.rows .i64 t))),(1,.c (.ro (.rows .i64 A))),(2,.c (.ro (.ints .i64 K))),(3,.c (.ro (.r3 .i64 (dA (dc t A (cz t A (d-1)) K) out i)))),(9,.c (.int .i64 ((aA K:Int)))),(14,.c (.int .i64 ((i:Int))))],[]⟩) (fun i=>i<=A.length/\aA K≠K.length) (fun i=>A.length-i) (fun _=>ar))|_=>none))
 |_=>none
def Dr(d:Nat):List (Nat×Ctr):=[(189,⟨[],p9⟩),(142,⟨[],qL⟩),(144,⟨[],mE⟩),(190,⟨[],vK⟩),(136,⟨[],nK d⟩)]
def vM(d:Nat)(t:List (List Int))(A:List (List Int))(K:List Int)(out:List (List (List Int))):Prop :=
 (((∃x0:Nat,(x0<=K.length/\∀(j:Nat),j<x0->(0:Int)<=K.getD j (0:Int))/\t=t/\A=A/\K=K/\out=out/\(0:Int)=(x0:Int))/\∀x1:Nat,(x1<=K.length/\∀(j:Nat),j<x1->(0:Int)<=K.getD j (0:Int))->af (decide ((x1:Int)<(K.length:Int))) (ab (x1:Int) K.length/\af (decide ((0:Int)<=K.getD (x1:Int).toNat (0:Int))) (ae ((x1:Int)+(1:Int))/\∃x2:Nat,(x2<=K.length/\∀(j:Nat),j<x2->(0:Int)<=K.getD j (0:Int))/\K.length-x2<K.length-x1/\t=t/\A=A/\K=K/\out=out/\(x1:Int)+(1:Int)=(x2:Int)) (∃x3:Unit,True/\t=t/\A=A/\K=K/\out=out/\(x1:Int)=(aA K:Int))) (∃x4:Unit,True/\t=t/\A=A/\K=K/\out=out/\(x1:Int)=(aA K:Int)))/\(∀x5:Unit,(True->(af ((aA K:Int) == (K.length:Int)) ((∃x6:Nat,(x6<=t.length/\aA K=K.length)/\t=t/\A=A/\K=K/\out=out/\(aA K:Int)=(aA K:Int)/\(0:Int)=(x6:Int)/\([]:List (List Int))=List.map (fun(y:Nat)=>aU (A.getD ((K.getD y (0:Int)).toNat) []) (t.getD y [])) (List.range x6))/\(∀x7:Nat,(x7<=t.length/\aA K=K.length->(af (decide ((x7:Int)<(t.length:Int))) (ab (x7:Int) K.length/\(ab (K.getD (x7:Int).toNat (0:Int)) A.length/\(ab (x7:Int) t.length/\((((ag ((A.getD ((K.getD (x7:Int).toNat (0:Int)).toNat) []).length)) /\
 (iG ((t.getD (x7:Int).toNat []).length) (A.getD ((K.getD (x7:Int).toNat (0:Int)).toNat) [])))/\True)/\((ag ((List.map (fun(y:Nat)=>aU (A.getD ((K.getD y (0:Int)).toNat) []) (t.getD y [])) (List.range x7)).length+(aU (A.getD ((K.getD (x7:Int).toNat (0:Int)).toNat) []) (t.getD (x7:Int).toNat [])::([]:List (List Int))).length))/\((ae ((x7:Int)+(1:Int)))/\(∃x8:Nat,(((x8<=t.length)/\(aA K=K.length))/\((t.length-x8<t.length-x7)/\((t=t)/\((A=A)/\((K=K)/\((out=out)/\(((aA K:Int)=(aA K:Int))/\(((x7:Int)+(1:Int)=(x8:Int))/\(List.map (fun(y:Nat)=>aU (A.getD ((K.getD y (0:Int)).toNat) []) (t.getD y [])) (List.range x7)++aU (A.getD ((K.getD (x7:Int).toNat (0:Int)).toNat) []) (t.getD (x7:Int).toNat [])::([]:List (List Int))=List.map (fun(y:Nat)=>aU (A.getD ((K.getD y (0:Int)).toNat) []) (t.getD y [])) (List.range x8))))))))))))))))) (((∃x9:Nat,(((x9<=out.length)/\((aA K=K.length)/\(∀(j1:Nat),j1<x9->bB (out.getD j1 ([]:List (List Int))) (bG t A K)=true)))/\((t=t)/\((A=A)/\((K=K)/\((out=out)/\(((aA K:Int)=(aA K:Int))/\((List.map (fun(y:Nat)=>aU (A.getD ((K.getD y (0:Int)).toNat) []) (t.getD y [])) (List.range x7)=bG t A K)/\((0:Int)=(x9:Int))))))))))/\(∀x10:Nat,(((x10<=out.length)/\((aA K=K.length)/\(∀(j1:Nat),j1<x10->bB (out.getD j1 ([]:List (List Int))) (bG t A K)=true)))->(af (decide ((x10:Int)<(out.length:Int)))
 ((ab (x10:Int) out.length)/\((((aY (out.getD (x10:Int).toNat ([]:List (List Int))))/\((aY (bG t A K))/\((out.getD (x10:Int).toNat ([]:List (List Int))).length=(bG t A K).length)))/\True)/\(af (bB (out.getD (x10:Int).toNat ([]:List (List Int))) (bG t A K)) ((ae ((x10:Int)+(1:Int)))/\(∃x11:Nat,(((x11<=out.length)/\((aA K=K.length)/\(∀(j1:Nat),j1<x11->bB (out.getD j1 ([]:List (List Int))) (bG t A K)=true)))/\((out.length-x11<out.length-x10)/\((t=t)/\((A=A)/\((K=K)/\((out=out)/\(((aA K:Int)=(aA K:Int))/\((bG t A K=bG t A K)/\((x10:Int)+(1:Int)=(x11:Int)))))))))))) (∃x12:Unit,((aA K=K.length)/\((out=out)/\((bG t A K=bG t A K)/\((x10:Int)=(↑(cb (bG t A K) out):Int))))))))) (∃x13:Unit,((aA K=K.length)/\((out=out)/\((bG t A K=bG t A K)/\((x10:Int)=(↑(cb (bG t A K) out):Int))))))))))/\(∀x14:Unit,((aA K=K.length)->((av out.length (Option.some (↑(cb (bG t A K) out):Int)) Option.none)/\((ag (FC.len (FC.r3 IntKind.i64 (bG t A K::([]:List (List (List Int)))))+FC.len (FC.r3 IntKind.i64 (dl out (Option.some (↑(cb (bG t A K) out):Int)) Option.none))))/\((av out.length Option.none (Option.some (↑(cb (bG t A K) out):Int)))/\((ag (FC.len (FC.r3 IntKind.i64 ([]:List (List (List Int))))+FC.len (FC.r3 IntKind.i64 (dl out Option.none (Option.some (↑(cb (bG t A K) out):Int)))))) /\
 ((ag (FC.len (FC.r3 IntKind.i64 (([]:List (List (List Int)))++dl out Option.none (Option.some (↑(cb (bG t A K) out):Int))))+FC.len (FC.r3 IntKind.i64 (bG t A K::([]:List (List (List Int)))++dl out (Option.some (↑(cb (bG t A K) out):Int)) Option.none))))/\((([]:List (List (List Int)))++dl out Option.none (Option.some (↑(cb (bG t A K) out):Int))++(bG t A K::([]:List (List (List Int)))++dl out (Option.some (↑(cb (bG t A K) out):Int)) Option.none)=cz t A (d+(1:Nat)) K out)/\True))))))))))))) ((∃x15:Nat,(((x15<=A.length)/\(aA K≠K.length))/\((t=t)/\((A=A)/\((K=K)/\((out=dA (dc t A (cz t A (d+(1:Nat)-(1:Nat))) K) out x15)/\(((aA K:Int)=(aA K:Int))/\((0:Int)=(x15:Int)))))))))/\(∀x16:Nat,(((x16<=A.length)/\(aA K≠K.length))->(af (decide ((x16:Int)<(A.length:Int))) (((ag K.length)/\True)/\((ab (aA K:Int) K.length)/\((((t.length<=(12:Nat))/\((aT t.length t)/\((AuOk t.length A)/\((A.length<=(1000000:Nat))/\(KOk t.length A.length (List.set K ((aA K:Int).toNat) (x16:Int)))))))/\True)/\(af ((dJ t A (List.set K ((aA K:Int).toNat) (x16:Int))).2) ((((ax ((dJ t A (List.set K ((aA K:Int).toNat) (x16:Int))).1)<d)/\((t.length<=(12:Nat))/\((aT t.length t)/\((AuOk t.length A)/\((A.length<=(100:Nat))/\((KOk t.length A.length ((dJ t A (List.set K ((aA K:Int).toNat) (x16:Int))).1)) /\
 ((∀(c:List (List Int)),c∈dA (dc t A (cz t A (d+(1:Nat)-(1:Nat))) K) out x16->aT t.length c)/\((dA (dc t A (cz t A (d+(1:Nat)-(1:Nat))) K) out x16).length+(100:Nat) ^ ax ((dJ t A (List.set K ((aA K:Int).toNat) (x16:Int))).1)<=(1099511627775:Nat)))))))))/\True)/\((ae ((x16:Int)+(1:Int)))/\(∃x17:Nat,(((x17<=A.length)/\(aA K≠K.length))/\((A.length-x17<A.length-x16)/\((t=t)/\((A=A)/\((K=K)/\((cz t A d ((dJ t A (List.set K ((aA K:Int).toNat) (x16:Int))).1) (dA (dc t A (cz t A (d+(1:Nat)-(1:Nat))) K) out x16)=dA (dc t A (cz t A (d+(1:Nat)-(1:Nat))) K) out x17)/\(((aA K:Int)=(aA K:Int))/\((x16:Int)+(1:Int)=(x17:Int)))))))))))) ((ae ((x16:Int)+(1:Int)))/\(∃x18:Nat,(((x18<=A.length)/\(aA K≠K.length))/\((A.length-x18<A.length-x16)/\((t=t)/\((A=A)/\((K=K)/\((dA (dc t A (cz t A (d+(1:Nat)-(1:Nat))) K) out x16=dA (dc t A (cz t A (d+(1:Nat)-(1:Nat))) K) out x18)/\(((aA K:Int)=(aA K:Int))/\((x16:Int)+(1:Int)=(x18:Int))))))))))))))) ((dA (dc t A (cz t A (d+(1:Nat)-(1:Nat))) K) out x16=cz t A (d+(1:Nat)) K out)/\True)))))))))
theorem Ln(d:Nat)(t:List (List Int))(A:List (List Int))(K:List Int)(out:List (List (List Int))):aP Tryz.prog (ai (Dr d)) aj (Dq (d+1) t A K out) Tryz.f136 (aF Tryz.f136) [] [.c (.rows .i64 t),.c (.rows .i64 A),.c (.ints .i64 K),.c (.r3 .i64 out)] (me (d+1) t A K out)=vM d t A K out:=by kernel_rfl
theorem Lo(d:Nat)(t:List (List Int))(A:List (List Int))(K:List Int)(out:List (List (List Int)))(Yh:(me (d+1) t A K out).pre):vM d t A K out:=by
 simp only[me,vM,aK,u1,u2,u3,u4,u5,u6,u7,u8,u9,v1,v2,v3,v4,v5,v6,v7,v8,v9,w1,w2,w3,w4,aC,ab,ae,ag,av]at Yh⊢;simp only[FC.len,dl,Int.toNat_natCast];obtain⟨h1,h2,h3,h4,h5,h6,h7,h8⟩:=Yh;have kl:=h6.len
 have pl:=mh K
 have p1:1<=100 ^ ax K:=Nat.one_le_pow _ _ (by omega)
 refine⟨⟨⟨0,⟨by omega,fun j h=>by omega⟩,rfl⟩,fun x ⟨hx,ix⟩=>⟨fun g=>⟨by omega,fun q=>⟨by omega,x+1,⟨by omega,fun j hj=>?_⟩,by omega,by omega⟩,fun q=>⟨⟨⟩,?_⟩⟩,fun g=>⟨⟨⟩,?_⟩⟩⟩,fun _ _=>⟨fun hp=>?_,fun hp=>?_⟩⟩
 ·by_cases e:j=x
  ·subst e;exact q
  ·exact ix j (by omega)
 ·rw[vX K x ix hx (fun _=>by omega)]
 ·rw[vX K x ix hx (fun z=>absurd z (by omega))]
 ·have hp:aA K=K.length:=by omega
  have T:=Do h3 h4 h6 hp
  have PC:=vV (bG t A K) out
  have o7:∀j,j<out.length->aT t.length (out.getD j []):=fun j hj=>h7 _ (bE out [] j hj)
  have e1:aA K=K.length:=hp
  refine⟨⟨0,⟨by omega,e1⟩,rfl,rfl⟩,fun y ⟨hy,_⟩=>⟨fun g=>?_,fun g=>?_⟩⟩
  ·have hk:=qd K hp y (by omega)
   have hr:=h6.rng y (by omega)
   have L:=h4.len (K.getD y 0).toNat (by omega)
   have Lt:=(h3.2 y (by omega)).1
   refine⟨by omega,by omega,by omega,⟨by omega,fun i hi=>?_⟩,by simp;omega,by omega,y+1,⟨by omega,e1⟩,by omega,by omega,?_⟩
   ·have:=h4.rng (K.getD y 0).toNat i (by omega) (by omega)
    rw[Lt];exact this
   ·rw[yi]
  ·have cT:(List.range y).map (fun y=>aU (A.getD (K.getD y 0).toNat []) (t.getD y []))=bG t A K:=by rw[show y=t.length by omega];rfl
   refine⟨⟨⟨0,⟨by omega,e1,fun j h=>by omega⟩,cT,rfl⟩,fun j ⟨hj,_,ij⟩=>⟨fun g2=>⟨by omega,⟨Dp (o7 j (by omega)) h2,Dp T h2,by rw[(o7 j (by omega)).1,T.1]⟩,fun q=>⟨by omega,j+1,⟨by omega,e1,fun j1 hj1=>?_⟩,by omega,by omega⟩,fun q=>⟨⟨⟩,e1,?_⟩⟩,fun g2=>⟨⟨⟩,e1,?_⟩⟩⟩,fun _ _=>?_⟩
   ·by_cases e:j1=j
    ·subst e;exact q
    ·exact ij j1 (by omega)
   ·rw[vW _ out j ij hj (fun _=>q)]
   ·rw[vW _ out j ij hj (fun z=>absurd z (by omega))]
   ·simp only[List.length_cons,List.length_nil,List.length_append,List.length_take,List.length_drop,List.nil_append]
    refine⟨by omega,by omega,by omega,by omega,by omega,?_⟩
    rw[cz,if_pos hp,fa];rfl
 ·have hp:aA K≠K.length:=by omega
  have hx:aA K<K.length:=by omega
  have NG:=vZ hx (i:=0)
  have P:100 ^ ax K=100 ^ (ax K-1)*100:=by rw[<-Nat.pow_succ];congr 1;omega
  have B:∀i,i<=A.length->(∀c,c∈dA (dc t A (cz t A d) K) out i->aT t.length c)/\(dA (dc t A (cz t A d) K) out i).length<=out.length+i*100 ^ (ax K-1):=fun i hi=>by
   constructor
   ·refine vY (P:=fun o=>∀c,c∈o->aT t.length c) h7 i fun j o hj hP=>?_
    unfold dc;split
    ·exact hP
    ·rename_i K' hs
     exact DH h3 h4 (fun K hK hp=>Do h3 h4 hK hp) d K' o (kG h3 h4 h6 hx (by omega) hs).1 hP
   ·refine wa i fun j o hj=>?_
    unfold dc;split
    ·omega
    ·rename_i K' hs
     have q:=kG h3 h4 h6 hx (by omega) hs
     have a:=DI h3 h4 (M:=100) h5 (by omega) d K' o q.1
     have b:100 ^ ax K'<=100 ^ (ax K-1):=Nat.pow_le_pow_right (by omega) (by omega)
     omega
  refine⟨⟨0,⟨by omega,hp⟩,rfl,rfl⟩,fun i ⟨hi,_⟩=>⟨fun g=>?_,fun g=>?_⟩⟩
  ·obtain⟨B1,B2⟩:=B i hi
   have hk:=h6.set (aA K) (w:=(i:Int)) ⟨by omega,by omega⟩
   have step:∀r,dc t A (cz t A d) K i (dA (dc t A (cz t A d) K) out i)=r->r=dA (dc t A (cz t A d) K) out (i+1):=fun r e=>by rw[dA,e]
   refine⟨by omega,by omega,⟨h2,h3,h4,by omega,hk⟩,fun q=>?_,fun q=>⟨by omega,i+1,⟨by omega,hp⟩,by omega,step _ ?_,by omega⟩⟩
   ·have ok:=Lj q
    have N:=kG h3 h4 h6 hx (i:=i) (by omega) ok
    have b:100 ^ ax (dJ t A (K.set (aA K) (i:Int))).1<=100 ^ (ax K-1):=Nat.pow_le_pow_right (by omega) (by omega)
    have c:i*100 ^ (ax K-1)+100 ^ (ax K-1)<=100 ^ (ax K-1)*100:=by
     rw[<-Nat.succ_mul,Nat.mul_comm];exact Nat.mul_le_mul_left _ (by omega)
    refine⟨⟨by omega,h2,h3,h4,h5,N.1,B1,?_⟩,by omega,i+1,⟨by omega,hp⟩,by omega,step _ ?_,by omega⟩
    ·show(dA (dc t A (cz t A d) K) out i).length+_<=_
     omega
    ·exact Ll ok
   ·exact Lm (Lk q)
  ·rw[cz,if_neg hp,show i=A.length by omega];rfl
theorem Lp(t:List (List Int))(A:List (List Int))(K:List Int)(out:List (List (List Int)))(h:(me 0 t A K out).pre):False:=by
 simp only[me]at h;omega
theorem Lq(d:Nat):Fits Tryz.prog 136 ⟨[],nK d⟩:=by
 induction d with
 |zero =>
  refine Kb ⟨Tryz.f136,Tryz.func136,by kernel_rfl,by kernel_rfl⟩ (by decide) fun ds p h hp=>?_
  unfold nK at h;split at h
  ·cases h
   exact Lp _ _ _ _  hp
  ·cases h
 |succ d ih =>
  refine Cu (Γ:=ai (Dr d)) (az DC (az EG (az rX (az Li (az ih aJ))))) Tryz.func136 (by kernel_rfl) (by kernel_rfl) (by kernel_rfl) fun ds p h hp=>?_
  unfold nK at h;split at h
  ·cases h
   exact⟨aj,Dq _ _ _ _ _ ,by rw[Ln];exact Lo _ _ _ _ _  hp⟩
  ·cases h
def pV(t:List (List Int)):Post:=⟨cd t=true/\AuOk t.length (aa t)/\(aa t).length<=100/\t.length<=7,.c (.ro (.r3 .i64 (aB t (aa t)))),[]⟩
def vN:List AD->Option Post
 | [.c (.rows .i64 t)]=>some (pV t)
 |_=>none
def Ds(t:List (List Int)):Nat->Option Ann
 |0=>some (Ann.mk ((Nat)) (fun i=>⟨[(0,.c (.ro (.rows .i64 t))),(3,.c (.own 3)),(4,.c (.int .i64 ((i:Int))))],[(3,some (.ints 2 .i64 (List.replicate i (-1))))]⟩) (fun i=>i<=t.length) (fun i=>t.length-i) (fun _=>ar))
 |_=>none
def Dt:List (Nat×Ctr):=[(137,⟨[],qN⟩),(136,⟨[],nK 12⟩)]
def vO(t:List (List Int)):Prop :=
 (∃x0:Nat,x0<=t.length/\t=t/\(0:Int)=(x0:Int)/\[]=List.replicate x0 (-1:Int))/\∀x1:Nat,x1<=t.length->af (decide ((x1:Int)<(t.length:Int))) (ag ((List.replicate x1 (-1:Int)).length+[(-1:Int)].length)/\ae ((x1:Int)+(1:Int))/\∃x2:Nat,x2<=t.length/\t.length-x2<t.length-x1/\t=t/\(x1:Int)+(1:Int)=(x2:Int)/\List.replicate x1 (-1:Int)++[(-1:Int)]=List.replicate x2 (-1:Int)) (ab (0:Int) ((List.replicate x1 (-1:Int)).length)/\(cd t=true/\True)/\((ax (List.set (List.replicate x1 (-1:Int)) (0:Nat) (0:Int))<(12:Nat)/\t.length<=(12:Nat)/\aT t.length t/\AuOk t.length (aa t)/\(aa t).length<=(100:Nat)/\KOk t.length (aa t).length (List.set (List.replicate x1 (-1:Int)) (0:Nat) (0:Int))/\(∀(c:List (List Int)),c∈([]:List (List (List Int)))->aT t.length c)/\([]:List (List (List Int))).length+(100:Nat) ^ ax (List.set (List.replicate x1 (-1:Int)) (0:Nat) (0:Int))<=(1099511627775:Nat))/\True)/\cz t (aa t) (12:Nat) (List.set (List.replicate x1 (-1:Int)) (0:Nat) (0:Int)) ([]:List (List (List Int)))=aB t (aa t)/\True)
theorem Lr(t:List (List Int)):aP Tryz.prog (ai Dt) aj (Ds t) Tryz.f86 (aF Tryz.f86) [] [.c (.rows .i64 t)] (pV t)=vO t:=by kernel_rfl
theorem Ls(t:List (List Int))(Yh:(pV t).pre):vO t:=by
 simp only[pV,vO,aK,u1,u2,u3,u4,u5,u6,u7,u8,u9,v1,v2,v3,v4,v5,v6,v7,v8,v9,w1,w2,w3,w4,aC,ab,ae,ag,av]at Yh⊢;obtain⟨h1,h2,h3,h4⟩:=Yh;obtain⟨q1,q2,q3⟩:=mO h1;have T:aT t.length t:=⟨rfl,fun x hx=>⟨(q3 x hx).1,fun y hy=>by
  have:=(q3 x hx).2 y hy
  have e2:en t x y=(t.getD x []).getD y 0:=rfl
  omega⟩⟩
 refine⟨⟨0,by omega,rfl,rfl⟩,fun i hi=>⟨fun g=>⟨by omega,by omega,i+1,by omega,by omega,by omega,?_⟩,fun g=>?_⟩⟩
 ·rw[List.replicate_succ']
 ·rw[show i=t.length by omega]
  have NG:=DJ (n:=t.length) (by omega)
  have P:100 ^ ax ((List.replicate t.length (-1)).set 0 0)<=100 ^ 6:=Nat.pow_le_pow_right (by omega) (by omega)
  exact⟨by omega,h1,⟨by omega,by omega,T,h2,h3,Z0.ok wb h2,fun c hc=>by simp at hc,by simp;omega⟩,rfl⟩
theorem Lu:Fits Tryz.prog 86 ⟨[],vN⟩:=by
 refine aW (Γ:=ai Dt) (az EI (az (Lq 12) aJ)) Tryz.func86 fun ds p h hp=>?_
 unfold vN at h;split at h
 ·cases h
  exact⟨aj,Ds _ ,by rw[Lr];exact Ls _  hp⟩
 ·cases h
end Go.Sx
