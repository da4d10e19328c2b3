/- MapC -/
import Derived.Test.YtkmldclpaniclaaGreatMapB
import Derived.Test.YtkmldclpaniclaaGreatCmp
set_option linter.unusedSimpArgs false
set_option linter.unusedVariables false
set_option linter.defProp false
open Go Go.Proofs
namespace Go.Sx
def d7(n:Nat)(a b:D8)(c d:D6):D6×D6×Bool :=
 match gR n a b c d with
 |none=>([],[],false)
 |some (l,r)=>(l,r,true)
def qP{α:Type}(f:Nat->α)(i:Nat):(List.range (i+1)).map f=(List.range i).map f++[f i]:=by rw[Br,Be];rfl
def Zq{n:Nat}{a b:D8}(ha:a.length<=1000)(hb:b.length=a.length)(hn:n<=12)(e f:D6):∀m,m∈aG n a b e f->m.length<=1099511627776:=λm hm=>by
 have key:∀(t:D8) (c:D6) (x:Nat),t.length=a.length->(cC n t c x).length<=1099511627776:=λt c x h=>by
  rw[cC,Gr];have:t.length*(2*n)<=1000*24:=Bb (by omega) (by omega)
  omega
 rcases AH.1 hm with h|h
 ·obtain⟨x,_,rfl⟩:=AJ.1 h;exact key _ _ _ rfl
 ·obtain⟨x,_,rfl⟩:=AJ.1 h;exact key _ _ _ hb
def Zr{n:Nat}{M:D7}{j:Nat}(hj:j<(aW M).length)(h:(cu n (bd M) (aW M).length M.length).getD j 0≠0):kQ n M=false:=by
 rw[kQ,<-C4,Ac];intro q
 exact h (CT (q _ (bN _ 0 j (by rw[kR];exact hj))))
def Zs{n:Nat}{M:D7}(h:∀j,j<(aW M).length->(cu n (bd M) (aW M).length M.length).getD j 0=0):kQ n M=true:=by
 rw[kQ,Ac];intro v hv
 obtain⟨j,hj,rfl⟩:=A7 hv;rw[kR]at hj;exact Ab (by rw[<-bM _ 0 j (by rw[kR];exact hj)];exact h j hj)
def Gu(n:Nat)(cl:D6)(m:Nat):∀(i q:Nat),-(i:Int)<=(cu n cl m i).getD q 0/\(cu n cl m i).getD q 0<=(i:Int)
 |0,q=>by
  have:(cu n cl m 0).getD q 0=0:=by
   by_cases h:q<m<;>simp[cu,AM,h]
  omega
 |i+1,q=>by
  have a:=Gu n cl m i q
  have b:=Gu n cl m i (cl.getD i 0).toNat
  rw[cu];by_cases h:q<(cu n cl m i).length
  ·rw[jb _ _ _ _ h]
   split<;>(try split)<;>omega
  ·have:((cu n cl m i).set (cl.getD i 0).toNat ((cu n cl m i).getD (cl.getD i 0).toNat 0+if i<n then 1 else -1)).getD q 0=0:=by
    rw[AM,BM (by rw[Aj];omega)];rfl
   omega
def vL(a:D8)(b:D8)(c:D6)(d:D6):Post:=⟨a.length<=1000/\b.length=a.length/\1<=c.length/\c.length<=12/\d.length=c.length/\bK c.length a/\bK c.length b/\(∀i,i<c.length->0<=c.getD i 0/\c.getD i 0<=60)/\(∀i,i<c.length->0<=d.getD i 0/\d.getD i 0<=60),.tup [.inl (.ro (.ints .i64 (d7 c.length a b c d).1)),.inl (.ro (.ints .i64 ((d7 c.length a b c d).2.1))),.inl (.bool ((d7 c.length a b c d).2.2))],[]⟩
def vM:List AD->Option Post
 | [.c (.r3 .i64 a),.c (.r3 .i64 b),.c (.ints .i64 c),.c (.ints .i64 d)]=>some (vL a b c d)
 |_=>none
def Pe(a:D8)(b:D8)(c:D6)(d:D6):Nat->Option Ann
 |0=>some (Ann.mk ((Nat)×(Nat)×(D6)×(D6)) (λx=>match x with|(fu,num,e,f)=>⟨[(0,I' a),(1,I' b),(2,D' e),(3,D' f),(11,A' c.length),(12,A' num)],[]⟩) (λx=>match x with|(fu,num,e,f)=>e.length=c.length/\f.length=c.length/\(∀i,i<c.length->0<=e.getD i 0/\e.getD i 0<=60)/\(∀i,i<c.length->0<=f.getD i 0/\f.getD i 0<=60)/\ni e f num/\num<=2*c.length/\2*c.length<fu+num/\gR c.length a b c d=ig c.length a b fu num e f) (λx=>match x with|(fu,num,e,f)=>fu) (λx=>match x with|(fu,num,e,f)=>λb_=>match b_ with|2=>Q' λi=>⟨⟨[(0,I' a),(1,I' b),(2,D' e),(3,D' f),(11,A' c.length),(12,A' num),(13,J' 13),(14,A' i)],[(13,N' (((List.range i).map (cC c.length a e))))]⟩,i<=c.length,c.length-i⟩|4=>Q' λi=>⟨⟨[(0,I' a),(1,I' b),(2,D' e),(3,D' f),(11,A' c.length),(12,A' num),(13,J' 13),(15,A' i)],[(13,N' (((List.range c.length).map (cC c.length a e)++(List.range i).map (cC c.length b f))))]⟩,i<=c.length,c.length-i⟩|6=>T' (λi=>⟨⟨[(0,I' a),(1,I' b),(2,D' e),(3,D' f),(11,A' c.length),(12,A' num),(13,G' (aG c.length a b e f)),(16,J' 16),(17,A' i)],[(16,some (.lst 0 62 (.rows .i64 (aY (aG c.length a b e f) i))))]⟩,i<=2*c.length,2*c.length-i⟩) (λi b_=>match b_ with|8=>Q' λj=>⟨⟨[(0,I' a),(1,I' b),(2,D' e),(3,D' f),(11,A' c.length),(12,A' num),(13,G' (aG c.length a b e f)),(16,J' 16),(17,A' i),(18,A' j)],[(16,some (.lst 0 62 (.rows .i64 (aY (aG c.length a b e f) i))))]⟩,(i<2*c.length/\j<=(aY (aG c.length a b e f) i).length/\(∀j1,j1<j->bw ((aY (aG c.length a b e f) i).getD j1 []) ((aG c.length a b e f).getD i [])=true)),(aY (aG c.length a b e f) i).length-j⟩|1019=>some (Ann.mk ((Unit)) (λu=>⟨[(0,I' a),(1,I' b),(2,D' e),(3,D' f),(11,A' c.length),(12,A' num),(13,G' (aG c.length a b e f)),(16,J' 16),(17,A' i),(18,A' (((de (aY (aG c.length a b e f) i) ((aG c.length a b e f).getD i []):Int))))],[(16,some (.lst 0 62 (.rows .i64 (aY (aG c.length a b e f) i))))]⟩) (λu=>i<2*c.length) (λu=>0) (λ_=>ar))|1020=>some (Ann.mk ((Unit)) (λu=>⟨[(0,I' a),(1,I' b),(2,D' e),(3,D' f),(11,A' c.length),(12,A' num),(13,G' (aG c.length a b e f)),(16,J' 16),(17,A' i),(18,A' (((de (aY (aG c.length a b e f) i) ((aG c.length a b e f).getD i []):Int))))],[(16,some (.lst 0 62 (.rows .i64 (aY (aG c.length a b e f) i))))]⟩) (λu=>i<2*c.length/\¬ (de (aY (aG c.length a b e f) i) ((aG c.length a b e f).getD i [])<(aY (aG c.length a b e f) i).length/\(aY (aG c.length a b e f) i).getD (de (aY (aG c.length a b e f) i) ((aG c.length a b e f).getD i [])) []=(aG c.length a b e f).getD i [])) (λu=>0) (λ_=>ar))|_=>none)|10=>T' (λi=>⟨⟨[(0,I' a),(1,I' b),(2,D' e),(3,D' f),(11,A' c.length),(12,A' num),(13,G' (aG c.length a b e f)),(16,J' 16),(20,J' 20),(21,J' 21),(22,A' i)],[(16,some (.lst 0 62 (.rows .i64 (aW (aG c.length a b e f))))),(20,O' ((cu c.length (bd (aG c.length a b e f)) (aW (aG c.length a b e f)).length i))),(21,O' (((bd (aG c.length a b e f)).take i)))]⟩,i<=2*c.length,2*c.length-i⟩) (λi b_=>match b_ with|12=>Q' λj=>⟨⟨[(0,I' a),(1,I' b),(2,D' e),(3,D' f),(11,A' c.length),(12,A' num),(13,G' (aG c.length a b e f)),(16,J' 16),(20,J' 20),(21,J' 21),(22,A' i),(23,A' j)],[(16,some (.lst 0 62 (.rows .i64 (aW (aG c.length a b e f))))),(20,O' ((cu c.length (bd (aG c.length a b e f)) (aW (aG c.length a b e f)).length i))),(21,O' (((bd (aG c.length a b e f)).take i)))]⟩,(i<2*c.length/\j<(aW (aG c.length a b e f)).length/\(∀j1,j1<j->(aW (aG c.length a b e f)).getD j1 []≠(aG c.length a b e f).getD i [])),(aW (aG c.length a b e f)).length-j⟩|_=>none)|14=>Q' λi=>⟨⟨[(0,I' a),(1,I' b),(2,D' e),(3,D' f),(11,A' c.length),(12,A' num),(16,J' 16),(20,J' 20),(21,J' 21),(24,A' i)],[(16,some (.lst 0 62 (.rows .i64 (aW (aG c.length a b e f))))),(20,O' ((cu c.length (bd (aG c.length a b e f)) (aW (aG c.length a b e f)).length (2*c.length)))),(21,O' (bd (aG c.length a b e f)))]⟩,(i<=(aW (aG c.length a b e f)).length/\(∀j,j<i->(cu c.length (bd (aG c.length a b e f)) (aW (aG c.length a b e f)).length (2*c.length)).getD j 0=0)),(aW (aG c.length a b e f)).length-i⟩|_=>none))
 |_=>none
def Pf:List (Nat×Ctr):=[(223,⟨[],Gs⟩),(203,⟨[],vH⟩),(202,⟨[],qy⟩)]
def aw(a:D8)(b:D8)(c:D6)(x0:Nat×Nat×D6×D6):=(aG c.length a b x0.2.2.1 x0.2.2.2)
def fD(a:D8)(b:D8)(c:D6)(x0:Nat×Nat×D6×D6)(x1:Nat):=(↑(de (aY (aw a b c x0) x1) ((aw a b c x0).getD x1 [])):Int)
def jl(a:D8)(b:D8)(c:D6)(x0:Nat×Nat×D6×D6)(x1:Nat):=(cu c.length (bd (aw a b c x0)) ((aW (aw a b c x0)).length) x1)
def qQ(a:D8)(b:D8)(c:D6)(x0:Nat×Nat×D6×D6):=(cu c.length (bd (aw a b c x0)) ((aW (aw a b c x0)).length) ((2:Nat)*c.length))
def Gv(a:D8)(b:D8)(c:D6)(x0:Nat×Nat×D6×D6)(x1:Nat):=((aw a b c x0).getD (↑x1:Int).toNat []::([]:D7)++List.take (FC.len (FC.rows IntKind.i64 (aY (aw a b c x0) x1))-(fD a b c x0 x1).toNat) (List.drop (fD a b c x0 x1).toNat (aY (aw a b c x0) x1)))
def Gw(a:D8)(b:D8)(c:D6)(d:D6):Prop :=
 ((∃x0:Nat×Nat×D6×D6,((((x0.2.2.1).length=c.length)/\(((x0.2.2.2).length=c.length)/\((∀(i:Nat),i<c.length->(0:Int)<=(x0.2.2.1).getD i (0:Int)/\(x0.2.2.1).getD i (0:Int)<=(60:Int))/\((∀(i:Nat),i<c.length->(0:Int)<=(x0.2.2.2).getD i (0:Int)/\(x0.2.2.2).getD i (0:Int)<=(60:Int))/\((ni x0.2.2.1 x0.2.2.2 x0.2.1)/\((x0.2.1<=(2:Nat)*c.length)/\(((2:Nat)*c.length<x0.1+x0.2.1)/\(gR c.length a b c d=ig c.length a b x0.1 x0.2.1 x0.2.2.1 x0.2.2.2))))))))/\((a=a)/\((b=b)/\((c=x0.2.2.1)/\((d=x0.2.2.2)/\(((↑(c.length):Int)=(↑(c.length):Int))/\((0:Int)=(↑x0.2.1:Int)))))))))/\(∀x1:Nat×Nat×D6×D6,((((x1.2.2.1).length=c.length)/\(((x1.2.2.2).length=c.length)/\((∀(i:Nat),i<c.length->(0:Int)<=(x1.2.2.1).getD i (0:Int)/\(x1.2.2.1).getD i (0:Int)<=(60:Int))/\((∀(i:Nat),i<c.length->(0:Int)<=(x1.2.2.2).getD i (0:Int)/\(x1.2.2.2).getD i (0:Int)<=(60:Int))/\((ni x1.2.2.1 x1.2.2.2 x1.2.1)/\((x1.2.1<=(2:Nat)*c.length)/\(((2:Nat)*c.length<x1.1+x1.2.1)/\(gR c.length a b c d=ig c.length a b x1.1 x1.2.1 x1.2.2.1 x1.2.2.2))))))))->((∃x2:Nat,((x2<=c.length)/\((a=a)/\((b=b)/\((x1.2.2.1=x1.2.2.1)/\((x1.2.2.2=x1.2.2.2)/\(((↑(c.length):Int)=(↑(c.length):Int))/\(((↑x1.2.1:Int)=(↑x1.2.1:Int))/\(((0:Int)=(↑x2:Int))/\(([]:D7)=List.map (cC c.length a x1.2.2.1) (List.range x2)))))))))))/\(∀x3:Nat,((x3<=c.length) ->
 (ab (decide ((↑x3:Int)<(↑(c.length):Int))) ((((a.length<=(1000:Nat))/\(((1:Nat)<=x1.2.2.1.length)/\((x1.2.2.1.length<=(12:Nat))/\((bK x1.2.2.1.length a)/\((∀(i:Nat),i<x1.2.2.1.length->(0:Int)<=x1.2.2.1.getD i (0:Int)/\x1.2.2.1.getD i (0:Int)<=(60:Int))/\(((0:Int)<=(↑x3:Int))/\((↑x3:Int)<(↑(x1.2.2.1.length):Int))))))))/\True)/\((au ((List.map (cC c.length a x1.2.2.1) (List.range x3)).length+(cC x1.2.2.1.length a x1.2.2.1 (↑x3:Int).toNat::([]:D7)).length))/\((ae ((↑x3:Int)+(1:Int)))/\(∃x4:Nat,((x4<=c.length)/\((c.length-x4<c.length-x3)/\((a=a)/\((b=b)/\((x1.2.2.1=x1.2.2.1)/\((x1.2.2.2=x1.2.2.2)/\(((↑(c.length):Int)=(↑(c.length):Int))/\(((↑x1.2.1:Int)=(↑x1.2.1:Int))/\(((↑x3:Int)+(1:Int)=(↑x4:Int))/\(List.map (cC c.length a x1.2.2.1) (List.range x3)++cC x1.2.2.1.length a x1.2.2.1 (↑x3:Int).toNat::([]:D7)=List.map (cC c.length a x1.2.2.1) (List.range x4))))))))))))))) ((∃x5:Nat,((x5<=c.length)/\((a=a)/\((b=b)/\((x1.2.2.1=x1.2.2.1)/\((x1.2.2.2=x1.2.2.2)/\(((↑(c.length):Int)=(↑(c.length):Int))/\(((↑x1.2.1:Int)=(↑x1.2.1:Int))/\(((0:Int)=(↑x5:Int))/\(List.map (cC c.length a x1.2.2.1) (List.range x3)=List.map (cC c.length a x1.2.2.1) (List.range c.length)++List.map (cC c.length b x1.2.2.2) (List.range x5)))))))))))/\(∀x6:Nat,((x6<=c.length)->(ab (decide ((↑x6:Int)<(↑(c.length):Int))) ((((b.length<=(1000:Nat))/\(((1:Nat)<=x1.2.2.2.length) /\
 ((x1.2.2.2.length<=(12:Nat))/\((bK x1.2.2.2.length b)/\((∀(i:Nat),i<x1.2.2.2.length->(0:Int)<=x1.2.2.2.getD i (0:Int)/\x1.2.2.2.getD i (0:Int)<=(60:Int))/\(((0:Int)<=(↑x6:Int))/\((↑x6:Int)<(↑(x1.2.2.2.length):Int))))))))/\True)/\((au ((List.map (cC c.length a x1.2.2.1) (List.range c.length)++List.map (cC c.length b x1.2.2.2) (List.range x6)).length+(cC x1.2.2.2.length b x1.2.2.2 (↑x6:Int).toNat::([]:D7)).length))/\((ae ((↑x6:Int)+(1:Int)))/\(∃x7:Nat,((x7<=c.length)/\((c.length-x7<c.length-x6)/\((a=a)/\((b=b)/\((x1.2.2.1=x1.2.2.1)/\((x1.2.2.2=x1.2.2.2)/\(((↑(c.length):Int)=(↑(c.length):Int))/\(((↑x1.2.1:Int)=(↑x1.2.1:Int))/\(((↑x6:Int)+(1:Int)=(↑x7:Int))/\(List.map (cC c.length a x1.2.2.1) (List.range c.length)++List.map (cC c.length b x1.2.2.2) (List.range x6)++cC x1.2.2.2.length b x1.2.2.2 (↑x6:Int).toNat::([]:D7)=List.map (cC c.length a x1.2.2.1) (List.range c.length)++List.map (cC c.length b x1.2.2.2) (List.range x7))))))))))))))) ((∃x8:Nat,((x8<=(2:Nat)*c.length)/\((a=a)/\((b=b)/\((x1.2.2.1=x1.2.2.1)/\((x1.2.2.2=x1.2.2.2)/\(((↑(c.length):Int)=(↑(c.length):Int))/\(((↑x1.2.1:Int)=(↑x1.2.1:Int))/\((List.map (cC c.length a x1.2.2.1) (List.range c.length)++List.map (cC c.length b x1.2.2.2) (List.range x6)=aG c.length a b x1.2.2.1 x1.2.2.2)/\(((0:Int)=(↑x8:Int))/\(([]:D7)=aY (aw a b c x1) x8))))))))))) /\
 (∀x9:Nat,((x9<=(2:Nat)*c.length)->(ab (decide ((↑x9:Int)<(↑((aG c.length a b x1.2.2.1 x1.2.2.2).length):Int))) (((∃x10:Nat,(((x9<(2:Nat)*c.length)/\((x10<=(aY (aw a b c x1) x9).length)/\(∀(j1:Nat),j1<x10->bw ((aY (aw a b c x1) x9).getD j1 []) ((aw a b c x1).getD x9 [])=true)))/\((a=a)/\((b=b)/\((x1.2.2.1=x1.2.2.1)/\((x1.2.2.2=x1.2.2.2)/\(((↑(c.length):Int)=(↑(c.length):Int))/\(((↑x1.2.1:Int)=(↑x1.2.1:Int))/\((aG c.length a b x1.2.2.1 x1.2.2.2=aG c.length a b x1.2.2.1 x1.2.2.2)/\(((↑x9:Int)=(↑x9:Int))/\(((0:Int)=(↑x10:Int))/\(aY (aw a b c x1) x9=aY (aw a b c x1) x9))))))))))))/\(∀x11:Nat,(((x9<(2:Nat)*c.length)/\((x11<=(aY (aw a b c x1) x9).length)/\(∀(j1:Nat),j1<x11->bw ((aY (aw a b c x1) x9).getD j1 []) ((aw a b c x1).getD x9 [])=true)))->(ab (decide ((↑x11:Int)<(↑(FC.len (FC.rows IntKind.i64 (aY (aG c.length a b x1.2.2.1 x1.2.2.2) x9))):Int))) ((ac (↑x11:Int) (FC.len (FC.rows IntKind.i64 (aY (aw a b c x1) x9))))/\((ac (↑x9:Int) (aw a b c x1).length)/\(((au (((aY (aw a b c x1) x9).getD (↑x11:Int).toNat []).length))/\True)/\(ab (bw ((aY (aG c.length a b x1.2.2.1 x1.2.2.2) x9).getD (↑x11:Int).toNat []) ((aG c.length a b x1.2.2.1 x1.2.2.2).getD (↑x9:Int).toNat [])) ((ae ((↑x11:Int)+(1:Int)))/\(∃x12:Nat,(((x9<(2:Nat)*c.length) /\
 ((x12<=(aY (aw a b c x1) x9).length)/\(∀(j1:Nat),j1<x12->bw ((aY (aw a b c x1) x9).getD j1 []) ((aw a b c x1).getD x9 [])=true)))/\(((aY (aw a b c x1) x9).length-x12<(aY (aw a b c x1) x9).length-x11)/\((a=a)/\((b=b)/\((x1.2.2.1=x1.2.2.1)/\((x1.2.2.2=x1.2.2.2)/\(((↑(c.length):Int)=(↑(c.length):Int))/\(((↑x1.2.1:Int)=(↑x1.2.1:Int))/\((aG c.length a b x1.2.2.1 x1.2.2.2=aG c.length a b x1.2.2.1 x1.2.2.2)/\(((↑x9:Int)=(↑x9:Int))/\(((↑x11:Int)+(1:Int)=(↑x12:Int))/\(aY (aw a b c x1) x9=aY (aw a b c x1) x9)))))))))))))) (∃x13:Unit,((x9<(2:Nat)*c.length)/\((a=a)/\((b=b)/\((x1.2.2.1=x1.2.2.1)/\((x1.2.2.2=x1.2.2.2)/\(((↑(c.length):Int)=(↑(c.length):Int))/\(((↑x1.2.1:Int)=(↑x1.2.1:Int))/\((aG c.length a b x1.2.2.1 x1.2.2.2=aG c.length a b x1.2.2.1 x1.2.2.2)/\(((↑x9:Int)=(↑x9:Int))/\(((↑x11:Int)=(fD a b c x1 x9))/\(aY (aw a b c x1) x9=aY (aw a b c x1) x9)))))))))))))))) (∃x14:Unit,((x9<(2:Nat)*c.length)/\((a=a)/\((b=b)/\((x1.2.2.1=x1.2.2.1)/\((x1.2.2.2=x1.2.2.2)/\(((↑(c.length):Int)=(↑(c.length):Int))/\(((↑x1.2.1:Int)=(↑x1.2.1:Int))/\((aG c.length a b x1.2.2.1 x1.2.2.2=aG c.length a b x1.2.2.1 x1.2.2.2)/\(((↑x9:Int)=(↑x9:Int))/\(((↑x11:Int)=(fD a b c x1 x9))/\(aY (aw a b c x1) x9=aY (aw a b c x1) x9))))))))))))))))/\(∀x15:Unit,((x9<(2:Nat)*c.length) ->
 ((ab (decide ((↑(de (aY (aG c.length a b x1.2.2.1 x1.2.2.2) x9) ((aG c.length a b x1.2.2.1 x1.2.2.2).getD x9 [])):Int)<(↑(FC.len (FC.rows IntKind.i64 (aY (aG c.length a b x1.2.2.1 x1.2.2.2) x9))):Int))) ((ac (fD a b c x1 x9) (FC.len (FC.rows IntKind.i64 (aY (aw a b c x1) x9))))/\((ac (↑x9:Int) (aw a b c x1).length)/\(((au (((aY (aw a b c x1) x9).getD (fD a b c x1 x9).toNat []).length))/\True)/\(ab (decide ((aY (aG c.length a b x1.2.2.1 x1.2.2.2) x9).getD ((↑(de (aY (aG c.length a b x1.2.2.1 x1.2.2.2) x9) ((aG c.length a b x1.2.2.1 x1.2.2.2).getD x9 [])):Int).toNat) []=(aG c.length a b x1.2.2.1 x1.2.2.2).getD (↑x9:Int).toNat [])) ((ae ((↑x9:Int)+(1:Int)))/\(∃x16:Nat,((x16<=(2:Nat)*c.length)/\(((2:Nat)*c.length-x16<(2:Nat)*c.length-x9)/\((a=a)/\((b=b)/\((x1.2.2.1=x1.2.2.1)/\((x1.2.2.2=x1.2.2.2)/\(((↑(c.length):Int)=(↑(c.length):Int))/\(((↑x1.2.1:Int)=(↑x1.2.1:Int))/\((aG c.length a b x1.2.2.1 x1.2.2.2=aG c.length a b x1.2.2.1 x1.2.2.2)/\(((↑x9:Int)+(1:Int)=(↑x16:Int))/\(aY (aw a b c x1) x9=aY (aw a b c x1) x16))))))))))))) (∃x17:Unit,(((x9<(2:Nat)*c.length) /\
 (¬(de (aY (aw a b c x1) x9) ((aw a b c x1).getD x9 [])<(aY (aw a b c x1) x9).length/\(aY (aw a b c x1) x9).getD (de (aY (aw a b c x1) x9) ((aw a b c x1).getD x9 [])) []=(aw a b c x1).getD x9 [])))/\((a=a)/\((b=b)/\((x1.2.2.1=x1.2.2.1)/\((x1.2.2.2=x1.2.2.2)/\(((↑(c.length):Int)=(↑(c.length):Int))/\(((↑x1.2.1:Int)=(↑x1.2.1:Int))/\((aG c.length a b x1.2.2.1 x1.2.2.2=aG c.length a b x1.2.2.1 x1.2.2.2)/\(((↑x9:Int)=(↑x9:Int))/\(((fD a b c x1 x9)=(fD a b c x1 x9))/\(aY (aw a b c x1) x9=aY (aw a b c x1) x9)))))))))))))))) (∃x18:Unit,(((x9<(2:Nat)*c.length)/\(¬(de (aY (aw a b c x1) x9) ((aw a b c x1).getD x9 [])<(aY (aw a b c x1) x9).length/\(aY (aw a b c x1) x9).getD (de (aY (aw a b c x1) x9) ((aw a b c x1).getD x9 [])) []=(aw a b c x1).getD x9 [])))/\((a=a)/\((b=b)/\((x1.2.2.1=x1.2.2.1)/\((x1.2.2.2=x1.2.2.2)/\(((↑(c.length):Int)=(↑(c.length):Int))/\(((↑x1.2.1:Int)=(↑x1.2.1:Int))/\((aG c.length a b x1.2.2.1 x1.2.2.2=aG c.length a b x1.2.2.1 x1.2.2.2)/\(((↑x9:Int)=(↑x9:Int))/\(((fD a b c x1 x9)=(fD a b c x1 x9))/\(aY (aw a b c x1) x9=aY (aw a b c x1) x9)))))))))))))/\(∀x19:Unit,(((x9<(2:Nat)*c.length) /\
 (¬(de (aY (aw a b c x1) x9) ((aw a b c x1).getD x9 [])<(aY (aw a b c x1) x9).length/\(aY (aw a b c x1) x9).getD (de (aY (aw a b c x1) x9) ((aw a b c x1).getD x9 [])) []=(aw a b c x1).getD x9 [])))->((ac (↑x9:Int) (aw a b c x1).length)/\((bS (FC.len (FC.rows IntKind.i64 (aY (aw a b c x1) x9))) (Option.some (fD a b c x1 x9)) Option.none)/\((au (FC.len (FC.rows IntKind.i64 ((aw a b c x1).getD (↑x9:Int).toNat []::([]:D7)))+FC.len (FC.rows IntKind.i64 (List.take (FC.len (FC.rows IntKind.i64 (aY (aw a b c x1) x9))-(fD a b c x1 x9).toNat) (List.drop (fD a b c x1 x9).toNat (aY (aw a b c x1) x9))))))/\((bS (FC.len (FC.rows IntKind.i64 (aY (aw a b c x1) x9))) Option.none (Option.some (fD a b c x1 x9)))/\((au (([]:D7).length+FC.len (FC.rows IntKind.i64 (List.take (fD a b c x1 x9).toNat (List.drop (0:Nat) (aY (aw a b c x1) x9))))))/\((au (FC.len (FC.rows IntKind.i64 (([]:D7)++List.take (fD a b c x1 x9).toNat (List.drop (0:Nat) (aY (aw a b c x1) x9))))+FC.len (FC.rows IntKind.i64 (Gv a b c x1 x9))))/\((ae ((↑x9:Int)+(1:Int)))/\(∃x20:Nat,((x20<=(2:Nat)*c.length)/\(((2:Nat)*c.length-x20<(2:Nat)*c.length-x9)/\((a=a)/\((b=b)/\((x1.2.2.1=x1.2.2.1) /\
 ((x1.2.2.2=x1.2.2.2)/\(((↑(c.length):Int)=(↑(c.length):Int))/\(((↑x1.2.1:Int)=(↑x1.2.1:Int))/\((aG c.length a b x1.2.2.1 x1.2.2.2=aG c.length a b x1.2.2.1 x1.2.2.2)/\(((↑x9:Int)+(1:Int)=(↑x20:Int))/\(([]:D7)++List.take (fD a b c x1 x9).toNat (List.drop (0:Nat) (aY (aw a b c x1) x9))++(Gv a b c x1 x9)=aY (aw a b c x1) x20))))))))))))))))))))))))) ((((0:Int)<=(↑(FC.len (FC.rows IntKind.i64 (aY (aw a b c x1) x9))):Int))/\(((↑(FC.len (FC.rows IntKind.i64 (aY (aw a b c x1) x9))):Int)<=(↑(FC.len (FC.rows IntKind.i64 (aY (aw a b c x1) x9))):Int))/\(au ((↑(FC.len (FC.rows IntKind.i64 (aY (aw a b c x1) x9))):Int).toNat))))/\((∃x21:Nat,((x21<=(2:Nat)*c.length)/\((a=a)/\((b=b)/\((x1.2.2.1=x1.2.2.1)/\((x1.2.2.2=x1.2.2.2)/\(((↑(c.length):Int)=(↑(c.length):Int))/\(((↑x1.2.1:Int)=(↑x1.2.1:Int))/\((aG c.length a b x1.2.2.1 x1.2.2.2=aG c.length a b x1.2.2.1 x1.2.2.2)/\(((0:Int)=(↑x21:Int))/\((aY (aw a b c x1) x9=aW (aw a b c x1))/\((List.replicate ((↑(FC.len (FC.rows IntKind.i64 (aY (aw a b c x1) x9))):Int).toNat) (0:Int)=cu c.length (bd (aw a b c x1)) ((aW (aw a b c x1)).length) x21)/\([]=List.take x21 (bd (aw a b c x1)))))))))))))))/\(∀x22:Nat,((x22<=(2:Nat)*c.length)->(ab (decide ((↑x22:Int)<(↑((aG c.length a b x1.2.2.1 x1.2.2.2).length):Int)))
 ((∃x23:Nat,(((x22<(2:Nat)*c.length)/\((x23<(aW (aw a b c x1)).length)/\(∀(j1:Nat),j1<x23->(aW (aw a b c x1)).getD j1 []≠(aw a b c x1).getD x22 [])))/\((a=a)/\((b=b)/\((x1.2.2.1=x1.2.2.1)/\((x1.2.2.2=x1.2.2.2)/\(((↑(c.length):Int)=(↑(c.length):Int))/\(((↑x1.2.1:Int)=(↑x1.2.1:Int))/\((aG c.length a b x1.2.2.1 x1.2.2.2=aG c.length a b x1.2.2.1 x1.2.2.2)/\(((↑x22:Int)=(↑x22:Int))/\(((0:Int)=(↑x23:Int))/\((aW (aw a b c x1)=aW (aw a b c x1))/\((cu c.length (bd (aw a b c x1)) ((aW (aw a b c x1)).length) x22=cu c.length (bd (aw a b c x1)) ((aW (aw a b c x1)).length) x22)/\(List.take x22 (bd (aw a b c x1))=List.take x22 (bd (aw a b c x1))))))))))))))))/\(∀x24:Nat,(((x22<(2:Nat)*c.length)/\((x24<(aW (aw a b c x1)).length)/\(∀(j1:Nat),j1<x24->(aW (aw a b c x1)).getD j1 []≠(aw a b c x1).getD x22 [])))->((ac (↑x24:Int) (FC.len (FC.rows IntKind.i64 (aW (aw a b c x1)))))/\((ac (↑x22:Int) (aw a b c x1).length)/\(((au (((aW (aw a b c x1)).getD (↑x24:Int).toNat []).length))/\True)/\(ab (!decide ((aW (aG c.length a b x1.2.2.1 x1.2.2.2)).getD (↑x24:Int).toNat []=(aG c.length a b x1.2.2.1 x1.2.2.2).getD (↑x22:Int).toNat [])) ((ae ((↑x24:Int)+(1:Int)))/\(∃x25:Nat,(((x22<(2:Nat)*c.length) /\
 ((x25<(aW (aw a b c x1)).length)/\(∀(j1:Nat),j1<x25->(aW (aw a b c x1)).getD j1 []≠(aw a b c x1).getD x22 [])))/\(((aW (aw a b c x1)).length-x25<(aW (aw a b c x1)).length-x24)/\((a=a)/\((b=b)/\((x1.2.2.1=x1.2.2.1)/\((x1.2.2.2=x1.2.2.2)/\(((↑(c.length):Int)=(↑(c.length):Int))/\(((↑x1.2.1:Int)=(↑x1.2.1:Int))/\((aG c.length a b x1.2.2.1 x1.2.2.2=aG c.length a b x1.2.2.1 x1.2.2.2)/\(((↑x22:Int)=(↑x22:Int))/\(((↑x24:Int)+(1:Int)=(↑x25:Int))/\((aW (aw a b c x1)=aW (aw a b c x1))/\((cu c.length (bd (aw a b c x1)) ((aW (aw a b c x1)).length) x22=cu c.length (bd (aw a b c x1)) ((aW (aw a b c x1)).length) x22)/\(List.take x22 (bd (aw a b c x1))=List.take x22 (bd (aw a b c x1)))))))))))))))))) ((au ((List.take x22 (bd (aw a b c x1))).length+[(↑x24:Int)].length))/\(ab (decide ((↑x22:Int)<(↑(c.length):Int))) ((ac (↑x24:Int) (jl a b c x1 x22).length)/\((ae ((jl a b c x1 x22).getD (↑x24:Int).toNat (0:Int)+(1:Int)))/\((ac (↑x24:Int) (jl a b c x1 x22).length)/\((ae ((↑x22:Int)+(1:Int)))/\(∃x26:Nat,((x26<=(2:Nat)*c.length)/\(((2:Nat)*c.length-x26<(2:Nat)*c.length-x22)/\((a=a)/\((b=b)/\((x1.2.2.1=x1.2.2.1)/\((x1.2.2.2=x1.2.2.2)/\(((↑(c.length):Int)=(↑(c.length):Int))/\(((↑x1.2.1:Int)=(↑x1.2.1:Int)) /\
 ((aG c.length a b x1.2.2.1 x1.2.2.2=aG c.length a b x1.2.2.1 x1.2.2.2)/\(((↑x22:Int)+(1:Int)=(↑x26:Int))/\((aW (aw a b c x1)=aW (aw a b c x1))/\((List.set (jl a b c x1 x22) (↑x24:Int).toNat ((jl a b c x1 x22).getD (↑x24:Int).toNat (0:Int)+(1:Int))=cu c.length (bd (aw a b c x1)) ((aW (aw a b c x1)).length) x26)/\(List.take x22 (bd (aw a b c x1))++[(↑x24:Int)]=List.take x26 (bd (aw a b c x1)))))))))))))))))))) ((ac (↑x24:Int) (jl a b c x1 x22).length)/\((ae ((jl a b c x1 x22).getD (↑x24:Int).toNat (0:Int)-(1:Int)))/\((ac (↑x24:Int) (jl a b c x1 x22).length)/\((ae ((↑x22:Int)+(1:Int)))/\(∃x27:Nat,((x27<=(2:Nat)*c.length)/\(((2:Nat)*c.length-x27<(2:Nat)*c.length-x22)/\((a=a)/\((b=b)/\((x1.2.2.1=x1.2.2.1)/\((x1.2.2.2=x1.2.2.2)/\(((↑(c.length):Int)=(↑(c.length):Int))/\(((↑x1.2.1:Int)=(↑x1.2.1:Int))/\((aG c.length a b x1.2.2.1 x1.2.2.2=aG c.length a b x1.2.2.1 x1.2.2.2)/\(((↑x22:Int)+(1:Int)=(↑x27:Int))/\((aW (aw a b c x1)=aW (aw a b c x1))/\((List.set (jl a b c x1 x22) (↑x24:Int).toNat ((jl a b c x1 x22).getD (↑x24:Int).toNat (0:Int)-(1:Int))=cu c.length (bd (aw a b c x1)) ((aW (aw a b c x1)).length) x27) /\
 (List.take x22 (bd (aw a b c x1))++[(↑x24:Int)]=List.take x27 (bd (aw a b c x1))))))))))))))))))))))))))))) ((∃x28:Nat,(((x28<=(aW (aw a b c x1)).length)/\(∀(j:Nat),j<x28->(qQ a b c x1).getD j (0:Int)=(0:Int)))/\((a=a)/\((b=b)/\((x1.2.2.1=x1.2.2.1)/\((x1.2.2.2=x1.2.2.2)/\(((↑(c.length):Int)=(↑(c.length):Int))/\(((↑x1.2.1:Int)=(↑x1.2.1:Int))/\(((0:Int)=(↑x28:Int))/\((aW (aw a b c x1)=aW (aw a b c x1))/\((cu c.length (bd (aw a b c x1)) ((aW (aw a b c x1)).length) x22=cu c.length (bd (aw a b c x1)) ((aW (aw a b c x1)).length) ((2:Nat)*c.length))/\(List.take x22 (bd (aw a b c x1))=bd (aw a b c x1)))))))))))))/\(∀x29:Nat,(((x29<=(aW (aw a b c x1)).length)/\(∀(j:Nat),j<x29->(qQ a b c x1).getD j (0:Int)=(0:Int)))->(ab (decide ((↑x29:Int)<(↑((cu c.length (bd (aG c.length a b x1.2.2.1 x1.2.2.2)) ((aW (aG c.length a b x1.2.2.1 x1.2.2.2)).length) ((2:Nat)*c.length)).length):Int))) ((ac (↑x29:Int) (qQ a b c x1).length)/\(ab ((cu c.length (bd (aG c.length a b x1.2.2.1 x1.2.2.2)) ((aW (aG c.length a b x1.2.2.1 x1.2.2.2)).length) ((2:Nat)*c.length)).getD (↑x29:Int).toNat (0:Int) != (0:Int)) (((FC.len (FC.ints IntKind.i64 (d7 c.length a b c d).1)=(0:Nat))/\((FC.len (FC.ints IntKind.i64 (((d7 c.length a b c d).2).1))=(0:Nat)) /\
 ((false=((d7 c.length a b c d).2).2)/\True)))/\True) ((ae ((↑x29:Int)+(1:Int)))/\(∃x30:Nat,(((x30<=(aW (aw a b c x1)).length)/\(∀(j:Nat),j<x30->(qQ a b c x1).getD j (0:Int)=(0:Int)))/\(((aW (aw a b c x1)).length-x30<(aW (aw a b c x1)).length-x29)/\((a=a)/\((b=b)/\((x1.2.2.1=x1.2.2.1)/\((x1.2.2.2=x1.2.2.2)/\(((↑(c.length):Int)=(↑(c.length):Int))/\(((↑x1.2.1:Int)=(↑x1.2.1:Int))/\(((↑x29:Int)+(1:Int)=(↑x30:Int))/\((aW (aw a b c x1)=aW (aw a b c x1))/\((cu c.length (bd (aw a b c x1)) ((aW (aw a b c x1)).length) ((2:Nat)*c.length)=cu c.length (bd (aw a b c x1)) ((aW (aw a b c x1)).length) ((2:Nat)*c.length))/\(bd (aw a b c x1)=bd (aw a b c x1))))))))))))))))) ((bS ((bd (aw a b c x1)).length) Option.none (Option.some (↑(c.length):Int)))/\((bS ((bd (aw a b c x1)).length) (Option.some (↑(c.length):Int)) Option.none)/\(ab ((↑(FC.len (FC.rows IntKind.i64 (aW (aG c.length a b x1.2.2.1 x1.2.2.2)))):Int) == (↑x1.2.1:Int)) (((List.take ((↑(c.length):Int).toNat) (List.drop (0:Nat) (bd (aw a b c x1)))=(d7 c.length a b c d).1)/\((List.take ((bd (aw a b c x1)).length-(↑(c.length):Int).toNat) (List.drop ((↑(c.length):Int).toNat) (bd (aw a b c x1)))=((d7 c.length a b c d).2).1)/\((true=((d7 c.length a b c d).2).2)/\True)))/\True)
 (∃x31:Nat×Nat×D6×D6,((((x31.2.2.1).length=c.length)/\(((x31.2.2.2).length=c.length)/\((∀(i:Nat),i<c.length->(0:Int)<=(x31.2.2.1).getD i (0:Int)/\(x31.2.2.1).getD i (0:Int)<=(60:Int))/\((∀(i:Nat),i<c.length->(0:Int)<=(x31.2.2.2).getD i (0:Int)/\(x31.2.2.2).getD i (0:Int)<=(60:Int))/\((ni x31.2.2.1 x31.2.2.2 x31.2.1)/\((x31.2.1<=(2:Nat)*c.length)/\(((2:Nat)*c.length<x31.1+x31.2.1)/\(gR c.length a b c d=ig c.length a b x31.1 x31.2.1 x31.2.2.1 x31.2.2.2))))))))/\((x31.1<x1.1)/\((a=a)/\((b=b)/\((List.take ((↑(c.length):Int).toNat) (List.drop (0:Nat) (bd (aw a b c x1)))=x31.2.2.1)/\((List.take ((bd (aw a b c x1)).length-(↑(c.length):Int).toNat) (List.drop ((↑(c.length):Int).toNat) (bd (aw a b c x1)))=x31.2.2.2)/\(((↑(c.length):Int)=(↑(c.length):Int))/\((↑(FC.len (FC.rows IntKind.i64 (aW (aw a b c x1)))):Int)=(↑x31.2.1:Int)))))))))))))))))))))))))))))))))))))
def Zt(a:D8)(b:D8)(c:D6)(d:D6):aP Tryz.prog (ah Pf) aj (Pe a b c d) Tryz.f177 (aI Tryz.f177) [] [.c (.r3 .i64 a),.c (.r3 .i64 b),.c (.ints .i64 c),.c (.ints .i64 d)] (vL a b c d)=Gw a b c d:=by kernel_rfl
set_option maxHeartbeats 1000000 in
def Zu(a:D8)(b:D8)(c:D6)(d:D6)(ξ:(vL a b c d).pre):Gw a b c d:=by
 simp only[vL,Gw,aw,fD,jl,qQ,Gv,aO]at ξ⊢;simp only[FC.len];obtain⟨h1,h2,h3,h4,h5,h6,h7,h8,h9⟩:=ξ;refine⟨⟨⟨2*c.length+1,0,c,d⟩,⟨rfl,h5,h8,h9,λi hi=>absurd hi (Nat.not_lt_zero i),Nat.zero_le _,by dsimp only;omega,rfl⟩,rfl,rfl,rfl⟩,λ⟨fu,num,e,f⟩ ⟨e1,e2,e3,e4,e5,e6,e7,e8⟩=>?_⟩
 dsimp only at e1 e2 e3 e4 e5 e6 e7 e8⊢;refine⟨⟨0,by omega,rfl,rfl⟩,λi hi=>⟨λhi2=>?_,λhi2=>?_⟩⟩
 ·refine⟨⟨by omega,by omega,by omega,by rw[e1];exact h6,by rw[e1];exact e3,by omega,by omega⟩,by simp;omega,by omega,i+1,by omega,by omega,by omega,?_⟩
  rw[qP,e1]
 rw[show i=c.length by omega]
 refine⟨⟨0,by omega,rfl,by simp⟩,λi hi=>⟨λhi2=>?_,λhi2=>?_⟩⟩
 ·refine⟨⟨by omega,by omega,by omega,by rw[e2];exact h7,by rw[e2];exact e4,by omega,by omega⟩,by simp;omega,by omega,i+1,by omega,by omega,by omega,?_⟩
  rw[qP,e2,Ap]
 rw[show i=c.length by omega]
 have ML:=qU c.length a b e f
 have MR:=Zq h1 h2 h4 e f
 have MD:(List.range c.length).map (cC c.length a e)++(List.range c.length).map (cC c.length b f)=aG c.length a b e f:=rfl
 rw[MD];have S:nh c.length a b e f=if kQ c.length (aG c.length a b e f)=true then some ((bd (aG c.length a b e f)).take c.length,(bd (aG c.length a b e f)).drop c.length,(aW (aG c.length a b e f)).length)else none:=rfl
 have MO:=PN (n:=c.length) (a:=a) (b:=b) e1 e2 e5
 generalize aG c.length a b e f=M at *
 refine⟨⟨0,by omega,rfl,rfl,rfl⟩,λi hi=>⟨λhi2=>?_,λhi2=>?_⟩⟩
 ·have KL:=GO M i
  have KR:∀j,j<(aY M i).length->((aY M i).getD j []).length<=1099511627776:=λj hj=>by
   obtain⟨q,hq,e⟩:=(GP M _ i).1 (bN _ [] j hj);rw[e];exact MR _ (bN _ [] q (by omega))
  have KS:aY M (i+1)=gt (aY M i) (M.getD i []):=rfl
  generalize aY M i=K at *
  have MI:=MR _ (bN M [] i (by omega))
  generalize M.getD i []=m at *
  have PL:=Pw K m
  refine⟨⟨⟨0,⟨by omega,by omega,λj q=>by omega⟩,rfl⟩,λj ⟨j1,j2,j3⟩=>⟨λhj=>⟨by omega,by omega,KR j (by omega),λq=>⟨by omega,j+1,⟨by omega,by omega,λj4 q4=>?_⟩,by omega,by omega⟩,λq=>?_⟩,λhj=>?_⟩⟩,?_⟩
  ·by_cases z:j4=j
   ·subst z;exact q
   ·exact j3 j4 (by omega)
  ·exact⟨⟨⟩,by omega,by rw[GL K m j j3 j2 (λ_=>q)]⟩
  ·exact⟨⟨⟩,by omega,by rw[GL K m j j3 j2 (λz=>absurd z (by omega))]⟩
  ·refine λ_ _=>⟨⟨λq=>⟨by omega,by omega,KR _ (by omega),λz=>⟨by omega,i+1,by omega,by omega,by omega,?_⟩,λz=>⟨⟨⟩,by omega,λy=>z y.2⟩⟩,λq=>⟨⟨⟩,by omega,λy=>q (by omega)⟩⟩,λ_ ⟨_,hn⟩=>?_⟩
   ·rw[KS,gt,AA ⟨by omega,z⟩]
   ·have e1:List.take (de K m) (List.drop 0 K)=K.take (de K m):=rfl
    have e2:List.take (K.length-de K m) (List.drop (de K m) K)=K.drop (de K m):=AU (by rw[BD];omega)
    simp only[bS,e1,e2,Bo,AR,Ag,AP,BD,BT];refine⟨by omega,by omega,by omega,by omega,by omega,by omega,by omega,i+1,by omega,by omega,by omega,?_⟩
    rw[KS,gt,AB hn];rfl
 have KE:aY M i=aW M:=by rw[aW,show i=M.length by omega]
 rw[KE];have CL:=pe M
 have KL:=PB M
 have KR:∀j,j<(aW M).length->((aW M).getD j []).length<=1099511627776:=λj hj=>MR _ (pc.1 (bN _ [] j hj))
 refine⟨⟨by omega,by omega,by omega⟩,⟨0,by omega,rfl,rfl,rfl,rfl⟩,λi hi=>⟨λhi2=>?_,λhi2=>?_⟩⟩
 ·have mem:M.getD i []∈aW M:=pc.2 (bN M [] i (by omega))
  have ID:=kP mem
  have CI:=qV M (i:=i) (by omega)
  refine⟨⟨0,⟨by omega,by omega,λj q=>by omega⟩,rfl⟩,λj ⟨j1,j2,j3⟩=>⟨by omega,by omega,KR j j2,λq=>⟨by omega,j+1,⟨by omega,?_,λj4 q4=>?_⟩,by omega,by omega⟩,λq=>?_⟩⟩
  ·refine Ax λz=>?_
   have:eH (aW M) (M.getD i [])<=j:=by omega
   by_cases y:eH (aW M) (M.getD i [])=j
   ·rw[<-y]at q;exact q ID.2
   ·exact j3 _ (by omega) ID.2
  ·by_cases z:j4=j
   ·subst z;exact q
   ·exact j3 j4 (by omega)
  ·have ej:eH (aW M) (M.getD i [])=j:=qS j j3 j2 q
   rw[ej]at CI;have TK:(bd M).take i++[(j:Int)]=(bd M).take (i+1):=by rw[<-CI,dZ _ 0 i (by omega)]
   have CN:=Gu c.length (bd M) (aW M).length i j
   have CS:cu c.length (bd M) (aW M).length (i+1)=(cu c.length (bd M) (aW M).length i).set j ((cu c.length (bd M) (aW M).length i).getD j 0+if i<c.length then 1 else -1):=by rw[cu,CI];rfl
   have NL:=kR c.length (bd M) (aW M).length i
   refine⟨by simp;omega,λz=>⟨by omega,by omega,by omega,by omega,i+1,by omega,by omega,by omega,?_,TK⟩,λz=>⟨by omega,by omega,by omega,by omega,i+1,by omega,by omega,by omega,?_,TK⟩⟩
   ·rw[CS,AA (by omega)]
   ·rw[CS,AB (by omega)];rfl
 have ei:i=2*c.length:=by omega
 subst ei;have NL:=kR c.length (bd M) (aW M).length (2*c.length)
 rw[<-ML]at NL⊢;rw[AU (l:=bd M) (by omega)]
 obtain⟨fu,rfl⟩:∃m,fu=m+1:=⟨fu-1,by omega⟩
 refine⟨⟨0,⟨by omega,λj q=>by omega⟩,rfl,rfl,rfl⟩,λi ⟨hi,iz⟩=>⟨λhi2=>⟨by omega,λq=>?_,λq=>⟨by omega,i+1,⟨by omega,λj z=>?_⟩,by omega,by omega⟩⟩,λhi2=>?_⟩⟩
 ·have R:d7 c.length a b c d=([],[],false):=by rw[d7,e8,ig,S,AB (by rw[Zr (by omega) q];simp)]
  rw[R];exact⟨rfl,rfl,rfl⟩
 ·by_cases y:j=i
  ·subst y;exact q
  ·exact iz j (by omega)
 ·have EV:kQ c.length M=true:=Zs λj hj=>iz j (by omega)
  rw[AA EV]at S;have t1:List.take c.length (List.drop 0 (bd M))=(bd M).take c.length:=rfl
  have t2:List.take ((bd M).length-c.length) (List.drop c.length (bd M))=(bd M).drop c.length:=AU (by rw[BD];omega)
  rw[t1,t2];obtain⟨q1,q2,q3,q4,q5,q6⟩:=GV S;refine⟨by omega,by omega,λq=>?_,λq=>⟨⟨fu,(aW M).length,(bd M).take c.length,(bd M).drop c.length⟩,⟨q1,q2,λx hx=>?_,λx hx=>?_,q4,?_,?_,?_⟩,by omega,rfl,rfl,rfl⟩⟩
  ·have R:d7 c.length a b c d=((bd M).take c.length,(bd M).drop c.length,true):=by rw[d7,e8,ig,S];simp only;rw[AA (by omega)]
   rw[R];exact⟨rfl,rfl,rfl⟩
  ·have:=q5 x hx;dsimp only;omega
  ·have:=q6 x hx;dsimp only;omega
  ·dsimp only;omega
  ·dsimp only;omega
  ·dsimp only;rw[e8,ig,S];simp only;rw[if_neg (by omega)]
def Pg:Fits Tryz.prog 177 ⟨[],vM⟩:=by
 refine aQ (Γ:=ah Pf) (aq Zp (aq O6 (aq Fn aN))) Tryz.func177 λds p h hp=>?_
 unfold vM at h;split at h
 ·cases h
  exact⟨aj,Pe _ _ _ _ ,by rw[Zt];exact Zu _ _ _ _  hp⟩
 ·cases h
end Go.Sx
