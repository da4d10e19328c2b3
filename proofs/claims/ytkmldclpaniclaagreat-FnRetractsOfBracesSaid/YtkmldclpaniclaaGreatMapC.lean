/- MapC -/
import Derived.Test.YtkmldclpaniclaaGreatCmp
set_option linter.unusedSimpArgs false
set_option linter.unusedVariables false
set_option linter.defProp false
open Go Go.Proofs
namespace Go.Sx
def dO(n:Nat)(a b:Dd)(c d:Db):Db×Db×Bool :=
 match gF n a b c d with
 |none=>([],[],false)
 |some (l,r)=>(l,r,true)
theorem t8{α:Type}(f:Nat->α)(i:Nat):(List.range (i+1)).map f=(List.range i).map f++[f i]:=by rw[BR,BZ];rfl
theorem UV{n:Nat}{a b:Dd}(ha:a.length<=1000)(hb:b.length=a.length)(hn:n<=12)(e f:Db):∀m,m∈aC n a b e f->m.length<=1099511627776:=fun m hm=>by
 have key:∀(t:Dd) (c:Db) (x:Nat),t.length=a.length->(cu n t c x).length<=1099511627776:=fun t c x h=>by
  rw[cu,zu];have:t.length*(2*n)<=1000*24:=BO (by omega) (by omega)
  omega
 rcases AL.1 hm with h|h
 ·obtain⟨x,_,rfl⟩:=AT.1 h;exact key _ _ _ rfl
 ·obtain⟨x,_,rfl⟩:=AT.1 h;exact key _ _ _ hb
theorem UW{n:Nat}{M:Dc}{j:Nat}(hj:j<(aQ M).length)(h:(co n (aY M) (aQ M).length M.length).getD j 0≠0):kB n M=false:=by
 rw[kB,<-CU,AM];intro q
 exact h (BS (q _ (cU _ 0 j (by rw[kC];exact hj))))
theorem UX{n:Nat}{M:Dc}(h:∀j,j<(aQ M).length->(co n (aY M) (aQ M).length M.length).getD j 0=0):kB n M=true:=by
 rw[kB,AM];intro v hv
 obtain⟨j,hj,rfl⟩:=Ay hv;rw[kC]at hj;exact AY (by rw[<-cg _ 0 j (by rw[kC];exact hj)];exact h j hj)
theorem D7(n:Nat)(cl:Db)(m:Nat):∀(i q:Nat),-(i:Int)<=(co n cl m i).getD q 0/\(co n cl m i).getD q 0<=(i:Int)
 |0,q=>by
  have:(co n cl m 0).getD q 0=0:=by
   by_cases h:q<m<;>simp[co,AN,h]
  omega
 |i+1,q=>by
  have a:=D7 n cl m i q
  have b:=D7 n cl m i (cl.getD i 0).toNat
  rw[co];by_cases h:q<(co n cl m i).length
  ·rw[kq _ _ _ _ h]
   split<;>(try split)<;>omega
  ·have:((co n cl m i).set (cl.getD i 0).toNat ((co n cl m i).getD (cl.getD i 0).toNat 0+if i<n then 1 else -1)).getD q 0=0:=by
    rw[AN,A7 (by rw[Ai];omega)];rfl
   omega
def t9(a:Dd)(b:Dd)(c:Db)(d:Db):Post:=⟨a.length<=1000/\b.length=a.length/\1<=c.length/\c.length<=12/\d.length=c.length/\bN c.length a/\bN c.length b/\(∀i,i<c.length->0<=c.getD i 0/\c.getD i 0<=60)/\(∀i,i<c.length->0<=d.getD i 0/\d.getD i 0<=60),.tup [.inl (.ro (.ints .i64 (dO c.length a b c d).1)),.inl (.ro (.ints .i64 ((dO c.length a b c d).2.1))),.inl (.bool ((dO c.length a b c d).2.2))],[]⟩
def ub:List AD->Option Post
 | [.c (.r3 .i64 a),.c (.r3 .i64 b),.c (.ints .i64 c),.c (.ints .i64 d)]=>some (t9 a b c d)
 |_=>none
def LR(a:Dd)(b:Dd)(c:Db)(d:Db):Nat->Option Ann
 |0=>some (Ann.mk ((Nat)×(Nat)×(Db)×(Db)) (fun x=>match x with|(fu,num,e,f)=>⟨[(0,J' a),(1,J' b),(2,G' e),(3,G' f),(11,D' c.length),(12,D' num)],[]⟩) (fun x=>match x with|(fu,num,e,f)=>e.length=c.length/\f.length=c.length/\(∀i,i<c.length->0<=e.getD i 0/\e.getD i 0<=60)/\(∀i,i<c.length->0<=f.getD i 0/\f.getD i 0<=60)/\mF e f num/\num<=2*c.length/\2*c.length<fu+num/\gF c.length a b c d=g4 c.length a b fu num e f) (fun x=>match x with|(fu,num,e,f)=>fu) (fun x=>match x with|(fu,num,e,f)=>fun b_=>match b_ with|2=>U' fun i=>⟨⟨[(0,J' a),(1,J' b),(2,G' e),(3,G' f),(11,D' c.length),(12,D' num),(13,M' 13),(14,D' i)],[(13,O' (((List.range i).map (cu c.length a e))))]⟩,i<=c.length,c.length-i⟩|4=>U' fun i=>⟨⟨[(0,J' a),(1,J' b),(2,G' e),(3,G' f),(11,D' c.length),(12,D' num),(13,M' 13),(15,D' i)],[(13,O' (((List.range c.length).map (cu c.length a e)++(List.range i).map (cu c.length b f))))]⟩,i<=c.length,c.length-i⟩|6=>V' (fun i=>⟨⟨[(0,J' a),(1,J' b),(2,G' e),(3,G' f),(11,D' c.length),(12,D' num),(13,I' (aC c.length a b e f)),(16,M' 16),(17,D' i)],[(16,some (.lst 0 62 (.rows .i64 (aU (aC c.length a b e f) i))))]⟩,i<=2*c.length,2*c.length-i⟩) (fun i b_=>match b_ with|8=>U' fun j=>⟨⟨[(0,J' a),(1,J' b),(2,G' e),(3,G' f),(11,D' c.length),(12,D' num),(13,I' (aC c.length a b e f)),(16,M' 16),(17,D' i),(18,D' j)],[(16,some (.lst 0 62 (.rows .i64 (aU (aC c.length a b e f) i))))]⟩,(i<2*c.length/\j<=(aU (aC c.length a b e f) i).length/\(∀j1,j1<j->bj ((aU (aC c.length a b e f) i).getD j1 []) ((aC c.length a b e f).getD i [])=true)),(aU (aC c.length a b e f) i).length-j⟩|1019=>some (Ann.mk ((Unit)) (fun u=>⟨[(0,J' a),(1,J' b),(2,G' e),(3,G' f),(11,D' c.length),(12,D' num),(13,I' (aC c.length a b e f)),(16,M' 16),(17,D' i),(18,D' (((bO (aU (aC c.length a b e f) i) ((aC c.length a b e f).getD i []):Int))))],[(16,some (.lst 0 62 (.rows .i64 (aU (aC c.length a b e f) i))))]⟩) (fun u=>i<2*c.length) (fun u=>0) (fun _=>ak))|1020=>some (Ann.mk ((Unit)) (fun u=>⟨[(0,J' a),(1,J' b),(2,G' e),(3,G' f),(11,D' c.length),(12,D' num),(13,I' (aC c.length a b e f)),(16,M' 16),(17,D' i),(18,D' (((bO (aU (aC c.length a b e f) i) ((aC c.length a b e f).getD i []):Int))))],[(16,some (.lst 0 62 (.rows .i64 (aU (aC c.length a b e f) i))))]⟩) (fun u=>i<2*c.length/\¬ (bO (aU (aC c.length a b e f) i) ((aC c.length a b e f).getD i [])<(aU (aC c.length a b e f) i).length/\(aU (aC c.length a b e f) i).getD (bO (aU (aC c.length a b e f) i) ((aC c.length a b e f).getD i [])) []=(aC c.length a b e f).getD i [])) (fun u=>0) (fun _=>ak))|_=>none)|10=>V' (fun i=>⟨⟨[(0,J' a),(1,J' b),(2,G' e),(3,G' f),(11,D' c.length),(12,D' num),(13,I' (aC c.length a b e f)),(16,M' 16),(20,M' 20),(21,M' 21),(22,D' i)],[(16,some (.lst 0 62 (.rows .i64 (aQ (aC c.length a b e f))))),(20,Q' ((co c.length (aY (aC c.length a b e f)) (aQ (aC c.length a b e f)).length i))),(21,Q' (((aY (aC c.length a b e f)).take i)))]⟩,i<=2*c.length,2*c.length-i⟩) (fun i b_=>match b_ with|12=>U' fun j=>⟨⟨[(0,J' a),(1,J' b),(2,G' e),(3,G' f),(11,D' c.length),(12,D' num),(13,I' (aC c.length a b e f)),(16,M' 16),(20,M' 20),(21,M' 21),(22,D' i),(23,D' j)],[(16,some (.lst 0 62 (.rows .i64 (aQ (aC c.length a b e f))))),(20,Q' ((co c.length (aY (aC c.length a b e f)) (aQ (aC c.length a b e f)).length i))),(21,Q' (((aY (aC c.length a b e f)).take i)))]⟩,(i<2*c.length/\j<(aQ (aC c.length a b e f)).length/\(∀j1,j1<j->(aQ (aC c.length a b e f)).getD j1 []≠(aC c.length a b e f).getD i [])),(aQ (aC c.length a b e f)).length-j⟩|_=>none)|14=>U' fun i=>⟨⟨[(0,J' a),(1,J' b),(2,G' e),(3,G' f),(11,D' c.length),(12,D' num),(16,M' 16),(20,M' 20),(21,M' 21),(24,D' i)],[(16,some (.lst 0 62 (.rows .i64 (aQ (aC c.length a b e f))))),(20,Q' ((co c.length (aY (aC c.length a b e f)) (aQ (aC c.length a b e f)).length (2*c.length)))),(21,Q' (aY (aC c.length a b e f)))]⟩,(i<=(aQ (aC c.length a b e f)).length/\(∀j,j<i->(co c.length (aY (aC c.length a b e f)) (aQ (aC c.length a b e f)).length (2*c.length)).getD j 0=0)),(aQ (aC c.length a b e f)).length-i⟩|_=>none))
 |_=>none
def LS:List (Nat×Ctr):=[(223,⟨[],zv⟩),(203,⟨[],pW⟩),(202,⟨[],n9⟩)]
def aq(a:Dd)(b:Dd)(c:Db)(x0:Nat×Nat×Db×Db):=(aC c.length a b x0.2.2.1 x0.2.2.2)
def fg(a:Dd)(b:Dd)(c:Db)(x0:Nat×Nat×Db×Db)(x1:Nat):=(↑(bO (aU (aq a b c x0) x1) ((aq a b c x0).getD x1 [])):Int)
def jd(a:Dd)(b:Dd)(c:Db)(x0:Nat×Nat×Db×Db)(x1:Nat):=(co c.length (aY (aq a b c x0)) ((aQ (aq a b c x0)).length) x1)
def pX(a:Dd)(b:Dd)(c:Db)(x0:Nat×Nat×Db×Db):=(co c.length (aY (aq a b c x0)) ((aQ (aq a b c x0)).length) ((2:Nat)*c.length))
def D8(a:Dd)(b:Dd)(c:Db)(x0:Nat×Nat×Db×Db)(x1:Nat):=((aq a b c x0).getD (↑x1:Int).toNat []::([]:Dc)++List.take (FC.len (FC.rows IntKind.i64 (aU (aq a b c x0) x1))-(fg a b c x0 x1).toNat) (List.drop (fg a b c x0 x1).toNat (aU (aq a b c x0) x1)))
def D9(a:Dd)(b:Dd)(c:Db)(d:Db):Prop :=
 ((∃x0:Nat×Nat×Db×Db,((((x0.2.2.1).length=c.length)/\(((x0.2.2.2).length=c.length)/\((∀(i:Nat),i<c.length->(0:Int)<=(x0.2.2.1).getD i (0:Int)/\(x0.2.2.1).getD i (0:Int)<=(60:Int))/\((∀(i:Nat),i<c.length->(0:Int)<=(x0.2.2.2).getD i (0:Int)/\(x0.2.2.2).getD i (0:Int)<=(60:Int))/\((mF x0.2.2.1 x0.2.2.2 x0.2.1)/\((x0.2.1<=(2:Nat)*c.length)/\(((2:Nat)*c.length<x0.1+x0.2.1)/\(gF c.length a b c d=g4 c.length a b x0.1 x0.2.1 x0.2.2.1 x0.2.2.2))))))))/\((a=a)/\((b=b)/\((c=x0.2.2.1)/\((d=x0.2.2.2)/\(((↑(c.length):Int)=(↑(c.length):Int))/\((0:Int)=(↑x0.2.1:Int)))))))))/\(∀x1:Nat×Nat×Db×Db,((((x1.2.2.1).length=c.length)/\(((x1.2.2.2).length=c.length)/\((∀(i:Nat),i<c.length->(0:Int)<=(x1.2.2.1).getD i (0:Int)/\(x1.2.2.1).getD i (0:Int)<=(60:Int))/\((∀(i:Nat),i<c.length->(0:Int)<=(x1.2.2.2).getD i (0:Int)/\(x1.2.2.2).getD i (0:Int)<=(60:Int))/\((mF x1.2.2.1 x1.2.2.2 x1.2.1)/\((x1.2.1<=(2:Nat)*c.length)/\(((2:Nat)*c.length<x1.1+x1.2.1)/\(gF c.length a b c d=g4 c.length a b x1.1 x1.2.1 x1.2.2.1 x1.2.2.2))))))))->((∃x2:Nat,((x2<=c.length)/\((a=a)/\((b=b)/\((x1.2.2.1=x1.2.2.1)/\((x1.2.2.2=x1.2.2.2)/\(((↑(c.length):Int)=(↑(c.length):Int))/\(((↑x1.2.1:Int)=(↑x1.2.1:Int))/\(((0:Int)=(↑x2:Int))/\(([]:Dc)=List.map (cu c.length a x1.2.2.1) (List.range x2)))))))))))/\(∀x3:Nat,((x3<=c.length) ->
 (ab (decide ((↑x3:Int)<(↑(c.length):Int))) ((((a.length<=(1000:Nat))/\(((1:Nat)<=x1.2.2.1.length)/\((x1.2.2.1.length<=(12:Nat))/\((bN x1.2.2.1.length a)/\((∀(i:Nat),i<x1.2.2.1.length->(0:Int)<=x1.2.2.1.getD i (0:Int)/\x1.2.2.1.getD i (0:Int)<=(60:Int))/\(((0:Int)<=(↑x3:Int))/\((↑x3:Int)<(↑(x1.2.2.1.length):Int))))))))/\True)/\((ar ((List.map (cu c.length a x1.2.2.1) (List.range x3)).length+(cu x1.2.2.1.length a x1.2.2.1 (↑x3:Int).toNat::([]:Dc)).length))/\((ae ((↑x3:Int)+(1:Int)))/\(∃x4:Nat,((x4<=c.length)/\((c.length-x4<c.length-x3)/\((a=a)/\((b=b)/\((x1.2.2.1=x1.2.2.1)/\((x1.2.2.2=x1.2.2.2)/\(((↑(c.length):Int)=(↑(c.length):Int))/\(((↑x1.2.1:Int)=(↑x1.2.1:Int))/\(((↑x3:Int)+(1:Int)=(↑x4:Int))/\(List.map (cu c.length a x1.2.2.1) (List.range x3)++cu x1.2.2.1.length a x1.2.2.1 (↑x3:Int).toNat::([]:Dc)=List.map (cu c.length a x1.2.2.1) (List.range x4))))))))))))))) ((∃x5:Nat,((x5<=c.length)/\((a=a)/\((b=b)/\((x1.2.2.1=x1.2.2.1)/\((x1.2.2.2=x1.2.2.2)/\(((↑(c.length):Int)=(↑(c.length):Int))/\(((↑x1.2.1:Int)=(↑x1.2.1:Int))/\(((0:Int)=(↑x5:Int))/\(List.map (cu c.length a x1.2.2.1) (List.range x3)=List.map (cu c.length a x1.2.2.1) (List.range c.length)++List.map (cu c.length b x1.2.2.2) (List.range x5)))))))))))/\(∀x6:Nat,((x6<=c.length)->(ab (decide ((↑x6:Int)<(↑(c.length):Int))) ((((b.length<=(1000:Nat))/\(((1:Nat)<=x1.2.2.2.length) /\
 ((x1.2.2.2.length<=(12:Nat))/\((bN x1.2.2.2.length b)/\((∀(i:Nat),i<x1.2.2.2.length->(0:Int)<=x1.2.2.2.getD i (0:Int)/\x1.2.2.2.getD i (0:Int)<=(60:Int))/\(((0:Int)<=(↑x6:Int))/\((↑x6:Int)<(↑(x1.2.2.2.length):Int))))))))/\True)/\((ar ((List.map (cu c.length a x1.2.2.1) (List.range c.length)++List.map (cu c.length b x1.2.2.2) (List.range x6)).length+(cu x1.2.2.2.length b x1.2.2.2 (↑x6:Int).toNat::([]:Dc)).length))/\((ae ((↑x6:Int)+(1:Int)))/\(∃x7:Nat,((x7<=c.length)/\((c.length-x7<c.length-x6)/\((a=a)/\((b=b)/\((x1.2.2.1=x1.2.2.1)/\((x1.2.2.2=x1.2.2.2)/\(((↑(c.length):Int)=(↑(c.length):Int))/\(((↑x1.2.1:Int)=(↑x1.2.1:Int))/\(((↑x6:Int)+(1:Int)=(↑x7:Int))/\(List.map (cu c.length a x1.2.2.1) (List.range c.length)++List.map (cu c.length b x1.2.2.2) (List.range x6)++cu x1.2.2.2.length b x1.2.2.2 (↑x6:Int).toNat::([]:Dc)=List.map (cu c.length a x1.2.2.1) (List.range c.length)++List.map (cu c.length b x1.2.2.2) (List.range x7))))))))))))))) ((∃x8:Nat,((x8<=(2:Nat)*c.length)/\((a=a)/\((b=b)/\((x1.2.2.1=x1.2.2.1)/\((x1.2.2.2=x1.2.2.2)/\(((↑(c.length):Int)=(↑(c.length):Int))/\(((↑x1.2.1:Int)=(↑x1.2.1:Int))/\((List.map (cu c.length a x1.2.2.1) (List.range c.length)++List.map (cu c.length b x1.2.2.2) (List.range x6)=aC c.length a b x1.2.2.1 x1.2.2.2)/\(((0:Int)=(↑x8:Int))/\(([]:Dc)=aU (aq a b c x1) x8))))))))))) /\
 (∀x9:Nat,((x9<=(2:Nat)*c.length)->(ab (decide ((↑x9:Int)<(↑((aC c.length a b x1.2.2.1 x1.2.2.2).length):Int))) (((∃x10:Nat,(((x9<(2:Nat)*c.length)/\((x10<=(aU (aq a b c x1) x9).length)/\(∀(j1:Nat),j1<x10->bj ((aU (aq a b c x1) x9).getD j1 []) ((aq a b c x1).getD x9 [])=true)))/\((a=a)/\((b=b)/\((x1.2.2.1=x1.2.2.1)/\((x1.2.2.2=x1.2.2.2)/\(((↑(c.length):Int)=(↑(c.length):Int))/\(((↑x1.2.1:Int)=(↑x1.2.1:Int))/\((aC c.length a b x1.2.2.1 x1.2.2.2=aC c.length a b x1.2.2.1 x1.2.2.2)/\(((↑x9:Int)=(↑x9:Int))/\(((0:Int)=(↑x10:Int))/\(aU (aq a b c x1) x9=aU (aq a b c x1) x9))))))))))))/\(∀x11:Nat,(((x9<(2:Nat)*c.length)/\((x11<=(aU (aq a b c x1) x9).length)/\(∀(j1:Nat),j1<x11->bj ((aU (aq a b c x1) x9).getD j1 []) ((aq a b c x1).getD x9 [])=true)))->(ab (decide ((↑x11:Int)<(↑(FC.len (FC.rows IntKind.i64 (aU (aC c.length a b x1.2.2.1 x1.2.2.2) x9))):Int))) ((aa (↑x11:Int) (FC.len (FC.rows IntKind.i64 (aU (aq a b c x1) x9))))/\((aa (↑x9:Int) (aq a b c x1).length)/\(((ar (((aU (aq a b c x1) x9).getD (↑x11:Int).toNat []).length))/\True)/\(ab (bj ((aU (aC c.length a b x1.2.2.1 x1.2.2.2) x9).getD (↑x11:Int).toNat []) ((aC c.length a b x1.2.2.1 x1.2.2.2).getD (↑x9:Int).toNat [])) ((ae ((↑x11:Int)+(1:Int)))/\(∃x12:Nat,(((x9<(2:Nat)*c.length) /\
 ((x12<=(aU (aq a b c x1) x9).length)/\(∀(j1:Nat),j1<x12->bj ((aU (aq a b c x1) x9).getD j1 []) ((aq a b c x1).getD x9 [])=true)))/\(((aU (aq a b c x1) x9).length-x12<(aU (aq a b c x1) x9).length-x11)/\((a=a)/\((b=b)/\((x1.2.2.1=x1.2.2.1)/\((x1.2.2.2=x1.2.2.2)/\(((↑(c.length):Int)=(↑(c.length):Int))/\(((↑x1.2.1:Int)=(↑x1.2.1:Int))/\((aC c.length a b x1.2.2.1 x1.2.2.2=aC c.length a b x1.2.2.1 x1.2.2.2)/\(((↑x9:Int)=(↑x9:Int))/\(((↑x11:Int)+(1:Int)=(↑x12:Int))/\(aU (aq a b c x1) x9=aU (aq a b c x1) x9)))))))))))))) (∃x13:Unit,((x9<(2:Nat)*c.length)/\((a=a)/\((b=b)/\((x1.2.2.1=x1.2.2.1)/\((x1.2.2.2=x1.2.2.2)/\(((↑(c.length):Int)=(↑(c.length):Int))/\(((↑x1.2.1:Int)=(↑x1.2.1:Int))/\((aC c.length a b x1.2.2.1 x1.2.2.2=aC c.length a b x1.2.2.1 x1.2.2.2)/\(((↑x9:Int)=(↑x9:Int))/\(((↑x11:Int)=(fg a b c x1 x9))/\(aU (aq a b c x1) x9=aU (aq a b c x1) x9)))))))))))))))) (∃x14:Unit,((x9<(2:Nat)*c.length)/\((a=a)/\((b=b)/\((x1.2.2.1=x1.2.2.1)/\((x1.2.2.2=x1.2.2.2)/\(((↑(c.length):Int)=(↑(c.length):Int))/\(((↑x1.2.1:Int)=(↑x1.2.1:Int))/\((aC c.length a b x1.2.2.1 x1.2.2.2=aC c.length a b x1.2.2.1 x1.2.2.2)/\(((↑x9:Int)=(↑x9:Int))/\(((↑x11:Int)=(fg a b c x1 x9))/\(aU (aq a b c x1) x9=aU (aq a b c x1) x9))))))))))))))))/\(∀x15:Unit,((x9<(2:Nat)*c.length) ->
 ((ab (decide ((↑(bO (aU (aC c.length a b x1.2.2.1 x1.2.2.2) x9) ((aC c.length a b x1.2.2.1 x1.2.2.2).getD x9 [])):Int)<(↑(FC.len (FC.rows IntKind.i64 (aU (aC c.length a b x1.2.2.1 x1.2.2.2) x9))):Int))) ((aa (fg a b c x1 x9) (FC.len (FC.rows IntKind.i64 (aU (aq a b c x1) x9))))/\((aa (↑x9:Int) (aq a b c x1).length)/\(((ar (((aU (aq a b c x1) x9).getD (fg a b c x1 x9).toNat []).length))/\True)/\(ab (decide ((aU (aC c.length a b x1.2.2.1 x1.2.2.2) x9).getD ((↑(bO (aU (aC c.length a b x1.2.2.1 x1.2.2.2) x9) ((aC c.length a b x1.2.2.1 x1.2.2.2).getD x9 [])):Int).toNat) []=(aC c.length a b x1.2.2.1 x1.2.2.2).getD (↑x9:Int).toNat [])) ((ae ((↑x9:Int)+(1:Int)))/\(∃x16:Nat,((x16<=(2:Nat)*c.length)/\(((2:Nat)*c.length-x16<(2:Nat)*c.length-x9)/\((a=a)/\((b=b)/\((x1.2.2.1=x1.2.2.1)/\((x1.2.2.2=x1.2.2.2)/\(((↑(c.length):Int)=(↑(c.length):Int))/\(((↑x1.2.1:Int)=(↑x1.2.1:Int))/\((aC c.length a b x1.2.2.1 x1.2.2.2=aC c.length a b x1.2.2.1 x1.2.2.2)/\(((↑x9:Int)+(1:Int)=(↑x16:Int))/\(aU (aq a b c x1) x9=aU (aq a b c x1) x16))))))))))))) (∃x17:Unit,(((x9<(2:Nat)*c.length) /\
 (¬(bO (aU (aq a b c x1) x9) ((aq a b c x1).getD x9 [])<(aU (aq a b c x1) x9).length/\(aU (aq a b c x1) x9).getD (bO (aU (aq a b c x1) x9) ((aq a b c x1).getD x9 [])) []=(aq a b c x1).getD x9 [])))/\((a=a)/\((b=b)/\((x1.2.2.1=x1.2.2.1)/\((x1.2.2.2=x1.2.2.2)/\(((↑(c.length):Int)=(↑(c.length):Int))/\(((↑x1.2.1:Int)=(↑x1.2.1:Int))/\((aC c.length a b x1.2.2.1 x1.2.2.2=aC c.length a b x1.2.2.1 x1.2.2.2)/\(((↑x9:Int)=(↑x9:Int))/\(((fg a b c x1 x9)=(fg a b c x1 x9))/\(aU (aq a b c x1) x9=aU (aq a b c x1) x9)))))))))))))))) (∃x18:Unit,(((x9<(2:Nat)*c.length)/\(¬(bO (aU (aq a b c x1) x9) ((aq a b c x1).getD x9 [])<(aU (aq a b c x1) x9).length/\(aU (aq a b c x1) x9).getD (bO (aU (aq a b c x1) x9) ((aq a b c x1).getD x9 [])) []=(aq a b c x1).getD x9 [])))/\((a=a)/\((b=b)/\((x1.2.2.1=x1.2.2.1)/\((x1.2.2.2=x1.2.2.2)/\(((↑(c.length):Int)=(↑(c.length):Int))/\(((↑x1.2.1:Int)=(↑x1.2.1:Int))/\((aC c.length a b x1.2.2.1 x1.2.2.2=aC c.length a b x1.2.2.1 x1.2.2.2)/\(((↑x9:Int)=(↑x9:Int))/\(((fg a b c x1 x9)=(fg a b c x1 x9))/\(aU (aq a b c x1) x9=aU (aq a b c x1) x9)))))))))))))/\(∀x19:Unit,(((x9<(2:Nat)*c.length) /\
 (¬(bO (aU (aq a b c x1) x9) ((aq a b c x1).getD x9 [])<(aU (aq a b c x1) x9).length/\(aU (aq a b c x1) x9).getD (bO (aU (aq a b c x1) x9) ((aq a b c x1).getD x9 [])) []=(aq a b c x1).getD x9 [])))->((aa (↑x9:Int) (aq a b c x1).length)/\((bD (FC.len (FC.rows IntKind.i64 (aU (aq a b c x1) x9))) (Option.some (fg a b c x1 x9)) Option.none)/\((ar (FC.len (FC.rows IntKind.i64 ((aq a b c x1).getD (↑x9:Int).toNat []::([]:Dc)))+FC.len (FC.rows IntKind.i64 (List.take (FC.len (FC.rows IntKind.i64 (aU (aq a b c x1) x9))-(fg a b c x1 x9).toNat) (List.drop (fg a b c x1 x9).toNat (aU (aq a b c x1) x9))))))/\((bD (FC.len (FC.rows IntKind.i64 (aU (aq a b c x1) x9))) Option.none (Option.some (fg a b c x1 x9)))/\((ar (([]:Dc).length+FC.len (FC.rows IntKind.i64 (List.take (fg a b c x1 x9).toNat (List.drop (0:Nat) (aU (aq a b c x1) x9))))))/\((ar (FC.len (FC.rows IntKind.i64 (([]:Dc)++List.take (fg a b c x1 x9).toNat (List.drop (0:Nat) (aU (aq a b c x1) x9))))+FC.len (FC.rows IntKind.i64 (D8 a b c x1 x9))))/\((ae ((↑x9:Int)+(1:Int)))/\(∃x20:Nat,((x20<=(2:Nat)*c.length)/\(((2:Nat)*c.length-x20<(2:Nat)*c.length-x9)/\((a=a)/\((b=b)/\((x1.2.2.1=x1.2.2.1) /\
 ((x1.2.2.2=x1.2.2.2)/\(((↑(c.length):Int)=(↑(c.length):Int))/\(((↑x1.2.1:Int)=(↑x1.2.1:Int))/\((aC c.length a b x1.2.2.1 x1.2.2.2=aC c.length a b x1.2.2.1 x1.2.2.2)/\(((↑x9:Int)+(1:Int)=(↑x20:Int))/\(([]:Dc)++List.take (fg a b c x1 x9).toNat (List.drop (0:Nat) (aU (aq a b c x1) x9))++(D8 a b c x1 x9)=aU (aq a b c x1) x20))))))))))))))))))))))))) ((((0:Int)<=(↑(FC.len (FC.rows IntKind.i64 (aU (aq a b c x1) x9))):Int))/\(((↑(FC.len (FC.rows IntKind.i64 (aU (aq a b c x1) x9))):Int)<=(↑(FC.len (FC.rows IntKind.i64 (aU (aq a b c x1) x9))):Int))/\(ar ((↑(FC.len (FC.rows IntKind.i64 (aU (aq a b c x1) x9))):Int).toNat))))/\((∃x21:Nat,((x21<=(2:Nat)*c.length)/\((a=a)/\((b=b)/\((x1.2.2.1=x1.2.2.1)/\((x1.2.2.2=x1.2.2.2)/\(((↑(c.length):Int)=(↑(c.length):Int))/\(((↑x1.2.1:Int)=(↑x1.2.1:Int))/\((aC c.length a b x1.2.2.1 x1.2.2.2=aC c.length a b x1.2.2.1 x1.2.2.2)/\(((0:Int)=(↑x21:Int))/\((aU (aq a b c x1) x9=aQ (aq a b c x1))/\((List.replicate ((↑(FC.len (FC.rows IntKind.i64 (aU (aq a b c x1) x9))):Int).toNat) (0:Int)=co c.length (aY (aq a b c x1)) ((aQ (aq a b c x1)).length) x21)/\([]=List.take x21 (aY (aq a b c x1)))))))))))))))/\(∀x22:Nat,((x22<=(2:Nat)*c.length)->(ab (decide ((↑x22:Int)<(↑((aC c.length a b x1.2.2.1 x1.2.2.2).length):Int)))
 ((∃x23:Nat,(((x22<(2:Nat)*c.length)/\((x23<(aQ (aq a b c x1)).length)/\(∀(j1:Nat),j1<x23->(aQ (aq a b c x1)).getD j1 []≠(aq a b c x1).getD x22 [])))/\((a=a)/\((b=b)/\((x1.2.2.1=x1.2.2.1)/\((x1.2.2.2=x1.2.2.2)/\(((↑(c.length):Int)=(↑(c.length):Int))/\(((↑x1.2.1:Int)=(↑x1.2.1:Int))/\((aC c.length a b x1.2.2.1 x1.2.2.2=aC c.length a b x1.2.2.1 x1.2.2.2)/\(((↑x22:Int)=(↑x22:Int))/\(((0:Int)=(↑x23:Int))/\((aQ (aq a b c x1)=aQ (aq a b c x1))/\((co c.length (aY (aq a b c x1)) ((aQ (aq a b c x1)).length) x22=co c.length (aY (aq a b c x1)) ((aQ (aq a b c x1)).length) x22)/\(List.take x22 (aY (aq a b c x1))=List.take x22 (aY (aq a b c x1))))))))))))))))/\(∀x24:Nat,(((x22<(2:Nat)*c.length)/\((x24<(aQ (aq a b c x1)).length)/\(∀(j1:Nat),j1<x24->(aQ (aq a b c x1)).getD j1 []≠(aq a b c x1).getD x22 [])))->((aa (↑x24:Int) (FC.len (FC.rows IntKind.i64 (aQ (aq a b c x1)))))/\((aa (↑x22:Int) (aq a b c x1).length)/\(((ar (((aQ (aq a b c x1)).getD (↑x24:Int).toNat []).length))/\True)/\(ab (!decide ((aQ (aC c.length a b x1.2.2.1 x1.2.2.2)).getD (↑x24:Int).toNat []=(aC c.length a b x1.2.2.1 x1.2.2.2).getD (↑x22:Int).toNat [])) ((ae ((↑x24:Int)+(1:Int)))/\(∃x25:Nat,(((x22<(2:Nat)*c.length) /\
 ((x25<(aQ (aq a b c x1)).length)/\(∀(j1:Nat),j1<x25->(aQ (aq a b c x1)).getD j1 []≠(aq a b c x1).getD x22 [])))/\(((aQ (aq a b c x1)).length-x25<(aQ (aq a b c x1)).length-x24)/\((a=a)/\((b=b)/\((x1.2.2.1=x1.2.2.1)/\((x1.2.2.2=x1.2.2.2)/\(((↑(c.length):Int)=(↑(c.length):Int))/\(((↑x1.2.1:Int)=(↑x1.2.1:Int))/\((aC c.length a b x1.2.2.1 x1.2.2.2=aC c.length a b x1.2.2.1 x1.2.2.2)/\(((↑x22:Int)=(↑x22:Int))/\(((↑x24:Int)+(1:Int)=(↑x25:Int))/\((aQ (aq a b c x1)=aQ (aq a b c x1))/\((co c.length (aY (aq a b c x1)) ((aQ (aq a b c x1)).length) x22=co c.length (aY (aq a b c x1)) ((aQ (aq a b c x1)).length) x22)/\(List.take x22 (aY (aq a b c x1))=List.take x22 (aY (aq a b c x1)))))))))))))))))) ((ar ((List.take x22 (aY (aq a b c x1))).length+[(↑x24:Int)].length))/\(ab (decide ((↑x22:Int)<(↑(c.length):Int))) ((aa (↑x24:Int) (jd a b c x1 x22).length)/\((ae ((jd a b c x1 x22).getD (↑x24:Int).toNat (0:Int)+(1:Int)))/\((aa (↑x24:Int) (jd a b c x1 x22).length)/\((ae ((↑x22:Int)+(1:Int)))/\(∃x26:Nat,((x26<=(2:Nat)*c.length)/\(((2:Nat)*c.length-x26<(2:Nat)*c.length-x22)/\((a=a)/\((b=b)/\((x1.2.2.1=x1.2.2.1)/\((x1.2.2.2=x1.2.2.2)/\(((↑(c.length):Int)=(↑(c.length):Int))/\(((↑x1.2.1:Int)=(↑x1.2.1:Int)) /\
 ((aC c.length a b x1.2.2.1 x1.2.2.2=aC c.length a b x1.2.2.1 x1.2.2.2)/\(((↑x22:Int)+(1:Int)=(↑x26:Int))/\((aQ (aq a b c x1)=aQ (aq a b c x1))/\((List.set (jd a b c x1 x22) (↑x24:Int).toNat ((jd a b c x1 x22).getD (↑x24:Int).toNat (0:Int)+(1:Int))=co c.length (aY (aq a b c x1)) ((aQ (aq a b c x1)).length) x26)/\(List.take x22 (aY (aq a b c x1))++[(↑x24:Int)]=List.take x26 (aY (aq a b c x1)))))))))))))))))))) ((aa (↑x24:Int) (jd a b c x1 x22).length)/\((ae ((jd a b c x1 x22).getD (↑x24:Int).toNat (0:Int)-(1:Int)))/\((aa (↑x24:Int) (jd a b c x1 x22).length)/\((ae ((↑x22:Int)+(1:Int)))/\(∃x27:Nat,((x27<=(2:Nat)*c.length)/\(((2:Nat)*c.length-x27<(2:Nat)*c.length-x22)/\((a=a)/\((b=b)/\((x1.2.2.1=x1.2.2.1)/\((x1.2.2.2=x1.2.2.2)/\(((↑(c.length):Int)=(↑(c.length):Int))/\(((↑x1.2.1:Int)=(↑x1.2.1:Int))/\((aC c.length a b x1.2.2.1 x1.2.2.2=aC c.length a b x1.2.2.1 x1.2.2.2)/\(((↑x22:Int)+(1:Int)=(↑x27:Int))/\((aQ (aq a b c x1)=aQ (aq a b c x1))/\((List.set (jd a b c x1 x22) (↑x24:Int).toNat ((jd a b c x1 x22).getD (↑x24:Int).toNat (0:Int)-(1:Int))=co c.length (aY (aq a b c x1)) ((aQ (aq a b c x1)).length) x27) /\
 (List.take x22 (aY (aq a b c x1))++[(↑x24:Int)]=List.take x27 (aY (aq a b c x1))))))))))))))))))))))))))))) ((∃x28:Nat,(((x28<=(aQ (aq a b c x1)).length)/\(∀(j:Nat),j<x28->(pX a b c x1).getD j (0:Int)=(0:Int)))/\((a=a)/\((b=b)/\((x1.2.2.1=x1.2.2.1)/\((x1.2.2.2=x1.2.2.2)/\(((↑(c.length):Int)=(↑(c.length):Int))/\(((↑x1.2.1:Int)=(↑x1.2.1:Int))/\(((0:Int)=(↑x28:Int))/\((aQ (aq a b c x1)=aQ (aq a b c x1))/\((co c.length (aY (aq a b c x1)) ((aQ (aq a b c x1)).length) x22=co c.length (aY (aq a b c x1)) ((aQ (aq a b c x1)).length) ((2:Nat)*c.length))/\(List.take x22 (aY (aq a b c x1))=aY (aq a b c x1)))))))))))))/\(∀x29:Nat,(((x29<=(aQ (aq a b c x1)).length)/\(∀(j:Nat),j<x29->(pX a b c x1).getD j (0:Int)=(0:Int)))->(ab (decide ((↑x29:Int)<(↑((co c.length (aY (aC c.length a b x1.2.2.1 x1.2.2.2)) ((aQ (aC c.length a b x1.2.2.1 x1.2.2.2)).length) ((2:Nat)*c.length)).length):Int))) ((aa (↑x29:Int) (pX a b c x1).length)/\(ab ((co c.length (aY (aC c.length a b x1.2.2.1 x1.2.2.2)) ((aQ (aC c.length a b x1.2.2.1 x1.2.2.2)).length) ((2:Nat)*c.length)).getD (↑x29:Int).toNat (0:Int) != (0:Int)) (((FC.len (FC.ints IntKind.i64 (dO c.length a b c d).1)=(0:Nat))/\((FC.len (FC.ints IntKind.i64 (((dO c.length a b c d).2).1))=(0:Nat)) /\
 ((false=((dO c.length a b c d).2).2)/\True)))/\True) ((ae ((↑x29:Int)+(1:Int)))/\(∃x30:Nat,(((x30<=(aQ (aq a b c x1)).length)/\(∀(j:Nat),j<x30->(pX a b c x1).getD j (0:Int)=(0:Int)))/\(((aQ (aq a b c x1)).length-x30<(aQ (aq a b c x1)).length-x29)/\((a=a)/\((b=b)/\((x1.2.2.1=x1.2.2.1)/\((x1.2.2.2=x1.2.2.2)/\(((↑(c.length):Int)=(↑(c.length):Int))/\(((↑x1.2.1:Int)=(↑x1.2.1:Int))/\(((↑x29:Int)+(1:Int)=(↑x30:Int))/\((aQ (aq a b c x1)=aQ (aq a b c x1))/\((co c.length (aY (aq a b c x1)) ((aQ (aq a b c x1)).length) ((2:Nat)*c.length)=co c.length (aY (aq a b c x1)) ((aQ (aq a b c x1)).length) ((2:Nat)*c.length))/\(aY (aq a b c x1)=aY (aq a b c x1))))))))))))))))) ((bD ((aY (aq a b c x1)).length) Option.none (Option.some (↑(c.length):Int)))/\((bD ((aY (aq a b c x1)).length) (Option.some (↑(c.length):Int)) Option.none)/\(ab ((↑(FC.len (FC.rows IntKind.i64 (aQ (aC c.length a b x1.2.2.1 x1.2.2.2)))):Int) == (↑x1.2.1:Int)) (((List.take ((↑(c.length):Int).toNat) (List.drop (0:Nat) (aY (aq a b c x1)))=(dO c.length a b c d).1)/\((List.take ((aY (aq a b c x1)).length-(↑(c.length):Int).toNat) (List.drop ((↑(c.length):Int).toNat) (aY (aq a b c x1)))=((dO c.length a b c d).2).1)/\((true=((dO c.length a b c d).2).2)/\True)))/\True)
 (∃x31:Nat×Nat×Db×Db,((((x31.2.2.1).length=c.length)/\(((x31.2.2.2).length=c.length)/\((∀(i:Nat),i<c.length->(0:Int)<=(x31.2.2.1).getD i (0:Int)/\(x31.2.2.1).getD i (0:Int)<=(60:Int))/\((∀(i:Nat),i<c.length->(0:Int)<=(x31.2.2.2).getD i (0:Int)/\(x31.2.2.2).getD i (0:Int)<=(60:Int))/\((mF x31.2.2.1 x31.2.2.2 x31.2.1)/\((x31.2.1<=(2:Nat)*c.length)/\(((2:Nat)*c.length<x31.1+x31.2.1)/\(gF c.length a b c d=g4 c.length a b x31.1 x31.2.1 x31.2.2.1 x31.2.2.2))))))))/\((x31.1<x1.1)/\((a=a)/\((b=b)/\((List.take ((↑(c.length):Int).toNat) (List.drop (0:Nat) (aY (aq a b c x1)))=x31.2.2.1)/\((List.take ((aY (aq a b c x1)).length-(↑(c.length):Int).toNat) (List.drop ((↑(c.length):Int).toNat) (aY (aq a b c x1)))=x31.2.2.2)/\(((↑(c.length):Int)=(↑(c.length):Int))/\((↑(FC.len (FC.rows IntKind.i64 (aQ (aq a b c x1)))):Int)=(↑x31.2.1:Int)))))))))))))))))))))))))))))))))))))
theorem UY(a:Dd)(b:Dd)(c:Db)(d:Db):aE Tryz.prog (af LS) ah (LR a b c d) Tryz.f177 (aF Tryz.f177) [] [.c (.r3 .i64 a),.c (.r3 .i64 b),.c (.ints .i64 c),.c (.ints .i64 d)] (t9 a b c d)=D9 a b c d:=by kernel_rfl
set_option maxHeartbeats 1000000 in
theorem UZ(a:Dd)(b:Dd)(c:Db)(d:Db)(ξ:(t9 a b c d).pre):D9 a b c d:=by
 simp only[t9,D9,aq,fg,jd,pX,D8,aH]at ξ⊢;simp only[FC.len];obtain⟨h1,h2,h3,h4,h5,h6,h7,h8,h9⟩:=ξ;refine⟨⟨⟨2*c.length+1,0,c,d⟩,⟨rfl,h5,h8,h9,fun i hi=>absurd hi (Nat.not_lt_zero i),Nat.zero_le _,by dsimp only;omega,rfl⟩,rfl,rfl,rfl⟩,fun⟨fu,num,e,f⟩ ⟨e1,e2,e3,e4,e5,e6,e7,e8⟩=>?_⟩
 dsimp only at e1 e2 e3 e4 e5 e6 e7 e8⊢;refine⟨⟨0,by omega,rfl,rfl⟩,fun i hi=>⟨fun hi2=>?_,fun hi2=>?_⟩⟩
 ·refine⟨⟨by omega,by omega,by omega,by rw[e1];exact h6,by rw[e1];exact e3,by omega,by omega⟩,by simp;omega,by omega,i+1,by omega,by omega,by omega,?_⟩
  rw[t8,e1]
 rw[show i=c.length by omega]
 refine⟨⟨0,by omega,rfl,by simp⟩,fun i hi=>⟨fun hi2=>?_,fun hi2=>?_⟩⟩
 ·refine⟨⟨by omega,by omega,by omega,by rw[e2];exact h7,by rw[e2];exact e4,by omega,by omega⟩,by simp;omega,by omega,i+1,by omega,by omega,by omega,?_⟩
  rw[t8,e2,Ap]
 rw[show i=c.length by omega]
 have ML:=p9 c.length a b e f
 have MR:=UV h1 h2 h4 e f
 have MD:(List.range c.length).map (cu c.length a e)++(List.range c.length).map (cu c.length b f)=aC c.length a b e f:=rfl
 rw[MD];have S:mE c.length a b e f=if kB c.length (aC c.length a b e f)=true then some ((aY (aC c.length a b e f)).take c.length,(aY (aC c.length a b e f)).drop c.length,(aQ (aC c.length a b e f)).length)else none:=rfl
 have MO:=Mp (n:=c.length) (a:=a) (b:=b) e1 e2 e5
 generalize aC c.length a b e f=M at *
 refine⟨⟨0,by omega,rfl,rfl,rfl⟩,fun i hi=>⟨fun hi2=>?_,fun hi2=>?_⟩⟩
 ·have KL:=Eo M i
  have KR:∀j,j<(aU M i).length->((aU M i).getD j []).length<=1099511627776:=fun j hj=>by
   obtain⟨q,hq,e⟩:=(Ep M _ i).1 (cU _ [] j hj);rw[e];exact MR _ (cU _ [] q (by omega))
  have KS:aU M (i+1)=fZ (aU M i) (M.getD i []):=rfl
  generalize aU M i=K at *
  have MI:=MR _ (cU M [] i (by omega))
  generalize M.getD i []=m at *
  have PL:=un K m
  refine⟨⟨⟨0,⟨by omega,by omega,fun j q=>by omega⟩,rfl⟩,fun j ⟨j1,j2,j3⟩=>⟨fun hj=>⟨by omega,by omega,KR j (by omega),fun q=>⟨by omega,j+1,⟨by omega,by omega,fun j4 q4=>?_⟩,by omega,by omega⟩,fun q=>?_⟩,fun hj=>?_⟩⟩,?_⟩
  ·by_cases z:j4=j
   ·subst z;exact q
   ·exact j3 j4 (by omega)
  ·exact⟨⟨⟩,by omega,by rw[uo K m j j3 j2 (fun _=>q)]⟩
  ·exact⟨⟨⟩,by omega,by rw[uo K m j j3 j2 (fun z=>absurd z (by omega))]⟩
  ·refine fun _ _=>⟨⟨fun q=>⟨by omega,by omega,KR _ (by omega),fun z=>⟨by omega,i+1,by omega,by omega,by omega,?_⟩,fun z=>⟨⟨⟩,by omega,fun y=>z y.2⟩⟩,fun q=>⟨⟨⟩,by omega,fun y=>q (by omega)⟩⟩,fun _ ⟨_,hn⟩=>?_⟩
   ·rw[KS,fZ,AA ⟨by omega,z⟩]
   ·have e1:List.take (bO K m) (List.drop 0 K)=K.take (bO K m):=rfl
    have e2:List.take (K.length-bO K m) (List.drop (bO K m) K)=K.drop (bO K m):=AU (by rw[A6];omega)
    simp only[bD,e1,e2,BV,AR,Al,AS,A6,Bs];refine⟨by omega,by omega,by omega,by omega,by omega,by omega,by omega,i+1,by omega,by omega,by omega,?_⟩
    rw[KS,fZ,AB hn];rfl
 have KE:aU M i=aQ M:=by rw[aQ,show i=M.length by omega]
 rw[KE];have CL:=ou M
 have KL:=Mg M
 have KR:∀j,j<(aQ M).length->((aQ M).getD j []).length<=1099511627776:=fun j hj=>MR _ (ot.1 (cU _ [] j hj))
 refine⟨⟨by omega,by omega,by omega⟩,⟨0,by omega,rfl,rfl,rfl,rfl⟩,fun i hi=>⟨fun hi2=>?_,fun hi2=>?_⟩⟩
 ·have mem:M.getD i []∈aQ M:=ot.2 (cU M [] i (by omega))
  have ID:=p6 mem
  have CI:=qa M (i:=i) (by omega)
  refine⟨⟨0,⟨by omega,by omega,fun j q=>by omega⟩,rfl⟩,fun j ⟨j1,j2,j3⟩=>⟨by omega,by omega,KR j j2,fun q=>⟨by omega,j+1,⟨by omega,?_,fun j4 q4=>?_⟩,by omega,by omega⟩,fun q=>?_⟩⟩
  ·refine BU fun z=>?_
   have:f6 (aQ M) (M.getD i [])<=j:=by omega
   by_cases y:f6 (aQ M) (M.getD i [])=j
   ·rw[<-y]at q;exact q ID.2
   ·exact j3 _ (by omega) ID.2
  ·by_cases z:j4=j
   ·subst z;exact q
   ·exact j3 j4 (by omega)
  ·have ej:f6 (aQ M) (M.getD i [])=j:=p7 j j3 j2 q
   rw[ej]at CI;have TK:(aY M).take i++[(j:Int)]=(aY M).take (i+1):=by rw[<-CI,eo _ 0 i (by omega)]
   have CN:=D7 c.length (aY M) (aQ M).length i j
   have CS:co c.length (aY M) (aQ M).length (i+1)=(co c.length (aY M) (aQ M).length i).set j ((co c.length (aY M) (aQ M).length i).getD j 0+if i<c.length then 1 else -1):=by rw[co,CI];rfl
   have NL:=kC c.length (aY M) (aQ M).length i
   refine⟨by simp;omega,fun z=>⟨by omega,by omega,by omega,by omega,i+1,by omega,by omega,by omega,?_,TK⟩,fun z=>⟨by omega,by omega,by omega,by omega,i+1,by omega,by omega,by omega,?_,TK⟩⟩
   ·rw[CS,AA (by omega)]
   ·rw[CS,AB (by omega)];rfl
 have ei:i=2*c.length:=by omega
 subst ei;have NL:=kC c.length (aY M) (aQ M).length (2*c.length)
 rw[<-ML]at NL⊢;rw[AU (l:=aY M) (by omega)]
 obtain⟨fu,rfl⟩:∃m,fu=m+1:=⟨fu-1,by omega⟩
 refine⟨⟨0,⟨by omega,fun j q=>by omega⟩,rfl,rfl,rfl⟩,fun i ⟨hi,iz⟩=>⟨fun hi2=>⟨by omega,fun q=>?_,fun q=>⟨by omega,i+1,⟨by omega,fun j z=>?_⟩,by omega,by omega⟩⟩,fun hi2=>?_⟩⟩
 ·have R:dO c.length a b c d=([],[],false):=by rw[dO,e8,g4,S,AB (by rw[UW (by omega) q];simp)]
  rw[R];exact⟨rfl,rfl,rfl⟩
 ·by_cases y:j=i
  ·subst y;exact q
  ·exact iz j (by omega)
 ·have EV:kB c.length M=true:=UX fun j hj=>iz j (by omega)
  rw[AA EV]at S;have t1:List.take c.length (List.drop 0 (aY M))=(aY M).take c.length:=rfl
  have t2:List.take ((aY M).length-c.length) (List.drop c.length (aY M))=(aY M).drop c.length:=AU (by rw[A6];omega)
  rw[t1,t2];obtain⟨q1,q2,q3,q4,q5,q6⟩:=Ex S;refine⟨by omega,by omega,fun q=>?_,fun q=>⟨⟨fu,(aQ M).length,(aY M).take c.length,(aY M).drop c.length⟩,⟨q1,q2,fun x hx=>?_,fun x hx=>?_,q4,?_,?_,?_⟩,by omega,rfl,rfl,rfl⟩⟩
  ·have R:dO c.length a b c d=((aY M).take c.length,(aY M).drop c.length,true):=by rw[dO,e8,g4,S];simp only;rw[AA (by omega)]
   rw[R];exact⟨rfl,rfl,rfl⟩
  ·have:=q5 x hx;dsimp only;omega
  ·have:=q6 x hx;dsimp only;omega
  ·dsimp only;omega
  ·dsimp only;omega
  ·dsimp only;rw[e8,g4,S];simp only;rw[if_neg (by omega)]
theorem LT:Fits Tryz.prog 177 ⟨[],ub⟩:=by
 refine aI (Γ:=af LS) (aj Tl (aj D5 (aj sS aG))) Tryz.func177 fun ds p h hp=>?_
 unfold ub at h;split at h
 ·cases h
  exact⟨ah,LR _ _ _ _ ,by rw[UY];exact UZ _ _ _ _  hp⟩
 ·cases h
end Go.Sx
