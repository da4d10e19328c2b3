/- MapC -/
import Derived.Test.YtkmldclpaniclaaGreatMapB
import Derived.Test.YtkmldclpaniclaaGreatCmp
set_option linter.unusedSimpArgs false
set_option linter.unusedVariables false
set_option linter.defProp false
open Go Go.Proofs
namespace Go.Sx
def dP(n:Nat)(a b:D3)(c d:D1):D1×D1×Bool :=
 match gy n a b c d with
 |none=>([],[],false)
 |some (l,r)=>(l,r,true)
theorem tS{α:Type}(f:Nat->α)(i:Nat):(List.range (i+1)).map f=(List.range i).map f++[f i]:=by rw[Bo,Bf];rfl
theorem Vp{n:Nat}{a b:D3}(ha:a.length<=1000)(hb:b.length=a.length)(hn:n<=12)(e f:D1):∀m,m∈ay n a b e f->m.length<=1099511627776:=fun m hm=>by
 have key:∀(t:D3) (c:D1) (x:Nat),t.length=a.length->(ce n t c x).length<=1099511627776:=fun t c x h=>by
  rw[ce,Ej];have:t.length*(2*n)<=1000*24:=Be (by omega) (by omega)
  omega
 rcases AI.1 hm with h|h
 ·obtain⟨x,_,rfl⟩:=AH.1 h;exact key _ _ _ rfl
 ·obtain⟨x,_,rfl⟩:=AH.1 h;exact key _ _ _ hb
theorem Vq{n:Nat}{M:D2}{j:Nat}(hj:j<(aN M).length)(h:(b7 n (aW M) (aN M).length M.length).getD j 0≠0):ka n M=false:=by
 rw[ka,<-Cw,AW];intro q
 exact h (Bz (q _ (bI _ 0 j (by rw[kb];exact hj))))
theorem Vr{n:Nat}{M:D2}(h:∀j,j<(aN M).length->(b7 n (aW M) (aN M).length M.length).getD j 0=0):ka n M=true:=by
 rw[ka,AW];intro v hv
 obtain⟨j,hj,rfl⟩:=Aw hv;rw[kb]at hj;exact Aa (by rw[<-bv _ 0 j (by rw[kb];exact hj)];exact h j hj)
theorem Em(n:Nat)(cl:D1)(m:Nat):∀(i q:Nat),-(i:Int)<=(b7 n cl m i).getD q 0/\(b7 n cl m i).getD q 0<=(i:Int)
 |0,q=>by
  have:(b7 n cl m 0).getD q 0=0:=by
   by_cases h:q<m<;>simp[b7,AP,h]
  omega
 |i+1,q=>by
  have a:=Em n cl m i q
  have b:=Em n cl m i (cl.getD i 0).toNat
  rw[b7];by_cases h:q<(b7 n cl m i).length
  ·rw[iM _ _ _ _ h]
   split<;>(try split)<;>omega
  ·have:((b7 n cl m i).set (cl.getD i 0).toNat ((b7 n cl m i).getD (cl.getD i 0).toNat 0+if i<n then 1 else -1)).getD q 0=0:=by
    rw[AP,BQ (by rw[Ak];omega)];rfl
   omega
def tT(a:D3)(b:D3)(c:D1)(d:D1):Post:=⟨a.length<=1000/\b.length=a.length/\1<=c.length/\c.length<=12/\d.length=c.length/\bH c.length a/\bH c.length b/\(∀i,i<c.length->0<=c.getD i 0/\c.getD i 0<=60)/\(∀i,i<c.length->0<=d.getD i 0/\d.getD i 0<=60),.tup [.inl (.ro (.ints .i64 (dP c.length a b c d).1)),.inl (.ro (.ints .i64 ((dP c.length a b c d).2.1))),.inl (.bool ((dP c.length a b c d).2.2))],[]⟩
def tU:List AD->Option Post
 | [.c (.r3 .i64 a),.c (.r3 .i64 b),.c (.ints .i64 c),.c (.ints .i64 d)]=>some (tT a b c d)
 |_=>none
def Mo(a:D3)(b:D3)(c:D1)(d:D1):Nat->Option Ann
 |0=>some (Ann.mk ((Nat)×(Nat)×(D1)×(D1)) (fun x=>match x with|(fu,num,e,f)=>⟨[(0,I' a),(1,I' b),(2,D' e),(3,D' f),(11,A' c.length),(12,A' num)],[]⟩) (fun x=>match x with|(fu,num,e,f)=>e.length=c.length/\f.length=c.length/\(∀i,i<c.length->0<=e.getD i 0/\e.getD i 0<=60)/\(∀i,i<c.length->0<=f.getD i 0/\f.getD i 0<=60)/\mC e f num/\num<=2*c.length/\2*c.length<fu+num/\gy c.length a b c d=gV c.length a b fu num e f) (fun x=>match x with|(fu,num,e,f)=>fu) (fun x=>match x with|(fu,num,e,f)=>fun b_=>match b_ with|2=>Q' fun i=>⟨⟨[(0,I' a),(1,I' b),(2,D' e),(3,D' f),(11,A' c.length),(12,A' num),(13,J' 13),(14,A' i)],[(13,N' (((List.range i).map (ce c.length a e))))]⟩,i<=c.length,c.length-i⟩|4=>Q' fun i=>⟨⟨[(0,I' a),(1,I' b),(2,D' e),(3,D' f),(11,A' c.length),(12,A' num),(13,J' 13),(15,A' i)],[(13,N' (((List.range c.length).map (ce c.length a e)++(List.range i).map (ce c.length b f))))]⟩,i<=c.length,c.length-i⟩|6=>T' (fun i=>⟨⟨[(0,I' a),(1,I' b),(2,D' e),(3,D' f),(11,A' c.length),(12,A' num),(13,G' (ay c.length a b e f)),(16,J' 16),(17,A' i)],[(16,some (.lst 0 62 (.rows .i64 (aP (ay c.length a b e f) i))))]⟩,i<=2*c.length,2*c.length-i⟩) (fun i b_=>match b_ with|8=>Q' fun j=>⟨⟨[(0,I' a),(1,I' b),(2,D' e),(3,D' f),(11,A' c.length),(12,A' num),(13,G' (ay c.length a b e f)),(16,J' 16),(17,A' i),(18,A' j)],[(16,some (.lst 0 62 (.rows .i64 (aP (ay c.length a b e f) i))))]⟩,(i<2*c.length/\j<=(aP (ay c.length a b e f) i).length/\(∀j1,j1<j->bh ((aP (ay c.length a b e f) i).getD j1 []) ((ay c.length a b e f).getD i [])=true)),(aP (ay c.length a b e f) i).length-j⟩|1019=>some (Ann.mk ((Unit)) (fun u=>⟨[(0,I' a),(1,I' b),(2,D' e),(3,D' f),(11,A' c.length),(12,A' num),(13,G' (ay c.length a b e f)),(16,J' 16),(17,A' i),(18,A' (((cK (aP (ay c.length a b e f) i) ((ay c.length a b e f).getD i []):Int))))],[(16,some (.lst 0 62 (.rows .i64 (aP (ay c.length a b e f) i))))]⟩) (fun u=>i<2*c.length) (fun u=>0) (fun _=>ar))|1020=>some (Ann.mk ((Unit)) (fun u=>⟨[(0,I' a),(1,I' b),(2,D' e),(3,D' f),(11,A' c.length),(12,A' num),(13,G' (ay c.length a b e f)),(16,J' 16),(17,A' i),(18,A' (((cK (aP (ay c.length a b e f) i) ((ay c.length a b e f).getD i []):Int))))],[(16,some (.lst 0 62 (.rows .i64 (aP (ay c.length a b e f) i))))]⟩) (fun u=>i<2*c.length/\¬ (cK (aP (ay c.length a b e f) i) ((ay c.length a b e f).getD i [])<(aP (ay c.length a b e f) i).length/\(aP (ay c.length a b e f) i).getD (cK (aP (ay c.length a b e f) i) ((ay c.length a b e f).getD i [])) []=(ay c.length a b e f).getD i [])) (fun u=>0) (fun _=>ar))|_=>none)|10=>T' (fun i=>⟨⟨[(0,I' a),(1,I' b),(2,D' e),(3,D' f),(11,A' c.length),(12,A' num),(13,G' (ay c.length a b e f)),(16,J' 16),(20,J' 20),(21,J' 21),(22,A' i)],[(16,some (.lst 0 62 (.rows .i64 (aN (ay c.length a b e f))))),(20,O' ((b7 c.length (aW (ay c.length a b e f)) (aN (ay c.length a b e f)).length i))),(21,O' (((aW (ay c.length a b e f)).take i)))]⟩,i<=2*c.length,2*c.length-i⟩) (fun i b_=>match b_ with|12=>Q' fun j=>⟨⟨[(0,I' a),(1,I' b),(2,D' e),(3,D' f),(11,A' c.length),(12,A' num),(13,G' (ay c.length a b e f)),(16,J' 16),(20,J' 20),(21,J' 21),(22,A' i),(23,A' j)],[(16,some (.lst 0 62 (.rows .i64 (aN (ay c.length a b e f))))),(20,O' ((b7 c.length (aW (ay c.length a b e f)) (aN (ay c.length a b e f)).length i))),(21,O' (((aW (ay c.length a b e f)).take i)))]⟩,(i<2*c.length/\j<(aN (ay c.length a b e f)).length/\(∀j1,j1<j->(aN (ay c.length a b e f)).getD j1 []≠(ay c.length a b e f).getD i [])),(aN (ay c.length a b e f)).length-j⟩|_=>none)|14=>Q' fun i=>⟨⟨[(0,I' a),(1,I' b),(2,D' e),(3,D' f),(11,A' c.length),(12,A' num),(16,J' 16),(20,J' 20),(21,J' 21),(24,A' i)],[(16,some (.lst 0 62 (.rows .i64 (aN (ay c.length a b e f))))),(20,O' ((b7 c.length (aW (ay c.length a b e f)) (aN (ay c.length a b e f)).length (2*c.length)))),(21,O' (aW (ay c.length a b e f)))]⟩,(i<=(aN (ay c.length a b e f)).length/\(∀j,j<i->(b7 c.length (aW (ay c.length a b e f)) (aN (ay c.length a b e f)).length (2*c.length)).getD j 0=0)),(aN (ay c.length a b e f)).length-i⟩|_=>none))
 |_=>none
def Mp:List (Nat×Ctr):=[(223,⟨[],Ek⟩),(203,⟨[],tO⟩),(202,⟨[],pB⟩)]
def aq(a:D3)(b:D3)(c:D1)(x0:Nat×Nat×D1×D1):=(ay c.length a b x0.2.2.1 x0.2.2.2)
def fg(a:D3)(b:D3)(c:D1)(x0:Nat×Nat×D1×D1)(x1:Nat):=(↑(cK (aP (aq a b c x0) x1) ((aq a b c x0).getD x1 [])):Int)
def iW(a:D3)(b:D3)(c:D1)(x0:Nat×Nat×D1×D1)(x1:Nat):=(b7 c.length (aW (aq a b c x0)) ((aN (aq a b c x0)).length) x1)
def pP(a:D3)(b:D3)(c:D1)(x0:Nat×Nat×D1×D1):=(b7 c.length (aW (aq a b c x0)) ((aN (aq a b c x0)).length) ((2:Nat)*c.length))
def En(a:D3)(b:D3)(c:D1)(x0:Nat×Nat×D1×D1)(x1:Nat):=((aq a b c x0).getD (↑x1:Int).toNat []::([]:D2)++List.take (FC.len (FC.rows IntKind.i64 (aP (aq a b c x0) x1))-(fg a b c x0 x1).toNat) (List.drop (fg a b c x0 x1).toNat (aP (aq a b c x0) x1)))
def Eo(a:D3)(b:D3)(c:D1)(d:D1):Prop :=
 ((∃x0:Nat×Nat×D1×D1,((((x0.2.2.1).length=c.length)/\(((x0.2.2.2).length=c.length)/\((∀(i:Nat),i<c.length->(0:Int)<=(x0.2.2.1).getD i (0:Int)/\(x0.2.2.1).getD i (0:Int)<=(60:Int))/\((∀(i:Nat),i<c.length->(0:Int)<=(x0.2.2.2).getD i (0:Int)/\(x0.2.2.2).getD i (0:Int)<=(60:Int))/\((mC x0.2.2.1 x0.2.2.2 x0.2.1)/\((x0.2.1<=(2:Nat)*c.length)/\(((2:Nat)*c.length<x0.1+x0.2.1)/\(gy c.length a b c d=gV c.length a b x0.1 x0.2.1 x0.2.2.1 x0.2.2.2))))))))/\((a=a)/\((b=b)/\((c=x0.2.2.1)/\((d=x0.2.2.2)/\(((↑(c.length):Int)=(↑(c.length):Int))/\((0:Int)=(↑x0.2.1:Int)))))))))/\(∀x1:Nat×Nat×D1×D1,((((x1.2.2.1).length=c.length)/\(((x1.2.2.2).length=c.length)/\((∀(i:Nat),i<c.length->(0:Int)<=(x1.2.2.1).getD i (0:Int)/\(x1.2.2.1).getD i (0:Int)<=(60:Int))/\((∀(i:Nat),i<c.length->(0:Int)<=(x1.2.2.2).getD i (0:Int)/\(x1.2.2.2).getD i (0:Int)<=(60:Int))/\((mC x1.2.2.1 x1.2.2.2 x1.2.1)/\((x1.2.1<=(2:Nat)*c.length)/\(((2:Nat)*c.length<x1.1+x1.2.1)/\(gy c.length a b c d=gV c.length a b x1.1 x1.2.1 x1.2.2.1 x1.2.2.2))))))))->((∃x2:Nat,((x2<=c.length)/\((a=a)/\((b=b)/\((x1.2.2.1=x1.2.2.1)/\((x1.2.2.2=x1.2.2.2)/\(((↑(c.length):Int)=(↑(c.length):Int))/\(((↑x1.2.1:Int)=(↑x1.2.1:Int))/\(((0:Int)=(↑x2:Int))/\(([]:D2)=List.map (ce c.length a x1.2.2.1) (List.range x2)))))))))))/\(∀x3:Nat,((x3<=c.length) ->
 (ab (decide ((↑x3:Int)<(↑(c.length):Int))) ((((a.length<=(1000:Nat))/\(((1:Nat)<=x1.2.2.1.length)/\((x1.2.2.1.length<=(12:Nat))/\((bH x1.2.2.1.length a)/\((∀(i:Nat),i<x1.2.2.1.length->(0:Int)<=x1.2.2.1.getD i (0:Int)/\x1.2.2.1.getD i (0:Int)<=(60:Int))/\(((0:Int)<=(↑x3:Int))/\((↑x3:Int)<(↑(x1.2.2.1.length):Int))))))))/\True)/\((am ((List.map (ce c.length a x1.2.2.1) (List.range x3)).length+(ce x1.2.2.1.length a x1.2.2.1 (↑x3:Int).toNat::([]:D2)).length))/\((af ((↑x3:Int)+(1:Int)))/\(∃x4:Nat,((x4<=c.length)/\((c.length-x4<c.length-x3)/\((a=a)/\((b=b)/\((x1.2.2.1=x1.2.2.1)/\((x1.2.2.2=x1.2.2.2)/\(((↑(c.length):Int)=(↑(c.length):Int))/\(((↑x1.2.1:Int)=(↑x1.2.1:Int))/\(((↑x3:Int)+(1:Int)=(↑x4:Int))/\(List.map (ce c.length a x1.2.2.1) (List.range x3)++ce x1.2.2.1.length a x1.2.2.1 (↑x3:Int).toNat::([]:D2)=List.map (ce c.length a x1.2.2.1) (List.range x4))))))))))))))) ((∃x5:Nat,((x5<=c.length)/\((a=a)/\((b=b)/\((x1.2.2.1=x1.2.2.1)/\((x1.2.2.2=x1.2.2.2)/\(((↑(c.length):Int)=(↑(c.length):Int))/\(((↑x1.2.1:Int)=(↑x1.2.1:Int))/\(((0:Int)=(↑x5:Int))/\(List.map (ce c.length a x1.2.2.1) (List.range x3)=List.map (ce c.length a x1.2.2.1) (List.range c.length)++List.map (ce c.length b x1.2.2.2) (List.range x5)))))))))))/\(∀x6:Nat,((x6<=c.length)->(ab (decide ((↑x6:Int)<(↑(c.length):Int))) ((((b.length<=(1000:Nat))/\(((1:Nat)<=x1.2.2.2.length) /\
 ((x1.2.2.2.length<=(12:Nat))/\((bH x1.2.2.2.length b)/\((∀(i:Nat),i<x1.2.2.2.length->(0:Int)<=x1.2.2.2.getD i (0:Int)/\x1.2.2.2.getD i (0:Int)<=(60:Int))/\(((0:Int)<=(↑x6:Int))/\((↑x6:Int)<(↑(x1.2.2.2.length):Int))))))))/\True)/\((am ((List.map (ce c.length a x1.2.2.1) (List.range c.length)++List.map (ce c.length b x1.2.2.2) (List.range x6)).length+(ce x1.2.2.2.length b x1.2.2.2 (↑x6:Int).toNat::([]:D2)).length))/\((af ((↑x6:Int)+(1:Int)))/\(∃x7:Nat,((x7<=c.length)/\((c.length-x7<c.length-x6)/\((a=a)/\((b=b)/\((x1.2.2.1=x1.2.2.1)/\((x1.2.2.2=x1.2.2.2)/\(((↑(c.length):Int)=(↑(c.length):Int))/\(((↑x1.2.1:Int)=(↑x1.2.1:Int))/\(((↑x6:Int)+(1:Int)=(↑x7:Int))/\(List.map (ce c.length a x1.2.2.1) (List.range c.length)++List.map (ce c.length b x1.2.2.2) (List.range x6)++ce x1.2.2.2.length b x1.2.2.2 (↑x6:Int).toNat::([]:D2)=List.map (ce c.length a x1.2.2.1) (List.range c.length)++List.map (ce c.length b x1.2.2.2) (List.range x7))))))))))))))) ((∃x8:Nat,((x8<=(2:Nat)*c.length)/\((a=a)/\((b=b)/\((x1.2.2.1=x1.2.2.1)/\((x1.2.2.2=x1.2.2.2)/\(((↑(c.length):Int)=(↑(c.length):Int))/\(((↑x1.2.1:Int)=(↑x1.2.1:Int))/\((List.map (ce c.length a x1.2.2.1) (List.range c.length)++List.map (ce c.length b x1.2.2.2) (List.range x6)=ay c.length a b x1.2.2.1 x1.2.2.2)/\(((0:Int)=(↑x8:Int))/\(([]:D2)=aP (aq a b c x1) x8))))))))))) /\
 (∀x9:Nat,((x9<=(2:Nat)*c.length)->(ab (decide ((↑x9:Int)<(↑((ay c.length a b x1.2.2.1 x1.2.2.2).length):Int))) (((∃x10:Nat,(((x9<(2:Nat)*c.length)/\((x10<=(aP (aq a b c x1) x9).length)/\(∀(j1:Nat),j1<x10->bh ((aP (aq a b c x1) x9).getD j1 []) ((aq a b c x1).getD x9 [])=true)))/\((a=a)/\((b=b)/\((x1.2.2.1=x1.2.2.1)/\((x1.2.2.2=x1.2.2.2)/\(((↑(c.length):Int)=(↑(c.length):Int))/\(((↑x1.2.1:Int)=(↑x1.2.1:Int))/\((ay c.length a b x1.2.2.1 x1.2.2.2=ay c.length a b x1.2.2.1 x1.2.2.2)/\(((↑x9:Int)=(↑x9:Int))/\(((0:Int)=(↑x10:Int))/\(aP (aq a b c x1) x9=aP (aq a b c x1) x9))))))))))))/\(∀x11:Nat,(((x9<(2:Nat)*c.length)/\((x11<=(aP (aq a b c x1) x9).length)/\(∀(j1:Nat),j1<x11->bh ((aP (aq a b c x1) x9).getD j1 []) ((aq a b c x1).getD x9 [])=true)))->(ab (decide ((↑x11:Int)<(↑(FC.len (FC.rows IntKind.i64 (aP (ay c.length a b x1.2.2.1 x1.2.2.2) x9))):Int))) ((ac (↑x11:Int) (FC.len (FC.rows IntKind.i64 (aP (aq a b c x1) x9))))/\((ac (↑x9:Int) (aq a b c x1).length)/\(((am (((aP (aq a b c x1) x9).getD (↑x11:Int).toNat []).length))/\True)/\(ab (bh ((aP (ay c.length a b x1.2.2.1 x1.2.2.2) x9).getD (↑x11:Int).toNat []) ((ay c.length a b x1.2.2.1 x1.2.2.2).getD (↑x9:Int).toNat [])) ((af ((↑x11:Int)+(1:Int)))/\(∃x12:Nat,(((x9<(2:Nat)*c.length) /\
 ((x12<=(aP (aq a b c x1) x9).length)/\(∀(j1:Nat),j1<x12->bh ((aP (aq a b c x1) x9).getD j1 []) ((aq a b c x1).getD x9 [])=true)))/\(((aP (aq a b c x1) x9).length-x12<(aP (aq a b c x1) x9).length-x11)/\((a=a)/\((b=b)/\((x1.2.2.1=x1.2.2.1)/\((x1.2.2.2=x1.2.2.2)/\(((↑(c.length):Int)=(↑(c.length):Int))/\(((↑x1.2.1:Int)=(↑x1.2.1:Int))/\((ay c.length a b x1.2.2.1 x1.2.2.2=ay c.length a b x1.2.2.1 x1.2.2.2)/\(((↑x9:Int)=(↑x9:Int))/\(((↑x11:Int)+(1:Int)=(↑x12:Int))/\(aP (aq a b c x1) x9=aP (aq a b c x1) x9)))))))))))))) (∃x13:Unit,((x9<(2:Nat)*c.length)/\((a=a)/\((b=b)/\((x1.2.2.1=x1.2.2.1)/\((x1.2.2.2=x1.2.2.2)/\(((↑(c.length):Int)=(↑(c.length):Int))/\(((↑x1.2.1:Int)=(↑x1.2.1:Int))/\((ay c.length a b x1.2.2.1 x1.2.2.2=ay c.length a b x1.2.2.1 x1.2.2.2)/\(((↑x9:Int)=(↑x9:Int))/\(((↑x11:Int)=(fg a b c x1 x9))/\(aP (aq a b c x1) x9=aP (aq a b c x1) x9)))))))))))))))) (∃x14:Unit,((x9<(2:Nat)*c.length)/\((a=a)/\((b=b)/\((x1.2.2.1=x1.2.2.1)/\((x1.2.2.2=x1.2.2.2)/\(((↑(c.length):Int)=(↑(c.length):Int))/\(((↑x1.2.1:Int)=(↑x1.2.1:Int))/\((ay c.length a b x1.2.2.1 x1.2.2.2=ay c.length a b x1.2.2.1 x1.2.2.2)/\(((↑x9:Int)=(↑x9:Int))/\(((↑x11:Int)=(fg a b c x1 x9))/\(aP (aq a b c x1) x9=aP (aq a b c x1) x9))))))))))))))))/\(∀x15:Unit,((x9<(2:Nat)*c.length) ->
 ((ab (decide ((↑(cK (aP (ay c.length a b x1.2.2.1 x1.2.2.2) x9) ((ay c.length a b x1.2.2.1 x1.2.2.2).getD x9 [])):Int)<(↑(FC.len (FC.rows IntKind.i64 (aP (ay c.length a b x1.2.2.1 x1.2.2.2) x9))):Int))) ((ac (fg a b c x1 x9) (FC.len (FC.rows IntKind.i64 (aP (aq a b c x1) x9))))/\((ac (↑x9:Int) (aq a b c x1).length)/\(((am (((aP (aq a b c x1) x9).getD (fg a b c x1 x9).toNat []).length))/\True)/\(ab (decide ((aP (ay c.length a b x1.2.2.1 x1.2.2.2) x9).getD ((↑(cK (aP (ay c.length a b x1.2.2.1 x1.2.2.2) x9) ((ay c.length a b x1.2.2.1 x1.2.2.2).getD x9 [])):Int).toNat) []=(ay c.length a b x1.2.2.1 x1.2.2.2).getD (↑x9:Int).toNat [])) ((af ((↑x9:Int)+(1:Int)))/\(∃x16:Nat,((x16<=(2:Nat)*c.length)/\(((2:Nat)*c.length-x16<(2:Nat)*c.length-x9)/\((a=a)/\((b=b)/\((x1.2.2.1=x1.2.2.1)/\((x1.2.2.2=x1.2.2.2)/\(((↑(c.length):Int)=(↑(c.length):Int))/\(((↑x1.2.1:Int)=(↑x1.2.1:Int))/\((ay c.length a b x1.2.2.1 x1.2.2.2=ay c.length a b x1.2.2.1 x1.2.2.2)/\(((↑x9:Int)+(1:Int)=(↑x16:Int))/\(aP (aq a b c x1) x9=aP (aq a b c x1) x16))))))))))))) (∃x17:Unit,(((x9<(2:Nat)*c.length) /\
 (¬(cK (aP (aq a b c x1) x9) ((aq a b c x1).getD x9 [])<(aP (aq a b c x1) x9).length/\(aP (aq a b c x1) x9).getD (cK (aP (aq a b c x1) x9) ((aq a b c x1).getD x9 [])) []=(aq a b c x1).getD x9 [])))/\((a=a)/\((b=b)/\((x1.2.2.1=x1.2.2.1)/\((x1.2.2.2=x1.2.2.2)/\(((↑(c.length):Int)=(↑(c.length):Int))/\(((↑x1.2.1:Int)=(↑x1.2.1:Int))/\((ay c.length a b x1.2.2.1 x1.2.2.2=ay c.length a b x1.2.2.1 x1.2.2.2)/\(((↑x9:Int)=(↑x9:Int))/\(((fg a b c x1 x9)=(fg a b c x1 x9))/\(aP (aq a b c x1) x9=aP (aq a b c x1) x9)))))))))))))))) (∃x18:Unit,(((x9<(2:Nat)*c.length)/\(¬(cK (aP (aq a b c x1) x9) ((aq a b c x1).getD x9 [])<(aP (aq a b c x1) x9).length/\(aP (aq a b c x1) x9).getD (cK (aP (aq a b c x1) x9) ((aq a b c x1).getD x9 [])) []=(aq a b c x1).getD x9 [])))/\((a=a)/\((b=b)/\((x1.2.2.1=x1.2.2.1)/\((x1.2.2.2=x1.2.2.2)/\(((↑(c.length):Int)=(↑(c.length):Int))/\(((↑x1.2.1:Int)=(↑x1.2.1:Int))/\((ay c.length a b x1.2.2.1 x1.2.2.2=ay c.length a b x1.2.2.1 x1.2.2.2)/\(((↑x9:Int)=(↑x9:Int))/\(((fg a b c x1 x9)=(fg a b c x1 x9))/\(aP (aq a b c x1) x9=aP (aq a b c x1) x9)))))))))))))/\(∀x19:Unit,(((x9<(2:Nat)*c.length) /\
 (¬(cK (aP (aq a b c x1) x9) ((aq a b c x1).getD x9 [])<(aP (aq a b c x1) x9).length/\(aP (aq a b c x1) x9).getD (cK (aP (aq a b c x1) x9) ((aq a b c x1).getD x9 [])) []=(aq a b c x1).getD x9 [])))->((ac (↑x9:Int) (aq a b c x1).length)/\((bM (FC.len (FC.rows IntKind.i64 (aP (aq a b c x1) x9))) (Option.some (fg a b c x1 x9)) Option.none)/\((am (FC.len (FC.rows IntKind.i64 ((aq a b c x1).getD (↑x9:Int).toNat []::([]:D2)))+FC.len (FC.rows IntKind.i64 (List.take (FC.len (FC.rows IntKind.i64 (aP (aq a b c x1) x9))-(fg a b c x1 x9).toNat) (List.drop (fg a b c x1 x9).toNat (aP (aq a b c x1) x9))))))/\((bM (FC.len (FC.rows IntKind.i64 (aP (aq a b c x1) x9))) Option.none (Option.some (fg a b c x1 x9)))/\((am (([]:D2).length+FC.len (FC.rows IntKind.i64 (List.take (fg a b c x1 x9).toNat (List.drop (0:Nat) (aP (aq a b c x1) x9))))))/\((am (FC.len (FC.rows IntKind.i64 (([]:D2)++List.take (fg a b c x1 x9).toNat (List.drop (0:Nat) (aP (aq a b c x1) x9))))+FC.len (FC.rows IntKind.i64 (En a b c x1 x9))))/\((af ((↑x9:Int)+(1:Int)))/\(∃x20:Nat,((x20<=(2:Nat)*c.length)/\(((2:Nat)*c.length-x20<(2:Nat)*c.length-x9)/\((a=a)/\((b=b)/\((x1.2.2.1=x1.2.2.1) /\
 ((x1.2.2.2=x1.2.2.2)/\(((↑(c.length):Int)=(↑(c.length):Int))/\(((↑x1.2.1:Int)=(↑x1.2.1:Int))/\((ay c.length a b x1.2.2.1 x1.2.2.2=ay c.length a b x1.2.2.1 x1.2.2.2)/\(((↑x9:Int)+(1:Int)=(↑x20:Int))/\(([]:D2)++List.take (fg a b c x1 x9).toNat (List.drop (0:Nat) (aP (aq a b c x1) x9))++(En a b c x1 x9)=aP (aq a b c x1) x20))))))))))))))))))))))))) ((((0:Int)<=(↑(FC.len (FC.rows IntKind.i64 (aP (aq a b c x1) x9))):Int))/\(((↑(FC.len (FC.rows IntKind.i64 (aP (aq a b c x1) x9))):Int)<=(↑(FC.len (FC.rows IntKind.i64 (aP (aq a b c x1) x9))):Int))/\(am ((↑(FC.len (FC.rows IntKind.i64 (aP (aq a b c x1) x9))):Int).toNat))))/\((∃x21:Nat,((x21<=(2:Nat)*c.length)/\((a=a)/\((b=b)/\((x1.2.2.1=x1.2.2.1)/\((x1.2.2.2=x1.2.2.2)/\(((↑(c.length):Int)=(↑(c.length):Int))/\(((↑x1.2.1:Int)=(↑x1.2.1:Int))/\((ay c.length a b x1.2.2.1 x1.2.2.2=ay c.length a b x1.2.2.1 x1.2.2.2)/\(((0:Int)=(↑x21:Int))/\((aP (aq a b c x1) x9=aN (aq a b c x1))/\((List.replicate ((↑(FC.len (FC.rows IntKind.i64 (aP (aq a b c x1) x9))):Int).toNat) (0:Int)=b7 c.length (aW (aq a b c x1)) ((aN (aq a b c x1)).length) x21)/\([]=List.take x21 (aW (aq a b c x1)))))))))))))))/\(∀x22:Nat,((x22<=(2:Nat)*c.length)->(ab (decide ((↑x22:Int)<(↑((ay c.length a b x1.2.2.1 x1.2.2.2).length):Int)))
 ((∃x23:Nat,(((x22<(2:Nat)*c.length)/\((x23<(aN (aq a b c x1)).length)/\(∀(j1:Nat),j1<x23->(aN (aq a b c x1)).getD j1 []≠(aq a b c x1).getD x22 [])))/\((a=a)/\((b=b)/\((x1.2.2.1=x1.2.2.1)/\((x1.2.2.2=x1.2.2.2)/\(((↑(c.length):Int)=(↑(c.length):Int))/\(((↑x1.2.1:Int)=(↑x1.2.1:Int))/\((ay c.length a b x1.2.2.1 x1.2.2.2=ay c.length a b x1.2.2.1 x1.2.2.2)/\(((↑x22:Int)=(↑x22:Int))/\(((0:Int)=(↑x23:Int))/\((aN (aq a b c x1)=aN (aq a b c x1))/\((b7 c.length (aW (aq a b c x1)) ((aN (aq a b c x1)).length) x22=b7 c.length (aW (aq a b c x1)) ((aN (aq a b c x1)).length) x22)/\(List.take x22 (aW (aq a b c x1))=List.take x22 (aW (aq a b c x1))))))))))))))))/\(∀x24:Nat,(((x22<(2:Nat)*c.length)/\((x24<(aN (aq a b c x1)).length)/\(∀(j1:Nat),j1<x24->(aN (aq a b c x1)).getD j1 []≠(aq a b c x1).getD x22 [])))->((ac (↑x24:Int) (FC.len (FC.rows IntKind.i64 (aN (aq a b c x1)))))/\((ac (↑x22:Int) (aq a b c x1).length)/\(((am (((aN (aq a b c x1)).getD (↑x24:Int).toNat []).length))/\True)/\(ab (!decide ((aN (ay c.length a b x1.2.2.1 x1.2.2.2)).getD (↑x24:Int).toNat []=(ay c.length a b x1.2.2.1 x1.2.2.2).getD (↑x22:Int).toNat [])) ((af ((↑x24:Int)+(1:Int)))/\(∃x25:Nat,(((x22<(2:Nat)*c.length) /\
 ((x25<(aN (aq a b c x1)).length)/\(∀(j1:Nat),j1<x25->(aN (aq a b c x1)).getD j1 []≠(aq a b c x1).getD x22 [])))/\(((aN (aq a b c x1)).length-x25<(aN (aq a b c x1)).length-x24)/\((a=a)/\((b=b)/\((x1.2.2.1=x1.2.2.1)/\((x1.2.2.2=x1.2.2.2)/\(((↑(c.length):Int)=(↑(c.length):Int))/\(((↑x1.2.1:Int)=(↑x1.2.1:Int))/\((ay c.length a b x1.2.2.1 x1.2.2.2=ay c.length a b x1.2.2.1 x1.2.2.2)/\(((↑x22:Int)=(↑x22:Int))/\(((↑x24:Int)+(1:Int)=(↑x25:Int))/\((aN (aq a b c x1)=aN (aq a b c x1))/\((b7 c.length (aW (aq a b c x1)) ((aN (aq a b c x1)).length) x22=b7 c.length (aW (aq a b c x1)) ((aN (aq a b c x1)).length) x22)/\(List.take x22 (aW (aq a b c x1))=List.take x22 (aW (aq a b c x1)))))))))))))))))) ((am ((List.take x22 (aW (aq a b c x1))).length+[(↑x24:Int)].length))/\(ab (decide ((↑x22:Int)<(↑(c.length):Int))) ((ac (↑x24:Int) (iW a b c x1 x22).length)/\((af ((iW a b c x1 x22).getD (↑x24:Int).toNat (0:Int)+(1:Int)))/\((ac (↑x24:Int) (iW a b c x1 x22).length)/\((af ((↑x22:Int)+(1:Int)))/\(∃x26:Nat,((x26<=(2:Nat)*c.length)/\(((2:Nat)*c.length-x26<(2:Nat)*c.length-x22)/\((a=a)/\((b=b)/\((x1.2.2.1=x1.2.2.1)/\((x1.2.2.2=x1.2.2.2)/\(((↑(c.length):Int)=(↑(c.length):Int))/\(((↑x1.2.1:Int)=(↑x1.2.1:Int)) /\
 ((ay c.length a b x1.2.2.1 x1.2.2.2=ay c.length a b x1.2.2.1 x1.2.2.2)/\(((↑x22:Int)+(1:Int)=(↑x26:Int))/\((aN (aq a b c x1)=aN (aq a b c x1))/\((List.set (iW a b c x1 x22) (↑x24:Int).toNat ((iW a b c x1 x22).getD (↑x24:Int).toNat (0:Int)+(1:Int))=b7 c.length (aW (aq a b c x1)) ((aN (aq a b c x1)).length) x26)/\(List.take x22 (aW (aq a b c x1))++[(↑x24:Int)]=List.take x26 (aW (aq a b c x1)))))))))))))))))))) ((ac (↑x24:Int) (iW a b c x1 x22).length)/\((af ((iW a b c x1 x22).getD (↑x24:Int).toNat (0:Int)-(1:Int)))/\((ac (↑x24:Int) (iW a b c x1 x22).length)/\((af ((↑x22:Int)+(1:Int)))/\(∃x27:Nat,((x27<=(2:Nat)*c.length)/\(((2:Nat)*c.length-x27<(2:Nat)*c.length-x22)/\((a=a)/\((b=b)/\((x1.2.2.1=x1.2.2.1)/\((x1.2.2.2=x1.2.2.2)/\(((↑(c.length):Int)=(↑(c.length):Int))/\(((↑x1.2.1:Int)=(↑x1.2.1:Int))/\((ay c.length a b x1.2.2.1 x1.2.2.2=ay c.length a b x1.2.2.1 x1.2.2.2)/\(((↑x22:Int)+(1:Int)=(↑x27:Int))/\((aN (aq a b c x1)=aN (aq a b c x1))/\((List.set (iW a b c x1 x22) (↑x24:Int).toNat ((iW a b c x1 x22).getD (↑x24:Int).toNat (0:Int)-(1:Int))=b7 c.length (aW (aq a b c x1)) ((aN (aq a b c x1)).length) x27) /\
 (List.take x22 (aW (aq a b c x1))++[(↑x24:Int)]=List.take x27 (aW (aq a b c x1))))))))))))))))))))))))))))) ((∃x28:Nat,(((x28<=(aN (aq a b c x1)).length)/\(∀(j:Nat),j<x28->(pP a b c x1).getD j (0:Int)=(0:Int)))/\((a=a)/\((b=b)/\((x1.2.2.1=x1.2.2.1)/\((x1.2.2.2=x1.2.2.2)/\(((↑(c.length):Int)=(↑(c.length):Int))/\(((↑x1.2.1:Int)=(↑x1.2.1:Int))/\(((0:Int)=(↑x28:Int))/\((aN (aq a b c x1)=aN (aq a b c x1))/\((b7 c.length (aW (aq a b c x1)) ((aN (aq a b c x1)).length) x22=b7 c.length (aW (aq a b c x1)) ((aN (aq a b c x1)).length) ((2:Nat)*c.length))/\(List.take x22 (aW (aq a b c x1))=aW (aq a b c x1)))))))))))))/\(∀x29:Nat,(((x29<=(aN (aq a b c x1)).length)/\(∀(j:Nat),j<x29->(pP a b c x1).getD j (0:Int)=(0:Int)))->(ab (decide ((↑x29:Int)<(↑((b7 c.length (aW (ay c.length a b x1.2.2.1 x1.2.2.2)) ((aN (ay c.length a b x1.2.2.1 x1.2.2.2)).length) ((2:Nat)*c.length)).length):Int))) ((ac (↑x29:Int) (pP a b c x1).length)/\(ab ((b7 c.length (aW (ay c.length a b x1.2.2.1 x1.2.2.2)) ((aN (ay c.length a b x1.2.2.1 x1.2.2.2)).length) ((2:Nat)*c.length)).getD (↑x29:Int).toNat (0:Int) != (0:Int)) (((FC.len (FC.ints IntKind.i64 (dP c.length a b c d).1)=(0:Nat))/\((FC.len (FC.ints IntKind.i64 (((dP c.length a b c d).2).1))=(0:Nat)) /\
 ((false=((dP c.length a b c d).2).2)/\True)))/\True) ((af ((↑x29:Int)+(1:Int)))/\(∃x30:Nat,(((x30<=(aN (aq a b c x1)).length)/\(∀(j:Nat),j<x30->(pP a b c x1).getD j (0:Int)=(0:Int)))/\(((aN (aq a b c x1)).length-x30<(aN (aq a b c x1)).length-x29)/\((a=a)/\((b=b)/\((x1.2.2.1=x1.2.2.1)/\((x1.2.2.2=x1.2.2.2)/\(((↑(c.length):Int)=(↑(c.length):Int))/\(((↑x1.2.1:Int)=(↑x1.2.1:Int))/\(((↑x29:Int)+(1:Int)=(↑x30:Int))/\((aN (aq a b c x1)=aN (aq a b c x1))/\((b7 c.length (aW (aq a b c x1)) ((aN (aq a b c x1)).length) ((2:Nat)*c.length)=b7 c.length (aW (aq a b c x1)) ((aN (aq a b c x1)).length) ((2:Nat)*c.length))/\(aW (aq a b c x1)=aW (aq a b c x1))))))))))))))))) ((bM ((aW (aq a b c x1)).length) Option.none (Option.some (↑(c.length):Int)))/\((bM ((aW (aq a b c x1)).length) (Option.some (↑(c.length):Int)) Option.none)/\(ab ((↑(FC.len (FC.rows IntKind.i64 (aN (ay c.length a b x1.2.2.1 x1.2.2.2)))):Int) == (↑x1.2.1:Int)) (((List.take ((↑(c.length):Int).toNat) (List.drop (0:Nat) (aW (aq a b c x1)))=(dP c.length a b c d).1)/\((List.take ((aW (aq a b c x1)).length-(↑(c.length):Int).toNat) (List.drop ((↑(c.length):Int).toNat) (aW (aq a b c x1)))=((dP c.length a b c d).2).1)/\((true=((dP c.length a b c d).2).2)/\True)))/\True)
 (∃x31:Nat×Nat×D1×D1,((((x31.2.2.1).length=c.length)/\(((x31.2.2.2).length=c.length)/\((∀(i:Nat),i<c.length->(0:Int)<=(x31.2.2.1).getD i (0:Int)/\(x31.2.2.1).getD i (0:Int)<=(60:Int))/\((∀(i:Nat),i<c.length->(0:Int)<=(x31.2.2.2).getD i (0:Int)/\(x31.2.2.2).getD i (0:Int)<=(60:Int))/\((mC x31.2.2.1 x31.2.2.2 x31.2.1)/\((x31.2.1<=(2:Nat)*c.length)/\(((2:Nat)*c.length<x31.1+x31.2.1)/\(gy c.length a b c d=gV c.length a b x31.1 x31.2.1 x31.2.2.1 x31.2.2.2))))))))/\((x31.1<x1.1)/\((a=a)/\((b=b)/\((List.take ((↑(c.length):Int).toNat) (List.drop (0:Nat) (aW (aq a b c x1)))=x31.2.2.1)/\((List.take ((aW (aq a b c x1)).length-(↑(c.length):Int).toNat) (List.drop ((↑(c.length):Int).toNat) (aW (aq a b c x1)))=x31.2.2.2)/\(((↑(c.length):Int)=(↑(c.length):Int))/\((↑(FC.len (FC.rows IntKind.i64 (aN (aq a b c x1)))):Int)=(↑x31.2.1:Int)))))))))))))))))))))))))))))))))))))
theorem Vs(a:D3)(b:D3)(c:D1)(d:D1):aM Tryz.prog (ah Mp) aj (Mo a b c d) Tryz.f177 (aF Tryz.f177) [] [.c (.r3 .i64 a),.c (.r3 .i64 b),.c (.ints .i64 c),.c (.ints .i64 d)] (tT a b c d)=Eo a b c d:=by kernel_rfl
set_option maxHeartbeats 1000000 in
theorem Vt(a:D3)(b:D3)(c:D1)(d:D1)(ξ:(tT a b c d).pre):Eo a b c d:=by
 simp only[tT,Eo,aq,fg,iW,pP,En,aJ]at ξ⊢;simp only[FC.len];obtain⟨h1,h2,h3,h4,h5,h6,h7,h8,h9⟩:=ξ;refine⟨⟨⟨2*c.length+1,0,c,d⟩,⟨rfl,h5,h8,h9,fun i hi=>absurd hi (Nat.not_lt_zero i),Nat.zero_le _,by dsimp only;omega,rfl⟩,rfl,rfl,rfl⟩,fun⟨fu,num,e,f⟩ ⟨e1,e2,e3,e4,e5,e6,e7,e8⟩=>?_⟩
 dsimp only at e1 e2 e3 e4 e5 e6 e7 e8⊢;refine⟨⟨0,by omega,rfl,rfl⟩,fun i hi=>⟨fun hi2=>?_,fun hi2=>?_⟩⟩
 ·refine⟨⟨by omega,by omega,by omega,by rw[e1];exact h6,by rw[e1];exact e3,by omega,by omega⟩,by simp;omega,by omega,i+1,by omega,by omega,by omega,?_⟩
  rw[tS,e1]
 rw[show i=c.length by omega]
 refine⟨⟨0,by omega,rfl,by simp⟩,fun i hi=>⟨fun hi2=>?_,fun hi2=>?_⟩⟩
 ·refine⟨⟨by omega,by omega,by omega,by rw[e2];exact h7,by rw[e2];exact e4,by omega,by omega⟩,by simp;omega,by omega,i+1,by omega,by omega,by omega,?_⟩
  rw[tS,e2,Ao]
 rw[show i=c.length by omega]
 have ML:=pS c.length a b e f
 have MR:=Vp h1 h2 h4 e f
 have MD:(List.range c.length).map (ce c.length a e)++(List.range c.length).map (ce c.length b f)=ay c.length a b e f:=rfl
 rw[MD];have S:mB c.length a b e f=if ka c.length (ay c.length a b e f)=true then some ((aW (ay c.length a b e f)).take c.length,(aW (ay c.length a b e f)).drop c.length,(aN (ay c.length a b e f)).length)else none:=rfl
 have MO:=M0 (n:=c.length) (a:=a) (b:=b) e1 e2 e5
 generalize ay c.length a b e f=M at *
 refine⟨⟨0,by omega,rfl,rfl,rfl⟩,fun i hi=>⟨fun hi2=>?_,fun hi2=>?_⟩⟩
 ·have KL:=EK M i
  have KR:∀j,j<(aP M i).length->((aP M i).getD j []).length<=1099511627776:=fun j hj=>by
   obtain⟨q,hq,e⟩:=(EL M _ i).1 (bI _ [] j hj);rw[e];exact MR _ (bI _ [] q (by omega))
  have KS:aP M (i+1)=fB (aP M i) (M.getD i []):=rfl
  generalize aP M i=K at *
  have MI:=MR _ (bI M [] i (by omega))
  generalize M.getD i []=m at *
  have PL:=EG K m
  refine⟨⟨⟨0,⟨by omega,by omega,fun j q=>by omega⟩,rfl⟩,fun j ⟨j1,j2,j3⟩=>⟨fun hj=>⟨by omega,by omega,KR j (by omega),fun q=>⟨by omega,j+1,⟨by omega,by omega,fun j4 q4=>?_⟩,by omega,by omega⟩,fun q=>?_⟩,fun hj=>?_⟩⟩,?_⟩
  ·by_cases z:j4=j
   ·subst z;exact q
   ·exact j3 j4 (by omega)
  ·exact⟨⟨⟩,by omega,by rw[EH K m j j3 j2 (fun _=>q)]⟩
  ·exact⟨⟨⟩,by omega,by rw[EH K m j j3 j2 (fun z=>absurd z (by omega))]⟩
  ·refine fun _ _=>⟨⟨fun q=>⟨by omega,by omega,KR _ (by omega),fun z=>⟨by omega,i+1,by omega,by omega,by omega,?_⟩,fun z=>⟨⟨⟩,by omega,fun y=>z y.2⟩⟩,fun q=>⟨⟨⟩,by omega,fun y=>q (by omega)⟩⟩,fun _ ⟨_,hn⟩=>?_⟩
   ·rw[KS,fB,AA ⟨by omega,z⟩]
   ·have e1:List.take (cK K m) (List.drop 0 K)=K.take (cK K m):=rfl
    have e2:List.take (K.length-cK K m) (List.drop (cK K m) K)=K.drop (cK K m):=AU (by rw[BG];omega)
    simp only[bM,e1,e2,Bn,AS,Ag,AT,BG,Ba];refine⟨by omega,by omega,by omega,by omega,by omega,by omega,by omega,i+1,by omega,by omega,by omega,?_⟩
    rw[KS,fB,AB hn];rfl
 have KE:aP M i=aN M:=by rw[aN,show i=M.length by omega]
 rw[KE];have CL:=og M
 have KL:=MM M
 have KR:∀j,j<(aN M).length->((aN M).getD j []).length<=1099511627776:=fun j hj=>MR _ (oe.1 (bI _ [] j hj))
 refine⟨⟨by omega,by omega,by omega⟩,⟨0,by omega,rfl,rfl,rfl,rfl⟩,fun i hi=>⟨fun hi2=>?_,fun hi2=>?_⟩⟩
 ·have mem:M.getD i []∈aN M:=oe.2 (bI M [] i (by omega))
  have ID:=j9 mem
  have CI:=pT M (i:=i) (by omega)
  refine⟨⟨0,⟨by omega,by omega,fun j q=>by omega⟩,rfl⟩,fun j ⟨j1,j2,j3⟩=>⟨by omega,by omega,KR j j2,fun q=>⟨by omega,j+1,⟨by omega,?_,fun j4 q4=>?_⟩,by omega,by omega⟩,fun q=>?_⟩⟩
  ·refine Av fun z=>?_
   have:d6 (aN M) (M.getD i [])<=j:=by omega
   by_cases y:d6 (aN M) (M.getD i [])=j
   ·rw[<-y]at q;exact q ID.2
   ·exact j3 _ (by omega) ID.2
  ·by_cases z:j4=j
   ·subst z;exact q
   ·exact j3 j4 (by omega)
  ·have ej:d6 (aN M) (M.getD i [])=j:=pQ j j3 j2 q
   rw[ej]at CI;have TK:(aW M).take i++[(j:Int)]=(aW M).take (i+1):=by rw[<-CI,dZ _ 0 i (by omega)]
   have CN:=Em c.length (aW M) (aN M).length i j
   have CS:b7 c.length (aW M) (aN M).length (i+1)=(b7 c.length (aW M) (aN M).length i).set j ((b7 c.length (aW M) (aN M).length i).getD j 0+if i<c.length then 1 else -1):=by rw[b7,CI];rfl
   have NL:=kb c.length (aW M) (aN M).length i
   refine⟨by simp;omega,fun z=>⟨by omega,by omega,by omega,by omega,i+1,by omega,by omega,by omega,?_,TK⟩,fun z=>⟨by omega,by omega,by omega,by omega,i+1,by omega,by omega,by omega,?_,TK⟩⟩
   ·rw[CS,AA (by omega)]
   ·rw[CS,AB (by omega)];rfl
 have ei:i=2*c.length:=by omega
 subst ei;have NL:=kb c.length (aW M) (aN M).length (2*c.length)
 rw[<-ML]at NL⊢;rw[AU (l:=aW M) (by omega)]
 obtain⟨fu,rfl⟩:∃m,fu=m+1:=⟨fu-1,by omega⟩
 refine⟨⟨0,⟨by omega,fun j q=>by omega⟩,rfl,rfl,rfl⟩,fun i ⟨hi,iz⟩=>⟨fun hi2=>⟨by omega,fun q=>?_,fun q=>⟨by omega,i+1,⟨by omega,fun j z=>?_⟩,by omega,by omega⟩⟩,fun hi2=>?_⟩⟩
 ·have R:dP c.length a b c d=([],[],false):=by rw[dP,e8,gV,S,AB (by rw[Vq (by omega) q];simp)]
  rw[R];exact⟨rfl,rfl,rfl⟩
 ·by_cases y:j=i
  ·subst y;exact q
  ·exact iz j (by omega)
 ·have EV:ka c.length M=true:=Vr fun j hj=>iz j (by omega)
  rw[AA EV]at S;have t1:List.take c.length (List.drop 0 (aW M))=(aW M).take c.length:=rfl
  have t2:List.take ((aW M).length-c.length) (List.drop c.length (aW M))=(aW M).drop c.length:=AU (by rw[BG];omega)
  rw[t1,t2];obtain⟨q1,q2,q3,q4,q5,q6⟩:=ER S;refine⟨by omega,by omega,fun q=>?_,fun q=>⟨⟨fu,(aN M).length,(aW M).take c.length,(aW M).drop c.length⟩,⟨q1,q2,fun x hx=>?_,fun x hx=>?_,q4,?_,?_,?_⟩,by omega,rfl,rfl,rfl⟩⟩
  ·have R:dP c.length a b c d=((aW M).take c.length,(aW M).drop c.length,true):=by rw[dP,e8,gV,S];simp only;rw[AA (by omega)]
   rw[R];exact⟨rfl,rfl,rfl⟩
  ·have:=q5 x hx;dsimp only;omega
  ·have:=q6 x hx;dsimp only;omega
  ·dsimp only;omega
  ·dsimp only;omega
  ·dsimp only;rw[e8,gV,S];simp only;rw[if_neg (by omega)]
theorem Mq:Fits Tryz.prog 177 ⟨[],tU⟩:=by
 refine aU (Γ:=ah Mp) (aw Vo (aw Mg (aw yU aI))) Tryz.func177 fun ds p h hp=>?_
 unfold tU at h;split at h
 ·cases h
  exact⟨aj,Mo _ _ _ _ ,by rw[Vs];exact Vt _ _ _ _  hp⟩
 ·cases h
end Go.Sx
