/- SxLaw -/
import Derived.Test.YtkmldclpaniclaaGreatDeep
import Derived.Test.YtkmldclpaniclaaGreatBrsS
import Derived.Test.YtkmldclpaniclaaGreatRows
import Derived.JoinedOf
import Derived.KernelRfl
import Derived.Test.YtkmldclpaniclaaGreatSxZ
import Derived.ProofKit
import Derived.OpenShut
import Derived.Lib.SmallJoins
import Derived.Deep.Matrix
set_option linter.unusedSimpArgs false
set_option linter.unusedVariables false
section
open Go Go.Proofs
namespace Go.Sx
def ep(q:List (List Int)×List (List Int)):Nat:=am q.1+am q.2
def fK(q:List (List Int)×List (List Int))(k:Int):List (List Int)×List (List Int):=(a8 q.1 k,a8 q.2 (k+(am q.1:Int)))
def bc(l:List (List (List Int)×List (List Int))):Nat:=de ep l
def bq:List (List (List Int)×List (List Int))->Int->List (List (List Int)×List (List Int)):=dn fK ep
def iY(l:List (List (List Int)×List (List Int))):Prop:=l.length<=1048576/\∀q∈l,q.1.length<=1048576/\q.2.length<=1048576
def lH(l:List (List (List Int)×List (List Int))):Prop:=l.length<=1099511627776/\∀q∈l,aY q.1/\aY q.2
theorem tV(l:List (List (List Int)×List (List Int)))(k:Int):(bq l k).length=l.length:=qG l k
theorem Iv(q:List (List Int)×List (List Int))(k:Int):ep (fK q k)=ep q:=by simp[ep,fK,rL]
theorem RG(q:List (List Int)×List (List Int))(k:Int):fK (fK q k) k=fK q k:=by simp[fK,xT,rL]
theorem RH(l:List (List (List Int)×List (List Int)))(k:Int):bc (bq l k)=bc l:=Ev (fun x k=>Iv x k) l k
theorem RI(l:List (List (List Int)×List (List Int)))(k:Int):bq (bq l k) k=bq l k:=Ew RG Iv l k
theorem RJ{l:List (List (List Int)×List (List Int))}(h:iY l)(k:Int):iY (bq l k):=⟨by rw[tV];exact h.1,fun r hr=>by
 obtain⟨x,hx,j,rfl⟩:=M2 hr;have:=h.2 x hx
 simp only[fK,kL];exact this⟩
theorem RK(l:List (List (List Int)×List (List Int)))(i:Nat):cW l (i*2)=(l.getD i ([],[])).1:=by
 simp[cW]
theorem RL(l:List (List (List Int)×List (List Int)))(i:Nat):cW l (i*2+1)=(l.getD i ([],[])).2:=by
 have h1:(i*2+1) % 2=1:=by omega
 have h2:(i*2+1) / 2=i:=by omega
 simp[cW,h1,h2]
theorem RM(l:List (List (List Int)×List (List Int)))(i:Nat)(x y:List (List Int)):dO (dO l (i*2) x) (i*2+1) y=l.set i (x,y):=by
 have h1:(i*2+1) % 2=1:=by omega
 have h2:(i*2+1) / 2=i:=by omega
 have h3:i*2 % 2=0:=by omega
 have h4:i*2 / 2=i:=by omega
 have e1:dO l (i*2) x=l.set i (x,(l.getD i ([],[])).2):=by simp[dO,h3,h4]
 have e2 (m:List (List (List Int)×List (List Int))):dO m (i*2+1) y=m.set i ((m.getD i ([],[])).1,y):=by simp[dO,h1,h2]
 rw[e1,e2];by_cases h:i<l.length
 ·have:(l.set i (x,(l.getD i ([],[])).2)).getD i ([],[])=(x,(l.getD i ([],[])).2):=by
   rw[List.getD_eq_getElem?_getD,List.getElem?_set_self h];rfl
  rw[this];simp[List.set_set]
 ·simp[List.set_eq_of_length_le (show l.length<=i by omega)]
theorem RN(l:List (List (List Int)×List (List Int)))(j:Nat)(x:List (List Int)):(dO l j x).length=l.length:=by simp[dO]
def tW(a:List (List Int))(c:List (List Int))(a2:List (List Int))(c2:List (List Int)):Post:=⟨aY a/\aY c,.c (.bool (decide (a=a2/\c=c2))),[]⟩
def Bl:List AD->Option Post
 | [.agg [.rows .i64 a,.rows .i64 c],.agg [.rows .i64 a2,.rows .i64 c2]]=>some (tW a c a2 c2)
 |_=>none
def Iw:List (Nat×Ctr):=[(55,⟨[],rJ⟩)]
def Bn(a:List (List Int))(c:List (List Int))(a2:List (List Int))(c2:List (List Int)):Prop :=
 (aY a/\True)/\af (!decide (a=a2)) (false=decide (a=a2/\c=c2)/\True) ((aY c/\True)/\af (!decide (c=c2)) (false=decide (a=a2/\c=c2)/\True) (true=decide (a=a2/\c=c2)/\True))
theorem RO(a:List (List Int))(c:List (List Int))(a2:List (List Int))(c2:List (List Int)):aP Tryz.prog (ai Iw) aj ar Tryz.f34 (aF Tryz.f34) [] [.agg [.rows .i64 a,.rows .i64 c],.agg [.rows .i64 a2,.rows .i64 c2]] (tW a c a2 c2)=Bn a c a2 c2:=by kernel_rfl
theorem RP(a:List (List Int))(c:List (List Int))(a2:List (List Int))(c2:List (List Int))(Yh:(tW a c a2 c2).pre):Bn a c a2 c2:=by
 simp only[tW,Bn,aK,u1,u2,u3,u4,u5,u6,u7,u8,u9,v1,v2,v3,v4,v5,v6,v7,v8,v9,w1,w2,w3,w4,aC,ab,ae,ag,av]at Yh⊢;refine⟨Yh.1,fun h=>(decide_eq_false fun e=>h e.1).symm,fun h=>⟨Yh.2,fun h2=>(decide_eq_false fun e=>h2 e.2).symm,fun h2=>(decide_eq_true ⟨h,h2⟩).symm⟩⟩
theorem RQ:Fits Tryz.prog 34 ⟨[],Bl⟩:=by
 refine aW (Γ:=ai Iw) (az Ft aJ) Tryz.func34 fun ds p h hp=>?_
 unfold Bl at h;split at h
 ·cases h
  exact⟨aj,ar,by rw[RO];exact RP _ _ _ _  hp⟩
 ·cases h
def tX(a:List (List (List Int)×List (List Int)))(b:List (List (List Int)×List (List Int))):Post:=⟨lH a,.c (.bool (decide (a=b))),[]⟩
def Bo:List AD->Option Post
 | [.c (.p3 .i64 a),.c (.p3 .i64 b)]=>some (tX a b)
 |_=>none
def Ix(a:List (List (List Int)×List (List Int)))(b:List (List (List Int)×List (List Int))):Nat->Option Ann
 |0=>some (Ann.mk ((Nat)) (fun i=>⟨[(0,.c (.ro (.p3 .i64 a))),(1,.c (.ro (.p3 .i64 b))),(5,.c (.int .i64 ((i:Int))))],[]⟩) (fun i=>i<=a.length/\a.length=b.length/\a.take i=b.take i) (fun i=>a.length-i) (fun _=>ar))
 |_=>none
def Iy:List (Nat×Ctr):=[(34,⟨[],Bl⟩)]
def Bp(a:List (List (List Int)×List (List Int)))(b:List (List (List Int)×List (List Int))):Prop :=
 af ((a.length:Int) != (b.length:Int)) (false=decide (a=b)/\True) ((∃x0:Nat,(x0<=a.length/\a.length=b.length/\List.take x0 a=List.take x0 b)/\a=a/\b=b/\(0:Int)=(x0:Int))/\∀x1:Nat,x1<=a.length/\a.length=b.length/\List.take x1 a=List.take x1 b->af (decide ((x1:Int)<(a.length:Int))) (ab (x1:Int) a.length/\ab (x1:Int) b.length/\((aY ((a.getD (x1:Int).toNat (([]:List (List Int)),([]:List (List Int)))).1)/\aY ((a.getD (x1:Int).toNat (([]:List (List Int)),([]:List (List Int)))).2))/\True)/\af (!decide ((a.getD (x1:Int).toNat (([]:List (List Int)),([]:List (List Int)))).1=(b.getD (x1:Int).toNat (([]:List (List Int)),([]:List (List Int)))).1/\(a.getD (x1:Int).toNat (([]:List (List Int)),([]:List (List Int)))).2=(b.getD (x1:Int).toNat (([]:List (List Int)),([]:List (List Int)))).2)) (false=decide (a=b)/\True) (ae ((x1:Int)+(1:Int))/\∃x2:Nat,(x2<=a.length/\a.length=b.length/\List.take x2 a=List.take x2 b)/\a.length-x2<a.length-x1/\a=a/\b=b/\(x1:Int)+(1:Int)=(x2:Int))) (true=decide (a=b)/\True))
theorem RR(a:List (List (List Int)×List (List Int)))(b:List (List (List Int)×List (List Int))):aP Tryz.prog (ai Iy) aj (Ix a b) Tryz.f13 (aF Tryz.f13) [] [.c (.p3 .i64 a),.c (.p3 .i64 b)] (tX a b)=Bp a b:=by kernel_rfl
theorem RS(a:List (List (List Int)×List (List Int)))(b:List (List (List Int)×List (List Int)))(Yh:(tX a b).pre):Bp a b:=by
 simp only[tX,Bp,aK,u1,u2,u3,u4,u5,u6,u7,u8,u9,v1,v2,v3,v4,v5,v6,v7,v8,v9,w1,w2,w3,w4,aC,ab,ae,ag,av]at Yh⊢;have h0:=Yh.1
 refine⟨fun h=>?_,fun h=>⟨⟨0,⟨by omega,by omega,rfl⟩,by simp⟩,fun i hi=>⟨fun h1=>⟨by omega,by omega,Yh.2 _ (bE a ([],[]) i (by omega)),fun h2=>?_,fun h2=>⟨by omega,i+1,⟨by omega,hi.2.1,?_⟩,by omega,by omega⟩⟩,fun h1=>?_⟩⟩⟩
 ·exact(decide_eq_false fun e=>h (by rw[e])).symm
 ·exact(decide_eq_false fun e=>by rw[e]at h2;simp at h2).symm
 ·exact(pq a b ([],[]) i (by omega) (by omega) hi.2.2).2 (Prod.ext h2.1 h2.2)
 ·refine(decide_eq_true ?_).symm
  have:=hi.2.2
  rwa[List.take_of_length_le (by omega),List.take_of_length_le (by omega)]at this
theorem RT:Fits Tryz.prog 13 ⟨[],Bo⟩:=by
 refine aW (Γ:=ai Iy) (az RQ aJ) Tryz.func13 fun ds p h hp=>?_
 unfold Bo at h;split at h
 ·cases h
  exact⟨aj,Ix _ _ ,by rw[RR];exact RS _ _  hp⟩
 ·cases h
theorem RU(l:List (List (List Int)×List (List Int)))(k:Int)(i:Nat)(h:i<l.length) :
  cW (bq (l.take i) k++l.drop i) (i*2)=(l.getD i ([],[])).1/\∀x,cW (dO (bq (l.take i) k++l.drop i) (i*2) x) (i*2+1)=(l.getD i ([],[])).2:=by
 have g1:=(Ex (f:=fK) (c:=ep) l ([],[]) k i h).1
 have hlen:(bq (l.take i) k++l.drop i).length=l.length:=by rw[List.length_append,tV,List.length_take,List.length_drop];omega
 have e0:(bq (l.take i) k++l.drop i).getD i ([],[])=l.getD i ([],[]):=g1
 refine⟨by rw[RK,e0],fun x=>?_⟩
 have h3:i*2 % 2=0:=by omega
 have h4:i*2 / 2=i:=by omega
 rw[RL,dO,h3,h4,if_pos rfl,List.getD_eq_getElem?_getD,List.getElem?_set_self (by omega),e0]
 rfl
theorem RW(l:List (List (List Int)×List (List Int)))(k:Int)(i:Nat)(h:i<l.length) :
  dO (dO (bq (l.take i) k++l.drop i) (i*2) (a8 (l.getD i ([],[])).1 (k+(bc (l.take i):Int)))) (i*2+1) (a8 (l.getD i ([],[])).2 (k+(bc (l.take i):Int)+(am (l.getD i ([],[])).1:Int)))=bq (l.take (i+1)) k++l.drop (i+1):=by
 rw[RM];exact(Ex (f:=fK) (c:=ep) l ([],[]) k i h).2
def tY(l:List (List (List Int)×List (List Int)))(k:Int):Post:=⟨iY l/\bc l<=1048576/\0<=k/\k<=536870912,.c (.int .i64 (k+(bc l:Int))),[.tr [39,62,2] (.p3 .i64 (bq l k))]⟩
def Bq:List AD->Option Post
 | [.c (.p3 .i64 l),.c (.int .i64 k)]=>some (tY l k)
 |_=>none
def Iz(l:List (List (List Int)×List (List Int)))(k:Int):Nat->Option Ann
 |0=>some (Ann.mk ((Nat)) (fun i=>⟨[(0,.c (.own 700)),(1,.c (.int .i64 (k+(bc (l.take i):Int)))),(5,.c (.int .i64 ((i:Int))))],[(700,some (.tr 0 [39,62,2] (.p3 .i64 (bq (l.take i) k++l.drop i))))]⟩) (fun i=>i<=l.length) (fun i=>l.length-i) (fun _=>ar))
 |_=>none
def IA:List (Nat×Ctr):=[(56,⟨[(0,0)],xa⟩)]
def oQ(l:List (List (List Int)×List (List Int)))(k:Int)(x0:Nat):=(dO (bq (List.take x0 l) k++List.drop x0 l) ((↑x0:Int).toNat*(2:Nat)) (a8 (cW (bq (List.take x0 l) k++List.drop x0 l) ((↑x0:Int).toNat*(2:Nat))) (k+(↑(bc (List.take x0 l)):Int))))
def iZ(l:List (List (List Int)×List (List Int)))(k:Int)(x0:Nat):=(cW (bq (List.take x0 l) k++List.drop x0 l) ((↑x0:Int).toNat*(2:Nat)))
def lI(l:List (List (List Int)×List (List Int)))(k:Int)(x0:Nat):=(cW (oQ l k x0) ((↑x0:Int).toNat*(2:Nat)+(1:Nat)))
def Br(l:List (List (List Int)×List (List Int)))(k:Int):Prop :=
 ((∃x0:Nat,x0<=l.length/\k=k+(↑(bc (List.take x0 l)):Int)/\(0:Int)=(x0:Int)/\l=bq (List.take x0 l) k++List.drop x0 l)/\(∀x1:Nat,(x1<=l.length->(af (decide ((x1:Int)<(↑(FC.len (FC.p3 IntKind.i64 (bq (List.take x1 l) k++List.drop x1 l))):Int))) (ab (x1:Int) (FC.len (FC.p3 IntKind.i64 (bq (List.take x1 l) k++List.drop x1 l)))/\((x1:Int).toNat*(2:Nat)<FC.cn (FC.p3 IntKind.i64 (bq (List.take x1 l) k++List.drop x1 l))/\((((iZ l k x1).length<=(1048576:Nat)/\am (iZ l k x1)<=(1048576:Nat)/\(0:Int)<=k+(↑(bc (List.take x1 l)):Int)/\k+(↑(bc (List.take x1 l)):Int)<=(1073741824:Int))/\FC.len (FC.rows IntKind.i64 (a8 (iZ l k x1) (k+(↑(bc (List.take x1 l)):Int))))=FC.len (FC.rows IntKind.i64 (iZ l k x1)))/\(ab (x1:Int) (FC.len (FC.p3 IntKind.i64 (oQ l k x1)))/\((x1:Int).toNat*(2:Nat)+(1:Nat)<FC.cn (FC.p3 IntKind.i64 (oQ l k x1))/\((((lI l k x1).length<=(1048576:Nat)/\am (lI l k x1)<=(1048576:Nat)/\(0:Int)<=k+(↑(bc (List.take x1 l)):Int)+(↑(am (iZ l k x1)):Int)/\k+(↑(bc (List.take x1 l)):Int)+(↑(am (iZ l k x1)):Int)<=(1073741824:Int))/\FC.len (FC.rows IntKind.i64 (a8 (lI l k x1) (k+(↑(bc (List.take x1 l)):Int)+(↑(am (iZ l k x1)):Int))))=FC.len (FC.rows IntKind.i64 (lI l k x1))) /\
 ((ae ((x1:Int)+(1:Int)))/\(∃x2:Nat,((x2<=l.length)/\((l.length-x2<l.length-x1)/\((k+(↑(bc (List.take x1 l)):Int)+(↑(am (iZ l k x1)):Int)+(↑(am (lI l k x1)):Int)=k+(↑(bc (List.take x2 l)):Int))/\(((x1:Int)+(1:Int)=(x2:Int))/\(dO (oQ l k x1) ((x1:Int).toNat*(2:Nat)+(1:Nat)) (a8 (lI l k x1) (k+(↑(bc (List.take x1 l)):Int)+(↑(am (iZ l k x1)):Int)))=bq (List.take x2 l) k++List.drop x2 l))))))))))))) ((k+(↑(bc (List.take x1 l)):Int)=k+(bc l:Int))/\((bq (List.take x1 l) k++List.drop x1 l=bq l k)/\True))))))
theorem RX(l:List (List (List Int)×List (List Int)))(k:Int):aP Tryz.prog (ai IA) aj (Iz l k) Tryz.f16 (aF Tryz.f16) [(0,0)] [.c (.p3 .i64 l),.c (.int .i64 k)] (tY l k)=Br l k:=by kernel_rfl
theorem RY(l:List (List (List Int)×List (List Int)))(k:Int)(Yh:(tY l k).pre):Br l k:=by
 simp only[tY,Br,oQ,iZ,lI,aK,true_and,and_true,decide_eq_true_eq,decide_eq_false_iff_not,bne_iff_ne,beq_iff_eq,bne_eq_false_iff_eq,beq_eq_false_iff_ne,Bool.not_eq_true,Bool.not_eq_false,Bool.not_true,Bool.not_false,Bool.not_eq_eq_eq_not,Int.toNat_natCast,List.length_append,List.length_take,List.length_replicate,List.length_set,List.length_map,List.length_drop,List.length_nil,List.length_cons,aC,ab,ae,ag,av,FC.len]at Yh⊢;obtain⟨⟨h1,h0⟩,h2,h3,h4⟩:=Yh;refine⟨⟨0,by omega,by simp[bc,de],rfl,by simp[bq,dn]⟩,fun i hi=>?_⟩
 have hlm:(bq (l.take i) k).length=i:=by rw[tV,List.length_take];omega
 have w (x:List (List (List Int)×List (List Int))):(FC.p3 .i64 x).wid=2:=rfl
 simp only[FC.len,FC.cn,RN,List.length_append,List.length_drop,hlm,kL,Int.toNat_natCast,w];refine⟨fun h=>?_,fun h=>?_⟩
 ·obtain⟨g1,g2⟩:=RU l k i (by omega)
  have g3:=RW l k i (by omega)
  simp only[g1,g2,g3];have q1:bc (l.take (i+1))=bc (l.take i)+ep (l.getD i ([],[])):=Et ep l ([],[]) i (by omega)
  have q2:bc (l.take (i+1))<=bc l:=Eu ep l (i+1)
  have q3:=h0 _ (bE l ([],[]) i (by omega))
  have q4:ep (l.getD i ([],[]))=am (l.getD i ([],[])).1+am (l.getD i ([],[])).2:=rfl
  refine⟨by omega,by omega,⟨⟨q3.1,by omega,by omega,by omega⟩,trivial⟩,by omega,by omega,⟨⟨q3.2,by omega,by omega,by omega⟩,trivial⟩,by omega,i+1,by omega,by omega,by omega,by omega,rfl⟩
 ·rw[List.take_of_length_le (by omega),List.drop_of_length_le (by omega),List.append_nil]
  exact⟨rfl,rfl⟩
theorem RZ:Fits Tryz.prog 16 ⟨[(0,0)],Bq⟩:=by
 refine aW (Γ:=ai IA) (az M8 aJ) Tryz.func16 fun ds p h hp=>?_
 unfold Bq at h;split at h
 ·cases h
  exact⟨aj,Iz _ _ ,by rw[RX];exact RY _ _  hp⟩
 ·cases h
def tZ(l:List (List (List Int)×List (List Int)))(k:Int):Post:=⟨iY l/\bc l<=1048576/\0<=k/\k<=536870912,.c (.int .i64 (if l=bq l k then k+(bc l:Int)else -1)),[]⟩
def Bs:List AD->Option Post
 | [.c (.p3 .i64 l),.c (.int .i64 k)]=>some (tZ l k)
 |_=>none
def IB(l:List (List (List Int)×List (List Int)))(k:Int):Nat->Option Ann
 |0=>some (Ann.mk ((Nat)) (fun i=>⟨[(0,.c (.ro (.p3 .i64 l))),(1,.c (.int .i64 (k+(bc (l.take i):Int)))),(5,.c (.int .i64 ((i:Int))))],[]⟩) (fun i=>i<=l.length/\l.take i=bq (l.take i) k) (fun i=>l.length-i) (fun _=>ar))
 |_=>none
def IC:List (Nat×Ctr):=[(57,⟨[],xW⟩)]
def i4(l:List (List (List Int)×List (List Int)))(x0:Nat):=(l.getD (↑x0:Int).toNat (([]:List (List Int)),([]:List (List Int))))
def Bt(l:List (List (List Int)×List (List Int)))(k:Int):Prop :=
 ((∃x0:Nat,(x0<=l.length/\List.take x0 l=bq (List.take x0 l) k)/\l=l/\k=k+(↑(bc (List.take x0 l)):Int)/\(0:Int)=(x0:Int))/\(∀x1:Nat,(x1<=l.length/\List.take x1 l=bq (List.take x1 l) k->(af (decide ((x1:Int)<(l.length:Int))) (ab (x1:Int) l.length/\(((((i4 l x1).1).length<=(1048576:Nat)/\am (i4 l x1).1<=(1048576:Nat)/\(0:Int)<=k+(↑(bc (List.take x1 l)):Int)/\k+(↑(bc (List.take x1 l)):Int)<=(1073741824:Int))/\True)/\(af (decide ((if(l.getD (x1:Int).toNat (([]:List (List Int)),([]:List (List Int)))).1=a8 ((l.getD (x1:Int).toNat (([]:List (List Int)),([]:List (List Int)))).1) (k+(↑(bc (List.take x1 l)):Int))then k+(↑(bc (List.take x1 l)):Int)+(↑(am ((l.getD (x1:Int).toNat (([]:List (List Int)),([]:List (List Int)))).1)):Int)else(-1:Int))<(0:Int))) (((-1:Int)=if l=bq l k then k+(bc l:Int)else(-1:Int))/\True) (ab (x1:Int) l.length/\(((((i4 l x1).2).length<=(1048576:Nat)/\(am (i4 l x1).2<=(1048576:Nat)/\(((0:Int)<=if(l.getD (x1:Int).toNat (([]:List (List Int)),([]:List (List Int)))).1=a8 ((l.getD (x1:Int).toNat (([]:List (List Int)),([]:List (List Int)))).1) (k+(↑(bc (List.take x1 l)):Int))then k+(↑(bc (List.take x1 l)):Int)+(↑(am (i4 l x1).1):Int)else(-1:Int)) /\
 ((if(l.getD (x1:Int).toNat (([]:List (List Int)),([]:List (List Int)))).1=a8 ((l.getD (x1:Int).toNat (([]:List (List Int)),([]:List (List Int)))).1) (k+(↑(bc (List.take x1 l)):Int))then k+(↑(bc (List.take x1 l)):Int)+(↑(am (i4 l x1).1):Int)else(-1:Int))<=(1073741824:Int)))))/\True)/\(af (decide ((if(l.getD (x1:Int).toNat (([]:List (List Int)),([]:List (List Int)))).2=a8 ((l.getD (x1:Int).toNat (([]:List (List Int)),([]:List (List Int)))).2) (if(l.getD (x1:Int).toNat (([]:List (List Int)),([]:List (List Int)))).1=a8 ((l.getD (x1:Int).toNat (([]:List (List Int)),([]:List (List Int)))).1) (k+(↑(bc (List.take x1 l)):Int))then k+(↑(bc (List.take x1 l)):Int)+(↑(am ((l.getD (x1:Int).toNat (([]:List (List Int)),([]:List (List Int)))).1)):Int)else(-1:Int))then(if(l.getD (x1:Int).toNat (([]:List (List Int)),([]:List (List Int)))).1=a8 ((l.getD (x1:Int).toNat (([]:List (List Int)),([]:List (List Int)))).1) (k+(↑(bc (List.take x1 l)):Int))then k+(↑(bc (List.take x1 l)):Int)+(↑(am ((l.getD (x1:Int).toNat (([]:List (List Int)),([]:List (List Int)))).1)):Int)else(-1:Int))+(↑(am ((l.getD (x1:Int).toNat (([]:List (List Int)),([]:List (List Int)))).2)):Int)else(-1:Int))<(0:Int))) (((-1:Int)=if l=bq l k then k+(bc l:Int)else(-1:Int))/\True) ((ae ((x1:Int)+(1:Int)))/\(∃x2:Nat,(((x2<=l.length) /\
 (List.take x2 l=bq (List.take x2 l) k))/\((l.length-x2<l.length-x1)/\((l=l)/\(((if(l.getD (x1:Int).toNat (([]:List (List Int)),([]:List (List Int)))).2=a8 ((l.getD (x1:Int).toNat (([]:List (List Int)),([]:List (List Int)))).2) (if(l.getD (x1:Int).toNat (([]:List (List Int)),([]:List (List Int)))).1=a8 ((l.getD (x1:Int).toNat (([]:List (List Int)),([]:List (List Int)))).1) (k+(↑(bc (List.take x1 l)):Int))then k+(↑(bc (List.take x1 l)):Int)+(↑(am (i4 l x1).1):Int)else(-1:Int))then(if(l.getD (x1:Int).toNat (([]:List (List Int)),([]:List (List Int)))).1=a8 ((l.getD (x1:Int).toNat (([]:List (List Int)),([]:List (List Int)))).1) (k+(↑(bc (List.take x1 l)):Int))then k+(↑(bc (List.take x1 l)):Int)+(↑(am (i4 l x1).1):Int)else(-1:Int))+(↑(am (i4 l x1).2):Int)else(-1:Int))=k+(↑(bc (List.take x2 l)):Int))/\((x1:Int)+(1:Int)=(x2:Int)))))))))))))) ((k+(↑(bc (List.take x1 l)):Int)=if l=bq l k then k+(bc l:Int)else(-1:Int))/\True)))))
theorem R0(l:List (List (List Int)×List (List Int)))(k:Int):aP Tryz.prog (ai IC) aj (IB l k) Tryz.f17 (aF Tryz.f17) [] [.c (.p3 .i64 l),.c (.int .i64 k)] (tZ l k)=Bt l k:=by kernel_rfl
theorem R1(l:List (List (List Int)×List (List Int)))(k:Int)(Yh:(tZ l k).pre):Bt l k:=by
 simp only[tZ,Bt,i4,aK,true_and,and_true,decide_eq_true_eq,decide_eq_false_iff_not,bne_iff_ne,beq_iff_eq,bne_eq_false_iff_eq,beq_eq_false_iff_ne,Bool.not_eq_true,Bool.not_eq_false,Bool.not_true,Bool.not_false,Bool.not_eq_eq_eq_not,Int.toNat_natCast,List.length_append,List.length_take,List.length_replicate,List.length_set,List.length_map,List.length_drop,List.length_nil,List.length_cons,aC,ab,ae,ag,av,FC.len]at Yh⊢;obtain⟨⟨h1,h0⟩,h2,h3,h4⟩:=Yh;refine⟨⟨0,⟨by omega,rfl⟩,by simp[bc,de],rfl⟩,fun i ⟨hi,he⟩=>⟨fun h=>?_,fun h=>?_⟩⟩
 ·have q1:bc (l.take (i+1))=bc (l.take i)+ep (l.getD i ([],[])):=Et ep l ([],[]) i (by omega)
  have q2:bc (l.take (i+1))<=bc l:=Eu ep l (i+1)
  have q3:=h0 _ (bE l ([],[]) i (by omega))
  have q4:ep (l.getD i ([],[]))=am (l.getD i ([],[])).1+am (l.getD i ([],[])).2:=rfl
  have q5:l=bq l k->l.getD i ([],[])=fK (l.getD i ([],[])) (k+(bc (l.take i):Int)):=fun e=>by
   conv=>lhs;rw[e]
   exact M1 (f:=fK) (c:=ep) l ([],[]) k i (by omega)
  have m:l.length<=1048576:=h1
  by_cases p1:(l.getD i ([],[])).1=a8 (l.getD i ([],[])).1 (k+(bc (l.take i):Int))
  ·simp only[if_pos p1]
   refine⟨by omega,⟨q3.1,by omega,by omega,by omega⟩,fun h5=>by omega,fun _=>⟨by omega,⟨q3.2,by omega,by omega,by omega⟩,fun h5=>?_,fun h5=>?_⟩⟩
   ·split at h5
    ·omega
    ·rename_i h6
     rw[if_neg];exact fun e=>h6 (congrArg Prod.snd (q5 e))
   ·split at h5
    ·rename_i h6
     rw[if_pos h6];refine⟨by omega,i+1,⟨by omega,?_⟩,by omega,by omega,by omega⟩
     rw[show bq (l.take (i+1)) k=bq (l.take i) k++[fK (l.getD i ([],[])) (k+(bc (l.take i):Int))] from w7 (f:=fK) (c:=ep) l ([],[]) k i (by omega),<-he,
      show fK (l.getD i ([],[])) (k+(bc (l.take i):Int))=l.getD i ([],[]) from Prod.ext p1.symm h6.symm,da _ _ _ (by omega)]
    ·omega
  ·simp only[if_neg p1]
   refine⟨by omega,⟨q3.1,by omega,by omega,by omega⟩,fun _=>?_,fun h5=>absurd (by decide) h5⟩
   rw[if_neg];exact fun e=>p1 (congrArg Prod.fst (q5 e))
 ·rw[List.take_of_length_le (by omega)]at he⊢
  rw[if_pos he]
theorem R2:Fits Tryz.prog 17 ⟨[],Bs⟩:=by
 refine aW (Γ:=ai IC) (az Ol aJ) Tryz.func17 fun ds p h hp=>?_
 unfold Bs at h;split at h
 ·cases h
  exact⟨aj,IB _ _ ,by rw[R0];exact R1 _ _  hp⟩
 ·cases h
theorem R3{n:Nat}{t:List (List Int)}(G:GrpT n t)(hn:n<=7){cs:List (List (List Int))}(hl:cs.length<=2401)(hc:∀c∈cs,aT n c):lH (bX t cs)/\iY (bX t cs)/\bc (bX t cs)<=1048576:=by
 have tb:=G.tb
 have mem:∀q∈bX t cs,q.1=t/\aT n q.2:=fun q hq=>by
  obtain⟨c,hc',rfl⟩:=List.mem_map.1 hq;exact⟨rfl,hc c hc'⟩
 have len:(bX t cs).length=cs.length:=by simp[bX]
 have hs:=Da ep 98 (bX t cs) fun q hq=>by
  obtain⟨e,h⟩:=mem q hq;have h1:=C9 h
  have h2:=C9 tb
  have:n*n<=7*7:=Nat.mul_le_mul hn hn
  rw[ep,e];omega
 refine⟨⟨by omega,fun q hq=>?_⟩,⟨by omega,fun q hq=>?_⟩,?_⟩
 ·obtain⟨e,h⟩:=mem q hq
  rw[e];exact⟨md tb (by omega),md h (by omega)⟩
 ·obtain⟨e,h⟩:=mem q hq
  rw[e];exact⟨by rw[tb.1];omega,by rw[h.1];omega⟩
 ·rw[bc];omega
theorem R4(t:List (List Int)):lH (bp t).1/\iY (bp t).1/\bc (bp t).1<=1048576:=by
 have nil:lH []/\iY []/\bc []<=1048576:=⟨⟨by simp,by simp⟩,⟨by simp,by simp⟩,by simp[bc,de]⟩
 cases hg:ba t with
 |false=>rw[pP hg];exact nil
 |true =>
  by_cases h7:7<t.length
  ·rw[pQ hg h7];exact nil
  ·rw[pR hg (by omega)]
   have G:=mn hg
   refine R3 G (by omega) (Nat.le_trans (List.length_filter_le _ _) (pA G (by omega))) fun c hc=>nQ G (by omega) (List.mem_filter.1 hc).1
def t8(t:List (List Int)):Post:=⟨(t.length:Int)<=9223372036854775807/\∀r∈t,(r.length:Int)<=9223372036854775807,.c (.bool true),[]⟩
def Bv:List AD->Option Post
 | [.agg [.rows .i64 t]]=>some (t8 t)
 |_=>none
def IE:List (Nat×Ctr):=[(9,⟨[],wT⟩),(11,⟨[],wV⟩),(14,⟨[],wX⟩),(15,⟨[(0,0)],wZ⟩),(13,⟨[],Bo⟩),(16,⟨[(0,0)],Bq⟩),(17,⟨[],Bs⟩),(10,⟨[],vI⟩),(12,⟨[],vG⟩)]
def Bw(t:List (List Int)):Prop :=
 ((((t.length:Int)<=(9223372036854775807:Int)/\(∀(r:List Int),r∈t->(r.length:Int)<=(9223372036854775807:Int))/\(0:Int)<=(1048576:Int)/\(1048576:Int)<=(1099511627776:Int))/\True)/\(af (decide ((if(1048576:Int)<(t.length:Int)+(am t:Int)then(-1:Int)else(1048576:Int)-(t.length:Int)-(am t:Int))<(0:Int))) (true=true/\True) ((aY t/\True)/\((aY t/\True)/\((aY t/\True)/\((aY t/\True)/\((lH (bp t).1/\True)/\(af (!decide ((bp t).1=(bp t).1)) (false=true/\True) (af ((bp t).2 != (bp t).2) (false=true/\True) ((aY t/\True)/\((aY t/\True)/\(af (!decide (t=t)) (false=true/\True) (((t.length<=(1048576:Nat)/\am t<=(1048576:Nat)/\(0:Int)<=(1:Int)/\(1:Int)<=(1073741824:Int))/\List.map List.length (a8 t (1:Int))=List.map List.length t/\True)/\(af (decide ((1:Int)+(am t:Int)<(0:Int))) (false=true/\True) ((lH (bp t).1/\True)/\(af (!decide ((bp t).1=(bp t).1)) (false=true/\True) (af ((bp t).2 != (bp t).2) (false=true/\True) (((iY (bp t).1/\bc (bp t).1<=(1048576:Nat)/\(0:Int)<=(1:Int)/\(1:Int)<=(536870912:Int))/\FC.len (FC.p3 IntKind.i64 (bq (bp t).1 (1:Int)))=FC.len (FC.p3 IntKind.i64 (bp t).1)/\True)/\(((iY (bq (bp t).1 (1:Int))/\bc (bq (bp t).1 (1:Int))<=(1048576:Nat)/\(0:Int)<=(1:Int)/\(1:Int)<=(536870912:Int))/\True) /\
 (af (decide ((if bq (bp t).1 (1:Int)=bq (bq (bp t).1 (1:Int)) (1:Int)then(1:Int)+(↑(bc (bq (bp t).1 (1:Int))):Int)else(-1:Int))<(0:Int))) ((false=true)/\True) (af ((if bq (bp t).1 (1:Int)=bq (bq (bp t).1 (1:Int)) (1:Int)then(1:Int)+(↑(bc (bq (bp t).1 (1:Int))):Int)else(-1:Int)) != (1:Int)+(↑(bc (bp t).1):Int)) ((false=true)/\True) (((aY t)/\True)/\(((aY t)/\True)/\(((lH (bp t).1)/\True)/\(af (!decide ((bp t).1=(bp t).1)) ((false=true)/\True) (af ((bp t).2 != (bp t).2) ((false=true)/\True) ((((iY (bq (bp t).1 (1:Int)))/\((bc (bq (bp t).1 (1:Int))<=(1048576:Nat))/\(((0:Int)<=(1:Int))/\((1:Int)<=(536870912:Int)))))/\True)/\(af (decide ((if bq (bp t).1 (1:Int)=bq (bq (bp t).1 (1:Int)) (1:Int)then(1:Int)+(↑(bc (bq (bp t).1 (1:Int))):Int)else(-1:Int))<(0:Int))) ((false=true)/\True) (af ((if bq (bp t).1 (1:Int)=bq (bq (bp t).1 (1:Int)) (1:Int)then(1:Int)+(↑(bc (bq (bp t).1 (1:Int))):Int)else(-1:Int)) != (1:Int)+(↑(bc (bp t).1):Int)) ((false=true)/\True) ((true=true)/\True))))))))))))))))))))))))))))))
theorem R5(t:List (List Int)):aP Tryz.prog (ai IE) aj ar Tryz.f3 (aF Tryz.f3) [] [.agg [.rows .i64 t]] (t8 t)=Bw t:=by kernel_rfl
theorem R6(t:List (List Int))(Yh:(t8 t).pre):Bw t:=by
 simp only[t8,Bw,aK,true_and,and_true,decide_eq_true_eq,decide_eq_false_iff_not,bne_iff_ne,beq_iff_eq,bne_eq_false_iff_eq,beq_eq_false_iff_ne,Bool.not_eq_true,Bool.not_eq_false,Bool.not_true,Bool.not_false,Bool.not_eq_eq_eq_not,Int.toNat_natCast,List.length_append,List.length_take,List.length_replicate,List.length_set,List.length_map,List.length_drop,List.length_nil,List.length_cons,aC,ab,ae,ag,av,FC.len]at Yh⊢;obtain⟨a1,a2⟩:=Yh;refine⟨⟨a1,a2,by omega,by omega⟩,fun _=>trivial,fun h=>?_⟩
 obtain⟨e1,e2,e3⟩:=Om h;obtain⟨c1,c3,c4⟩:=R4 t;have c2:=RJ c3 1
 have c5:¬ (1+(am t:Int)<0):=by omega
 have c6:¬ (1+(bc (bp t).1:Int)<0):=by omega
 simp[e1,e2,e3,c1,c2,c3,c4,c5,c6,kL,xR,rL,xT,tV,RH,RI]
theorem R7:Fits Tryz.prog 3 ⟨[],Bv⟩:=by
 refine aW (Γ:=ai IE) (az MM (az MQ (az MV (az M0 (az RT (az RZ (az R2 (az Le (az K9 aJ))))))))) Tryz.func3 fun ds p h hp=>?_
 unfold Bv at h;split at h
 ·cases h
  exact⟨aj,ar,by rw[R5];exact R6 _  hp⟩
 ·cases h
end Go.Sx
end
section
namespace Go.Proofs.YtkmldclpaniclaaGreat
theorem lJ{x y:Bool}(h:x=true)(k:y=true):(x&&y)=true:=by rw[h,k];rfl
set_option maxRecDepth 10000000 in
def ua:{ l:List Char // Tryz.prog.initOrder=String.ofList l }:=⟨_,rfl⟩
theorem R8:Tryz.prog.initOrder.toList=ua.1:=(congrArg String.toList ua.2).trans String.toList_ofList
theorem ub:∃rest,behindMainWord (wordsSigns Tryz.prog.initOrder.toList)=['c','u','t']::rest:=by
 rw[R8];have h:(behindMainWord (wordsSigns ua.1)).head?=some ['c','u','t']:=by kernel_rfl
 cases hb:behindMainWord (wordsSigns ua.1)with
 |nil=>rw[hb]at h;cases h
 |cons x y=>rw[hb]at h;cases h;exact⟨y,rfl⟩
theorem IF(rest:List (List Char)):stripLifts liftWords (['c','u','t']::rest)=([],['c','u','t']::rest):=by rfl
theorem R9:Tryz.prog.headLifts=[]:=by
 obtain⟨rest,h⟩:=ub;unfold Program.headLifts;rw[h,IF];rfl
theorem Sa:Tryz.prog.laysLater=false:=by kernel_rfl
theorem Sb:Tryz.prog.bearsReflect=false:=by kernel_rfl
theorem Sc:Tryz.prog.doorRows=[]:=by kernel_rfl
theorem Sd:Tryz.prog.doorFits []=true:=by
 unfold Program.doorFits;rw[Sc];rfl
theorem Se(P:Program)(rest:List (List Char))(h:behindMainWord (wordsSigns P.initOrder.toList)=['c','u','t']::rest)(h1:P.laysLater=false)(h2:P.bearsReflect=false)(h3:P.doorFits []=true):P.mayEnter=true:=by
 unfold Program.mayEnter;rw[h];simp only[IF,h1,h2,h3];simp
theorem Sf(P:Program)(rest:List (List Char))(h:behindMainWord (wordsSigns P.initOrder.toList)=['c','u','t']::rest)(h1:P.headLifts=[]):(false == P.liftsFinal)=true:=by
 unfold Program.liftsFinal;rw[h,h1];rfl
theorem Sg(P:Program)(rest:List (List Char))(h:behindMainWord (wordsSigns P.initOrder.toList)=['c','u','t']::rest):(P.make == some Make.cut)=true:=by
 have e1:(['c','u','t'] == "gc".toList)=false:=rfl
 have e2:(['c','u','t'] == "spec".toList)=false:=rfl
 have e3:(['c','u','t'] == "cut".toList)=true:=rfl
 unfold Program.make;rw[h];simp only[e1,e2,e3,Bool.or_false,Bool.true_or,Bool.false_eq_true,if_true,if_false];rfl
theorem Sh:Tryz.prog.mayEnter=true:=by
 obtain⟨rest,h⟩:=ub;exact Se _ rest h Sa Sb Sd
theorem Si:(false == Tryz.prog.liftsFinal)=true:=by
 obtain⟨rest,h⟩:=ub;exact Sf _ rest h R9
theorem Sj:(Tryz.prog.make == some Make.cut)=true:=by
 obtain⟨rest,h⟩:=ub;exact Sg _ rest h
end Go.Proofs.YtkmldclpaniclaaGreat
end
section
namespace Go.Sx
open Go.ChangeShapes Go.WideShapes Go.ChangeAt Go.RowKit Go.ChangeMaps Go.Deep
def IG(n:Int):Prop:=-9223372036854775808<=n/\n<=9223372036854775807
theorem wf_i64'{n:Int}(h:(Lit.int .i64 n).wf=true):IG n:=by
 simp only[Lit.wf,Bool.and_eq_true,decide_eq_true_eq]at h;exact h
theorem Sk:maxLen=9223372036854775807:=rfl
section
variable {H:Type} {enc:TypeId×Value->H} {P:Program} {W:World}
def IH(P:Program)(W:World)(t:TypeId)(v:Value)(d:FC):Prop:=v.oneCell'=true/\bn W v d
theorem Sl{t e q:TypeId}{fuel:Nat}{v:Value}{x:DataW H×List MemPlace}(ht:P.underlying t=some (.slice e))(he:P.underlying e=some (.slice q))(hq:P.underlying q=some (.int .i64))
  (ce:P.cellsOf e=1) (cq:P.cellsOf q=1) (h:DataW.trod enc P W 0 (fun _=>true) true fuel t [v]=some x) :
  ∃l:List (List Int),l.length<=maxLen/\(∀r∈l,r.length<=maxLen/\∀n∈r,IG n)/\IH P W t v (.rows .i64 l):=by
 rcases open_int_rows ht he hq ce cq h with⟨h1,_⟩|⟨a,len,cap,A,L,Cc,Z,h1,_,hl,hm,_,hrow⟩
 ·simp only[List.cons.injEq,and_true]at h1
  subst h1;exact⟨[],Nat.zero_le _,by simp,rfl,none,0,rfl,Nat.le_refl _,fun h=>by simp at h⟩
 ·simp only[List.cons.injEq,and_true]at h1
  subst h1;refine⟨(List.range len).map fun r=>(Z r).take (L r),by simp;omega,?_,rfl,some a,cap,by simp,by simpa using hl,fun hpos=>?_⟩
  ·intro r hr
   simp only[List.mem_map,List.mem_range]at hr;obtain⟨j,hj,rfl⟩:=hr;obtain⟨_,k2,k3,k4,k5,_⟩:=hrow j (by omega)
   exact⟨by simp;omega,fun n hn=>wf_i64' (k5 n (List.mem_of_mem_take hn))⟩
  ·simp only[List.length_map,List.length_range]at hpos
   obtain⟨b,off,spot⟩:=a;have hs:spot=none:=by simpa[Addr.add]using World.cell?_spot (hrow 0 (by omega)).1
   subst hs;refine⟨b,off,rfl,fun i hi=>?_⟩
   simp only[List.length_map,List.length_range]at hi;obtain⟨k1,k2,k3,k4,k5,k6,k7⟩:=hrow i (by omega)
   refine⟨_,by rw[<-add_plain];exact k1,?_⟩
   have hget:((List.range len).map fun r=>(Z r).take (L r)).getD i []=(Z i).take (L i):=by
    simp[List.getD_eq_getElem?_getD,hi]
   show fR W .i64 _ _
   rw[hget];have hlen:((Z i).take (L i)).length=L i:=by simp;omega
   refine⟨A i,Cc i,by rw[hlen],by rw[hlen];exact k2,fun hp=>?_⟩
   rw[hlen]at hp;cases hA:A i with
   |none=>have:=k6 hA;omega
   |some a' =>
    obtain⟨_,hc⟩:=k7 a' hA;obtain⟨b',off',spot'⟩:=a';have hs:spot'=none:=by simpa[Addr.add]using World.cell?_spot (hc 0 (by omega))
    subst hs;refine⟨b',off',rfl,fun j hj=>?_⟩
    rw[hlen]at hj;refine⟨_,by rw[<-add_plain];exact hc j (by omega),?_⟩
    simp[List.getD_eq_getElem?_getD,List.getElem?_take,hj]
theorem Sm{t:TypeId}{v0:Value}{t0:TypeId}{d0:FC}(h0:IH P W t0 v0 d0)(i:Nat):cX P W [] [] [] i (.agg [d0]) (.agg #[v0]) :=
 ⟨_,rfl,rfl,fun j d hj=>match j,hj with
  |0,hj=>by cases hj;exact⟨v0,rfl,h0.1,h0.2⟩
  |j+1,hj=>by simp at hj⟩
open Go.Joins in
theorem Sn{r:Reach}{b0:Nat}{t:TypeId}{f0:Field}{v:Value}{d:DataW H}{p:List MemPlace}(hs:P.underlying t=some (.struct #[f0]))(hone:oneCellFields P #[f0]=true)(hC:P.cellsOf t=1)
  (hv:Value.okWide P W r b0 t v) (h:DataW.Trod enc P W 0 (fun _=>true) true t v d p) :
  ∃(v0:Value) (y0:DataW H×List MemPlace) (n:Nat),v=.agg #[v0]/\d=.agg [y0.1]/\p=y0.2/\DataW.trod enc P W 0 (fun _=>true) true n f0.type [v0]=some y0:=by
 obtain⟨cs,rfl,hsz⟩:=okWide_struct hs hv;have h1:cs.size=1:=hsz.trans hC
 obtain⟨c0,rfl⟩:∃c0,cs=#[c0]:=by
  cases cs with
  |mk l=>match l,h1 with
   | [c],_=>exact⟨c,rfl⟩
 obtain⟨fuel,hf⟩:=h;obtain⟨y0,n,hx,_,h0⟩:=trod_struct1 hs hf;obtain⟨o0,k0⟩:=hone_of hone 0 f0 rfl;simp only[Prod.mk.injEq]at hx;exact⟨c0,y0,n,rfl,hx.1,hx.2,by simpa[Value.cells,o0,k0]using h0⟩
theorem II(hl:laidOutB P=true){W':World}(hb:Below W.heap.size W W'):∀{ts:List TypeId} {vs:List Value} {ds:List (DataW H)} {p:List MemPlace},(∀t∈ts,P.readableRec t=true/\t<P.types.size) ->
  DataW.TrodAll enc P W 0 (fun _=>true) true ts vs ds p->(∀x∈p,x.block<W.heap.size)->DataW.TrodAll enc P W' 0 (fun b=>decide (b<W.heap.size)) true ts vs ds p
 | [],[],[],p,_,h,_=>h
 |t::ts,v::vs,d::ds,p,ht,h,hlt=>by
  obtain⟨p1,p2,h1,h2,rfl⟩:=h;exact⟨p1,p2,Below.trod hl (ht t (by simp)).1 (ht t (by simp)).2 h1 hb (fun x hx=>hlt x (by simp[hx])),II hl hb (fun t' h'=>ht t' (by simp[h'])) h2 (fun x hx=>hlt x (by simp[hx])),rfl⟩
 | [],[],_::_,_,_,h,_=>h.elim
 | [],_::_,[],_,_,h,_=>h.elim
 | [],_::_,_::_,_,_,h,_=>h.elim
 |_::_,[],[],_,_,h,_=>h.elim
 |_::_,[],_::_,_,_,h,_=>h.elim
 |_::_,_::_,[],_,_,h,_=>h.elim
theorem IJ{W:World}{base:Nat}{sp:Nat->Bool}{hd:Bool}:∀{ts:List TypeId} {vs:List Value} {ds:List (DataW H)} {p:List MemPlace},DataW.TrodAll enc P W base sp hd ts vs ds p->vs.length=ts.length/\ds.length=ts.length
 | [],[],[],_,_=>⟨rfl,rfl⟩
 |t::ts,v::vs,d::ds,p,h=>by
  obtain⟨p1,p2,_,h2,_⟩:=h;have:=IJ h2
  simp[this.1,this.2]
 | [],[],_::_,_,h=>h.elim
 | [],_::_,[],_,h=>h.elim
 | [],_::_,_::_,_,h=>h.elim
 |_::_,[],[],_,h=>h.elim
 |_::_,[],_::_,_,h=>h.elim
 |_::_,_::_,[],_,h=>h.elim
end
theorem So{C:Checked}{os:Os}{H:Type}{enc:TypeId×Value->H}{f:FuncId}{fn:Func}{s:ChangeSpec}{conds:List PathCond}{kq handsOn:Bool}{tb:TypeId}
  (own:ownKnob C.prog.godebug=none) (started:os.Started) (noInit:C.prog.inits.idxOf? f=none) (hfn:C.prog.funcs[f]?=some fn) (hlaid:laidOutB C.prog=true)
  (hvars:s.vars=[]) (hrd:∀t∈fn.params.toList,C.prog.readableRec t=true/\t<C.prog.types.size) (hres:fn.resultTypes=#[tb]) (htb:C.prog.underlying tb=some .bool)
  (hspec:∀ds:List (DataW H),ds.length=fn.params.toList.length->s.fn H ds={ results:=[.lit (.bool true)],args:=ds,vars:=[] })
  (witness:∃(w:World) (tape:Tape) (i:Input),w.os=os/\(w.forCall tape i).Shaped C.prog/\i.vars=[]/\Input.okWide C.prog (w.forCall tape i) .any w.heap.size f i /\
   s.pre6 enc C.prog fn conds false (w.forCall tape i).memory i.args/\({}:Assume).holds C.prog (lone (Frame.enter C.prog f i.args .normal) [] (w.forCall tape i)))
  {ct:List AD->Option Post} (fits:Fits C.prog f ⟨[],ct⟩)
  (hopen:∀(W:World) (base:Nat) (vs:List Value) (ds:List (DataW H)) (p:List MemPlace),DataW.TrodAll enc C.prog W 0 (fun _=>true) true fn.params.toList vs ds p ->
   (∀(j:Nat) t v,fn.params[j]?=some t->vs[j]?=some v->Value.okWide C.prog W .any base t v) ->
   ∃(ads:List AD) (pre:Prop),ct ads=some ⟨pre,.c (.bool true),[]⟩/\pre/\vs.length=ads.length/\∀(i:Nat) (d:AD),ads[i]?=some d->∃v,vs[i]?=some v/\cX C.prog W [] [] [] i d v) :
  ReturnsInHanded {} C os f .any (s.pre6 enc C.prog fn conds false) (s.post enc C.prog fn false kq handsOn false):=by
 refine returnsInHanded_of_change own started noInit hfn witness ?_
 intro W base args ds gs before hval hW _ _
 have hW':=hW
 obtain⟨p,q,hA,hV,rfl,hfz,hnd⟩:=hW;rw[hvars]at hV;obtain⟨rfl,rfl⟩:=trodVars_none hV;obtain⟨ads,pre,h1,h2,h3,h4⟩:=hopen W base args.toList ds p hA (fun j t v ht hv=>hval j t v ht (by simpa using hv))
 have hrun:=fits.run W W args.toList ads _ [] [] h1 h2 h3 rfl rfl rfl (by simp) (by simp) (by simp) (fun q u hq=>⟨hq,by simp⟩) h4
 refine hrun.mono fun e W' ⟨v,ms',img,wG,he,haft,hms,_,_,hret⟩=>?_
 subst he;have hv:v=.bool true:=hret.val
 subst hv;have hB:Below W.heap.size W W':=haft.below
 have hlt:∀x∈p,x.block<W.heap.size:=fun x hx=>by simpa using hW'.lt x (by simp[hx])
 have hsp:=hspec ds (IJ hA).2
 refine⟨_,rfl,ds,[],p++[],[],p,[],hW',?_,?_,?_,hB.frame _,fun h=>by cases h⟩
 ·rw[List.append_nil,hsp,hres]
  exact trodAll_cons_mk (shut_bool htb _) trodAll_mk0
 ·rw[List.append_nil,hsp]
  exact II hlaid hB hrd hA hlt
 ·rw[List.append_nil,hsp,hvars]
  rfl
end Go.Sx
end
