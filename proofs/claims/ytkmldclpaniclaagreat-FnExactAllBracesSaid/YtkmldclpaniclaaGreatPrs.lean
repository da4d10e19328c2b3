/- Prs -/
import Derived.Test.YtkmldclpaniclaaGreatCirB
open Go Go.Proofs
namespace Go.Sx
set_option linter.unusedSimpArgs false
set_option linter.unusedVariables false
def ep(q:List (List Int)×List (List Int)):Nat:=aV q.1+aV q.2
def fC(q:List (List Int)×List (List Int))(k:Int):List (List Int)×List (List Int):=(bt q.1 k,bt q.2 (k+(aV q.1:Int)))
def bc(l:List (List (List Int)×List (List Int))):Nat:=de ep l
def bq:List (List (List Int)×List (List Int))->Int->List (List (List Int)×List (List Int)):=dq fC ep
def jn(l:List (List (List Int)×List (List Int))):Prop:=l.length<=1048576/\∀q∈l,q.1.length<=1048576/\q.2.length<=1048576
def oq(l:List (List (List Int)×List (List Int))):Prop:=l.length<=1099511627776/\∀q∈l,bK q.1/\bK q.2
theorem rQ(l:List (List (List Int)×List (List Int)))(k:Int):(bq l k).length=l.length:=pX l k
theorem GH(q:List (List Int)×List (List Int))(k:Int):ep (fC q k)=ep q:=by simp[ep,fC,yN]
theorem On(q:List (List Int)×List (List Int))(k:Int):fC (fC q k) k=fC q k:=by simp[fC,G1,yN]
theorem Oo(l:List (List (List Int)×List (List Int)))(k:Int):bc (bq l k)=bc l:=Dm (fun x k=>GH x k) l k
theorem Oq(l:List (List (List Int)×List (List Int)))(k:Int):bq (bq l k) k=bq l k:=Dn On GH l k
theorem Ot{l:List (List (List Int)×List (List Int))}(h:jn l)(k:Int):jn (bq l k):=⟨by rw[rQ];exact h.1,fun r hr=>by
 obtain⟨x,hx,j,rfl⟩:=KU hr;have:=h.2 x hx
 simp only[fC,ou];exact this⟩
theorem Ou(l:List (List (List Int)×List (List Int)))(i:Nat):cY l (i*2)=(l.getD i ([],[])).1:=by
 simp[cY]
theorem Ov(l:List (List (List Int)×List (List Int)))(i:Nat):cY l (i*2+1)=(l.getD i ([],[])).2:=by
 have h1:(i*2+1) % 2=1:=by omega
 have h2:(i*2+1) / 2=i:=by omega
 simp[cY,h1,h2]
theorem Ow(l:List (List (List Int)×List (List Int)))(i:Nat)(x y:List (List Int)):dP (dP l (i*2) x) (i*2+1) y=l.set i (x,y):=by
 have h1:(i*2+1) % 2=1:=by omega
 have h2:(i*2+1) / 2=i:=by omega
 have h3:i*2 % 2=0:=by omega
 have h4:i*2 / 2=i:=by omega
 have e1:dP l (i*2) x=l.set i (x,(l.getD i ([],[])).2):=by simp[dP,h3,h4]
 have e2 (m:List (List (List Int)×List (List Int))):dP m (i*2+1) y=m.set i ((m.getD i ([],[])).1,y):=by simp[dP,h1,h2]
 rw[e1,e2];by_cases h:i<l.length
 ·have:(l.set i (x,(l.getD i ([],[])).2)).getD i ([],[])=(x,(l.getD i ([],[])).2):=by
   rw[List.getD_eq_getElem?_getD,List.getElem?_set_self h];rfl
  rw[this];simp[List.set_set]
 ·simp[List.set_eq_of_length_le (show l.length<=i by omega)]
theorem Ox(l:List (List (List Int)×List (List Int)))(j:Nat)(x:List (List Int)):(dP l j x).length=l.length:=by simp[dP]
def rR(a:List (List Int))(c:List (List Int))(a2:List (List Int))(c2:List (List Int)):Post:=⟨bK a/\bK c,.c (.bool (decide (a=a2/\c=c2))),[]⟩
def yq:List AD->Option Post
 | [.agg [.rows .i64 a,.rows .i64 c],.agg [.rows .i64 a2,.rows .i64 c2]]=>some (rR a c a2 c2)
 |_=>none
def GI:List (Nat×Ctr):=[(55,⟨[],yJ⟩)]
def yr(a:List (List Int))(c:List (List Int))(a2:List (List Int))(c2:List (List Int)):Prop :=
 (bK a/\True)/\ae (!decide (a=a2)) (false=decide (a=a2/\c=c2)/\True) ((bK c/\True)/\ae (!decide (c=c2)) (false=decide (a=a2/\c=c2)/\True) (true=decide (a=a2/\c=c2)/\True))
theorem Oy(a:List (List Int))(c:List (List Int))(a2:List (List Int))(c2:List (List Int)):aY Tryz.prog (aj GI) am av Tryz.f34 (aP Tryz.f34) [] [.agg [.rows .i64 a,.rows .i64 c],.agg [.rows .i64 a2,.rows .i64 c2]] (rR a c a2 c2)=yr a c a2 c2:=by kernel_rfl
theorem Oz(a:List (List Int))(c:List (List Int))(a2:List (List Int))(c2:List (List Int))(Yh:(rR a c a2 c2).pre):yr a c a2 c2:=by
 simp only[rR,yr,aX,u1,u2,u3,u4,u5,u6,u7,u8,u9,v1,v2,v3,v4,v5,v6,v7,v8,v9,w1,w2,w3,w4,aN,ab,ac,ah,ax]at Yh⊢;refine⟨Yh.1,fun h=>(decide_eq_false fun e=>h e.1).symm,fun h=>⟨Yh.2,fun h2=>(decide_eq_false fun e=>h2 e.2).symm,fun h2=>(decide_eq_true ⟨h,h2⟩).symm⟩⟩
theorem OA:Fits Tryz.prog 34 ⟨[],yq⟩:=by
 refine bf (Γ:=aj GI) (aD O6 aW) Tryz.func34 fun ds p h hp=>?_
 unfold yq at h;split at h
 ·cases h
  exact⟨am,av,by rw[Oy];exact Oz _ _ _ _  hp⟩
 ·cases h
def rS(a:List (List (List Int)×List (List Int)))(b:List (List (List Int)×List (List Int))):Post:=⟨oq a,.c (.bool (decide (a=b))),[]⟩
def yt:List AD->Option Post
 | [.c (.p3 .i64 a),.c (.p3 .i64 b)]=>some (rS a b)
 |_=>none
def GJ(a:List (List (List Int)×List (List Int)))(b:List (List (List Int)×List (List Int))):Nat->Option Ann
 |0=>some (Ann.mk ((Nat)) (fun i=>⟨[(0,.c (.ro (.p3 .i64 a))),(1,.c (.ro (.p3 .i64 b))),(5,.c (.int .i64 ((i:Int))))],[]⟩) (fun i=>i<=a.length/\a.length=b.length/\a.take i=b.take i) (fun i=>a.length-i) (fun _=>av))
 |_=>none
def GK:List (Nat×Ctr):=[(34,⟨[],yq⟩)]
def yu(a:List (List (List Int)×List (List Int)))(b:List (List (List Int)×List (List Int))):Prop :=
 ae ((a.length:Int) != (b.length:Int)) (false=decide (a=b)/\True) ((∃x0:Nat,(x0<=a.length/\a.length=b.length/\List.take x0 a=List.take x0 b)/\a=a/\b=b/\(0:Int)=(x0:Int))/\∀x1:Nat,x1<=a.length/\a.length=b.length/\List.take x1 a=List.take x1 b->ae (decide ((x1:Int)<(a.length:Int))) (ab (x1:Int) a.length/\ab (x1:Int) b.length/\((bK ((a.getD (x1:Int).toNat (([]:List (List Int)),([]:List (List Int)))).1)/\bK ((a.getD (x1:Int).toNat (([]:List (List Int)),([]:List (List Int)))).2))/\True)/\ae (!decide ((a.getD (x1:Int).toNat (([]:List (List Int)),([]:List (List Int)))).1=(b.getD (x1:Int).toNat (([]:List (List Int)),([]:List (List Int)))).1/\(a.getD (x1:Int).toNat (([]:List (List Int)),([]:List (List Int)))).2=(b.getD (x1:Int).toNat (([]:List (List Int)),([]:List (List Int)))).2)) (false=decide (a=b)/\True) (ac ((x1:Int)+(1:Int))/\∃x2:Nat,(x2<=a.length/\a.length=b.length/\List.take x2 a=List.take x2 b)/\a.length-x2<a.length-x1/\a=a/\b=b/\(x1:Int)+(1:Int)=(x2:Int))) (true=decide (a=b)/\True))
theorem OB(a:List (List (List Int)×List (List Int)))(b:List (List (List Int)×List (List Int))):aY Tryz.prog (aj GK) am (GJ a b) Tryz.f13 (aP Tryz.f13) [] [.c (.p3 .i64 a),.c (.p3 .i64 b)] (rS a b)=yu a b:=by kernel_rfl
theorem OC(a:List (List (List Int)×List (List Int)))(b:List (List (List Int)×List (List Int)))(Yh:(rS a b).pre):yu a b:=by
 simp only[rS,yu,aX,u1,u2,u3,u4,u5,u6,u7,u8,u9,v1,v2,v3,v4,v5,v6,v7,v8,v9,w1,w2,w3,w4,aN,ab,ac,ah,ax]at Yh⊢;have h0:=Yh.1
 refine⟨fun h=>?_,fun h=>⟨⟨0,⟨by omega,by omega,rfl⟩,by simp⟩,fun i hi=>⟨fun h1=>⟨by omega,by omega,Yh.2 _ (bO a ([],[]) i (by omega)),fun h2=>?_,fun h2=>⟨by omega,i+1,⟨by omega,hi.2.1,?_⟩,by omega,by omega⟩⟩,fun h1=>?_⟩⟩⟩
 ·exact(decide_eq_false fun e=>h (by rw[e])).symm
 ·exact(decide_eq_false fun e=>by rw[e]at h2;simp at h2).symm
 ·exact(pF a b ([],[]) i (by omega) (by omega) hi.2.2).2 (Prod.ext h2.1 h2.2)
 ·refine(decide_eq_true ?_).symm
  have:=hi.2.2
  rwa[List.take_of_length_le (by omega),List.take_of_length_le (by omega)]at this
theorem OD:Fits Tryz.prog 13 ⟨[],yt⟩:=by
 refine bf (Γ:=aj GK) (aD OA aW) Tryz.func13 fun ds p h hp=>?_
 unfold yt at h;split at h
 ·cases h
  exact⟨am,GJ _ _ ,by rw[OB];exact OC _ _  hp⟩
 ·cases h
theorem OE(l:List (List (List Int)×List (List Int)))(k:Int)(i:Nat)(h:i<l.length) :
  cY (bq (l.take i) k++l.drop i) (i*2)=(l.getD i ([],[])).1/\∀x,cY (dP (bq (l.take i) k++l.drop i) (i*2) x) (i*2+1)=(l.getD i ([],[])).2:=by
 have g1:=(Do (f:=fC) (c:=ep) l ([],[]) k i h).1
 have hlen:(bq (l.take i) k++l.drop i).length=l.length:=by rw[List.length_append,rQ,List.length_take,List.length_drop];omega
 have e0:(bq (l.take i) k++l.drop i).getD i ([],[])=l.getD i ([],[]):=g1
 refine⟨by rw[Ou,e0],fun x=>?_⟩
 have h3:i*2 % 2=0:=by omega
 have h4:i*2 / 2=i:=by omega
 rw[Ov,dP,h3,h4,if_pos rfl,List.getD_eq_getElem?_getD,List.getElem?_set_self (by omega),e0]
 rfl
theorem OF(l:List (List (List Int)×List (List Int)))(k:Int)(i:Nat)(h:i<l.length) :
  dP (dP (bq (l.take i) k++l.drop i) (i*2) (bt (l.getD i ([],[])).1 (k+(bc (l.take i):Int)))) (i*2+1) (bt (l.getD i ([],[])).2 (k+(bc (l.take i):Int)+(aV (l.getD i ([],[])).1:Int)))=bq (l.take (i+1)) k++l.drop (i+1):=by
 rw[Ow];exact(Do (f:=fC) (c:=ep) l ([],[]) k i h).2
def rT(l:List (List (List Int)×List (List Int)))(k:Int):Post:=⟨jn l/\bc l<=1048576/\0<=k/\k<=536870912,.c (.int .i64 (k+(bc l:Int))),[.tr [39,62,2] (.p3 .i64 (bq l k))]⟩
def yw:List AD->Option Post
 | [.c (.p3 .i64 l),.c (.int .i64 k)]=>some (rT l k)
 |_=>none
def GL(l:List (List (List Int)×List (List Int)))(k:Int):Nat->Option Ann
 |0=>some (Ann.mk ((Nat)) (fun i=>⟨[(0,.c (.own 700)),(1,.c (.int .i64 (k+(bc (l.take i):Int)))),(5,.c (.int .i64 ((i:Int))))],[(700,some (.tr 0 [39,62,2] (.p3 .i64 (bq (l.take i) k++l.drop i))))]⟩) (fun i=>i<=l.length) (fun i=>l.length-i) (fun _=>av))
 |_=>none
def GM:List (Nat×Ctr):=[(56,⟨[(0,0)],vp⟩)]
def ot(l:List (List (List Int)×List (List Int)))(k:Int)(x0:Nat):=(dP (bq (List.take x0 l) k++List.drop x0 l) ((↑x0:Int).toNat*(2:Nat)) (bt (cY (bq (List.take x0 l) k++List.drop x0 l) ((↑x0:Int).toNat*(2:Nat))) (k+(↑(bc (List.take x0 l)):Int))))
def iP(l:List (List (List Int)×List (List Int)))(k:Int)(x0:Nat):=(cY (bq (List.take x0 l) k++List.drop x0 l) ((↑x0:Int).toNat*(2:Nat)))
def lg(l:List (List (List Int)×List (List Int)))(k:Int)(x0:Nat):=(cY (ot l k x0) ((↑x0:Int).toNat*(2:Nat)+(1:Nat)))
def yx(l:List (List (List Int)×List (List Int)))(k:Int):Prop :=
 ((∃x0:Nat,x0<=l.length/\k=k+(↑(bc (List.take x0 l)):Int)/\(0:Int)=(x0:Int)/\l=bq (List.take x0 l) k++List.drop x0 l)/\(∀x1:Nat,(x1<=l.length->(ae (decide ((x1:Int)<(↑(FC.len (FC.p3 IntKind.i64 (bq (List.take x1 l) k++List.drop x1 l))):Int))) (ab (x1:Int) (FC.len (FC.p3 IntKind.i64 (bq (List.take x1 l) k++List.drop x1 l)))/\((x1:Int).toNat*(2:Nat)<FC.cn (FC.p3 IntKind.i64 (bq (List.take x1 l) k++List.drop x1 l))/\((((iP l k x1).length<=(1048576:Nat)/\aV (iP l k x1)<=(1048576:Nat)/\(0:Int)<=k+(↑(bc (List.take x1 l)):Int)/\k+(↑(bc (List.take x1 l)):Int)<=(1073741824:Int))/\FC.len (FC.rows IntKind.i64 (bt (iP l k x1) (k+(↑(bc (List.take x1 l)):Int))))=FC.len (FC.rows IntKind.i64 (iP l k x1)))/\(ab (x1:Int) (FC.len (FC.p3 IntKind.i64 (ot l k x1)))/\((x1:Int).toNat*(2:Nat)+(1:Nat)<FC.cn (FC.p3 IntKind.i64 (ot l k x1))/\((((lg l k x1).length<=(1048576:Nat)/\aV (lg l k x1)<=(1048576:Nat)/\(0:Int)<=k+(↑(bc (List.take x1 l)):Int)+(↑(aV (iP l k x1)):Int)/\k+(↑(bc (List.take x1 l)):Int)+(↑(aV (iP l k x1)):Int)<=(1073741824:Int))/\FC.len (FC.rows IntKind.i64 (bt (lg l k x1) (k+(↑(bc (List.take x1 l)):Int)+(↑(aV (iP l k x1)):Int))))=FC.len (FC.rows IntKind.i64 (lg l k x1))) /\
 ((ac ((x1:Int)+(1:Int)))/\(∃x2:Nat,((x2<=l.length)/\((l.length-x2<l.length-x1)/\((k+(↑(bc (List.take x1 l)):Int)+(↑(aV (iP l k x1)):Int)+(↑(aV (lg l k x1)):Int)=k+(↑(bc (List.take x2 l)):Int))/\(((x1:Int)+(1:Int)=(x2:Int))/\(dP (ot l k x1) ((x1:Int).toNat*(2:Nat)+(1:Nat)) (bt (lg l k x1) (k+(↑(bc (List.take x1 l)):Int)+(↑(aV (iP l k x1)):Int)))=bq (List.take x2 l) k++List.drop x2 l))))))))))))) ((k+(↑(bc (List.take x1 l)):Int)=k+(bc l:Int))/\((bq (List.take x1 l) k++List.drop x1 l=bq l k)/\True))))))
theorem OG(l:List (List (List Int)×List (List Int)))(k:Int):aY Tryz.prog (aj GM) am (GL l k) Tryz.f16 (aP Tryz.f16) [(0,0)] [.c (.p3 .i64 l),.c (.int .i64 k)] (rT l k)=yx l k:=by kernel_rfl
theorem OH(l:List (List (List Int)×List (List Int)))(k:Int)(Yh:(rT l k).pre):yx l k:=by
 simp only[rT,yx,ot,iP,lg,aX,true_and,and_true,decide_eq_true_eq,decide_eq_false_iff_not,bne_iff_ne,beq_iff_eq,bne_eq_false_iff_eq,beq_eq_false_iff_ne,Bool.not_eq_true,Bool.not_eq_false,Bool.not_true,Bool.not_false,Bool.not_eq_eq_eq_not,Int.toNat_natCast,List.length_append,List.length_take,List.length_replicate,List.length_set,List.length_map,List.length_drop,List.length_nil,List.length_cons,aN,ab,ac,ah,ax,FC.len]at Yh⊢;obtain⟨⟨h1,h0⟩,h2,h3,h4⟩:=Yh;refine⟨⟨0,by omega,by simp[bc,de],rfl,by simp[bq,dq]⟩,fun i hi=>?_⟩
 have hlm:(bq (l.take i) k).length=i:=by rw[rQ,List.length_take];omega
 have w (x:List (List (List Int)×List (List Int))):(FC.p3 .i64 x).wid=2:=rfl
 simp only[FC.len,FC.cn,Ox,List.length_append,List.length_drop,hlm,ou,Int.toNat_natCast,w];refine⟨fun h=>?_,fun h=>?_⟩
 ·obtain⟨g1,g2⟩:=OE l k i (by omega)
  have g3:=OF l k i (by omega)
  simp only[g1,g2,g3];have q1:bc (l.take (i+1))=bc (l.take i)+ep (l.getD i ([],[])):=Dk ep l ([],[]) i (by omega)
  have q2:bc (l.take (i+1))<=bc l:=Dl ep l (i+1)
  have q3:=h0 _ (bO l ([],[]) i (by omega))
  have q4:ep (l.getD i ([],[]))=aV (l.getD i ([],[])).1+aV (l.getD i ([],[])).2:=rfl
  refine⟨by omega,by omega,⟨⟨q3.1,by omega,by omega,by omega⟩,trivial⟩,by omega,by omega,⟨⟨q3.2,by omega,by omega,by omega⟩,trivial⟩,by omega,i+1,by omega,by omega,by omega,by omega,rfl⟩
 ·rw[List.take_of_length_le (by omega),List.drop_of_length_le (by omega),List.append_nil]
  exact⟨rfl,rfl⟩
theorem OI:Fits Tryz.prog 16 ⟨[(0,0)],yw⟩:=by
 refine bf (Γ:=aj GM) (aD K3 aW) Tryz.func16 fun ds p h hp=>?_
 unfold yw at h;split at h
 ·cases h
  exact⟨am,GL _ _ ,by rw[OG];exact OH _ _  hp⟩
 ·cases h
def rU(l:List (List (List Int)×List (List Int)))(k:Int):Post:=⟨jn l/\bc l<=1048576/\0<=k/\k<=536870912,.c (.int .i64 (if l=bq l k then k+(bc l:Int)else -1)),[]⟩
def yy:List AD->Option Post
 | [.c (.p3 .i64 l),.c (.int .i64 k)]=>some (rU l k)
 |_=>none
def GN(l:List (List (List Int)×List (List Int)))(k:Int):Nat->Option Ann
 |0=>some (Ann.mk ((Nat)) (fun i=>⟨[(0,.c (.ro (.p3 .i64 l))),(1,.c (.int .i64 (k+(bc (l.take i):Int)))),(5,.c (.int .i64 ((i:Int))))],[]⟩) (fun i=>i<=l.length/\l.take i=bq (l.take i) k) (fun i=>l.length-i) (fun _=>av))
 |_=>none
def GO:List (Nat×Ctr):=[(57,⟨[],yO⟩)]
def iQ(l:List (List (List Int)×List (List Int)))(x0:Nat):=(l.getD (↑x0:Int).toNat (([]:List (List Int)),([]:List (List Int))))
def yz(l:List (List (List Int)×List (List Int)))(k:Int):Prop :=
 ((∃x0:Nat,(x0<=l.length/\List.take x0 l=bq (List.take x0 l) k)/\l=l/\k=k+(↑(bc (List.take x0 l)):Int)/\(0:Int)=(x0:Int))/\(∀x1:Nat,(x1<=l.length/\List.take x1 l=bq (List.take x1 l) k->(ae (decide ((x1:Int)<(l.length:Int))) (ab (x1:Int) l.length/\(((((iQ l x1).1).length<=(1048576:Nat)/\aV (iQ l x1).1<=(1048576:Nat)/\(0:Int)<=k+(↑(bc (List.take x1 l)):Int)/\k+(↑(bc (List.take x1 l)):Int)<=(1073741824:Int))/\True)/\(ae (decide ((if(l.getD (x1:Int).toNat (([]:List (List Int)),([]:List (List Int)))).1=bt ((l.getD (x1:Int).toNat (([]:List (List Int)),([]:List (List Int)))).1) (k+(↑(bc (List.take x1 l)):Int))then k+(↑(bc (List.take x1 l)):Int)+(↑(aV ((l.getD (x1:Int).toNat (([]:List (List Int)),([]:List (List Int)))).1)):Int)else(-1:Int))<(0:Int))) (((-1:Int)=if l=bq l k then k+(bc l:Int)else(-1:Int))/\True) (ab (x1:Int) l.length/\(((((iQ l x1).2).length<=(1048576:Nat)/\(aV (iQ l x1).2<=(1048576:Nat)/\(((0:Int)<=if(l.getD (x1:Int).toNat (([]:List (List Int)),([]:List (List Int)))).1=bt ((l.getD (x1:Int).toNat (([]:List (List Int)),([]:List (List Int)))).1) (k+(↑(bc (List.take x1 l)):Int))then k+(↑(bc (List.take x1 l)):Int)+(↑(aV (iQ l x1).1):Int)else(-1:Int)) /\
 ((if(l.getD (x1:Int).toNat (([]:List (List Int)),([]:List (List Int)))).1=bt ((l.getD (x1:Int).toNat (([]:List (List Int)),([]:List (List Int)))).1) (k+(↑(bc (List.take x1 l)):Int))then k+(↑(bc (List.take x1 l)):Int)+(↑(aV (iQ l x1).1):Int)else(-1:Int))<=(1073741824:Int)))))/\True)/\(ae (decide ((if(l.getD (x1:Int).toNat (([]:List (List Int)),([]:List (List Int)))).2=bt ((l.getD (x1:Int).toNat (([]:List (List Int)),([]:List (List Int)))).2) (if(l.getD (x1:Int).toNat (([]:List (List Int)),([]:List (List Int)))).1=bt ((l.getD (x1:Int).toNat (([]:List (List Int)),([]:List (List Int)))).1) (k+(↑(bc (List.take x1 l)):Int))then k+(↑(bc (List.take x1 l)):Int)+(↑(aV ((l.getD (x1:Int).toNat (([]:List (List Int)),([]:List (List Int)))).1)):Int)else(-1:Int))then(if(l.getD (x1:Int).toNat (([]:List (List Int)),([]:List (List Int)))).1=bt ((l.getD (x1:Int).toNat (([]:List (List Int)),([]:List (List Int)))).1) (k+(↑(bc (List.take x1 l)):Int))then k+(↑(bc (List.take x1 l)):Int)+(↑(aV ((l.getD (x1:Int).toNat (([]:List (List Int)),([]:List (List Int)))).1)):Int)else(-1:Int))+(↑(aV ((l.getD (x1:Int).toNat (([]:List (List Int)),([]:List (List Int)))).2)):Int)else(-1:Int))<(0:Int))) (((-1:Int)=if l=bq l k then k+(bc l:Int)else(-1:Int))/\True) ((ac ((x1:Int)+(1:Int)))/\(∃x2:Nat,(((x2<=l.length) /\
 (List.take x2 l=bq (List.take x2 l) k))/\((l.length-x2<l.length-x1)/\((l=l)/\(((if(l.getD (x1:Int).toNat (([]:List (List Int)),([]:List (List Int)))).2=bt ((l.getD (x1:Int).toNat (([]:List (List Int)),([]:List (List Int)))).2) (if(l.getD (x1:Int).toNat (([]:List (List Int)),([]:List (List Int)))).1=bt ((l.getD (x1:Int).toNat (([]:List (List Int)),([]:List (List Int)))).1) (k+(↑(bc (List.take x1 l)):Int))then k+(↑(bc (List.take x1 l)):Int)+(↑(aV (iQ l x1).1):Int)else(-1:Int))then(if(l.getD (x1:Int).toNat (([]:List (List Int)),([]:List (List Int)))).1=bt ((l.getD (x1:Int).toNat (([]:List (List Int)),([]:List (List Int)))).1) (k+(↑(bc (List.take x1 l)):Int))then k+(↑(bc (List.take x1 l)):Int)+(↑(aV (iQ l x1).1):Int)else(-1:Int))+(↑(aV (iQ l x1).2):Int)else(-1:Int))=k+(↑(bc (List.take x2 l)):Int))/\((x1:Int)+(1:Int)=(x2:Int)))))))))))))) ((k+(↑(bc (List.take x1 l)):Int)=if l=bq l k then k+(bc l:Int)else(-1:Int))/\True)))))
theorem OJ(l:List (List (List Int)×List (List Int)))(k:Int):aY Tryz.prog (aj GO) am (GN l k) Tryz.f17 (aP Tryz.f17) [] [.c (.p3 .i64 l),.c (.int .i64 k)] (rU l k)=yz l k:=by kernel_rfl
theorem OK(l:List (List (List Int)×List (List Int)))(k:Int)(Yh:(rU l k).pre):yz l k:=by
 simp only[rU,yz,iQ,aX,true_and,and_true,decide_eq_true_eq,decide_eq_false_iff_not,bne_iff_ne,beq_iff_eq,bne_eq_false_iff_eq,beq_eq_false_iff_ne,Bool.not_eq_true,Bool.not_eq_false,Bool.not_true,Bool.not_false,Bool.not_eq_eq_eq_not,Int.toNat_natCast,List.length_append,List.length_take,List.length_replicate,List.length_set,List.length_map,List.length_drop,List.length_nil,List.length_cons,aN,ab,ac,ah,ax,FC.len]at Yh⊢;obtain⟨⟨h1,h0⟩,h2,h3,h4⟩:=Yh;refine⟨⟨0,⟨by omega,rfl⟩,by simp[bc,de],rfl⟩,fun i ⟨hi,he⟩=>⟨fun h=>?_,fun h=>?_⟩⟩
 ·have q1:bc (l.take (i+1))=bc (l.take i)+ep (l.getD i ([],[])):=Dk ep l ([],[]) i (by omega)
  have q2:bc (l.take (i+1))<=bc l:=Dl ep l (i+1)
  have q3:=h0 _ (bO l ([],[]) i (by omega))
  have q4:ep (l.getD i ([],[]))=aV (l.getD i ([],[])).1+aV (l.getD i ([],[])).2:=rfl
  have q5:l=bq l k->l.getD i ([],[])=fC (l.getD i ([],[])) (k+(bc (l.take i):Int)):=fun e=>by
   conv=>lhs;rw[e]
   exact KT (f:=fC) (c:=ep) l ([],[]) k i (by omega)
  have m:l.length<=1048576:=h1
  by_cases p1:(l.getD i ([],[])).1=bt (l.getD i ([],[])).1 (k+(bc (l.take i):Int))
  ·simp only[if_pos p1]
   refine⟨by omega,⟨q3.1,by omega,by omega,by omega⟩,fun h5=>by omega,fun _=>⟨by omega,⟨q3.2,by omega,by omega,by omega⟩,fun h5=>?_,fun h5=>?_⟩⟩
   ·split at h5
    ·omega
    ·rename_i h6
     rw[if_neg];exact fun e=>h6 (congrArg Prod.snd (q5 e))
   ·split at h5
    ·rename_i h6
     rw[if_pos h6];refine⟨by omega,i+1,⟨by omega,?_⟩,by omega,by omega,by omega⟩
     rw[show bq (l.take (i+1)) k=bq (l.take i) k++[fC (l.getD i ([],[])) (k+(bc (l.take i):Int))] from vj (f:=fC) (c:=ep) l ([],[]) k i (by omega),<-he,
      show fC (l.getD i ([],[])) (k+(bc (l.take i):Int))=l.getD i ([],[]) from Prod.ext p1.symm h6.symm,du _ _ _ (by omega)]
    ·omega
  ·simp only[if_neg p1]
   refine⟨by omega,⟨q3.1,by omega,by omega,by omega⟩,fun _=>?_,fun h5=>absurd (by decide) h5⟩
   rw[if_neg];exact fun e=>p1 (congrArg Prod.fst (q5 e))
 ·rw[List.take_of_length_le (by omega)]at he⊢
  rw[if_pos he]
theorem OL:Fits Tryz.prog 17 ⟨[],yy⟩:=by
 refine bf (Γ:=aj GO) (aD Pa aW) Tryz.func17 fun ds p h hp=>?_
 unfold yy at h;split at h
 ·cases h
  exact⟨am,GN _ _ ,by rw[OJ];exact OK _ _  hp⟩
 ·cases h
end Go.Sx
