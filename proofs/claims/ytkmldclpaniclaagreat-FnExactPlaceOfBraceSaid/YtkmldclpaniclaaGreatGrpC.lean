/- GrpC -/
import Derived.Test.YtkmldclpaniclaaGreatGrp
open Go Go.Proofs
namespace Go.Sx
set_option linter.unusedSimpArgs false
set_option linter.unusedVariables false
def rJ(l:V7)(x:Int):Post:=⟨l.length<=1099511627776,.c (.int .i64 (aZ x l 0)),[]⟩
def rK:List AD->Option Post
 | [.c (.ints .i64 l),.c (.int .i64 x)]=>some (rJ l x)
 |_=>none
def F4(l:V7)(x:Int):Nat->Option Ann
 |0=>some (Ann.mk ((Nat)) (fun i=>⟨[(0,.c (.ro (.ints .i64 l))),(1,.c (.int .i64 x)),(6,.c (.ro (.ints .i64 l))),(7,.c (.int .i64 ((l.length:Int)))),(8,.c (.int .i64 ((i:Int))))],[]⟩) (fun i=>i<=l.length/\aZ x l 0=aZ x (l.drop i) (i:Int)) (fun i=>l.length-i) (fun _=>am))
 |_=>none
def F5:List (Nat×Ctr):=[]
def xL(l:V7)(x:Int):Prop :=
 (∃x0:Nat,(x0<=l.length/\aZ x l (0:Int)=aZ x (List.drop x0 l) (x0:Int))/\l=l/\x=x/\l=l/\(l.length:Int)=(l.length:Int)/\(0:Int)=(x0:Int))/\∀x1:Nat,x1<=l.length/\aZ x l (0:Int)=aZ x (List.drop x1 l) (x1:Int)->ae (decide ((x1:Int)<(l.length:Int))) (aa (x1:Int) l.length/\ae (x == l.getD (x1:Int).toNat (0:Int)) ((x1:Int)=aZ x l (0:Int)/\True) (ac ((x1:Int)+(1:Int))/\∃x2:Nat,(x2<=l.length/\aZ x l (0:Int)=aZ x (List.drop x2 l) (x2:Int))/\l.length-x2<l.length-x1/\l=l/\x=x/\l=l/\(l.length:Int)=(l.length:Int)/\(x1:Int)+(1:Int)=(x2:Int))) ((-1:Int)=aZ x l (0:Int)/\True)
theorem OM(l:V7)(x:Int):aJ Tryz.prog (ai F5) ak (F4 l x) Tryz.f179 (aE Tryz.f179) [] [.c (.ints .i64 l),.c (.int .i64 x)] (rJ l x)=xL l x:=by kernel_rfl
theorem ON(l:V7)(x:Int)(Yh:(rJ l x).pre):xL l x:=by
 simp only[rJ,xL,aG,u1,u2,u3,u4,u5,u6,u7,u8,u9,v1,v2,v3,v4,v5,v6,v7,v8,v9,w1,w2,w3,w4,aH,aa,ac,af,ar]at Yh⊢;refine⟨⟨0,⟨by omega,rfl⟩,rfl⟩,fun i ⟨hi,he⟩=>⟨fun h=>?_,fun h=>?_⟩⟩
 ·rw[drop_cons' l 0 i (by omega)]at he
  simp only[aZ]at he;refine⟨by omega,fun h2=>?_,fun h2=>⟨by omega,i+1,⟨by omega,?_⟩,by omega,by omega⟩⟩
  ·rw[he,if_pos h2.symm]
  ·rw[he,if_neg fun e=>h2 e.symm];simp
 ·rw[he,List.drop_of_length_le (by omega)];rfl
theorem F6:Fits Tryz.prog 179 ⟨[],rK⟩:=by
 refine aO (Γ:=ai F5) aF Tryz.func179 fun ds p h hp=>?_
 unfold rK at h;split at h
 ·cases h
  exact⟨ak,F4 _ _ ,by rw[OM];exact ON _ _  hp⟩
 ·cases h
def rL(l:V7)(x:Int):Post:=⟨l.length<=1099511627776,.c (.int .i64 (aZ x l 0)),[]⟩
def xM:List AD->Option Post
 | [.c (.ints .i64 l),.c (.int .i64 x)]=>some (rL l x)
 |_=>none
def F7:List (Nat×Ctr):=[(179,⟨[],rK⟩)]
def xN(l:V7)(x:Int):Prop :=
 (l.length<=(1099511627776:Nat)/\True)/\aZ x l (0:Int)=aZ x l (0:Int)/\True
theorem OO(l:V7)(x:Int):aJ Tryz.prog (ai F7) ak am Tryz.f158 (aE Tryz.f158) [] [.c (.ints .i64 l),.c (.int .i64 x)] (rL l x)=xN l x:=by kernel_rfl
theorem OP(l:V7)(x:Int)(Yh:(rL l x).pre):xN l x:=by
 simp only[rL,xN,aG,u1,u2,u3,u4,u5,u6,u7,u8,u9,v1,v2,v3,v4,v5,v6,v7,v8,v9,w1,w2,w3,w4,aH,aa,ac,af,ar]at Yh⊢;exact Yh
theorem OQ:Fits Tryz.prog 158 ⟨[],xM⟩:=by
 refine aO (Γ:=ai F7) (aw F6 aF) Tryz.func158 fun ds p h hp=>?_
 unfold xM at h;split at h
 ·cases h
  exact⟨ak,am,by rw[OO];exact OP _ _  hp⟩
 ·cases h
def rM(t:V8):Post:=⟨b6 t=true,.c (.ints 2 .i64 (cd t)),[]⟩
def xO:List AD->Option Post
 | [.c (.rows .i64 t)]=>some (rM t)
 |_=>none
def F8(t:V8):Nat->Option Ann
 |0=>some (Ann.mk ((Nat)) (fun i=>⟨[(0,.c (.ro (.rows .i64 t))),(3,.c (.own 8)),(9,.c (.ro (.rows .i64 t))),(10,.c (.int .i64 ((t.length:Int)))),(11,.c (.int .i64 ((i:Int))))],[(8,some (.ints 2 .i64 ((cd t).take i++List.replicate ((cd t).length-i) 0)))]⟩) (fun i=>i<=t.length) (fun i=>t.length-i) (fun _=>am))
 |_=>none
def F9:List (Nat×Ctr):=[(158,⟨[],xM⟩)]
def xP(t:V8):Prop :=
 ((0:Int)<=(t.length:Int)/\(t.length:Int)<=(t.length:Int)/\af (t.length:Int).toNat)/\(∃x0:Nat,x0<=t.length/\t=t/\t=t/\(t.length:Int)=(t.length:Int)/\(0:Int)=(x0:Int)/\List.replicate (t.length:Int).toNat (0:Int)=List.take x0 (cd t)++List.replicate ((cd t).length-x0) (0:Int))/\∀x1:Nat,x1<=t.length->ae (decide ((x1:Int)<(t.length:Int))) (aa (x1:Int) t.length/\((t.getD (x1:Int).toNat []).length<=(1099511627776:Nat)/\True)/\aa (x1:Int) ((List.take x1 (cd t)++List.replicate ((cd t).length-x1) (0:Int)).length)/\ac ((x1:Int)+(1:Int))/\∃x2:Nat,x2<=t.length/\t.length-x2<t.length-x1/\t=t/\t=t/\(t.length:Int)=(t.length:Int)/\(x1:Int)+(1:Int)=(x2:Int)/\List.set (List.take x1 (cd t)++List.replicate ((cd t).length-x1) (0:Int)) (x1:Int).toNat (aZ (0:Int) (t.getD (x1:Int).toNat []) (0:Int))=List.take x2 (cd t)++List.replicate ((cd t).length-x2) (0:Int)) (List.take x1 (cd t)++List.replicate ((cd t).length-x1) (0:Int)=cd t/\True)
theorem OR(t:V8):aJ Tryz.prog (ai F9) ak (F8 t) Tryz.f114 (aE Tryz.f114) [] [.c (.rows .i64 t)] (rM t)=xP t:=by kernel_rfl
theorem OS(t:V8)(Yh:(rM t).pre):xP t:=by
 simp only[rM,xP,aG,u1,u2,u3,u4,u5,u6,u7,u8,u9,v1,v2,v3,v4,v5,v6,v7,v8,v9,w1,w2,w3,w4,aH,aa,ac,af,ar]at Yh⊢;obtain⟨n1,n2,ht⟩:=gu Yh;have hl:=F2 t
 rw[hl];refine⟨by omega,⟨0,by omega,rfl,by simp⟩,fun i hi=>⟨fun h=>?_,fun h=>?_⟩⟩
 ·have r:=ht i (by omega)
  have e:=F3 t i (by omega)
  refine⟨by omega,by omega,by omega,by omega,i+1,by omega,by omega,by omega,?_⟩
  have:=oo (cd t) 0 0 i (by omega)
  rw[hl,e]at this;exact this
 ·rw[List.take_of_length_le (by omega),show t.length-i=0 by omega];simp
theorem OT:Fits Tryz.prog 114 ⟨[],xO⟩:=by
 refine aO (Γ:=ai F9) (aw OQ aF) Tryz.func114 fun ds p h hp=>?_
 unfold xO at h;split at h
 ·cases h
  exact⟨ak,F8 _ ,by rw[OR];exact OS _  hp⟩
 ·cases h
def rN(t:V8)(x:Int):Post:=⟨b6 t=true/\0<=x/\x<=(t.length:Int)-1,.c (.int .i64 (bk t x.toNat)),[]⟩
def xQ:List AD->Option Post
 | [.c (.rows .i64 t),.c (.int .i64 x)]=>some (rN t x)
 |_=>none
def Ga:List (Nat×Ctr):=[(211,⟨[],tE⟩)]
def xR(t:V8)(x:Int):Prop :=
 aa x t.length/\((t.getD x.toNat []).length<=(1099511627776:Nat)/\True)/\aZ (0:Int) (t.getD x.toNat []) (0:Int)=bk t x.toNat/\True
theorem OU(t:V8)(x:Int):aJ Tryz.prog (ai Ga) ak am Tryz.f156 (aE Tryz.f156) [] [.c (.rows .i64 t),.c (.int .i64 x)] (rN t x)=xR t x:=by kernel_rfl
theorem OW(t:V8)(x:Int)(Yh:(rN t x).pre):xR t x:=by
 simp only[rN,xR,aG,u1,u2,u3,u4,u5,u6,u7,u8,u9,v1,v2,v3,v4,v5,v6,v7,v8,v9,w1,w2,w3,w4,aH,aa,ac,af,ar]at Yh⊢;obtain⟨h1,h2,h3⟩:=Yh;have r:=(gu h1).2.2 x.toNat (by omega)
 have:=(gu h1).2.1
 exact⟨by omega,by omega,rfl⟩
theorem OX:Fits Tryz.prog 156 ⟨[],xQ⟩:=by
 refine aO (Γ:=ai Ga) (aw I5 aF) Tryz.func156 fun ds p h hp=>?_
 unfold xQ at h;split at h
 ·cases h
  exact⟨ak,am,by rw[OU];exact OW _ _  hp⟩
 ·cases h
def rO(t:V8):Post:=⟨aM t,.c (.bool (ba t)),[]⟩
def xS:List AD->Option Post
 | [.c (.rows .i64 t)]=>some (rO t)
 |_=>none
def Gb(t:V8):Nat->Option Ann
 |0=>some (Ann.mk ((Nat)) (fun i=>⟨[(0,.c (.ro (.rows .i64 t))),(15,.c (.int .i64 ((t.length:Int)))),(16,.c (.int .i64 ((i:Int))))],[]⟩) (fun i=>i<=t.length/\b6 t=true/\ba t=(List.range' i (t.length-i)).all (fW t)) (fun i=>t.length-i) (fun i=>fun b_=>match b_ with|2=>some (Ann.mk ((Nat)) (fun j=>⟨[(0,.c (.ro (.rows .i64 t))),(15,.c (.int .i64 ((t.length:Int)))),(16,.c (.int .i64 ((i:Int)))),(3,.c (.int .i64 ((i:Int)))),(38,.c (.int .i64 ((t.length:Int)))),(39,.c (.int .i64 ((j:Int))))],[]⟩) (fun j=>j<=t.length/\i<t.length/\ba t=((List.range' j (t.length-j)).all (gL t i)&&(List.range' (i+1) (t.length-(i+1))).all (fW t))) (fun j=>t.length-j) (fun j=>fun b_=>match b_ with|4=>some (Ann.mk ((Nat)) (fun k=>⟨[(0,.c (.ro (.rows .i64 t))),(15,.c (.int .i64 ((t.length:Int)))),(16,.c (.int .i64 ((i:Int)))),(3,.c (.int .i64 ((i:Int)))),(38,.c (.int .i64 ((t.length:Int)))),(39,.c (.int .i64 ((j:Int)))),(4,.c (.int .i64 ((j:Int)))),(43,.c (.int .i64 ((t.length:Int)))),(44,.c (.int .i64 ((k:Int))))],[]⟩) (fun k=>k<=t.length/\j<t.length/\ba t=((List.range' k (t.length-k)).all (iW t i j)&&((List.range' (j+1) (t.length-(j+1))).all (gL t i)&&(List.range' (i+1) (t.length-(i+1))).all (fW t)))) (fun k=>t.length-k) (fun _=>am))|_=>none))|_=>none))
 |_=>none
def Gc:List (Nat×Ctr):=[(145,⟨[],AL⟩),(146,⟨[],A0⟩)]
def rP(t:V8)(x0:Nat)(x1:Nat)(x2:Nat):=(List.all (List.range' x0 (t.length-x0)) (iW t x1 x2)&&(List.all (List.range' (x2+(1:Nat)) (t.length-(x2+(1:Nat)))) (gL t x1)&&List.all (List.range' (x1+(1:Nat)) (t.length-(x1+(1:Nat)))) (fW t)))
def rQ(t:V8)(x0:Nat)(x1:Nat):=(List.all (List.range' x0 (t.length-x0)) (gL t x1)&&List.all (List.range' (x1+(1:Nat)) (t.length-(x1+(1:Nat)))) (fW t))
def xT(t:V8):Prop :=
 ((aM t/\True)/\(ae (!b6 t) (false=ba t/\True) ((aM t/\True)/\(ae (!List.all t cM) (false=ba t/\True) ((∃x0:Nat,(x0<=t.length/\b6 t=true/\ba t=List.all (List.range' x0 (t.length-x0)) (fW t))/\t=t/\(t.length:Int)=(t.length:Int)/\(0:Int)=(x0:Int))/\(∀x1:Nat,(x1<=t.length/\b6 t=true/\ba t=List.all (List.range' x1 (t.length-x1)) (fW t)->(ae (decide ((x1:Int)<(t.length:Int))) (aa (0:Int) t.length/\(aa (x1:Int) ((t.getD (0:Nat) []).length)/\(ae ((List.getD t (0:Nat) []).getD (x1:Int).toNat (0:Int) != (x1:Int)) (false=ba t/\True) (aa (x1:Int) t.length/\(aa (0:Int) ((t.getD (x1:Int).toNat []).length)/\(ae ((List.getD t (x1:Int).toNat []).getD (0:Nat) (0:Int) != (x1:Int)) (false=ba t/\True) ((∃x2:Nat,(x2<=t.length/\x1<t.length/\ba t=(rQ t x2 x1))/\t=t/\(t.length:Int)=(t.length:Int)/\(x1:Int)=(x1:Int)/\(x1:Int)=(x1:Int)/\(t.length:Int)=(t.length:Int)/\(0:Int)=(x2:Int))/\(∀x3:Nat,(x3<=t.length/\x1<t.length/\ba t=(rQ t x3 x1)->(ae (decide ((x3:Int)<(t.length:Int))) ((∃x4:Nat,((x4<=t.length/\x3<t.length/\ba t=(rP t x4 x1 x3))/\(t=t/\((t.length:Int)=(t.length:Int)/\((x1:Int)=(x1:Int)/\((x1:Int)=(x1:Int)/\((t.length:Int)=(t.length:Int)/\(((x3:Int)=(x3:Int)) /\
 (((x3:Int)=(x3:Int))/\(((t.length:Int)=(t.length:Int))/\((0:Int)=(x4:Int))))))))))))/\(∀x5:Nat,(((x5<=t.length)/\((x3<t.length)/\(ba t=(rP t x5 x1 x3))))->(ae (decide ((x5:Int)<(t.length:Int))) ((aa (x1:Int) t.length)/\((aa (x3:Int) ((t.getD (x1:Int).toNat []).length))/\((aa ((List.getD t (x1:Int).toNat []).getD (x3:Int).toNat (0:Int)) t.length)/\((aa (x5:Int) ((t.getD (((List.getD t (x1:Int).toNat []).getD (x3:Int).toNat (0:Int)).toNat) []).length))/\((aa (x1:Int) t.length)/\((aa (x3:Int) t.length)/\((aa (x5:Int) ((t.getD (x3:Int).toNat []).length))/\((aa ((List.getD t (x3:Int).toNat []).getD (x5:Int).toNat (0:Int)) ((t.getD (x1:Int).toNat []).length))/\(ae ((List.getD t ((List.getD (List.getD t (x1:Int).toNat []) (x3:Int).toNat (0:Int)).toNat) []).getD (x5:Int).toNat (0:Int) != (List.getD t (x1:Int).toNat []).getD (((List.getD t (x3:Int).toNat []).getD (x5:Int).toNat (0:Int)).toNat) (0:Int)) ((false=ba t)/\True) ((ac ((x5:Int)+(1:Int)))/\(∃x6:Nat,(((x6<=t.length)/\((x3<t.length)/\(ba t=(rP t x6 x1 x3))))/\((t.length-x6<t.length-x5)/\((t=t)/\(((t.length:Int)=(t.length:Int))/\(((x1:Int)=(x1:Int))/\(((x1:Int)=(x1:Int))/\(((t.length:Int)=(t.length:Int))/\(((x3:Int)=(x3:Int))/\(((x3:Int)=(x3:Int))/\(((t.length:Int)=(t.length:Int))/\((x5:Int)+(1:Int)=(x6:Int)))))))))))))))))))))))
 ((ac ((x3:Int)+(1:Int)))/\(∃x7:Nat,(((x7<=t.length)/\((x1<t.length)/\(ba t=(rQ t x7 x1))))/\((t.length-x7<t.length-x3)/\((t=t)/\(((t.length:Int)=(t.length:Int))/\(((x1:Int)=(x1:Int))/\(((x1:Int)=(x1:Int))/\(((t.length:Int)=(t.length:Int))/\((x3:Int)+(1:Int)=(x7:Int))))))))))))))) ((ac ((x1:Int)+(1:Int)))/\(∃x8:Nat,(((x8<=t.length)/\((b6 t=true)/\(ba t=List.all (List.range' x8 (t.length-x8)) (fW t))))/\((t.length-x8<t.length-x1)/\((t=t)/\(((t.length:Int)=(t.length:Int))/\((x1:Int)+(1:Int)=(x8:Int)))))))))))))))))) ((true=ba t)/\True)))))))))
theorem OY(t:V8):aJ Tryz.prog (ai Gc) ak (Gb t) Tryz.f98 (aE Tryz.f98) [] [.c (.rows .i64 t)] (rO t)=xT t:=by kernel_rfl
theorem OZ(t:V8)(Yh:(rO t).pre):xT t:=by
 simp only[rO,xT,rP,rQ,aG,u1,u2,u3,u4,u5,u6,u7,u8,u9,v1,v2,v3,v4,v5,v6,v7,v8,v9,w1,w2,w3,w4,aH,aa,ac,af,ar]at Yh⊢;refine⟨Yh,fun h=>by simp[ba,h],fun h1=>⟨Yh,fun h2=>by simp[ba,h2],fun h2=>⟨⟨0,⟨by omega,h1,by rw[ba,h1,h2,Bool.true_and,Bool.true_and,mX]⟩,rfl⟩,fun i ⟨hi,_,he⟩=>?_⟩⟩⟩
 obtain⟨n1,n2,ht⟩:=gu h1;refine⟨fun h3=>?_,fun h3=>by rw[he,mW _ (by omega)]⟩
 ·have r0:=ht 0 (by omega)
  have ri:=ht i (by omega)
  rw[mV _ (by omega)]at he
  refine⟨by omega,by omega,fun h4=>?_,fun h4=>⟨by omega,by omega,fun h5=>?_,fun h5=>⟨⟨0,⟨by omega,by omega,?_⟩,rfl⟩,fun j ⟨hj,_,hy⟩=>⟨fun h6=>⟨⟨0,⟨by omega,by omega,?_⟩,rfl⟩,fun k ⟨hk,_,hz⟩=>⟨fun h7=>?_,fun h7=>?_⟩⟩,fun h6=>?_⟩⟩⟩⟩
  ·rw[he,fW,iX,show decide (en t 0 i=(i:Int))=false from decide_eq_false h4];rfl
  ·rw[he,fW,iX,show decide (en t i 0=(i:Int))=false from decide_eq_false h5];simp
  ·rw[he,fW,iX,show decide (en t 0 i=(i:Int))=true from decide_eq_true h4,show decide (en t i 0=(i:Int))=true from decide_eq_true h5,oD,mX];rfl
  ·rw[hy,mV _ (by omega),gL,mX,Bool.and_assoc]
  ·have rj:=ht j (by omega)
   have a:=ri.2 j (by omega)
   have b:=rj.2 k (by omega)
   have rr:=ht ((t.getD i []).getD j 0).toNat (by omega)
   rw[mV _ (by omega)]at hz
   refine⟨by omega,by omega,by omega,by omega,by omega,by omega,by omega,by omega,fun h8=>?_,fun h8=>⟨by omega,k+1,⟨by omega,by omega,?_⟩,by omega,by omega⟩⟩
   ·rw[hz,show iW t i j k=false from decide_eq_false h8];rfl
   ·rw[hz,show iW t i j k=true from decide_eq_true h8];rfl
  ·refine⟨by omega,j+1,⟨by omega,by omega,?_⟩,by omega,by omega⟩
   rw[hz,mW _ (by omega),Bool.true_and]
  ·refine⟨by omega,i+1,⟨by omega,h1,?_⟩,by omega,by omega⟩
   rw[hy,mW _ (by omega),Bool.true_and]
theorem O0:Fits Tryz.prog 98 ⟨[],xS⟩:=by
 refine aO (Γ:=ai Gc) (aw So (aw SN aF)) Tryz.func98 fun ds p h hp=>?_
 unfold xS at h;split at h
 ·cases h
  exact⟨ak,Gb _ ,by rw[OY];exact OZ _  hp⟩
 ·cases h
def rR(t:V8):Post:=⟨aM t,.c (.bool (ba t)),[]⟩
def xU:List AD->Option Post
 | [.c (.rows .i64 t)]=>some (rR t)
 |_=>none
def Gd(t:V8):Nat->Option Ann
 |0=>some (Ann.mk ((Nat)) (fun i=>⟨[(0,.c (.ro (.rows .i64 t))),(3,.c (.int .i64 ((i:Int))))],[]⟩) (fun i=>i<=t.length/\b6 t=true/\ba t=(List.range' i (t.length-i)).all (fX t)) (fun i=>t.length-i) (fun i=>fun b_=>match b_ with|2=>some (Ann.mk ((Nat)) (fun j=>⟨[(0,.c (.ro (.rows .i64 t))),(3,.c (.int .i64 ((i:Int)))),(4,.c (.int .i64 ((j:Int))))],[]⟩) (fun j=>j<=t.length/\i<t.length/\ba t=((List.range' j (t.length-j)).all (gL t i)&&(List.range' (i+1) (t.length-(i+1))).all (fX t))) (fun j=>t.length-j) (fun j=>fun b_=>match b_ with|4=>some (Ann.mk ((Nat)) (fun k=>⟨[(0,.c (.ro (.rows .i64 t))),(3,.c (.int .i64 ((i:Int)))),(4,.c (.int .i64 ((j:Int)))),(5,.c (.int .i64 ((k:Int))))],[]⟩) (fun k=>k<=t.length/\j<t.length/\ba t=((List.range' k (t.length-k)).all (iW t i j)&&((List.range' (j+1) (t.length-(j+1))).all (gL t i)&&(List.range' (i+1) (t.length-(i+1))).all (fX t)))) (fun k=>t.length-k) (fun _=>am))|_=>none))|_=>none))
 |_=>none
def Ge:List (Nat×Ctr):=[(141,⟨[],AE⟩),(131,⟨[],AU⟩)]
def rS(t:V8)(x0:Nat)(x1:Nat)(x2:Nat):=(List.all (List.range' x0 (t.length-x0)) (iW t x1 x2)&&(List.all (List.range' (x2+(1:Nat)) (t.length-(x2+(1:Nat)))) (gL t x1)&&List.all (List.range' (x1+(1:Nat)) (t.length-(x1+(1:Nat)))) (fX t)))
def rT(t:V8)(x0:Nat)(x1:Nat):=(List.all (List.range' x0 (t.length-x0)) (gL t x1)&&List.all (List.range' (x1+(1:Nat)) (t.length-(x1+(1:Nat)))) (fX t))
def jv(t:V8)(x0:Nat):=(t.getD (↑x0:Int).toNat [])
def xV(t:V8):Prop :=
 ((aM t/\True)/\(ae (!b6 t) (false=ba t/\True) ((∃x0:Nat,(x0<=t.length/\b6 t=true/\ba t=List.all (List.range' x0 (t.length-x0)) (fX t))/\t=t/\(0:Int)=(x0:Int))/\(∀x1:Nat,(x1<=t.length/\b6 t=true/\ba t=List.all (List.range' x1 (t.length-x1)) (fX t)->(ae (decide ((x1:Int)<(t.length:Int))) (aa (0:Int) t.length/\(aa (x1:Int) ((t.getD (0:Nat) []).length)/\(ae ((List.getD t (0:Nat) []).getD (x1:Int).toNat (0:Int) != (x1:Int)) (false=ba t/\True) (aa (x1:Int) t.length/\(aa (0:Int) (jv t x1).length/\(ae ((List.getD t (x1:Int).toNat []).getD (0:Nat) (0:Int) != (x1:Int)) (false=ba t/\True) (aa (x1:Int) t.length/\(((jv t x1).length<=(1099511627776:Nat)/\True)/\(ae (!(decide ((1:Int)<=(↑((t.getD (x1:Int).toNat []).length):Int)/\(↑((t.getD (x1:Int).toNat []).length):Int)<=(12:Int))&&cM (t.getD (x1:Int).toNat []))) (false=ba t/\True) ((∃x2:Nat,(x2<=t.length/\x1<t.length/\ba t=(rT t x2 x1))/\t=t/\(x1:Int)=(x1:Int)/\(0:Int)=(x2:Int))/\(∀x3:Nat,(x3<=t.length/\x1<t.length/\ba t=(rT t x3 x1)->(ae (decide ((x3:Int)<(t.length:Int))) ((∃x4:Nat,(x4<=t.length/\x3<t.length/\ba t=(rS t x4 x1 x3))/\t=t/\(x1:Int)=(x1:Int)/\(x3:Int)=(x3:Int)/\(0:Int)=(x4:Int))/\(∀x5:Nat,((x5<=t.length/\((x3<t.length) /\
 (ba t=(rS t x5 x1 x3))))->(ae (decide ((x5:Int)<(t.length:Int))) ((aa (x1:Int) t.length)/\((aa (x3:Int) (jv t x1).length)/\((aa ((jv t x1).getD (x3:Int).toNat (0:Int)) t.length)/\((aa (x5:Int) ((t.getD (((jv t x1).getD (x3:Int).toNat (0:Int)).toNat) []).length))/\((aa (x1:Int) t.length)/\((aa (x3:Int) t.length)/\((aa (x5:Int) (jv t x3).length)/\((aa ((jv t x3).getD (x5:Int).toNat (0:Int)) (jv t x1).length)/\(ae ((List.getD t ((List.getD (List.getD t (x1:Int).toNat []) (x3:Int).toNat (0:Int)).toNat) []).getD (x5:Int).toNat (0:Int) != (List.getD t (x1:Int).toNat []).getD (((List.getD t (x3:Int).toNat []).getD (x5:Int).toNat (0:Int)).toNat) (0:Int)) ((false=ba t)/\True) ((ac ((x5:Int)+(1:Int)))/\(∃x6:Nat,(((x6<=t.length)/\((x3<t.length)/\(ba t=(rS t x6 x1 x3))))/\((t.length-x6<t.length-x5)/\((t=t)/\(((x1:Int)=(x1:Int))/\(((x3:Int)=(x3:Int))/\((x5:Int)+(1:Int)=(x6:Int)))))))))))))))))) ((ac ((x3:Int)+(1:Int)))/\(∃x7:Nat,(((x7<=t.length)/\((x1<t.length)/\(ba t=(rT t x7 x1))))/\((t.length-x7<t.length-x3)/\((t=t)/\(((x1:Int)=(x1:Int))/\((x3:Int)+(1:Int)=(x7:Int)))))))))))) ((ac ((x1:Int)+(1:Int)))/\(∃x8:Nat,(((x8<=t.length)/\((b6 t=true)/\(ba t=List.all (List.range' x8 (t.length-x8)) (fX t))))/\((t.length-x8<t.length-x1)/\((t=t)/\((x1:Int)+(1:Int)=(x8:Int))))))))))))))))))))
 ((true=ba t)/\True)))))))
theorem O5(t:V8):aJ Tryz.prog (ai Ge) ak (Gd t) Tryz.f94 (aE Tryz.f94) [] [.c (.rows .i64 t)] (rR t)=xV t:=by kernel_rfl
theorem O6(t:V8)(Yh:(rR t).pre):xV t:=by
 simp only[rR,xV,rS,rT,jv,aG,u1,u2,u3,u4,u5,u6,u7,u8,u9,v1,v2,v3,v4,v5,v6,v7,v8,v9,w1,w2,w3,w4,aH,aa,ac,af,ar]at Yh⊢;refine⟨Yh,fun h=>by simp[ba,h],fun h1=>⟨⟨0,⟨by omega,h1,by rw[OI,h1,Bool.true_and,mX]⟩,rfl⟩,fun i ⟨hi,_,he⟩=>?_⟩⟩
 obtain⟨n1,n2,ht⟩:=gu h1;refine⟨fun h3=>?_,fun h3=>by rw[he,mW _ (by omega)]⟩
 have hr:=(ht i (by omega)).1
 have hd:decide (1<=((t.getD i []).length:Int)/\((t.getD i []).length:Int)<=12)=true:=decide_eq_true (by omega)
 have np:(decide (1<=((t.getD i []).length:Int)/\((t.getD i []).length:Int)<=12)&&cM (t.getD i []))=false->cM (t.getD i [])=false:=fun h=>by rwa[hd,Bool.true_and]at h
 have yp:(decide (1<=((t.getD i []).length:Int)/\((t.getD i []).length:Int)<=12)&&cM (t.getD i []))=true->cM (t.getD i [])=true:=fun h=>by rwa[hd,Bool.true_and]at h
 ·have r0:=ht 0 (by omega)
  have ri:=ht i (by omega)
  rw[mV _ (by omega)]at he
  refine⟨by omega,by omega,fun h4=>?_,fun h4=>⟨by omega,by omega,fun h5=>?_,fun h5=>⟨by omega,by omega,fun hp=>?_,fun hp=>⟨⟨0,⟨by omega,by omega,?_⟩,rfl⟩,fun j ⟨hj,_,hy⟩=>⟨fun h6=>⟨⟨0,⟨by omega,by omega,?_⟩,rfl⟩,fun k ⟨hk,_,hz⟩=>⟨fun h7=>?_,fun h7=>?_⟩⟩,fun h6=>?_⟩⟩⟩⟩⟩
  ·rw[he,fX,iX,show decide (en t 0 i=(i:Int))=false from decide_eq_false h4];rfl
  ·rw[he,fX,iX,show decide (en t i 0=(i:Int))=false from decide_eq_false h5];simp
  ·rw[he,fX,show cM (t.getD i [])=false from np hp];simp
  ·rw[he,fX,iX,show decide (en t 0 i=(i:Int))=true from decide_eq_true h4,show decide (en t i 0=(i:Int))=true from decide_eq_true h5,show cM (t.getD i [])=true from yp hp,oD,mX];rfl
  ·rw[hy,mV _ (by omega),gL,mX,Bool.and_assoc]
  ·have rj:=ht j (by omega)
   have a:=ri.2 j (by omega)
   have b:=rj.2 k (by omega)
   have rr:=ht ((t.getD i []).getD j 0).toNat (by omega)
   rw[mV _ (by omega)]at hz
   refine⟨by omega,by omega,by omega,by omega,by omega,by omega,by omega,by omega,fun h8=>?_,fun h8=>⟨by omega,k+1,⟨by omega,by omega,?_⟩,by omega,by omega⟩⟩
   ·rw[hz,show iW t i j k=false from decide_eq_false h8];rfl
   ·rw[hz,show iW t i j k=true from decide_eq_true h8];rfl
  ·refine⟨by omega,j+1,⟨by omega,by omega,?_⟩,by omega,by omega⟩
   rw[hz,mW _ (by omega),Bool.true_and]
  ·refine⟨by omega,i+1,⟨by omega,h1,?_⟩,by omega,by omega⟩
   rw[hy,mW _ (by omega),Bool.true_and]
theorem O7:Fits Tryz.prog 94 ⟨[],xU⟩:=by
 refine aO (Γ:=ai Ge) (aw Sd (aw SA aF)) Tryz.func94 fun ds p h hp=>?_
 unfold xU at h;split at h
 ·cases h
  exact⟨ak,Gd _ ,by rw[O5];exact O6 _  hp⟩
 ·cases h
end Go.Sx
