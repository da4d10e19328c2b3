/- GrpC -/
import Derived.Test.YtkmldclpaniclaaGreatGrp
open Go Go.Proofs
namespace Go.Sx
set_option linter.unusedSimpArgs false
set_option linter.unusedVariables false
def qW(l:List Int)(x:Int):Post:=⟨l.length<=1099511627776,.c (.int .i64 (bf x l 0)),[]⟩
def xp:List AD->Option Post
 | [.c (.ints .i64 l),.c (.int .i64 x)]=>some (qW l x)
 |_=>none
def EZ(l:List Int)(x:Int):Nat->Option Ann
 |0=>some (Ann.mk ((Nat)) (fun i=>⟨[(0,.c (.ro (.ints .i64 l))),(1,.c (.int .i64 x)),(6,.c (.ro (.ints .i64 l))),(7,.c (.int .i64 ((l.length:Int)))),(8,.c (.int .i64 ((i:Int))))],[]⟩) (fun i=>i<=l.length/\bf x l 0=bf x (l.drop i) (i:Int)) (fun i=>l.length-i) (fun _=>ar))
 |_=>none
def E3:List (Nat×Ctr):=[]
def xq(l:List Int)(x:Int):Prop :=
 (∃x0:Nat,(x0<=l.length/\bf x l (0:Int)=bf x (List.drop x0 l) (x0:Int))/\l=l/\x=x/\l=l/\(l.length:Int)=(l.length:Int)/\(0:Int)=(x0:Int))/\∀x1:Nat,x1<=l.length/\bf x l (0:Int)=bf x (List.drop x1 l) (x1:Int)->af (decide ((x1:Int)<(l.length:Int))) (ab (x1:Int) l.length/\af (x == l.getD (x1:Int).toNat (0:Int)) ((x1:Int)=bf x l (0:Int)/\True) (ae ((x1:Int)+(1:Int))/\∃x2:Nat,(x2<=l.length/\bf x l (0:Int)=bf x (List.drop x2 l) (x2:Int))/\l.length-x2<l.length-x1/\l=l/\x=x/\l=l/\(l.length:Int)=(l.length:Int)/\(x1:Int)+(1:Int)=(x2:Int))) ((-1:Int)=bf x l (0:Int)/\True)
theorem Ny(l:List Int)(x:Int):aP Tryz.prog (ai E3) aj (EZ l x) Tryz.f179 (aF Tryz.f179) [] [.c (.ints .i64 l),.c (.int .i64 x)] (qW l x)=xq l x:=by kernel_rfl
theorem Nz(l:List Int)(x:Int)(Yh:(qW l x).pre):xq l x:=by
 simp only[qW,xq,aK,u1,u2,u3,u4,u5,u6,u7,u8,u9,v1,v2,v3,v4,v5,v6,v7,v8,v9,w1,w2,w3,w4,aC,ab,ae,ag,av]at Yh⊢;refine⟨⟨0,⟨by omega,rfl⟩,rfl⟩,fun i ⟨hi,he⟩=>⟨fun h=>?_,fun h=>?_⟩⟩
 ·rw[drop_cons' l 0 i (by omega)]at he
  simp only[bf]at he;refine⟨by omega,fun h2=>?_,fun h2=>⟨by omega,i+1,⟨by omega,?_⟩,by omega,by omega⟩⟩
  ·rw[he,if_pos h2.symm]
  ·rw[he,if_neg fun e=>h2 e.symm];simp
 ·rw[he,List.drop_of_length_le (by omega)];rfl
theorem NA:Fits Tryz.prog 179 ⟨[],xp⟩:=by
 refine aW (Γ:=ai E3) aJ Tryz.func179 fun ds p h hp=>?_
 unfold xp at h;split at h
 ·cases h
  exact⟨aj,EZ _ _ ,by rw[Ny];exact Nz _ _  hp⟩
 ·cases h
def qX(t:List (List Int)):Post:=⟨aY t,.c (.bool (ba t)),[]⟩
def xr:List AD->Option Post
 | [.c (.rows .i64 t)]=>some (qX t)
 |_=>none
def E4(t:List (List Int)):Nat->Option Ann
 |0=>some (Ann.mk ((Nat)) (fun i=>⟨[(0,.c (.ro (.rows .i64 t))),(15,.c (.int .i64 ((t.length:Int)))),(16,.c (.int .i64 ((i:Int))))],[]⟩) (fun i=>i<=t.length/\cd t=true/\ba t=(List.range' i (t.length-i)).all (fO t)) (fun i=>t.length-i) (fun i=>fun b_=>match b_ with|2=>some (Ann.mk ((Nat)) (fun j=>⟨[(0,.c (.ro (.rows .i64 t))),(15,.c (.int .i64 ((t.length:Int)))),(16,.c (.int .i64 ((i:Int)))),(3,.c (.int .i64 ((i:Int)))),(38,.c (.int .i64 ((t.length:Int)))),(39,.c (.int .i64 ((j:Int))))],[]⟩) (fun j=>j<=t.length/\i<t.length/\ba t=((List.range' j (t.length-j)).all (gE t i)&&(List.range' (i+1) (t.length-(i+1))).all (fO t))) (fun j=>t.length-j) (fun j=>fun b_=>match b_ with|4=>some (Ann.mk ((Nat)) (fun k=>⟨[(0,.c (.ro (.rows .i64 t))),(15,.c (.int .i64 ((t.length:Int)))),(16,.c (.int .i64 ((i:Int)))),(3,.c (.int .i64 ((i:Int)))),(38,.c (.int .i64 ((t.length:Int)))),(39,.c (.int .i64 ((j:Int)))),(4,.c (.int .i64 ((j:Int)))),(43,.c (.int .i64 ((t.length:Int)))),(44,.c (.int .i64 ((k:Int))))],[]⟩) (fun k=>k<=t.length/\j<t.length/\ba t=((List.range' k (t.length-k)).all (iL t i j)&&((List.range' (j+1) (t.length-(j+1))).all (gE t i)&&(List.range' (i+1) (t.length-(i+1))).all (fO t)))) (fun k=>t.length-k) (fun _=>ar))|_=>none))|_=>none))
 |_=>none
def E5:List (Nat×Ctr):=[(145,⟨[],zc⟩),(146,⟨[],zr⟩)]
def qY(t:List (List Int))(x0:Nat)(x1:Nat)(x2:Nat):=(List.all (List.range' x0 (t.length-x0)) (iL t x1 x2)&&(List.all (List.range' (x2+(1:Nat)) (t.length-(x2+(1:Nat)))) (gE t x1)&&List.all (List.range' (x1+(1:Nat)) (t.length-(x1+(1:Nat)))) (fO t)))
def qZ(t:List (List Int))(x0:Nat)(x1:Nat):=(List.all (List.range' x0 (t.length-x0)) (gE t x1)&&List.all (List.range' (x1+(1:Nat)) (t.length-(x1+(1:Nat)))) (fO t))
def xt(t:List (List Int)):Prop :=
 ((aY t/\True)/\(af (!cd t) (false=ba t/\True) ((aY t/\True)/\(af (!List.all t cH) (false=ba t/\True) ((∃x0:Nat,(x0<=t.length/\cd t=true/\ba t=List.all (List.range' x0 (t.length-x0)) (fO t))/\t=t/\(t.length:Int)=(t.length:Int)/\(0:Int)=(x0:Int))/\(∀x1:Nat,(x1<=t.length/\cd t=true/\ba t=List.all (List.range' x1 (t.length-x1)) (fO t)->(af (decide ((x1:Int)<(t.length:Int))) (ab (0:Int) t.length/\(ab (x1:Int) ((t.getD (0:Nat) []).length)/\(af ((List.getD t (0:Nat) []).getD (x1:Int).toNat (0:Int) != (x1:Int)) (false=ba t/\True) (ab (x1:Int) t.length/\(ab (0:Int) ((t.getD (x1:Int).toNat []).length)/\(af ((List.getD t (x1:Int).toNat []).getD (0:Nat) (0:Int) != (x1:Int)) (false=ba t/\True) ((∃x2:Nat,(x2<=t.length/\x1<t.length/\ba t=(qZ t x2 x1))/\t=t/\(t.length:Int)=(t.length:Int)/\(x1:Int)=(x1:Int)/\(x1:Int)=(x1:Int)/\(t.length:Int)=(t.length:Int)/\(0:Int)=(x2:Int))/\(∀x3:Nat,(x3<=t.length/\x1<t.length/\ba t=(qZ t x3 x1)->(af (decide ((x3:Int)<(t.length:Int))) ((∃x4:Nat,((x4<=t.length/\x3<t.length/\ba t=(qY t x4 x1 x3))/\(t=t/\((t.length:Int)=(t.length:Int)/\((x1:Int)=(x1:Int)/\((x1:Int)=(x1:Int)/\((t.length:Int)=(t.length:Int)/\(((x3:Int)=(x3:Int)) /\
 (((x3:Int)=(x3:Int))/\(((t.length:Int)=(t.length:Int))/\((0:Int)=(x4:Int))))))))))))/\(∀x5:Nat,(((x5<=t.length)/\((x3<t.length)/\(ba t=(qY t x5 x1 x3))))->(af (decide ((x5:Int)<(t.length:Int))) ((ab (x1:Int) t.length)/\((ab (x3:Int) ((t.getD (x1:Int).toNat []).length))/\((ab ((List.getD t (x1:Int).toNat []).getD (x3:Int).toNat (0:Int)) t.length)/\((ab (x5:Int) ((t.getD (((List.getD t (x1:Int).toNat []).getD (x3:Int).toNat (0:Int)).toNat) []).length))/\((ab (x1:Int) t.length)/\((ab (x3:Int) t.length)/\((ab (x5:Int) ((t.getD (x3:Int).toNat []).length))/\((ab ((List.getD t (x3:Int).toNat []).getD (x5:Int).toNat (0:Int)) ((t.getD (x1:Int).toNat []).length))/\(af ((List.getD t ((List.getD (List.getD t (x1:Int).toNat []) (x3:Int).toNat (0:Int)).toNat) []).getD (x5:Int).toNat (0:Int) != (List.getD t (x1:Int).toNat []).getD (((List.getD t (x3:Int).toNat []).getD (x5:Int).toNat (0:Int)).toNat) (0:Int)) ((false=ba t)/\True) ((ae ((x5:Int)+(1:Int)))/\(∃x6:Nat,(((x6<=t.length)/\((x3<t.length)/\(ba t=(qY t x6 x1 x3))))/\((t.length-x6<t.length-x5)/\((t=t)/\(((t.length:Int)=(t.length:Int))/\(((x1:Int)=(x1:Int))/\(((x1:Int)=(x1:Int))/\(((t.length:Int)=(t.length:Int))/\(((x3:Int)=(x3:Int))/\(((x3:Int)=(x3:Int))/\(((t.length:Int)=(t.length:Int))/\((x5:Int)+(1:Int)=(x6:Int)))))))))))))))))))))))
 ((ae ((x3:Int)+(1:Int)))/\(∃x7:Nat,(((x7<=t.length)/\((x1<t.length)/\(ba t=(qZ t x7 x1))))/\((t.length-x7<t.length-x3)/\((t=t)/\(((t.length:Int)=(t.length:Int))/\(((x1:Int)=(x1:Int))/\(((x1:Int)=(x1:Int))/\(((t.length:Int)=(t.length:Int))/\((x3:Int)+(1:Int)=(x7:Int))))))))))))))) ((ae ((x1:Int)+(1:Int)))/\(∃x8:Nat,(((x8<=t.length)/\((cd t=true)/\(ba t=List.all (List.range' x8 (t.length-x8)) (fO t))))/\((t.length-x8<t.length-x1)/\((t=t)/\(((t.length:Int)=(t.length:Int))/\((x1:Int)+(1:Int)=(x8:Int)))))))))))))))))) ((true=ba t)/\True)))))))))
theorem NB(t:List (List Int)):aP Tryz.prog (ai E5) aj (E4 t) Tryz.f98 (aF Tryz.f98) [] [.c (.rows .i64 t)] (qX t)=xt t:=by kernel_rfl
theorem NC(t:List (List Int))(Yh:(qX t).pre):xt t:=by
 simp only[qX,xt,qY,qZ,aK,u1,u2,u3,u4,u5,u6,u7,u8,u9,v1,v2,v3,v4,v5,v6,v7,v8,v9,w1,w2,w3,w4,aC,ab,ae,ag,av]at Yh⊢;refine⟨Yh,fun h=>by simp[ba,h],fun h1=>⟨Yh,fun h2=>by simp[ba,h2],fun h2=>⟨⟨0,⟨by omega,h1,by rw[ba,h1,h2,Bool.true_and,Bool.true_and,mA]⟩,rfl⟩,fun i ⟨hi,_,he⟩=>?_⟩⟩⟩
 obtain⟨n1,n2,ht⟩:=mO h1;refine⟨fun h3=>?_,fun h3=>by rw[he,mz _ (by omega)]⟩
 ·have r0:=ht 0 (by omega)
  have ri:=ht i (by omega)
  rw[my _ (by omega)]at he
  refine⟨by omega,by omega,fun h4=>?_,fun h4=>⟨by omega,by omega,fun h5=>?_,fun h5=>⟨⟨0,⟨by omega,by omega,?_⟩,rfl⟩,fun j ⟨hj,_,hy⟩=>⟨fun h6=>⟨⟨0,⟨by omega,by omega,?_⟩,rfl⟩,fun k ⟨hk,_,hz⟩=>⟨fun h7=>?_,fun h7=>?_⟩⟩,fun h6=>?_⟩⟩⟩⟩
  ·rw[he,fO,iM,show decide (en t 0 i=(i:Int))=false from decide_eq_false h4];rfl
  ·rw[he,fO,iM,show decide (en t i 0=(i:Int))=false from decide_eq_false h5];simp
  ·rw[he,fO,iM,show decide (en t 0 i=(i:Int))=true from decide_eq_true h4,show decide (en t i 0=(i:Int))=true from decide_eq_true h5,nU,mA];rfl
  ·rw[hy,my _ (by omega),gE,mA,Bool.and_assoc]
  ·have rj:=ht j (by omega)
   have a:=ri.2 j (by omega)
   have b:=rj.2 k (by omega)
   have rr:=ht ((t.getD i []).getD j 0).toNat (by omega)
   rw[my _ (by omega)]at hz
   refine⟨by omega,by omega,by omega,by omega,by omega,by omega,by omega,by omega,fun h8=>?_,fun h8=>⟨by omega,k+1,⟨by omega,by omega,?_⟩,by omega,by omega⟩⟩
   ·rw[hz,show iL t i j k=false from decide_eq_false h8];rfl
   ·rw[hz,show iL t i j k=true from decide_eq_true h8];rfl
  ·refine⟨by omega,j+1,⟨by omega,by omega,?_⟩,by omega,by omega⟩
   rw[hz,mz _ (by omega),Bool.true_and]
  ·refine⟨by omega,i+1,⟨by omega,h1,?_⟩,by omega,by omega⟩
   rw[hy,mz _ (by omega),Bool.true_and]
theorem ND:Fits Tryz.prog 98 ⟨[],xr⟩:=by
 refine aW (Γ:=ai E5) (az PW (az Qj aJ)) Tryz.func98 fun ds p h hp=>?_
 unfold xr at h;split at h
 ·cases h
  exact⟨aj,E4 _ ,by rw[NB];exact NC _  hp⟩
 ·cases h
def re(t:List (List Int)):Post:=⟨aY t,.c (.bool (ba t)),[]⟩
def xu:List AD->Option Post
 | [.c (.rows .i64 t)]=>some (re t)
 |_=>none
def E6(t:List (List Int)):Nat->Option Ann
 |0=>some (Ann.mk ((Nat)) (fun i=>⟨[(0,.c (.ro (.rows .i64 t))),(3,.c (.int .i64 ((i:Int))))],[]⟩) (fun i=>i<=t.length/\cd t=true/\ba t=(List.range' i (t.length-i)).all (fP t)) (fun i=>t.length-i) (fun i=>fun b_=>match b_ with|2=>some (Ann.mk ((Nat)) (fun j=>⟨[(0,.c (.ro (.rows .i64 t))),(3,.c (.int .i64 ((i:Int)))),(4,.c (.int .i64 ((j:Int))))],[]⟩) (fun j=>j<=t.length/\i<t.length/\ba t=((List.range' j (t.length-j)).all (gE t i)&&(List.range' (i+1) (t.length-(i+1))).all (fP t))) (fun j=>t.length-j) (fun j=>fun b_=>match b_ with|4=>some (Ann.mk ((Nat)) (fun k=>⟨[(0,.c (.ro (.rows .i64 t))),(3,.c (.int .i64 ((i:Int)))),(4,.c (.int .i64 ((j:Int)))),(5,.c (.int .i64 ((k:Int))))],[]⟩) (fun k=>k<=t.length/\j<t.length/\ba t=((List.range' k (t.length-k)).all (iL t i j)&&((List.range' (j+1) (t.length-(j+1))).all (gE t i)&&(List.range' (i+1) (t.length-(i+1))).all (fP t)))) (fun k=>t.length-k) (fun _=>ar))|_=>none))|_=>none))
 |_=>none
def E7:List (Nat×Ctr):=[(141,⟨[],yZ⟩),(131,⟨[],zk⟩)]
def rh(t:List (List Int))(x0:Nat)(x1:Nat)(x2:Nat):=(List.all (List.range' x0 (t.length-x0)) (iL t x1 x2)&&(List.all (List.range' (x2+(1:Nat)) (t.length-(x2+(1:Nat)))) (gE t x1)&&List.all (List.range' (x1+(1:Nat)) (t.length-(x1+(1:Nat)))) (fP t)))
def rn(t:List (List Int))(x0:Nat)(x1:Nat):=(List.all (List.range' x0 (t.length-x0)) (gE t x1)&&List.all (List.range' (x1+(1:Nat)) (t.length-(x1+(1:Nat)))) (fP t))
def ji(t:List (List Int))(x0:Nat):=(t.getD (↑x0:Int).toNat [])
def xv(t:List (List Int)):Prop :=
 ((aY t/\True)/\(af (!cd t) (false=ba t/\True) ((∃x0:Nat,(x0<=t.length/\cd t=true/\ba t=List.all (List.range' x0 (t.length-x0)) (fP t))/\t=t/\(0:Int)=(x0:Int))/\(∀x1:Nat,(x1<=t.length/\cd t=true/\ba t=List.all (List.range' x1 (t.length-x1)) (fP t)->(af (decide ((x1:Int)<(t.length:Int))) (ab (0:Int) t.length/\(ab (x1:Int) ((t.getD (0:Nat) []).length)/\(af ((List.getD t (0:Nat) []).getD (x1:Int).toNat (0:Int) != (x1:Int)) (false=ba t/\True) (ab (x1:Int) t.length/\(ab (0:Int) (ji t x1).length/\(af ((List.getD t (x1:Int).toNat []).getD (0:Nat) (0:Int) != (x1:Int)) (false=ba t/\True) (ab (x1:Int) t.length/\(((ji t x1).length<=(1099511627776:Nat)/\True)/\(af (!(decide ((1:Int)<=(↑((t.getD (x1:Int).toNat []).length):Int)/\(↑((t.getD (x1:Int).toNat []).length):Int)<=(12:Int))&&cH (t.getD (x1:Int).toNat []))) (false=ba t/\True) ((∃x2:Nat,(x2<=t.length/\x1<t.length/\ba t=(rn t x2 x1))/\t=t/\(x1:Int)=(x1:Int)/\(0:Int)=(x2:Int))/\(∀x3:Nat,(x3<=t.length/\x1<t.length/\ba t=(rn t x3 x1)->(af (decide ((x3:Int)<(t.length:Int))) ((∃x4:Nat,(x4<=t.length/\x3<t.length/\ba t=(rh t x4 x1 x3))/\t=t/\(x1:Int)=(x1:Int)/\(x3:Int)=(x3:Int)/\(0:Int)=(x4:Int))/\(∀x5:Nat,((x5<=t.length/\((x3<t.length) /\
 (ba t=(rh t x5 x1 x3))))->(af (decide ((x5:Int)<(t.length:Int))) ((ab (x1:Int) t.length)/\((ab (x3:Int) (ji t x1).length)/\((ab ((ji t x1).getD (x3:Int).toNat (0:Int)) t.length)/\((ab (x5:Int) ((t.getD (((ji t x1).getD (x3:Int).toNat (0:Int)).toNat) []).length))/\((ab (x1:Int) t.length)/\((ab (x3:Int) t.length)/\((ab (x5:Int) (ji t x3).length)/\((ab ((ji t x3).getD (x5:Int).toNat (0:Int)) (ji t x1).length)/\(af ((List.getD t ((List.getD (List.getD t (x1:Int).toNat []) (x3:Int).toNat (0:Int)).toNat) []).getD (x5:Int).toNat (0:Int) != (List.getD t (x1:Int).toNat []).getD (((List.getD t (x3:Int).toNat []).getD (x5:Int).toNat (0:Int)).toNat) (0:Int)) ((false=ba t)/\True) ((ae ((x5:Int)+(1:Int)))/\(∃x6:Nat,(((x6<=t.length)/\((x3<t.length)/\(ba t=(rh t x6 x1 x3))))/\((t.length-x6<t.length-x5)/\((t=t)/\(((x1:Int)=(x1:Int))/\(((x3:Int)=(x3:Int))/\((x5:Int)+(1:Int)=(x6:Int)))))))))))))))))) ((ae ((x3:Int)+(1:Int)))/\(∃x7:Nat,(((x7<=t.length)/\((x1<t.length)/\(ba t=(rn t x7 x1))))/\((t.length-x7<t.length-x3)/\((t=t)/\(((x1:Int)=(x1:Int))/\((x3:Int)+(1:Int)=(x7:Int)))))))))))) ((ae ((x1:Int)+(1:Int)))/\(∃x8:Nat,(((x8<=t.length)/\((cd t=true)/\(ba t=List.all (List.range' x8 (t.length-x8)) (fP t))))/\((t.length-x8<t.length-x1)/\((t=t)/\((x1:Int)+(1:Int)=(x8:Int))))))))))))))))))))
 ((true=ba t)/\True)))))))
theorem NE(t:List (List Int)):aP Tryz.prog (ai E7) aj (E6 t) Tryz.f94 (aF Tryz.f94) [] [.c (.rows .i64 t)] (re t)=xv t:=by kernel_rfl
theorem NF(t:List (List Int))(Yh:(re t).pre):xv t:=by
 simp only[re,xv,rh,rn,ji,aK,u1,u2,u3,u4,u5,u6,u7,u8,u9,v1,v2,v3,v4,v5,v6,v7,v8,v9,w1,w2,w3,w4,aC,ab,ae,ag,av]at Yh⊢;refine⟨Yh,fun h=>by simp[ba,h],fun h1=>⟨⟨0,⟨by omega,h1,by rw[Nx,h1,Bool.true_and,mA]⟩,rfl⟩,fun i ⟨hi,_,he⟩=>?_⟩⟩
 obtain⟨n1,n2,ht⟩:=mO h1;refine⟨fun h3=>?_,fun h3=>by rw[he,mz _ (by omega)]⟩
 have hr:=(ht i (by omega)).1
 have hd:decide (1<=((t.getD i []).length:Int)/\((t.getD i []).length:Int)<=12)=true:=decide_eq_true (by omega)
 have np:(decide (1<=((t.getD i []).length:Int)/\((t.getD i []).length:Int)<=12)&&cH (t.getD i []))=false->cH (t.getD i [])=false:=fun h=>by rwa[hd,Bool.true_and]at h
 have yp:(decide (1<=((t.getD i []).length:Int)/\((t.getD i []).length:Int)<=12)&&cH (t.getD i []))=true->cH (t.getD i [])=true:=fun h=>by rwa[hd,Bool.true_and]at h
 ·have r0:=ht 0 (by omega)
  have ri:=ht i (by omega)
  rw[my _ (by omega)]at he
  refine⟨by omega,by omega,fun h4=>?_,fun h4=>⟨by omega,by omega,fun h5=>?_,fun h5=>⟨by omega,by omega,fun hp=>?_,fun hp=>⟨⟨0,⟨by omega,by omega,?_⟩,rfl⟩,fun j ⟨hj,_,hy⟩=>⟨fun h6=>⟨⟨0,⟨by omega,by omega,?_⟩,rfl⟩,fun k ⟨hk,_,hz⟩=>⟨fun h7=>?_,fun h7=>?_⟩⟩,fun h6=>?_⟩⟩⟩⟩⟩
  ·rw[he,fP,iM,show decide (en t 0 i=(i:Int))=false from decide_eq_false h4];rfl
  ·rw[he,fP,iM,show decide (en t i 0=(i:Int))=false from decide_eq_false h5];simp
  ·rw[he,fP,show cH (t.getD i [])=false from np hp];simp
  ·rw[he,fP,iM,show decide (en t 0 i=(i:Int))=true from decide_eq_true h4,show decide (en t i 0=(i:Int))=true from decide_eq_true h5,show cH (t.getD i [])=true from yp hp,nU,mA];rfl
  ·rw[hy,my _ (by omega),gE,mA,Bool.and_assoc]
  ·have rj:=ht j (by omega)
   have a:=ri.2 j (by omega)
   have b:=rj.2 k (by omega)
   have rr:=ht ((t.getD i []).getD j 0).toNat (by omega)
   rw[my _ (by omega)]at hz
   refine⟨by omega,by omega,by omega,by omega,by omega,by omega,by omega,by omega,fun h8=>?_,fun h8=>⟨by omega,k+1,⟨by omega,by omega,?_⟩,by omega,by omega⟩⟩
   ·rw[hz,show iL t i j k=false from decide_eq_false h8];rfl
   ·rw[hz,show iL t i j k=true from decide_eq_true h8];rfl
  ·refine⟨by omega,j+1,⟨by omega,by omega,?_⟩,by omega,by omega⟩
   rw[hz,mz _ (by omega),Bool.true_and]
  ·refine⟨by omega,i+1,⟨by omega,h1,?_⟩,by omega,by omega⟩
   rw[hy,mz _ (by omega),Bool.true_and]
theorem NH:Fits Tryz.prog 94 ⟨[],xu⟩:=by
 refine aW (Γ:=ai E7) (az PJ (az P8 aJ)) Tryz.func94 fun ds p h hp=>?_
 unfold xu at h;split at h
 ·cases h
  exact⟨aj,E6 _ ,by rw[NE];exact NF _  hp⟩
 ·cases h
end Go.Sx
