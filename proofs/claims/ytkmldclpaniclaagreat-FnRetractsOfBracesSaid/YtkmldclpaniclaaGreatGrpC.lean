/- GrpC -/
import Derived.Test.YtkmldclpaniclaaGreatGrp
set_option linter.unusedSimpArgs false
set_option linter.unusedVariables false
set_option linter.defProp false
open Go Go.Proofs
namespace Go.Sx
def tg:List AD->Option Post
 | [.c (.ints .i64 l),.c (.int .i64 x)]=>some ⟨l.length<=1099511627776,.c (.int .i64 (bm x l 0)),[]⟩
 |_=>none
def KX(l:Db)(x:Int):Nat->Option Ann
 |0=>U' fun i=>⟨⟨[(0,G' l),(1,D' x),(6,G' l),(7,D' l.length),(8,D' i)],[]⟩,i<=l.length/\bm x l 0=bm x (l.drop i) (i:Int),l.length-i⟩
 |_=>none
theorem KZ:Fits Tryz.prog 179 ⟨[],tg⟩:=by
 refine ffv (Γ:=af []) aG Tryz.func179 fun ds p h ξ=>?_
 unfold tg at h;split at h<;>cases h
 rename_i l x
 refine⟨ah,KX l x,(∃x0:Nat,(x0<=l.length/\bm x l (0:Int)=bm x (List.drop x0 l) (x0:Int))/\l=l/\x=x/\l=l/\(l.length:Int)=(l.length:Int)/\(0:Int)=(x0:Int))/\∀x1:Nat,x1<=l.length/\bm x l (0:Int)=bm x (List.drop x1 l) (x1:Int)->ab (decide ((x1:Int)<(l.length:Int))) (aa (x1:Int) l.length/\ab (x == l.getD (x1:Int).toNat (0:Int)) ((x1:Int)=bm x l (0:Int)/\True) (ae ((x1:Int)+(1:Int))/\∃x2:Nat,(x2<=l.length/\bm x l (0:Int)=bm x (List.drop x2 l) (x2:Int))/\l.length-x2<l.length-x1/\l=l/\x=x/\l=l/\(l.length:Int)=(l.length:Int)/\(x1:Int)+(1:Int)=(x2:Int))) ((-1:Int)=bm x l (0:Int)/\True),by kernel_rfl,?_⟩
 simp only[aH]at ξ⊢;refine⟨⟨0,⟨by omega,rfl⟩,rfl⟩,fun i ⟨hi,he⟩=>⟨fun h=>?_,fun h=>?_⟩⟩
 ·rw[drop_cons' l 0 i (by omega)]at he
  simp only[bm]at he;refine⟨by omega,fun h2=>?_,fun h2=>⟨by omega,i+1,⟨by omega,?_⟩,by omega,by omega⟩⟩
  ·rw[he,AA h2.symm]
  ·rw[he,AB fun e=>h2 e.symm];simp
 ·rw[he,A4 (by omega)];rfl
def zK:List AD->Option Post
 | [.c (.ints .i64 l),.c (.int .i64 x)]=>some ⟨l.length<=1099511627776,.c (.int .i64 (bm x l 0)),[]⟩
 |_=>none
theorem TV:Fits Tryz.prog 158 ⟨[],zK⟩:=by
 refine ffv (Γ:=af [(179,⟨[],tg⟩)]) (aj KZ aG) Tryz.func158 fun ds p h ξ=>?_
 unfold zK at h;split at h<;>cases h
 rename_i l x
 refine⟨ah,ak,(l.length<=(1099511627776:Nat)/\True)/\bm x l (0:Int)=bm x l (0:Int)/\True,by kernel_rfl,?_⟩
 simp only[aH]at ξ⊢;exact ξ
def oh:List AD->Option Post
 | [.c (.rows .i64 t)]=>some ⟨aM t=true,.c (.ints 2 .i64 (bB t)),[]⟩
 |_=>none
def K1(t:Dc):Nat->Option Ann
 |0=>U' fun i=>⟨⟨[(0,I' t),(3,M' 8),(9,I' t),(10,D' t.length),(11,D' i)],[(8,Q' (((bB t).take i++List.replicate ((bB t).length-i) 0)))]⟩,i<=t.length,t.length-i⟩
 |_=>none
theorem tk:Fits Tryz.prog 114 ⟨[],oh⟩:=by
 refine ffv (Γ:=af [(158,⟨[],zK⟩)]) (aj TV aG) Tryz.func114 fun ds p h ξ=>?_
 unfold oh at h;split at h<;>cases h
 rename_i t
 refine⟨ah,K1 t,((0:Int)<=(t.length:Int)/\(t.length:Int)<=(t.length:Int)/\ar ((t.length:Int).toNat))/\(∃x0:Nat,x0<=t.length/\t=t/\t=t/\(t.length:Int)=(t.length:Int)/\(0:Int)=(x0:Int)/\List.replicate ((t.length:Int).toNat) (0:Int)=List.take x0 (bB t)++List.replicate ((bB t).length-x0) (0:Int))/\∀x1:Nat,x1<=t.length->ab (decide ((x1:Int)<(t.length:Int))) (aa (x1:Int) t.length/\((t.getD (x1:Int).toNat []).length<=(1099511627776:Nat)/\True)/\aa (x1:Int) ((List.take x1 (bB t)++List.replicate ((bB t).length-x1) (0:Int)).length)/\ae ((x1:Int)+(1:Int))/\∃x2:Nat,x2<=t.length/\t.length-x2<t.length-x1/\t=t/\t=t/\(t.length:Int)=(t.length:Int)/\(x1:Int)+(1:Int)=(x2:Int)/\List.set (List.take x1 (bB t)++List.replicate ((bB t).length-x1) (0:Int)) (x1:Int).toNat (bm (0:Int) (t.getD (x1:Int).toNat []) (0:Int))=List.take x2 (bB t)++List.replicate ((bB t).length-x2) (0:Int)) (List.take x1 (bB t)++List.replicate ((bB t).length-x1) (0:Int)=bB t/\True),by kernel_rfl,?_⟩
 simp only[aH]at ξ⊢;obtain⟨n1,n2,ht⟩:=bT ξ;have hl:=pM t
 rw[hl];refine⟨by omega,⟨0,by omega,rfl,by simp⟩,fun i hi=>⟨fun h=>?_,fun h=>?_⟩⟩
 ·have r:=ht i (by omega)
  have e:=pN t i (by omega)
  refine⟨by omega,by omega,by omega,by omega,i+1,by omega,by omega,by omega,?_⟩
  have:=yc (bB t) 0 0 i (by omega)
  rw[hl,e]at this;exact this
 ·rw[AU (by omega),show t.length-i=0 by omega];simp
def zN:List AD->Option Post
 | [.c (.rows .i64 t),.c (.int .i64 x)]=>some ⟨aM t=true/\0<=x/\x<=(t.length:Int)-1,.c (.int .i64 (bk t x.toNat)),[]⟩
 |_=>none
theorem T0:Fits Tryz.prog 156 ⟨[],zN⟩:=by
 refine ffv (Γ:=af [(211,⟨[],pZ⟩)]) (aj Ed aG) Tryz.func156 fun ds p h ξ=>?_
 unfold zN at h;split at h<;>cases h
 rename_i t x
 refine⟨ah,ak,aa x t.length/\((t.getD x.toNat []).length<=(1099511627776:Nat)/\True)/\bm (0:Int) (t.getD x.toNat []) (0:Int)=bk t x.toNat/\True,by kernel_rfl,?_⟩
 simp only[aH]at ξ⊢;obtain⟨h1,h2,h3⟩:=ξ;have r:=(bT h1).2.2 x.toNat (by omega)
 have:=(bT h1).2.1
 exact⟨by omega,by omega,rfl⟩
def tp(t:Dc):Post:=⟨aD t,.c (.bool (bd t)),[]⟩
def zP:List AD->Option Post
 | [.c (.rows .i64 t)]=>some (tp t)
 |_=>none
def K4(t:Dc):Nat->Option Ann
 |0=>V' (fun i=>⟨⟨[(0,I' t),(15,D' t.length),(16,D' i)],[]⟩,i<=t.length/\aM t=true/\bd t=(List.range' i (t.length-i)).all (fX t),t.length-i⟩) (fun i b_=>match b_ with|2=>V' (fun j=>⟨⟨[(0,I' t),(15,D' t.length),(16,D' i),(3,D' i),(38,D' t.length),(39,D' j)],[]⟩,j<=t.length/\i<t.length/\bd t=((List.range' j (t.length-j)).all (gW t i)&&(List.range' (i+1) (t.length-(i+1))).all (fX t)),t.length-j⟩) (fun j b_=>match b_ with|4=>U' fun k=>⟨⟨[(0,I' t),(15,D' t.length),(16,D' i),(3,D' i),(38,D' t.length),(39,D' j),(4,D' j),(43,D' t.length),(44,D' k)],[]⟩,k<=t.length/\j<t.length/\bd t=((List.range' k (t.length-k)).all (jG t i j)&&((List.range' (j+1) (t.length-(j+1))).all (gW t i)&&(List.range' (i+1) (t.length-(i+1))).all (fX t))),t.length-k⟩|_=>none)|_=>none)
 |_=>none
def K5:List (Nat×Ctr):=[(145,⟨[],yu⟩),(146,⟨[],ul⟩)]
def tq(t:Dc)(x0:Nat)(x1:Nat)(x2:Nat):=(List.all (List.range' x0 (t.length-x0)) (jG t x1 x2)&&(List.all (List.range' (x2+(1:Nat)) (t.length-(x2+(1:Nat)))) (gW t x1)&&List.all (List.range' (x1+(1:Nat)) (t.length-(x1+(1:Nat)))) (fX t)))
def tt(t:Dc)(x0:Nat)(x1:Nat):=(List.all (List.range' x0 (t.length-x0)) (gW t x1)&&List.all (List.range' (x1+(1:Nat)) (t.length-(x1+(1:Nat)))) (fX t))
def zQ(t:Dc):Prop :=
 (((aD t)/\True)/\(ab (!aM t) ((false=bd t)/\True) (((aD t)/\True)/\(ab (!List.all t cB) ((false=bd t)/\True) ((∃x0:Nat,(((x0<=t.length)/\((aM t=true)/\(bd t=List.all (List.range' x0 (t.length-x0)) (fX t))))/\((t=t)/\(((↑(t.length):Int)=(↑(t.length):Int))/\((0:Int)=(↑x0:Int))))))/\(∀x1:Nat,(((x1<=t.length)/\((aM t=true)/\(bd t=List.all (List.range' x1 (t.length-x1)) (fX t))))->(ab (decide ((↑x1:Int)<(↑(t.length):Int))) ((aa (0:Int) t.length)/\((aa (↑x1:Int) ((t.getD (0:Nat) []).length))/\(ab ((List.getD t (0:Nat) []).getD (↑x1:Int).toNat (0:Int) != (↑x1:Int)) ((false=bd t)/\True) ((aa (↑x1:Int) t.length)/\((aa (0:Int) ((t.getD (↑x1:Int).toNat []).length))/\(ab ((List.getD t (↑x1:Int).toNat []).getD (0:Nat) (0:Int) != (↑x1:Int)) ((false=bd t)/\True) ((∃x2:Nat,(((x2<=t.length)/\((x1<t.length)/\(bd t=(tt t x2 x1))))/\((t=t)/\(((↑(t.length):Int)=(↑(t.length):Int))/\(((↑x1:Int)=(↑x1:Int))/\(((↑x1:Int)=(↑x1:Int))/\(((↑(t.length):Int)=(↑(t.length):Int))/\((0:Int)=(↑x2:Int)))))))))/\(∀x3:Nat,(((x3<=t.length)/\((x1<t.length)/\(bd t=(tt t x3 x1))))->(ab (decide ((↑x3:Int)<(↑(t.length):Int))) ((∃x4:Nat,(((x4<=t.length)/\((x3<t.length)/\(bd t=(tq t x4 x1 x3))))/\((t=t)/\(((↑(t.length):Int)=(↑(t.length):Int))/\(((↑x1:Int)=(↑x1:Int))/\(((↑x1:Int)=(↑x1:Int))/\(((↑(t.length):Int)=(↑(t.length):Int))/\(((↑x3:Int)=(↑x3:Int)) /\
 (((↑x3:Int)=(↑x3:Int))/\(((↑(t.length):Int)=(↑(t.length):Int))/\((0:Int)=(↑x4:Int))))))))))))/\(∀x5:Nat,(((x5<=t.length)/\((x3<t.length)/\(bd t=(tq t x5 x1 x3))))->(ab (decide ((↑x5:Int)<(↑(t.length):Int))) ((aa (↑x1:Int) t.length)/\((aa (↑x3:Int) ((t.getD (↑x1:Int).toNat []).length))/\((aa ((List.getD t (↑x1:Int).toNat []).getD (↑x3:Int).toNat (0:Int)) t.length)/\((aa (↑x5:Int) ((t.getD (((List.getD t (↑x1:Int).toNat []).getD (↑x3:Int).toNat (0:Int)).toNat) []).length))/\((aa (↑x1:Int) t.length)/\((aa (↑x3:Int) t.length)/\((aa (↑x5:Int) ((t.getD (↑x3:Int).toNat []).length))/\((aa ((List.getD t (↑x3:Int).toNat []).getD (↑x5:Int).toNat (0:Int)) ((t.getD (↑x1:Int).toNat []).length))/\(ab ((List.getD t ((List.getD (List.getD t (↑x1:Int).toNat []) (↑x3:Int).toNat (0:Int)).toNat) []).getD (↑x5:Int).toNat (0:Int) != (List.getD t (↑x1:Int).toNat []).getD (((List.getD t (↑x3:Int).toNat []).getD (↑x5:Int).toNat (0:Int)).toNat) (0:Int)) ((false=bd t)/\True) ((ae ((↑x5:Int)+(1:Int)))/\(∃x6:Nat,(((x6<=t.length)/\((x3<t.length)/\(bd t=(tq t x6 x1 x3))))/\((t.length-x6<t.length-x5)/\((t=t)/\(((↑(t.length):Int)=(↑(t.length):Int))/\(((↑x1:Int)=(↑x1:Int))/\(((↑x1:Int)=(↑x1:Int))/\(((↑(t.length):Int)=(↑(t.length):Int))/\(((↑x3:Int)=(↑x3:Int))/\(((↑x3:Int)=(↑x3:Int))/\(((↑(t.length):Int)=(↑(t.length):Int))/\((↑x5:Int)+(1:Int)=(↑x6:Int)))))))))))))))))))))))
 ((ae ((↑x3:Int)+(1:Int)))/\(∃x7:Nat,(((x7<=t.length)/\((x1<t.length)/\(bd t=(tt t x7 x1))))/\((t.length-x7<t.length-x3)/\((t=t)/\(((↑(t.length):Int)=(↑(t.length):Int))/\(((↑x1:Int)=(↑x1:Int))/\(((↑x1:Int)=(↑x1:Int))/\(((↑(t.length):Int)=(↑(t.length):Int))/\((↑x3:Int)+(1:Int)=(↑x7:Int))))))))))))))) ((ae ((↑x1:Int)+(1:Int)))/\(∃x8:Nat,(((x8<=t.length)/\((aM t=true)/\(bd t=List.all (List.range' x8 (t.length-x8)) (fX t))))/\((t.length-x8<t.length-x1)/\((t=t)/\(((↑(t.length):Int)=(↑(t.length):Int))/\((↑x1:Int)+(1:Int)=(↑x8:Int)))))))))))))))))) ((true=bd t)/\True)))))))))
theorem T3(t:Dc):aE Tryz.prog (af K5) ah (K4 t) Tryz.f98 (aF Tryz.f98) [] [.c (.rows .i64 t)] (tp t)=zQ t:=by kernel_rfl
theorem T5(t:Dc)(ξ:(tp t).pre):zQ t:=by
 simp only[tp,zQ,tq,tt,aH]at ξ⊢;refine⟨ξ,fun h=>by simp[bd,h],fun h1=>⟨ξ,fun h2=>by simp[bd,h2],fun h2=>⟨⟨0,⟨by omega,h1,by rw[bd,h1,h2,Ac,Ac,mw]⟩,rfl⟩,fun i ⟨hi,_,he⟩=>?_⟩⟩⟩
 obtain⟨n1,n2,ht⟩:=bT h1;refine⟨fun h3=>?_,fun h3=>by rw[he,mr _ (by omega)]⟩
 ·have r0:=ht 0 (by omega)
  have ri:=ht i (by omega)
  rw[mq _ (by omega)]at he
  refine⟨by omega,by omega,fun h4=>?_,fun h4=>⟨by omega,by omega,fun h5=>?_,fun h5=>⟨⟨0,⟨by omega,by omega,?_⟩,rfl⟩,fun j ⟨hj,_,hy⟩=>⟨fun h6=>⟨⟨0,⟨by omega,by omega,?_⟩,rfl⟩,fun k ⟨hk,_,hz⟩=>⟨fun h7=>?_,fun h7=>?_⟩⟩,fun h6=>?_⟩⟩⟩⟩
  ·rw[he,fX,gX,show decide (en t 0 i=(i:Int))=false from AZ h4];rfl
  ·rw[he,fX,gX,show decide (en t i 0=(i:Int))=false from AZ h5];simp
  ·rw[he,fX,gX,show decide (en t 0 i=(i:Int))=true from AY h4,show decide (en t i 0=(i:Int))=true from AY h5,my,mw];rfl
  ·rw[hy,mq _ (by omega),gW,mw,Bool.and_assoc]
  ·have rj:=ht j (by omega)
   have a:=ri.2 j (by omega)
   have b:=rj.2 k (by omega)
   have rr:=ht ((t.getD i []).getD j 0).toNat (by omega)
   rw[mq _ (by omega)]at hz
   refine⟨by omega,by omega,by omega,by omega,by omega,by omega,by omega,by omega,fun h8=>?_,fun h8=>⟨by omega,k+1,⟨by omega,by omega,?_⟩,by omega,by omega⟩⟩
   ·rw[hz,show jG t i j k=false from AZ h8];rfl
   ·rw[hz,show jG t i j k=true from AY h8];rfl
  ·refine⟨by omega,j+1,⟨by omega,by omega,?_⟩,by omega,by omega⟩
   rw[hz,mr _ (by omega),Ac]
  ·refine⟨by omega,i+1,⟨by omega,h1,?_⟩,by omega,by omega⟩
   rw[hy,mr _ (by omega),Ac]
theorem T6:Fits Tryz.prog 98 ⟨[],zP⟩:=by
 refine aI (Γ:=af K5) (aj RE (aj Ma aG)) Tryz.func98 fun ds p h hp=>?_
 unfold zP at h;split at h
 ·cases h
  exact⟨ah,K4 _ ,by rw[T3];exact T5 _  hp⟩
 ·cases h
def tu(t:Dc):Post:=⟨aD t,.c (.bool (bd t)),[]⟩
def zR:List AD->Option Post
 | [.c (.rows .i64 t)]=>some (tu t)
 |_=>none
def K6(t:Dc):Nat->Option Ann
 |0=>V' (fun i=>⟨⟨[(0,I' t),(3,D' i)],[]⟩,i<=t.length/\aM t=true/\bd t=(List.range' i (t.length-i)).all (gB t),t.length-i⟩) (fun i b_=>match b_ with|2=>V' (fun j=>⟨⟨[(0,I' t),(3,D' i),(4,D' j)],[]⟩,j<=t.length/\i<t.length/\bd t=((List.range' j (t.length-j)).all (gW t i)&&(List.range' (i+1) (t.length-(i+1))).all (gB t)),t.length-j⟩) (fun j b_=>match b_ with|4=>U' fun k=>⟨⟨[(0,I' t),(3,D' i),(4,D' j),(5,D' k)],[]⟩,k<=t.length/\j<t.length/\bd t=((List.range' k (t.length-k)).all (jG t i j)&&((List.range' (j+1) (t.length-(j+1))).all (gW t i)&&(List.range' (i+1) (t.length-(i+1))).all (gB t))),t.length-k⟩|_=>none)|_=>none)
 |_=>none
def K7:List (Nat×Ctr):=[(141,⟨[],Ja⟩),(131,⟨[],uh⟩)]
def tv(t:Dc)(x0:Nat)(x1:Nat)(x2:Nat):=(List.all (List.range' x0 (t.length-x0)) (jG t x1 x2)&&(List.all (List.range' (x2+(1:Nat)) (t.length-(x2+(1:Nat)))) (gW t x1)&&List.all (List.range' (x1+(1:Nat)) (t.length-(x1+(1:Nat)))) (gB t)))
def tw(t:Dc)(x0:Nat)(x1:Nat):=(List.all (List.range' x0 (t.length-x0)) (gW t x1)&&List.all (List.range' (x1+(1:Nat)) (t.length-(x1+(1:Nat)))) (gB t))
def kz(t:Dc)(x0:Nat):=(t.getD (↑x0:Int).toNat [])
def zS(t:Dc):Prop :=
 (((aD t)/\True)/\(ab (!aM t) ((false=bd t)/\True) ((∃x0:Nat,(((x0<=t.length)/\((aM t=true)/\(bd t=List.all (List.range' x0 (t.length-x0)) (gB t))))/\((t=t)/\((0:Int)=(↑x0:Int)))))/\(∀x1:Nat,(((x1<=t.length)/\((aM t=true)/\(bd t=List.all (List.range' x1 (t.length-x1)) (gB t))))->(ab (decide ((↑x1:Int)<(↑(t.length):Int))) ((aa (0:Int) t.length)/\((aa (↑x1:Int) ((t.getD (0:Nat) []).length))/\(ab ((List.getD t (0:Nat) []).getD (↑x1:Int).toNat (0:Int) != (↑x1:Int)) ((false=bd t)/\True) ((aa (↑x1:Int) t.length)/\((aa (0:Int) (kz t x1).length)/\(ab ((List.getD t (↑x1:Int).toNat []).getD (0:Nat) (0:Int) != (↑x1:Int)) ((false=bd t)/\True) ((aa (↑x1:Int) t.length)/\((((kz t x1).length<=(1099511627776:Nat))/\True)/\(ab (!(decide ((1:Int)<=(↑((t.getD (↑x1:Int).toNat []).length):Int)/\(↑((t.getD (↑x1:Int).toNat []).length):Int)<=(12:Int))&&cB (t.getD (↑x1:Int).toNat []))) ((false=bd t)/\True) ((∃x2:Nat,(((x2<=t.length)/\((x1<t.length)/\(bd t=(tw t x2 x1))))/\((t=t)/\(((↑x1:Int)=(↑x1:Int))/\((0:Int)=(↑x2:Int))))))/\(∀x3:Nat,(((x3<=t.length)/\((x1<t.length)/\(bd t=(tw t x3 x1))))->(ab (decide ((↑x3:Int)<(↑(t.length):Int))) ((∃x4:Nat,(((x4<=t.length)/\((x3<t.length)/\(bd t=(tv t x4 x1 x3))))/\((t=t)/\(((↑x1:Int)=(↑x1:Int))/\(((↑x3:Int)=(↑x3:Int))/\((0:Int)=(↑x4:Int)))))))/\(∀x5:Nat,(((x5<=t.length)/\((x3<t.length) /\
 (bd t=(tv t x5 x1 x3))))->(ab (decide ((↑x5:Int)<(↑(t.length):Int))) ((aa (↑x1:Int) t.length)/\((aa (↑x3:Int) (kz t x1).length)/\((aa ((kz t x1).getD (↑x3:Int).toNat (0:Int)) t.length)/\((aa (↑x5:Int) ((t.getD (((kz t x1).getD (↑x3:Int).toNat (0:Int)).toNat) []).length))/\((aa (↑x1:Int) t.length)/\((aa (↑x3:Int) t.length)/\((aa (↑x5:Int) (kz t x3).length)/\((aa ((kz t x3).getD (↑x5:Int).toNat (0:Int)) (kz t x1).length)/\(ab ((List.getD t ((List.getD (List.getD t (↑x1:Int).toNat []) (↑x3:Int).toNat (0:Int)).toNat) []).getD (↑x5:Int).toNat (0:Int) != (List.getD t (↑x1:Int).toNat []).getD (((List.getD t (↑x3:Int).toNat []).getD (↑x5:Int).toNat (0:Int)).toNat) (0:Int)) ((false=bd t)/\True) ((ae ((↑x5:Int)+(1:Int)))/\(∃x6:Nat,(((x6<=t.length)/\((x3<t.length)/\(bd t=(tv t x6 x1 x3))))/\((t.length-x6<t.length-x5)/\((t=t)/\(((↑x1:Int)=(↑x1:Int))/\(((↑x3:Int)=(↑x3:Int))/\((↑x5:Int)+(1:Int)=(↑x6:Int)))))))))))))))))) ((ae ((↑x3:Int)+(1:Int)))/\(∃x7:Nat,(((x7<=t.length)/\((x1<t.length)/\(bd t=(tw t x7 x1))))/\((t.length-x7<t.length-x3)/\((t=t)/\(((↑x1:Int)=(↑x1:Int))/\((↑x3:Int)+(1:Int)=(↑x7:Int)))))))))))) ((ae ((↑x1:Int)+(1:Int)))/\(∃x8:Nat,(((x8<=t.length)/\((aM t=true)/\(bd t=List.all (List.range' x8 (t.length-x8)) (gB t))))/\((t.length-x8<t.length-x1)/\((t=t)/\((↑x1:Int)+(1:Int)=(↑x8:Int))))))))))))))))))))
 ((true=bd t)/\True)))))))
theorem T7(t:Dc):aE Tryz.prog (af K7) ah (K6 t) Tryz.f94 (aF Tryz.f94) [] [.c (.rows .i64 t)] (tu t)=zS t:=by kernel_rfl
theorem T8(t:Dc)(ξ:(tu t).pre):zS t:=by
 simp only[tu,zS,tv,tw,kz,aH]at ξ⊢;refine⟨ξ,fun h=>by simp[bd,h],fun h1=>⟨⟨0,⟨by omega,h1,by rw[TO,h1,Ac,mw]⟩,rfl⟩,fun i ⟨hi,_,he⟩=>?_⟩⟩
 obtain⟨n1,n2,ht⟩:=bT h1;refine⟨fun h3=>?_,fun h3=>by rw[he,mr _ (by omega)]⟩
 have hr:=(ht i (by omega)).1
 have hd:decide (1<=((t.getD i []).length:Int)/\((t.getD i []).length:Int)<=12)=true:=AY (by omega)
 have np:(decide (1<=((t.getD i []).length:Int)/\((t.getD i []).length:Int)<=12)&&cB (t.getD i []))=false->cB (t.getD i [])=false:=fun h=>by rwa[hd,Ac]at h
 have yp:(decide (1<=((t.getD i []).length:Int)/\((t.getD i []).length:Int)<=12)&&cB (t.getD i []))=true->cB (t.getD i [])=true:=fun h=>by rwa[hd,Ac]at h
 ·have r0:=ht 0 (by omega)
  have ri:=ht i (by omega)
  rw[mq _ (by omega)]at he
  refine⟨by omega,by omega,fun h4=>?_,fun h4=>⟨by omega,by omega,fun h5=>?_,fun h5=>⟨by omega,by omega,fun hp=>?_,fun hp=>⟨⟨0,⟨by omega,by omega,?_⟩,rfl⟩,fun j ⟨hj,_,hy⟩=>⟨fun h6=>⟨⟨0,⟨by omega,by omega,?_⟩,rfl⟩,fun k ⟨hk,_,hz⟩=>⟨fun h7=>?_,fun h7=>?_⟩⟩,fun h6=>?_⟩⟩⟩⟩⟩
  ·rw[he,gB,gX,show decide (en t 0 i=(i:Int))=false from AZ h4];rfl
  ·rw[he,gB,gX,show decide (en t i 0=(i:Int))=false from AZ h5];simp
  ·rw[he,gB,show cB (t.getD i [])=false from np hp];simp
  ·rw[he,gB,gX,show decide (en t 0 i=(i:Int))=true from AY h4,show decide (en t i 0=(i:Int))=true from AY h5,show cB (t.getD i [])=true from yp hp,my,mw];rfl
  ·rw[hy,mq _ (by omega),gW,mw,Bool.and_assoc]
  ·have rj:=ht j (by omega)
   have a:=ri.2 j (by omega)
   have b:=rj.2 k (by omega)
   have rr:=ht ((t.getD i []).getD j 0).toNat (by omega)
   rw[mq _ (by omega)]at hz
   refine⟨by omega,by omega,by omega,by omega,by omega,by omega,by omega,by omega,fun h8=>?_,fun h8=>⟨by omega,k+1,⟨by omega,by omega,?_⟩,by omega,by omega⟩⟩
   ·rw[hz,show jG t i j k=false from AZ h8];rfl
   ·rw[hz,show jG t i j k=true from AY h8];rfl
  ·refine⟨by omega,j+1,⟨by omega,by omega,?_⟩,by omega,by omega⟩
   rw[hz,mr _ (by omega),Ac]
  ·refine⟨by omega,i+1,⟨by omega,h1,?_⟩,by omega,by omega⟩
   rw[hy,mr _ (by omega),Ac]
theorem T9:Fits Tryz.prog 94 ⟨[],zR⟩:=by
 refine aI (Γ:=af K7) (aj an1 (aj LZ aG)) Tryz.func94 fun ds p h hp=>?_
 unfold zR at h;split at h
 ·cases h
  exact⟨ah,K6 _ ,by rw[T7];exact T8 _  hp⟩
 ·cases h
end Go.Sx
