/- Join -/
import Derived.Test.YtkmldclpaniclaaGreatCirB
import Derived.Test.YtkmldclpaniclaaGreatActP
import Derived.Test.YtkmldclpaniclaaGreatGrp
import Derived.Test.YtkmldclpaniclaaGreatBrcC
import Derived.Test.YtkmldclpaniclaaGreatRows
import Derived.JoinedOf
import Derived.KernelRfl
set_option linter.unusedSimpArgs false
set_option linter.unusedVariables false
section
open Go Go.Proofs
namespace Go.Sx
theorem O8{t A:V8}{K:V7}(h:(dP t A K).2=true):c6 t A K=some (dP t A K).1:=by
 unfold dP at h⊢;cases e:c6 t A K with
 |none=>rw[e]at h;cases h
 |some x=>rfl
theorem O9{t A:V8}{K:V7}(h:(dP t A K).2=false):c6 t A K=none:=by
 unfold dP at h;cases e:c6 t A K with
 |none=>rfl
 |some x=>rw[e]at h;cases h
theorem Pa{t A:V8}{rec:V7->V9->V9}{K K':V7}{i:Nat}{o:V9}(h:c6 t A (K.set (aC K) (i:Int))=some K'):dj t A rec K i o=rec K' o:=by unfold dj;rw[h]
theorem Pb{t A:V8}{rec:V7->V9->V9}{K:V7}{i:Nat}{o:V9}(h:c6 t A (K.set (aC K) (i:Int))=none):dj t A rec K i o=o:=by unfold dj;rw[h]
theorem Gf{n:Nat}{t A:V8}(ht:ay n t)(hA:AuOk n A){K:V7}(hK:KOk n A.length K)(hp:aC K=K.length):ay n (bJ t A K):=by
 refine⟨by simp[bJ,ht.1],fun x hx=>?_⟩
 have hk:=qO K hp x (by rw[hK.len];exact hx)
 have hr:=hK.rng x hx
 have row:(bJ t A K).getD x []=aY (A.getD (K.getD x 0).toNat []) (t.getD x []):=by
  rw[bJ];simp[List.getD_eq_getElem?_getD,ht.1,hx]
 have L:=hA.len (K.getD x 0).toNat (by omega)
 refine⟨by rw[row,aY,List.length_map,L],fun y hy=>?_⟩
 have r:=hA.rng (K.getD x 0).toNat y (by omega) hy
 have v:=(ht.2 x hx).2 (en A (K.getD x 0).toNat y).toNat (by omega)
 have:en (bJ t A K) x y=en t x (en A (K.getD x 0).toNat y).toNat:=by
  unfold en at *;rw[row,aY,mF _ _ 0 0 _ (by omega)]
 rw[this];exact v
theorem Gg{n:Nat}{t:V8}(h:ay n t)(hn:n<=12):aM t:=⟨by rw[h.1];omega,fun r hr=>by
 obtain⟨x,hx,rfl⟩:=List.getElem_of_mem hr;have:=(h.2 x (by rw[h.1]at hx;exact hx)).1
 rw[bF t [] x hx]at this;omega⟩
def mY(d:Nat)(t:V8)(A:V8)(K:V7)(out:V9):Post:=⟨aA K<d/\t.length<=12/\ay t.length t/\AuOk t.length A/\A.length<=100/\KOk t.length A.length K/\(∀c,c∈out->ay t.length c)/\out.length+100 ^ aA K<=1099511627775,.c (.ro (.r3 .i64 ((cH t A d K out)))),[]⟩
def oE(d:Nat):List AD->Option Post
 | [.c (.rows .i64 t),.c (.rows .i64 A),.c (.ints .i64 K),.c (.r3 .i64 out)]=>some (mY d t A K out)
 |_=>none
def Gh(d:Nat)(t:V8)(A:V8)(K:V7)(out:V9):Nat->Option Ann
 |0=>some (Ann.mk ((Nat)) (fun x=>⟨[(0,.c (.ro (.rows .i64 t))),(1,.c (.ro (.rows .i64 A))),(2,.c (.ro (.ints .i64 K))),(3,.c (.ro (.r3 .i64 out))),(9,.c (.int .i64 ((x:Int))))],[]⟩) (fun x=>x<=K.length/\(∀j,j<x->0<=K.getD j 0)) (fun x=>K.length-x) (fun _=>am))
 |1004=>some (Ann.mk ((Unit)) (fun u=>⟨[(0,.c (.ro (.rows .i64 t))),(1,.c (.ro (.rows .i64 A))),(2,.c (.ro (.ints .i64 K))),(3,.c (.ro (.r3 .i64 out))),(9,.c (.int .i64 ((aC K:Int))))],[]⟩) (fun u=>True) (fun u=>0) (fun u=>fun b_=>match b_ with|2=>some (Ann.mk ((Nat)) (fun y=>⟨[(0,.c (.ro (.rows .i64 t))),(1,.c (.ro (.rows .i64 A))),(2,.c (.ro (.ints .i64 K))),(3,.c (.ro (.r3 .i64 out))),(9,.c (.int .i64 ((aC K:Int)))),(10,.c (.own 10)),(11,.c (.int .i64 ((y:Int))))],[(10,some (.rows 0 62 2 .i64 ((List.range y).map fun y=>aY (A.getD (K.getD y 0).toNat []) (t.getD y []))))]⟩) (fun y=>y<=t.length/\aC K=K.length) (fun y=>t.length-y) (fun _=>am))|4=>some (Ann.mk ((Nat)) (fun j=>⟨[(0,.c (.ro (.rows .i64 t))),(1,.c (.ro (.rows .i64 A))),(2,.c (.ro (.ints .i64 K))),(3,.c (.ro (.r3 .i64 out))),(9,.c (.int .i64 ((aC K:Int)))),(10,.c (.ro (.rows .i64 (bJ t A K)))),(12,.c (.int .i64 ((j:Int))))],[]⟩) (fun j=>j<=out.length/\aC K=K.length/\(∀j1,j1<j->bD (out.getD j1 []) (bJ t A K)=true)) (fun j=>out.length-j) (fun _=>am))|1013=>some (Ann.mk ((Unit)) (fun u=>⟨[(3,.c (.ro (.r3 .i64 out))),(10,.c (.ro (.rows .i64 (bJ t A K)))),(12,.c (.int .i64 ((cu (bJ t A K) out:Int))))],[]⟩) (fun u=>aC K=K.length) (fun u=>0) (fun _=>am))|6=>some (Ann.mk ((Nat)) (fun i=>⟨[(0,.c (.ro (.rows .i64 t))),(1,.c (.ro (.rows .i64 A))),(2,.c (.ro (.ints .i64 K))),(3,.c (.ro (.r3 .i64 (dG (dj t A (cH t A (d-1)) K) out i)))),(9,.c (.int .i64 ((aC K:Int)))),(14,.c (.int .i64 ((i:Int))))],[]⟩) (fun i=>i<=A.length/\aC K≠K.length) (fun i=>A.length-i) (fun _=>am))|_=>none))
 |_=>none
def Gi(d:Nat):List (Nat×Ctr):=[(189,⟨[],qK⟩),(142,⟨[],rq⟩),(144,⟨[],m8⟩),(190,⟨[],wE⟩),(136,⟨[],oE d⟩)]
def xW(d:Nat)(t:V8)(A:V8)(K:V7)(out:V9):Prop :=
 (((∃x0:Nat,(x0<=K.length/\∀(j:Nat),j<x0->(0:Int)<=K.getD j (0:Int))/\t=t/\A=A/\K=K/\out=out/\(0:Int)=(x0:Int))/\∀x1:Nat,(x1<=K.length/\∀(j:Nat),j<x1->(0:Int)<=K.getD j (0:Int))->ae (decide ((x1:Int)<(K.length:Int))) (aa (x1:Int) K.length/\ae (decide ((0:Int)<=K.getD (x1:Int).toNat (0:Int))) (ac ((x1:Int)+(1:Int))/\∃x2:Nat,(x2<=K.length/\∀(j:Nat),j<x2->(0:Int)<=K.getD j (0:Int))/\K.length-x2<K.length-x1/\t=t/\A=A/\K=K/\out=out/\(x1:Int)+(1:Int)=(x2:Int)) (∃x3:Unit,True/\t=t/\A=A/\K=K/\out=out/\(x1:Int)=(aC K:Int))) (∃x4:Unit,True/\t=t/\A=A/\K=K/\out=out/\(x1:Int)=(aC K:Int)))/\(∀x5:Unit,(True->(ae ((aC K:Int) == (K.length:Int)) ((∃x6:Nat,(x6<=t.length/\aC K=K.length)/\t=t/\A=A/\K=K/\out=out/\(aC K:Int)=(aC K:Int)/\(0:Int)=(x6:Int)/\([]:V8)=List.map (fun(y:Nat)=>aY (A.getD ((K.getD y (0:Int)).toNat) []) (t.getD y [])) (List.range x6))/\(∀x7:Nat,(x7<=t.length/\aC K=K.length->(ae (decide ((x7:Int)<(t.length:Int))) (aa (x7:Int) K.length/\(aa (K.getD (x7:Int).toNat (0:Int)) A.length/\(aa (x7:Int) t.length/\((((af ((A.getD ((K.getD (x7:Int).toNat (0:Int)).toNat) []).length)) /\
 (iS ((t.getD (x7:Int).toNat []).length) (A.getD ((K.getD (x7:Int).toNat (0:Int)).toNat) [])))/\True)/\((af ((List.map (fun(y:Nat)=>aY (A.getD ((K.getD y (0:Int)).toNat) []) (t.getD y [])) (List.range x7)).length+(aY (A.getD ((K.getD (x7:Int).toNat (0:Int)).toNat) []) (t.getD (x7:Int).toNat [])::([]:V8)).length))/\((ac ((x7:Int)+(1:Int)))/\(∃x8:Nat,(((x8<=t.length)/\(aC K=K.length))/\((t.length-x8<t.length-x7)/\((t=t)/\((A=A)/\((K=K)/\((out=out)/\(((aC K:Int)=(aC K:Int))/\(((x7:Int)+(1:Int)=(x8:Int))/\(List.map (fun(y:Nat)=>aY (A.getD ((K.getD y (0:Int)).toNat) []) (t.getD y [])) (List.range x7)++aY (A.getD ((K.getD (x7:Int).toNat (0:Int)).toNat) []) (t.getD (x7:Int).toNat [])::([]:V8)=List.map (fun(y:Nat)=>aY (A.getD ((K.getD y (0:Int)).toNat) []) (t.getD y [])) (List.range x8))))))))))))))))) (((∃x9:Nat,(((x9<=out.length)/\((aC K=K.length)/\(∀(j1:Nat),j1<x9->bD (out.getD j1 ([]:V8)) (bJ t A K)=true)))/\((t=t)/\((A=A)/\((K=K)/\((out=out)/\(((aC K:Int)=(aC K:Int))/\((List.map (fun(y:Nat)=>aY (A.getD ((K.getD y (0:Int)).toNat) []) (t.getD y [])) (List.range x7)=bJ t A K)/\((0:Int)=(x9:Int))))))))))/\(∀x10:Nat,(((x10<=out.length)/\((aC K=K.length)/\(∀(j1:Nat),j1<x10->bD (out.getD j1 ([]:V8)) (bJ t A K)=true)))->(ae (decide ((x10:Int)<(out.length:Int)))
 ((aa (x10:Int) out.length)/\((((aM (out.getD (x10:Int).toNat ([]:V8)))/\((aM (bJ t A K))/\((out.getD (x10:Int).toNat ([]:V8)).length=(bJ t A K).length)))/\True)/\(ae (bD (out.getD (x10:Int).toNat ([]:V8)) (bJ t A K)) ((ac ((x10:Int)+(1:Int)))/\(∃x11:Nat,(((x11<=out.length)/\((aC K=K.length)/\(∀(j1:Nat),j1<x11->bD (out.getD j1 ([]:V8)) (bJ t A K)=true)))/\((out.length-x11<out.length-x10)/\((t=t)/\((A=A)/\((K=K)/\((out=out)/\(((aC K:Int)=(aC K:Int))/\((bJ t A K=bJ t A K)/\((x10:Int)+(1:Int)=(x11:Int)))))))))))) (∃x12:Unit,((aC K=K.length)/\((out=out)/\((bJ t A K=bJ t A K)/\((x10:Int)=(↑(cu (bJ t A K) out):Int))))))))) (∃x13:Unit,((aC K=K.length)/\((out=out)/\((bJ t A K=bJ t A K)/\((x10:Int)=(↑(cu (bJ t A K) out):Int))))))))))/\(∀x14:Unit,((aC K=K.length)->((ar out.length (Option.some (↑(cu (bJ t A K) out):Int)) Option.none)/\((af (FC.len (FC.r3 IntKind.i64 (bJ t A K::([]:V9)))+FC.len (FC.r3 IntKind.i64 (dr out (Option.some (↑(cu (bJ t A K) out):Int)) Option.none))))/\((ar out.length Option.none (Option.some (↑(cu (bJ t A K) out):Int)))/\((af (FC.len (FC.r3 IntKind.i64 ([]:V9))+FC.len (FC.r3 IntKind.i64 (dr out Option.none (Option.some (↑(cu (bJ t A K) out):Int)))))) /\
 ((af (FC.len (FC.r3 IntKind.i64 (([]:V9)++dr out Option.none (Option.some (↑(cu (bJ t A K) out):Int))))+FC.len (FC.r3 IntKind.i64 (bJ t A K::([]:V9)++dr out (Option.some (↑(cu (bJ t A K) out):Int)) Option.none))))/\((([]:V9)++dr out Option.none (Option.some (↑(cu (bJ t A K) out):Int))++(bJ t A K::([]:V9)++dr out (Option.some (↑(cu (bJ t A K) out):Int)) Option.none)=cH t A (d+(1:Nat)) K out)/\True))))))))))))) ((∃x15:Nat,(((x15<=A.length)/\(aC K≠K.length))/\((t=t)/\((A=A)/\((K=K)/\((out=dG (dj t A (cH t A (d+(1:Nat)-(1:Nat))) K) out x15)/\(((aC K:Int)=(aC K:Int))/\((0:Int)=(x15:Int)))))))))/\(∀x16:Nat,(((x16<=A.length)/\(aC K≠K.length))->(ae (decide ((x16:Int)<(A.length:Int))) (((af K.length)/\True)/\((aa (aC K:Int) K.length)/\((((t.length<=(12:Nat))/\((ay t.length t)/\((AuOk t.length A)/\((A.length<=(1000000:Nat))/\(KOk t.length A.length (List.set K (aC K:Int).toNat (x16:Int)))))))/\True)/\(ae ((dP t A (List.set K (aC K:Int).toNat (x16:Int))).2) ((((aA ((dP t A (List.set K (aC K:Int).toNat (x16:Int))).1)<d)/\((t.length<=(12:Nat))/\((ay t.length t)/\((AuOk t.length A)/\((A.length<=(100:Nat))/\((KOk t.length A.length ((dP t A (List.set K (aC K:Int).toNat (x16:Int))).1)) /\
 ((∀(c:V8),c∈dG (dj t A (cH t A (d+(1:Nat)-(1:Nat))) K) out x16->ay t.length c)/\((dG (dj t A (cH t A (d+(1:Nat)-(1:Nat))) K) out x16).length+(100:Nat) ^ aA ((dP t A (List.set K (aC K:Int).toNat (x16:Int))).1)<=(1099511627775:Nat)))))))))/\True)/\((ac ((x16:Int)+(1:Int)))/\(∃x17:Nat,(((x17<=A.length)/\(aC K≠K.length))/\((A.length-x17<A.length-x16)/\((t=t)/\((A=A)/\((K=K)/\((cH t A d ((dP t A (List.set K (aC K:Int).toNat (x16:Int))).1) (dG (dj t A (cH t A (d+(1:Nat)-(1:Nat))) K) out x16)=dG (dj t A (cH t A (d+(1:Nat)-(1:Nat))) K) out x17)/\(((aC K:Int)=(aC K:Int))/\((x16:Int)+(1:Int)=(x17:Int)))))))))))) ((ac ((x16:Int)+(1:Int)))/\(∃x18:Nat,(((x18<=A.length)/\(aC K≠K.length))/\((A.length-x18<A.length-x16)/\((t=t)/\((A=A)/\((K=K)/\((dG (dj t A (cH t A (d+(1:Nat)-(1:Nat))) K) out x16=dG (dj t A (cH t A (d+(1:Nat)-(1:Nat))) K) out x18)/\(((aC K:Int)=(aC K:Int))/\((x16:Int)+(1:Int)=(x18:Int))))))))))))))) ((dG (dj t A (cH t A (d+(1:Nat)-(1:Nat))) K) out x16=cH t A (d+(1:Nat)) K out)/\True)))))))))
theorem Pc(d:Nat)(t:V8)(A:V8)(K:V7)(out:V9):aJ Tryz.prog (ai (Gi d)) ak (Gh (d+1) t A K out) Tryz.f136 (aE Tryz.f136) [] [.c (.rows .i64 t),.c (.rows .i64 A),.c (.ints .i64 K),.c (.r3 .i64 out)] (mY (d+1) t A K out)=xW d t A K out:=by kernel_rfl
theorem Pd(d:Nat)(t:V8)(A:V8)(K:V7)(out:V9)(Yh:(mY (d+1) t A K out).pre):xW d t A K out:=by
 simp only[mY,xW,aG,u1,u2,u3,u4,u5,u6,u7,u8,u9,v1,v2,v3,v4,v5,v6,v7,v8,v9,w1,w2,w3,w4,aH,aa,ac,af,ar]at Yh⊢;simp only[FC.len,dr,Int.toNat_natCast];obtain⟨h1,h2,h3,h4,h5,h6,h7,h8⟩:=Yh;have kl:=h6.len
 have pl:=mN K
 have p1:1<=100 ^ aA K:=Nat.one_le_pow _ _ (by omega)
 refine⟨⟨⟨0,⟨by omega,fun j h=>by omega⟩,rfl⟩,fun x ⟨hx,ix⟩=>⟨fun g=>⟨by omega,fun q=>⟨by omega,x+1,⟨by omega,fun j hj=>?_⟩,by omega,by omega⟩,fun q=>⟨⟨⟩,?_⟩⟩,fun g=>⟨⟨⟩,?_⟩⟩⟩,fun _ _=>⟨fun hp=>?_,fun hp=>?_⟩⟩
 ·by_cases e:j=x
  ·subst e;exact q
  ·exact ix j (by omega)
 ·rw[wR K x ix hx (fun _=>by omega)]
 ·rw[wR K x ix hx (fun z=>absurd z (by omega))]
 ·have hp:aC K=K.length:=by omega
  have T:=Gf h3 h4 h6 hp
  have PC:=wP (bJ t A K) out
  have o7:∀j,j<out.length->ay t.length (out.getD j []):=fun j hj=>h7 _ (bM out [] j hj)
  have e1:aC K=K.length:=hp
  refine⟨⟨0,⟨by omega,e1⟩,rfl,rfl⟩,fun y ⟨hy,_⟩=>⟨fun g=>?_,fun g=>?_⟩⟩
  ·have hk:=qO K hp y (by omega)
   have hr:=h6.rng y (by omega)
   have L:=h4.len (K.getD y 0).toNat (by omega)
   have Lt:=(h3.2 y (by omega)).1
   refine⟨by omega,by omega,by omega,⟨by omega,fun i hi=>?_⟩,by simp;omega,by omega,y+1,⟨by omega,e1⟩,by omega,by omega,?_⟩
   ·have:=h4.rng (K.getD y 0).toNat i (by omega) (by omega)
    rw[Lt];exact this
   ·rw[sy]
  ·have cT:(List.range y).map (fun y=>aY (A.getD (K.getD y 0).toNat []) (t.getD y []))=bJ t A K:=by rw[show y=t.length by omega];rfl
   refine⟨⟨⟨0,⟨by omega,e1,fun j h=>by omega⟩,cT,rfl⟩,fun j ⟨hj,_,ij⟩=>⟨fun g2=>⟨by omega,⟨Gg (o7 j (by omega)) h2,Gg T h2,by rw[(o7 j (by omega)).1,T.1]⟩,fun q=>⟨by omega,j+1,⟨by omega,e1,fun j1 hj1=>?_⟩,by omega,by omega⟩,fun q=>⟨⟨⟩,e1,?_⟩⟩,fun g2=>⟨⟨⟩,e1,?_⟩⟩⟩,fun _ _=>?_⟩
   ·by_cases e:j1=j
    ·subst e;exact q
    ·exact ij j1 (by omega)
   ·rw[wQ _ out j ij hj (fun _=>q)]
   ·rw[wQ _ out j ij hj (fun z=>absurd z (by omega))]
   ·simp only[List.length_cons,List.length_nil,List.length_append,List.length_take,List.length_drop,List.nil_append]
    refine⟨by omega,by omega,by omega,by omega,by omega,?_⟩
    rw[cH,if_pos hp,fk];rfl
 ·have hp:aC K≠K.length:=by omega
  have hx:aC K<K.length:=by omega
  have NG:=wT hx (i:=0)
  have P:100 ^ aA K=100 ^ (aA K-1)*100:=by rw[<-Nat.pow_succ];congr 1;omega
  have B:∀i,i<=A.length->(∀c,c∈dG (dj t A (cH t A d) K) out i->ay t.length c)/\(dG (dj t A (cH t A d) K) out i).length<=out.length+i*100 ^ (aA K-1):=fun i hi=>by
   constructor
   ·refine wS (P:=fun o=>∀c,c∈o->ay t.length c) h7 i fun j o hj hP=>?_
    unfold dj;split
    ·exact hP
    ·rename_i K' hs
     exact E7 h3 h4 (fun K hK hp=>Gf h3 h4 hK hp) d K' o (lg h3 h4 h6 hx (by omega) hs).1 hP
   ·refine wU i fun j o hj=>?_
    unfold dj;split
    ·omega
    ·rename_i K' hs
     have q:=lg h3 h4 h6 hx (by omega) hs
     have a:=E8 h3 h4 (M:=100) h5 (by omega) d K' o q.1
     have b:100 ^ aA K'<=100 ^ (aA K-1):=Nat.pow_le_pow_right (by omega) (by omega)
     omega
  refine⟨⟨0,⟨by omega,hp⟩,rfl,rfl⟩,fun i ⟨hi,_⟩=>⟨fun g=>?_,fun g=>?_⟩⟩
  ·obtain⟨B1,B2⟩:=B i hi
   have hk:=h6.set (aC K) (w:=(i:Int)) ⟨by omega,by omega⟩
   have step:∀r,dj t A (cH t A d) K i (dG (dj t A (cH t A d) K) out i)=r->r=dG (dj t A (cH t A d) K) out (i+1):=fun r e=>by rw[dG,e]
   refine⟨by omega,by omega,⟨h2,h3,h4,by omega,hk⟩,fun q=>?_,fun q=>⟨by omega,i+1,⟨by omega,hp⟩,by omega,step _ ?_,by omega⟩⟩
   ·have ok:=O8 q
    have N:=lg h3 h4 h6 hx (i:=i) (by omega) ok
    have b:100 ^ aA (dP t A (K.set (aC K) (i:Int))).1<=100 ^ (aA K-1):=Nat.pow_le_pow_right (by omega) (by omega)
    have c:i*100 ^ (aA K-1)+100 ^ (aA K-1)<=100 ^ (aA K-1)*100:=by
     rw[<-Nat.succ_mul,Nat.mul_comm];exact Nat.mul_le_mul_left _ (by omega)
    refine⟨⟨by omega,h2,h3,h4,h5,N.1,B1,?_⟩,by omega,i+1,⟨by omega,hp⟩,by omega,step _ ?_,by omega⟩
    ·show(dG (dj t A (cH t A d) K) out i).length+_<=_
     omega
    ·exact Pa ok
   ·exact Pb (O9 q)
  ·rw[cH,if_neg hp,show i=A.length by omega];rfl
theorem Pe(t:V8)(A:V8)(K:V7)(out:V9)(h:(mY 0 t A K out).pre):False:=by
 simp only[mY]at h;omega
theorem Pf(d:Nat):Fits Tryz.prog 136 ⟨[],oE d⟩:=by
 induction d with
 |zero =>
  refine L6 ⟨Tryz.f136,Tryz.func136,by kernel_rfl,by kernel_rfl⟩ (by decide) fun ds p h hp=>?_
  unfold oE at h;split at h
  ·cases h
   exact Pe _ _ _ _  hp
  ·cases h
 |succ d ih =>
  refine DY (Γ:=ai (Gi d)) (aw EZ (aw Fr (aw sD (aw Np (aw ih aF))))) Tryz.func136 (by kernel_rfl) (by kernel_rfl) (by kernel_rfl) fun ds p h hp=>?_
  unfold oE at h;split at h
  ·cases h
   exact⟨ak,Gh _ _ _ _ _ ,by rw[Pc];exact Pd _ _ _ _ _  hp⟩
  ·cases h
def rU(t:V8):Post:=⟨b6 t=true/\AuOk t.length (ab t)/\(ab t).length<=100/\t.length<=7,.c (.ro (.r3 .i64 (aD t (ab t)))),[]⟩
def xX:List AD->Option Post
 | [.c (.rows .i64 t)]=>some (rU t)
 |_=>none
def Gj(t:V8):Nat->Option Ann
 |0=>some (Ann.mk ((Nat)) (fun i=>⟨[(0,.c (.ro (.rows .i64 t))),(3,.c (.own 3)),(4,.c (.int .i64 ((i:Int))))],[(3,some (.ints 2 .i64 (List.replicate i (-1))))]⟩) (fun i=>i<=t.length) (fun i=>t.length-i) (fun _=>am))
 |_=>none
def Gk:List (Nat×Ctr):=[(137,⟨[],rx⟩),(136,⟨[],oE 12⟩)]
def xY(t:V8):Prop :=
 (∃x0:Nat,x0<=t.length/\t=t/\(0:Int)=(x0:Int)/\[]=List.replicate x0 (-1:Int))/\∀x1:Nat,x1<=t.length->ae (decide ((x1:Int)<(t.length:Int))) (af ((List.replicate x1 (-1:Int)).length+[(-1:Int)].length)/\ac ((x1:Int)+(1:Int))/\∃x2:Nat,x2<=t.length/\t.length-x2<t.length-x1/\t=t/\(x1:Int)+(1:Int)=(x2:Int)/\List.replicate x1 (-1:Int)++[(-1:Int)]=List.replicate x2 (-1:Int)) (aa (0:Int) ((List.replicate x1 (-1:Int)).length)/\(b6 t=true/\True)/\((aA (List.set (List.replicate x1 (-1:Int)) (0:Nat) (0:Int))<(12:Nat)/\t.length<=(12:Nat)/\ay t.length t/\AuOk t.length (ab t)/\(ab t).length<=(100:Nat)/\KOk t.length (ab t).length (List.set (List.replicate x1 (-1:Int)) (0:Nat) (0:Int))/\(∀(c:V8),c∈([]:V9)->ay t.length c)/\([]:V9).length+(100:Nat) ^ aA (List.set (List.replicate x1 (-1:Int)) (0:Nat) (0:Int))<=(1099511627775:Nat))/\True)/\cH t (ab t) (12:Nat) (List.set (List.replicate x1 (-1:Int)) (0:Nat) (0:Int)) ([]:V9)=aD t (ab t)/\True)
theorem Pg(t:V8):aJ Tryz.prog (ai Gk) ak (Gj t) Tryz.f86 (aE Tryz.f86) [] [.c (.rows .i64 t)] (rU t)=xY t:=by kernel_rfl
theorem Ph(t:V8)(Yh:(rU t).pre):xY t:=by
 simp only[rU,xY,aG,u1,u2,u3,u4,u5,u6,u7,u8,u9,v1,v2,v3,v4,v5,v6,v7,v8,v9,w1,w2,w3,w4,aH,aa,ac,af,ar]at Yh⊢;obtain⟨h1,h2,h3,h4⟩:=Yh;obtain⟨q1,q2,q3⟩:=gu h1;have T:ay t.length t:=⟨rfl,fun x hx=>⟨(q3 x hx).1,fun y hy=>by
  have:=(q3 x hx).2 y hy
  have e2:en t x y=(t.getD x []).getD y 0:=rfl
  omega⟩⟩
 refine⟨⟨0,by omega,rfl,rfl⟩,fun i hi=>⟨fun g=>⟨by omega,by omega,i+1,by omega,by omega,by omega,?_⟩,fun g=>?_⟩⟩
 ·rw[List.replicate_succ']
 ·rw[show i=t.length by omega]
  have NG:=E9 (n:=t.length) (by omega)
  have P:100 ^ aA ((List.replicate t.length (-1)).set 0 0)<=100 ^ 6:=Nat.pow_le_pow_right (by omega) (by omega)
  exact⟨by omega,h1,⟨by omega,by omega,T,h2,h3,Z0.ok wV h2,fun c hc=>by simp at hc,by simp;omega⟩,rfl⟩
theorem Pi:Fits Tryz.prog 86 ⟨[],xX⟩:=by
 refine aO (Γ:=ai Gk) (aw Ft (aw (Pf 12) aF)) Tryz.func86 fun ds p h hp=>?_
 unfold xX at h;split at h
 ·cases h
  exact⟨ak,Gj _ ,by rw[Pg];exact Ph _  hp⟩
 ·cases h
theorem rV{n:Nat}{c:V8}(h:ay n c)(hn:n<=12):aM c:=⟨by rw[h.1];omega,fun r hr=>by
 obtain⟨i,hi,rfl⟩:=List.getElem_of_mem hr;have:=(h.2 i (by rw[<-h.1];exact hi)).1
 rw[bF c [] i hi]at this;omega⟩
theorem Pj{n:Nat}{t:V8}(h:ay n t):jq (n:Int) t:=⟨by rw[h.1],fun i hi=>by
 have hi':i<n:=by rw[<-h.1];exact hi
 obtain⟨a,b⟩:=h.2 i hi';exact⟨by rw[a],fun j hj=>by
  have:=b j (by rw[<-h.1];exact hj)
  have e:en t i j=(t.getD i []).getD j 0:=rfl
  omega⟩⟩
def rW(t:V8):Post:=⟨ba t=true/\t.length<=7,.c (.ro (.r3 .i64 (bG t (ab t)))),[]⟩
def xZ:List AD->Option Post
 | [.c (.rows .i64 t)]=>some (rW t)
 |_=>none
def Gl(t:V8):Nat->Option Ann
 |0=>some (Ann.mk ((Nat)) (fun i=>⟨[(0,.c (.ro (.rows .i64 t))),(3,.c (.ro (.r3 .i64 (aD t (ab t))))),(4,.c (.ro (.rows .i64 ((ab t))))),(5,.c (.own 600)),(6,.c (.int .i64 ((i:Int))))],[(600,some (.lst 0 22 (.r3 .i64 (((aD t (ab t)).take i).filter (cU (ab t))))))]⟩) (fun i=>i<=(aD t (ab t)).length) (fun i=>(aD t (ab t)).length-i) (fun i=>fun b_=>match b_ with|2=>some (Ann.mk ((Nat)) (fun k=>⟨[(0,.c (.ro (.rows .i64 t))),(3,.c (.ro (.r3 .i64 (aD t (ab t))))),(4,.c (.ro (.rows .i64 ((ab t))))),(5,.c (.own 600)),(6,.c (.int .i64 ((i:Int)))),(7,.c (.bool ((((ab t).take k).all fun f=>!bD (bz ((aD t (ab t)).getD i []) f ((aD t (ab t)).getD i []).length) ((aD t (ab t)).getD i []))))),(8,.c (.int .i64 ((k:Int))))],[(600,some (.lst 0 22 (.r3 .i64 (((aD t (ab t)).take i).filter (cU (ab t))))))]⟩) (fun k=>i<(aD t (ab t)).length/\k<=(ab t).length) (fun k=>(ab t).length-k) (fun _=>am))|_=>none))
 |_=>none
def Gm(t:Nat):Bool:=[2000037].contains t
def Gn:List (Nat×Ctr):=[(86,⟨[],xX⟩),(137,⟨[],rx⟩),(143,⟨[],wL⟩),(142,⟨[],rq⟩)]
def fm(t:V8)(x0:Nat):=((aD t (ab t)).getD (↑x0:Int).toNat ([]:V8))
def iZ(t:V8)(x0:Nat):=((aD t (ab t)).getD x0 ([]:V8))
def ya(t:V8):Prop :=
 (((b6 t=true/\AuOk t.length (ab t)/\(ab t).length<=(100:Nat)/\t.length<=(7:Nat))/\True)/\((b6 t=true/\True)/\((∃x0:Nat,x0<=(aD t (ab t)).length/\t=t/\aD t (ab t)=aD t (ab t)/\ab t=ab t/\(0:Int)=(x0:Int)/\([]:V9)=List.filter (cU (ab t)) (List.take x0 (aD t (ab t))))/\(∀x1:Nat,(x1<=(aD t (ab t)).length->(ae (decide ((x1:Int)<(↑((aD t (ab t)).length):Int))) ((∃x2:Nat,(x1<(aD t (ab t)).length/\x2<=(ab t).length)/\t=t/\aD t (ab t)=aD t (ab t)/\ab t=ab t/\(x1:Int)=(x1:Int)/\(true=List.all (List.take x2 (ab t)) fun(f:V7)=>!bD (bz (iZ t x1) f (iZ t x1).length) (iZ t x1))/\(0:Int)=(x2:Int)/\List.filter (cU (ab t)) (List.take x1 (aD t (ab t)))=List.filter (cU (ab t)) (List.take x1 (aD t (ab t))))/\(∀x3:Nat,(x1<(aD t (ab t)).length/\x3<=(ab t).length->(ae (decide ((x3:Int)<(↑((ab t).length):Int))) (ae (List.all (List.take x3 (ab t)) fun(f:V7)=>!bD (bz ((aD t (ab t)).getD x1 ([]:V8)) f (((aD t (ab t)).getD x1 ([]:V8)).length)) ((aD t (ab t)).getD x1 ([]:V8))) (aa (x1:Int) ((aD t (ab t)).length)/\(aa (x3:Int) (ab t).length/\(((aM (fm t x1)/\((fm t x1).length<=(144:Nat)/\((jq (↑((fm t x1).length):Int) (fm t x1)) /\
 ((((ab t).getD (x3:Int).toNat []).length=(fm t x1).length)/\(∀(i:Nat),i<((ab t).getD (x3:Int).toNat []).length->(0:Int)<=(List.getD (ab t) (x3:Int).toNat []).getD i (0:Int)/\(List.getD (ab t) (x3:Int).toNat []).getD i (0:Int)<=(↑((fm t x1).length):Int)-(1:Int))))))/\True)/\((aa (x1:Int) ((aD t (ab t)).length))/\((((aM (bz (fm t x1) ((ab t).getD (x3:Int).toNat []) (fm t x1).length))/\((aM (fm t x1))/\((bz (fm t x1) ((ab t).getD (x3:Int).toNat []) (fm t x1).length).length=(fm t x1).length)))/\True)/\((ac ((x3:Int)+(1:Int)))/\(∃x4:Nat,(((x1<(aD t (ab t)).length)/\(x4<=(ab t).length))/\(((ab t).length-x4<(ab t).length-x3)/\((t=t)/\((aD t (ab t)=aD t (ab t))/\((ab t=ab t)/\(((x1:Int)=(x1:Int))/\(((!bD (bz (fm t x1) ((ab t).getD (x3:Int).toNat []) (fm t x1).length) (fm t x1))=List.all (List.take x4 (ab t)) fun(f:V7)=>!bD (bz (iZ t x1) f (iZ t x1).length) (iZ t x1))/\(((x3:Int)+(1:Int)=(x4:Int))/\(List.filter (cU (ab t)) (List.take x1 (aD t (ab t)))=List.filter (cU (ab t)) (List.take x1 (aD t (ab t))))))))))))))))))) ((ac ((x3:Int)+(1:Int)))/\(∃x5:Nat,(((x1<(aD t (ab t)).length)/\(x5<=(ab t).length))/\(((ab t).length-x5<(ab t).length-x3)/\((t=t)/\((aD t (ab t)=aD t (ab t)) /\
 ((ab t=ab t)/\(((x1:Int)=(x1:Int))/\((false=List.all (List.take x5 (ab t)) fun(f:V7)=>!bD (bz (iZ t x1) f (iZ t x1).length) (iZ t x1))/\(((x3:Int)+(1:Int)=(x5:Int))/\(List.filter (cU (ab t)) (List.take x1 (aD t (ab t)))=List.filter (cU (ab t)) (List.take x1 (aD t (ab t))))))))))))))) (ae (List.all (List.take x3 (ab t)) fun(f:V7)=>!bD (bz ((aD t (ab t)).getD x1 ([]:V8)) f (((aD t (ab t)).getD x1 ([]:V8)).length)) ((aD t (ab t)).getD x1 ([]:V8))) ((aa (x1:Int) ((aD t (ab t)).length))/\((af (FC.len (FC.r3 IntKind.i64 (List.filter (cU (ab t)) (List.take x1 (aD t (ab t)))))+FC.len (FC.r3 IntKind.i64 ((aD t (ab t)).getD (x1:Int).toNat ([]:V8)::([]:V9)))))/\((ac ((x1:Int)+(1:Int)))/\(∃x6:Nat,((x6<=(aD t (ab t)).length)/\(((aD t (ab t)).length-x6<(aD t (ab t)).length-x1)/\((t=t)/\((aD t (ab t)=aD t (ab t))/\((ab t=ab t)/\(((x1:Int)+(1:Int)=(x6:Int))/\(List.filter (cU (ab t)) (List.take x1 (aD t (ab t)))++(aD t (ab t)).getD (x1:Int).toNat ([]:V8)::([]:V9)=List.filter (cU (ab t)) (List.take x6 (aD t (ab t)))))))))))))) ((ac ((x1:Int)+(1:Int)))/\(∃x7:Nat,((x7<=(aD t (ab t)).length)/\(((aD t (ab t)).length-x7<(aD t (ab t)).length-x1)/\((t=t) /\
 ((aD t (ab t)=aD t (ab t))/\((ab t=ab t)/\(((x1:Int)+(1:Int)=(x7:Int))/\(List.filter (cU (ab t)) (List.take x1 (aD t (ab t)))=List.filter (cU (ab t)) (List.take x7 (aD t (ab t))))))))))))))))) ((List.filter (cU (ab t)) (List.take x1 (aD t (ab t)))=bG t (ab t))/\True)))))))
theorem Pk(t:V8):aJ Tryz.prog (ai Gn) Gm (Gl t) Tryz.f95 (aE Tryz.f95) [] [.c (.rows .i64 t)] (rW t)=ya t:=by kernel_rfl
theorem Pl(t:V8)(Yh:(rW t).pre):ya t:=by
 simp only[rW,ya,fm,iZ,aG,u1,u2,u3,u4,u5,u6,u7,u8,u9,v1,v2,v3,v4,v5,v6,v7,v8,v9,w1,w2,w3,w4,aH,aa,ac,af,ar]at Yh⊢;obtain⟨hg,h7⟩:=Yh;have G:=js hg
 have hA:=kX G h7
 have hC:=qk G h7
 have ct:=fun i hi=>mK G h7 (bM (aD t (ab t)) [] i hi)
 have ap:=fun i hi=>ic G h7 (bM (ab t) [] i hi)
 refine⟨⟨ju hg,(mP G.tb G.pos (by omega)).1,by omega,by omega⟩,ju hg,⟨0,by omega,by omega,rfl⟩,fun i hi=>⟨fun hlt=>⟨⟨0,⟨by omega,by omega⟩,by simp,by omega⟩,fun k ⟨_,hk⟩=>?_⟩,fun hge=>?_⟩⟩
 ·have hi1:i<(aD t (ab t)).length:=by omega
  have C:=ct i hi1
  have FS:((aD t (ab t)).take (i+1)).filter (cU (ab t))=((aD t (ab t)).take i).filter (cU (ab t))++(if cU (ab t) ((aD t (ab t)).getD i [])=true then [(aD t (ab t)).getD i []]else []):=by
   rw[<-dF _ [] i hi1,List.filter_append];simp only[List.filter_cons,List.filter_nil]
  generalize (aD t (ab t)).getD i []=c at *
  have lc:=C.1
  have AS:∀k,k<(ab t).length->((ab t).take (k+1)).all (fun f=>!bD (bz c f c.length) c)=(((ab t).take k).all (fun f=>!bD (bz c f c.length) c)&&!bD (bz c ((ab t).getD k []) c.length) c):=fun k hk=>by
   rw[<-dF _ [] k hk,List.all_append];simp
  refine⟨fun hkl=>?_,fun hkl=>?_⟩
  ·have hk1:k<(ab t).length:=by omega
   have P:=ap k hk1
   have lp:=P.len
   refine⟨fun hb=>⟨by omega,by omega,⟨rV C (by omega),by omega,by rw[lc];exact Pj C,by omega,fun j hj=>?_⟩,by omega,⟨?_,rV C (by omega),?_⟩,by omega,k+1,⟨hi1,by omega⟩,by omega,?_,by omega⟩,fun hb=>⟨by omega,k+1,⟨hi1,by omega⟩,by omega,?_,by omega⟩⟩
   ·have:=P.rng j (by omega);rw[lc];omega
   ·rw[lc];exact rV (gH C P).tb (by omega)
   ·rw[lc];exact(gH C P).tb.1
   ·rw[AS k hk1,hb];simp
   ·rw[AS k hk1,hb];simp
  ·have ek:k=(ab t).length:=by omega
   rw[ek,List.take_length];refine⟨fun hb=>⟨by omega,?_,by omega,i+1,by omega,by omega,by omega,?_⟩,fun hb=>⟨by omega,i+1,by omega,by omega,by omega,?_⟩⟩
   ·have:=List.length_filter_le (cU (ab t)) ((aD t (ab t)).take i)
    rw[List.length_take]at this;simp only[FC.len,List.length_singleton];omega
   ·rw[FS,if_pos (show cU (ab t) c=true from hb)]
   ·rw[FS,if_neg (show ¬ cU (ab t) c=true by rw[show cU (ab t) c=false from hb];simp),List.append_nil]
 ·rw[List.take_of_length_le (by omega)];rfl
theorem Pm:Fits Tryz.prog 95 ⟨[],xZ⟩:=by
 refine aO (Γ:=ai Gn) (aw Pi (aw Ft (aw Nv (aw Fr aF)))) Tryz.func95 fun ds p h hp=>?_
 unfold xZ at h;split at h
 ·cases h
  exact⟨Gm,Gl _ ,by rw[Pk];exact Pl _  hp⟩
 ·cases h
def rX(t:V8):Post:=⟨ba t=true/\t.length<=7,.c (.ro (.p3 .i64 (bB t (bG t (ab t))))),[]⟩
def yb:List AD->Option Post
 | [.c (.rows .i64 t)]=>some (rX t)
 |_=>none
def Gp(t:V8):Nat->Option Ann
 |0=>some (Ann.mk ((Nat)) (fun i=>⟨[(0,.c (.ro (.rows .i64 t))),(3,.c (.ro (.r3 .i64 (bG t (ab t))))),(4,.c (.own 600)),(5,.c (.int .i64 ((i:Int))))],[(600,some (.lst 0 39 (.p3 .i64 (bB t ((bG t (ab t)).take i)))))]⟩) (fun i=>i<=(bG t (ab t)).length) (fun i=>(bG t (ab t)).length-i) (fun _=>am))
 |_=>none
def Gq(t:Nat):Bool:=[5000008,5000023,1000023].contains t
def Gr:List (Nat×Ctr):=[(95,⟨[],xZ⟩),(96,⟨[],qH⟩)]
def yc(t:V8):Prop :=
 ((ba t=true/\t.length<=(7:Nat))/\True)/\(∃x0:Nat,x0<=(bG t (ab t)).length/\t=t/\bG t (ab t)=bG t (ab t)/\(0:Int)=(x0:Int)/\[]=bB t (List.take x0 (bG t (ab t))))/\∀x1:Nat,x1<=(bG t (ab t)).length->ae (decide ((x1:Int)<(↑((bG t (ab t)).length):Int))) ((aM t/\True)/\aa (x1:Int) ((bG t (ab t)).length)/\af (FC.len (FC.p3 IntKind.i64 (bB t (List.take x1 (bG t (ab t)))))+FC.len (FC.p3 IntKind.i64 [(t,(bG t (ab t)).getD (x1:Int).toNat ([]:V8))]))/\ac ((x1:Int)+(1:Int))/\∃x2:Nat,x2<=(bG t (ab t)).length/\(bG t (ab t)).length-x2<(bG t (ab t)).length-x1/\t=t/\bG t (ab t)=bG t (ab t)/\(x1:Int)+(1:Int)=(x2:Int)/\bB t (List.take x1 (bG t (ab t)))++[(t,(bG t (ab t)).getD (x1:Int).toNat ([]:V8))]=bB t (List.take x2 (bG t (ab t)))) (bB t (List.take x1 (bG t (ab t)))=bB t (bG t (ab t))/\True)
theorem Pn(t:V8):aJ Tryz.prog (ai Gr) Gq (Gp t) Tryz.f51 (aE Tryz.f51) [] [.c (.rows .i64 t)] (rX t)=yc t:=by kernel_rfl
theorem Po(t:V8)(Yh:(rX t).pre):yc t:=by
 simp only[rX,yc,aG,u1,u2,u3,u4,u5,u6,u7,u8,u9,v1,v2,v3,v4,v5,v6,v7,v8,v9,w1,w2,w3,w4,aH,aa,ac,af,ar]at Yh⊢;obtain⟨hg,h7⟩:=Yh;have G:=js hg
 have hC:=qk G h7
 have hL:(bG t (ab t)).length<=2401:=Nat.le_trans (List.length_filter_le _ _) hC
 refine⟨⟨hg,h7⟩,⟨0,by omega,by omega,rfl⟩,fun i hi=>⟨fun hlt=>⟨rV G.tb (by omega),by omega,?_⟩,fun hge=>?_⟩⟩
 ·have hi1:i<(bG t (ab t)).length:=by omega
  refine⟨?_,by omega,i+1,by omega,by omega,by omega,?_⟩
  ·simp only[FC.len,bB,List.length_map,List.length_take,List.length_singleton];omega
  ·rw[<-dF _ [] i hi1,bB,bB,List.map_append];rfl
 ·rw[List.take_of_length_le (by omega)]
theorem Pp:Fits Tryz.prog 51 ⟨[],yb⟩:=by
 refine aO (Γ:=ai Gr) (aw Pm (aw ES aF)) Tryz.func51 fun ds p h hp=>?_
 unfold yb at h;split at h
 ·cases h
  exact⟨Gq,Gp _ ,by rw[Pn];exact Po _  hp⟩
 ·cases h
def mZ(cl:V7):Nat->V7
 |0=>[]
 |i+1=>if cl.getD i 0=((mZ cl i).length:Int)then mZ cl i++[(i:Int)]else mZ cl i
def quo(t:V8)(cl:V7):V8 :=
 bN (mZ cl cl.length).length fun x y=>cl.getD (en t ((mZ cl cl.length).getD x 0).toNat ((mZ cl cl.length).getD y 0).toNat).toNat 0
def i4(a c:V8)(k:Int):Int :=
 if(if k<(a.length:Int)+(bg a:Int)then -1 else k-(a.length:Int)-(bg a:Int))<0 then -1
 else if k-(a.length:Int)-(bg a:Int)<(c.length:Int)+(bg c:Int)then -1 else k-(a.length:Int)-(bg a:Int)-(c.length:Int)-(bg c:Int)
def rY(a:V8)(c:V8)(k:Int):Post:=⟨((a.length:Int)<=9223372036854775807/\(∀r∈a,(r.length:Int)<=9223372036854775807))/\((c.length:Int)<=9223372036854775807/\(∀r∈c,(r.length:Int)<=9223372036854775807))/\0<=k/\k<=1099511627776,.c (.int .i64 (i4 a c k)),[]⟩
def ye:List AD->Option Post
 | [.agg [.rows .i64 a,.rows .i64 c],.c (.int .i64 k)]=>some (rY a c k)
 |_=>none
def Gs:List (Nat×Ctr):=[(49,⟨[],yB⟩)]
def yf(a:V8)(c:V8)(k:Int):Prop :=
 (((a.length:Int)<=(9223372036854775807:Int)/\(∀(r:V7),r∈a->(r.length:Int)<=(9223372036854775807:Int))/\(0:Int)<=k/\k<=(1099511627776:Int))/\True)/\ae (decide ((if k<(a.length:Int)+(bg a:Int)then(-1:Int)else k-(a.length:Int)-(bg a:Int))<(0:Int))) ((-1:Int)=i4 a c k/\True) ((((c.length:Int)<=(9223372036854775807:Int)/\(∀(r:V7),r∈c->(r.length:Int)<=(9223372036854775807:Int))/\((0:Int)<=if k<(a.length:Int)+(bg a:Int)then(-1:Int)else k-(a.length:Int)-(bg a:Int))/\(if k<(a.length:Int)+(bg a:Int)then(-1:Int)else k-(a.length:Int)-(bg a:Int))<=(1099511627776:Int))/\True)/\ae (decide ((if(if k<(a.length:Int)+(bg a:Int)then(-1:Int)else k-(a.length:Int)-(bg a:Int))<(c.length:Int)+(bg c:Int)then(-1:Int)else(if k<(a.length:Int)+(bg a:Int)then(-1:Int)else k-(a.length:Int)-(bg a:Int))-(c.length:Int)-(bg c:Int))<(0:Int))) ((-1:Int)=i4 a c k/\True) ((if(if k<(a.length:Int)+(bg a:Int)then(-1:Int)else k-(a.length:Int)-(bg a:Int))<(c.length:Int)+(bg c:Int)then(-1:Int)else(if k<(a.length:Int)+(bg a:Int)then(-1:Int)else k-(a.length:Int)-(bg a:Int))-(c.length:Int)-(bg c:Int))=i4 a c k/\True))
theorem Pq(a:V8)(c:V8)(k:Int):aJ Tryz.prog (ai Gs) ak am Tryz.f30 (aE Tryz.f30) [] [.agg [.rows .i64 a,.rows .i64 c],.c (.int .i64 k)] (rY a c k)=yf a c k:=by kernel_rfl
theorem Pr(a:V8)(c:V8)(k:Int)(Yh:(rY a c k).pre):yf a c k:=by
 simp only[rY,yf,aG,u1,u2,u3,u4,u5,u6,u7,u8,u9,v1,v2,v3,v4,v5,v6,v7,v8,v9,w1,w2,w3,w4,aH,aa,ac,af,ar]at Yh⊢;obtain⟨⟨a1,a2⟩,⟨c1,c2⟩,k1,k2⟩:=Yh;refine⟨⟨a1,a2,k1,k2⟩,fun h=>?_,fun h=>⟨⟨c1,c2,by omega,by split<;>omega⟩,fun h2=>?_,fun h2=>?_⟩⟩
 ·rw[i4,if_pos h]
 ·have hk:¬ k<(a.length:Int)+(bg a:Int):=by split at h<;>omega
  rw[if_neg hk]at h h2;rw[i4,if_neg hk,if_neg h];split at h2
  ·rename_i h3;rw[if_pos h3]
  ·omega
 ·have hk:¬ k<(a.length:Int)+(bg a:Int):=by split at h<;>omega
  rw[if_neg hk]at h;rw[i4,if_neg hk,if_neg h]
theorem Ps:Fits Tryz.prog 30 ⟨[],ye⟩:=by
 refine aO (Γ:=ai Gs) (aw Qb aF) Tryz.func30 fun ds p h hp=>?_
 unfold ye at h;split at h
 ·cases h
  exact⟨ak,am,by rw[Pq];exact Pr _ _ _  hp⟩
 ·cases h
def rZ(a:V8)(c:V8):Post:=⟨aM a/\aM c,.agg [.rows 62 2 .i64 a,.rows 62 2 .i64 c],[]⟩
def yg:List AD->Option Post
 | [.agg [.rows .i64 a,.rows .i64 c]]=>some (rZ a c)
 |_=>none
def Gt:List (Nat×Ctr):=[(52,⟨[],yD⟩)]
def yh(a:V8)(c:V8):Prop :=
 (aM a/\True)/\(aM c/\True)/\(a=a/\c=c/\True)/\True
theorem Pt(a:V8)(c:V8):aJ Tryz.prog (ai Gt) ak am Tryz.f32 (aE Tryz.f32) [] [.agg [.rows .i64 a,.rows .i64 c]] (rZ a c)=yh a c:=by kernel_rfl
theorem Pu(a:V8)(c:V8)(Yh:(rZ a c).pre):yh a c:=by
 simp only[rZ,yh,aG,u1,u2,u3,u4,u5,u6,u7,u8,u9,v1,v2,v3,v4,v5,v6,v7,v8,v9,w1,w2,w3,w4,aH,aa,ac,af,ar]at Yh⊢;exact Yh
theorem Pv:Fits Tryz.prog 32 ⟨[],yg⟩:=by
 refine aO (Γ:=ai Gt) (aw Qe aF) Tryz.func32 fun ds p h hp=>?_
 unfold yg at h;split at h
 ·cases h
  exact⟨ak,am,by rw[Pt];exact Pu _ _  hp⟩
 ·cases h
def sa(a:V8)(c:V8)(a2:V8)(c2:V8):Post:=⟨aM a/\aM c,.c (.bool (decide (a=a2/\c=c2))),[]⟩
def yi:List AD->Option Post
 | [.agg [.rows .i64 a,.rows .i64 c],.agg [.rows .i64 a2,.rows .i64 c2]]=>some (sa a c a2 c2)
 |_=>none
def Gu:List (Nat×Ctr):=[(55,⟨[],yF⟩)]
def yj(a:V8)(c:V8)(a2:V8)(c2:V8):Prop :=
 (aM a/\True)/\ae (!decide (a=a2)) (false=decide (a=a2/\c=c2)/\True) ((aM c/\True)/\ae (!decide (c=c2)) (false=decide (a=a2/\c=c2)/\True) (true=decide (a=a2/\c=c2)/\True))
theorem Pw(a:V8)(c:V8)(a2:V8)(c2:V8):aJ Tryz.prog (ai Gu) ak am Tryz.f34 (aE Tryz.f34) [] [.agg [.rows .i64 a,.rows .i64 c],.agg [.rows .i64 a2,.rows .i64 c2]] (sa a c a2 c2)=yj a c a2 c2:=by kernel_rfl
theorem Px(a:V8)(c:V8)(a2:V8)(c2:V8)(Yh:(sa a c a2 c2).pre):yj a c a2 c2:=by
 simp only[sa,yj,aG,u1,u2,u3,u4,u5,u6,u7,u8,u9,v1,v2,v3,v4,v5,v6,v7,v8,v9,w1,w2,w3,w4,aH,aa,ac,af,ar]at Yh⊢;refine⟨Yh.1,fun h=>(decide_eq_false fun e=>h e.1).symm,fun h=>⟨Yh.2,fun h2=>(decide_eq_false fun e=>h2 e.2).symm,fun h2=>(decide_eq_true ⟨h,h2⟩).symm⟩⟩
theorem Py:Fits Tryz.prog 34 ⟨[],yi⟩:=by
 refine aO (Γ:=ai Gu) (aw Qh aF) Tryz.func34 fun ds p h hp=>?_
 unfold yi at h;split at h
 ·cases h
  exact⟨ak,am,by rw[Pw];exact Px _ _ _ _  hp⟩
 ·cases h
theorem Pz{a c:V8}(h:¬ i4 a c 1048576<0):a.length<=1048576/\bg a<=1048576/\aM a/\c.length<=1048576/\bg c<=1048576/\aM c:=by
 unfold i4 at h;by_cases h1:(if(1048576:Int)<(a.length:Int)+(bg a:Int)then(-1:Int)else 1048576-(a.length:Int)-(bg a:Int))<0
 ·rw[if_pos h1]at h;omega
 ·rw[if_neg h1]at h
  obtain⟨e1,e2,e3⟩:=GN h1;have h3:¬ (if 1048576<(c.length:Int)+(bg c:Int)then(-1:Int)else 1048576-(c.length:Int)-(bg c:Int))<0:=by
   split at h
   ·omega
   ·split<;>omega
  obtain⟨d1,d2,d3⟩:=GN h3;exact⟨e1,e2,e3,d1,d2,d3⟩
end Go.Sx
end
section
namespace Go.Proofs.YtkmldclpaniclaaGreat
theorem lm{x y:Bool}(h:x=true)(k:y=true):(x&&y)=true:=by rw[h,k];rfl
set_option maxRecDepth 10000000 in
def sb:{ l:List Char // Tryz.prog.initOrder=String.ofList l }:=⟨_,rfl⟩
theorem PA:Tryz.prog.initOrder.toList=sb.1:=(congrArg String.toList sb.2).trans String.toList_ofList
theorem sc:∃rest,behindMainWord (wordsSigns Tryz.prog.initOrder.toList)=['c','u','t']::rest:=by
 rw[PA];have h:(behindMainWord (wordsSigns sb.1)).head?=some ['c','u','t']:=by kernel_rfl
 cases hb:behindMainWord (wordsSigns sb.1)with
 |nil=>rw[hb]at h;cases h
 |cons x y=>rw[hb]at h;cases h;exact⟨y,rfl⟩
theorem Gv(rest:List (List Char)):stripLifts liftWords (['c','u','t']::rest)=([],['c','u','t']::rest):=by rfl
theorem PB:Tryz.prog.headLifts=[]:=by
 obtain⟨rest,h⟩:=sc;unfold Program.headLifts;rw[h,Gv];rfl
theorem PD:Tryz.prog.laysLater=false:=by kernel_rfl
theorem PE:Tryz.prog.bearsReflect=false:=by kernel_rfl
theorem PF:Tryz.prog.doorRows=[]:=by kernel_rfl
theorem PG:Tryz.prog.doorFits []=true:=by
 unfold Program.doorFits;rw[PF];rfl
theorem PH(P:Program)(rest:List (List Char))(h:behindMainWord (wordsSigns P.initOrder.toList)=['c','u','t']::rest)(h1:P.laysLater=false)(h2:P.bearsReflect=false)(h3:P.doorFits []=true):P.mayEnter=true:=by
 unfold Program.mayEnter;rw[h];simp only[Gv,h1,h2,h3];simp
theorem PI(P:Program)(rest:List (List Char))(h:behindMainWord (wordsSigns P.initOrder.toList)=['c','u','t']::rest)(h1:P.headLifts=[]):(false == P.liftsFinal)=true:=by
 unfold Program.liftsFinal;rw[h,h1];rfl
theorem PJ(P:Program)(rest:List (List Char))(h:behindMainWord (wordsSigns P.initOrder.toList)=['c','u','t']::rest):(P.make == some Make.cut)=true:=by
 have e1:(['c','u','t'] == "gc".toList)=false:=rfl
 have e2:(['c','u','t'] == "spec".toList)=false:=rfl
 have e3:(['c','u','t'] == "cut".toList)=true:=rfl
 unfold Program.make;rw[h];simp only[e1,e2,e3,Bool.or_false,Bool.true_or,Bool.false_eq_true,if_true,if_false];rfl
theorem PK:Tryz.prog.mayEnter=true:=by
 obtain⟨rest,h⟩:=sc;exact PH _ rest h PD PE PG
theorem PN:(false == Tryz.prog.liftsFinal)=true:=by
 obtain⟨rest,h⟩:=sc;exact PI _ rest h PB
theorem PO:(Tryz.prog.make == some Make.cut)=true:=by
 obtain⟨rest,h⟩:=sc;exact PJ _ rest h
end Go.Proofs.YtkmldclpaniclaaGreat
end
