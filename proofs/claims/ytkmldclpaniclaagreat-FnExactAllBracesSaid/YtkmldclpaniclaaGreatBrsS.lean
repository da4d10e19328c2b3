/- BrsS -/
import Derived.Test.YtkmldclpaniclaaGreatCirB
import Derived.Test.YtkmldclpaniclaaGreatActP
open Go Go.Proofs
namespace Go.Sx
set_option linter.unusedSimpArgs false
set_option linter.unusedVariables false
theorem Kr{t A:List (List Int)}{K:List Int}(h:(dK t A K).2=true):cR t A K=some (dK t A K).1:=by
 unfold dK at h⊢;cases e:cR t A K with
 |none=>rw[e]at h;cases h
 |some x=>rfl
theorem Ks{t A:List (List Int)}{K:List Int}(h:(dK t A K).2=false):cR t A K=none:=by
 unfold dK at h;cases e:cR t A K with
 |none=>rfl
 |some x=>rw[e]at h;cases h
theorem Kt{t A:List (List Int)}{rec:List Int->List (List (List Int))->List (List (List Int))}{K K':List Int}{i:Nat}{o:List (List (List Int))}(h:cR t A (K.set (aA K) (i:Int))=some K'):dg t A rec K i o=rec K' o:=by unfold dg;rw[h]
theorem Ku{t A:List (List Int)}{rec:List Int->List (List (List Int))->List (List (List Int))}{K:List Int}{i:Nat}{o:List (List (List Int))}(h:cR t A (K.set (aA K) (i:Int))=none):dg t A rec K i o=o:=by unfold dg;rw[h]
theorem CZ{n:Nat}{t A:List (List Int)}(ht:aB n t)(hA:AuOk n A){K:List Int}(hK:KOk n A.length K)(hp:aA K=K.length):aB n (bL t A K):=by
 refine⟨by simp[bL,ht.1],fun x hx=>?_⟩
 have hk:=qi K hp x (by rw[hK.len];exact hx)
 have hr:=hK.rng x hx
 have row:(bL t A K).getD x []=aT (A.getD (K.getD x 0).toNat []) (t.getD x []):=by
  rw[bL];simp[List.getD_eq_getElem?_getD,ht.1,hx]
 have L:=hA.len (K.getD x 0).toNat (by omega)
 refine⟨by rw[row,aT,List.length_map,L],fun y hy=>?_⟩
 have r:=hA.rng (K.getD x 0).toNat y (by omega) hy
 have v:=(ht.2 x hx).2 (en A (K.getD x 0).toNat y).toNat (by omega)
 have:en (bL t A K) x y=en t x (en A (K.getD x 0).toNat y).toNat:=by
  unfold en at *;rw[row,aT,me _ _ 0 0 _ (by omega)]
 rw[this];exact v
theorem C0{n:Nat}{t:List (List Int)}(h:aB n t)(hn:n<=12):bK t:=⟨by rw[h.1];omega,fun r hr=>by
 obtain⟨x,hx,rfl⟩:=List.getElem_of_mem hr;have:=(h.2 x (by rw[h.1]at hx;exact hx)).1
 rw[bG t [] x hx]at this;omega⟩
def mh(d:Nat)(t:List (List Int))(A:List (List Int))(K:List Int)(out:List (List (List Int))):Post:=⟨ay K<d/\t.length<=12/\aB t.length t/\AuOk t.length A/\A.length<=100/\KOk t.length A.length K/\(∀c,c∈out->aB t.length c)/\out.length+100 ^ ay K<=1099511627775,.c (.ro (.r3 .i64 ((cC t A d K out)))),[]⟩
def nO(d:Nat):List AD->Option Post
 | [.c (.rows .i64 t),.c (.rows .i64 A),.c (.ints .i64 K),.c (.r3 .i64 out)]=>some (mh d t A K out)
 |_=>none
def C3(d:Nat)(t:List (List Int))(A:List (List Int))(K:List Int)(out:List (List (List Int))):Nat->Option Ann
 |0=>some (Ann.mk ((Nat)) (fun x=>⟨[(0,.c (.ro (.rows .i64 t))),(1,.c (.ro (.rows .i64 A))),(2,.c (.ro (.ints .i64 K))),(3,.c (.ro (.r3 .i64 out))),(9,.c (.int .i64 ((x:Int))))],[]⟩) (fun x=>x<=K.length/\(∀j,j<x->0<=K.getD j 0)) (fun x=>K.length-x) (fun _=>av))
 |1004=>some (Ann.mk ((Unit)) (fun u=>⟨[(0,.c (.ro (.rows .i64 t))),(1,.c (.ro (.rows .i64 A))),(2,.c (.ro (.ints .i64 K))),(3,.c (.ro (.r3 .i64 out))),(9,.c (.int .i64 ((aA K:Int))))],[]⟩) (fun u=>True) (fun u=>0) (fun u=>fun b_=>match b_ with|2=>some (Ann.mk ((Nat)) (fun y=>⟨[(0,.c (.ro (.rows .i64 t))),(1,.c (.ro (.rows .i64 A))),(2,.c (.ro (.ints .i64 K))),(3,.c (.ro (.r3 .i64 out))),(9,.c (.int .i64 ((aA K:Int)))),(10,.c (.own 10)),(11,.c (.int .i64 ((y:Int))))],[(10,some (.rows 0 62 2 .i64 ((List.range y).map fun y=>aT (A.getD (K.getD y 0).toNat []) (t.getD y []))))]⟩) (fun y=>y<=t.length/\aA K=K.length) (fun y=>t.length-y) (fun _=>av))|4=>some (Ann.mk ((Nat)) (fun j=>⟨[(0,.c (.ro (.rows .i64 t))),(1,.c (.ro (.rows .i64 A))),(2,.c (.ro (.ints .i64 K))),(3,.c (.ro (.r3 .i64 out))),(9,.c (.int .i64 ((aA K:Int)))),(10,.c (.ro (.rows .i64 (bL t A K)))),(12,.c (.int .i64 ((j:Int))))],[]⟩) (fun j=>j<=out.length/\aA K=K.length/\(∀j1,j1<j->bE (out.getD j1 []) (bL t A K)=true)) (fun j=>out.length-j) (fun _=>av))|1013=>some (Ann.mk ((Unit)) (fun u=>⟨[(3,.c (.ro (.r3 .i64 out))),(10,.c (.ro (.rows .i64 (bL t A K)))),(12,.c (.int .i64 ((co (bL t A K) out:Int))))],[]⟩) (fun u=>aA K=K.length) (fun u=>0) (fun _=>av))|6=>some (Ann.mk ((Nat)) (fun i=>⟨[(0,.c (.ro (.rows .i64 t))),(1,.c (.ro (.rows .i64 A))),(2,.c (.ro (.ints .i64 K))),(3,.c (.ro (.r3 .i64 (dC (dg t A (cC t A (d-1)) K) out i)))),(9,.c (.int .i64 ((aA K:Int)))),(14,.c (.int .i64 ((i:Int))))],[]⟩) (fun i=>i<=A.length/\aA K≠K.length) (fun i=>A.length-i) (fun _=>av))|_=>none))
 |_=>none
def C4(d:Nat):List (Nat×Ctr):=[(189,⟨[],qe⟩),(142,⟨[],qI⟩),(144,⟨[],mE⟩),(190,⟨[],vr⟩),(136,⟨[],nO d⟩)]
def uY(d:Nat)(t:List (List Int))(A:List (List Int))(K:List Int)(out:List (List (List Int))):Prop :=
 (((∃x0:Nat,(x0<=K.length/\∀(j:Nat),j<x0->(0:Int)<=K.getD j (0:Int))/\t=t/\A=A/\K=K/\out=out/\(0:Int)=(x0:Int))/\∀x1:Nat,(x1<=K.length/\∀(j:Nat),j<x1->(0:Int)<=K.getD j (0:Int))->ae (decide ((x1:Int)<(K.length:Int))) (ab (x1:Int) K.length/\ae (decide ((0:Int)<=K.getD (x1:Int).toNat (0:Int))) (ac ((x1:Int)+(1:Int))/\∃x2:Nat,(x2<=K.length/\∀(j:Nat),j<x2->(0:Int)<=K.getD j (0:Int))/\K.length-x2<K.length-x1/\t=t/\A=A/\K=K/\out=out/\(x1:Int)+(1:Int)=(x2:Int)) (∃x3:Unit,True/\t=t/\A=A/\K=K/\out=out/\(x1:Int)=(aA K:Int))) (∃x4:Unit,True/\t=t/\A=A/\K=K/\out=out/\(x1:Int)=(aA K:Int)))/\(∀x5:Unit,(True->(ae ((aA K:Int) == (K.length:Int)) ((∃x6:Nat,(x6<=t.length/\aA K=K.length)/\t=t/\A=A/\K=K/\out=out/\(aA K:Int)=(aA K:Int)/\(0:Int)=(x6:Int)/\([]:List (List Int))=List.map (fun(y:Nat)=>aT (A.getD ((K.getD y (0:Int)).toNat) []) (t.getD y [])) (List.range x6))/\(∀x7:Nat,(x7<=t.length/\aA K=K.length->(ae (decide ((x7:Int)<(t.length:Int))) (ab (x7:Int) K.length/\(ab (K.getD (x7:Int).toNat (0:Int)) A.length/\(ab (x7:Int) t.length/\((((ah ((A.getD ((K.getD (x7:Int).toNat (0:Int)).toNat) []).length)) /\
 (iJ ((t.getD (x7:Int).toNat []).length) (A.getD ((K.getD (x7:Int).toNat (0:Int)).toNat) [])))/\True)/\((ah ((List.map (fun(y:Nat)=>aT (A.getD ((K.getD y (0:Int)).toNat) []) (t.getD y [])) (List.range x7)).length+(aT (A.getD ((K.getD (x7:Int).toNat (0:Int)).toNat) []) (t.getD (x7:Int).toNat [])::([]:List (List Int))).length))/\((ac ((x7:Int)+(1:Int)))/\(∃x8:Nat,(((x8<=t.length)/\(aA K=K.length))/\((t.length-x8<t.length-x7)/\((t=t)/\((A=A)/\((K=K)/\((out=out)/\(((aA K:Int)=(aA K:Int))/\(((x7:Int)+(1:Int)=(x8:Int))/\(List.map (fun(y:Nat)=>aT (A.getD ((K.getD y (0:Int)).toNat) []) (t.getD y [])) (List.range x7)++aT (A.getD ((K.getD (x7:Int).toNat (0:Int)).toNat) []) (t.getD (x7:Int).toNat [])::([]:List (List Int))=List.map (fun(y:Nat)=>aT (A.getD ((K.getD y (0:Int)).toNat) []) (t.getD y [])) (List.range x8))))))))))))))))) (((∃x9:Nat,(((x9<=out.length)/\((aA K=K.length)/\(∀(j1:Nat),j1<x9->bE (out.getD j1 ([]:List (List Int))) (bL t A K)=true)))/\((t=t)/\((A=A)/\((K=K)/\((out=out)/\(((aA K:Int)=(aA K:Int))/\((List.map (fun(y:Nat)=>aT (A.getD ((K.getD y (0:Int)).toNat) []) (t.getD y [])) (List.range x7)=bL t A K)/\((0:Int)=(x9:Int))))))))))/\(∀x10:Nat,(((x10<=out.length)/\((aA K=K.length)/\(∀(j1:Nat),j1<x10->bE (out.getD j1 ([]:List (List Int))) (bL t A K)=true)))->(ae (decide ((x10:Int)<(out.length:Int)))
 ((ab (x10:Int) out.length)/\((((bK (out.getD (x10:Int).toNat ([]:List (List Int))))/\((bK (bL t A K))/\((out.getD (x10:Int).toNat ([]:List (List Int))).length=(bL t A K).length)))/\True)/\(ae (bE (out.getD (x10:Int).toNat ([]:List (List Int))) (bL t A K)) ((ac ((x10:Int)+(1:Int)))/\(∃x11:Nat,(((x11<=out.length)/\((aA K=K.length)/\(∀(j1:Nat),j1<x11->bE (out.getD j1 ([]:List (List Int))) (bL t A K)=true)))/\((out.length-x11<out.length-x10)/\((t=t)/\((A=A)/\((K=K)/\((out=out)/\(((aA K:Int)=(aA K:Int))/\((bL t A K=bL t A K)/\((x10:Int)+(1:Int)=(x11:Int)))))))))))) (∃x12:Unit,((aA K=K.length)/\((out=out)/\((bL t A K=bL t A K)/\((x10:Int)=(↑(co (bL t A K) out):Int))))))))) (∃x13:Unit,((aA K=K.length)/\((out=out)/\((bL t A K=bL t A K)/\((x10:Int)=(↑(co (bL t A K) out):Int))))))))))/\(∀x14:Unit,((aA K=K.length)->((ax out.length (Option.some (↑(co (bL t A K) out):Int)) Option.none)/\((ah (FC.len (FC.r3 IntKind.i64 (bL t A K::([]:List (List (List Int)))))+FC.len (FC.r3 IntKind.i64 (dn out (Option.some (↑(co (bL t A K) out):Int)) Option.none))))/\((ax out.length Option.none (Option.some (↑(co (bL t A K) out):Int)))/\((ah (FC.len (FC.r3 IntKind.i64 ([]:List (List (List Int))))+FC.len (FC.r3 IntKind.i64 (dn out Option.none (Option.some (↑(co (bL t A K) out):Int)))))) /\
 ((ah (FC.len (FC.r3 IntKind.i64 (([]:List (List (List Int)))++dn out Option.none (Option.some (↑(co (bL t A K) out):Int))))+FC.len (FC.r3 IntKind.i64 (bL t A K::([]:List (List (List Int)))++dn out (Option.some (↑(co (bL t A K) out):Int)) Option.none))))/\((([]:List (List (List Int)))++dn out Option.none (Option.some (↑(co (bL t A K) out):Int))++(bL t A K::([]:List (List (List Int)))++dn out (Option.some (↑(co (bL t A K) out):Int)) Option.none)=cC t A (d+(1:Nat)) K out)/\True))))))))))))) ((∃x15:Nat,(((x15<=A.length)/\(aA K≠K.length))/\((t=t)/\((A=A)/\((K=K)/\((out=dC (dg t A (cC t A (d+(1:Nat)-(1:Nat))) K) out x15)/\(((aA K:Int)=(aA K:Int))/\((0:Int)=(x15:Int)))))))))/\(∀x16:Nat,(((x16<=A.length)/\(aA K≠K.length))->(ae (decide ((x16:Int)<(A.length:Int))) (((ah K.length)/\True)/\((ab (aA K:Int) K.length)/\((((t.length<=(12:Nat))/\((aB t.length t)/\((AuOk t.length A)/\((A.length<=(1000000:Nat))/\(KOk t.length A.length (List.set K ((aA K:Int).toNat) (x16:Int)))))))/\True)/\(ae ((dK t A (List.set K ((aA K:Int).toNat) (x16:Int))).2) ((((ay ((dK t A (List.set K ((aA K:Int).toNat) (x16:Int))).1)<d)/\((t.length<=(12:Nat))/\((aB t.length t)/\((AuOk t.length A)/\((A.length<=(100:Nat))/\((KOk t.length A.length ((dK t A (List.set K ((aA K:Int).toNat) (x16:Int))).1)) /\
 ((∀(c:List (List Int)),c∈dC (dg t A (cC t A (d+(1:Nat)-(1:Nat))) K) out x16->aB t.length c)/\((dC (dg t A (cC t A (d+(1:Nat)-(1:Nat))) K) out x16).length+(100:Nat) ^ ay ((dK t A (List.set K ((aA K:Int).toNat) (x16:Int))).1)<=(1099511627775:Nat)))))))))/\True)/\((ac ((x16:Int)+(1:Int)))/\(∃x17:Nat,(((x17<=A.length)/\(aA K≠K.length))/\((A.length-x17<A.length-x16)/\((t=t)/\((A=A)/\((K=K)/\((cC t A d ((dK t A (List.set K ((aA K:Int).toNat) (x16:Int))).1) (dC (dg t A (cC t A (d+(1:Nat)-(1:Nat))) K) out x16)=dC (dg t A (cC t A (d+(1:Nat)-(1:Nat))) K) out x17)/\(((aA K:Int)=(aA K:Int))/\((x16:Int)+(1:Int)=(x17:Int)))))))))))) ((ac ((x16:Int)+(1:Int)))/\(∃x18:Nat,(((x18<=A.length)/\(aA K≠K.length))/\((A.length-x18<A.length-x16)/\((t=t)/\((A=A)/\((K=K)/\((dC (dg t A (cC t A (d+(1:Nat)-(1:Nat))) K) out x16=dC (dg t A (cC t A (d+(1:Nat)-(1:Nat))) K) out x18)/\(((aA K:Int)=(aA K:Int))/\((x16:Int)+(1:Int)=(x18:Int))))))))))))))) ((dC (dg t A (cC t A (d+(1:Nat)-(1:Nat))) K) out x16=cC t A (d+(1:Nat)) K out)/\True)))))))))
theorem Kv(d:Nat)(t:List (List Int))(A:List (List Int))(K:List Int)(out:List (List (List Int))):aY Tryz.prog (aj (C4 d)) am (C3 (d+1) t A K out) Tryz.f136 (aP Tryz.f136) [] [.c (.rows .i64 t),.c (.rows .i64 A),.c (.ints .i64 K),.c (.r3 .i64 out)] (mh (d+1) t A K out)=uY d t A K out:=by kernel_rfl
theorem Kw(d:Nat)(t:List (List Int))(A:List (List Int))(K:List Int)(out:List (List (List Int)))(Yh:(mh (d+1) t A K out).pre):uY d t A K out:=by
 simp only[mh,uY,aX,u1,u2,u3,u4,u5,u6,u7,u8,u9,v1,v2,v3,v4,v5,v6,v7,v8,v9,w1,w2,w3,w4,aN,ab,ac,ah,ax]at Yh⊢;simp only[FC.len,dn,Int.toNat_natCast];obtain⟨h1,h2,h3,h4,h5,h6,h7,h8⟩:=Yh;have kl:=h6.len
 have pl:=mn K
 have p1:1<=100 ^ ay K:=Nat.one_le_pow _ _ (by omega)
 refine⟨⟨⟨0,⟨by omega,fun j h=>by omega⟩,rfl⟩,fun x ⟨hx,ix⟩=>⟨fun g=>⟨by omega,fun q=>⟨by omega,x+1,⟨by omega,fun j hj=>?_⟩,by omega,by omega⟩,fun q=>⟨⟨⟩,?_⟩⟩,fun g=>⟨⟨⟩,?_⟩⟩⟩,fun _ _=>⟨fun hp=>?_,fun hp=>?_⟩⟩
 ·by_cases e:j=x
  ·subst e;exact q
  ·exact ix j (by omega)
 ·rw[vF K x ix hx (fun _=>by omega)]
 ·rw[vF K x ix hx (fun z=>absurd z (by omega))]
 ·have hp:aA K=K.length:=by omega
  have T:=CZ h3 h4 h6 hp
  have PC:=vD (bL t A K) out
  have o7:∀j,j<out.length->aB t.length (out.getD j []):=fun j hj=>h7 _ (bO out [] j hj)
  have e1:aA K=K.length:=hp
  refine⟨⟨0,⟨by omega,e1⟩,rfl,rfl⟩,fun y ⟨hy,_⟩=>⟨fun g=>?_,fun g=>?_⟩⟩
  ·have hk:=qi K hp y (by omega)
   have hr:=h6.rng y (by omega)
   have L:=h4.len (K.getD y 0).toNat (by omega)
   have Lt:=(h3.2 y (by omega)).1
   refine⟨by omega,by omega,by omega,⟨by omega,fun i hi=>?_⟩,by simp;omega,by omega,y+1,⟨by omega,e1⟩,by omega,by omega,?_⟩
   ·have:=h4.rng (K.getD y 0).toNat i (by omega) (by omega)
    rw[Lt];exact this
   ·rw[qZ]
  ·have cT:(List.range y).map (fun y=>aT (A.getD (K.getD y 0).toNat []) (t.getD y []))=bL t A K:=by rw[show y=t.length by omega];rfl
   refine⟨⟨⟨0,⟨by omega,e1,fun j h=>by omega⟩,cT,rfl⟩,fun j ⟨hj,_,ij⟩=>⟨fun g2=>⟨by omega,⟨C0 (o7 j (by omega)) h2,C0 T h2,by rw[(o7 j (by omega)).1,T.1]⟩,fun q=>⟨by omega,j+1,⟨by omega,e1,fun j1 hj1=>?_⟩,by omega,by omega⟩,fun q=>⟨⟨⟩,e1,?_⟩⟩,fun g2=>⟨⟨⟩,e1,?_⟩⟩⟩,fun _ _=>?_⟩
   ·by_cases e:j1=j
    ·subst e;exact q
    ·exact ij j1 (by omega)
   ·rw[vE _ out j ij hj (fun _=>q)]
   ·rw[vE _ out j ij hj (fun z=>absurd z (by omega))]
   ·simp only[List.length_cons,List.length_nil,List.length_append,List.length_take,List.length_drop,List.nil_append]
    refine⟨by omega,by omega,by omega,by omega,by omega,?_⟩
    rw[cC,if_pos hp,fb];rfl
 ·have hp:aA K≠K.length:=by omega
  have hx:aA K<K.length:=by omega
  have NG:=vH hx (i:=0)
  have P:100 ^ ay K=100 ^ (ay K-1)*100:=by rw[<-Nat.pow_succ];congr 1;omega
  have B:∀i,i<=A.length->(∀c,c∈dC (dg t A (cC t A d) K) out i->aB t.length c)/\(dC (dg t A (cC t A d) K) out i).length<=out.length+i*100 ^ (ay K-1):=fun i hi=>by
   constructor
   ·refine vG (P:=fun o=>∀c,c∈o->aB t.length c) h7 i fun j o hj hP=>?_
    unfold dg;split
    ·exact hP
    ·rename_i K' hs
     exact DK h3 h4 (fun K hK hp=>CZ h3 h4 hK hp) d K' o (kI h3 h4 h6 hx (by omega) hs).1 hP
   ·refine vI i fun j o hj=>?_
    unfold dg;split
    ·omega
    ·rename_i K' hs
     have q:=kI h3 h4 h6 hx (by omega) hs
     have a:=DL h3 h4 (M:=100) h5 (by omega) d K' o q.1
     have b:100 ^ ay K'<=100 ^ (ay K-1):=Nat.pow_le_pow_right (by omega) (by omega)
     omega
  refine⟨⟨0,⟨by omega,hp⟩,rfl,rfl⟩,fun i ⟨hi,_⟩=>⟨fun g=>?_,fun g=>?_⟩⟩
  ·obtain⟨B1,B2⟩:=B i hi
   have hk:=h6.set (aA K) (w:=(i:Int)) ⟨by omega,by omega⟩
   have step:∀r,dg t A (cC t A d) K i (dC (dg t A (cC t A d) K) out i)=r->r=dC (dg t A (cC t A d) K) out (i+1):=fun r e=>by rw[dC,e]
   refine⟨by omega,by omega,⟨h2,h3,h4,by omega,hk⟩,fun q=>?_,fun q=>⟨by omega,i+1,⟨by omega,hp⟩,by omega,step _ ?_,by omega⟩⟩
   ·have ok:=Kr q
    have N:=kI h3 h4 h6 hx (i:=i) (by omega) ok
    have b:100 ^ ay (dK t A (K.set (aA K) (i:Int))).1<=100 ^ (ay K-1):=Nat.pow_le_pow_right (by omega) (by omega)
    have c:i*100 ^ (ay K-1)+100 ^ (ay K-1)<=100 ^ (ay K-1)*100:=by
     rw[<-Nat.succ_mul,Nat.mul_comm];exact Nat.mul_le_mul_left _ (by omega)
    refine⟨⟨by omega,h2,h3,h4,h5,N.1,B1,?_⟩,by omega,i+1,⟨by omega,hp⟩,by omega,step _ ?_,by omega⟩
    ·show(dC (dg t A (cC t A d) K) out i).length+_<=_
     omega
    ·exact Kt ok
   ·exact Ku (Ks q)
  ·rw[cC,if_neg hp,show i=A.length by omega];rfl
theorem Kx(t:List (List Int))(A:List (List Int))(K:List Int)(out:List (List (List Int)))(h:(mh 0 t A K out).pre):False:=by
 simp only[mh]at h;omega
theorem Ky(d:Nat):Fits Tryz.prog 136 ⟨[],nO d⟩:=by
 induction d with
 |zero =>
  refine JQ ⟨Tryz.f136,Tryz.func136,by kernel_rfl,by kernel_rfl⟩ (by decide) fun ds p h hp=>?_
  unfold nO at h;split at h
  ·cases h
   exact Kx _ _ _ _  hp
  ·cases h
 |succ d ih =>
  refine Cm (Γ:=aj (C4 d)) (aD DF (aD Eq (aD rp (aD K7 (aD ih aW))))) Tryz.func136 (by kernel_rfl) (by kernel_rfl) (by kernel_rfl) fun ds p h hp=>?_
  unfold nO at h;split at h
  ·cases h
   exact⟨am,C3 _ _ _ _ _ ,by rw[Kv];exact Kw _ _ _ _ _  hp⟩
  ·cases h
def pU(t:List (List Int)):Post:=⟨g9 t=true/\AuOk t.length (aa t)/\(aa t).length<=100/\t.length<=7,.c (.ro (.r3 .i64 (aC t (aa t)))),[]⟩
def uZ:List AD->Option Post
 | [.c (.rows .i64 t)]=>some (pU t)
 |_=>none
def C5(t:List (List Int)):Nat->Option Ann
 |0=>some (Ann.mk ((Nat)) (fun i=>⟨[(0,.c (.ro (.rows .i64 t))),(3,.c (.own 3)),(4,.c (.int .i64 ((i:Int))))],[(3,some (.ints 2 .i64 (List.replicate i (-1))))]⟩) (fun i=>i<=t.length) (fun i=>t.length-i) (fun _=>av))
 |_=>none
def C6:List (Nat×Ctr):=[(137,⟨[],qK⟩),(136,⟨[],nO 12⟩)]
def va(t:List (List Int)):Prop :=
 (∃x0:Nat,x0<=t.length/\t=t/\(0:Int)=(x0:Int)/\[]=List.replicate x0 (-1:Int))/\∀x1:Nat,x1<=t.length->ae (decide ((x1:Int)<(t.length:Int))) (ah ((List.replicate x1 (-1:Int)).length+[(-1:Int)].length)/\ac ((x1:Int)+(1:Int))/\∃x2:Nat,x2<=t.length/\t.length-x2<t.length-x1/\t=t/\(x1:Int)+(1:Int)=(x2:Int)/\List.replicate x1 (-1:Int)++[(-1:Int)]=List.replicate x2 (-1:Int)) (ab (0:Int) ((List.replicate x1 (-1:Int)).length)/\(g9 t=true/\True)/\((ay (List.set (List.replicate x1 (-1:Int)) (0:Nat) (0:Int))<(12:Nat)/\t.length<=(12:Nat)/\aB t.length t/\AuOk t.length (aa t)/\(aa t).length<=(100:Nat)/\KOk t.length (aa t).length (List.set (List.replicate x1 (-1:Int)) (0:Nat) (0:Int))/\(∀(c:List (List Int)),c∈([]:List (List (List Int)))->aB t.length c)/\([]:List (List (List Int))).length+(100:Nat) ^ ay (List.set (List.replicate x1 (-1:Int)) (0:Nat) (0:Int))<=(1099511627775:Nat))/\True)/\cC t (aa t) (12:Nat) (List.set (List.replicate x1 (-1:Int)) (0:Nat) (0:Int)) ([]:List (List (List Int)))=aC t (aa t)/\True)
theorem Kz(t:List (List Int)):aY Tryz.prog (aj C6) am (C5 t) Tryz.f86 (aP Tryz.f86) [] [.c (.rows .i64 t)] (pU t)=va t:=by kernel_rfl
theorem KA(t:List (List Int))(Yh:(pU t).pre):va t:=by
 simp only[pU,va,aX,u1,u2,u3,u4,u5,u6,u7,u8,u9,v1,v2,v3,v4,v5,v6,v7,v8,v9,w1,w2,w3,w4,aN,ab,ac,ah,ax]at Yh⊢;obtain⟨h1,h2,h3,h4⟩:=Yh;obtain⟨q1,q2,q3⟩:=ow h1;have T:aB t.length t:=⟨rfl,fun x hx=>⟨(q3 x hx).1,fun y hy=>by
  have:=(q3 x hx).2 y hy
  have e2:en t x y=(t.getD x []).getD y 0:=rfl
  omega⟩⟩
 refine⟨⟨0,by omega,rfl,rfl⟩,fun i hi=>⟨fun g=>⟨by omega,by omega,i+1,by omega,by omega,by omega,?_⟩,fun g=>?_⟩⟩
 ·rw[List.replicate_succ']
 ·rw[show i=t.length by omega]
  have NG:=DM (n:=t.length) (by omega)
  have P:100 ^ ay ((List.replicate t.length (-1)).set 0 0)<=100 ^ 6:=Nat.pow_le_pow_right (by omega) (by omega)
  exact⟨by omega,h1,⟨by omega,by omega,T,h2,h3,Z0.ok vJ h2,fun c hc=>by simp at hc,by simp;omega⟩,rfl⟩
theorem KB:Fits Tryz.prog 86 ⟨[],uZ⟩:=by
 refine bf (Γ:=aj C6) (aD Es (aD (Ky 12) aW)) Tryz.func86 fun ds p h hp=>?_
 unfold uZ at h;split at h
 ·cases h
  exact⟨am,C5 _ ,by rw[Kz];exact KA _  hp⟩
 ·cases h
theorem C7{n:Nat}{c:List (List Int)}(h:aB n c):aV c<=n*n:=by
 have:=Dj n c fun r hr=>by
  obtain⟨i,hi,rfl⟩:=List.getElem_of_mem hr;have:=(h.2 i (by rw[<-h.1];exact hi)).1
  rw[bG c [] i hi]at this;omega
 rw[h.1]at this;exact this
theorem mi{n:Nat}{c:List (List Int)}(h:aB n c)(hn:n<=12):bK c:=⟨by rw[h.1];omega,fun r hr=>by
 obtain⟨i,hi,rfl⟩:=List.getElem_of_mem hr;have:=(h.2 i (by rw[<-h.1];exact hi)).1
 rw[bG c [] i hi]at this;omega⟩
theorem C8{α:Type}(c:α->Nat)(k:Nat):∀l:List α,(∀x∈l,c x<=k)->de c l<=l.length*k
 | [],_=>by simp[de]
 |x::l,h=>by
  have h1:=h x List.mem_cons_self
  have h2:=C8 c k l fun y hy=>h y (List.mem_cons_of_mem _ hy)
  simp only[de,List.map_cons,List.sum_cons,List.length_cons,Nat.add_mul]at *;omega
theorem KC{n:Nat}{t:List (List Int)}(h:aB n t):jf (n:Int) t:=⟨by rw[h.1],fun i hi=>by
 have hi':i<n:=by rw[<-h.1];exact hi
 obtain⟨a,b⟩:=h.2 i hi';exact⟨by rw[a],fun j hj=>by
  have:=b j (by rw[<-h.1];exact hj)
  have e:en t i j=(t.getD i []).getD j 0:=rfl
  omega⟩⟩
def pV(t:List (List Int)):Post:=⟨f4 t=true/\t.length<=7,.c (.ro (.r3 .i64 (bH t (aa t)))),[]⟩
def vd:List AD->Option Post
 | [.c (.rows .i64 t)]=>some (pV t)
 |_=>none
def C9(t:List (List Int)):Nat->Option Ann
 |0=>some (Ann.mk ((Nat)) (fun i=>⟨[(0,.c (.ro (.rows .i64 t))),(3,.c (.ro (.r3 .i64 (aC t (aa t))))),(4,.c (.ro (.rows .i64 ((aa t))))),(5,.c (.own 600)),(6,.c (.int .i64 ((i:Int))))],[(600,some (.lst 0 22 (.r3 .i64 (((aC t (aa t)).take i).filter (cL (aa t))))))]⟩) (fun i=>i<=(aC t (aa t)).length) (fun i=>(aC t (aa t)).length-i) (fun i=>fun b_=>match b_ with|2=>some (Ann.mk ((Nat)) (fun k=>⟨[(0,.c (.ro (.rows .i64 t))),(3,.c (.ro (.r3 .i64 (aC t (aa t))))),(4,.c (.ro (.rows .i64 ((aa t))))),(5,.c (.own 600)),(6,.c (.int .i64 ((i:Int)))),(7,.c (.bool ((((aa t).take k).all fun f=>!bE (bz ((aC t (aa t)).getD i []) f ((aC t (aa t)).getD i []).length) ((aC t (aa t)).getD i []))))),(8,.c (.int .i64 ((k:Int))))],[(600,some (.lst 0 22 (.r3 .i64 (((aC t (aa t)).take i).filter (cL (aa t))))))]⟩) (fun k=>i<(aC t (aa t)).length/\k<=(aa t).length) (fun k=>(aa t).length-k) (fun _=>av))|_=>none))
 |_=>none
def Da(t:Nat):Bool:=[2000037].contains t
def Db:List (Nat×Ctr):=[(86,⟨[],uZ⟩),(137,⟨[],qK⟩),(143,⟨[],vz⟩),(142,⟨[],qI⟩)]
def fa(t:List (List Int))(x0:Nat):=((aC t (aa t)).getD (↑x0:Int).toNat ([]:List (List Int)))
def iI(t:List (List Int))(x0:Nat):=((aC t (aa t)).getD x0 ([]:List (List Int)))
def ve(t:List (List Int)):Prop :=
 (((g9 t=true/\AuOk t.length (aa t)/\(aa t).length<=(100:Nat)/\t.length<=(7:Nat))/\True)/\((g9 t=true/\True)/\((∃x0:Nat,x0<=(aC t (aa t)).length/\t=t/\aC t (aa t)=aC t (aa t)/\aa t=aa t/\(0:Int)=(x0:Int)/\([]:List (List (List Int)))=List.filter (cL (aa t)) (List.take x0 (aC t (aa t))))/\(∀x1:Nat,(x1<=(aC t (aa t)).length->(ae (decide ((x1:Int)<(↑((aC t (aa t)).length):Int))) ((∃x2:Nat,(x1<(aC t (aa t)).length/\x2<=(aa t).length)/\t=t/\aC t (aa t)=aC t (aa t)/\aa t=aa t/\(x1:Int)=(x1:Int)/\(true=List.all (List.take x2 (aa t)) fun(f:List Int)=>!bE (bz (iI t x1) f (iI t x1).length) (iI t x1))/\(0:Int)=(x2:Int)/\List.filter (cL (aa t)) (List.take x1 (aC t (aa t)))=List.filter (cL (aa t)) (List.take x1 (aC t (aa t))))/\(∀x3:Nat,(x1<(aC t (aa t)).length/\x3<=(aa t).length->(ae (decide ((x3:Int)<(↑((aa t).length):Int))) (ae (List.all (List.take x3 (aa t)) fun(f:List Int)=>!bE (bz ((aC t (aa t)).getD x1 ([]:List (List Int))) f (((aC t (aa t)).getD x1 ([]:List (List Int))).length)) ((aC t (aa t)).getD x1 ([]:List (List Int)))) (ab (x1:Int) ((aC t (aa t)).length)/\(ab (x3:Int) (aa t).length/\(((bK (fa t x1)/\((fa t x1).length<=(144:Nat)/\((jf (↑((fa t x1).length):Int) (fa t x1)) /\
 ((((aa t).getD (x3:Int).toNat []).length=(fa t x1).length)/\(∀(i:Nat),i<((aa t).getD (x3:Int).toNat []).length->(0:Int)<=(List.getD (aa t) (x3:Int).toNat []).getD i (0:Int)/\(List.getD (aa t) (x3:Int).toNat []).getD i (0:Int)<=(↑((fa t x1).length):Int)-(1:Int))))))/\True)/\((ab (x1:Int) ((aC t (aa t)).length))/\((((bK (bz (fa t x1) ((aa t).getD (x3:Int).toNat []) (fa t x1).length))/\((bK (fa t x1))/\((bz (fa t x1) ((aa t).getD (x3:Int).toNat []) (fa t x1).length).length=(fa t x1).length)))/\True)/\((ac ((x3:Int)+(1:Int)))/\(∃x4:Nat,(((x1<(aC t (aa t)).length)/\(x4<=(aa t).length))/\(((aa t).length-x4<(aa t).length-x3)/\((t=t)/\((aC t (aa t)=aC t (aa t))/\((aa t=aa t)/\(((x1:Int)=(x1:Int))/\(((!bE (bz (fa t x1) ((aa t).getD (x3:Int).toNat []) (fa t x1).length) (fa t x1))=List.all (List.take x4 (aa t)) fun(f:List Int)=>!bE (bz (iI t x1) f (iI t x1).length) (iI t x1))/\(((x3:Int)+(1:Int)=(x4:Int))/\(List.filter (cL (aa t)) (List.take x1 (aC t (aa t)))=List.filter (cL (aa t)) (List.take x1 (aC t (aa t))))))))))))))))))) ((ac ((x3:Int)+(1:Int)))/\(∃x5:Nat,(((x1<(aC t (aa t)).length)/\(x5<=(aa t).length))/\(((aa t).length-x5<(aa t).length-x3)/\((t=t)/\((aC t (aa t)=aC t (aa t)) /\
 ((aa t=aa t)/\(((x1:Int)=(x1:Int))/\((false=List.all (List.take x5 (aa t)) fun(f:List Int)=>!bE (bz (iI t x1) f (iI t x1).length) (iI t x1))/\(((x3:Int)+(1:Int)=(x5:Int))/\(List.filter (cL (aa t)) (List.take x1 (aC t (aa t)))=List.filter (cL (aa t)) (List.take x1 (aC t (aa t))))))))))))))) (ae (List.all (List.take x3 (aa t)) fun(f:List Int)=>!bE (bz ((aC t (aa t)).getD x1 ([]:List (List Int))) f (((aC t (aa t)).getD x1 ([]:List (List Int))).length)) ((aC t (aa t)).getD x1 ([]:List (List Int)))) ((ab (x1:Int) ((aC t (aa t)).length))/\((ah (FC.len (FC.r3 IntKind.i64 (List.filter (cL (aa t)) (List.take x1 (aC t (aa t)))))+FC.len (FC.r3 IntKind.i64 ((aC t (aa t)).getD (x1:Int).toNat ([]:List (List Int))::([]:List (List (List Int)))))))/\((ac ((x1:Int)+(1:Int)))/\(∃x6:Nat,((x6<=(aC t (aa t)).length)/\(((aC t (aa t)).length-x6<(aC t (aa t)).length-x1)/\((t=t)/\((aC t (aa t)=aC t (aa t))/\((aa t=aa t)/\(((x1:Int)+(1:Int)=(x6:Int))/\(List.filter (cL (aa t)) (List.take x1 (aC t (aa t)))++(aC t (aa t)).getD (x1:Int).toNat ([]:List (List Int))::([]:List (List (List Int)))=List.filter (cL (aa t)) (List.take x6 (aC t (aa t)))))))))))))) ((ac ((x1:Int)+(1:Int)))/\(∃x7:Nat,((x7<=(aC t (aa t)).length)/\(((aC t (aa t)).length-x7<(aC t (aa t)).length-x1)/\((t=t) /\
 ((aC t (aa t)=aC t (aa t))/\((aa t=aa t)/\(((x1:Int)+(1:Int)=(x7:Int))/\(List.filter (cL (aa t)) (List.take x1 (aC t (aa t)))=List.filter (cL (aa t)) (List.take x7 (aC t (aa t))))))))))))))))) ((List.filter (cL (aa t)) (List.take x1 (aC t (aa t)))=bH t (aa t))/\True)))))))
theorem KD(t:List (List Int)):aY Tryz.prog (aj Db) Da (C9 t) Tryz.f95 (aP Tryz.f95) [] [.c (.rows .i64 t)] (pV t)=ve t:=by kernel_rfl
theorem KF(t:List (List Int))(Yh:(pV t).pre):ve t:=by
 simp only[pV,ve,fa,iI,aX,u1,u2,u3,u4,u5,u6,u7,u8,u9,v1,v2,v3,v4,v5,v6,v7,v8,v9,w1,w2,w3,w4,aN,ab,ac,ah,ax]at Yh⊢;obtain⟨hg,h7⟩:=Yh;have G:=my hg
 have hA:=kL G h7
 have hC:=pI G h7
 have ct:=fun i hi=>nP G h7 (bO (aC t (aa t)) [] i hi)
 have ap:=fun i hi=>gX G h7 (bO (aa t) [] i hi)
 refine⟨⟨qS hg,(mB G.tb G.pos (by omega)).1,by omega,by omega⟩,qS hg,⟨0,by omega,by omega,rfl⟩,fun i hi=>⟨fun hlt=>⟨⟨0,⟨by omega,by omega⟩,by simp,by omega⟩,fun k ⟨_,hk⟩=>?_⟩,fun hge=>?_⟩⟩
 ·have hi1:i<(aC t (aa t)).length:=by omega
  have C:=ct i hi1
  have FS:((aC t (aa t)).take (i+1)).filter (cL (aa t))=((aC t (aa t)).take i).filter (cL (aa t))++(if cL (aa t) ((aC t (aa t)).getD i [])=true then [(aC t (aa t)).getD i []]else []):=by
   rw[<-du _ [] i hi1,List.filter_append];simp only[List.filter_cons,List.filter_nil]
  generalize (aC t (aa t)).getD i []=c at *
  have lc:=C.1
  have AS:∀k,k<(aa t).length->((aa t).take (k+1)).all (fun f=>!bE (bz c f c.length) c)=(((aa t).take k).all (fun f=>!bE (bz c f c.length) c)&&!bE (bz c ((aa t).getD k []) c.length) c):=fun k hk=>by
   rw[<-du _ [] k hk,List.all_append];simp
  refine⟨fun hkl=>?_,fun hkl=>?_⟩
  ·have hk1:k<(aa t).length:=by omega
   have P:=ap k hk1
   have lp:=P.len
   refine⟨fun hb=>⟨by omega,by omega,⟨mi C (by omega),by omega,by rw[lc];exact KC C,by omega,fun j hj=>?_⟩,by omega,⟨?_,mi C (by omega),?_⟩,by omega,k+1,⟨hi1,by omega⟩,by omega,?_,by omega⟩,fun hb=>⟨by omega,k+1,⟨hi1,by omega⟩,by omega,?_,by omega⟩⟩
   ·have:=P.rng j (by omega);rw[lc];omega
   ·rw[lc];exact mi (gy C P).tb (by omega)
   ·rw[lc];exact(gy C P).tb.1
   ·rw[AS k hk1,hb];simp
   ·rw[AS k hk1,hb];simp
  ·have ek:k=(aa t).length:=by omega
   rw[ek,List.take_length];refine⟨fun hb=>⟨by omega,?_,by omega,i+1,by omega,by omega,by omega,?_⟩,fun hb=>⟨by omega,i+1,by omega,by omega,by omega,?_⟩⟩
   ·have:=List.length_filter_le (cL (aa t)) ((aC t (aa t)).take i)
    rw[List.length_take]at this;simp only[FC.len,List.length_singleton];omega
   ·rw[FS,if_pos (show cL (aa t) c=true from hb)]
   ·rw[FS,if_neg (show ¬ cL (aa t) c=true by rw[show cL (aa t) c=false from hb];simp),List.append_nil]
 ·rw[List.take_of_length_le (by omega)];rfl
theorem KG:Fits Tryz.prog 95 ⟨[],vd⟩:=by
 refine bf (Γ:=aj Db) (aD KB (aD Es (aD Lf (aD Eq aW)))) Tryz.func95 fun ds p h hp=>?_
 unfold vd at h;split at h
 ·cases h
  exact⟨Da,C9 _ ,by rw[KD];exact KF _  hp⟩
 ·cases h
def pW(t:List (List Int)):Post:=⟨f4 t=true/\t.length<=7,.c (.ro (.p3 .i64 (bC t (bH t (aa t))))),[]⟩
def vf:List AD->Option Post
 | [.c (.rows .i64 t)]=>some (pW t)
 |_=>none
def Dc(t:List (List Int)):Nat->Option Ann
 |0=>some (Ann.mk ((Nat)) (fun i=>⟨[(0,.c (.ro (.rows .i64 t))),(3,.c (.ro (.r3 .i64 (bH t (aa t))))),(4,.c (.own 600)),(5,.c (.int .i64 ((i:Int))))],[(600,some (.lst 0 39 (.p3 .i64 (bC t ((bH t (aa t)).take i)))))]⟩) (fun i=>i<=(bH t (aa t)).length) (fun i=>(bH t (aa t)).length-i) (fun _=>av))
 |_=>none
def Dd(t:Nat):Bool:=[5000008,5000023,1000023].contains t
def De:List (Nat×Ctr):=[(95,⟨[],vd⟩),(96,⟨[],qb⟩)]
def vg(t:List (List Int)):Prop :=
 ((f4 t=true/\t.length<=(7:Nat))/\True)/\(∃x0:Nat,x0<=(bH t (aa t)).length/\t=t/\bH t (aa t)=bH t (aa t)/\(0:Int)=(x0:Int)/\[]=bC t (List.take x0 (bH t (aa t))))/\∀x1:Nat,x1<=(bH t (aa t)).length->ae (decide ((x1:Int)<(↑((bH t (aa t)).length):Int))) ((bK t/\True)/\ab (x1:Int) ((bH t (aa t)).length)/\ah (FC.len (FC.p3 IntKind.i64 (bC t (List.take x1 (bH t (aa t)))))+FC.len (FC.p3 IntKind.i64 [(t,(bH t (aa t)).getD (x1:Int).toNat ([]:List (List Int)))]))/\ac ((x1:Int)+(1:Int))/\∃x2:Nat,x2<=(bH t (aa t)).length/\(bH t (aa t)).length-x2<(bH t (aa t)).length-x1/\t=t/\bH t (aa t)=bH t (aa t)/\(x1:Int)+(1:Int)=(x2:Int)/\bC t (List.take x1 (bH t (aa t)))++[(t,(bH t (aa t)).getD (x1:Int).toNat ([]:List (List Int)))]=bC t (List.take x2 (bH t (aa t)))) (bC t (List.take x1 (bH t (aa t)))=bC t (bH t (aa t))/\True)
theorem KH(t:List (List Int)):aY Tryz.prog (aj De) Dd (Dc t) Tryz.f51 (aP Tryz.f51) [] [.c (.rows .i64 t)] (pW t)=vg t:=by kernel_rfl
theorem KI(t:List (List Int))(Yh:(pW t).pre):vg t:=by
 simp only[pW,vg,aX,u1,u2,u3,u4,u5,u6,u7,u8,u9,v1,v2,v3,v4,v5,v6,v7,v8,v9,w1,w2,w3,w4,aN,ab,ac,ah,ax]at Yh⊢;obtain⟨hg,h7⟩:=Yh;have G:=my hg
 have hC:=pI G h7
 have hL:(bH t (aa t)).length<=2401:=Nat.le_trans (List.length_filter_le _ _) hC
 refine⟨⟨hg,h7⟩,⟨0,by omega,by omega,rfl⟩,fun i hi=>⟨fun hlt=>⟨mi G.tb (by omega),by omega,?_⟩,fun hge=>?_⟩⟩
 ·have hi1:i<(bH t (aa t)).length:=by omega
  refine⟨?_,by omega,i+1,by omega,by omega,by omega,?_⟩
  ·simp only[FC.len,bC,List.length_map,List.length_take,List.length_singleton];omega
  ·rw[<-du _ [] i hi1,bC,bC,List.map_append];rfl
 ·rw[List.take_of_length_le (by omega)]
theorem KJ:Fits Tryz.prog 51 ⟨[],vf⟩:=by
 refine bf (Γ:=aj De) (aD KG (aD Dz aW)) Tryz.func51 fun ds p h hp=>?_
 unfold vf at h;split at h
 ·cases h
  exact⟨Dd,Dc _ ,by rw[KH];exact KI _  hp⟩
 ·cases h
end Go.Sx
