/- NamD -/
import Derived.Test.YtkmldclpaniclaaGreatCirB
import Derived.Test.YtkmldclpaniclaaGreatGrp
set_option linter.unusedSimpArgs false
set_option linter.unusedVariables false
set_option linter.defProp false
open Go Go.Proofs
namespace Go.Sx
theorem V8{t A:D2}{K:D1}(h:(d4 t A K).2=true):da t A K=some (d4 t A K).1:=by
 unfold d4 at h⊢;cases e:da t A K with
 |none=>rw[e]at h;cases h
 |some x=>rfl
theorem V9{t A:D2}{K:D1}(h:(d4 t A K).2=false):da t A K=none:=by
 unfold d4 at h;cases e:da t A K with
 |none=>rfl
 |some x=>rw[e]at h;cases h
theorem Wa{t A:D2}{rec:D1->D3->D3}{K K':D1}{i:Nat}{o:D3}(h:da t A (K.set (aB K) (i:Int))=some K'):db t A rec K i o=rec K' o:=by unfold db;rw[h]
theorem Wb{t A:D2}{rec:D1->D3->D3}{K:D1}{i:Nat}{o:D3}(h:da t A (K.set (aB K) (i:Int))=none):db t A rec K i o=o:=by unfold db;rw[h]
theorem Ny{n:Nat}{t A:D2}(ht:aA n t)(hA:AuOk n A){K:D1}(hK:KOk n A.length K)(hp:aB K=K.length):aA n (bK t A K):=by
 refine⟨by simp[bK,ht.1],fun x hx=>?_⟩
 have hk:=pG K hp x (by rw[hK.len];exact hx)
 have hr:=hK.rng x hx
 have row:(bK t A K).getD x []=aE (A.getD (K.getD x 0).toNat []) (t.getD x []):=by
  rw[bK];simp[AP,ht.1,hx]
 have L:=hA.len (K.getD x 0).toNat (by omega)
 refine⟨by rw[row,aE,AR,L],fun y hy=>?_⟩
 have r:=hA.rng (K.getD x 0).toNat y (by omega) hy
 have v:=(ht.2 x hx).2 (en A (K.getD x 0).toNat y).toNat (by omega)
 have:en (bK t A K) x y=en t x (en A (K.getD x 0).toNat y).toNat:=by
  unfold en at *;rw[row,aE,jT _ _ 0 0 _ (by omega)]
 rw[this];exact v
theorem E7{n:Nat}{t:D2}(h:aA n t)(hn:n<=12):aS t:=⟨by rw[h.1];omega,fun r hr=>by
 obtain⟨x,hx,rfl⟩:=Aw hr;have:=(h.2 x (by rw[h.1]at hx;exact hx)).1
 rw[bv t [] x hx]at this;omega⟩
def oq(d:Nat)(t:D2)(A:D2)(K:D1)(out:D3):Post:=⟨az K<d/\t.length<=12/\aA t.length t/\AuOk t.length A/\A.length<=100/\KOk t.length A.length K/\(∀c,c∈out->aA t.length c)/\out.length+100 ^ az K<=1099511627775,.c (.ro (.r3 .i64 ((cr t A d K out)))),[]⟩
def pX(d:Nat):List AD->Option Post
 | [.c (.rows .i64 t),.c (.rows .i64 A),.c (.ints .i64 K),.c (.r3 .i64 out)]=>some (oq d t A K out)
 |_=>none
def Nz(d:Nat)(t:D2)(A:D2)(K:D1)(out:D3):Nat->Option Ann
 |0=>Q' fun x=>⟨⟨[(0,G' t),(1,G' A),(2,D' K),(3,I' out),(9,A' x)],[]⟩,(x<=K.length/\(∀j,j<x->0<=K.getD j 0)),K.length-x⟩
 |1004=>some (Ann.mk ((Unit)) (fun u=>⟨[(0,G' t),(1,G' A),(2,D' K),(3,I' out),(9,A' (aB K:Int))],[]⟩) (fun u=>True) (fun u=>0) (fun u=>fun b_=>match b_ with|2=>Q' fun y=>⟨⟨[(0,G' t),(1,G' A),(2,D' K),(3,I' out),(9,A' (aB K:Int)),(10,J' 10),(11,A' y)],[(10,N' (((List.range y).map fun y=>aE (A.getD (K.getD y 0).toNat []) (t.getD y []))))]⟩,y<=t.length/\aB K=K.length,t.length-y⟩|4=>Q' fun j=>⟨⟨[(0,G' t),(1,G' A),(2,D' K),(3,I' out),(9,A' (aB K:Int)),(10,G' (bK t A K)),(12,A' j)],[]⟩,(j<=out.length/\aB K=K.length/\(∀j1,j1<j->ca (out.getD j1 []) (bK t A K)=true)),out.length-j⟩|1013=>some (Ann.mk ((Unit)) (fun u=>⟨[(3,I' out),(10,G' (bK t A K)),(12,A' (cJ (bK t A K) out:Int))],[]⟩) (fun u=>aB K=K.length) (fun u=>0) (fun _=>ar))|6=>Q' fun i=>⟨⟨[(0,G' t),(1,G' A),(2,D' K),(3,I' (dH (db t A (cr t A (d-1)) K) out i)),(9,A' (aB K:Int)),(14,A' i)],[]⟩,i<=A.length/\aB K≠K.length,A.length-i⟩|_=>none))
 |_=>none
def NA(d:Nat):List (Nat×Ctr):=[(189,⟨[],sR⟩),(142,⟨[],zI⟩),(144,⟨[],ot⟩),(190,⟨[],yG⟩),(136,⟨[],pX d⟩)]
def E8(d:Nat)(t:D2)(A:D2)(K:D1)(out:D3):Prop :=
 (((∃x0:Nat,(((x0<=K.length)/\(∀(j:Nat),j<x0->(0:Int)<=K.getD j (0:Int)))/\((t=t)/\((A=A)/\((K=K)/\((out=out)/\((0:Int)=(↑x0:Int))))))))/\(∀x1:Nat,(((x1<=K.length)/\(∀(j:Nat),j<x1->(0:Int)<=K.getD j (0:Int)))->(ab (decide ((↑x1:Int)<(↑(K.length):Int))) ((ac (↑x1:Int) K.length)/\(ab (decide ((0:Int)<=K.getD (↑x1:Int).toNat (0:Int))) ((af ((↑x1:Int)+(1:Int)))/\(∃x2:Nat,(((x2<=K.length)/\(∀(j:Nat),j<x2->(0:Int)<=K.getD j (0:Int)))/\((K.length-x2<K.length-x1)/\((t=t)/\((A=A)/\((K=K)/\((out=out)/\((↑x1:Int)+(1:Int)=(↑x2:Int)))))))))) (∃x3:Unit,(True/\((t=t)/\((A=A)/\((K=K)/\((out=out)/\((↑x1:Int)=(↑(aB K):Int)))))))))) (∃x4:Unit,(True/\((t=t)/\((A=A)/\((K=K)/\((out=out)/\((↑x1:Int)=(↑(aB K):Int))))))))))))/\(∀x5:Unit,(True->(ab ((↑(aB K):Int) == (↑(K.length):Int)) ((∃x6:Nat,(((x6<=t.length)/\(aB K=K.length))/\((t=t)/\((A=A)/\((K=K)/\((out=out)/\(((↑(aB K):Int)=(↑(aB K):Int))/\(((0:Int)=(↑x6:Int))/\(([]:D2)=List.map (fun(y:Nat)=>aE (A.getD ((K.getD y (0:Int)).toNat) []) (t.getD y [])) (List.range x6))))))))))/\(∀x7:Nat,(((x7<=t.length)/\(aB K=K.length))->(ab (decide ((↑x7:Int)<(↑(t.length):Int))) ((ac (↑x7:Int) K.length)/\((ac (K.getD (↑x7:Int).toNat (0:Int)) A.length)/\((ac (↑x7:Int) t.length)/\((((am ((A.getD ((K.getD (↑x7:Int).toNat (0:Int)).toNat) []).length)) /\
 (gv ((t.getD (↑x7:Int).toNat []).length) (A.getD ((K.getD (↑x7:Int).toNat (0:Int)).toNat) [])))/\True)/\((am ((List.map (fun(y:Nat)=>aE (A.getD ((K.getD y (0:Int)).toNat) []) (t.getD y [])) (List.range x7)).length+(aE (A.getD ((K.getD (↑x7:Int).toNat (0:Int)).toNat) []) (t.getD (↑x7:Int).toNat [])::([]:D2)).length))/\((af ((↑x7:Int)+(1:Int)))/\(∃x8:Nat,(((x8<=t.length)/\(aB K=K.length))/\((t.length-x8<t.length-x7)/\((t=t)/\((A=A)/\((K=K)/\((out=out)/\(((↑(aB K):Int)=(↑(aB K):Int))/\(((↑x7:Int)+(1:Int)=(↑x8:Int))/\(List.map (fun(y:Nat)=>aE (A.getD ((K.getD y (0:Int)).toNat) []) (t.getD y [])) (List.range x7)++aE (A.getD ((K.getD (↑x7:Int).toNat (0:Int)).toNat) []) (t.getD (↑x7:Int).toNat [])::([]:D2)=List.map (fun(y:Nat)=>aE (A.getD ((K.getD y (0:Int)).toNat) []) (t.getD y [])) (List.range x8))))))))))))))))) (((∃x9:Nat,(((x9<=out.length)/\((aB K=K.length)/\(∀(j1:Nat),j1<x9->ca (out.getD j1 ([]:D2)) (bK t A K)=true)))/\((t=t)/\((A=A)/\((K=K)/\((out=out)/\(((↑(aB K):Int)=(↑(aB K):Int))/\((List.map (fun(y:Nat)=>aE (A.getD ((K.getD y (0:Int)).toNat) []) (t.getD y [])) (List.range x7)=bK t A K)/\((0:Int)=(↑x9:Int))))))))))/\(∀x10:Nat,(((x10<=out.length)/\((aB K=K.length)/\(∀(j1:Nat),j1<x10->ca (out.getD j1 ([]:D2)) (bK t A K)=true)))->(ab (decide ((↑x10:Int)<(↑(out.length):Int)))
 ((ac (↑x10:Int) out.length)/\((((aS (out.getD (↑x10:Int).toNat ([]:D2)))/\((aS (bK t A K))/\((out.getD (↑x10:Int).toNat ([]:D2)).length=(bK t A K).length)))/\True)/\(ab (ca (out.getD (↑x10:Int).toNat ([]:D2)) (bK t A K)) ((af ((↑x10:Int)+(1:Int)))/\(∃x11:Nat,(((x11<=out.length)/\((aB K=K.length)/\(∀(j1:Nat),j1<x11->ca (out.getD j1 ([]:D2)) (bK t A K)=true)))/\((out.length-x11<out.length-x10)/\((t=t)/\((A=A)/\((K=K)/\((out=out)/\(((↑(aB K):Int)=(↑(aB K):Int))/\((bK t A K=bK t A K)/\((↑x10:Int)+(1:Int)=(↑x11:Int)))))))))))) (∃x12:Unit,((aB K=K.length)/\((out=out)/\((bK t A K=bK t A K)/\((↑x10:Int)=(↑(cJ (bK t A K) out):Int))))))))) (∃x13:Unit,((aB K=K.length)/\((out=out)/\((bK t A K=bK t A K)/\((↑x10:Int)=(↑(cJ (bK t A K) out):Int))))))))))/\(∀x14:Unit,((aB K=K.length)->((bM out.length (Option.some (↑(cJ (bK t A K) out):Int)) Option.none)/\((am (FC.len (FC.r3 IntKind.i64 (bK t A K::([]:D3)))+FC.len (FC.r3 IntKind.i64 (dF out (Option.some (↑(cJ (bK t A K) out):Int)) Option.none))))/\((bM out.length Option.none (Option.some (↑(cJ (bK t A K) out):Int)))/\((am (FC.len (FC.r3 IntKind.i64 ([]:D3))+FC.len (FC.r3 IntKind.i64 (dF out Option.none (Option.some (↑(cJ (bK t A K) out):Int)))))) /\
 ((am (FC.len (FC.r3 IntKind.i64 (([]:D3)++dF out Option.none (Option.some (↑(cJ (bK t A K) out):Int))))+FC.len (FC.r3 IntKind.i64 (bK t A K::([]:D3)++dF out (Option.some (↑(cJ (bK t A K) out):Int)) Option.none))))/\((([]:D3)++dF out Option.none (Option.some (↑(cJ (bK t A K) out):Int))++(bK t A K::([]:D3)++dF out (Option.some (↑(cJ (bK t A K) out):Int)) Option.none)=cr t A (d+(1:Nat)) K out)/\True))))))))))))) ((∃x15:Nat,(((x15<=A.length)/\(aB K≠K.length))/\((t=t)/\((A=A)/\((K=K)/\((out=dH (db t A (cr t A (d+(1:Nat)-(1:Nat))) K) out x15)/\(((↑(aB K):Int)=(↑(aB K):Int))/\((0:Int)=(↑x15:Int)))))))))/\(∀x16:Nat,(((x16<=A.length)/\(aB K≠K.length))->(ab (decide ((↑x16:Int)<(↑(A.length):Int))) (((am K.length)/\True)/\((ac (↑(aB K):Int) K.length)/\((((t.length<=(12:Nat))/\((aA t.length t)/\((AuOk t.length A)/\((A.length<=(1000000:Nat))/\(KOk t.length A.length (List.set K ((↑(aB K):Int).toNat) (↑x16:Int)))))))/\True)/\(ab ((d4 t A (List.set K ((↑(aB K):Int).toNat) (↑x16:Int))).2) ((((az ((d4 t A (List.set K ((↑(aB K):Int).toNat) (↑x16:Int))).1)<d)/\((t.length<=(12:Nat))/\((aA t.length t)/\((AuOk t.length A)/\((A.length<=(100:Nat))/\((KOk t.length A.length ((d4 t A (List.set K ((↑(aB K):Int).toNat) (↑x16:Int))).1)) /\
 ((∀(c:D2),c∈dH (db t A (cr t A (d+(1:Nat)-(1:Nat))) K) out x16->aA t.length c)/\((dH (db t A (cr t A (d+(1:Nat)-(1:Nat))) K) out x16).length+(100:Nat) ^ az ((d4 t A (List.set K ((↑(aB K):Int).toNat) (↑x16:Int))).1)<=(1099511627775:Nat)))))))))/\True)/\((af ((↑x16:Int)+(1:Int)))/\(∃x17:Nat,(((x17<=A.length)/\(aB K≠K.length))/\((A.length-x17<A.length-x16)/\((t=t)/\((A=A)/\((K=K)/\((cr t A d ((d4 t A (List.set K ((↑(aB K):Int).toNat) (↑x16:Int))).1) (dH (db t A (cr t A (d+(1:Nat)-(1:Nat))) K) out x16)=dH (db t A (cr t A (d+(1:Nat)-(1:Nat))) K) out x17)/\(((↑(aB K):Int)=(↑(aB K):Int))/\((↑x16:Int)+(1:Int)=(↑x17:Int)))))))))))) ((af ((↑x16:Int)+(1:Int)))/\(∃x18:Nat,(((x18<=A.length)/\(aB K≠K.length))/\((A.length-x18<A.length-x16)/\((t=t)/\((A=A)/\((K=K)/\((dH (db t A (cr t A (d+(1:Nat)-(1:Nat))) K) out x16=dH (db t A (cr t A (d+(1:Nat)-(1:Nat))) K) out x18)/\(((↑(aB K):Int)=(↑(aB K):Int))/\((↑x16:Int)+(1:Int)=(↑x18:Int))))))))))))))) ((dH (db t A (cr t A (d+(1:Nat)-(1:Nat))) K) out x16=cr t A (d+(1:Nat)) K out)/\True)))))))))
theorem Wc(d:Nat)(t:D2)(A:D2)(K:D1)(out:D3):aM Tryz.prog (ah (NA d)) aj (Nz (d+1) t A K out) Tryz.f136 (aF Tryz.f136) [] [.c (.rows .i64 t),.c (.rows .i64 A),.c (.ints .i64 K),.c (.r3 .i64 out)] (oq (d+1) t A K out)=E8 d t A K out:=by kernel_rfl
theorem Wd(d:Nat)(t:D2)(A:D2)(K:D1)(out:D3)(ξ:(oq (d+1) t A K out).pre):E8 d t A K out:=by
 simp only[oq,E8,aJ]at ξ⊢;simp only[FC.len,dF,Am];obtain⟨h1,h2,h3,h4,h5,h6,h7,h8⟩:=ξ;have kl:=h6.len
 have pl:=mj K
 have p1:1<=100 ^ az K:=DL _ _ (by omega)
 refine⟨⟨⟨0,⟨by omega,fun j h=>by omega⟩,rfl⟩,fun x ⟨hx,ix⟩=>⟨fun g=>⟨by omega,fun q=>⟨by omega,x+1,⟨by omega,fun j hj=>?_⟩,by omega,by omega⟩,fun q=>⟨⟨⟩,?_⟩⟩,fun g=>⟨⟨⟩,?_⟩⟩⟩,fun _ _=>⟨fun hp=>?_,fun hp=>?_⟩⟩
 ·by_cases e:j=x
  ·subst e;exact q
  ·exact ix j (by omega)
 ·rw[zB K x ix hx (fun _=>by omega)]
 ·rw[zB K x ix hx (fun z=>absurd z (by omega))]
 ·have hp:aB K=K.length:=by omega
  have T:=Ny h3 h4 h6 hp
  have PC:=zy (bK t A K) out
  have o7:∀j,j<out.length->aA t.length (out.getD j []):=fun j hj=>h7 _ (bI out [] j hj)
  have e1:aB K=K.length:=hp
  refine⟨⟨0,⟨by omega,e1⟩,rfl,rfl⟩,fun y ⟨hy,_⟩=>⟨fun g=>?_,fun g=>?_⟩⟩
  ·have hk:=pG K hp y (by omega)
   have hr:=h6.rng y (by omega)
   have L:=h4.len (K.getD y 0).toNat (by omega)
   have Lt:=(h3.2 y (by omega)).1
   refine⟨by omega,by omega,by omega,⟨by omega,fun i hi=>?_⟩,by simp;omega,by omega,y+1,⟨by omega,e1⟩,by omega,by omega,?_⟩
   ·have:=h4.rng (K.getD y 0).toNat i (by omega) (by omega)
    rw[Lt];exact this
   ·rw[tS]
  ·have cT:(List.range y).map (fun y=>aE (A.getD (K.getD y 0).toNat []) (t.getD y []))=bK t A K:=by rw[show y=t.length by omega];rfl
   refine⟨⟨⟨0,⟨by omega,e1,fun j h=>by omega⟩,cT,rfl⟩,fun j ⟨hj,_,ij⟩=>⟨fun g2=>⟨by omega,⟨E7 (o7 j (by omega)) h2,E7 T h2,by rw[(o7 j (by omega)).1,T.1]⟩,fun q=>⟨by omega,j+1,⟨by omega,e1,fun j1 hj1=>?_⟩,by omega,by omega⟩,fun q=>⟨⟨⟩,e1,?_⟩⟩,fun g2=>⟨⟨⟩,e1,?_⟩⟩⟩,fun _ _=>?_⟩
   ·by_cases e:j1=j
    ·subst e;exact q
    ·exact ij j1 (by omega)
   ·rw[zA _ out j ij hj (fun _=>q)]
   ·rw[zA _ out j ij hj (fun z=>absurd z (by omega))]
   ·simp only[AS,Bn,Ag,AT,BG,Ba]
    refine⟨by omega,by omega,by omega,by omega,by omega,?_⟩
    rw[cr,AA hp,fJ];rfl
 ·have hp:aB K≠K.length:=by omega
  have hx:aB K<K.length:=by omega
  have NG:=zC hx (i:=0)
  have P:100 ^ az K=100 ^ (az K-1)*100:=by rw[<-CJ];congr 1;omega
  have B:∀i,i<=A.length->(∀c,c∈dH (db t A (cr t A d) K) out i->aA t.length c)/\(dH (db t A (cr t A d) K) out i).length<=out.length+i*100 ^ (az K-1):=fun i hi=>by
   constructor
   ·refine sW (P:=fun o=>∀c,c∈o->aA t.length c) h7 i fun j o hj hP=>?_
    unfold db;split
    ·exact hP
    ·rename_i K' hs
     exact zD h3 h4 (fun K hK hp=>Ny h3 h4 hK hp) d K' o (kT h3 h4 h6 hx (by omega) hs).1 hP
   ·refine zE i fun j o hj=>?_
    unfold db;split
    ·omega
    ·rename_i K' hs
     have q:=kT h3 h4 h6 hx (by omega) hs
     have a:=K0 h3 h4 (M:=100) h5 (by omega) d K' o q.1
     have b:100 ^ az K'<=100 ^ (az K-1):=Ca (by omega) (by omega)
     omega
  refine⟨⟨0,⟨by omega,hp⟩,rfl,rfl⟩,fun i ⟨hi,_⟩=>⟨fun g=>?_,fun g=>?_⟩⟩
  ·obtain⟨B1,B2⟩:=B i hi
   have hk:=h6.set (aB K) (w:=(i:Int)) ⟨by omega,by omega⟩
   have step:∀r,db t A (cr t A d) K i (dH (db t A (cr t A d) K) out i)=r->r=dH (db t A (cr t A d) K) out (i+1):=fun r e=>by rw[dH,e]
   refine⟨by omega,by omega,⟨h2,h3,h4,by omega,hk⟩,fun q=>?_,fun q=>⟨by omega,i+1,⟨by omega,hp⟩,by omega,step _ ?_,by omega⟩⟩
   ·have ok:=V8 q
    have N:=kT h3 h4 h6 hx (i:=i) (by omega) ok
    have b:100 ^ az (d4 t A (K.set (aB K) (i:Int))).1<=100 ^ (az K-1):=Ca (by omega) (by omega)
    have c:i*100 ^ (az K-1)+100 ^ (az K-1)<=100 ^ (az K-1)*100:=by
     rw[<-Cy,CK];exact Cn _ (by omega)
    refine⟨⟨by omega,h2,h3,h4,h5,N.1,B1,?_⟩,by omega,i+1,⟨by omega,hp⟩,by omega,step _ ?_,by omega⟩
    ·show(dH (db t A (cr t A d) K) out i).length+_<=_
     omega
    ·exact Wa ok
   ·exact Wb (V9 q)
  ·rw[cr,AB hp,show i=A.length by omega];rfl
theorem We(t:D2)(A:D2)(K:D1)(out:D3)(h:(oq 0 t A K out).pre):False:=by
 simp only[oq]at h;omega
theorem Wf(d:Nat):Fits Tryz.prog 136 ⟨[],pX d⟩:=by
 induction d with
 |zero =>
  refine Q0 ⟨Tryz.f136,Tryz.func136,by kernel_rfl,by kernel_rfl⟩ (by decide) fun ds p h hp=>?_
  unfold pX at h;split at h
  ·cases h
   exact We _ _ _ _  hp
  ·cases h
 |succ d ih =>
  refine wT (Γ:=ah (NA d)) (aw KT (aw Uo (aw ur (aw Tc (aw ih aI))))) Tryz.func136 (by kernel_rfl) (by kernel_rfl) (by kernel_rfl) fun ds p h hp=>?_
  unfold pX at h;split at h
  ·cases h
   exact⟨aj,Nz _ _ _ _ _ ,by rw[Wc];exact Wd _ _ _ _ _  hp⟩
  ·cases h
def E9:List AD->Option Post
 | [.c (.rows .i64 t)]=>some ⟨cj t=true/\AuOk t.length (aa t)/\(aa t).length<=100/\t.length<=7,.c (.ro (.r3 .i64 (bw t (aa t)))),[]⟩
 |_=>none
def NB(t:D2):Nat->Option Ann
 |0=>Q' fun i=>⟨⟨[(0,G' t),(3,J' 3),(4,A' i)],[(3,O' (List.replicate i (-1)))]⟩,i<=t.length,t.length-i⟩
 |_=>none
theorem Wi:Fits Tryz.prog 86 ⟨[],E9⟩:=by
 refine ffv (Γ:=ah [(137,⟨[],zK⟩),(136,⟨[],pX 12⟩)]) (aw Ur (aw (Wf 12) aI)) Tryz.func86 fun ds p h ξ=>?_
 unfold E9 at h;split at h<;>cases h
 rename_i t
 refine⟨aj,NB t,(∃x0:Nat,x0<=t.length/\t=t/\(0:Int)=(x0:Int)/\[]=List.replicate x0 (-1:Int))/\∀x1:Nat,x1<=t.length->ab (decide ((x1:Int)<(t.length:Int))) (am ((List.replicate x1 (-1:Int)).length+[(-1:Int)].length)/\af ((x1:Int)+(1:Int))/\∃x2:Nat,x2<=t.length/\t.length-x2<t.length-x1/\t=t/\(x1:Int)+(1:Int)=(x2:Int)/\List.replicate x1 (-1:Int)++[(-1:Int)]=List.replicate x2 (-1:Int)) (ac (0:Int) ((List.replicate x1 (-1:Int)).length)/\(cj t=true/\True)/\((az (List.set (List.replicate x1 (-1:Int)) (0:Nat) (0:Int))<(12:Nat)/\t.length<=(12:Nat)/\aA t.length t/\AuOk t.length (aa t)/\(aa t).length<=(100:Nat)/\KOk t.length (aa t).length (List.set (List.replicate x1 (-1:Int)) (0:Nat) (0:Int))/\(∀(c:D2),c∈([]:D3)->aA t.length c)/\([]:D3).length+(100:Nat) ^ az (List.set (List.replicate x1 (-1:Int)) (0:Nat) (0:Int))<=(1099511627775:Nat))/\True)/\cr t (aa t) (12:Nat) (List.set (List.replicate x1 (-1:Int)) (0:Nat) (0:Int)) ([]:D3)=bw t (aa t)/\True),by kernel_rfl,?_⟩
 simp only[aJ]at ξ⊢;obtain⟨h1,h2,h3,h4⟩:=ξ;obtain⟨q1,q2,q3⟩:=iN h1;have T:aA t.length t:=⟨rfl,fun x hx=>⟨(q3 x hx).1,fun y hy=>by
  have:=(q3 x hx).2 y hy
  have e2:en t x y=(t.getD x []).getD y 0:=rfl
  omega⟩⟩
 refine⟨⟨0,by omega,rfl,rfl⟩,fun i hi=>⟨fun g=>⟨by omega,by omega,i+1,by omega,by omega,by omega,?_⟩,fun g=>?_⟩⟩
 ·rw[List.replicate_succ']
 ·rw[show i=t.length by omega]
  have NG:=zF (n:=t.length) (by omega)
  have P:100 ^ az ((List.replicate t.length (-1)).set 0 0)<=100 ^ 6:=Ca (by omega) (by omega)
  exact⟨by omega,h1,⟨by omega,by omega,T,h2,h3,Z0.ok pH h2,fun c hc=>by simp at hc,by simp;omega⟩,rfl⟩
def bQ(n i:Nat)(f:Nat->Nat->Int):D2:=(List.range i).map fun x=>au n (f x)
theorem Fb(n i:Nat)(f:Nat->Nat->Int):bQ n (i+1) f=bQ n i f++[au n (f i)]:=tS _ _
theorem Fc(n i:Nat)(f:Nat->Nat->Int):(bQ n i f).length=i:=by simp[bQ]
theorem uk{x a m:Nat}(h:x<a*m)(hm:1<=m):(x:Int).tdiv (m:Int)=((x / m:Nat):Int)/\(x:Int).tmod (m:Int)=((x % m:Nat):Int)/\x / m<a/\x % m<m:=by
 refine⟨?_,?_,(Nat.div_lt_iff_lt_mul (by omega)).2 h,Nat.mod_lt _ (by omega)⟩
 ·rw[Dv (by omega)];rfl
 ·rw[Ds (by omega)];rfl
def d8(n:Int)(x y:Nat):Int:=((x:Int)+(y:Int)).tmod n
def ai(n:Int):D2:=b9 n.toNat (d8 n)
def Fd:List AD->Option Post
 | [.c (.int .i64 n)]=>some ⟨1<=n/\n<=12,.c (.rows 62 2 .i64 (ai n)),[]⟩
 |_=>none
def ND(n:Int):Nat->Option Ann
 |0=>T' (fun i=>⟨⟨[(0,A' n),(3,J' 3),(4,A' i)],[(3,N' (bQ n.toNat i (d8 n)))]⟩,(i:Int)<=n,n.toNat-i⟩) (fun i b_=>match b_ with|2=>Q' fun j=>⟨⟨[(0,A' n),(3,J' 3),(4,A' i),(5,J' 5),(6,A' j)],[(3,N' (bQ n.toNat i (d8 n))),(5,O' (au j (d8 n i)))]⟩,(i:Int)<n/\(j:Int)<=n,n.toNat-j⟩|_=>none)
 |_=>none
theorem Wl:Fits Tryz.prog 167 ⟨[],Fd⟩:=by
 refine ffv (Γ:=ah []) aI Tryz.func167 fun ds p h ξ=>?_
 unfold Fd at h;split at h<;>cases h
 rename_i n
 refine⟨aj,ND n,(∃x0:Nat,(x0:Int)<=n/\n=n/\(0:Int)=(x0:Int)/\([]:D2)=bQ n.toNat x0 (d8 n))/\∀x1:Nat,(x1:Int)<=n->ab (decide ((x1:Int)<n)) ((∃x2:Nat,((x1:Int)<n/\(x2:Int)<=n)/\n=n/\(x1:Int)=(x1:Int)/\(0:Int)=(x2:Int)/\bQ n.toNat x1 (d8 n)=bQ n.toNat x1 (d8 n)/\[]=au x2 (d8 n x1))/\∀x3:Nat,(x1:Int)<n/\(x3:Int)<=n->ab (decide ((x3:Int)<n)) (af ((x1:Int)+(x3:Int))/\n≠(0:Int)/\am ((au x3 (d8 n x1)).length+[Int.tmod ((x1:Int)+(x3:Int)) n].length)/\af ((x3:Int)+(1:Int))/\∃x4:Nat,((x1:Int)<n/\(x4:Int)<=n)/\n.toNat-x4<n.toNat-x3/\n=n/\(x1:Int)=(x1:Int)/\(x3:Int)+(1:Int)=(x4:Int)/\bQ n.toNat x1 (d8 n)=bQ n.toNat x1 (d8 n)/\au x3 (d8 n x1)++[Int.tmod ((x1:Int)+(x3:Int)) n]=au x4 (d8 n x1)) (am ((bQ n.toNat x1 (d8 n)).length+(au x3 (d8 n x1)::([]:D2)).length)/\af ((x1:Int)+(1:Int))/\∃x5:Nat,(x5:Int)<=n/\n.toNat-x5<n.toNat-x1/\n=n/\(x1:Int)+(1:Int)=(x5:Int)/\bQ n.toNat x1 (d8 n)++au x3 (d8 n x1)::([]:D2)=bQ n.toNat x5 (d8 n))) (bQ n.toNat x1 (d8 n)=ai n/\True),by kernel_rfl,?_⟩
 simp only[aJ]at ξ⊢;refine⟨⟨0,by omega,rfl,rfl⟩,fun i hi=>⟨fun h=>⟨⟨0,⟨by omega,by omega⟩,rfl,rfl⟩,fun j ⟨_,hj⟩=>⟨fun g=>⟨by omega,by omega,by rw[ep];omega,by omega,j+1,⟨by omega,by omega⟩,by omega,by omega,?_⟩,fun g=>⟨by rw[Fc];omega,by omega,i+1,by omega,by omega,by omega,?_⟩⟩⟩,fun h=>?_⟩⟩
 ·rw[tab_succ'];rfl
 ·rw[Fb,show j=n.toNat by omega]
 ·rw[show i=n.toNat by omega];rfl
def dI(a b:D2)(x y:Nat):Int :=
 en a ((x:Int).tdiv (b.length:Int)).toNat ((y:Int).tdiv (b.length:Int)).toNat*(b.length:Int)+en b ((x:Int).tmod (b.length:Int)).toNat ((y:Int).tmod (b.length:Int)).toNat
def bq(a b:D2):D2:=b9 (a.length*b.length) (dI a b)
theorem Wm{a b:D2}(ha:aA a.length a)(hb:aA b.length b)(h1:1<=b.length){x y:Nat}(hx:x<a.length*b.length)(hy:y<a.length*b.length):0<=dI a b x y/\dI a b x y<((a.length*b.length:Nat):Int):=by
 obtain⟨x1,x2,x3,x4⟩:=uk hx h1;obtain⟨y1,y2,y3,y4⟩:=uk hy h1;have A:=(ha.2 _ x3).2 _ y3
 have B:=(hb.2 _ x4).2 _ y4
 rw[dI,x1,x2,y1,y2];simp only[Am];generalize en a (x / b.length) (y / b.length)=u at *
 generalize en b (x % b.length) (y % b.length)=v at *
 have:u*(b.length:Int)<=((a.length:Int)-1)*(b.length:Int):=Int.mul_le_mul_of_nonneg_right (by omega) (by omega)
 have h0:0<=u*(b.length:Int):=Int.mul_nonneg A.1 (by omega)
 rw[Int.sub_mul]at this;rw[Dd];omega
def Ff:List AD->Option Post
 | [.c (.rows .i64 a),.c (.rows .i64 b)]=>some ⟨aA a.length a/\aA b.length b/\1<=b.length/\a.length<=144/\b.length<=144,.c (.rows 62 2 .i64 (bq a b)),[]⟩
 |_=>none
def NF(a:D2)(b:D2):Nat->Option Ann
 |0=>T' (fun i=>⟨⟨[(0,G' a),(1,G' b),(5,A' a.length),(6,A' b.length),(7,J' 7),(8,A' i)],[(7,N' (bQ (a.length*b.length) i (dI a b)))]⟩,i<=a.length*b.length,a.length*b.length-i⟩) (fun i b_=>match b_ with|2=>Q' fun j=>⟨⟨[(0,G' a),(1,G' b),(5,A' a.length),(6,A' b.length),(7,J' 7),(8,A' i),(9,J' 9),(10,A' j)],[(7,N' (bQ (a.length*b.length) i (dI a b))),(9,O' (au j (dI a b i)))]⟩,i<a.length*b.length/\j<=a.length*b.length,a.length*b.length-j⟩|_=>none)
 |_=>none
def gz(b:D2)(x0:Nat):=(Int.tdiv (↑x0:Int) (↑(b.length):Int))
def kZ(b:D2)(x0:Nat):=((Int.tmod (↑x0:Int) (↑(b.length):Int)).toNat)
theorem Wp:Fits Tryz.prog 168 ⟨[],Ff⟩:=by
 refine ffv (Γ:=ah []) aI Tryz.func168 fun ds p h ξ=>?_
 unfold Ff at h;split at h<;>cases h
 rename_i a b
 refine⟨aj,NF a b,(∃x0:Nat,x0<=a.length*b.length/\a=a/\b=b/\(a.length:Int)=(a.length:Int)/\(b.length:Int)=(b.length:Int)/\(0:Int)=(x0:Int)/\([]:D2)=bQ (a.length*b.length) x0 (dI a b))/\∀x1:Nat,x1<=a.length*b.length->af ((a.length:Int)*(b.length:Int))/\ab (decide ((x1:Int)<(a.length:Int)*(b.length:Int))) ((∃x2:Nat,(x1<a.length*b.length/\x2<=a.length*b.length)/\a=a/\b=b/\(a.length:Int)=(a.length:Int)/\(b.length:Int)=(b.length:Int)/\(x1:Int)=(x1:Int)/\(0:Int)=(x2:Int)/\bQ (a.length*b.length) x1 (dI a b)=bQ (a.length*b.length) x1 (dI a b)/\[]=au x2 (dI a b x1))/\∀x3:Nat,x1<a.length*b.length/\x3<=a.length*b.length->af ((a.length:Int)*(b.length:Int))/\ab (decide ((x3:Int)<(a.length:Int)*(b.length:Int))) (((b.length:Int)≠(0:Int)/\af (gz b x1))/\ac (gz b x1) a.length/\((b.length:Int)≠(0:Int)/\af (gz b x3))/\ac (gz b x3) ((a.getD (gz b x1).toNat []).length)/\af ((List.getD a (gz b x1).toNat []).getD (gz b x3).toNat (0:Int)*(b.length:Int))/\(b.length:Int)≠(0:Int)/\ac (Int.tmod (x1:Int) (b.length:Int)) b.length/\(b.length:Int)≠(0:Int)/\ac (Int.tmod (x3:Int) (b.length:Int)) ((b.getD (kZ b x1) []).length)/\af ((List.getD a (gz b x1).toNat []).getD (gz b x3).toNat (0:Int)*(b.length:Int)+(List.getD b (kZ b x1) []).getD (kZ b x3) (0:Int))/\am ((au x3 (dI a b x1)).length+[(List.getD a (gz b x1).toNat []).getD (gz b x3).toNat (0:Int)*(b.length:Int)+(List.getD b (kZ b x1) []).getD (kZ b x3) (0:Int)].length)/\af ((x3:Int)+(1:Int))/\∃x4:Nat,(x1<a.length*b.length/\x4<=a.length*b.length)/\a.length*b.length-x4<a.length*b.length-x3/\a=a/\b=b/\(a.length:Int)=(a.length:Int)/\(b.length:Int)=(b.length:Int)/\(x1:Int)=(x1:Int)/\(x3:Int)+(1:Int)=(x4:Int)/\bQ (a.length*b.length) x1 (dI a b)=bQ (a.length*b.length) x1 (dI a b)/\au x3 (dI a b x1)++[(List.getD a (gz b x1).toNat []).getD (gz b x3).toNat (0:Int)*(b.length:Int)+(List.getD b (kZ b x1) []).getD (kZ b x3) (0:Int)]=au x4 (dI a b x1)) (am ((bQ (a.length*b.length) x1 (dI a b)).length+(au x3 (dI a b x1)::([]:D2)).length)/\af ((x1:Int)+(1:Int))/\∃x5:Nat,x5<=a.length*b.length/\a.length*b.length-x5<a.length*b.length-x1/\a=a/\b=b/\(a.length:Int)=(a.length:Int)/\(b.length:Int)=(b.length:Int)/\(x1:Int)+(1:Int)=(x5:Int)/\bQ (a.length*b.length) x1 (dI a b)++au x3 (dI a b x1)::([]:D2)=bQ (a.length*b.length) x5 (dI a b))) (bQ (a.length*b.length) x1 (dI a b)=bq a b/\True),by kernel_rfl,?_⟩
 simp only[gz,kZ,aJ]at ξ⊢;obtain⟨h1,h2,h3,h4,h5⟩:=ξ;have hm:a.length*b.length<=144*144:=Be h4 h5
 have hc:(a.length:Int)*(b.length:Int)=((a.length*b.length:Nat):Int):=by rw[Dd]
 rw[hc];generalize hN:a.length*b.length=N at *
 refine⟨⟨0,by omega,rfl,rfl⟩,fun i hi=>⟨by omega,fun h=>⟨⟨0,⟨by omega,by omega⟩,rfl,rfl⟩,fun j ⟨_,hj⟩=>⟨by omega,fun g=>?_,fun g=>⟨by rw[Fc];omega,by omega,i+1,by omega,by omega,by omega,?_⟩⟩⟩,fun h=>?_⟩⟩
 ·obtain⟨x1,x2,x3,x4⟩:=uk (x:=i) (a:=a.length) (m:=b.length) (by omega) h3
  obtain⟨y1,y2,y3,y4⟩:=uk (x:=j) (a:=a.length) (m:=b.length) (by omega) h3
  have A:=(h1.2 _ x3)
  have B:=(h2.2 _ x4)
  have A2:=A.2 _ y3
  have B2:=B.2 _ y4
  have P:=Wm h1 h2 h3 (x:=i) (y:=j) (by omega) (by omega)
  have TS:au (j+1) (dI a b i)=au j (dI a b i)++[dI a b i j]:=tab_succ' _ _
  rw[dI,x1,x2,y1,y2]at P TS;rw[x1,x2,y1,y2];simp only[Am]at P TS⊢;have A3:((a.getD (i / b.length) []).getD (j / b.length) 0)=en a (i / b.length) (j / b.length):=rfl
  have B3:((b.getD (i % b.length) []).getD (j % b.length) 0)=en b (i % b.length) (j % b.length):=rfl
  rw[A3,B3];have u0:0<=en a (i / b.length) (j / b.length)*(b.length:Int):=Int.mul_nonneg A2.1 (by omega)
  have eb:=h2.1
  clear x1 x2 y1 y2;generalize i / b.length=u1 at *
  generalize j / b.length=u2 at *
  generalize i % b.length=v1 at *
  generalize j % b.length=v2 at *
  refine⟨⟨by omega,by omega⟩,by omega,⟨by omega,by omega⟩,by omega,by omega,by omega,by omega,by omega,by omega,by omega,by rw[ep];omega,by omega,j+1,⟨by omega,by omega⟩,by omega,by omega,TS.symm⟩
 ·rw[Fb,show j=N by omega]
 ·rw[show i=N by omega,bq,hN];rfl
def bD(n s:Int)(x y:Nat):Int :=
 if(x:Int)<n/\(y:Int)<n then((x:Int).tmod n+(y:Int).tmod n).tmod n
 else if(x:Int)<n then n+((x:Int).tmod n+(y:Int).tmod n).tmod n
 else if(y:Int)<n then n+((x:Int).tmod n-(y:Int).tmod n+n).tmod n
 else((x:Int).tmod n-(y:Int).tmod n+n+s).tmod n
def cu(n s:Int):D2:=b9 (2*n).toNat (bD n s)
theorem NI(x:Nat){n:Int}(h:1<=n):0<=(x:Int).tmod n/\(x:Int).tmod n<n:=⟨DM _ (by omega),DN _ (by omega)⟩
theorem NJ{x:Int}{n:Int}(h0:0<=x)(h:1<=n):0<=x.tmod n/\x.tmod n<n:=⟨DM _ h0,DN _ (by omega)⟩
def Fh:List AD->Option Post
 | [.c (.int .i64 n),.c (.int .i64 s)]=>some ⟨1<=n/\n<=12/\0<=s/\s<=12,.c (.rows 62 2 .i64 (cu n s)),[]⟩
 |_=>none
def NK(n:Int)(s:Int):Nat->Option Ann
 |0=>T' (fun i=>⟨⟨[(0,A' n),(1,A' s),(5,J' 11),(6,A' i)],[(11,N' ((bQ (2*n).toNat i (bD n s))))]⟩,(i:Int)<=2*n,(2*n).toNat-i⟩) (fun i b_=>match b_ with|2=>Q' fun j=>⟨⟨[(0,A' n),(1,A' s),(5,J' 11),(6,A' i),(7,J' 18),(8,A' j)],[(11,N' ((bQ (2*n).toNat i (bD n s)))),(18,O' (au j (bD n s i)))]⟩,(i:Int)<2*n/\(j:Int)<=2*n,(2*n).toNat-j⟩|_=>none)
 |_=>none
def iZ(n:Int)(x0:Nat)(x1:Nat):=(Int.tmod (↑x0:Int) n-Int.tmod (↑x1:Int) n+n)
def iw(n:Int)(x0:Nat)(x1:Nat):=(Int.tmod (↑x0:Int) n+Int.tmod (↑x1:Int) n)
theorem Ws:Fits Tryz.prog 169 ⟨[],Fh⟩:=by
 refine ffv (Γ:=ah []) aI Tryz.func169 fun ds p h ξ=>?_
 unfold Fh at h;split at h<;>cases h
 rename_i n s
 refine⟨aj,NK n s,(∃x0:Nat,(x0:Int)<=(2:Int)*n/\n=n/\s=s/\(0:Int)=(x0:Int)/\([]:D2)=bQ (((2:Int)*n).toNat) x0 (bD n s))/\∀x1:Nat,(x1:Int)<=(2:Int)*n->af ((2:Int)*n)/\ab (decide ((x1:Int)<(2:Int)*n)) ((∃x2:Nat,((x1:Int)<(2:Int)*n/\(x2:Int)<=(2:Int)*n)/\n=n/\s=s/\(x1:Int)=(x1:Int)/\(0:Int)=(x2:Int)/\bQ (((2:Int)*n).toNat) x1 (bD n s)=bQ (((2:Int)*n).toNat) x1 (bD n s)/\[]=au x2 (bD n s x1))/\∀x3:Nat,(x1:Int)<(2:Int)*n/\(x3:Int)<=(2:Int)*n->af ((2:Int)*n)/\ab (decide ((x3:Int)<(2:Int)*n)) (n≠(0:Int)/\n≠(0:Int)/\ab (decide ((x1:Int)<n)) (ab (decide ((x3:Int)<n)) (af (iw n x1 x3)/\n≠(0:Int)/\am ((au x3 (bD n s x1)).length+[Int.tmod (iw n x1 x3) n].length)/\af ((x3:Int)+(1:Int))/\∃x4:Nat,((x1:Int)<(2:Int)*n/\(x4:Int)<=(2:Int)*n)/\((2:Int)*n).toNat-x4<((2:Int)*n).toNat-x3/\n=n/\s=s/\(x1:Int)=(x1:Int)/\(x3:Int)+(1:Int)=(x4:Int)/\bQ (((2:Int)*n).toNat) x1 (bD n s)=bQ (((2:Int)*n).toNat) x1 (bD n s)/\au x3 (bD n s x1)++[Int.tmod (iw n x1 x3) n]=au x4 (bD n s x1)) (ab (decide ((x1:Int)<n)) (af (iw n x1 x3)/\n≠(0:Int)/\af (n+Int.tmod (iw n x1 x3) n)/\am ((au x3 (bD n s x1)).length+[n+Int.tmod (iw n x1 x3) n].length)/\af ((x3:Int)+(1:Int))/\∃x5:Nat,((x1:Int)<(2:Int)*n/\(x5:Int)<=(2:Int)*n)/\((2:Int)*n).toNat-x5<((2:Int)*n).toNat-x3/\n=n/\s=s/\(x1:Int)=(x1:Int)/\(x3:Int)+(1:Int)=(x5:Int)/\bQ (((2:Int)*n).toNat) x1 (bD n s)=bQ (((2:Int)*n).toNat) x1 (bD n s)/\au x3 (bD n s x1)++[n+Int.tmod (iw n x1 x3) n]=au x5 (bD n s x1)) (ab (decide ((x3:Int)<n)) (af (Int.tmod (x1:Int) n-Int.tmod (x3:Int) n)/\af (iZ n x1 x3)/\n≠(0:Int)/\af (n+Int.tmod (iZ n x1 x3) n)/\am ((au x3 (bD n s x1)).length+[n+Int.tmod (iZ n x1 x3) n].length)/\af ((x3:Int)+(1:Int))/\∃x6:Nat,((x1:Int)<(2:Int)*n/\(x6:Int)<=(2:Int)*n)/\((2:Int)*n).toNat-x6<((2:Int)*n).toNat-x3/\n=n/\s=s/\(x1:Int)=(x1:Int)/\(x3:Int)+(1:Int)=(x6:Int)/\bQ (((2:Int)*n).toNat) x1 (bD n s)=bQ (((2:Int)*n).toNat) x1 (bD n s)/\au x3 (bD n s x1)++[n+Int.tmod (iZ n x1 x3) n]=au x6 (bD n s x1)) (af (Int.tmod (x1:Int) n-Int.tmod (x3:Int) n)/\af (iZ n x1 x3)/\af (Int.tmod (x1:Int) n-Int.tmod (x3:Int) n+n+s)/\n≠(0:Int)/\am ((au x3 (bD n s x1)).length+[Int.tmod (Int.tmod (x1:Int) n-Int.tmod (x3:Int) n+n+s) n].length)/\af ((x3:Int)+(1:Int))/\∃x7:Nat,((x1:Int)<(2:Int)*n/\(x7:Int)<=(2:Int)*n)/\((2:Int)*n).toNat-x7<((2:Int)*n).toNat-x3/\n=n/\s=s/\(x1:Int)=(x1:Int)/\(x3:Int)+(1:Int)=(x7:Int)/\bQ (((2:Int)*n).toNat) x1 (bD n s)=bQ (((2:Int)*n).toNat) x1 (bD n s)/\au x3 (bD n s x1)++[Int.tmod (Int.tmod (x1:Int) n-Int.tmod (x3:Int) n+n+s) n]=au x7 (bD n s x1))))) (ab (decide ((x1:Int)<n)) (af (iw n x1 x3)/\n≠(0:Int)/\af (n+Int.tmod (iw n x1 x3) n)/\am ((au x3 (bD n s x1)).length+[n+Int.tmod (iw n x1 x3) n].length)/\af ((x3:Int)+(1:Int))/\∃x8:Nat,((x1:Int)<(2:Int)*n/\(x8:Int)<=(2:Int)*n)/\((2:Int)*n).toNat-x8<((2:Int)*n).toNat-x3/\n=n/\s=s/\(x1:Int)=(x1:Int)/\(x3:Int)+(1:Int)=(x8:Int)/\bQ (((2:Int)*n).toNat) x1 (bD n s)=bQ (((2:Int)*n).toNat) x1 (bD n s)/\au x3 (bD n s x1)++[n+Int.tmod (iw n x1 x3) n]=au x8 (bD n s x1)) (ab (decide ((x3:Int)<n)) (af (Int.tmod (x1:Int) n-Int.tmod (x3:Int) n)/\af (iZ n x1 x3)/\n≠(0:Int)/\af (n+Int.tmod (iZ n x1 x3) n)/\am ((au x3 (bD n s x1)).length+[n+Int.tmod (iZ n x1 x3) n].length)/\af ((x3:Int)+(1:Int))/\∃x9:Nat,((x1:Int)<(2:Int)*n/\(x9:Int)<=(2:Int)*n)/\((2:Int)*n).toNat-x9<((2:Int)*n).toNat-x3/\n=n/\s=s/\(x1:Int)=(x1:Int)/\(x3:Int)+(1:Int)=(x9:Int)/\bQ (((2:Int)*n).toNat) x1 (bD n s)=bQ (((2:Int)*n).toNat) x1 (bD n s)/\au x3 (bD n s x1)++[n+Int.tmod (iZ n x1 x3) n]=au x9 (bD n s x1)) (af (Int.tmod (x1:Int) n-Int.tmod (x3:Int) n)/\af (iZ n x1 x3)/\af (Int.tmod (x1:Int) n-Int.tmod (x3:Int) n+n+s)/\n≠(0:Int)/\am ((au x3 (bD n s x1)).length+[Int.tmod (Int.tmod (x1:Int) n-Int.tmod (x3:Int) n+n+s) n].length)/\af ((x3:Int)+(1:Int))/\∃x10:Nat,((x1:Int)<(2:Int)*n/\(x10:Int)<=(2:Int)*n)/\((2:Int)*n).toNat-x10<((2:Int)*n).toNat-x3/\n=n/\s=s/\(x1:Int)=(x1:Int)/\(x3:Int)+(1:Int)=(x10:Int)/\bQ (((2:Int)*n).toNat) x1 (bD n s)=bQ (((2:Int)*n).toNat) x1 (bD n s)/\au x3 (bD n s x1)++[Int.tmod (Int.tmod (x1:Int) n-Int.tmod (x3:Int) n+n+s) n]=au x10 (bD n s x1))))) (am ((bQ (((2:Int)*n).toNat) x1 (bD n s)).length+(au x3 (bD n s x1)::([]:D2)).length)/\af ((x1:Int)+(1:Int))/\∃x11:Nat,(x11:Int)<=(2:Int)*n/\((2:Int)*n).toNat-x11<((2:Int)*n).toNat-x1/\n=n/\s=s/\(x1:Int)+(1:Int)=(x11:Int)/\bQ (((2:Int)*n).toNat) x1 (bD n s)++au x3 (bD n s x1)::([]:D2)=bQ (((2:Int)*n).toNat) x11 (bD n s))) (bQ (((2:Int)*n).toNat) x1 (bD n s)=cu n s/\True),by kernel_rfl,?_⟩
 simp only[iZ,iw,aJ]at ξ⊢;obtain⟨h1,h2,h3,h4⟩:=ξ;refine⟨⟨0,by omega,rfl,rfl⟩,fun i hi=>⟨by omega,fun h=>⟨⟨0,⟨by omega,by omega⟩,rfl,rfl⟩,fun j ⟨_,hj⟩=>⟨by omega,fun g=>?_,fun g=>⟨by rw[Fc];omega,by omega,i+1,by omega,by omega,by omega,?_⟩⟩⟩,fun h=>?_⟩⟩
 ·have a:=NI i h1
  have b:=NI j h1
  have c:=NJ (x:=(i:Int).tmod n+(j:Int).tmod n) (by omega) h1
  have d:=NJ (x:=(i:Int).tmod n-(j:Int).tmod n+n) (by omega) h1
  have TS:au j (bD n s i)++[bD n s i j]=au (j+1) (bD n s i):=(tab_succ' _ _).symm
  have R:∀v:Int,v=bD n s i j->(au j (bD n s i)).length+(0+1)<=1099511627776/\∃x:Nat,(((i:Int)<2*n/\(x:Int)<=2*n)/\(2*n).toNat-x<(2*n).toNat-j/\(j:Int)+1=(x:Int)/\au j (bD n s i)++[v]=au x (bD n s i)):=fun v hv=>by
   subst hv;refine⟨by rw[ep];omega,j+1,⟨by omega,by omega⟩,by omega,by omega,TS⟩
  by_cases q:(i:Int)<n<;>by_cases r:(j:Int)<n
  ·have:=R _ (AA ⟨q,r⟩).symm
   simp only[q,r,CQ,CZ,true_implies,false_implies,Bi,B8,implies_true];exact⟨by omega,by omega,by omega,by omega,this.1,by omega,this.2⟩
  ·have:=R _ ((AB (by omega)).trans (AA q)).symm
   simp only[q,r,CQ,CZ,true_implies,false_implies,Bi,B8,implies_true];exact⟨by omega,by omega,by omega,by omega,by omega,this.1,by omega,this.2⟩
  ·have:=R _ ((AB (by omega)).trans ((AB q).trans (AA r))).symm
   simp only[q,r,CQ,CZ,true_implies,false_implies,Bi,B8,implies_true];exact⟨by omega,by omega,by omega,by omega,by omega,by omega,this.1,by omega,this.2⟩
  ·have:=R _ ((AB (by omega)).trans ((AB q).trans (AB r))).symm
   simp only[q,r,CQ,CZ,true_implies,false_implies,Bi,B8,implies_true];exact⟨by omega,by omega,by omega,by omega,by omega,by omega,this.1,by omega,this.2⟩
 ·rw[Fb,show j=(2*n).toNat by omega]
 ·rw[show i=(2*n).toNat by omega];rfl
end Go.Sx
