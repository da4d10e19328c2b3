/- MpgA -/
import Derived.Test.YtkmldclpaniclaaCirB
import Derived.Test.YtkmldclpaniclaaRack
import Derived.Test.YtkmldclpaniclaaProg
import Derived.Test.YtkmldclpaniclaaSxZ
import Derived.KernelRfl
open Go Go.Proofs
namespace Go.Sx
set_option linter.unusedSimpArgs false
set_option linter.unusedVariables false
theorem Lr {t A:List (List Int)} {K:List Int} (h:(dr t A K).2=true):cD t A K=some (dr t A K).1:=by
 unfold dr at h ⊢;cases e:cD t A K with
 | none=>rw [e] at h;cases h
 | some x=>rfl
theorem Ls {t A:List (List Int)} {K:List Int} (h:(dr t A K).2=false):cD t A K=none:=by
 unfold dr at h;cases e:cD t A K with
 | none=>rfl
 | some x=>rw [e] at h;cases h
theorem Lu {t A:List (List Int)} {rec:List Int→List (List (List Int))→List (List (List Int))} {K K':List Int} {i:Nat} {o:List (List (List Int))} (h:cD t A (K.set (av K) (i:Int))=some K'):cE t A rec K i o=rec K' o:=by unfold cE;rw [h]
theorem Lv {t A:List (List Int)} {rec:List Int→List (List (List Int))→List (List (List Int))} {K:List Int} {i:Nat} {o:List (List (List Int))} (h:cD t A (K.set (av K) (i:Int))=none):cE t A rec K i o=o:=by unfold cE;rw [h]
theorem DO {n:Nat} {t A:List (List Int)} (ht:bi n t) (hA:AuOk n A) {K:List Int} (hK:KOk n A.length K) (hp:av K=K.length):bi n (bq t A K):=by
 refine ⟨by simp [bq,ht.1],fun x hx=>?_⟩
 have hk:=mT K hp x (by rw [hK.len];exact hx)
 have hr:=hK.rng x hx
 have row:(bq t A K).getD x []=ba (A.getD (K.getD x 0).toNat []) (t.getD x []):=by
  rw [bq];simp [List.getD_eq_getElem?_getD,ht.1,hx]
 have L:=hA.len (K.getD x 0).toNat (by omega)
 refine ⟨by rw [row,ba,List.length_map,L],fun y hy=>?_⟩
 have r:=hA.rng (K.getD x 0).toNat y (by omega) hy
 have v:=(ht.2 x hx).2 (en A (K.getD x 0).toNat y).toNat (by omega)
 have:en (bq t A K) x y=en t x (en A (K.getD x 0).toNat y).toNat:=by
  unfold en at *;rw [row,ba,lh _ _ 0 0 _ (by omega)]
 rw [this];exact v
theorem DP {n:Nat} {t:List (List Int)} (h:bi n t) (hn:n≤12):bk t:=⟨by rw [h.1];omega,fun r hr=>by
 obtain ⟨x,hx,rfl⟩:=List.getElem_of_mem hr;have:=(h.2 x (by rw [h.1] at hx;exact hx)).1
 rw [bU t [] x hx] at this;omega⟩
def lN (d:Nat) (t:List (List Int)) (A:List (List Int)) (K:List Int) (out:List (List (List Int))):Post:=⟨au K<d∧t.length≤12∧bi t.length t∧AuOk t.length A∧A.length≤100∧KOk t.length A.length K∧(∀c,c∈out→bi t.length c)∧out.length+100 ^ au K≤1099511627775,.c (.ro (.r3 .i64 ((bR t A d K out)))),[]⟩
def nj (d:Nat):List AD→Option Post
 | [.c (.rows .i64 (t)),.c (.rows .i64 (A)),.c (.ints .i64 (K)),.c (.r3 .i64 (out))]=>some (lN d t A K out)
 | _=>none
def DQ (d:Nat) (t:List (List Int)) (A:List (List Int)) (K:List Int) (out:List (List (List Int))):Nat→Option Ann
 | 0=>some (Ann.mk ((Nat)) (fun x=>⟨[(0,.c (.ro (.rows .i64 (t)))),(1,.c (.ro (.rows .i64 (A)))),(2,.c (.ro (.ints .i64 (K)))),(3,.c (.ro (.r3 .i64 (out)))),(9,.c (.int .i64 ((x:Int))))],[]⟩) (fun x=>x≤K.length∧(∀j,j<x→0≤K.getD j 0)) (fun x=>K.length - x) (fun _=>ax))
 | 1004=>some (Ann.mk ((Unit)) (fun u=>⟨[(0,.c (.ro (.rows .i64 (t)))),(1,.c (.ro (.rows .i64 (A)))),(2,.c (.ro (.ints .i64 (K)))),(3,.c (.ro (.r3 .i64 (out)))),(9,.c (.int .i64 ((av K:Int))))],[]⟩) (fun u=>True) (fun u=>0) (fun u=>fun b_=>match b_ with | 2=>some (Ann.mk ((Nat)) (fun y=>⟨[(0,.c (.ro (.rows .i64 (t)))),(1,.c (.ro (.rows .i64 (A)))),(2,.c (.ro (.ints .i64 (K)))),(3,.c (.ro (.r3 .i64 (out)))),(9,.c (.int .i64 ((av K:Int)))),(10,.c (.own (10))),(11,.c (.int .i64 ((y:Int))))],[(10,some (.rows 0 42 2 .i64 ((List.range y).map fun y=>ba (A.getD (K.getD y 0).toNat []) (t.getD y []))))]⟩) (fun y=>y≤t.length∧av K=K.length) (fun y=>t.length - y) (fun _=>ax)) | 4=>some (Ann.mk ((Nat)) (fun j=>⟨[(0,.c (.ro (.rows .i64 (t)))),(1,.c (.ro (.rows .i64 (A)))),(2,.c (.ro (.ints .i64 (K)))),(3,.c (.ro (.r3 .i64 (out)))),(9,.c (.int .i64 ((av K:Int)))),(10,.c (.ro (.rows .i64 (bq t A K)))),(12,.c (.int .i64 ((j:Int))))],[]⟩) (fun j=>j≤out.length∧av K=K.length∧(∀j1,j1<j→bV (out.getD j1 []) (bq t A K)=true)) (fun j=>out.length - j) (fun _=>ax)) | 1013=>some (Ann.mk ((Unit)) (fun u=>⟨[(3,.c (.ro (.r3 .i64 (out)))),(10,.c (.ro (.rows .i64 (bq t A K)))),(12,.c (.int .i64 ((b5 (bq t A K) out:Int))))],[]⟩) (fun u=>av K=K.length) (fun u=>0) (fun _=>ax)) | 6=>some (Ann.mk ((Nat)) (fun i=>⟨[(0,.c (.ro (.rows .i64 (t)))),(1,.c (.ro (.rows .i64 (A)))),(2,.c (.ro (.ints .i64 (K)))),(3,.c (.ro (.r3 .i64 (cZ (cE t A (bR t A (d - 1)) K) out i)))),(9,.c (.int .i64 ((av K:Int)))),(14,.c (.int .i64 ((i:Int))))],[]⟩) (fun i=>i≤A.length∧av K≠K.length) (fun i=>A.length - i) (fun _=>ax)) | _=>none))
 | _=>none
def DR (d:Nat):List (Nat×Ctr):=[(22,⟨[],oQ⟩),(74,⟨[],tG⟩),(75,⟨[],m8⟩),(76,⟨[],tM⟩),(50,⟨[],nj d⟩)]
def wS (d:Nat) (t:List (List Int)) (A:List (List Int)) (K:List Int) (out:List (List (List Int))):Prop :=
 (((∃x0:Nat,(((x0≤K.length)∧(∀(j:Nat),j<x0→(0:Int)≤K.getD j (0:Int)))∧((t=t)∧((A=A)∧((K=K)∧((out=out)∧((0:Int)=(↑x0:Int))))))))∧(∀x1:Nat,(((x1≤K.length)∧(∀(j:Nat),j<x1→(0:Int)≤K.getD j (0:Int)))→(ae (decide ((↑x1:Int)<(↑(K.length):Int))) ((aa (↑x1:Int) (K.length))∧(ae (decide ((0:Int)≤K.getD ((↑x1:Int).toNat) (0:Int))) ((af ((↑x1:Int)+(1:Int)))∧(∃x2:Nat,(((x2≤K.length)∧(∀(j:Nat),j<x2→(0:Int)≤K.getD j (0:Int)))∧((K.length - x2<K.length - x1)∧((t=t)∧((A=A)∧((K=K)∧((out=out)∧((↑x1:Int)+(1:Int)=(↑x2:Int)))))))))) (∃x3:Unit,(True∧((t=t)∧((A=A)∧((K=K)∧((out=out)∧((↑x1:Int)=(↑(av K):Int)))))))))) (∃x4:Unit,(True∧((t=t)∧((A=A)∧((K=K)∧((out=out)∧((↑x1:Int)=(↑(av K):Int))))))))))))∧(∀x5:Unit,(True→(ae ((↑(av K):Int) == (↑(K.length):Int)) ((∃x6:Nat,(((x6≤t.length)∧(av K=K.length))∧((t=t)∧((A=A)∧((K=K)∧((out=out)∧(((↑(av K):Int)=(↑(av K):Int))∧(((0:Int)=(↑x6:Int))∧(([]:List (List Int))=List.map (fun (y:Nat)=>ba (A.getD ((K.getD y (0:Int)).toNat) []) (t.getD y [])) (List.range x6))))))))))∧(∀x7:Nat,(((x7≤t.length)∧(av K=K.length))→(ae (decide ((↑x7:Int)<(↑(t.length):Int))) ((aa (↑x7:Int) (K.length))∧((aa (K.getD ((↑x7:Int).toNat) (0:Int)) (A.length))∧((aa (↑x7:Int) (t.length))∧((((ag ((A.getD ((K.getD ((↑x7:Int).toNat) (0:Int)).toNat) []).length)) ∧
 (lv ((t.getD ((↑x7:Int).toNat) []).length) (A.getD ((K.getD ((↑x7:Int).toNat) (0:Int)).toNat) [])))∧True)∧((ag ((List.map (fun (y:Nat)=>ba (A.getD ((K.getD y (0:Int)).toNat) []) (t.getD y [])) (List.range x7)).length+(ba (A.getD ((K.getD ((↑x7:Int).toNat) (0:Int)).toNat) []) (t.getD ((↑x7:Int).toNat) [])::([]:List (List Int))).length))∧((af ((↑x7:Int)+(1:Int)))∧(∃x8:Nat,(((x8≤t.length)∧(av K=K.length))∧((t.length - x8<t.length - x7)∧((t=t)∧((A=A)∧((K=K)∧((out=out)∧(((↑(av K):Int)=(↑(av K):Int))∧(((↑x7:Int)+(1:Int)=(↑x8:Int))∧(List.map (fun (y:Nat)=>ba (A.getD ((K.getD y (0:Int)).toNat) []) (t.getD y [])) (List.range x7)++ba (A.getD ((K.getD ((↑x7:Int).toNat) (0:Int)).toNat) []) (t.getD ((↑x7:Int).toNat) [])::([]:List (List Int))=List.map (fun (y:Nat)=>ba (A.getD ((K.getD y (0:Int)).toNat) []) (t.getD y [])) (List.range x8))))))))))))))))) (((∃x9:Nat,(((x9≤out.length)∧((av K=K.length)∧(∀(j1:Nat),j1<x9→bV (out.getD j1 ([]:List (List Int))) (bq t A K)=true)))∧((t=t)∧((A=A)∧((K=K)∧((out=out)∧(((↑(av K):Int)=(↑(av K):Int))∧((List.map (fun (y:Nat)=>ba (A.getD ((K.getD y (0:Int)).toNat) []) (t.getD y [])) (List.range x7)=bq t A K)∧((0:Int)=(↑x9:Int))))))))))∧(∀x10:Nat,(((x10≤out.length)∧((av K=K.length)∧(∀(j1:Nat),j1<x10→bV (out.getD j1 ([]:List (List Int))) (bq t A K)=true)))→(ae (decide ((↑x10:Int)<(↑(out.length):Int)))
 ((aa (↑x10:Int) (out.length))∧((((bk (out.getD ((↑x10:Int).toNat) ([]:List (List Int))))∧((bk (bq t A K))∧((out.getD ((↑x10:Int).toNat) ([]:List (List Int))).length=(bq t A K).length)))∧True)∧(ae (bV (out.getD ((↑x10:Int).toNat) ([]:List (List Int))) (bq t A K)) ((af ((↑x10:Int)+(1:Int)))∧(∃x11:Nat,(((x11≤out.length)∧((av K=K.length)∧(∀(j1:Nat),j1<x11→bV (out.getD j1 ([]:List (List Int))) (bq t A K)=true)))∧((out.length - x11<out.length - x10)∧((t=t)∧((A=A)∧((K=K)∧((out=out)∧(((↑(av K):Int)=(↑(av K):Int))∧((bq t A K=bq t A K)∧((↑x10:Int)+(1:Int)=(↑x11:Int)))))))))))) (∃x12:Unit,((av K=K.length)∧((out=out)∧((bq t A K=bq t A K)∧((↑x10:Int)=(↑(b5 (bq t A K) out):Int))))))))) (∃x13:Unit,((av K=K.length)∧((out=out)∧((bq t A K=bq t A K)∧((↑x10:Int)=(↑(b5 (bq t A K) out):Int))))))))))∧(∀x14:Unit,((av K=K.length)→((aw (out.length) (Option.some (↑(b5 (bq t A K) out):Int)) Option.none)∧((ag (FC.len (FC.r3 IntKind.i64 (bq t A K::([]:List (List (List Int)))))+FC.len (FC.r3 IntKind.i64 (cX out (Option.some (↑(b5 (bq t A K) out):Int)) Option.none))))∧((aw (out.length) Option.none (Option.some (↑(b5 (bq t A K) out):Int)))∧((ag (FC.len (FC.r3 IntKind.i64 ([]:List (List (List Int))))+FC.len (FC.r3 IntKind.i64 (cX out Option.none (Option.some (↑(b5 (bq t A K) out):Int)))))) ∧
 ((ag (FC.len (FC.r3 IntKind.i64 (([]:List (List (List Int)))++cX out Option.none (Option.some (↑(b5 (bq t A K) out):Int))))+FC.len (FC.r3 IntKind.i64 (bq t A K::([]:List (List (List Int)))++cX out (Option.some (↑(b5 (bq t A K) out):Int)) Option.none))))∧((([]:List (List (List Int)))++cX out Option.none (Option.some (↑(b5 (bq t A K) out):Int))++(bq t A K::([]:List (List (List Int)))++cX out (Option.some (↑(b5 (bq t A K) out):Int)) Option.none)=bR t A (d+(1:Nat)) K out)∧True))))))))))))) ((∃x15:Nat,(((x15≤A.length)∧(av K≠K.length))∧((t=t)∧((A=A)∧((K=K)∧((out=cZ (cE t A (bR t A (d+(1:Nat) - (1:Nat))) K) out x15)∧(((↑(av K):Int)=(↑(av K):Int))∧((0:Int)=(↑x15:Int)))))))))∧(∀x16:Nat,(((x16≤A.length)∧(av K≠K.length))→(ae (decide ((↑x16:Int)<(↑(A.length):Int))) (((ag (K.length))∧True)∧((aa (↑(av K):Int) (K.length))∧((((t.length≤(12:Nat))∧((bi (t.length) t)∧((AuOk (t.length) A)∧((A.length≤(1000000:Nat))∧(KOk (t.length) (A.length) (List.set K ((↑(av K):Int).toNat) (↑x16:Int)))))))∧True)∧(ae ((dr t A (List.set K ((↑(av K):Int).toNat) (↑x16:Int))).2) ((((au ((dr t A (List.set K ((↑(av K):Int).toNat) (↑x16:Int))).1)<d)∧((t.length≤(12:Nat))∧((bi (t.length) t)∧((AuOk (t.length) A)∧((A.length≤(100:Nat))∧((KOk (t.length) (A.length) ((dr t A (List.set K ((↑(av K):Int).toNat) (↑x16:Int))).1)) ∧
 ((∀(c:List (List Int)),c∈cZ (cE t A (bR t A (d+(1:Nat) - (1:Nat))) K) out x16→bi (t.length) c)∧((cZ (cE t A (bR t A (d+(1:Nat) - (1:Nat))) K) out x16).length+(100:Nat) ^ au ((dr t A (List.set K ((↑(av K):Int).toNat) (↑x16:Int))).1)≤(1099511627775:Nat)))))))))∧True)∧((af ((↑x16:Int)+(1:Int)))∧(∃x17:Nat,(((x17≤A.length)∧(av K≠K.length))∧((A.length - x17<A.length - x16)∧((t=t)∧((A=A)∧((K=K)∧((bR t A d ((dr t A (List.set K ((↑(av K):Int).toNat) (↑x16:Int))).1) (cZ (cE t A (bR t A (d+(1:Nat) - (1:Nat))) K) out x16)=cZ (cE t A (bR t A (d+(1:Nat) - (1:Nat))) K) out x17)∧(((↑(av K):Int)=(↑(av K):Int))∧((↑x16:Int)+(1:Int)=(↑x17:Int)))))))))))) ((af ((↑x16:Int)+(1:Int)))∧(∃x18:Nat,(((x18≤A.length)∧(av K≠K.length))∧((A.length - x18<A.length - x16)∧((t=t)∧((A=A)∧((K=K)∧((cZ (cE t A (bR t A (d+(1:Nat) - (1:Nat))) K) out x16=cZ (cE t A (bR t A (d+(1:Nat) - (1:Nat))) K) out x18)∧(((↑(av K):Int)=(↑(av K):Int))∧((↑x16:Int)+(1:Int)=(↑x18:Int))))))))))))))) ((cZ (cE t A (bR t A (d+(1:Nat) - (1:Nat))) K) out x16=bR t A (d+(1:Nat)) K out)∧True)))))))))
theorem Lw (d:Nat) (t:List (List Int)) (A:List (List Int)) (K:List Int) (out:List (List (List Int))):aS Try.prog (ai (DR d)) aj (DQ (d+1) t A K out) Try.f50 (aM Try.f50) [] [.c (.rows .i64 (t)),.c (.rows .i64 (A)),.c (.ints .i64 (K)),.c (.r3 .i64 (out))] (lN (d+1) t A K out)=wS d t A K out:=by kernel_rfl
theorem Lx (d:Nat) (t:List (List Int)) (A:List (List Int)) (K:List Int) (out:List (List (List Int))) (Yh:(lN (d+1) t A K out).pre):wS d t A K out:=by
 simp only [lN,wS,aR,u1,u2,u3,u4,u5,u6,u7,u8,u9,v1,v2,v3,v4,v5,v6,v7,v8,v9,w1,w2,w3,w4,aI,aa,af,ag,aw] at Yh ⊢;simp only [FC.len,cX,Int.toNat_natCast];obtain ⟨h1,h2,h3,h4,h5,h6,h7,h8⟩:=Yh;have kl:=h6.len
 have pl:=jQ K
 have p1:1≤100 ^ au K:=Nat.one_le_pow _ _ (by omega)
 refine ⟨⟨⟨0,⟨by omega,fun j h=>by omega⟩,rfl⟩,fun x ⟨hx,ix⟩=>⟨fun g=>⟨by omega,fun q=>⟨by omega,x+1,⟨by omega,fun j hj=>?_⟩,by omega,by omega⟩,fun q=>⟨⟨⟩,?_⟩⟩,fun g=>⟨⟨⟩,?_⟩⟩⟩,fun _ _=>⟨fun hp=>?_,fun hp=>?_⟩⟩
 ·by_cases e:j=x
  ·subst e;exact q
  ·exact ix j (by omega)
 ·rw [tS K x ix hx (fun _=>by omega)]
 ·rw [tS K x ix hx (fun z=>absurd z (by omega))]
 ·have hp:av K=K.length:=by omega
  have T:=DO h3 h4 h6 hp
  have PC:=tQ (bq t A K) out
  have o7:∀j,j<out.length→bi t.length (out.getD j []):=fun j hj=>h7 _ (bN out [] j hj)
  have e1:av K=K.length:=hp
  refine ⟨⟨0,⟨by omega,e1⟩,rfl,rfl⟩,fun y ⟨hy,_⟩=>⟨fun g=>?_,fun g=>?_⟩⟩
  ·have hk:=mT K hp y (by omega)
   have hr:=h6.rng y (by omega)
   have L:=h4.len (K.getD y 0).toNat (by omega)
   have Lt:=(h3.2 y (by omega)).1
   refine ⟨by omega,by omega,by omega,⟨by omega,fun i hi=>?_⟩,by simp;omega,by omega,y+1,⟨by omega,e1⟩,by omega,by omega,?_⟩
   ·have:=h4.rng (K.getD y 0).toNat i (by omega) (by omega)
    rw [Lt];exact this
   ·rw [wn]
  ·have cT:(List.range y).map (fun y=>ba (A.getD (K.getD y 0).toNat []) (t.getD y []))=bq t A K:=by rw [show y=t.length by omega];rfl
   refine ⟨⟨⟨0,⟨by omega,e1,fun j h=>by omega⟩,cT,rfl⟩,fun j ⟨hj,_,ij⟩=>⟨fun g2=>⟨by omega,⟨DP (o7 j (by omega)) h2,DP T h2,by rw [(o7 j (by omega)).1,T.1]⟩,fun q=>⟨by omega,j+1,⟨by omega,e1,fun j1 hj1=>?_⟩,by omega,by omega⟩,fun q=>⟨⟨⟩,e1,?_⟩⟩,fun g2=>⟨⟨⟩,e1,?_⟩⟩⟩,fun _ _=>?_⟩
   ·by_cases e:j1=j
    ·subst e;exact q
    ·exact ij j1 (by omega)
   ·rw [tR _ out j ij hj (fun _=>q)]
   ·rw [tR _ out j ij hj (fun z=>absurd z (by omega))]
   ·simp only [List.length_cons,List.length_nil,List.length_append,List.length_take,List.length_drop,List.nil_append]
    refine ⟨by omega,by omega,by omega,by omega,by omega,?_⟩
    rw [bR,if_pos hp,eA];rfl
 ·have hp:av K≠K.length:=by omega
  have hx:av K<K.length:=by omega
  have NG:=tT hx (i:=0)
  have P:100 ^ au K=100 ^ (au K - 1) * 100:=by rw [←Nat.pow_succ];congr 1;omega
  have B:∀i,i≤A.length→(∀c,c∈cZ (cE t A (bR t A d) K) out i→bi t.length c)∧(cZ (cE t A (bR t A d) K) out i).length≤out.length+i * 100 ^ (au K - 1):=fun i hi=>by
   constructor
   ·refine oV (P:=fun o=>∀c,c∈o→bi t.length c) h7 i fun j o hj hP=>?_
    unfold cE;split
    ·exact hP
    ·rename_i K' hs
     exact tU h3 h4 (fun K hK hp=>DO h3 h4 hK hp) d K' o (jg h3 h4 h6 hx (by omega) hs).1 hP
   ·refine tV i fun j o hj=>?_
    unfold cE;split
    ·omega
    ·rename_i K' hs
     have q:=jg h3 h4 h6 hx (by omega) hs
     have a:=AX h3 h4 (M:=100) h5 (by omega) d K' o q.1
     have b:100 ^ au K'≤100 ^ (au K - 1):=Nat.pow_le_pow_right (by omega) (by omega)
     omega
  refine ⟨⟨0,⟨by omega,hp⟩,rfl,rfl⟩,fun i ⟨hi,_⟩=>⟨fun g=>?_,fun g=>?_⟩⟩
  ·obtain ⟨B1,B2⟩:=B i hi
   have hk:=h6.set (av K) (w:=(i:Int)) ⟨by omega,by omega⟩
   have step:∀r,cE t A (bR t A d) K i (cZ (cE t A (bR t A d) K) out i)=r→r=cZ (cE t A (bR t A d) K) out (i+1):=fun r e=>by rw [cZ,e]
   refine ⟨by omega,by omega,⟨h2,h3,h4,by omega,hk⟩,fun q=>?_,fun q=>⟨by omega,i+1,⟨by omega,hp⟩,by omega,step _ ?_,by omega⟩⟩
   ·have ok:=Lr q
    have N:=jg h3 h4 h6 hx (i:=i) (by omega) ok
    have b:100 ^ au (dr t A (K.set (av K) (i:Int))).1≤100 ^ (au K - 1):=Nat.pow_le_pow_right (by omega) (by omega)
    have c:i * 100 ^ (au K - 1)+100 ^ (au K - 1)≤100 ^ (au K - 1) * 100:=by
     rw [←Nat.succ_mul,Nat.mul_comm];exact Nat.mul_le_mul_left _ (by omega)
    refine ⟨⟨by omega,h2,h3,h4,h5,N.1,B1,?_⟩,by omega,i+1,⟨by omega,hp⟩,by omega,step _ ?_,by omega⟩
    ·show (cZ (cE t A (bR t A d) K) out i).length+_≤_
     omega
    ·exact Lu ok
   ·exact Lv (Ls q)
  ·rw [bR,if_neg hp,show i=A.length by omega];rfl
theorem Ly (t:List (List Int)) (A:List (List Int)) (K:List Int) (out:List (List (List Int))) (h:(lN 0 t A K out).pre):False:=by
 simp only [lN] at h;omega
theorem Lz (d:Nat):Fits Try.prog 50 ⟨[],nj d⟩:=by
 induction d with
 | zero =>
  refine Ho ⟨Try.f50,Try.func50,by kernel_rfl,by kernel_rfl⟩ (by decide) fun ds p h hp=>?_
  unfold nj at h;split at h
  ·cases h
   exact Ly _ _ _ _  hp
  ·cases h
 | succ d ih =>
  refine Ao (Γ:=ai (DR d)) (aC AT (aC HJ (aC wu (aC HT (aC ih aQ))))) Try.func50 (by kernel_rfl) (by kernel_rfl) (by kernel_rfl) fun ds p h hp=>?_
  unfold nj at h;split at h
  ·cases h
   exact ⟨aj,DQ _ _ _ _ _ ,by rw [Lw];exact Lx _ _ _ _ _  hp⟩
  ·cases h
def qx (t:List (List Int)):Post:=⟨cf t=true∧AuOk t.length (bg t)∧(bg t).length≤100∧t.length≤7,.c (.ro (.r3 .i64 (eZ t (bg t)))),[]⟩
def wT:List AD→Option Post
 | [.c (.rows .i64 (t))]=>some (qx t)
 | _=>none
def DS (t:List (List Int)):Nat→Option Ann
 | 0=>some (Ann.mk ((Nat)) (fun i=>⟨[(0,.c (.ro (.rows .i64 (t)))),(3,.c (.own (3))),(4,.c (.int .i64 ((i:Int))))],[(3,some (.ints 2 .i64 (List.replicate i (-1))))]⟩) (fun i=>i≤t.length) (fun i=>t.length - i) (fun _=>ax))
 | _=>none
def DT:List (Nat×Ctr):=[(21,⟨[],tI⟩),(50,⟨[],nj 12⟩)]
def wU (t:List (List Int)):Prop :=
 ((∃x0:Nat,((x0≤t.length)∧((t=t)∧(((0:Int)=(↑x0:Int))∧([]=List.replicate x0 (-1:Int))))))∧(∀x1:Nat,((x1≤t.length)→(ae (decide ((↑x1:Int)<(↑(t.length):Int))) ((ag ((List.replicate x1 (-1:Int)).length+[(-1:Int)].length))∧((af ((↑x1:Int)+(1:Int)))∧(∃x2:Nat,((x2≤t.length)∧((t.length - x2<t.length - x1)∧((t=t)∧(((↑x1:Int)+(1:Int)=(↑x2:Int))∧(List.replicate x1 (-1:Int)++[(-1:Int)]=List.replicate x2 (-1:Int))))))))) ((aa (0:Int) ((List.replicate x1 (-1:Int)).length))∧(((cf t=true)∧True)∧((((au (List.set (List.replicate x1 (-1:Int)) (0:Nat) (0:Int))<(12:Nat))∧((t.length≤(12:Nat))∧((bi (t.length) t)∧((AuOk (t.length) (bg t))∧(((bg t).length≤(100:Nat))∧((KOk (t.length) ((bg t).length) (List.set (List.replicate x1 (-1:Int)) (0:Nat) (0:Int)))∧((∀(c:List (List Int)),c∈([]:List (List (List Int)))→bi (t.length) c)∧(([]:List (List (List Int))).length+(100:Nat) ^ au (List.set (List.replicate x1 (-1:Int)) (0:Nat) (0:Int))≤(1099511627775:Nat)))))))))∧True)∧((bR t (bg t) (12:Nat) (List.set (List.replicate x1 (-1:Int)) (0:Nat) (0:Int)) ([]:List (List (List Int)))=eZ t (bg t))∧True))))))))
theorem LA (t:List (List Int)):aS Try.prog (ai DT) aj (DS t) Try.f36 (aM Try.f36) [] [.c (.rows .i64 (t))] (qx t)=wU t:=by kernel_rfl
theorem LB (t:List (List Int)) (Yh:(qx t).pre):wU t:=by
 simp only [qx,wU,aR,u1,u2,u3,u4,u5,u6,u7,u8,u9,v1,v2,v3,v4,v5,v6,v7,v8,v9,w1,w2,w3,w4,aI,aa,af,ag,aw] at Yh ⊢;obtain ⟨h1,h2,h3,h4⟩:=Yh;obtain ⟨q1,q2,q3⟩:=mQ h1;have T:bi t.length t:=⟨rfl,fun x hx=>⟨(q3 x hx).1,fun y hy=>by
  have:=(q3 x hx).2 y hy
  have e2:en t x y=(t.getD x []).getD y 0:=rfl
  omega⟩⟩
 refine ⟨⟨0,by omega,rfl,rfl⟩,fun i hi=>⟨fun g=>⟨by omega,by omega,i+1,by omega,by omega,by omega,?_⟩,fun g=>?_⟩⟩
 ·rw [List.replicate_succ']
 ·rw [show i=t.length by omega]
  have NG:=tW (n:=t.length) (by omega)
  have P:100 ^ au ((List.replicate t.length (-1)).set 0 0)≤100 ^ 6:=Nat.pow_le_pow_right (by omega) (by omega)
  exact ⟨by omega,h1,⟨by omega,by omega,T,h2,h3,Z0.ok mU h2,fun c hc=>by simp at hc,by simp;omega⟩,rfl⟩
theorem LC:Fits Try.prog 36 ⟨[],wT⟩:=by
 refine aY (Γ:=ai DT) (aC HM (aC (Lz 12) aQ)) Try.func36 fun ds p h hp=>?_
 unfold wT at h;split at h
 ·cases h
  exact ⟨aj,DS _ ,by rw [LA];exact LB _  hp⟩
 ·cases h
theorem DU (t:List (List Int)) (f:List Int→Bool):t.all f=(List.range t.length).all fun x=>f (t.getD x []):=by
 rw [Bool.eq_iff_iff,List.all_eq_true,List.all_eq_true]
 constructor
 ·intro h x hx
  rw [List.mem_range] at hx;exact h _ (bN t [] x hx)
 ·intro h r hr
  obtain ⟨k,hk,rfl⟩:=List.getElem_of_mem hr;have:=h k (by simpa using hk)
  rwa [bU _ _ _ hk] at this
theorem LD (l:List Nat) (f g:Nat→Bool):(l.all f&&l.all g)=l.all fun x=>f x&&g x:=by
 rw [Bool.eq_iff_iff];simp only [Bool.and_eq_true,List.all_eq_true];exact ⟨fun h x hx=>⟨h.1 x hx,h.2 x hx⟩,fun h=>⟨fun x hx=>(h x hx).1,fun x hx=>(h x hx).2⟩⟩
def g4 (t:List (List Int)) (x y z:Nat):Bool:=decide (en t (en t x y).toNat z=en t x (en t y z).toNat)
def f8 (t:List (List Int)) (x y:Nat):Bool:=(List.range t.length).all (g4 t x y)
def nk (t:List (List Int)) (x:Nat):Bool:=(List.range t.length).all (f8 t x)
def g5 (t:List (List Int)) (x:Nat):Bool:=decide (en t 0 x=(x:Int))&&decide (en t x 0=(x:Int))
def fe (t:List (List Int)) (x:Nat):Bool:=g5 t x&&nk t x
def ff (t:List (List Int)) (x:Nat):Bool:=g5 t x&&(cu (t.getD x [])&&nk t x)
def bc (t:List (List Int)):Bool:=cf t&&(t.all cu&&(List.range t.length).all (fe t))
theorem LE (t:List (List Int)):bc t=(cf t&&(List.range t.length).all (ff t)):=by
 rw [bc,DU,LD]
 congr 2
 funext x
 simp only [fe,ff];cases cu (t.getD x []) <;> cases g5 t x <;> simp
theorem wV {t:List (List Int)} (h:bc t=true):cf t=true:=by
 rw [bc,Bool.and_eq_true] at h;exact h.1
theorem DV {l:List Int} (h:cu l=true) {x:Int} (h0:0≤x) (h1:x<(l.length:Int)):x∈l:=xg.1 h x h0 h1
def cV:List Int→List Int→List Bool→List Int×List Bool
 | [],im,us=>(im,us)
 | x::l,im,us=>cV l (im.set x.toNat (-1)) (us.set (im.getD x.toNat 0).toNat false)
def g6:List Int→List Int→List Bool→Prop
 | [],_,_=>True
 | x::l,im,us=>(0≤x∧x<(im.length:Int))∧(0≤im.getD x.toNat 0∧im.getD x.toNat 0<(us.length:Int))∧g6 l (im.set x.toNat (-1)) (us.set (im.getD x.toNat 0).toNat false)
def DW (fr:List (List (List Int))) (tt:List (List (List Int))) (im:List Int) (us:List Bool) (st:List Int) (c:Int):SV:=.tup []
def DX (fr:List (List (List Int))) (tt:List (List (List Int))) (im:List Int) (us:List Bool) (st:List Int) (c:Int):List MA:=[.box [.c (.r3 .i64 (fr)),.c (.r3 .i64 (tt)),.ob (.ints 2 .i64 ((cV (st.drop c.toNat) im us).1)),.ob (.bools 4 ((cV (st.drop c.toNat) im us).2)),.ob (.ints 2 .i64 ((st.take c.toNat)))],.m (.c (.int .i64 (c)))]
def DY (fr:List (List (List Int))) (tt:List (List (List Int))) (im:List Int) (us:List Bool) (st:List Int) (c:Int):List (Nat×Ob):=[]
def qy (fr:List (List (List Int))) (tt:List (List (List Int))) (im:List Int) (us:List Bool) (st:List Int) (c:Int):Post:=⟨0≤c∧c≤(st.length:Int)∧st.length≤1000∧g6 (st.drop c.toNat) im us,.st (DW fr tt im us st c) (DY fr tt im us st c) (DX fr tt im us st c),[]⟩
def qz:List AD→Option Post
 | [.ma (.box [.c (.r3 .i64 (fr)),.c (.r3 .i64 (tt)),.ob (.ints 2 .i64 (im)),.ob (.bools 4 (us)),.ob (.ints 2 .i64 (st))]),.ma (.m (.c (.int .i64 (c))))]=>some (qy fr tt im us st c)
 | _=>none
def DZ (fr:List (List (List Int))) (tt:List (List (List Int))) (im:List Int) (us:List Bool) (st:List Int) (c:Int):Nat→Option Ann
 | 0=>some (Ann.mk ((Nat)×(List Int)×(List Bool)) (fun x=>match x with | (i,a,b)=>⟨[(0,.c (.ptr 7000 0)),(1,.c (.int .i64 (c))),(11,.c (.sub 7005 (Int.toNat c) (List.length st - Int.toNat c))),(12,.c (.int .i64 (((List.length st - Int.toNat c:Nat):Int)))),(13,.c (.int .i64 ((i:Int))))],[(7000,some (.box [.ro (.r3 .i64 (fr)),.ro (.r3 .i64 (tt)),.own (7003),.own (7004),.own (7005)])),(7003,some (.ints 2 .i64 (a))),(7004,some (.bools 4 (b))),(7005,some (.ints 2 .i64 (st)))]⟩) (fun x=>match x with | (i,a,b)=>i≤st.length - c.toNat∧cV ((st.drop c.toNat).drop i) a b=cV (st.drop c.toNat) im us∧g6 ((st.drop c.toNat).drop i) a b) (fun x=>match x with | (i,a,b)=>st.length - i) (fun _=>ax))
 | _=>none
def D0 (t:Nat):Bool:=[4000042].contains t
def D1:List (Nat×Ctr):=[]
def wW (fr:List (List (List Int))) (tt:List (List (List Int))) (im:List Int) (us:List Bool) (st:List Int) (c:Int):Prop :=
 ((aw (st.length) (Option.some c) Option.none)∧((∃x0:Nat×List Int×List Bool,(((x0.1≤st.length - c.toNat)∧((cV (List.drop (x0.1) (List.drop (c.toNat) st)) (x0.2.1) (x0.2.2)=cV (List.drop (c.toNat) st) im us)∧(g6 (List.drop (x0.1) (List.drop (c.toNat) st)) (x0.2.1) (x0.2.2))))∧((c=c)∧((c.toNat=c.toNat)∧((st.length - c.toNat=st.length - c.toNat)∧(((↑(st.length - c.toNat):Int)=(↑(st.length - c.toNat):Int))∧(((0:Int)=(↑x0.1:Int))∧((fr=fr)∧((tt=tt)∧((im=x0.2.1)∧((us=x0.2.2)∧(st=st))))))))))))∧(∀x1:Nat×List Int×List Bool,(((x1.1≤st.length - c.toNat)∧((cV (List.drop (x1.1) (List.drop (c.toNat) st)) (x1.2.1) (x1.2.2)=cV (List.drop (c.toNat) st) im us)∧(g6 (List.drop (x1.1) (List.drop (c.toNat) st)) (x1.2.1) (x1.2.2))))→(ae (decide ((↑x1.1:Int)<(↑(st.length - c.toNat):Int))) ((aa (↑x1.1:Int) (st.length - c.toNat))∧((aa (st.getD (c.toNat+(↑x1.1:Int).toNat) (0:Int)) (x1.2.1.length))∧((aa (x1.2.1.getD ((st.getD (c.toNat+(↑x1.1:Int).toNat) (0:Int)).toNat) (0:Int)) (x1.2.2.length))∧((aa (st.getD (c.toNat+(↑x1.1:Int).toNat) (0:Int)) (x1.2.1.length))∧((af ((↑x1.1:Int)+(1:Int)))∧(∃x2:Nat×List Int×List Bool,(((x2.1≤st.length - c.toNat)∧((cV (List.drop (x2.1) (List.drop (c.toNat) st)) (x2.2.1) (x2.2.2)=cV (List.drop (c.toNat) st) im us)∧(g6 (List.drop (x2.1) (List.drop (c.toNat) st)) (x2.2.1) (x2.2.2))))∧((st.length - x2.1<st.length - x1.1)∧((c=c)∧((c.toNat=c.toNat) ∧
 ((st.length - c.toNat=st.length - c.toNat)∧(((↑(st.length - c.toNat):Int)=(↑(st.length - c.toNat):Int))∧(((↑x1.1:Int)+(1:Int)=(↑x2.1:Int))∧((fr=fr)∧((tt=tt)∧((List.set x1.2.1 ((st.getD (c.toNat+(↑x1.1:Int).toNat) (0:Int)).toNat) (-1:Int)=x2.2.1)∧((List.set x1.2.2 ((x1.2.1.getD ((st.getD (c.toNat+(↑x1.1:Int).toNat) (0:Int)).toNat) (0:Int)).toNat) false=x2.2.2)∧(st=st)))))))))))))))))) ((((0:Int)≤c)∧(c≤(↑(st.length):Int)))∧((fr=fr)∧((tt=tt)∧((x1.2.1=(cV (List.drop (c.toNat) st) im us).1)∧((x1.2.2=(cV (List.drop (c.toNat) st) im us).2)∧(List.take (c.toNat) st=List.take (c.toNat) st)))))))))))
theorem LF (fr:List (List (List Int))) (tt:List (List (List Int))) (im:List Int) (us:List Bool) (st:List Int) (c:Int):jN Try.prog (ai D1) D0 (DZ fr tt im us st c) Try.f94 (aM Try.f94) [.box [.c (.r3 .i64 (fr)),.c (.r3 .i64 (tt)),.ob (.ints 2 .i64 (im)),.ob (.bools 4 (us)),.ob (.ints 2 .i64 (st))],.m (.c (.int .i64 (c)))] (DW fr tt im us st c) (fM 0 (DX fr tt im us st c)++gk (DY fr tt im us st c))=wW fr tt im us st c:=by kernel_rfl
theorem LG (fr:List (List (List Int))) (tt:List (List (List Int))) (im:List Int) (us:List Bool) (st:List Int) (c:Int) (Yh:(qy fr tt im us st c).pre):wW fr tt im us st c:=by
 simp only [qy,wW,aR,u1,u2,u3,u4,u5,u6,u7,u8,u9,v1,v2,v3,v4,v5,v6,v7,v8,v9,w1,w2,w3,w4,aI,aa,af,ag,aw] at Yh ⊢;obtain ⟨h1,h2,h3,h4⟩:=Yh;refine ⟨⟨h1,h2⟩,⟨(0,im,us),⟨by omega,by simp,by simpa using h4⟩,by simp⟩,?_⟩
 rintro ⟨i,a,b⟩ ⟨hi,hF,hO⟩
 simp only at hi hF hO ⊢;refine ⟨fun hlt=>?_,fun hge=>?_⟩
 ·have hi2:i<st.length - c.toNat:=by omega
  have hd:(st.drop c.toNat).drop i=st.getD (c.toNat+i) 0::(st.drop c.toNat).drop (i+1):=by
   rw [drop_cons' (st.drop c.toNat) 0 i (by rw [List.length_drop];omega)]
   congr 1
   simp [List.getD,List.getElem?_drop]
  rw [hd] at hF hO;simp only [cV] at hF;obtain ⟨q1,q2,q3⟩:=hO;refine ⟨⟨by omega,by omega⟩,q1,q2,q1,by constructor <;> omega,(i+1,a.set (st.getD (c.toNat+i) 0).toNat (-1),b.set (a.getD (st.getD (c.toNat+i) 0).toNat 0).toNat false),⟨by omega,hF,q3⟩,by omega,by simp,rfl,rfl⟩
 ·have hi2:i=st.length - c.toNat:=by omega
  have hd:(st.drop c.toNat).drop i=[]:=List.drop_eq_nil_of_le (by rw [List.length_drop];omega)
  rw [hd] at hF;simp only [cV] at hF;refine ⟨⟨h1,h2⟩,by rw [←hF],by rw [←hF]⟩
theorem LH:Fits Try.prog 94 ⟨[(0,93),(0,93)],qz⟩:=by
 refine mN (Γ:=ai D1) aQ Try.func94 (by kernel_rfl) (by kernel_rfl) (fun ads p h=>?_) fun mas q sv ex outs h hq=>?_
 ·unfold qz at h
  split at h
  ·cases h;rfl
  ·cases h
 ·unfold qz at h
  split at h
  ·rename_i heq
   have heq:=lg (l:=[_,_]) heq
   subst heq;unfold qy at h;cases h;exact ⟨D0,DZ _ _ _ _ _ _ ,by rw [LF];exact LG _ _ _ _ _ _  hq⟩
  ·cases h
end Go.Sx
