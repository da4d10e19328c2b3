/- Idl -/
import Derived.Test.YtcdmndagoafcgaaGreatGrpC
import Derived.Test.YtcdmndagoafcgaaGreatGrp
open Go Go.Proofs
namespace Go.Sx
set_option linter.unusedSimpArgs false
set_option linter.unusedVariables false
def bM (a c:List (List Int)):Prop:=a9 a=true∧a9 c=true∧a.length=c.length
theorem jv {a c:List (List Int)} (h:bM a c):1≤a.length∧a.length≤12∧c.length=a.length ∧
  (∀x,x<a.length→(a.getD x []).length=a.length∧∀y,y<a.length→0≤(a.getD x []).getD y 0∧(a.getD x []).getD y 0≤(a.length:Int) - 1) ∧
  (∀x,x<a.length→(c.getD x []).length=a.length∧∀y,y<a.length→0≤(c.getD x []).getD y 0∧(c.getD x []).getD y 0≤(a.length:Int) - 1) ∧
  (∀x,x<a.length→0≤bk a x∧bk a x≤(a.length:Int) - 1):=by
 obtain ⟨h1,h2,h3⟩:=h;obtain ⟨n1,n2,ha⟩:=bA (dh h1);obtain ⟨_,_,hc⟩:=bA (dh h2);rw [←h3] at hc;exact ⟨n1,n2,h3.symm,ha,hc,fun x hx=>lS h1 hx⟩
def sW (a:List (List Int)) (c:List (List Int)):Post:=⟨bM a c,.c (.ints 2 .i64 ((cA a c).getD [])),[]⟩
def zV:List AD→Option Post
 | [.agg [.rows .i64 (a),.rows .i64 (c)]]=>some (sW a c)
 | _=>none
def HJ (a:List (List Int)) (c:List (List Int)):Nat→Option Ann
 | 0=>some (Ann.mk ((Nat)) (fun i=>⟨[(1,.c (.ptr 1 0)),(3,.c (.int .i64 ((a.length:Int)))),(4,.c (.int .i64 ((i:Int))))],[(1,some (.box [.ro (.rows .i64 (a)),.ro (.rows .i64 (c))]))]⟩) (fun i=>i≤a.length∧cA a c=b7 a.length (f4 a c) (a.length - i)) (fun i=>a.length - i) (fun i=>fun b_=>match b_ with | 2=>some (Ann.mk ((Nat)) (fun j=>⟨[(1,.c (.ptr 1 0)),(3,.c (.int .i64 ((a.length:Int)))),(4,.c (.int .i64 ((i:Int)))),(5,.c (.int .i64 (bk a i))),(6,.c (.int .i64 ((j:Int))))],[(1,some (.box [.ro (.rows .i64 (a)),.ro (.rows .i64 (c))]))]⟩) (fun j=>j≤a.length∧i<a.length∧cA a c=(b7 a.length (gR a c i) (a.length - j)).or (b7 a.length (f4 a c) (a.length - (i+1)))) (fun j=>a.length - j) (fun j=>fun b_=>match b_ with | 4=>some (Ann.mk ((Nat)) (fun k=>⟨[(1,.c (.ptr 1 0)),(3,.c (.int .i64 ((a.length:Int)))),(4,.c (.int .i64 ((i:Int)))),(5,.c (.int .i64 (bk a i))),(6,.c (.int .i64 ((j:Int)))),(7,.c (.int .i64 ((k:Int))))],[(1,some (.box [.ro (.rows .i64 (a)),.ro (.rows .i64 (c))]))]⟩) (fun k=>k≤a.length∧j<a.length∧cA a c=((b7 a.length (ie a c i j) (a.length - k)).or (b7 a.length (gR a c i) (a.length - (j+1)))).or (b7 a.length (f4 a c) (a.length - (i+1)))) (fun k=>a.length - k) (fun _=>am)) | _=>none)) | _=>none))
 | _=>none
def HK:List (Nat×Ctr):=[(193,⟨[],o8⟩)]
def nA (c:List (List Int)) (x0:Nat) (x1:Nat):=((List.getD c ((↑x0:Int).toNat) []).getD ((↑x1:Int).toNat) (0:Int))
def lT (a:List (List Int)) (c:List (List Int)) (x0:Nat):=(b7 (a.length) (f4 a c) (a.length - (x0+(1:Nat))))
def sX (a:List (List Int)) (c:List (List Int)) (x0:Nat) (x1:Nat) (x2:Nat):=(Option.or (b7 (a.length) (ie a c x0 x1) (a.length - x2)) (b7 (a.length) (gR a c x0) (a.length - (x1+(1:Nat)))))
def zW (a:List (List Int)) (c:List (List Int)):Prop :=
 ((∃x0:Nat,(((x0≤a.length)∧(cA a c=b7 (a.length) (f4 a c) (a.length - x0)))∧(((↑(a.length):Int)=(↑(a.length):Int))∧(((0:Int)=(↑x0:Int))∧((a=a)∧(c=c))))))∧(∀x1:Nat,(((x1≤a.length)∧(cA a c=b7 (a.length) (f4 a c) (a.length - x1)))→(ac (decide ((↑x1:Int)<(↑(a.length):Int))) ((((aW a=true)∧(((0:Int)≤(↑x1:Int))∧((↑x1:Int)≤(↑(a.length):Int) - (1:Int))))∧True)∧((∃x2:Nat,(((x2≤a.length)∧((x1<a.length)∧(cA a c=Option.or (b7 (a.length) (gR a c x1) (a.length - x2)) (lT a c x1))))∧(((↑(a.length):Int)=(↑(a.length):Int))∧(((↑x1:Int)=(↑x1:Int))∧((bk a ((↑x1:Int).toNat)=bk a x1)∧(((0:Int)=(↑x2:Int))∧((a=a)∧(c=c))))))))∧(∀x3:Nat,(((x3≤a.length)∧((x1<a.length)∧(cA a c=Option.or (b7 (a.length) (gR a c x1) (a.length - x3)) (lT a c x1))))→(ac (decide ((↑x3:Int)<(↑(a.length):Int))) ((∃x4:Nat,(((x4≤a.length)∧((x3<a.length)∧(cA a c=Option.or (sX a c x1 x3 x4) (lT a c x1))))∧(((↑(a.length):Int)=(↑(a.length):Int))∧(((↑x1:Int)=(↑x1:Int))∧((bk a x1=bk a x1)∧(((↑x3:Int)=(↑x3:Int))∧(((0:Int)=(↑x4:Int))∧((a=a)∧(c=c)))))))))∧(∀x5:Nat,(((x5≤a.length)∧((x3<a.length)∧(cA a c=Option.or (sX a c x1 x3 x5) (lT a c x1))))→(ac (decide ((↑x5:Int)<(↑(a.length):Int))) ((aa (↑x1:Int) (c.length))∧((aa (↑x3:Int) (a.length))∧((aa (↑x5:Int) ((a.getD ((↑x3:Int).toNat) []).length)) ∧
 ((aa ((List.getD a ((↑x3:Int).toNat) []).getD ((↑x5:Int).toNat) (0:Int)) ((c.getD ((↑x1:Int).toNat) []).length))∧((aa (↑x1:Int) (c.length))∧((aa (↑x3:Int) ((c.getD ((↑x1:Int).toNat) []).length))∧((aa (nA c x1 x3) (a.length))∧((aa (bk a x1) ((a.getD ((nA c x1 x3).toNat) []).length))∧((aa ((List.getD a ((nA c x1 x3).toNat) []).getD ((bk a x1).toNat) (0:Int)) (a.length))∧((aa (↑x1:Int) (c.length))∧((aa (↑x5:Int) ((c.getD ((↑x1:Int).toNat) []).length))∧((aa (nA c x1 x5) ((a.getD (((List.getD a ((nA c x1 x3).toNat) []).getD ((bk a x1).toNat) (0:Int)).toNat) []).length))∧(ac ((List.getD c ((↑x1:Int).toNat) []).getD (((List.getD a ((↑x3:Int).toNat) []).getD ((↑x5:Int).toNat) (0:Int)).toNat) (0:Int) != (List.getD a ((List.getD (List.getD a ((List.getD (List.getD c ((↑x1:Int).toNat) []) ((↑x3:Int).toNat) (0:Int)).toNat) []) ((bk a x1).toNat) (0:Int)).toNat) []).getD (((List.getD c ((↑x1:Int).toNat) []).getD ((↑x5:Int).toNat) (0:Int)).toNat) (0:Int)) (([(↑x1:Int),(↑x3:Int),(↑x5:Int)]=Option.getD (cA a c) [])∧True) ((ab ((↑x5:Int)+(1:Int)))∧(∃x6:Nat,(((x6≤a.length)∧((x3<a.length)∧(cA a c=Option.or (sX a c x1 x3 x6) (lT a c x1))))∧((a.length - x6<a.length - x5)∧(((↑(a.length):Int)=(↑(a.length):Int))∧(((↑x1:Int)=(↑x1:Int))∧((bk a x1=bk a x1)∧(((↑x3:Int)=(↑x3:Int))∧(((↑x5:Int)+(1:Int)=(↑x6:Int))∧((a=a)∧(c=c)))))))))))))))))))))))) ((ab ((↑x3:Int)+(1:Int))) ∧
 (∃x7:Nat,(((x7≤a.length)∧((x1<a.length)∧(cA a c=Option.or (b7 (a.length) (gR a c x1) (a.length - x7)) (lT a c x1))))∧((a.length - x7<a.length - x3)∧(((↑(a.length):Int)=(↑(a.length):Int))∧(((↑x1:Int)=(↑x1:Int))∧((bk a x1=bk a x1)∧(((↑x3:Int)+(1:Int)=(↑x7:Int))∧((a=a)∧(c=c)))))))))))))) ((ab ((↑x1:Int)+(1:Int)))∧(∃x8:Nat,(((x8≤a.length)∧(cA a c=b7 (a.length) (f4 a c) (a.length - x8)))∧((a.length - x8<a.length - x1)∧(((↑(a.length):Int)=(↑(a.length):Int))∧(((↑x1:Int)+(1:Int)=(↑x8:Int))∧((a=a)∧(c=c))))))))))))) (([]=Option.getD (cA a c) [])∧True)))))
theorem Qf (a:List (List Int)) (c:List (List Int)):aC Tryz.prog (af HK) ah (HJ a c) Tryz.f141 (aE Tryz.f141) [] [.agg [.rows .i64 (a),.rows .i64 (c)]] (sW a c)=zW a c:=by kernel_rfl
theorem Qg (a:List (List Int)) (c:List (List Int)) (Yh:(sW a c).pre):zW a c:=by
 simp only [sW,zW,nA,lT,sX,aG,u1,u2,u3,u4,u5,u6,u7,u8,u9,v1,v2,v3,v4,v5,v6,v7,v8,v9,w1,w2,w3,w4,aH,aa,ab,ae,ar] at Yh ⊢;obtain ⟨n1,n2,hl,ha,hc,hb⟩:=jv Yh;have h1:=dh Yh.1
 refine ⟨⟨0,⟨by omega,rfl⟩,rfl⟩,fun i ⟨hi,hx⟩=>⟨fun h=>⟨⟨h1,by omega,by omega⟩,⟨0,⟨by omega,by omega,?_⟩,rfl⟩,fun j ⟨hj,_,hy⟩=>⟨fun h2=>⟨⟨0,⟨by omega,by omega,?_⟩,rfl⟩,fun k ⟨hk,_,hz⟩=>⟨fun h3=>?_,fun h3=>?_⟩⟩,fun h2=>?_⟩⟩,fun h=>?_⟩⟩
 ·rw [hx,kX _ _ i (by omega)];rfl
 ·rw [hy,kX _ _ j (by omega)];rfl
 ·have A:=ha j (by omega)
  have A2:=A.2 k (by omega)
  have C:=hc i (by omega)
  have C1:=C.2 j (by omega)
  have C2:=C.2 k (by omega)
  have B:=hb i (by omega)
  have R1:=ha ((c.getD i []).getD j 0).toNat (by omega)
  have V:=R1.2 (bk a i).toNat (by omega)
  have R2:=ha ((a.getD ((c.getD i []).getD j 0).toNat []).getD (bk a i).toNat 0).toNat (by omega)
  refine ⟨by omega,by omega,by omega,by omega,by omega,by omega,by omega,by omega,by omega,by omega,by omega,by omega,fun h4=>?_,fun h4=>⟨by omega,k+1,⟨by omega,by omega,?_⟩,by omega,by omega⟩⟩
  ·rw [hz,kX _ _ k (by omega),show ie a c i j k=some [(i:Int),(j:Int),(k:Int)] from if_neg h4];rfl
  ·rw [hz,kX _ _ k (by omega),show ie a c i j k=none from if_pos h4];rfl
 ·refine ⟨by omega,j+1,⟨by omega,by omega,?_⟩,by omega,by omega⟩
  rw [hz,show a.length - k=0 by omega];rfl
 ·refine ⟨by omega,i+1,⟨by omega,?_⟩,by omega,by omega⟩
  rw [hy,show a.length - j=0 by omega];rfl
 ·rw [hx,show a.length - i=0 by omega];rfl
theorem Qh:Fits Tryz.prog 141 ⟨[],zV⟩:=by
 refine aJ (Γ:=af HK) (aj zu aF) Tryz.func141 fun ds p h hp=>?_
 unfold zV at h;split at h
 ·cases h
  exact ⟨ah,HJ _ _ ,by rw [Qf];exact Qg _ _  hp⟩
 ·cases h
def sY (a:List (List Int)) (c:List (List Int)):Post:=⟨bM a c,.c (.nilq ((cA a c).isNone)),[]⟩
def zX:List AD→Option Post
 | [.agg [.rows .i64 (a),.rows .i64 (c)]]=>some (sY a c)
 | _=>none
def HL (a:List (List Int)) (c:List (List Int)):Nat→Option Ann
 | 0=>some (Ann.mk ((Nat)) (fun i=>⟨[(1,.c (.ptr 1 0)),(3,.c (.own (10))),(4,.c (.int .i64 ((a.length:Int)))),(14,.c (.int .i64 ((a.length:Int)))),(15,.c (.int .i64 ((i:Int))))],[(1,some (.box [.ro (.rows .i64 (a)),.ro (.rows .i64 (c))])),(10,some (.ints 2 .i64 (bH a)))]⟩) (fun i=>i≤a.length∧cA a c=b7 a.length (f4 a c) (a.length - i)) (fun i=>a.length - i) (fun i=>fun b_=>match b_ with | 2=>some (Ann.mk ((Nat)) (fun j=>⟨[(1,.c (.ptr 1 0)),(3,.c (.own (10))),(4,.c (.int .i64 ((a.length:Int)))),(14,.c (.int .i64 ((a.length:Int)))),(15,.c (.int .i64 ((i:Int)))),(5,.c (.int .i64 ((i:Int)))),(18,.c (.int .i64 ((a.length:Int)))),(19,.c (.int .i64 ((j:Int))))],[(1,some (.box [.ro (.rows .i64 (a)),.ro (.rows .i64 (c))])),(10,some (.ints 2 .i64 (bH a)))]⟩) (fun j=>j≤a.length∧i<a.length∧cA a c=(b7 a.length (gR a c i) (a.length - j)).or (b7 a.length (f4 a c) (a.length - (i+1)))) (fun j=>a.length - j) (fun j=>fun b_=>match b_ with | 4=>some (Ann.mk ((Nat)) (fun k=>⟨[(1,.c (.ptr 1 0)),(3,.c (.own (10))),(4,.c (.int .i64 ((a.length:Int)))),(14,.c (.int .i64 ((a.length:Int)))),(15,.c (.int .i64 ((i:Int)))),(5,.c (.int .i64 ((i:Int)))),(18,.c (.int .i64 ((a.length:Int)))),(19,.c (.int .i64 ((j:Int)))),(6,.c (.int .i64 ((j:Int)))),(22,.c (.int .i64 ((a.length:Int)))),(23,.c (.int .i64 ((k:Int))))],[(1,some (.box [.ro (.rows .i64 (a)),.ro (.rows .i64 (c))])),(10,some (.ints 2 .i64 (bH a)))]⟩) (fun k=>k≤a.length∧j<a.length∧cA a c=((b7 a.length (ie a c i j) (a.length - k)).or (b7 a.length (gR a c i) (a.length - (j+1)))).or (b7 a.length (f4 a c) (a.length - (i+1)))) (fun k=>a.length - k) (fun _=>am)) | _=>none)) | _=>none))
 | _=>none
def HM:List (Nat×Ctr):=[(144,⟨[],nz⟩)]
def nB (c:List (List Int)) (x0:Nat) (x1:Nat):=((List.getD c ((↑x0:Int).toNat) []).getD ((↑x1:Int).toNat) (0:Int))
def lU (a:List (List Int)) (c:List (List Int)) (x0:Nat):=(b7 (a.length) (f4 a c) (a.length - (x0+(1:Nat))))
def sZ (a:List (List Int)) (c:List (List Int)) (x0:Nat) (x1:Nat) (x2:Nat):=(Option.or (b7 (a.length) (ie a c x0 x1) (a.length - x2)) (b7 (a.length) (gR a c x0) (a.length - (x1+(1:Nat)))))
def zY (a:List (List Int)) (c:List (List Int)):Prop :=
 (((aW a=true)∧True)∧((∃x0:Nat,(((x0≤a.length)∧(cA a c=b7 (a.length) (f4 a c) (a.length - x0)))∧(((↑(a.length):Int)=(↑(a.length):Int))∧(((↑(a.length):Int)=(↑(a.length):Int))∧(((0:Int)=(↑x0:Int))∧((a=a)∧((c=c)∧(bH a=bH a))))))))∧(∀x1:Nat,(((x1≤a.length)∧(cA a c=b7 (a.length) (f4 a c) (a.length - x1)))→(ac (decide ((↑x1:Int)<(↑(a.length):Int))) ((∃x2:Nat,(((x2≤a.length)∧((x1<a.length)∧(cA a c=Option.or (b7 (a.length) (gR a c x1) (a.length - x2)) (lU a c x1))))∧(((↑(a.length):Int)=(↑(a.length):Int))∧(((↑(a.length):Int)=(↑(a.length):Int))∧(((↑x1:Int)=(↑x1:Int))∧(((↑x1:Int)=(↑x1:Int))∧(((↑(a.length):Int)=(↑(a.length):Int))∧(((0:Int)=(↑x2:Int))∧((a=a)∧((c=c)∧(bH a=bH a)))))))))))∧(∀x3:Nat,(((x3≤a.length)∧((x1<a.length)∧(cA a c=Option.or (b7 (a.length) (gR a c x1) (a.length - x3)) (lU a c x1))))→(ac (decide ((↑x3:Int)<(↑(a.length):Int))) ((∃x4:Nat,(((x4≤a.length)∧((x3<a.length)∧(cA a c=Option.or (sZ a c x1 x3 x4) (lU a c x1))))∧(((↑(a.length):Int)=(↑(a.length):Int))∧(((↑(a.length):Int)=(↑(a.length):Int))∧(((↑x1:Int)=(↑x1:Int))∧(((↑x1:Int)=(↑x1:Int))∧(((↑(a.length):Int)=(↑(a.length):Int))∧(((↑x3:Int)=(↑x3:Int))∧(((↑x3:Int)=(↑x3:Int))∧(((↑(a.length):Int)=(↑(a.length):Int))∧(((0:Int)=(↑x4:Int))∧((a=a)∧((c=c)∧(bH a=bH a))))))))))))))∧(∀x5:Nat,(((x5≤a.length)∧((x3<a.length) ∧
 (cA a c=Option.or (sZ a c x1 x3 x5) (lU a c x1))))→(ac (decide ((↑x5:Int)<(↑(a.length):Int))) ((aa (↑x1:Int) (c.length))∧((aa (↑x3:Int) (a.length))∧((aa (↑x5:Int) ((a.getD ((↑x3:Int).toNat) []).length))∧((aa ((List.getD a ((↑x3:Int).toNat) []).getD ((↑x5:Int).toNat) (0:Int)) ((c.getD ((↑x1:Int).toNat) []).length))∧((aa (↑x1:Int) (c.length))∧((aa (↑x3:Int) ((c.getD ((↑x1:Int).toNat) []).length))∧((aa (nB c x1 x3) (a.length))∧((aa (↑x1:Int) ((bH a).length))∧((aa ((bH a).getD ((↑x1:Int).toNat) (0:Int)) ((a.getD ((nB c x1 x3).toNat) []).length))∧((aa ((List.getD a ((nB c x1 x3).toNat) []).getD (((bH a).getD ((↑x1:Int).toNat) (0:Int)).toNat) (0:Int)) (a.length))∧((aa (↑x1:Int) (c.length))∧((aa (↑x5:Int) ((c.getD ((↑x1:Int).toNat) []).length))∧((aa (nB c x1 x5) ((a.getD (((List.getD a ((nB c x1 x3).toNat) []).getD (((bH a).getD ((↑x1:Int).toNat) (0:Int)).toNat) (0:Int)).toNat) []).length))∧(ac ((List.getD c ((↑x1:Int).toNat) []).getD (((List.getD a ((↑x3:Int).toNat) []).getD ((↑x5:Int).toNat) (0:Int)).toNat) (0:Int) != (List.getD a ((List.getD (List.getD a ((List.getD (List.getD c ((↑x1:Int).toNat) []) ((↑x3:Int).toNat) (0:Int)).toNat) []) ((List.getD (bH a) ((↑x1:Int).toNat) (0:Int)).toNat) (0:Int)).toNat) []).getD (((List.getD c ((↑x1:Int).toNat) []).getD ((↑x5:Int).toNat) (0:Int)).toNat) (0:Int)) (((false=Option.isNone (cA a c)) ∧
 ([(↑x1:Int),(↑x3:Int),(↑x5:Int)].length≠(0:Nat)))∧True) ((ab ((↑x5:Int)+(1:Int)))∧(∃x6:Nat,(((x6≤a.length)∧((x3<a.length)∧(cA a c=Option.or (sZ a c x1 x3 x6) (lU a c x1))))∧((a.length - x6<a.length - x5)∧(((↑(a.length):Int)=(↑(a.length):Int))∧(((↑(a.length):Int)=(↑(a.length):Int))∧(((↑x1:Int)=(↑x1:Int))∧(((↑x1:Int)=(↑x1:Int))∧(((↑(a.length):Int)=(↑(a.length):Int))∧(((↑x3:Int)=(↑x3:Int))∧(((↑x3:Int)=(↑x3:Int))∧(((↑(a.length):Int)=(↑(a.length):Int))∧(((↑x5:Int)+(1:Int)=(↑x6:Int))∧((a=a)∧((c=c)∧(bH a=bH a)))))))))))))))))))))))))))))) ((ab ((↑x3:Int)+(1:Int)))∧(∃x7:Nat,(((x7≤a.length)∧((x1<a.length)∧(cA a c=Option.or (b7 (a.length) (gR a c x1) (a.length - x7)) (lU a c x1))))∧((a.length - x7<a.length - x3)∧(((↑(a.length):Int)=(↑(a.length):Int))∧(((↑(a.length):Int)=(↑(a.length):Int))∧(((↑x1:Int)=(↑x1:Int))∧(((↑x1:Int)=(↑x1:Int))∧(((↑(a.length):Int)=(↑(a.length):Int))∧(((↑x3:Int)+(1:Int)=(↑x7:Int))∧((a=a)∧((c=c)∧(bH a=bH a))))))))))))))))) ((ab ((↑x1:Int)+(1:Int)))∧(∃x8:Nat,(((x8≤a.length)∧(cA a c=b7 (a.length) (f4 a c) (a.length - x8)))∧((a.length - x8<a.length - x1)∧(((↑(a.length):Int)=(↑(a.length):Int))∧(((↑(a.length):Int)=(↑(a.length):Int))∧(((↑x1:Int)+(1:Int)=(↑x8:Int))∧((a=a)∧((c=c)∧(bH a=bH a)))))))))))))) ((true=Option.isNone (cA a c))∧True))))))
theorem Qi (a:List (List Int)) (c:List (List Int)):aC Tryz.prog (af HM) ah (HL a c) Tryz.f105 (aE Tryz.f105) [] [.agg [.rows .i64 (a),.rows .i64 (c)]] (sY a c)=zY a c:=by kernel_rfl
theorem Qj (a:List (List Int)) (c:List (List Int)) (Yh:(sY a c).pre):zY a c:=by
 simp only [sY,zY,nB,lU,sZ,aG,u1,u2,u3,u4,u5,u6,u7,u8,u9,v1,v2,v3,v4,v5,v6,v7,v8,v9,w1,w2,w3,w4,aH,aa,ab,ae,ar] at Yh ⊢;obtain ⟨n1,n2,hl,ha,hc,hb⟩:=jv Yh;have h1:=dh Yh.1
 have hbl:=o5 a
 refine ⟨h1,⟨0,⟨by omega,rfl⟩,rfl⟩,fun i ⟨hi,hx⟩=>⟨fun h=>⟨⟨0,⟨by omega,by omega,?_⟩,rfl⟩,fun j ⟨hj,_,hy⟩=>⟨fun h2=>⟨⟨0,⟨by omega,by omega,?_⟩,rfl⟩,fun k ⟨hk,_,hz⟩=>⟨fun h3=>?_,fun h3=>?_⟩⟩,fun h2=>?_⟩⟩,fun h=>?_⟩⟩
 ·rw [hx,kX _ _ i (by omega)];rfl
 ·rw [hy,kX _ _ j (by omega)];rfl
 ·have A:=ha j (by omega)
  have A2:=A.2 k (by omega)
  have C:=hc i (by omega)
  have C1:=C.2 j (by omega)
  have C2:=C.2 k (by omega)
  have B:=hb i (by omega)
  have R1:=ha ((c.getD i []).getD j 0).toNat (by omega)
  have V:=R1.2 (bk a i).toNat (by omega)
  have R2:=ha ((a.getD ((c.getD i []).getD j 0).toNat []).getD (bk a i).toNat 0).toNat (by omega)
  rw [o6 a i (by omega)]
  refine ⟨by omega,by omega,by omega,by omega,by omega,by omega,by omega,by omega,by omega,by omega,by omega,by omega,by omega,fun h4=>⟨?_,by omega⟩,fun h4=>⟨by omega,k+1,⟨by omega,by omega,?_⟩,by omega,by omega⟩⟩
  ·rw [hz,kX _ _ k (by omega),show ie a c i j k=some [(i:Int),(j:Int),(k:Int)] from if_neg h4];rfl
  ·rw [hz,kX _ _ k (by omega),show ie a c i j k=none from if_pos h4];rfl
 ·refine ⟨by omega,j+1,⟨by omega,by omega,?_⟩,by omega,by omega⟩
  rw [hz,show a.length - k=0 by omega];rfl
 ·refine ⟨by omega,i+1,⟨by omega,?_⟩,by omega,by omega⟩
  rw [hy,show a.length - j=0 by omega];rfl
 ·rw [hx,show a.length - i=0 by omega];rfl
theorem Qk:Fits Tryz.prog 105 ⟨[],zX⟩:=by
 refine aJ (Γ:=af HM) (aj sD aF) Tryz.func105 fun ds p h hp=>?_
 unfold zX at h;split at h
 ·cases h
  exact ⟨ah,HL _ _ ,by rw [Qi];exact Qj _ _  hp⟩
 ·cases h
def s8 (a:List (List Int)) (c:List (List Int)):Post:=⟨au a∧au c,.c (.bool (a9 a&&a9 c&&decide (a.length=c.length))),[]⟩
def zZ:List AD→Option Post
 | [.agg [.rows .i64 (a),.rows .i64 (c)]]=>some (s8 a c)
 | _=>none
def HN:List (Nat×Ctr):=[(130,⟨[],zv⟩)]
def z0 (a:List (List Int)) (c:List (List Int)):Prop :=
 (((au a)∧True)∧(ac (a9 a) (((au c)∧True)∧(ac (a9 c) ((((↑(a.length):Int) == (↑(c.length):Int))=(a9 a&&a9 c&&decide (a.length=c.length)))∧True) ((false=(a9 a&&a9 c&&decide (a.length=c.length)))∧True))) ((false=(a9 a&&a9 c&&decide (a.length=c.length)))∧True)))
theorem Ql (a:List (List Int)) (c:List (List Int)):aC Tryz.prog (af HN) ah am Tryz.f104 (aE Tryz.f104) [] [.agg [.rows .i64 (a),.rows .i64 (c)]] (s8 a c)=z0 a c:=by kernel_rfl
theorem Qm (a:List (List Int)) (c:List (List Int)) (Yh:(s8 a c).pre):z0 a c:=by
 simp only [s8,z0,aG,u1,u2,u3,u4,u5,u6,u7,u8,u9,v1,v2,v3,v4,v5,v6,v7,v8,v9,w1,w2,w3,w4,aH,aa,ab,ae,ar] at Yh ⊢;obtain ⟨r1,r2⟩:=Yh;refine ⟨r1,fun h=>⟨r2,fun h2=>?_,fun h2=>by simp [h,h2]⟩,fun h=>by simp [h]⟩
 rw [h,h2,Bool.true_and,Bool.true_and,Bool.eq_iff_iff,beq_iff_eq,decide_eq_true_iff];omega
theorem Qn:Fits Tryz.prog 104 ⟨[],zZ⟩:=by
 refine aJ (Γ:=af HN) (aj PD aF) Tryz.func104 fun ds p h hp=>?_
 unfold zZ at h;split at h
 ·cases h
  exact ⟨ah,am,by rw [Ql];exact Qm _ _  hp⟩
 ·cases h
def s9 (a:List (List Int)) (c:List (List Int)):Post:=⟨au a∧au c,.c (.bool (aK a c)),[]⟩
def gT:List AD→Option Post
 | [.agg [.rows .i64 (a),.rows .i64 (c)]]=>some (s9 a c)
 | _=>none
def HO:List (Nat×Ctr):=[(104,⟨[],zZ⟩),(105,⟨[],zX⟩)]
def z9 (a:List (List Int)) (c:List (List Int)):Prop :=
 ((((au a)∧(au c))∧True)∧(ac (a9 a&&a9 c&&decide (a.length=c.length)) (((bM a c)∧True)∧((Option.isNone (cA a c)=aK a c)∧True)) ((false=aK a c)∧True)))
theorem Qo (a:List (List Int)) (c:List (List Int)):aC Tryz.prog (af HO) ah am Tryz.f44 (aE Tryz.f44) [] [.agg [.rows .i64 (a),.rows .i64 (c)]] (s9 a c)=z9 a c:=by kernel_rfl
theorem Qp (a:List (List Int)) (c:List (List Int)) (Yh:(s9 a c).pre):z9 a c:=by
 simp only [s9,z9,aG,u1,u2,u3,u4,u5,u6,u7,u8,u9,v1,v2,v3,v4,v5,v6,v7,v8,v9,w1,w2,w3,w4,aH,aa,ab,ae,ar] at Yh ⊢;refine ⟨Yh,fun h=>?_,fun h=>by rw [aK,h,Bool.false_and]⟩
 have h2:=h
 simp only [Bool.and_eq_true,decide_eq_true_eq] at h2;exact ⟨⟨h2.1.1,h2.1.2,h2.2⟩,by rw [aK,h,Bool.true_and]⟩
theorem iZ:Fits Tryz.prog 44 ⟨[],gT⟩:=by
 refine aJ (Γ:=af HO) (aj Qn (aj Qk aF)) Tryz.func44 fun ds p h hp=>?_
 unfold gT at h;split at h
 ·cases h
  exact ⟨ah,am,by rw [Qo];exact Qp _ _  hp⟩
 ·cases h
def td (a:List (List Int)) (c:List (List Int)):Post:=⟨au a∧au c,.c (.bool (aK a c)),[]⟩
def nC:List AD→Option Post
 | [.agg [.rows .i64 (a),.rows .i64 (c)]]=>some (td a c)
 | _=>none
def HP:List (Nat×Ctr):=[(126,⟨[],zx⟩),(141,⟨[],zV⟩)]
def Aa (a:List (List Int)) (c:List (List Int)):Prop :=
 (((au a)∧True)∧(ac (a9 a) (((au c)∧True)∧(ac (a9 c) (ac ((↑(a.length):Int) == (↑(c.length):Int)) (((bM a c)∧True)∧((((↑((Option.getD (cA a c) []).length):Int) == (0:Int))=aK a c)∧True)) ((false=aK a c)∧True)) ((false=aK a c)∧True))) ((false=aK a c)∧True)))
theorem Qq (a:List (List Int)) (c:List (List Int)):aC Tryz.prog (af HP) ah am Tryz.f78 (aE Tryz.f78) [] [.agg [.rows .i64 (a),.rows .i64 (c)]] (td a c)=Aa a c:=by kernel_rfl
theorem Qr (a:List (List Int)) (c:List (List Int)) (Yh:(td a c).pre):Aa a c:=by
 simp only [td,Aa,aG,u1,u2,u3,u4,u5,u6,u7,u8,u9,v1,v2,v3,v4,v5,v6,v7,v8,v9,w1,w2,w3,w4,aH,aa,ab,ae,ar] at Yh ⊢;obtain ⟨r1,r2⟩:=Yh;refine ⟨r1,fun h=>⟨r2,fun h2=>⟨fun h3=>⟨⟨h,h2,by omega⟩,?_⟩,fun h3=>?_⟩,fun h2=>by simp [aK,h2]⟩,fun h=>by simp [aK,h]⟩
 ·rw [aK,h,h2,decide_eq_true (show a.length=c.length by omega),Bool.true_and,Bool.true_and,Bool.true_and]
  cases hf:cA a c with
  | none=>rfl
  | some l =>
   have hl:=Pq hf
   cases l with
   | nil=>exact absurd rfl hl
   | cons x l=>simp;omega
 ·rw [aK,decide_eq_false (show ¬ a.length=c.length by omega)];simp
theorem te:Fits Tryz.prog 78 ⟨[],nC⟩:=by
 refine aJ (Γ:=af HP) (aj PG (aj Qh aF)) Tryz.func78 fun ds p h hp=>?_
 unfold nC at h;split at h
 ·cases h
  exact ⟨ah,am,by rw [Qq];exact Qr _ _  hp⟩
 ·cases h
def tf (x:Int) (y:Int) (a:List (List Int)) (c:List (List Int)) (m:List Int):Post:=⟨bM a c∧m=bH a∧0≤x∧x<(a.length:Int)∧0≤y∧y<(a.length:Int),.c (.int .i64 (fP a c x.toNat y.toNat)),[]⟩
def o9:List AD→Option Post
 | [.c (.int .i64 (x)),.c (.int .i64 (y)),.box [.rows .i64 (a),.rows .i64 (c)],.box [.ints .i64 (m)]]=>some (tf x y a c m)
 | _=>none
def HQ:List (Nat×Ctr):=[]
def Ab (x:Int) (y:Int) (a:List (List Int)) (c:List (List Int)) (m:List Int):Prop :=
 ((aa x (m.length))∧((aa (m.getD (x.toNat) (0:Int)) (a.length))∧((aa x (c.length))∧((aa y ((c.getD (x.toNat) []).length))∧((aa ((List.getD c (x.toNat) []).getD (y.toNat) (0:Int)) ((a.getD ((m.getD (x.toNat) (0:Int)).toNat) []).length))∧(((List.getD a ((List.getD m (x.toNat) (0:Int)).toNat) []).getD (((List.getD c (x.toNat) []).getD (y.toNat) (0:Int)).toNat) (0:Int)=fP a c (x.toNat) (y.toNat))∧True))))))
theorem Qs (x:Int) (y:Int) (a:List (List Int)) (c:List (List Int)) (m:List Int):aC Tryz.prog (af HQ) ah am Tryz.f154 (aE Tryz.f154) [] [.c (.int .i64 (x)),.c (.int .i64 (y)),.box [.rows .i64 (a),.rows .i64 (c)],.box [.ints .i64 (m)]] (tf x y a c m)=Ab x y a c m:=by kernel_rfl
theorem Qt (x:Int) (y:Int) (a:List (List Int)) (c:List (List Int)) (m:List Int) (Yh:(tf x y a c m).pre):Ab x y a c m:=by
 simp only [tf,Ab,aG,u1,u2,u3,u4,u5,u6,u7,u8,u9,v1,v2,v3,v4,v5,v6,v7,v8,v9,w1,w2,w3,w4,aH,aa,ab,ae,ar] at Yh ⊢;obtain ⟨h,rfl,x1,x2,y1,y2⟩:=Yh;obtain ⟨n1,n2,hl,ha,hc,hb⟩:=jv h;have hbl:=o5 a
 have B:=hb x.toNat (by omega)
 have C:=hc x.toNat (by omega)
 have C1:=C.2 y.toNat (by omega)
 rw [o6 a x.toNat (by omega)]
 have R:=ha (bk a x.toNat).toNat (by omega)
 exact ⟨by omega,by omega,by omega,by omega,by omega,rfl⟩
theorem Qu:Fits Tryz.prog 154 ⟨[],o9⟩:=by
 refine aJ (Γ:=af HQ) aF Tryz.func154 fun ds p h hp=>?_
 unfold o9 at h;split at h
 ·cases h
  exact ⟨ah,am,by rw [Qs];exact Qt _ _ _ _ _  hp⟩
 ·cases h
def tg (a:List (List Int)) (c:List (List Int)):Post:=⟨bM a c,.c (.rows 57 2 .i64 (aO a c)),[]⟩
def kT:List AD→Option Post
 | [.agg [.rows .i64 (a),.rows .i64 (c)]]=>some (tg a c)
 | _=>none
def HR:List (Nat×Ctr):=[(144,⟨[],nz⟩),(153,⟨[],oK⟩),(154,⟨[],o9⟩)]
def Ac (a:List (List Int)) (c:List (List Int)):Prop :=
 (((aW a=true)∧True)∧(((((0:Int)≤(↑(a.length):Int))∧(((↑(a.length):Int)≤(144:Int))∧(∀(x y:Int),(0:Int)≤x→x<(↑(a.length):Int)→(0:Int)≤y→y<(↑(a.length):Int)→jF (o9 [AD.c (FC.int IntKind.i64 x),AD.c (FC.int IntKind.i64 y),AD.box [FC.rows IntKind.i64 a,FC.rows IntKind.i64 c],AD.box [FC.ints IntKind.i64 (bH a)]]))))∧True)∧(((aS ((↑(a.length):Int).toNat) fun (x y:Nat)=>ku (o9 [AD.c (FC.int IntKind.i64 (↑x:Int)),AD.c (FC.int IntKind.i64 (↑y:Int)),AD.box [FC.rows IntKind.i64 a,FC.rows IntKind.i64 c],AD.box [FC.ints IntKind.i64 (bH a)]]))=aO a c)∧True)))
theorem Qv (a:List (List Int)) (c:List (List Int)):aC Tryz.prog (af HR) ah am Tryz.f86 (aE Tryz.f86) [] [.agg [.rows .i64 (a),.rows .i64 (c)]] (tg a c)=Ac a c:=by kernel_rfl
theorem Qw (a:List (List Int)) (c:List (List Int)) (Yh:(tg a c).pre):Ac a c:=by
 simp only [tg,Ac,aG,u1,u2,u3,u4,u5,u6,u7,u8,u9,v1,v2,v3,v4,v5,v6,v7,v8,v9,w1,w2,w3,w4,aH,aa,ab,ae,ar] at Yh ⊢;obtain ⟨n1,n2,hl,ha,hc,hb⟩:=jv Yh;exact ⟨dh Yh.1,⟨by omega,by omega,fun x y a1 a2 a3 a4=>⟨Yh,rfl,a1,a2,a3,a4⟩⟩,xC fun x y hx hy=>rfl⟩
theorem nD:Fits Tryz.prog 86 ⟨[],kT⟩:=by
 refine aJ (Γ:=af HR) (aj sD (aj xB (aj Qu aF))) Tryz.func86 fun ds p h hp=>?_
 unfold kT at h;split at h
 ·cases h
  exact ⟨ah,am,by rw [Qv];exact Qw _ _  hp⟩
 ·cases h
def ti (a:List (List Int)) (c:List (List Int)):Post:=⟨bM a c,.c (.rows 57 2 .i64 (aO a c)),[]⟩
def Ad:List AD→Option Post
 | [.agg [.rows .i64 (a),.rows .i64 (c)]]=>some (ti a c)
 | _=>none
def HS (a:List (List Int)) (c:List (List Int)):Nat→Option Ann
 | 0=>some (Ann.mk ((Nat)) (fun i=>⟨[(1,.c (.ptr 1 0)),(3,.c (.own (8))),(4,.c (.int .i64 ((i:Int))))],[(1,some (.box [.ro (.rows .i64 (a)),.ro (.rows .i64 (c))])),(8,some (.rows 0 57 2 .i64 ((aO a c).take i)))]⟩) (fun i=>i≤a.length) (fun i=>a.length - i) (fun i=>fun b_=>match b_ with | 2=>some (Ann.mk ((Nat)) (fun j=>⟨[(1,.c (.ptr 1 0)),(3,.c (.own (8))),(4,.c (.int .i64 ((i:Int)))),(5,.c (.own (16))),(6,.c (.int .i64 (bk a i))),(7,.c (.int .i64 ((j:Int))))],[(1,some (.box [.ro (.rows .i64 (a)),.ro (.rows .i64 (c))])),(8,some (.rows 0 57 2 .i64 ((aO a c).take i))),(16,some (.ints 2 .i64 ((aq a.length (fP a c i)).take j)))]⟩) (fun j=>j≤a.length∧i<a.length) (fun j=>a.length - j) (fun _=>am)) | _=>none))
 | _=>none
def HT:List (Nat×Ctr):=[(193,⟨[],o8⟩)]
def Ae (a:List (List Int)) (c:List (List Int)):Prop :=
 ((∃x0:Nat,((x0≤a.length)∧(((0:Int)=(↑x0:Int))∧((a=a)∧((c=c)∧(([]:List (List Int))=List.take x0 (aO a c)))))))∧(∀x1:Nat,((x1≤a.length)→(ac (decide ((↑x1:Int)<(↑(a.length):Int))) ((((aW a=true)∧(((0:Int)≤(↑x1:Int))∧((↑x1:Int)≤(↑(a.length):Int) - (1:Int))))∧True)∧((∃x2:Nat,(((x2≤a.length)∧(x1<a.length))∧(((↑x1:Int)=(↑x1:Int))∧((bk a ((↑x1:Int).toNat)=bk a x1)∧(((0:Int)=(↑x2:Int))∧((a=a)∧((c=c)∧((List.take x1 (aO a c)=List.take x1 (aO a c))∧([]=List.take x2 (aq (a.length) (fP a c x1)))))))))))∧(∀x3:Nat,(((x3≤a.length)∧(x1<a.length))→(ac (decide ((↑x3:Int)<(↑(a.length):Int))) ((aa (bk a x1) (a.length))∧((aa (↑x1:Int) (c.length))∧((aa (↑x3:Int) ((c.getD ((↑x1:Int).toNat) []).length))∧((aa ((List.getD c ((↑x1:Int).toNat) []).getD ((↑x3:Int).toNat) (0:Int)) ((a.getD ((bk a x1).toNat) []).length))∧((ae ((List.take x3 (aq (a.length) (fP a c x1))).length+[(List.getD a ((bk a x1).toNat) []).getD (((List.getD c ((↑x1:Int).toNat) []).getD ((↑x3:Int).toNat) (0:Int)).toNat) (0:Int)].length))∧((ab ((↑x3:Int)+(1:Int)))∧(∃x4:Nat,(((x4≤a.length)∧(x1<a.length))∧((a.length - x4<a.length - x3)∧(((↑x1:Int)=(↑x1:Int))∧((bk a x1=bk a x1)∧(((↑x3:Int)+(1:Int)=(↑x4:Int))∧((a=a)∧((c=c)∧((List.take x1 (aO a c)=List.take x1 (aO a c)) ∧
 (List.take x3 (aq (a.length) (fP a c x1))++[(List.getD a ((bk a x1).toNat) []).getD (((List.getD c ((↑x1:Int).toNat) []).getD ((↑x3:Int).toNat) (0:Int)).toNat) (0:Int)]=List.take x4 (aq (a.length) (fP a c x1)))))))))))))))))) ((ae ((List.take x1 (aO a c)).length+(List.take x3 (aq (a.length) (fP a c x1))::([]:List (List Int))).length))∧((ab ((↑x1:Int)+(1:Int)))∧(∃x5:Nat,((x5≤a.length)∧((a.length - x5<a.length - x1)∧(((↑x1:Int)+(1:Int)=(↑x5:Int))∧((a=a)∧((c=c)∧(List.take x1 (aO a c)++List.take x3 (aq (a.length) (fP a c x1))::([]:List (List Int))=List.take x5 (aO a c))))))))))))))) ((List.take x1 (aO a c)=aO a c)∧True)))))
theorem Qx (a:List (List Int)) (c:List (List Int)):aC Tryz.prog (af HT) ah (HS a c) Tryz.f202 (aE Tryz.f202) [] [.agg [.rows .i64 (a),.rows .i64 (c)]] (ti a c)=Ae a c:=by kernel_rfl
theorem Qy (a:List (List Int)) (c:List (List Int)) (Yh:(ti a c).pre):Ae a c:=by
 simp only [ti,Ae,aG,u1,u2,u3,u4,u5,u6,u7,u8,u9,v1,v2,v3,v4,v5,v6,v7,v8,v9,w1,w2,w3,w4,aH,aa,ab,ae,ar] at Yh ⊢;obtain ⟨n1,n2,hl,ha,hc,hb⟩:=jv Yh;have h1:=dh Yh.1
 have hT:(aO a c).length=a.length:=fK _ _
 have hr:∀i:Nat,(aq a.length (fP a c i)).length=a.length:=fun i=>cf _ _
 refine ⟨⟨0,by omega,rfl,by simp⟩,fun i hi=>⟨fun h=>⟨⟨h1,by omega,by omega⟩,⟨0,by omega,rfl,by simp⟩,fun j ⟨hj,_⟩=>⟨fun h3=>?_,fun h3=>?_⟩⟩,fun h=>List.take_of_length_le (by omega)⟩⟩
 ·have B:=hb i (by omega)
  have C:=hc i (by omega)
  have C1:=C.2 j (by omega)
  have R:=ha (bk a i).toNat (by omega)
  have:=hr i
  refine ⟨by omega,by omega,by omega,by omega,by omega,by omega,j+1,by omega,by omega,by omega,?_⟩
  rw [←dF _ 0 j (by omega),cr _ _ _ (by omega)]
  rfl
 ·refine ⟨by omega,by omega,i+1,by omega,by omega,by omega,?_⟩
  have e:(aq a.length (fP a c i)).take j=aq a.length (fP a c i):=List.take_of_length_le (by rw [hr];omega)
  rw [←dF _ [] i (by omega),aO,eZ _ _ _ (by omega),e]
theorem Qz:Fits Tryz.prog 202 ⟨[],Ad⟩:=by
 refine aJ (Γ:=af HT) (aj zu aF) Tryz.func202 fun ds p h hp=>?_
 unfold Ad at h;split at h
 ·cases h
  exact ⟨ah,HS _ _ ,by rw [Qx];exact Qy _ _  hp⟩
 ·cases h
def bu (t:List (List Int)) (s:Int):Prop:=aW t=true∧0≤s∧s.toNat<2 ^ t.length
theorem lV {n:Nat} (h:n≤12):2 ^ n≤4096:=Nat.pow_le_pow_right (n:=2) (by omega) h
theorem gv {t:List (List Int)} {s:Int} (h:bu t s):0≤s∧s<4096:=by
 have:=lV (bA h.1).2.1
 have:=h.2.2
 have:=h.2.1
 omega
theorem tj {s:Int} {n:Nat} (hs:s.toNat<2 ^ n) (hn:n≤12) (f:Int→Bool):(ag s 12).all f=(List.range n).all fun x=>!aD s x||f (x:Int):=by
 have e:=sk hs (12 - n)
 rw [show n+(12 - n)=12 by omega] at e
 rw [e,Pi]
theorem QA (n m:Nat) (f:Nat→Nat→Bool):((List.range n).all fun x=>(List.range m).all fun y=>f x y)=(List.range m).all fun y=>(List.range n).all fun x=>f x y:=by
 rw [Bool.eq_iff_iff];simp only [List.all_eq_true];exact ⟨fun h y hy x hx=>h x hx y hy,fun h x hx y hy=>h y hy x hx⟩
theorem HU (l:List Nat) (b:Bool) (f:Nat→Bool):(!b||l.all f)=l.all fun x=>!b||f x:=by
 cases b
 ·rw [Bool.eq_iff_iff];simp
 ·simp
def il (t:List (List Int)) (s:Int) (x y:Nat):Bool:=!(aD s x&&aD s y)||aD s (en t x y).toNat
def gU (t:List (List Int)) (s:Int) (x:Nat):Bool:=(List.range t.length).all (il t s x)
def bv (t:List (List Int)) (s:Int):Bool:=(List.range t.length).all (gU t s)
def cQ (t:List (List Int)) (s:Int):Bool:=aD s 0&&bv t s
def jw (t:List (List Int)) (s:Int) (x:Int):Bool:=(ag s 12).all fun y=>aD s (en t x.toNat y.toNat).toNat
theorem QB {t:List (List Int)} {s:Int} (h:bu t s):(ag s 12).all (jw t s)=bv t s:=by
 have hn:=(bA h.1).2.1
 rw [tj h.2.2 hn,bv]
 congr 1
 funext x
 rw [jw,tj h.2.2 hn,gU,HU]
 congr 1
 funext y
 simp only [il,Int.toNat_natCast];cases aD s x <;> cases aD s y <;> simp
def i6 (l:List (List Int)) (s:Int) (y x:Nat):Bool:=!aD s x||aD s (en l y x).toNat
def gV (n:Nat) (l:List (List Int)) (s:Int) (y:Nat):Bool:=(List.range n).all (i6 l s y)
def cJ (n:Nat) (l:List (List Int)) (s:Int):Bool:=(List.range n).all (gV n l s)
def jx (l:List (List Int)) (s:Int) (x:Int):Bool:=l.all fun r=>aD s (r.getD x.toNat 0).toNat
theorem QC {t l:List (List Int)} {s:Int} (h:bu t s) (hl:l.length=t.length):(ag s 12).all (jx l s)=cJ t.length l s:=by
 have hn:=(bA h.1).2.1
 rw [tj h.2.2 hn,cJ];have:gV t.length l s=fun y=>(List.range t.length).all fun x=>i6 l s y x:=rfl
 rw [this,QA]
 congr 1
 funext x
 rw [jx,su,hl,HU]
 congr 1
def im (t:List (List Int)) (s:Int) (x y:Nat):Bool:=!aD s y||aD s (en t (en t x y).toNat (bk t x).toNat).toNat
def gW (t:List (List Int)) (s:Int) (x:Nat):Bool:=(List.range t.length).all (im t s x)
def cK (t:List (List Int)) (s:Int):Bool:=(List.range t.length).all (gW t s)
def kU (t:List (List Int)) (s:Int) (x:Nat):Bool:=(ag s 12).all fun y=>aD s (en t (en t x y.toNat).toNat (bk t x).toNat).toNat
theorem QD {t:List (List Int)} {s:Int} (h:bu t s):(List.range t.length).all (kU t s)=cK t s:=by
 have hn:=(bA h.1).2.1
 rw [cK]
 congr 1
 funext x
 rw [kU,tj h.2.2 hn,gW]
 congr 1
def aR (a c:List (List Int)) (s:Int):Bool:=cQ a s&&cJ a.length (aO a c) s&&cK a s&&cK c s
def aL (p:Int→Bool) (k:Nat):List Int:=((List.range k).filter fun i:Nat=>p (2 * (i:Int)+1)).map fun i:Nat=>2 * (i:Int)+1
theorem nE (p:Int→Bool) (k:Nat):aL p (k+1)=if p (2 * (k:Int)+1)=true then aL p k++[2 * (k:Int)+1] else aL p k:=by
 simp only [aL,List.range_succ,List.filter_append,List.filter_cons,List.filter_nil];split <;> simp
theorem nF (p:Int→Bool) (k:Nat):(aL p k).length≤k:=by
 have:=List.length_filter_le (fun i:Nat=>p (2 * (i:Int)+1)) (List.range k)
 simpa [aL] using this
theorem QE (p q:Int→Bool) (h:∀s,q s=true→p s=true) (k:Nat):(aL p k).filter q=aL q k:=by
 induction k with
 | zero=>rfl
 | succ k ih =>
  rw [nE,nE];cases hq:q (2 * (k:Int)+1) with
  | true=>rw [h _ hq,if_pos rfl,if_pos rfl,List.filter_append,ih];simp [hq]
  | false =>
   rw [if_neg (show ¬ (false=true) by decide)]
   split
   ·rw [List.filter_append,ih];simp [hq]
   ·exact ih
def mn (a b:Int):Int:=if b<a then b else a
def dI (t:List (List Int)) (s:Int) (x:Nat):Nat→Int
 | 0=>(x:Int)
 | k+1=>if aD s k=true then mn (dI t s x k) (en t x k) else dI t s x k
theorem Af (t:List (List Int)) (s:Int) (x:Nat):∀k,(ag s k).foldl (fun m y=>mn m (en t x y.toNat)) (x:Int)=dI t s x k
 | 0=>rfl
 | k+1=>by
  rw [sg,dI];split
  ·rw [List.foldl_append,Af t s x k];rfl
  ·exact Af t s x k
theorem HV {t:List (List Int)} {s:Int} {n:Nat} (h:s.toNat<2 ^ n) (x:Nat):∀j,dI t s x (n+j)=dI t s x n
 | 0=>rfl
 | j+1=>by rw [←Nat.add_assoc,dI,Hf h (by omega),if_neg (by decide),HV h x j]
def cg (t:List (List Int)) (s:Int):List Int:=aq t.length fun x=>dI t s x t.length
def bh (l:List Int):Nat→List Int
 | 0=>[]
 | i+1=>if l.getD i 0∈bh l i then bh l i else bh l i++[l.getD i 0]
def bR (l:List Int):List Int:=aq l.length fun i=>bo (l.getD i 0) (bh l (i+1)) 0
theorem HW (x:Int):∀(l m:List Int) (k:Int),x∈l→bo x (l++m) k=bo x l k
 | [],m,k,h=>by simp at h
 | y::l,m,k,h=>by
  simp only [List.cons_append,bo];split
  ·rfl
  ·rename_i hy
   rcases List.mem_cons.1 h with e | e
   ·exact absurd e.symm hy
   ·exact HW x l m (k+1) e
theorem tk (x:Int):∀(l:List Int) (k:Int),x ∉ l→bo x (l++[x]) k=k+(l.length:Int)
 | [],k,_=>by simp [bo]
 | y::l,k,h=>by
  simp only [List.cons_append,bo,List.length_cons];rw [if_neg (fun e=>h (by rw [e];simp)),tk x l (k+1) (fun e=>h (by simp [e]))]
  omega
theorem HX (x:Int):∀(l:List Int) (k:Int),x ∉ l→bo x l k=-1
 | [],_,_=>rfl
 | y::l,k,h=>by
  simp only [bo];rw [if_neg (fun e=>h (by rw [e];simp)),HX x l (k+1) (fun e=>h (by simp [e]))]
theorem Ag (x:Int) (l:List Int) (h:x∈l):0≤bo x l 0:=by
 have:=uj x l 0 (by omega)
 rw [decide_eq_true h] at this;exact of_decide_eq_true this
theorem Ah (l:List Int):∀i,(bh l i).length≤i
 | 0=>by simp [bh]
 | i+1=>by
  have:=Ah l i
  simp only [bh];split
  ·omega
  ·simp;omega
theorem HY (l:List Int) (i:Nat):l.getD i 0∈bh l (i+1):=by
 simp only [bh];split
 ·assumption
 ·simp
theorem QF (l:List Int) (i:Nat):0≤bo (l.getD i 0) (bh l (i+1)) 0∧bo (l.getD i 0) (bh l (i+1)) 0<((bh l (i+1)).length:Int):=by
 have:=oZ (l.getD i 0) (bh l (i+1)) 0 (by omega)
 exact ⟨Ag _ _ (HY l i),by omega⟩
def bj (cl:List Int):Nat→List Int
 | 0=>[]
 | i+1=>if cl.getD i 0=((bj cl i).length:Int) then bj cl i++[(i:Int)] else bj cl i
theorem lW (cl:List Int):∀i,(bj cl i).length≤i
 | 0=>by simp [bj]
 | i+1=>by
  have:=lW cl i
  simp only [bj];split
  ·simp;omega
  ·omega
theorem pa (cl:List Int):∀i,∀x∈bj cl i,0≤x∧x<(i:Int)
 | 0=>by simp [bj]
 | i+1=>fun x hx=>by
  simp only [bj] at hx;split at hx
  ·rcases List.mem_append.1 hx with h | h
   ·have:=pa cl i x h;omega
   ·simp at h;omega
  ·have:=pa cl i x hx;omega
def pb (cl:List Int):Prop:=∀i,i<cl.length→0≤cl.getD i 0∧cl.getD i 0≤((bj cl i).length:Int)
theorem Ai (l:List Int):∀i,i≤l.length→(bj (bR l) i).length=(bh l i).length
 | 0,_=>rfl
 | i+1,h=>by
  have ih:=Ai l i (by omega)
  have e:(bR l).getD i 0=bo (l.getD i 0) (bh l (i+1)) 0:=cr _ _ _ (by omega)
  simp only [bj];rw [e,ih];by_cases hm:l.getD i 0∈bh l i
  ·have e2:bh l (i+1)=bh l i:=if_pos hm
   rw [e2];have:=oZ (l.getD i 0) (bh l i) 0 (by omega)
   rw [if_neg (by omega),ih]
  ·have e2:bh l (i+1)=bh l i++[l.getD i 0]:=if_neg hm
   rw [e2,tk _ _ _ hm,if_pos (by omega)]
   simp [ih]
theorem QG (l:List Int):pb (bR l):=fun i hi=>by
 have hi:i<l.length:=by rwa [bR,cf] at hi
 have e:(bR l).getD i 0=bo (l.getD i 0) (bh l (i+1)) 0:=cr _ _ _ hi
 rw [e,Ai l i (by omega)]
 have a:=QF l i
 refine ⟨a.1,?_⟩
 by_cases hm:l.getD i 0∈bh l i
 ·have e2:bh l (i+1)=bh l i:=if_pos hm
  rw [e2] at a ⊢;omega
 ·have e2:bh l (i+1)=bh l i++[l.getD i 0]:=if_neg hm
  rw [e2,tk _ _ _ hm];omega
def a8 (t:List (List Int)) (s:Int):List Int:=bR (cg t s)
theorem kV (t:List (List Int)) (s:Int):(a8 t s).length=t.length:=by simp [a8,bR,cg,cf]
def quo (t:List (List Int)) (cl:List Int):List (List Int) :=
 aS (bj cl cl.length).length fun x y=>cl.getD (en t ((bj cl cl.length).getD x 0).toNat ((bj cl cl.length).getD y 0).toNat).toNat 0
end Go.Sx
