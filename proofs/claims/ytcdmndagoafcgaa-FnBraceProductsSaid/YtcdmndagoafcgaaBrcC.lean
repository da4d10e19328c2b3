/- BrcC -/
import Derived.Test.YtcdmndagoafcgaaGrpC
open Go Go.Proofs
namespace Go.Sx
set_option linter.unusedSimpArgs false
set_option linter.unusedVariables false
def twoG (a c:List (List Int)):Prop:=grpB a=true∧grpB c=true∧a.length=c.length
theorem twoG_in {a c:List (List Int)} (h:twoG a c):1≤a.length∧a.length≤12∧c.length=a.length ∧
  (∀x,x<a.length→(a.getD x []).length=a.length∧∀y,y<a.length→0≤(a.getD x []).getD y 0∧(a.getD x []).getD y 0≤(a.length:Int) - 1) ∧
  (∀x,x<a.length→(c.getD x []).length=a.length∧∀y,y<a.length→0≤(c.getD x []).getD y 0∧(c.getD x []).getD y 0≤(a.length:Int) - 1) ∧
  (∀x,x<a.length→0≤bk a x∧bk a x≤(a.length:Int) - 1):=by
 obtain ⟨h1,h2,h3⟩:=h
 obtain ⟨n1,n2,ha⟩:=tabB_of (grp_tab h1)
 obtain ⟨_,_,hc⟩:=tabB_of (grp_tab h2)
 rw [←h3] at hc
 exact ⟨n1,n2,h3.symm,ha,hc,fun x hx=>bk_in h1 hx⟩
def l11Fault_p (a:List (List Int)) (c:List (List Int)):Post:=⟨twoG a c,.c (.ints 2 .i64 ((brF a c).getD [])),[]⟩
def l11Fault_ct:List AD→Option Post
 | [.agg [.rows .i64 (a),.rows .i64 (c)]]=>some (l11Fault_p a c)
 | _=>none
def l11Fault_ann (a:List (List Int)) (c:List (List Int)):Nat→Option Ann
 | 0=>some (Ann.mk ((Nat)) (fun i=>⟨[(1,.c (.ptr 1 0)),(3,.c (.int .i64 ((a.length:Int)))),(4,.c (.int .i64 ((i:Int))))],[(1,some (.box [.ro (.rows .i64 (a)),.ro (.rows .i64 (c))]))]⟩) (fun i=>i≤a.length∧brF a c=firstO a.length (brX a c) (a.length - i)) (fun i=>a.length - i) (fun i=>fun b_=>match b_ with | 2=>some (Ann.mk ((Nat)) (fun j=>⟨[(1,.c (.ptr 1 0)),(3,.c (.int .i64 ((a.length:Int)))),(4,.c (.int .i64 ((i:Int)))),(5,.c (.int .i64 (bk a i))),(6,.c (.int .i64 ((j:Int))))],[(1,some (.box [.ro (.rows .i64 (a)),.ro (.rows .i64 (c))]))]⟩) (fun j=>j≤a.length∧i<a.length∧brF a c=(firstO a.length (brY a c i) (a.length - j)).or (firstO a.length (brX a c) (a.length - (i+1)))) (fun j=>a.length - j) (fun j=>fun b_=>match b_ with | 4=>some (Ann.mk ((Nat)) (fun k=>⟨[(1,.c (.ptr 1 0)),(3,.c (.int .i64 ((a.length:Int)))),(4,.c (.int .i64 ((i:Int)))),(5,.c (.int .i64 (bk a i))),(6,.c (.int .i64 ((j:Int)))),(7,.c (.int .i64 ((k:Int))))],[(1,some (.box [.ro (.rows .i64 (a)),.ro (.rows .i64 (c))]))]⟩) (fun k=>k≤a.length∧j<a.length∧brF a c=((firstO a.length (brZ a c i j) (a.length - k)).or (firstO a.length (brY a c i) (a.length - (j+1)))).or (firstO a.length (brX a c) (a.length - (i+1)))) (fun k=>a.length - k) (fun _=>noAnn)) | _=>none)) | _=>none))
 | _=>none
def l11Fault_G:List (Nat×Ctr):=[(130,⟨[],l10Back_ct⟩)]
def l11Fault_V (a:List (List Int)) (c:List (List Int)):Prop :=
 ((∃x0:Nat,(((x0≤a.length)∧(brF a c=firstO (a.length) (brX a c) (a.length - x0)))∧(((↑(a.length):Int)=(↑(a.length):Int))∧(((0:Int)=(↑x0:Int))∧((a=a)∧(c=c))))))∧(∀x1:Nat,(((x1≤a.length)∧(brF a c=firstO (a.length) (brX a c) (a.length - x1)))→(BrP (decide ((↑x1:Int)<(↑(a.length):Int))) ((((tabB a=true)∧(((0:Int)≤(↑x1:Int))∧((↑x1:Int)≤(↑(a.length):Int) - (1:Int))))∧True)∧((∃x2:Nat,(((x2≤a.length)∧((x1<a.length)∧(brF a c=Option.or (firstO (a.length) (brY a c x1) (a.length - x2)) (firstO (a.length) (brX a c) (a.length - (x1+(1:Nat)))))))∧(((↑(a.length):Int)=(↑(a.length):Int))∧(((↑x1:Int)=(↑x1:Int))∧((bk a ((↑x1:Int).toNat)=bk a x1)∧(((0:Int)=(↑x2:Int))∧((a=a)∧(c=c))))))))∧(∀x3:Nat,(((x3≤a.length)∧((x1<a.length)∧(brF a c=Option.or (firstO (a.length) (brY a c x1) (a.length - x3)) (firstO (a.length) (brX a c) (a.length - (x1+(1:Nat)))))))→(BrP (decide ((↑x3:Int)<(↑(a.length):Int))) ((∃x4:Nat,(((x4≤a.length)∧((x3<a.length)∧(brF a c=Option.or (Option.or (firstO (a.length) (brZ a c x1 x3) (a.length - x4)) (firstO (a.length) (brY a c x1) (a.length - (x3+(1:Nat))))) (firstO (a.length) (brX a c) (a.length - (x1+(1:Nat)))))))∧(((↑(a.length):Int)=(↑(a.length):Int))∧(((↑x1:Int)=(↑x1:Int))∧((bk a x1=bk a x1)∧(((↑x3:Int)=(↑x3:Int))∧(((0:Int)=(↑x4:Int))∧((a=a)∧(c=c)))))))))∧(∀x5:Nat,(((x5≤a.length)∧((x3<a.length) ∧
 (brF a c=Option.or (Option.or (firstO (a.length) (brZ a c x1 x3) (a.length - x5)) (firstO (a.length) (brY a c x1) (a.length - (x3+(1:Nat))))) (firstO (a.length) (brX a c) (a.length - (x1+(1:Nat)))))))→(BrP (decide ((↑x5:Int)<(↑(a.length):Int))) ((inB (↑x1:Int) (c.length))∧((inB (↑x3:Int) (a.length))∧((inB (↑x5:Int) ((a.getD ((↑x3:Int).toNat) []).length))∧((inB ((List.getD a ((↑x3:Int).toNat) []).getD ((↑x5:Int).toNat) (0:Int)) ((c.getD ((↑x1:Int).toNat) []).length))∧((inB (↑x1:Int) (c.length))∧((inB (↑x3:Int) ((c.getD ((↑x1:Int).toNat) []).length))∧((inB ((List.getD c ((↑x1:Int).toNat) []).getD ((↑x3:Int).toNat) (0:Int)) (a.length))∧((inB (bk a x1) ((a.getD (((List.getD c ((↑x1:Int).toNat) []).getD ((↑x3:Int).toNat) (0:Int)).toNat) []).length))∧((inB ((List.getD a ((List.getD (List.getD c ((↑x1:Int).toNat) []) ((↑x3:Int).toNat) (0:Int)).toNat) []).getD ((bk a x1).toNat) (0:Int)) (a.length))∧((inB (↑x1:Int) (c.length))∧((inB (↑x5:Int) ((c.getD ((↑x1:Int).toNat) []).length))∧((inB ((List.getD c ((↑x1:Int).toNat) []).getD ((↑x5:Int).toNat) (0:Int)) ((a.getD (((List.getD a ((List.getD (List.getD c ((↑x1:Int).toNat) []) ((↑x3:Int).toNat) (0:Int)).toNat) []).getD ((bk a x1).toNat) (0:Int)).toNat) []).length)) ∧
 (BrP ((List.getD c ((↑x1:Int).toNat) []).getD (((List.getD a ((↑x3:Int).toNat) []).getD ((↑x5:Int).toNat) (0:Int)).toNat) (0:Int) != (List.getD a ((List.getD (List.getD a ((List.getD (List.getD c ((↑x1:Int).toNat) []) ((↑x3:Int).toNat) (0:Int)).toNat) []) ((bk a x1).toNat) (0:Int)).toNat) []).getD (((List.getD c ((↑x1:Int).toNat) []).getD ((↑x5:Int).toNat) (0:Int)).toNat) (0:Int)) (([(↑x1:Int),(↑x3:Int),(↑x5:Int)]=Option.getD (brF a c) [])∧True) ((InR ((↑x5:Int)+(1:Int)))∧(∃x6:Nat,(((x6≤a.length)∧((x3<a.length)∧(brF a c=Option.or (Option.or (firstO (a.length) (brZ a c x1 x3) (a.length - x6)) (firstO (a.length) (brY a c x1) (a.length - (x3+(1:Nat))))) (firstO (a.length) (brX a c) (a.length - (x1+(1:Nat)))))))∧((a.length - x6<a.length - x5)∧(((↑(a.length):Int)=(↑(a.length):Int))∧(((↑x1:Int)=(↑x1:Int))∧((bk a x1=bk a x1)∧(((↑x3:Int)=(↑x3:Int))∧(((↑x5:Int)+(1:Int)=(↑x6:Int))∧((a=a)∧(c=c)))))))))))))))))))))))) ((InR ((↑x3:Int)+(1:Int)))∧(∃x7:Nat,(((x7≤a.length)∧((x1<a.length)∧(brF a c=Option.or (firstO (a.length) (brY a c x1) (a.length - x7)) (firstO (a.length) (brX a c) (a.length - (x1+(1:Nat)))))))∧((a.length - x7<a.length - x3)∧(((↑(a.length):Int)=(↑(a.length):Int))∧(((↑x1:Int)=(↑x1:Int))∧((bk a x1=bk a x1)∧(((↑x3:Int)+(1:Int)=(↑x7:Int))∧((a=a)∧(c=c)))))))))))))) ((InR ((↑x1:Int)+(1:Int)))∧(∃x8:Nat,(((x8≤a.length)∧(brF a c=firstO (a.length) (brX a c) (a.length - x8))) ∧
 ((a.length - x8<a.length - x1)∧(((↑(a.length):Int)=(↑(a.length):Int))∧(((↑x1:Int)+(1:Int)=(↑x8:Int))∧((a=a)∧(c=c))))))))))))) (([]=Option.getD (brF a c) [])∧True)))))
theorem l11Fault_vc (a:List (List Int)) (c:List (List Int)):runF Try.prog (gam l11Fault_G) noWr (l11Fault_ann a c) Try.f99 (bodyOf Try.f99) [] [.agg [.rows .i64 (a),.rows .i64 (c)]] (l11Fault_p a c)=l11Fault_V a c:=by kernel_rfl
theorem l11Fault_ok (a:List (List Int)) (c:List (List Int)) (hpre:(l11Fault_p a c).pre):l11Fault_V a c:=by
 simp only [l11Fault_p,l11Fault_V,BrP_iff,u1,u2,u3,u4,u5,u6,u7,u8,u9,v1,v2,v3,v4,v5,v6,v7,v8,v9,w1,w2,w3,w4,markL_length,inB,InR,room,bdsOk] at hpre ⊢
 obtain ⟨n1,n2,hl,ha,hc,hb⟩:=twoG_in hpre
 have h1:=grp_tab hpre.1
 refine ⟨⟨0,⟨by omega,rfl⟩,rfl⟩,fun i ⟨hi,hx⟩=>⟨fun h=>⟨⟨h1,by omega,by omega⟩,⟨0,⟨by omega,by omega,?_⟩,rfl⟩,fun j ⟨hj,_,hy⟩=>⟨fun h2=>⟨⟨0,⟨by omega,by omega,?_⟩,rfl⟩,fun k ⟨hk,_,hz⟩=>⟨fun h3=>?_,fun h3=>?_⟩⟩,fun h2=>?_⟩⟩,fun h=>?_⟩⟩
 ·rw [hx,firstO_step _ _ i (by omega)];rfl
 ·rw [hy,firstO_step _ _ j (by omega)];rfl
 ·have A:=ha j (by omega)
  have A2:=A.2 k (by omega)
  have C:=hc i (by omega)
  have C1:=C.2 j (by omega)
  have C2:=C.2 k (by omega)
  have B:=hb i (by omega)
  have R1:=ha ((c.getD i []).getD j 0).toNat (by omega)
  have V:=R1.2 (bk a i).toNat (by omega)
  have R2:=ha ((a.getD ((c.getD i []).getD j 0).toNat []).getD (bk a i).toNat 0).toNat (by omega)
  refine ⟨by omega,by omega,by omega,by omega,by omega,by omega,by omega,by omega,by omega,by omega,by omega,by omega,fun h4=>?_,fun h4=>⟨by omega,k+1,⟨by omega,by omega,?_⟩,by omega,by omega⟩⟩
  ·rw [hz,firstO_step _ _ k (by omega),show brZ a c i j k=some [(i:Int),(j:Int),(k:Int)] from if_neg h4];rfl
  ·rw [hz,firstO_step _ _ k (by omega),show brZ a c i j k=none from if_pos h4];rfl
 ·refine ⟨by omega,j+1,⟨by omega,by omega,?_⟩,by omega,by omega⟩
  rw [hz,show a.length - k=0 by omega];rfl
 ·refine ⟨by omega,i+1,⟨by omega,?_⟩,by omega,by omega⟩
  rw [hy,show a.length - j=0 by omega];rfl
 ·rw [hx,show a.length - i=0 by omega];rfl
theorem l11Fault_fits:Fits Try.prog 99 ⟨[],l11Fault_ct⟩:=by
 refine ffn (Γ:=gam l11Fault_G) (gok_cons l10Back_fits gok_nil) Try.func99 fun ds p h hp=>?_
 unfold l11Fault_ct at h
 split at h
 ·cases h
  exact ⟨noWr,l11Fault_ann _ _ ,by rw [l11Fault_vc];exact l11Fault_ok _ _  hp⟩
 ·cases h
def braceFault_p (a:List (List Int)) (c:List (List Int)):Post:=⟨twoG a c,.c (.nilq ((brF a c).isNone)),[]⟩
def braceFault_ct:List AD→Option Post
 | [.agg [.rows .i64 (a),.rows .i64 (c)]]=>some (braceFault_p a c)
 | _=>none
def braceFault_ann (a:List (List Int)) (c:List (List Int)):Nat→Option Ann
 | 0=>some (Ann.mk ((Nat)) (fun i=>⟨[(1,.c (.ptr 1 0)),(3,.c (.own (10))),(4,.c (.int .i64 ((a.length:Int)))),(14,.c (.int .i64 ((a.length:Int)))),(15,.c (.int .i64 ((i:Int))))],[(1,some (.box [.ro (.rows .i64 (a)),.ro (.rows .i64 (c))])),(10,some (.ints 2 .i64 (bkL a)))]⟩) (fun i=>i≤a.length∧brF a c=firstO a.length (brX a c) (a.length - i)) (fun i=>a.length - i) (fun i=>fun b_=>match b_ with | 2=>some (Ann.mk ((Nat)) (fun j=>⟨[(1,.c (.ptr 1 0)),(3,.c (.own (10))),(4,.c (.int .i64 ((a.length:Int)))),(14,.c (.int .i64 ((a.length:Int)))),(15,.c (.int .i64 ((i:Int)))),(5,.c (.int .i64 ((i:Int)))),(18,.c (.int .i64 ((a.length:Int)))),(19,.c (.int .i64 ((j:Int))))],[(1,some (.box [.ro (.rows .i64 (a)),.ro (.rows .i64 (c))])),(10,some (.ints 2 .i64 (bkL a)))]⟩) (fun j=>j≤a.length∧i<a.length∧brF a c=(firstO a.length (brY a c i) (a.length - j)).or (firstO a.length (brX a c) (a.length - (i+1)))) (fun j=>a.length - j) (fun j=>fun b_=>match b_ with | 4=>some (Ann.mk ((Nat)) (fun k=>⟨[(1,.c (.ptr 1 0)),(3,.c (.own (10))),(4,.c (.int .i64 ((a.length:Int)))),(14,.c (.int .i64 ((a.length:Int)))),(15,.c (.int .i64 ((i:Int)))),(5,.c (.int .i64 ((i:Int)))),(18,.c (.int .i64 ((a.length:Int)))),(19,.c (.int .i64 ((j:Int)))),(6,.c (.int .i64 ((j:Int)))),(22,.c (.int .i64 ((a.length:Int)))),(23,.c (.int .i64 ((k:Int))))],[(1,some (.box [.ro (.rows .i64 (a)),.ro (.rows .i64 (c))])),(10,some (.ints 2 .i64 (bkL a)))]⟩) (fun k=>k≤a.length∧j<a.length∧brF a c=((firstO a.length (brZ a c i j) (a.length - k)).or (firstO a.length (brY a c i) (a.length - (j+1)))).or (firstO a.length (brX a c) (a.length - (i+1)))) (fun k=>a.length - k) (fun _=>noAnn)) | _=>none)) | _=>none))
 | _=>none
def braceFault_G:List (Nat×Ctr):=[(104,⟨[],groupInverses_ct⟩)]
def braceFault_V (a:List (List Int)) (c:List (List Int)):Prop :=
 (((tabB a=true)∧True)∧((∃x0:Nat,(((x0≤a.length)∧(brF a c=firstO (a.length) (brX a c) (a.length - x0)))∧(((↑(a.length):Int)=(↑(a.length):Int))∧(((↑(a.length):Int)=(↑(a.length):Int))∧(((0:Int)=(↑x0:Int))∧((a=a)∧((c=c)∧(bkL a=bkL a))))))))∧(∀x1:Nat,(((x1≤a.length)∧(brF a c=firstO (a.length) (brX a c) (a.length - x1)))→(BrP (decide ((↑x1:Int)<(↑(a.length):Int))) ((∃x2:Nat,(((x2≤a.length)∧((x1<a.length)∧(brF a c=Option.or (firstO (a.length) (brY a c x1) (a.length - x2)) (firstO (a.length) (brX a c) (a.length - (x1+(1:Nat)))))))∧(((↑(a.length):Int)=(↑(a.length):Int))∧(((↑(a.length):Int)=(↑(a.length):Int))∧(((↑x1:Int)=(↑x1:Int))∧(((↑x1:Int)=(↑x1:Int))∧(((↑(a.length):Int)=(↑(a.length):Int))∧(((0:Int)=(↑x2:Int))∧((a=a)∧((c=c)∧(bkL a=bkL a)))))))))))∧(∀x3:Nat,(((x3≤a.length)∧((x1<a.length)∧(brF a c=Option.or (firstO (a.length) (brY a c x1) (a.length - x3)) (firstO (a.length) (brX a c) (a.length - (x1+(1:Nat)))))))→(BrP (decide ((↑x3:Int)<(↑(a.length):Int))) ((∃x4:Nat,(((x4≤a.length)∧((x3<a.length)∧(brF a c=Option.or (Option.or (firstO (a.length) (brZ a c x1 x3) (a.length - x4)) (firstO (a.length) (brY a c x1) (a.length - (x3+(1:Nat))))) (firstO (a.length) (brX a c) (a.length - (x1+(1:Nat)))))))∧(((↑(a.length):Int)=(↑(a.length):Int))∧(((↑(a.length):Int)=(↑(a.length):Int))∧(((↑x1:Int)=(↑x1:Int))∧(((↑x1:Int)=(↑x1:Int))∧(((↑(a.length):Int)=(↑(a.length):Int))∧(((↑x3:Int)=(↑x3:Int)) ∧
 (((↑x3:Int)=(↑x3:Int))∧(((↑(a.length):Int)=(↑(a.length):Int))∧(((0:Int)=(↑x4:Int))∧((a=a)∧((c=c)∧(bkL a=bkL a))))))))))))))∧(∀x5:Nat,(((x5≤a.length)∧((x3<a.length)∧(brF a c=Option.or (Option.or (firstO (a.length) (brZ a c x1 x3) (a.length - x5)) (firstO (a.length) (brY a c x1) (a.length - (x3+(1:Nat))))) (firstO (a.length) (brX a c) (a.length - (x1+(1:Nat)))))))→(BrP (decide ((↑x5:Int)<(↑(a.length):Int))) ((inB (↑x1:Int) (c.length))∧((inB (↑x3:Int) (a.length))∧((inB (↑x5:Int) ((a.getD ((↑x3:Int).toNat) []).length))∧((inB ((List.getD a ((↑x3:Int).toNat) []).getD ((↑x5:Int).toNat) (0:Int)) ((c.getD ((↑x1:Int).toNat) []).length))∧((inB (↑x1:Int) (c.length))∧((inB (↑x3:Int) ((c.getD ((↑x1:Int).toNat) []).length))∧((inB ((List.getD c ((↑x1:Int).toNat) []).getD ((↑x3:Int).toNat) (0:Int)) (a.length))∧((inB (↑x1:Int) ((bkL a).length))∧((inB ((bkL a).getD ((↑x1:Int).toNat) (0:Int)) ((a.getD (((List.getD c ((↑x1:Int).toNat) []).getD ((↑x3:Int).toNat) (0:Int)).toNat) []).length))∧((inB ((List.getD a ((List.getD (List.getD c ((↑x1:Int).toNat) []) ((↑x3:Int).toNat) (0:Int)).toNat) []).getD (((bkL a).getD ((↑x1:Int).toNat) (0:Int)).toNat) (0:Int)) (a.length))∧((inB (↑x1:Int) (c.length))∧((inB (↑x5:Int) ((c.getD ((↑x1:Int).toNat) []).length)) ∧
 ((inB ((List.getD c ((↑x1:Int).toNat) []).getD ((↑x5:Int).toNat) (0:Int)) ((a.getD (((List.getD a ((List.getD (List.getD c ((↑x1:Int).toNat) []) ((↑x3:Int).toNat) (0:Int)).toNat) []).getD (((bkL a).getD ((↑x1:Int).toNat) (0:Int)).toNat) (0:Int)).toNat) []).length))∧(BrP ((List.getD c ((↑x1:Int).toNat) []).getD (((List.getD a ((↑x3:Int).toNat) []).getD ((↑x5:Int).toNat) (0:Int)).toNat) (0:Int) != (List.getD a ((List.getD (List.getD a ((List.getD (List.getD c ((↑x1:Int).toNat) []) ((↑x3:Int).toNat) (0:Int)).toNat) []) ((List.getD (bkL a) ((↑x1:Int).toNat) (0:Int)).toNat) (0:Int)).toNat) []).getD (((List.getD c ((↑x1:Int).toNat) []).getD ((↑x5:Int).toNat) (0:Int)).toNat) (0:Int)) (((false=Option.isNone (brF a c))∧([(↑x1:Int),(↑x3:Int),(↑x5:Int)].length≠(0:Nat)))∧True) ((InR ((↑x5:Int)+(1:Int)))∧(∃x6:Nat,(((x6≤a.length)∧((x3<a.length)∧(brF a c=Option.or (Option.or (firstO (a.length) (brZ a c x1 x3) (a.length - x6)) (firstO (a.length) (brY a c x1) (a.length - (x3+(1:Nat))))) (firstO (a.length) (brX a c) (a.length - (x1+(1:Nat)))))))∧((a.length - x6<a.length - x5)∧(((↑(a.length):Int)=(↑(a.length):Int))∧(((↑(a.length):Int)=(↑(a.length):Int))∧(((↑x1:Int)=(↑x1:Int))∧(((↑x1:Int)=(↑x1:Int))∧(((↑(a.length):Int)=(↑(a.length):Int))∧(((↑x3:Int)=(↑x3:Int))∧(((↑x3:Int)=(↑x3:Int))∧(((↑(a.length):Int)=(↑(a.length):Int))∧(((↑x5:Int)+(1:Int)=(↑x6:Int))∧((a=a)∧((c=c)∧(bkL a=bkL a)))))))))))))))))))))))))))))) ((InR ((↑x3:Int)+(1:Int))) ∧
 (∃x7:Nat,(((x7≤a.length)∧((x1<a.length)∧(brF a c=Option.or (firstO (a.length) (brY a c x1) (a.length - x7)) (firstO (a.length) (brX a c) (a.length - (x1+(1:Nat)))))))∧((a.length - x7<a.length - x3)∧(((↑(a.length):Int)=(↑(a.length):Int))∧(((↑(a.length):Int)=(↑(a.length):Int))∧(((↑x1:Int)=(↑x1:Int))∧(((↑x1:Int)=(↑x1:Int))∧(((↑(a.length):Int)=(↑(a.length):Int))∧(((↑x3:Int)+(1:Int)=(↑x7:Int))∧((a=a)∧((c=c)∧(bkL a=bkL a))))))))))))))))) ((InR ((↑x1:Int)+(1:Int)))∧(∃x8:Nat,(((x8≤a.length)∧(brF a c=firstO (a.length) (brX a c) (a.length - x8)))∧((a.length - x8<a.length - x1)∧(((↑(a.length):Int)=(↑(a.length):Int))∧(((↑(a.length):Int)=(↑(a.length):Int))∧(((↑x1:Int)+(1:Int)=(↑x8:Int))∧((a=a)∧((c=c)∧(bkL a=bkL a)))))))))))))) ((true=Option.isNone (brF a c))∧True))))))
theorem braceFault_vc (a:List (List Int)) (c:List (List Int)):runF Try.prog (gam braceFault_G) noWr (braceFault_ann a c) Try.f57 (bodyOf Try.f57) [] [.agg [.rows .i64 (a),.rows .i64 (c)]] (braceFault_p a c)=braceFault_V a c:=by kernel_rfl
theorem braceFault_ok (a:List (List Int)) (c:List (List Int)) (hpre:(braceFault_p a c).pre):braceFault_V a c:=by
 simp only [braceFault_p,braceFault_V,BrP_iff,u1,u2,u3,u4,u5,u6,u7,u8,u9,v1,v2,v3,v4,v5,v6,v7,v8,v9,w1,w2,w3,w4,markL_length,inB,InR,room,bdsOk] at hpre ⊢
 obtain ⟨n1,n2,hl,ha,hc,hb⟩:=twoG_in hpre
 have h1:=grp_tab hpre.1
 have hbl:=bkL_length a
 refine ⟨h1,⟨0,⟨by omega,rfl⟩,rfl⟩,fun i ⟨hi,hx⟩=>⟨fun h=>⟨⟨0,⟨by omega,by omega,?_⟩,rfl⟩,fun j ⟨hj,_,hy⟩=>⟨fun h2=>⟨⟨0,⟨by omega,by omega,?_⟩,rfl⟩,fun k ⟨hk,_,hz⟩=>⟨fun h3=>?_,fun h3=>?_⟩⟩,fun h2=>?_⟩⟩,fun h=>?_⟩⟩
 ·rw [hx,firstO_step _ _ i (by omega)];rfl
 ·rw [hy,firstO_step _ _ j (by omega)];rfl
 ·have A:=ha j (by omega)
  have A2:=A.2 k (by omega)
  have C:=hc i (by omega)
  have C1:=C.2 j (by omega)
  have C2:=C.2 k (by omega)
  have B:=hb i (by omega)
  have R1:=ha ((c.getD i []).getD j 0).toNat (by omega)
  have V:=R1.2 (bk a i).toNat (by omega)
  have R2:=ha ((a.getD ((c.getD i []).getD j 0).toNat []).getD (bk a i).toNat 0).toNat (by omega)
  rw [bkL_getD a i (by omega)]
  refine ⟨by omega,by omega,by omega,by omega,by omega,by omega,by omega,by omega,by omega,by omega,by omega,by omega,by omega,fun h4=>⟨?_,by omega⟩,fun h4=>⟨by omega,k+1,⟨by omega,by omega,?_⟩,by omega,by omega⟩⟩
  ·rw [hz,firstO_step _ _ k (by omega),show brZ a c i j k=some [(i:Int),(j:Int),(k:Int)] from if_neg h4];rfl
  ·rw [hz,firstO_step _ _ k (by omega),show brZ a c i j k=none from if_pos h4];rfl
 ·refine ⟨by omega,j+1,⟨by omega,by omega,?_⟩,by omega,by omega⟩
  rw [hz,show a.length - k=0 by omega];rfl
 ·refine ⟨by omega,i+1,⟨by omega,?_⟩,by omega,by omega⟩
  rw [hy,show a.length - j=0 by omega];rfl
 ·rw [hx,show a.length - i=0 by omega];rfl
theorem braceFault_fits:Fits Try.prog 57 ⟨[],braceFault_ct⟩:=by
 refine ffn (Γ:=gam braceFault_G) (gok_cons groupInverses_fits gok_nil) Try.func57 fun ds p h hp=>?_
 unfold braceFault_ct at h
 split at h
 ·cases h
  exact ⟨noWr,braceFault_ann _ _ ,by rw [braceFault_vc];exact braceFault_ok _ _  hp⟩
 ·cases h
def areBraceTables_p (a:List (List Int)) (c:List (List Int)):Post:=⟨roomR a∧roomR c,.c (.bool (grpB a&&grpB c&&decide (a.length=c.length))),[]⟩
def areBraceTables_ct:List AD→Option Post
 | [.agg [.rows .i64 (a),.rows .i64 (c)]]=>some (areBraceTables_p a c)
 | _=>none
def areBraceTables_G:List (Nat×Ctr):=[(103,⟨[],isGroupTable_ct⟩)]
def areBraceTables_V (a:List (List Int)) (c:List (List Int)):Prop :=
 (((roomR a)∧True)∧(BrP (grpB a) (((roomR c)∧True)∧(BrP (grpB c) ((((↑(a.length):Int) == (↑(c.length):Int))=(grpB a&&grpB c&&decide (a.length=c.length)))∧True) ((false=(grpB a&&grpB c&&decide (a.length=c.length)))∧True))) ((false=(grpB a&&grpB c&&decide (a.length=c.length)))∧True)))
theorem areBraceTables_vc (a:List (List Int)) (c:List (List Int)):runF Try.prog (gam areBraceTables_G) noWr noAnn Try.f56 (bodyOf Try.f56) [] [.agg [.rows .i64 (a),.rows .i64 (c)]] (areBraceTables_p a c)=areBraceTables_V a c:=by kernel_rfl
theorem areBraceTables_ok (a:List (List Int)) (c:List (List Int)) (hpre:(areBraceTables_p a c).pre):areBraceTables_V a c:=by
 simp only [areBraceTables_p,areBraceTables_V,BrP_iff,u1,u2,u3,u4,u5,u6,u7,u8,u9,v1,v2,v3,v4,v5,v6,v7,v8,v9,w1,w2,w3,w4,markL_length,inB,InR,room,bdsOk] at hpre ⊢
 obtain ⟨r1,r2⟩:=hpre
 refine ⟨r1,fun h=>⟨r2,fun h2=>?_,fun h2=>by simp [h,h2]⟩,fun h=>by simp [h]⟩
 rw [h,h2,Bool.true_and,Bool.true_and,Bool.eq_iff_iff,beq_iff_eq,decide_eq_true_iff]
 omega
theorem areBraceTables_fits:Fits Try.prog 56 ⟨[],areBraceTables_ct⟩:=by
 refine ffn (Γ:=gam areBraceTables_G) (gok_cons isGroupTable_fits gok_nil) Try.func56 fun ds p h hp=>?_
 unfold areBraceTables_ct at h
 split at h
 ·cases h
  exact ⟨noWr,noAnn,by rw [areBraceTables_vc];exact areBraceTables_ok _ _  hp⟩
 ·cases h
def IsBrace_p (a:List (List Int)) (c:List (List Int)):Post:=⟨roomR a∧roomR c,.c (.bool (brcB a c)),[]⟩
def IsBrace_ct:List AD→Option Post
 | [.agg [.rows .i64 (a),.rows .i64 (c)]]=>some (IsBrace_p a c)
 | _=>none
def IsBrace_G:List (Nat×Ctr):=[(56,⟨[],areBraceTables_ct⟩),(57,⟨[],braceFault_ct⟩)]
def IsBrace_V (a:List (List Int)) (c:List (List Int)):Prop :=
 ((((roomR a)∧(roomR c))∧True)∧(BrP (grpB a&&grpB c&&decide (a.length=c.length)) (((twoG a c)∧True)∧((Option.isNone (brF a c)=brcB a c)∧True)) ((false=brcB a c)∧True)))
theorem IsBrace_vc (a:List (List Int)) (c:List (List Int)):runF Try.prog (gam IsBrace_G) noWr noAnn Try.f24 (bodyOf Try.f24) [] [.agg [.rows .i64 (a),.rows .i64 (c)]] (IsBrace_p a c)=IsBrace_V a c:=by kernel_rfl
theorem IsBrace_ok (a:List (List Int)) (c:List (List Int)) (hpre:(IsBrace_p a c).pre):IsBrace_V a c:=by
 simp only [IsBrace_p,IsBrace_V,BrP_iff,u1,u2,u3,u4,u5,u6,u7,u8,u9,v1,v2,v3,v4,v5,v6,v7,v8,v9,w1,w2,w3,w4,markL_length,inB,InR,room,bdsOk] at hpre ⊢
 refine ⟨hpre,fun h=>?_,fun h=>by rw [brcB,h,Bool.false_and]⟩
 have h2:=h
 simp only [Bool.and_eq_true,decide_eq_true_eq] at h2
 exact ⟨⟨h2.1.1,h2.1.2,h2.2⟩,by rw [brcB,h,Bool.true_and]⟩
theorem IsBrace_fits:Fits Try.prog 24 ⟨[],IsBrace_ct⟩:=by
 refine ffn (Γ:=gam IsBrace_G) (gok_cons areBraceTables_fits (gok_cons braceFault_fits gok_nil)) Try.func24 fun ds p h hp=>?_
 unfold IsBrace_ct at h
 split at h
 ·cases h
  exact ⟨noWr,noAnn,by rw [IsBrace_vc];exact IsBrace_ok _ _  hp⟩
 ·cases h
def l11Is_p (a:List (List Int)) (c:List (List Int)):Post:=⟨roomR a∧roomR c,.c (.bool (brcB a c)),[]⟩
def l11Is_ct:List AD→Option Post
 | [.agg [.rows .i64 (a),.rows .i64 (c)]]=>some (l11Is_p a c)
 | _=>none
def l11Is_G:List (Nat×Ctr):=[(59,⟨[],l10Is_ct⟩),(99,⟨[],l11Fault_ct⟩)]
def l11Is_V (a:List (List Int)) (c:List (List Int)):Prop :=
 (((roomR a)∧True)∧(BrP (grpB a) (((roomR c)∧True)∧(BrP (grpB c) (BrP ((↑(a.length):Int) == (↑(c.length):Int)) (((twoG a c)∧True)∧((((↑((Option.getD (brF a c) []).length):Int) == (0:Int))=brcB a c)∧True)) ((false=brcB a c)∧True)) ((false=brcB a c)∧True))) ((false=brcB a c)∧True)))
theorem l11Is_vc (a:List (List Int)) (c:List (List Int)):runF Try.prog (gam l11Is_G) noWr noAnn Try.f50 (bodyOf Try.f50) [] [.agg [.rows .i64 (a),.rows .i64 (c)]] (l11Is_p a c)=l11Is_V a c:=by kernel_rfl
theorem l11Is_ok (a:List (List Int)) (c:List (List Int)) (hpre:(l11Is_p a c).pre):l11Is_V a c:=by
 simp only [l11Is_p,l11Is_V,BrP_iff,u1,u2,u3,u4,u5,u6,u7,u8,u9,v1,v2,v3,v4,v5,v6,v7,v8,v9,w1,w2,w3,w4,markL_length,inB,InR,room,bdsOk] at hpre ⊢
 obtain ⟨r1,r2⟩:=hpre
 refine ⟨r1,fun h=>⟨r2,fun h2=>⟨fun h3=>⟨⟨h,h2,by omega⟩,?_⟩,fun h3=>?_⟩,fun h2=>by simp [brcB,h2]⟩,fun h=>by simp [brcB,h]⟩
 ·rw [brcB,h,h2,decide_eq_true (show a.length=c.length by omega),Bool.true_and,Bool.true_and,Bool.true_and]
  cases hf:brF a c with
  | none=>rfl
  | some l =>
   have hl:=brF_some hf
   cases l with
   | nil=>exact absurd rfl hl
   | cons x l=>simp;omega
 ·rw [brcB,decide_eq_false (show ¬ a.length=c.length by omega)];simp
theorem l11Is_fits:Fits Try.prog 50 ⟨[],l11Is_ct⟩:=by
 refine ffn (Γ:=gam l11Is_G) (gok_cons l10Is_fits (gok_cons l11Fault_fits gok_nil)) Try.func50 fun ds p h hp=>?_
 unfold l11Is_ct at h
 split at h
 ·cases h
  exact ⟨noWr,noAnn,by rw [l11Is_vc];exact l11Is_ok _ _  hp⟩
 ·cases h
end Go.Sx
