/- MapA -/
import Derived.Test.YtkmldclpaniclaaMapR
open Go Go.Proofs
namespace Go.Sx
set_option linter.unusedSimpArgs false
set_option linter.unusedVariables false
theorem lexB_step {a b:List Int} {i:Nat} (ha:i<a.length) (hb:i<b.length):lexB (a.drop i) (b.drop i)=if a.getD i 0=b.getD i 0 then lexB (a.drop (i+1)) (b.drop (i+1)) else decide (a.getD i 0<b.getD i 0):=by
 rw [drop_cons' a 0 i ha,drop_cons' b 0 i hb,lexB]
theorem lexB_end {a b:List Int} {i:Nat} (ha:i≤a.length) (hb:i≤b.length) (h:¬ (i<a.length∧i<b.length)):lexB (a.drop i) (b.drop i)=decide (a.length<b.length):=by
 by_cases q:i<b.length
 ·rw [drop_cons' b 0 i q,List.drop_of_length_le (by omega),lexB]
  exact (decide_eq_true (by omega)).symm
 ·rw [List.drop_of_length_le (l:=b) (by omega)]
  cases a.drop i <;> exact (decide_eq_false (by omega)).symm
def l01Less_p (a:List Int) (b:List Int):Post:=⟨room a.length,.c (.bool (lexB a b)),[]⟩
def l01Less_ct:List AD→Option Post
 | [.c (.ints .i64 (a)),.c (.ints .i64 (b))]=>some (l01Less_p a b)
 | _=>none
def l01Less_ann (a:List Int) (b:List Int):Nat→Option Ann
 | 0=>some (Ann.mk ((Nat)) (fun i=>⟨[(0,.c (.ro (.ints .i64 (a)))),(1,.c (.ro (.ints .i64 (b)))),(5,.c (.int .i64 ((i:Int))))],[]⟩) (fun i=>i≤a.length∧i≤b.length∧lexB a b=lexB (a.drop i) (b.drop i)) (fun i=>a.length - i) (fun _=>noAnn))
 | _=>none
def l01Less_G:List (Nat×Ctr):=[]
def l01Less_V (a:List Int) (b:List Int):Prop :=
 ((∃x0:Nat,(((x0≤a.length)∧((x0≤b.length)∧(lexB a b=lexB (List.drop x0 a) (List.drop x0 b))))∧((a=a)∧((b=b)∧((0:Int)=(↑x0:Int))))))∧(∀x1:Nat,(((x1≤a.length)∧((x1≤b.length)∧(lexB a b=lexB (List.drop x1 a) (List.drop x1 b))))→(BrP (decide ((↑x1:Int)<(↑(a.length):Int))) (BrP (decide ((↑x1:Int)<(↑(b.length):Int))) ((inB (↑x1:Int) (a.length))∧((inB (↑x1:Int) (b.length))∧(BrP (a.getD ((↑x1:Int).toNat) (0:Int) != b.getD ((↑x1:Int).toNat) (0:Int)) ((inB (↑x1:Int) (a.length))∧((inB (↑x1:Int) (b.length))∧((decide (a.getD ((↑x1:Int).toNat) (0:Int)<b.getD ((↑x1:Int).toNat) (0:Int))=lexB a b)∧True))) ((InR ((↑x1:Int)+(1:Int)))∧(∃x2:Nat,(((x2≤a.length)∧((x2≤b.length)∧(lexB a b=lexB (List.drop x2 a) (List.drop x2 b))))∧((a.length - x2<a.length - x1)∧((a=a)∧((b=b)∧((↑x1:Int)+(1:Int)=(↑x2:Int))))))))))) ((decide ((↑(a.length):Int)<(↑(b.length):Int))=lexB a b)∧True)) ((decide ((↑(a.length):Int)<(↑(b.length):Int))=lexB a b)∧True)))))
theorem l01Less_vc (a:List Int) (b:List Int):runF Try.prog (gam l01Less_G) noWr (l01Less_ann a b) Try.f42 (bodyOf Try.f42) [] [.c (.ints .i64 (a)),.c (.ints .i64 (b))] (l01Less_p a b)=l01Less_V a b:=by kernel_rfl
theorem l01Less_ok (a:List Int) (b:List Int) (hpre:(l01Less_p a b).pre):l01Less_V a b:=by
 simp only [l01Less_p,l01Less_V,BrP_iff,u1,u2,u3,u4,u5,u6,u7,u8,u9,v1,v2,v3,v4,v5,v6,v7,v8,v9,w1,w2,w3,w4,markL_length,inB,InR,room,bdsOk] at hpre ⊢
 refine ⟨⟨0,⟨by omega,by omega,rfl⟩,rfl⟩,fun i ⟨h1,h2,h3⟩=>⟨fun ha=>⟨fun hb=>?_,fun hb=>?_⟩,fun ha=>?_⟩⟩
 ·have s:=lexB_step (a:=a) (b:=b) (i:=i) (by omega) (by omega)
  refine ⟨by omega,by omega,fun q=>⟨by omega,by omega,?_⟩,fun q=>⟨by omega,i+1,⟨by omega,by omega,?_⟩,by omega,by omega⟩⟩
  ·rw [h3,s,if_neg q]
  ·rw [h3,s,if_pos q]
 ·rw [h3,lexB_end h1 h2 (by omega)];exact decide_eq_decide.2 (by omega)
 ·rw [h3,lexB_end h1 h2 (by omega)];exact decide_eq_decide.2 (by omega)
theorem l01Less_fits:Fits Try.prog 42 ⟨[],l01Less_ct⟩:=by
 refine ffn (Γ:=gam l01Less_G) gok_nil Try.func42 fun ds p h hp=>?_
 unfold l01Less_ct at h
 split at h
 ·cases h
  exact ⟨noWr,l01Less_ann _ _ ,by rw [l01Less_vc];exact l01Less_ok _ _  hp⟩
 ·cases h
def nT (a:List (List (List Int))):Nat:=(a.getD 0 []).length
theorem ftZ_skip {a b:List (List (List Int))} {f:List Int} {k x y:Nat} (h:(f.length:Int) - 1<en (a.getD k []) x y∨((x:Int)<(f.length:Int) - 1∧(y:Int)<(f.length:Int) - 1∧en (a.getD k []) x y<(f.length:Int) - 1)):ftZ a b f k x y=true:=by
 rw [ftZ,Bool.or_eq_true,Bool.or_eq_true]
 rcases h with h | ⟨h1,h2,h3⟩
 ·exact .inl (.inl (decide_eq_true h))
 ·exact .inl (.inr (by rw [decide_eq_true h1,decide_eq_true h2,decide_eq_true h3];rfl))
theorem ftZ_test {a b:List (List (List Int))} {f:List Int} {k x y:Nat} (h:¬ ((f.length:Int) - 1<en (a.getD k []) x y∨((x:Int)<(f.length:Int) - 1∧(y:Int)<(f.length:Int) - 1∧en (a.getD k []) x y<(f.length:Int) - 1))) :
  ftZ a b f k x y=decide (f.getD (en (a.getD k []) x y).toNat 0=en (b.getD k []) (f.getD x 0).toNat (f.getD y 0).toNat):=by
 rw [ftZ]
 have h1:decide ((f.length:Int) - 1<en (a.getD k []) x y)=false:=decide_eq_false fun q=>h (.inl q)
 have h2:(decide ((x:Int)<(f.length:Int) - 1)&&(decide ((y:Int)<(f.length:Int) - 1)&&decide (en (a.getD k []) x y<(f.length:Int) - 1)))=false:=by
  rw [←Bool.not_eq_true,Bool.and_eq_true,Bool.and_eq_true,decide_eq_true_eq,decide_eq_true_eq,decide_eq_true_eq]
  exact fun q=>h (.inr q)
 rw [h1,h2];rfl
def l03Fits_p (a:List (List (List Int))) (b:List (List (List Int))) (f:List Int):Post:=⟨a.length≤1000∧nT a≤1000∧1≤f.length∧f.length≤nT a∧b.length=a.length∧tsN (nT a) a∧tsN (nT a) b∧(∀i,i<f.length→0≤f.getD i 0∧f.getD i 0<(nT a:Int)),.c (.bool (ftB a b f)),[]⟩
def l03Fits_ct:List AD→Option Post
 | [.c (.r3 .i64 (a)),.c (.r3 .i64 (b)),.c (.ints .i64 (f))]=>some (l03Fits_p a b f)
 | _=>none
def l03Fits_ann (a:List (List (List Int))) (b:List (List (List Int))) (f:List Int):Nat→Option Ann
 | 0=>some (Ann.mk ((Nat)) (fun k=>⟨[(0,.c (.ro (.r3 .i64 (a)))),(1,.c (.ro (.r3 .i64 (b)))),(2,.c (.ro (.ints .i64 (f)))),(7,.c (.int .i64 ((f.length:Int) - 1))),(8,.c (.int .i64 ((k:Int))))],[]⟩) (fun k=>k≤a.length∧(∀k1,k1<k→ftX a b f k1=true)) (fun k=>a.length - k) (fun k=>fun b_=>match b_ with | 2=>some (Ann.mk ((Nat)) (fun i=>⟨[(0,.c (.ro (.r3 .i64 (a)))),(1,.c (.ro (.r3 .i64 (b)))),(2,.c (.ro (.ints .i64 (f)))),(7,.c (.int .i64 ((f.length:Int) - 1))),(8,.c (.int .i64 ((k:Int)))),(9,.c (.int .i64 ((i:Int))))],[]⟩) (fun i=>k<a.length∧i≤f.length∧(∀i1,i1<i→ftY a b f k i1=true)) (fun i=>f.length - i) (fun i=>fun b_=>match b_ with | 4=>some (Ann.mk ((Nat)) (fun j=>⟨[(0,.c (.ro (.r3 .i64 (a)))),(1,.c (.ro (.r3 .i64 (b)))),(2,.c (.ro (.ints .i64 (f)))),(7,.c (.int .i64 ((f.length:Int) - 1))),(8,.c (.int .i64 ((k:Int)))),(9,.c (.int .i64 ((i:Int)))),(10,.c (.int .i64 ((j:Int))))],[]⟩) (fun j=>i<f.length∧j≤f.length∧(∀j1,j1<j→ftZ a b f k i j1=true)) (fun j=>f.length - j) (fun j=>fun b_=>match b_ with | 1013=>some (Ann.mk ((Unit)) (fun u=>⟨[(0,.c (.ro (.r3 .i64 (a)))),(1,.c (.ro (.r3 .i64 (b)))),(2,.c (.ro (.ints .i64 (f)))),(7,.c (.int .i64 ((f.length:Int) - 1))),(8,.c (.int .i64 ((k:Int)))),(9,.c (.int .i64 ((i:Int)))),(10,.c (.int .i64 ((j:Int)))),(11,.c (.int .i64 (en (a.getD k []) i j)))],[]⟩) (fun u=>j<f.length∧¬ ((f.length:Int) - 1<en (a.getD k []) i j∨((i:Int)<(f.length:Int) - 1∧(j:Int)<(f.length:Int) - 1∧en (a.getD k []) i j<(f.length:Int) - 1))) (fun u=>0) (fun _=>noAnn)) | _=>none)) | _=>none)) | _=>none))
 | _=>none
def l03Fits_G:List (Nat×Ctr):=[]
def l03Fits_V (a:List (List (List Int))) (b:List (List (List Int))) (f:List Int):Prop :=
 ((InR ((↑(f.length):Int) - (1:Int)))∧((∃x0:Nat,(((x0≤a.length)∧(∀(k1:Nat),k1<x0→ftX a b f k1=true))∧((a=a)∧((b=b)∧((f=f)∧(((↑(f.length):Int) - (1:Int)=(↑(f.length):Int) - (1:Int))∧((0:Int)=(↑x0:Int))))))))∧(∀x1:Nat,(((x1≤a.length)∧(∀(k1:Nat),k1<x1→ftX a b f k1=true))→(BrP (decide ((↑x1:Int)<(↑(a.length):Int))) ((∃x2:Nat,(((x1<a.length)∧((x2≤f.length)∧(∀(i1:Nat),i1<x2→ftY a b f x1 i1=true)))∧((a=a)∧((b=b)∧((f=f)∧(((↑(f.length):Int) - (1:Int)=(↑(f.length):Int) - (1:Int))∧(((↑x1:Int)=(↑x1:Int))∧((0:Int)=(↑x2:Int)))))))))∧(∀x3:Nat,(((x1<a.length)∧((x3≤f.length)∧(∀(i1:Nat),i1<x3→ftY a b f x1 i1=true)))→(BrP (decide ((↑x3:Int)≤(↑(f.length):Int) - (1:Int))) ((∃x4:Nat,(((x3<f.length)∧((x4≤f.length)∧(∀(j1:Nat),j1<x4→ftZ a b f x1 x3 j1=true)))∧((a=a)∧((b=b)∧((f=f)∧(((↑(f.length):Int) - (1:Int)=(↑(f.length):Int) - (1:Int))∧(((↑x1:Int)=(↑x1:Int))∧(((↑x3:Int)=(↑x3:Int))∧((0:Int)=(↑x4:Int))))))))))∧(∀x5:Nat,(((x3<f.length)∧((x5≤f.length)∧(∀(j1:Nat),j1<x5→ftZ a b f x1 x3 j1=true)))→(BrP (decide ((↑x5:Int)≤(↑(f.length):Int) - (1:Int))) ((inB (↑x1:Int) (a.length))∧((inB (↑x3:Int) ((a.getD ((↑x1:Int).toNat) ([]:List (List Int))).length))∧((inB (↑x5:Int) (((List.getD a ((↑x1:Int).toNat) ([]:List (List Int))).getD ((↑x3:Int).toNat) []).length)) ∧
 ((BrP (decide ((↑(f.length):Int) - (1:Int)<(List.getD (List.getD a ((↑x1:Int).toNat) ([]:List (List Int))) ((↑x3:Int).toNat) []).getD ((↑x5:Int).toNat) (0:Int))) ((InR ((↑x5:Int)+(1:Int)))∧(∃x6:Nat,(((x3<f.length)∧((x6≤f.length)∧(∀(j1:Nat),j1<x6→ftZ a b f x1 x3 j1=true)))∧((f.length - x6<f.length - x5)∧((a=a)∧((b=b)∧((f=f)∧(((↑(f.length):Int) - (1:Int)=(↑(f.length):Int) - (1:Int))∧(((↑x1:Int)=(↑x1:Int))∧(((↑x3:Int)=(↑x3:Int))∧((↑x5:Int)+(1:Int)=(↑x6:Int)))))))))))) (BrP (decide ((↑x3:Int)<(↑(f.length):Int) - (1:Int))) (BrP (decide ((↑x5:Int)<(↑(f.length):Int) - (1:Int))) (BrP (decide ((List.getD (List.getD a ((↑x1:Int).toNat) ([]:List (List Int))) ((↑x3:Int).toNat) []).getD ((↑x5:Int).toNat) (0:Int)<(↑(f.length):Int) - (1:Int))) ((InR ((↑x5:Int)+(1:Int)))∧(∃x7:Nat,(((x3<f.length)∧((x7≤f.length)∧(∀(j1:Nat),j1<x7→ftZ a b f x1 x3 j1=true)))∧((f.length - x7<f.length - x5)∧((a=a)∧((b=b)∧((f=f)∧(((↑(f.length):Int) - (1:Int)=(↑(f.length):Int) - (1:Int))∧(((↑x1:Int)=(↑x1:Int))∧(((↑x3:Int)=(↑x3:Int))∧((↑x5:Int)+(1:Int)=(↑x7:Int)))))))))))) (∃x8:Unit,(((x5<f.length)∧(¬((↑(f.length):Int) - (1:Int)<en (a.getD x1 ([]:List (List Int))) x3 x5∨(↑x3:Int)<(↑(f.length):Int) - (1:Int)∧(↑x5:Int)<(↑(f.length):Int) - (1:Int)∧en (a.getD x1 ([]:List (List Int))) x3 x5<(↑(f.length):Int) - (1:Int))))∧((a=a)∧((b=b)∧((f=f)∧(((↑(f.length):Int) - (1:Int)=(↑(f.length):Int) - (1:Int)) ∧
 (((↑x1:Int)=(↑x1:Int))∧(((↑x3:Int)=(↑x3:Int))∧(((↑x5:Int)=(↑x5:Int))∧((List.getD (List.getD a ((↑x1:Int).toNat) ([]:List (List Int))) ((↑x3:Int).toNat) []).getD ((↑x5:Int).toNat) (0:Int)=en (a.getD x1 ([]:List (List Int))) x3 x5))))))))))) (∃x9:Unit,(((x5<f.length)∧(¬((↑(f.length):Int) - (1:Int)<en (a.getD x1 ([]:List (List Int))) x3 x5∨(↑x3:Int)<(↑(f.length):Int) - (1:Int)∧(↑x5:Int)<(↑(f.length):Int) - (1:Int)∧en (a.getD x1 ([]:List (List Int))) x3 x5<(↑(f.length):Int) - (1:Int))))∧((a=a)∧((b=b)∧((f=f)∧(((↑(f.length):Int) - (1:Int)=(↑(f.length):Int) - (1:Int))∧(((↑x1:Int)=(↑x1:Int))∧(((↑x3:Int)=(↑x3:Int))∧(((↑x5:Int)=(↑x5:Int))∧((List.getD (List.getD a ((↑x1:Int).toNat) ([]:List (List Int))) ((↑x3:Int).toNat) []).getD ((↑x5:Int).toNat) (0:Int)=en (a.getD x1 ([]:List (List Int))) x3 x5))))))))))) (∃x10:Unit,(((x5<f.length)∧(¬((↑(f.length):Int) - (1:Int)<en (a.getD x1 ([]:List (List Int))) x3 x5∨(↑x3:Int)<(↑(f.length):Int) - (1:Int)∧(↑x5:Int)<(↑(f.length):Int) - (1:Int)∧en (a.getD x1 ([]:List (List Int))) x3 x5<(↑(f.length):Int) - (1:Int))))∧((a=a)∧((b=b)∧((f=f)∧(((↑(f.length):Int) - (1:Int)=(↑(f.length):Int) - (1:Int))∧(((↑x1:Int)=(↑x1:Int))∧(((↑x3:Int)=(↑x3:Int))∧(((↑x5:Int)=(↑x5:Int))∧((List.getD (List.getD a ((↑x1:Int).toNat) ([]:List (List Int))) ((↑x3:Int).toNat) []).getD ((↑x5:Int).toNat) (0:Int)=en (a.getD x1 ([]:List (List Int))) x3 x5)))))))))))) ∧
 (∀x11:Unit,(((x5<f.length)∧(¬((↑(f.length):Int) - (1:Int)<en (a.getD x1 ([]:List (List Int))) x3 x5∨(↑x3:Int)<(↑(f.length):Int) - (1:Int)∧(↑x5:Int)<(↑(f.length):Int) - (1:Int)∧en (a.getD x1 ([]:List (List Int))) x3 x5<(↑(f.length):Int) - (1:Int))))→((inB (en (a.getD x1 ([]:List (List Int))) x3 x5) (f.length))∧((inB (↑x1:Int) (b.length))∧((inB (↑x3:Int) (f.length))∧((inB (f.getD ((↑x3:Int).toNat) (0:Int)) ((b.getD ((↑x1:Int).toNat) ([]:List (List Int))).length))∧((inB (↑x5:Int) (f.length))∧((inB (f.getD ((↑x5:Int).toNat) (0:Int)) (((List.getD b ((↑x1:Int).toNat) ([]:List (List Int))).getD ((f.getD ((↑x3:Int).toNat) (0:Int)).toNat) []).length))∧(BrP (f.getD ((en (a.getD x1 ([]:List (List Int))) x3 x5).toNat) (0:Int) != (List.getD (List.getD b ((↑x1:Int).toNat) ([]:List (List Int))) ((List.getD f ((↑x3:Int).toNat) (0:Int)).toNat) []).getD ((f.getD ((↑x5:Int).toNat) (0:Int)).toNat) (0:Int)) ((false=ftB a b f)∧True) ((InR ((↑x5:Int)+(1:Int)))∧(∃x12:Nat,(((x3<f.length)∧((x12≤f.length)∧(∀(j1:Nat),j1<x12→ftZ a b f x1 x3 j1=true)))∧((f.length - x12<f.length - x5)∧((a=a)∧((b=b)∧((f=f)∧(((↑(f.length):Int) - (1:Int)=(↑(f.length):Int) - (1:Int))∧(((↑x1:Int)=(↑x1:Int))∧(((↑x3:Int)=(↑x3:Int))∧((↑x5:Int)+(1:Int)=(↑x12:Int))))))))))))))))))))))))) ((InR ((↑x3:Int)+(1:Int)))∧(∃x13:Nat,(((x1<a.length)∧((x13≤f.length)∧(∀(i1:Nat),i1<x13→ftY a b f x1 i1=true)))∧((f.length - x13<f.length - x3) ∧
 ((a=a)∧((b=b)∧((f=f)∧(((↑(f.length):Int) - (1:Int)=(↑(f.length):Int) - (1:Int))∧(((↑x1:Int)=(↑x1:Int))∧((↑x3:Int)+(1:Int)=(↑x13:Int))))))))))))))) ((InR ((↑x1:Int)+(1:Int)))∧(∃x14:Nat,(((x14≤a.length)∧(∀(k1:Nat),k1<x14→ftX a b f k1=true))∧((a.length - x14<a.length - x1)∧((a=a)∧((b=b)∧((f=f)∧(((↑(f.length):Int) - (1:Int)=(↑(f.length):Int) - (1:Int))∧((↑x1:Int)+(1:Int)=(↑x14:Int)))))))))))))) ((true=ftB a b f)∧True))))))
theorem l03Fits_vc (a:List (List (List Int))) (b:List (List (List Int))) (f:List Int):runF Try.prog (gam l03Fits_G) noWr (l03Fits_ann a b f) Try.f56 (bodyOf Try.f56) [] [.c (.r3 .i64 (a)),.c (.r3 .i64 (b)),.c (.ints .i64 (f))] (l03Fits_p a b f)=l03Fits_V a b f:=by kernel_rfl
theorem l03Fits_ok (a:List (List (List Int))) (b:List (List (List Int))) (f:List Int) (hpre:(l03Fits_p a b f).pre):l03Fits_V a b f:=by
 simp only [l03Fits_p,l03Fits_V,BrP_iff,u1,u2,u3,u4,u5,u6,u7,u8,u9,v1,v2,v3,v4,v5,v6,v7,v8,v9,w1,w2,w3,w4,markL_length,inB,InR,room,bdsOk] at hpre ⊢
 obtain ⟨h1,h2,h3,h4,h5,h6,h7,h8⟩:=hpre
 refine ⟨by omega,⟨0,⟨by omega,fun _ h=>by omega⟩,rfl⟩,fun k ⟨hk,ik⟩=>⟨fun hk2=>⟨⟨0,⟨by omega,by omega,fun _ h=>by omega⟩,rfl⟩,fun i ⟨hka,hi,ii⟩=>⟨fun hi2=>⟨⟨0,⟨by omega,by omega,fun _ h=>by omega⟩,rfl⟩,fun j ⟨hia,hj,ij⟩=>⟨fun hj2=>?_,fun hj2=>?_⟩⟩,fun hi2=>?_⟩⟩,fun hk2=>?_⟩⟩
 ·have A:=h6 k hka
  have E:=(A.2 i (by omega)).2 j (by omega)
  have L1:(a.getD k []).length=nT a:=A.1
  have L2:=(A.2 i (by omega)).1
  have next:ftZ a b f k i j=true→∀j1,j1<j+1→ftZ a b f k i j1=true:=fun h j1 q=>by
   by_cases e:j1=j
   ·subst e;exact h
   ·exact ij j1 (by omega)
  refine ⟨by omega,by omega,by omega,⟨fun q=>⟨by omega,j+1,⟨by omega,by omega,next (ftZ_skip (.inl q))⟩,by omega,by omega⟩,fun q=>⟨fun q2=>⟨fun q3=>⟨fun q4=>⟨by omega,j+1,⟨by omega,by omega,next (ftZ_skip (.inr ⟨q2,q3,q4⟩))⟩,by omega,by omega⟩,fun q4=>⟨⟨⟩,⟨by omega,?_⟩,rfl⟩⟩,fun q3=>⟨⟨⟩,⟨by omega,?_⟩,rfl⟩⟩,fun q2=>⟨⟨⟩,⟨by omega,?_⟩,rfl⟩⟩⟩,fun u ⟨_,hn⟩=>?_⟩
  ·rintro (z | ⟨_,_,z⟩)
   ·exact q z
   ·exact q4 z
  ·rintro (z | ⟨_,z,_⟩)
   ·exact q z
   ·exact q3 z
  ·rintro (z | ⟨z,_,_⟩)
   ·exact q z
   ·exact q2 z
  ·have B:=h7 k (by omega)
   have L3:(b.getD k []).length=nT a:=B.1
   have fi:=h8 i (by omega)
   have fj:=h8 j (by omega)
   have L4:=(B.2 (f.getD i 0).toNat (by omega)).1
   have T:ftZ a b f k i j=decide (f.getD (en (a.getD k []) i j).toNat 0=((b.getD k []).getD (f.getD i 0).toNat []).getD (f.getD j 0).toNat 0):=ftZ_test hn
   have v:en (a.getD k []) i j<(f.length:Int):=by
    have:=fun z=>hn (.inl z)
    omega
   refine ⟨by omega,by omega,by omega,by omega,by omega,by omega,fun q=>?_,fun q=>⟨by omega,j+1,⟨by omega,by omega,next ?_⟩,by omega,by omega⟩⟩
   ·rw [decide_eq_false q] at T
    cases z:ftB a b f
    ·rfl
    ·rw [ftB_iff.1 z k i j (by omega) (by omega) (by omega)] at T;cases T
   ·rw [T];exact decide_eq_true q
 ·refine ⟨by omega,i+1,⟨by omega,by omega,fun i1 q=>?_⟩,by omega,by omega⟩
  by_cases e:i1=i
  ·subst e
   rw [ftY,List.all_eq_true]
   intro y hy
   exact ij y (by have:=List.mem_range.1 hy;omega)
  ·exact ii i1 (by omega)
 ·refine ⟨by omega,k+1,⟨by omega,fun k1 q=>?_⟩,by omega,by omega⟩
  by_cases e:k1=k
  ·subst e
   rw [ftX,List.all_eq_true]
   intro y hy
   exact ii y (by have:=List.mem_range.1 hy;omega)
  ·exact ik k1 (by omega)
 ·symm
  rw [ftB,List.all_eq_true]
  intro y hy
  exact ik y (by have:=List.mem_range.1 hy;omega)
theorem l03Fits_fits:Fits Try.prog 56 ⟨[],l03Fits_ct⟩:=by
 refine ffn (Γ:=gam l03Fits_G) gok_nil Try.func56 fun ds p h hp=>?_
 unfold l03Fits_ct at h
 split at h
 ·cases h
  exact ⟨noWr,l03Fits_ann _ _ _ ,by rw [l03Fits_vc];exact l03Fits_ok _ _ _  hp⟩
 ·cases h
end Go.Sx
