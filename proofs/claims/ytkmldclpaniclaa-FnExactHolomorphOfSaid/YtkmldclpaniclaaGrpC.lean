/- GrpC -/
import Derived.Test.YtkmldclpaniclaaMpgA
open Go Go.Proofs
namespace Go.Sx
set_option linter.unusedSimpArgs false
set_option linter.unusedVariables false
def Index_p (l:List Int) (x:Int):Post:=⟨l.length≤1099511627776,.c (.int .i64 (idxL x l 0)),[]⟩
def Index_ct:List AD→Option Post
 | [.c (.ints .i64 (l)),.c (.int .i64 (x))]=>some (Index_p l x)
 | _=>none
def Index_ann (l:List Int) (x:Int):Nat→Option Ann
 | 0=>some (Ann.mk ((Nat)) (fun i=>⟨[(0,.c (.ro (.ints .i64 (l)))),(1,.c (.int .i64 (x))),(6,.c (.ro (.ints .i64 (l)))),(7,.c (.int .i64 ((l.length:Int)))),(8,.c (.int .i64 ((i:Int))))],[]⟩) (fun i=>i≤l.length∧idxL x l 0=idxL x (l.drop i) (i:Int)) (fun i=>l.length - i) (fun _=>noAnn))
 | _=>none
def Index_G:List (Nat×Ctr):=[]
def Index_V (l:List Int) (x:Int):Prop :=
 ((∃x0:Nat,(((x0≤l.length)∧(idxL x l (0:Int)=idxL x (List.drop x0 l) (↑x0:Int)))∧((l=l)∧((x=x)∧((l=l)∧(((↑(l.length):Int)=(↑(l.length):Int))∧((0:Int)=(↑x0:Int))))))))∧(∀x1:Nat,(((x1≤l.length)∧(idxL x l (0:Int)=idxL x (List.drop x1 l) (↑x1:Int)))→(BrP (decide ((↑x1:Int)<(↑(l.length):Int))) ((inB (↑x1:Int) (l.length))∧(BrP (x == l.getD ((↑x1:Int).toNat) (0:Int)) (((↑x1:Int)=idxL x l (0:Int))∧True) ((InR ((↑x1:Int)+(1:Int)))∧(∃x2:Nat,(((x2≤l.length)∧(idxL x l (0:Int)=idxL x (List.drop x2 l) (↑x2:Int)))∧((l.length - x2<l.length - x1)∧((l=l)∧((x=x)∧((l=l)∧(((↑(l.length):Int)=(↑(l.length):Int))∧((↑x1:Int)+(1:Int)=(↑x2:Int)))))))))))) (((-1:Int)=idxL x l (0:Int))∧True)))))
theorem Index_vc (l:List Int) (x:Int):runF Try.prog (gam Index_G) noWr (Index_ann l x) Try.f92 (bodyOf Try.f92) [] [.c (.ints .i64 (l)),.c (.int .i64 (x))] (Index_p l x)=Index_V l x:=by kernel_rfl
theorem Index_ok (l:List Int) (x:Int) (hpre:(Index_p l x).pre):Index_V l x:=by
 simp only [Index_p,Index_V,BrP_iff,u1,u2,u3,u4,u5,u6,u7,u8,u9,v1,v2,v3,v4,v5,v6,v7,v8,v9,w1,w2,w3,w4,markL_length,inB,InR,room,bdsOk] at hpre ⊢
 refine ⟨⟨0,⟨by omega,rfl⟩,rfl⟩,fun i ⟨hi,he⟩=>⟨fun h=>?_,fun h=>?_⟩⟩
 ·rw [drop_cons' l 0 i (by omega)] at he
  simp only [idxL] at he
  refine ⟨by omega,fun h2=>?_,fun h2=>⟨by omega,i+1,⟨by omega,?_⟩,by omega,by omega⟩⟩
  ·rw [he,if_pos h2.symm]
  ·rw [he,if_neg fun e=>h2 e.symm];simp
 ·rw [he,List.drop_of_length_le (by omega)];rfl
theorem Index_fits:Fits Try.prog 92 ⟨[],Index_ct⟩:=by
 refine ffn (Γ:=gam Index_G) gok_nil Try.func92 fun ds p h hp=>?_
 unfold Index_ct at h
 split at h
 ·cases h
  exact ⟨noWr,Index_ann _ _ ,by rw [Index_vc];exact Index_ok _ _  hp⟩
 ·cases h
def isGroupTable_p (t:List (List Int)):Post:=⟨roomR t,.c (.bool (grpB t)),[]⟩
def isGroupTable_ct:List AD→Option Post
 | [.c (.rows .i64 (t))]=>some (isGroupTable_p t)
 | _=>none
def isGroupTable_ann (t:List (List Int)):Nat→Option Ann
 | 0=>some (Ann.mk ((Nat)) (fun i=>⟨[(0,.c (.ro (.rows .i64 (t)))),(15,.c (.int .i64 ((t.length:Int)))),(16,.c (.int .i64 ((i:Int))))],[]⟩) (fun i=>i≤t.length∧tabB t=true∧grpB t=(List.range' i (t.length - i)).all (gpX t)) (fun i=>t.length - i) (fun i=>fun b_=>match b_ with | 2=>some (Ann.mk ((Nat)) (fun j=>⟨[(0,.c (.ro (.rows .i64 (t)))),(15,.c (.int .i64 ((t.length:Int)))),(16,.c (.int .i64 ((i:Int)))),(3,.c (.int .i64 ((i:Int)))),(38,.c (.int .i64 ((t.length:Int)))),(39,.c (.int .i64 ((j:Int))))],[]⟩) (fun j=>j≤t.length∧i<t.length∧grpB t=((List.range' j (t.length - j)).all (asY t i)&&(List.range' (i+1) (t.length - (i+1))).all (gpX t))) (fun j=>t.length - j) (fun j=>fun b_=>match b_ with | 4=>some (Ann.mk ((Nat)) (fun k=>⟨[(0,.c (.ro (.rows .i64 (t)))),(15,.c (.int .i64 ((t.length:Int)))),(16,.c (.int .i64 ((i:Int)))),(3,.c (.int .i64 ((i:Int)))),(38,.c (.int .i64 ((t.length:Int)))),(39,.c (.int .i64 ((j:Int)))),(4,.c (.int .i64 ((j:Int)))),(43,.c (.int .i64 ((t.length:Int)))),(44,.c (.int .i64 ((k:Int))))],[]⟩) (fun k=>k≤t.length∧j<t.length∧grpB t=((List.range' k (t.length - k)).all (asZ t i j)&&((List.range' (j+1) (t.length - (j+1))).all (asY t i)&&(List.range' (i+1) (t.length - (i+1))).all (gpX t)))) (fun k=>t.length - k) (fun _=>noAnn)) | _=>none)) | _=>none))
 | _=>none
def isGroupTable_G:List (Nat×Ctr):=[(59,⟨[],IsTable_ct⟩),(60,⟨[],permutationRows_ct⟩)]
def isGroupTable_c1 (t:List (List Int)) (x0:Nat) (x1:Nat) (x2:Nat):=(List.all (List.range' x0 (t.length - x0)) (asZ t x1 x2)&&(List.all (List.range' (x2+(1:Nat)) (t.length - (x2+(1:Nat)))) (asY t x1)&&List.all (List.range' (x1+(1:Nat)) (t.length - (x1+(1:Nat)))) (gpX t)))
def isGroupTable_V (t:List (List Int)):Prop :=
 (((roomR t)∧True)∧(BrP (!tabB t) ((false=grpB t)∧True) (((roomR t)∧True)∧(BrP (!List.all t permB) ((false=grpB t)∧True) ((∃x0:Nat,(((x0≤t.length)∧((tabB t=true)∧(grpB t=List.all (List.range' x0 (t.length - x0)) (gpX t))))∧((t=t)∧(((↑(t.length):Int)=(↑(t.length):Int))∧((0:Int)=(↑x0:Int))))))∧(∀x1:Nat,(((x1≤t.length)∧((tabB t=true)∧(grpB t=List.all (List.range' x1 (t.length - x1)) (gpX t))))→(BrP (decide ((↑x1:Int)<(↑(t.length):Int))) ((inB (0:Int) (t.length))∧((inB (↑x1:Int) ((t.getD (0:Nat) []).length))∧(BrP ((List.getD t (0:Nat) []).getD ((↑x1:Int).toNat) (0:Int) != (↑x1:Int)) ((false=grpB t)∧True) ((inB (↑x1:Int) (t.length))∧((inB (0:Int) ((t.getD ((↑x1:Int).toNat) []).length))∧(BrP ((List.getD t ((↑x1:Int).toNat) []).getD (0:Nat) (0:Int) != (↑x1:Int)) ((false=grpB t)∧True) ((∃x2:Nat,(((x2≤t.length)∧((x1<t.length)∧(grpB t=(List.all (List.range' x2 (t.length - x2)) (asY t x1)&&List.all (List.range' (x1+(1:Nat)) (t.length - (x1+(1:Nat)))) (gpX t)))))∧((t=t)∧(((↑(t.length):Int)=(↑(t.length):Int))∧(((↑x1:Int)=(↑x1:Int))∧(((↑x1:Int)=(↑x1:Int))∧(((↑(t.length):Int)=(↑(t.length):Int))∧((0:Int)=(↑x2:Int)))))))))∧(∀x3:Nat,(((x3≤t.length)∧((x1<t.length)∧(grpB t=(List.all (List.range' x3 (t.length - x3)) (asY t x1)&&List.all (List.range' (x1+(1:Nat)) (t.length - (x1+(1:Nat)))) (gpX t)))))→(BrP (decide ((↑x3:Int)<(↑(t.length):Int))) ((∃x4:Nat,(((x4≤t.length)∧((x3<t.length) ∧
 (grpB t=(isGroupTable_c1 t x4 x1 x3))))∧((t=t)∧(((↑(t.length):Int)=(↑(t.length):Int))∧(((↑x1:Int)=(↑x1:Int))∧(((↑x1:Int)=(↑x1:Int))∧(((↑(t.length):Int)=(↑(t.length):Int))∧(((↑x3:Int)=(↑x3:Int))∧(((↑x3:Int)=(↑x3:Int))∧(((↑(t.length):Int)=(↑(t.length):Int))∧((0:Int)=(↑x4:Int))))))))))))∧(∀x5:Nat,(((x5≤t.length)∧((x3<t.length)∧(grpB t=(isGroupTable_c1 t x5 x1 x3))))→(BrP (decide ((↑x5:Int)<(↑(t.length):Int))) ((inB (↑x1:Int) (t.length))∧((inB (↑x3:Int) ((t.getD ((↑x1:Int).toNat) []).length))∧((inB ((List.getD t ((↑x1:Int).toNat) []).getD ((↑x3:Int).toNat) (0:Int)) (t.length))∧((inB (↑x5:Int) ((t.getD (((List.getD t ((↑x1:Int).toNat) []).getD ((↑x3:Int).toNat) (0:Int)).toNat) []).length))∧((inB (↑x1:Int) (t.length))∧((inB (↑x3:Int) (t.length))∧((inB (↑x5:Int) ((t.getD ((↑x3:Int).toNat) []).length))∧((inB ((List.getD t ((↑x3:Int).toNat) []).getD ((↑x5:Int).toNat) (0:Int)) ((t.getD ((↑x1:Int).toNat) []).length))∧(BrP ((List.getD t ((List.getD (List.getD t ((↑x1:Int).toNat) []) ((↑x3:Int).toNat) (0:Int)).toNat) []).getD ((↑x5:Int).toNat) (0:Int) != (List.getD t ((↑x1:Int).toNat) []).getD (((List.getD t ((↑x3:Int).toNat) []).getD ((↑x5:Int).toNat) (0:Int)).toNat) (0:Int)) ((false=grpB t)∧True) ((InR ((↑x5:Int)+(1:Int)))∧(∃x6:Nat,(((x6≤t.length)∧((x3<t.length)∧(grpB t=(isGroupTable_c1 t x6 x1 x3))))∧((t.length - x6<t.length - x5)∧((t=t)∧(((↑(t.length):Int)=(↑(t.length):Int))∧(((↑x1:Int)=(↑x1:Int))∧(((↑x1:Int)=(↑x1:Int)) ∧
 (((↑(t.length):Int)=(↑(t.length):Int))∧(((↑x3:Int)=(↑x3:Int))∧(((↑x3:Int)=(↑x3:Int))∧(((↑(t.length):Int)=(↑(t.length):Int))∧((↑x5:Int)+(1:Int)=(↑x6:Int))))))))))))))))))))))) ((InR ((↑x3:Int)+(1:Int)))∧(∃x7:Nat,(((x7≤t.length)∧((x1<t.length)∧(grpB t=(List.all (List.range' x7 (t.length - x7)) (asY t x1)&&List.all (List.range' (x1+(1:Nat)) (t.length - (x1+(1:Nat)))) (gpX t)))))∧((t.length - x7<t.length - x3)∧((t=t)∧(((↑(t.length):Int)=(↑(t.length):Int))∧(((↑x1:Int)=(↑x1:Int))∧(((↑x1:Int)=(↑x1:Int))∧(((↑(t.length):Int)=(↑(t.length):Int))∧((↑x3:Int)+(1:Int)=(↑x7:Int))))))))))))))) ((InR ((↑x1:Int)+(1:Int)))∧(∃x8:Nat,(((x8≤t.length)∧((tabB t=true)∧(grpB t=List.all (List.range' x8 (t.length - x8)) (gpX t))))∧((t.length - x8<t.length - x1)∧((t=t)∧(((↑(t.length):Int)=(↑(t.length):Int))∧((↑x1:Int)+(1:Int)=(↑x8:Int)))))))))))))))))) ((true=grpB t)∧True)))))))))
theorem isGroupTable_vc (t:List (List Int)):runF Try.prog (gam isGroupTable_G) noWr (isGroupTable_ann t) Try.f44 (bodyOf Try.f44) [] [.c (.rows .i64 (t))] (isGroupTable_p t)=isGroupTable_V t:=by kernel_rfl
theorem isGroupTable_ok (t:List (List Int)) (hpre:(isGroupTable_p t).pre):isGroupTable_V t:=by
 simp only [isGroupTable_p,isGroupTable_V,isGroupTable_c1,BrP_iff,u1,u2,u3,u4,u5,u6,u7,u8,u9,v1,v2,v3,v4,v5,v6,v7,v8,v9,w1,w2,w3,w4,markL_length,inB,InR,room,bdsOk] at hpre ⊢
 refine ⟨hpre,fun h=>by simp [grpB,h],fun h1=>⟨hpre,fun h2=>by simp [grpB,h2],fun h2=>⟨⟨0,⟨by omega,h1,by rw [grpB,h1,h2,Bool.true_and,Bool.true_and,rg_start]⟩,rfl⟩,fun i ⟨hi,_,he⟩=>?_⟩⟩⟩
 obtain ⟨n1,n2,ht⟩:=tabB_of h1
 refine ⟨fun h3=>?_,fun h3=>by rw [he,rg_end _ (by omega)]⟩
 ·have r0:=ht 0 (by omega)
  have ri:=ht i (by omega)
  rw [rg_step _ (by omega)] at he
  refine ⟨by omega,by omega,fun h4=>?_,fun h4=>⟨by omega,by omega,fun h5=>?_,fun h5=>⟨⟨0,⟨by omega,by omega,?_⟩,rfl⟩,fun j ⟨hj,_,hy⟩=>⟨fun h6=>⟨⟨0,⟨by omega,by omega,?_⟩,rfl⟩,fun k ⟨hk,_,hz⟩=>⟨fun h7=>?_,fun h7=>?_⟩⟩,fun h6=>?_⟩⟩⟩⟩
  ·rw [he,gpX,zrX,show decide (en t 0 i=(i:Int))=false from decide_eq_false h4];rfl
  ·rw [he,gpX,zrX,show decide (en t i 0=(i:Int))=false from decide_eq_false h5];simp
  ·rw [he,gpX,zrX,show decide (en t 0 i=(i:Int))=true from decide_eq_true h4,show decide (en t i 0=(i:Int))=true from decide_eq_true h5,asX,rg_start];rfl
  ·rw [hy,rg_step _ (by omega),asY,rg_start,Bool.and_assoc]
  ·have rj:=ht j (by omega)
   have a:=ri.2 j (by omega)
   have b:=rj.2 k (by omega)
   have rr:=ht ((t.getD i []).getD j 0).toNat (by omega)
   rw [rg_step _ (by omega)] at hz
   refine ⟨by omega,by omega,by omega,by omega,by omega,by omega,by omega,by omega,fun h8=>?_,fun h8=>⟨by omega,k+1,⟨by omega,by omega,?_⟩,by omega,by omega⟩⟩
   ·rw [hz,show asZ t i j k=false from decide_eq_false h8];rfl
   ·rw [hz,show asZ t i j k=true from decide_eq_true h8];rfl
  ·refine ⟨by omega,j+1,⟨by omega,by omega,?_⟩,by omega,by omega⟩
   rw [hz,rg_end _ (by omega),Bool.true_and]
  ·refine ⟨by omega,i+1,⟨by omega,h1,?_⟩,by omega,by omega⟩
   rw [hy,rg_end _ (by omega),Bool.true_and]
theorem isGroupTable_fits:Fits Try.prog 44 ⟨[],isGroupTable_ct⟩:=by
 refine ffn (Γ:=gam isGroupTable_G) (gok_cons IsTable_fits (gok_cons permutationRows_fits gok_nil)) Try.func44 fun ds p h hp=>?_
 unfold isGroupTable_ct at h
 split at h
 ·cases h
  exact ⟨noWr,isGroupTable_ann _ ,by rw [isGroupTable_vc];exact isGroupTable_ok _  hp⟩
 ·cases h
def l10Is_p (t:List (List Int)):Post:=⟨roomR t,.c (.bool (grpB t)),[]⟩
def l10Is_ct:List AD→Option Post
 | [.c (.rows .i64 (t))]=>some (l10Is_p t)
 | _=>none
def l10Is_ann (t:List (List Int)):Nat→Option Ann
 | 0=>some (Ann.mk ((Nat)) (fun i=>⟨[(0,.c (.ro (.rows .i64 (t)))),(3,.c (.int .i64 ((i:Int))))],[]⟩) (fun i=>i≤t.length∧tabB t=true∧grpB t=(List.range' i (t.length - i)).all (hpX t)) (fun i=>t.length - i) (fun i=>fun b_=>match b_ with | 2=>some (Ann.mk ((Nat)) (fun j=>⟨[(0,.c (.ro (.rows .i64 (t)))),(3,.c (.int .i64 ((i:Int)))),(4,.c (.int .i64 ((j:Int))))],[]⟩) (fun j=>j≤t.length∧i<t.length∧grpB t=((List.range' j (t.length - j)).all (asY t i)&&(List.range' (i+1) (t.length - (i+1))).all (hpX t))) (fun j=>t.length - j) (fun j=>fun b_=>match b_ with | 4=>some (Ann.mk ((Nat)) (fun k=>⟨[(0,.c (.ro (.rows .i64 (t)))),(3,.c (.int .i64 ((i:Int)))),(4,.c (.int .i64 ((j:Int)))),(5,.c (.int .i64 ((k:Int))))],[]⟩) (fun k=>k≤t.length∧j<t.length∧grpB t=((List.range' k (t.length - k)).all (asZ t i j)&&((List.range' (j+1) (t.length - (j+1))).all (asY t i)&&(List.range' (i+1) (t.length - (i+1))).all (hpX t)))) (fun k=>t.length - k) (fun _=>noAnn)) | _=>none)) | _=>none))
 | _=>none
def l10Is_G:List (Nat×Ctr):=[(39,⟨[],l01Table_ct⟩),(40,⟨[],l01Perm_ct⟩)]
def l10Is_c1 (t:List (List Int)) (x0:Nat) (x1:Nat) (x2:Nat):=(List.all (List.range' x0 (t.length - x0)) (asZ t x1 x2)&&(List.all (List.range' (x2+(1:Nat)) (t.length - (x2+(1:Nat)))) (asY t x1)&&List.all (List.range' (x1+(1:Nat)) (t.length - (x1+(1:Nat)))) (hpX t)))
def l10Is_V (t:List (List Int)):Prop :=
 (((roomR t)∧True)∧(BrP (!tabB t) ((false=grpB t)∧True) ((∃x0:Nat,(((x0≤t.length)∧((tabB t=true)∧(grpB t=List.all (List.range' x0 (t.length - x0)) (hpX t))))∧((t=t)∧((0:Int)=(↑x0:Int)))))∧(∀x1:Nat,(((x1≤t.length)∧((tabB t=true)∧(grpB t=List.all (List.range' x1 (t.length - x1)) (hpX t))))→(BrP (decide ((↑x1:Int)<(↑(t.length):Int))) ((inB (0:Int) (t.length))∧((inB (↑x1:Int) ((t.getD (0:Nat) []).length))∧(BrP ((List.getD t (0:Nat) []).getD ((↑x1:Int).toNat) (0:Int) != (↑x1:Int)) ((false=grpB t)∧True) ((inB (↑x1:Int) (t.length))∧((inB (0:Int) ((t.getD ((↑x1:Int).toNat) []).length))∧(BrP ((List.getD t ((↑x1:Int).toNat) []).getD (0:Nat) (0:Int) != (↑x1:Int)) ((false=grpB t)∧True) ((inB (↑x1:Int) (t.length))∧((((t.getD ((↑x1:Int).toNat) []).length≤(1099511627776:Nat))∧True)∧(BrP (!(decide ((1:Int)≤(↑((t.getD ((↑x1:Int).toNat) []).length):Int)∧(↑((t.getD ((↑x1:Int).toNat) []).length):Int)≤(12:Int))&&permB (t.getD ((↑x1:Int).toNat) []))) ((false=grpB t)∧True) ((∃x2:Nat,(((x2≤t.length)∧((x1<t.length)∧(grpB t=(List.all (List.range' x2 (t.length - x2)) (asY t x1)&&List.all (List.range' (x1+(1:Nat)) (t.length - (x1+(1:Nat)))) (hpX t)))))∧((t=t)∧(((↑x1:Int)=(↑x1:Int))∧((0:Int)=(↑x2:Int))))))∧(∀x3:Nat,(((x3≤t.length)∧((x1<t.length)∧(grpB t=(List.all (List.range' x3 (t.length - x3)) (asY t x1)&&List.all (List.range' (x1+(1:Nat)) (t.length - (x1+(1:Nat)))) (hpX t))))) →
 (BrP (decide ((↑x3:Int)<(↑(t.length):Int))) ((∃x4:Nat,(((x4≤t.length)∧((x3<t.length)∧(grpB t=(l10Is_c1 t x4 x1 x3))))∧((t=t)∧(((↑x1:Int)=(↑x1:Int))∧(((↑x3:Int)=(↑x3:Int))∧((0:Int)=(↑x4:Int)))))))∧(∀x5:Nat,(((x5≤t.length)∧((x3<t.length)∧(grpB t=(l10Is_c1 t x5 x1 x3))))→(BrP (decide ((↑x5:Int)<(↑(t.length):Int))) ((inB (↑x1:Int) (t.length))∧((inB (↑x3:Int) ((t.getD ((↑x1:Int).toNat) []).length))∧((inB ((List.getD t ((↑x1:Int).toNat) []).getD ((↑x3:Int).toNat) (0:Int)) (t.length))∧((inB (↑x5:Int) ((t.getD (((List.getD t ((↑x1:Int).toNat) []).getD ((↑x3:Int).toNat) (0:Int)).toNat) []).length))∧((inB (↑x1:Int) (t.length))∧((inB (↑x3:Int) (t.length))∧((inB (↑x5:Int) ((t.getD ((↑x3:Int).toNat) []).length))∧((inB ((List.getD t ((↑x3:Int).toNat) []).getD ((↑x5:Int).toNat) (0:Int)) ((t.getD ((↑x1:Int).toNat) []).length))∧(BrP ((List.getD t ((List.getD (List.getD t ((↑x1:Int).toNat) []) ((↑x3:Int).toNat) (0:Int)).toNat) []).getD ((↑x5:Int).toNat) (0:Int) != (List.getD t ((↑x1:Int).toNat) []).getD (((List.getD t ((↑x3:Int).toNat) []).getD ((↑x5:Int).toNat) (0:Int)).toNat) (0:Int)) ((false=grpB t)∧True) ((InR ((↑x5:Int)+(1:Int)))∧(∃x6:Nat,(((x6≤t.length)∧((x3<t.length)∧(grpB t=(l10Is_c1 t x6 x1 x3))))∧((t.length - x6<t.length - x5)∧((t=t)∧(((↑x1:Int)=(↑x1:Int))∧(((↑x3:Int)=(↑x3:Int))∧((↑x5:Int)+(1:Int)=(↑x6:Int)))))))))))))))))) ((InR ((↑x3:Int)+(1:Int)))∧(∃x7:Nat,(((x7≤t.length)∧((x1<t.length) ∧
 (grpB t=(List.all (List.range' x7 (t.length - x7)) (asY t x1)&&List.all (List.range' (x1+(1:Nat)) (t.length - (x1+(1:Nat)))) (hpX t)))))∧((t.length - x7<t.length - x3)∧((t=t)∧(((↑x1:Int)=(↑x1:Int))∧((↑x3:Int)+(1:Int)=(↑x7:Int)))))))))))) ((InR ((↑x1:Int)+(1:Int)))∧(∃x8:Nat,(((x8≤t.length)∧((tabB t=true)∧(grpB t=List.all (List.range' x8 (t.length - x8)) (hpX t))))∧((t.length - x8<t.length - x1)∧((t=t)∧((↑x1:Int)+(1:Int)=(↑x8:Int)))))))))))))))))))) ((true=grpB t)∧True)))))))
theorem l10Is_vc (t:List (List Int)):runF Try.prog (gam l10Is_G) noWr (l10Is_ann t) Try.f20 (bodyOf Try.f20) [] [.c (.rows .i64 (t))] (l10Is_p t)=l10Is_V t:=by kernel_rfl
theorem l10Is_ok (t:List (List Int)) (hpre:(l10Is_p t).pre):l10Is_V t:=by
 simp only [l10Is_p,l10Is_V,l10Is_c1,BrP_iff,u1,u2,u3,u4,u5,u6,u7,u8,u9,v1,v2,v3,v4,v5,v6,v7,v8,v9,w1,w2,w3,w4,markL_length,inB,InR,room,bdsOk] at hpre ⊢
 refine ⟨hpre,fun h=>by simp [grpB,h],fun h1=>⟨⟨0,⟨by omega,h1,by rw [grp_eq,h1,Bool.true_and,rg_start]⟩,rfl⟩,fun i ⟨hi,_,he⟩=>?_⟩⟩
 obtain ⟨n1,n2,ht⟩:=tabB_of h1
 refine ⟨fun h3=>?_,fun h3=>by rw [he,rg_end _ (by omega)]⟩
 have hr:=(ht i (by omega)).1
 have hd:decide (1≤((t.getD i []).length:Int)∧((t.getD i []).length:Int)≤12)=true:=decide_eq_true (by omega)
 have np:(decide (1≤((t.getD i []).length:Int)∧((t.getD i []).length:Int)≤12)&&permB (t.getD i []))=false→permB (t.getD i [])=false:=fun h=>by rwa [hd,Bool.true_and] at h
 have yp:(decide (1≤((t.getD i []).length:Int)∧((t.getD i []).length:Int)≤12)&&permB (t.getD i []))=true→permB (t.getD i [])=true:=fun h=>by rwa [hd,Bool.true_and] at h
 ·have r0:=ht 0 (by omega)
  have ri:=ht i (by omega)
  rw [rg_step _ (by omega)] at he
  refine ⟨by omega,by omega,fun h4=>?_,fun h4=>⟨by omega,by omega,fun h5=>?_,fun h5=>⟨by omega,by omega,fun hp=>?_,fun hp=>⟨⟨0,⟨by omega,by omega,?_⟩,rfl⟩,fun j ⟨hj,_,hy⟩=>⟨fun h6=>⟨⟨0,⟨by omega,by omega,?_⟩,rfl⟩,fun k ⟨hk,_,hz⟩=>⟨fun h7=>?_,fun h7=>?_⟩⟩,fun h6=>?_⟩⟩⟩⟩⟩
  ·rw [he,hpX,zrX,show decide (en t 0 i=(i:Int))=false from decide_eq_false h4];rfl
  ·rw [he,hpX,zrX,show decide (en t i 0=(i:Int))=false from decide_eq_false h5];simp
  ·rw [he,hpX,show permB (t.getD i [])=false from np hp];simp
  ·rw [he,hpX,zrX,show decide (en t 0 i=(i:Int))=true from decide_eq_true h4,show decide (en t i 0=(i:Int))=true from decide_eq_true h5,show permB (t.getD i [])=true from yp hp,asX,rg_start];rfl
  ·rw [hy,rg_step _ (by omega),asY,rg_start,Bool.and_assoc]
  ·have rj:=ht j (by omega)
   have a:=ri.2 j (by omega)
   have b:=rj.2 k (by omega)
   have rr:=ht ((t.getD i []).getD j 0).toNat (by omega)
   rw [rg_step _ (by omega)] at hz
   refine ⟨by omega,by omega,by omega,by omega,by omega,by omega,by omega,by omega,fun h8=>?_,fun h8=>⟨by omega,k+1,⟨by omega,by omega,?_⟩,by omega,by omega⟩⟩
   ·rw [hz,show asZ t i j k=false from decide_eq_false h8];rfl
   ·rw [hz,show asZ t i j k=true from decide_eq_true h8];rfl
  ·refine ⟨by omega,j+1,⟨by omega,by omega,?_⟩,by omega,by omega⟩
   rw [hz,rg_end _ (by omega),Bool.true_and]
  ·refine ⟨by omega,i+1,⟨by omega,h1,?_⟩,by omega,by omega⟩
   rw [hy,rg_end _ (by omega),Bool.true_and]
theorem l10Is_fits:Fits Try.prog 20 ⟨[],l10Is_ct⟩:=by
 refine ffn (Γ:=gam l10Is_G) (gok_cons l01Table_fits (gok_cons l01Perm_fits gok_nil)) Try.func20 fun ds p h hp=>?_
 unfold l10Is_ct at h
 split at h
 ·cases h
  exact ⟨noWr,l10Is_ann _ ,by rw [l10Is_vc];exact l10Is_ok _  hp⟩
 ·cases h
end Go.Sx
