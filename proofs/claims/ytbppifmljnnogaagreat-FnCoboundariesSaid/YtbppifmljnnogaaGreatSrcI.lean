/- SrcI -/
import Derived.Test.YtbppifmljnnogaaGreatSrcK
open Go Go.Proofs
namespace Go.Sx
set_option linter.unusedSimpArgs false
set_option linter.unusedVariables false
theorem pass_next {t:List (List Int)} {m:Int} {f:List (List Int)} {g:List Int} (h:Good t m f g) :
  Good t m f (passG t m f t.length g)∧growF t m f g=growF t m f (passG t m f t.length g) ∧
  (decide (negs (passG t m f t.length g)<negs g)=false→growF t m f (passG t m f t.length g)=passG t m f t.length g) ∧
  2 * negs (passG t m f t.length g)+(bif decide (negs (passG t m f t.length g)<negs g) then 1 else 0)<2 * negs g+1:=by
 obtain ⟨a,b⟩:=passG_good h t.length (Nat.le_refl _)
 have e:=growF_step h
 refine ⟨a,?_,fun hd=>?_,?_⟩
 ·rw [e];split
  ·rename_i h1;rw [h1,e,if_pos h1]
  ·rfl
 ·have h1:passG t m f t.length g=g:=b.resolve_right (by simpa using hd)
  rw [h1,e,if_pos h1]
 ·rcases b with h1 | h1
  ·rw [h1];simp
  ·rw [decide_eq_true h1];simp only [cond_true];omega
def iSource_p (t:List (List Int)) (m:Int) (f:List (List Int)):Post:=⟨tabB t=true∧matB (t.length:Int) m f=true,.c (.ints 2 .i64 (srcN t m f t.length)),[]⟩
def iSource_ct:List AD→Option Post
 | [.c (.rows .i64 (t)),.c (.int .i64 (m)),.c (.rows .i64 (f))]=>some (iSource_p t m f)
 | _=>none
def iSource_ann (t:List (List Int)) (m:Int) (f:List (List Int)):Nat→Option Ann
 | 0=>some (Ann.mk ((Nat)) (fun i=>⟨[(0,.c (.ro (.rows .i64 (t)))),(1,.c (.int .i64 (m))),(2,.c (.ro (.rows .i64 (f)))),(7,.c (.own (17))),(19,.c (.int .i64 ((t.length:Int)))),(20,.c (.int .i64 ((i:Int))))],[(17,some (.ints 2 .i64 (List.replicate i (-1)++List.replicate (t.length - i) 0)))]⟩) (fun i=>i≤t.length) (fun i=>t.length - i) (fun _=>noAnn))
 | 2=>some (Ann.mk ((Nat)) (fun s=>⟨[(0,.c (.ro (.rows .i64 (t)))),(1,.c (.int .i64 (m))),(2,.c (.ro (.rows .i64 (f)))),(7,.c (.own (17))),(28,.c (.int .i64 ((t.length:Int)))),(29,.c (.int .i64 ((s:Int))))],[(17,some (.ints 2 .i64 (srcN t m f s)))]⟩) (fun s=>s≤t.length∧Good t m f (srcN t m f s)) (fun s=>t.length - s) (fun s=>fun b_=>match b_ with | 4=>some (Ann.mk ((List Int)×(Bool)) (fun x=>match x with | (g,gr)=>⟨[(0,.c (.ro (.rows .i64 (t)))),(1,.c (.int .i64 (m))),(2,.c (.ro (.rows .i64 (f)))),(7,.c (.own (17))),(28,.c (.int .i64 ((t.length:Int)))),(29,.c (.int .i64 ((s:Int)))),(9,.c (.int .i64 ((s:Int)))),(10,.c (.bool (gr)))],[(17,some (.ints 2 .i64 (g)))]⟩) (fun x=>match x with | (g,gr)=>s<t.length∧(srcN t m f s).getD s 0<0∧Good t m f g∧growF t m f ((srcN t m f s).set s 0)=growF t m f g∧(gr=false→growF t m f g=g)) (fun x=>match x with | (g,gr)=>2 * negs g+(bif gr then 1 else 0)) (fun x=>match x with | (g,gr)=>fun b_=>match b_ with | 6=>some (Ann.mk ((Nat)) (fun i=>⟨[(0,.c (.ro (.rows .i64 (t)))),(1,.c (.int .i64 (m))),(2,.c (.ro (.rows .i64 (f)))),(7,.c (.own (17))),(28,.c (.int .i64 ((t.length:Int)))),(29,.c (.int .i64 ((s:Int)))),(9,.c (.int .i64 ((s:Int)))),(10,.c (.bool (decide (negs (passG t m f i g)<negs g)))),(41,.c (.ro (.rows .i64 (t)))),(42,.c (.int .i64 ((t.length:Int)))),(43,.c (.int .i64 ((i:Int))))],[(17,some (.ints 2 .i64 (passG t m f i g)))]⟩) (fun i=>i≤t.length∧gr=true) (fun i=>t.length - i) (fun i=>fun b_=>match b_ with | 8=>some (Ann.mk ((Nat)) (fun j=>⟨[(0,.c (.ro (.rows .i64 (t)))),(1,.c (.int .i64 (m))),(2,.c (.ro (.rows .i64 (f)))),(7,.c (.own (17))),(28,.c (.int .i64 ((t.length:Int)))),(29,.c (.int .i64 ((s:Int)))),(9,.c (.int .i64 ((s:Int)))),(10,.c (.bool (decide (negs (rowG t m f i j (passG t m f i g))<negs g)))),(41,.c (.ro (.rows .i64 (t)))),(42,.c (.int .i64 ((t.length:Int)))),(43,.c (.int .i64 ((i:Int)))),(11,.c (.int .i64 ((i:Int)))),(12,.c (.ro (.ints .i64 ((t.getD i []))))),(48,.c (.ro (.ints .i64 ((t.getD i []))))),(49,.c (.int .i64 ((t.length:Int)))),(50,.c (.int .i64 ((j:Int))))],[(17,some (.ints 2 .i64 (rowG t m f i j (passG t m f i g))))]⟩) (fun j=>j≤t.length∧i<t.length) (fun j=>t.length - j) (fun _=>noAnn)) | _=>none)) | _=>none)) | _=>none))
 | _=>none
def iSource_G:List (Nat×Ctr):=[]
def iSource_c1 (t:List (List Int)) (m:Int) (f:List (List Int)) (x0:Nat) (x1:Nat) (x2:List Int×Bool):=((rowG t m f x0 x1 (passG t m f x0 x2.1)).getD (((List.getD t x0 []).getD ((↑x1:Int).toNat) (0:Int)).toNat) (0:Int) - (List.getD f ((↑x0:Int).toNat) []).getD ((↑x1:Int).toNat) (0:Int)+m)
def iSource_c2 (t:List (List Int)) (m:Int) (f:List (List Int)) (x0:Nat) (x1:Nat) (x2:List Int×Bool):=(inB ((List.getD t x0 []).getD ((↑x1:Int).toNat) (0:Int)) ((rowG t m f x0 x1 (passG t m f x0 x2.1)).length))
def iSource_V (t:List (List Int)) (m:Int) (f:List (List Int)):Prop :=
 ((((0:Int)≤(↑(t.length):Int))∧(((↑(t.length):Int)≤(↑(t.length):Int))∧(room ((↑(t.length):Int).toNat))))∧((∃x0:Nat,((x0≤t.length)∧((t=t)∧((m=m)∧((f=f)∧(((↑((List.replicate ((↑(t.length):Int).toNat) (0:Int)).length):Int)=(↑(t.length):Int))∧(((0:Int)=(↑x0:Int))∧(List.replicate ((↑(t.length):Int).toNat) (0:Int)=List.replicate x0 (-1:Int)++List.replicate (t.length - x0) (0:Int)))))))))∧(∀x1:Nat,((x1≤t.length)→(BrP (decide ((↑x1:Int)<(↑(t.length):Int))) ((inB (↑x1:Int) ((List.replicate x1 (-1:Int)++List.replicate (t.length - x1) (0:Int)).length))∧((InR ((↑x1:Int)+(1:Int)))∧(∃x2:Nat,((x2≤t.length)∧((t.length - x2<t.length - x1)∧((t=t)∧((m=m)∧((f=f)∧(((↑(t.length):Int)=(↑(t.length):Int))∧(((↑x1:Int)+(1:Int)=(↑x2:Int))∧(List.set (List.replicate x1 (-1:Int)++List.replicate (t.length - x1) (0:Int)) ((↑x1:Int).toNat) (-1:Int)=List.replicate x2 (-1:Int)++List.replicate (t.length - x2) (0:Int)))))))))))) ((∃x3:Nat,(((x3≤t.length)∧(Good t m f (srcN t m f x3)))∧((t=t)∧((m=m)∧((f=f)∧(((↑((List.replicate x1 (-1:Int)++List.replicate (t.length - x1) (0:Int)).length):Int)=(↑(t.length):Int))∧(((0:Int)=(↑x3:Int))∧(List.replicate x1 (-1:Int)++List.replicate (t.length - x1) (0:Int)=srcN t m f x3))))))))∧(∀x4:Nat,(((x4≤t.length)∧(Good t m f (srcN t m f x4)))→(BrP (decide ((↑x4:Int)<(↑(t.length):Int))) ((inB (↑x4:Int) ((srcN t m f x4).length)) ∧
 (BrP (decide ((0:Int)≤(srcN t m f x4).getD ((↑x4:Int).toNat) (0:Int))) ((InR ((↑x4:Int)+(1:Int)))∧(∃x5:Nat,(((x5≤t.length)∧(Good t m f (srcN t m f x5)))∧((t.length - x5<t.length - x4)∧((t=t)∧((m=m)∧((f=f)∧(((↑(t.length):Int)=(↑(t.length):Int))∧(((↑x4:Int)+(1:Int)=(↑x5:Int))∧(srcN t m f x4=srcN t m f x5)))))))))) ((inB (↑x4:Int) ((srcN t m f x4).length))∧((∃x6:List Int×Bool,(((x4<t.length)∧(((srcN t m f x4).getD x4 (0:Int)<(0:Int))∧((Good t m f (x6.1))∧((growF t m f (List.set (srcN t m f x4) x4 (0:Int))=growF t m f (x6.1))∧(x6.2=false→growF t m f (x6.1)=x6.1)))))∧((t=t)∧((m=m)∧((f=f)∧(((↑(t.length):Int)=(↑(t.length):Int))∧(((↑x4:Int)=(↑x4:Int))∧(((↑x4:Int)=(↑x4:Int))∧((true=x6.2)∧(List.set (srcN t m f x4) ((↑x4:Int).toNat) (0:Int)=x6.1))))))))))∧(∀x7:List Int×Bool,(((x4<t.length)∧(((srcN t m f x4).getD x4 (0:Int)<(0:Int))∧((Good t m f (x7.1))∧((growF t m f (List.set (srcN t m f x4) x4 (0:Int))=growF t m f (x7.1))∧(x7.2=false→growF t m f (x7.1)=x7.1)))))→(BrP (x7.2) ((∃x8:Nat,(((x8≤t.length)∧(x7.2=true))∧((t=t)∧((m=m)∧((f=f)∧(((↑(t.length):Int)=(↑(t.length):Int))∧(((↑x4:Int)=(↑x4:Int))∧(((↑x4:Int)=(↑x4:Int))∧((false=decide (negs (passG t m f x8 x7.1)<negs x7.1))∧((t=t)∧(((↑(t.length):Int)=(↑(t.length):Int))∧(((0:Int)=(↑x8:Int))∧(x7.1=passG t m f x8 x7.1)))))))))))))∧(∀x9:Nat,(((x9≤t.length)∧(x7.2=true))→(BrP (decide ((↑x9:Int)<(↑(t.length):Int)))
 ((inB (↑x9:Int) (t.length))∧((∃x10:Nat,(((x10≤t.length)∧(x9<t.length))∧((t=t)∧((m=m)∧((f=f)∧(((↑(t.length):Int)=(↑(t.length):Int))∧(((↑x4:Int)=(↑x4:Int))∧(((↑x4:Int)=(↑x4:Int))∧((decide (negs (passG t m f x9 x7.1)<negs x7.1)=decide (negs (rowG t m f x9 x10 (passG t m f x9 x7.1))<negs x7.1))∧((t=t)∧(((↑(t.length):Int)=(↑(t.length):Int))∧(((↑x9:Int)=(↑x9:Int))∧(((↑x9:Int)=(↑x9:Int))∧((t.getD ((↑x9:Int).toNat) []=t.getD x9 [])∧((t.getD ((↑x9:Int).toNat) []=t.getD x9 [])∧(((↑((t.getD ((↑x9:Int).toNat) []).length):Int)=(↑(t.length):Int))∧(((0:Int)=(↑x10:Int))∧(passG t m f x9 x7.1=rowG t m f x9 x10 (passG t m f x9 x7.1)))))))))))))))))))∧(∀x11:Nat,(((x11≤t.length)∧(x9<t.length))→(BrP (decide ((↑x11:Int)<(↑(t.length):Int))) ((inB (↑x11:Int) ((t.getD x9 []).length))∧((inB (↑x11:Int) ((rowG t m f x9 x11 (passG t m f x9 x7.1)).length))∧(BrP (decide ((0:Int)≤(rowG t m f x9 x11 (passG t m f x9 x7.1)).getD ((↑x11:Int).toNat) (0:Int))) ((iSource_c2 t m f x9 x11 x7)∧(BrP (decide ((rowG t m f x9 x11 (passG t m f x9 x7.1)).getD (((List.getD t x9 []).getD ((↑x11:Int).toNat) (0:Int)).toNat) (0:Int)<(0:Int))) ((inB (↑x11:Int) ((rowG t m f x9 x11 (passG t m f x9 x7.1)).length))∧((inB (↑x9:Int) (f.length))∧((inB (↑x11:Int) ((f.getD ((↑x9:Int).toNat) []).length))∧((InR ((rowG t m f x9 x11 (passG t m f x9 x7.1)).getD ((↑x11:Int).toNat) (0:Int)+(List.getD f ((↑x9:Int).toNat) []).getD ((↑x11:Int).toNat) (0:Int)))∧((m≠(0:Int)) ∧
 ((iSource_c2 t m f x9 x11 x7)∧((InR ((↑x11:Int)+(1:Int)))∧(∃x12:Nat,(((x12≤t.length)∧(x9<t.length))∧((t.length - x12<t.length - x11)∧((t=t)∧((m=m)∧((f=f)∧(((↑(t.length):Int)=(↑(t.length):Int))∧(((↑x4:Int)=(↑x4:Int))∧(((↑x4:Int)=(↑x4:Int))∧((true=decide (negs (rowG t m f x9 x12 (passG t m f x9 x7.1))<negs x7.1))∧((t=t)∧(((↑(t.length):Int)=(↑(t.length):Int))∧(((↑x9:Int)=(↑x9:Int))∧(((↑x9:Int)=(↑x9:Int))∧((t.getD x9 []=t.getD x9 [])∧((t.getD x9 []=t.getD x9 [])∧(((↑(t.length):Int)=(↑(t.length):Int))∧(((↑x11:Int)+(1:Int)=(↑x12:Int))∧(List.set (rowG t m f x9 x11 (passG t m f x9 x7.1)) (((List.getD t x9 []).getD ((↑x11:Int).toNat) (0:Int)).toNat) (Int.tmod ((rowG t m f x9 x11 (passG t m f x9 x7.1)).getD ((↑x11:Int).toNat) (0:Int)+(List.getD f ((↑x9:Int).toNat) []).getD ((↑x11:Int).toNat) (0:Int)) m)=rowG t m f x9 x12 (passG t m f x9 x7.1))))))))))))))))))))))))))) ((iSource_c2 t m f x9 x11 x7)∧(BrP (decide ((0:Int)≤(rowG t m f x9 x11 (passG t m f x9 x7.1)).getD (((List.getD t x9 []).getD ((↑x11:Int).toNat) (0:Int)).toNat) (0:Int))) ((inB (↑x11:Int) ((rowG t m f x9 x11 (passG t m f x9 x7.1)).length))∧(BrP (decide ((rowG t m f x9 x11 (passG t m f x9 x7.1)).getD ((↑x11:Int).toNat) (0:Int)<(0:Int))) ((iSource_c2 t m f x9 x11 x7)∧((inB (↑x9:Int) (f.length))∧((inB (↑x11:Int) ((f.getD ((↑x9:Int).toNat) []).length)) ∧
 ((InR ((rowG t m f x9 x11 (passG t m f x9 x7.1)).getD (((List.getD t x9 []).getD ((↑x11:Int).toNat) (0:Int)).toNat) (0:Int) - (List.getD f ((↑x9:Int).toNat) []).getD ((↑x11:Int).toNat) (0:Int)))∧((InR (iSource_c1 t m f x9 x11 x7))∧((m≠(0:Int))∧((inB (↑x11:Int) ((rowG t m f x9 x11 (passG t m f x9 x7.1)).length))∧((InR ((↑x11:Int)+(1:Int)))∧(∃x13:Nat,(((x13≤t.length)∧(x9<t.length))∧((t.length - x13<t.length - x11)∧((t=t)∧((m=m)∧((f=f)∧(((↑(t.length):Int)=(↑(t.length):Int))∧(((↑x4:Int)=(↑x4:Int))∧(((↑x4:Int)=(↑x4:Int))∧((true=decide (negs (rowG t m f x9 x13 (passG t m f x9 x7.1))<negs x7.1))∧((t=t)∧(((↑(t.length):Int)=(↑(t.length):Int))∧(((↑x9:Int)=(↑x9:Int))∧(((↑x9:Int)=(↑x9:Int))∧((t.getD x9 []=t.getD x9 [])∧((t.getD x9 []=t.getD x9 [])∧(((↑(t.length):Int)=(↑(t.length):Int))∧(((↑x11:Int)+(1:Int)=(↑x13:Int))∧(List.set (rowG t m f x9 x11 (passG t m f x9 x7.1)) ((↑x11:Int).toNat) (Int.tmod (iSource_c1 t m f x9 x11 x7) m)=rowG t m f x9 x13 (passG t m f x9 x7.1)))))))))))))))))))))))))))) ((InR ((↑x11:Int)+(1:Int)))∧(∃x14:Nat,(((x14≤t.length)∧(x9<t.length))∧((t.length - x14<t.length - x11)∧((t=t)∧((m=m)∧((f=f)∧(((↑(t.length):Int)=(↑(t.length):Int))∧(((↑x4:Int)=(↑x4:Int))∧(((↑x4:Int)=(↑x4:Int))∧((decide (negs (rowG t m f x9 x11 (passG t m f x9 x7.1))<negs x7.1)=decide (negs (rowG t m f x9 x14 (passG t m f x9 x7.1))<negs x7.1))∧((t=t)∧(((↑(t.length):Int)=(↑(t.length):Int))∧(((↑x9:Int)=(↑x9:Int)) ∧
 (((↑x9:Int)=(↑x9:Int))∧((t.getD x9 []=t.getD x9 [])∧((t.getD x9 []=t.getD x9 [])∧(((↑(t.length):Int)=(↑(t.length):Int))∧(((↑x11:Int)+(1:Int)=(↑x14:Int))∧(rowG t m f x9 x11 (passG t m f x9 x7.1)=rowG t m f x9 x14 (passG t m f x9 x7.1))))))))))))))))))))))) ((InR ((↑x11:Int)+(1:Int)))∧(∃x15:Nat,(((x15≤t.length)∧(x9<t.length))∧((t.length - x15<t.length - x11)∧((t=t)∧((m=m)∧((f=f)∧(((↑(t.length):Int)=(↑(t.length):Int))∧(((↑x4:Int)=(↑x4:Int))∧(((↑x4:Int)=(↑x4:Int))∧((decide (negs (rowG t m f x9 x11 (passG t m f x9 x7.1))<negs x7.1)=decide (negs (rowG t m f x9 x15 (passG t m f x9 x7.1))<negs x7.1))∧((t=t)∧(((↑(t.length):Int)=(↑(t.length):Int))∧(((↑x9:Int)=(↑x9:Int))∧(((↑x9:Int)=(↑x9:Int))∧((t.getD x9 []=t.getD x9 [])∧((t.getD x9 []=t.getD x9 [])∧(((↑(t.length):Int)=(↑(t.length):Int))∧(((↑x11:Int)+(1:Int)=(↑x15:Int))∧(rowG t m f x9 x11 (passG t m f x9 x7.1)=rowG t m f x9 x15 (passG t m f x9 x7.1))))))))))))))))))))))))) ((iSource_c2 t m f x9 x11 x7)∧(BrP (decide ((0:Int)≤(rowG t m f x9 x11 (passG t m f x9 x7.1)).getD (((List.getD t x9 []).getD ((↑x11:Int).toNat) (0:Int)).toNat) (0:Int))) ((inB (↑x11:Int) ((rowG t m f x9 x11 (passG t m f x9 x7.1)).length))∧(BrP (decide ((rowG t m f x9 x11 (passG t m f x9 x7.1)).getD ((↑x11:Int).toNat) (0:Int)<(0:Int))) ((iSource_c2 t m f x9 x11 x7)∧((inB (↑x9:Int) (f.length))∧((inB (↑x11:Int) ((f.getD ((↑x9:Int).toNat) []).length)) ∧
 ((InR ((rowG t m f x9 x11 (passG t m f x9 x7.1)).getD (((List.getD t x9 []).getD ((↑x11:Int).toNat) (0:Int)).toNat) (0:Int) - (List.getD f ((↑x9:Int).toNat) []).getD ((↑x11:Int).toNat) (0:Int)))∧((InR (iSource_c1 t m f x9 x11 x7))∧((m≠(0:Int))∧((inB (↑x11:Int) ((rowG t m f x9 x11 (passG t m f x9 x7.1)).length))∧((InR ((↑x11:Int)+(1:Int)))∧(∃x16:Nat,(((x16≤t.length)∧(x9<t.length))∧((t.length - x16<t.length - x11)∧((t=t)∧((m=m)∧((f=f)∧(((↑(t.length):Int)=(↑(t.length):Int))∧(((↑x4:Int)=(↑x4:Int))∧(((↑x4:Int)=(↑x4:Int))∧((true=decide (negs (rowG t m f x9 x16 (passG t m f x9 x7.1))<negs x7.1))∧((t=t)∧(((↑(t.length):Int)=(↑(t.length):Int))∧(((↑x9:Int)=(↑x9:Int))∧(((↑x9:Int)=(↑x9:Int))∧((t.getD x9 []=t.getD x9 [])∧((t.getD x9 []=t.getD x9 [])∧(((↑(t.length):Int)=(↑(t.length):Int))∧(((↑x11:Int)+(1:Int)=(↑x16:Int))∧(List.set (rowG t m f x9 x11 (passG t m f x9 x7.1)) ((↑x11:Int).toNat) (Int.tmod (iSource_c1 t m f x9 x11 x7) m)=rowG t m f x9 x16 (passG t m f x9 x7.1)))))))))))))))))))))))))))) ((InR ((↑x11:Int)+(1:Int)))∧(∃x17:Nat,(((x17≤t.length)∧(x9<t.length))∧((t.length - x17<t.length - x11)∧((t=t)∧((m=m)∧((f=f)∧(((↑(t.length):Int)=(↑(t.length):Int))∧(((↑x4:Int)=(↑x4:Int))∧(((↑x4:Int)=(↑x4:Int))∧((decide (negs (rowG t m f x9 x11 (passG t m f x9 x7.1))<negs x7.1)=decide (negs (rowG t m f x9 x17 (passG t m f x9 x7.1))<negs x7.1))∧((t=t)∧(((↑(t.length):Int)=(↑(t.length):Int))∧(((↑x9:Int)=(↑x9:Int)) ∧
 (((↑x9:Int)=(↑x9:Int))∧((t.getD x9 []=t.getD x9 [])∧((t.getD x9 []=t.getD x9 [])∧(((↑(t.length):Int)=(↑(t.length):Int))∧(((↑x11:Int)+(1:Int)=(↑x17:Int))∧(rowG t m f x9 x11 (passG t m f x9 x7.1)=rowG t m f x9 x17 (passG t m f x9 x7.1))))))))))))))))))))))) ((InR ((↑x11:Int)+(1:Int)))∧(∃x18:Nat,(((x18≤t.length)∧(x9<t.length))∧((t.length - x18<t.length - x11)∧((t=t)∧((m=m)∧((f=f)∧(((↑(t.length):Int)=(↑(t.length):Int))∧(((↑x4:Int)=(↑x4:Int))∧(((↑x4:Int)=(↑x4:Int))∧((decide (negs (rowG t m f x9 x11 (passG t m f x9 x7.1))<negs x7.1)=decide (negs (rowG t m f x9 x18 (passG t m f x9 x7.1))<negs x7.1))∧((t=t)∧(((↑(t.length):Int)=(↑(t.length):Int))∧(((↑x9:Int)=(↑x9:Int))∧(((↑x9:Int)=(↑x9:Int))∧((t.getD x9 []=t.getD x9 [])∧((t.getD x9 []=t.getD x9 [])∧(((↑(t.length):Int)=(↑(t.length):Int))∧(((↑x11:Int)+(1:Int)=(↑x18:Int))∧(rowG t m f x9 x11 (passG t m f x9 x7.1)=rowG t m f x9 x18 (passG t m f x9 x7.1)))))))))))))))))))))))))) ((InR ((↑x9:Int)+(1:Int)))∧(∃x19:Nat,(((x19≤t.length)∧(x7.2=true))∧((t.length - x19<t.length - x9)∧((t=t)∧((m=m)∧((f=f)∧(((↑(t.length):Int)=(↑(t.length):Int))∧(((↑x4:Int)=(↑x4:Int))∧(((↑x4:Int)=(↑x4:Int))∧((decide (negs (rowG t m f x9 x11 (passG t m f x9 x7.1))<negs x7.1)=decide (negs (passG t m f x19 x7.1)<negs x7.1))∧((t=t)∧(((↑(t.length):Int)=(↑(t.length):Int))∧(((↑x9:Int)+(1:Int)=(↑x19:Int)) ∧
 (rowG t m f x9 x11 (passG t m f x9 x7.1)=passG t m f x19 x7.1)))))))))))))))))))) (∃x20:List Int×Bool,(((x4<t.length)∧(((srcN t m f x4).getD x4 (0:Int)<(0:Int))∧((Good t m f (x20.1))∧((growF t m f (List.set (srcN t m f x4) x4 (0:Int))=growF t m f (x20.1))∧(x20.2=false→growF t m f (x20.1)=x20.1)))))∧((((2:Nat) * negs (x20.1)+bif x20.2 then (1:Nat) else (0:Nat))<(2:Nat) * negs (x7.1)+bif x7.2 then (1:Nat) else (0:Nat))∧((t=t)∧((m=m)∧((f=f)∧(((↑(t.length):Int)=(↑(t.length):Int))∧(((↑x4:Int)=(↑x4:Int))∧(((↑x4:Int)=(↑x4:Int))∧((decide (negs (passG t m f x9 x7.1)<negs x7.1)=x20.2)∧(passG t m f x9 x7.1=x20.1))))))))))))))) ((InR ((↑x4:Int)+(1:Int)))∧(∃x21:Nat,(((x21≤t.length)∧(Good t m f (srcN t m f x21)))∧((t.length - x21<t.length - x4)∧((t=t)∧((m=m)∧((f=f)∧(((↑(t.length):Int)=(↑(t.length):Int))∧(((↑x4:Int)+(1:Int)=(↑x21:Int))∧(x7.1=srcN t m f x21))))))))))))))))) ((srcN t m f x4=srcN t m f (t.length))∧True))))))))))
theorem iSource_vc (t:List (List Int)) (m:Int) (f:List (List Int)):runF Tryz.prog (gam iSource_G) noWr (iSource_ann t m f) Tryz.f68 (bodyOf Tryz.f68) [] [.c (.rows .i64 (t)),.c (.int .i64 (m)),.c (.rows .i64 (f))] (iSource_p t m f)=iSource_V t m f:=by kernel_rfl
theorem iSource_ok (t:List (List Int)) (m:Int) (f:List (List Int)) (hpre:(iSource_p t m f).pre):iSource_V t m f:=by
 simp only [iSource_p,iSource_V,iSource_c1,iSource_c2,BrP_iff,u1,u2,u3,u4,u5,u6,u7,u8,u9,v1,v2,v3,v4,v5,v6,v7,v8,v9,w1,w2,w3,w4,markL_length,inB,InR,room,bdsOk] at hpre ⊢
 obtain ⟨h1,h2⟩:=hpre
 obtain ⟨n1,n2,ht⟩:=tabB_of h1
 obtain ⟨m1,m2,m3,hf⟩:=matB_of h2
 refine ⟨by omega,⟨0,by omega,rfl,by simp⟩,fun i hi=>⟨fun h=>⟨by omega,by omega,i+1,by omega,by omega,by omega,?_⟩,fun h=>⟨⟨0,⟨by omega,srcN_good h1 h2 0⟩,by omega,rfl,?_⟩,fun s hs=>⟨fun h3=>?_,fun h3=>?_⟩⟩⟩⟩
 ·have e:List.replicate (t.length - i) (0:Int)=0::List.replicate (t.length - (i+1)) 0:=by rw [show t.length - i=(t.length - (i+1))+1 by omega];rfl
  rw [e,at_set _ _ _ _ _ (by simp),List.replicate_succ',List.append_assoc];rfl
 ·rw [show t.length - i=0 by omega,show i=t.length by omega];simp [srcN]
 ·obtain ⟨hs,hg⟩:=hs
  have hl:=hg.len
  have e1:srcN t m f (s+1)=if 0≤(srcN t m f s).getD s 0 then srcN t m f s else growF t m f ((srcN t m f s).set s 0):=rfl
  refine ⟨by omega,fun h4=>⟨by omega,s+1,⟨by omega,by rw [e1,if_pos h4];exact hg⟩,by omega,by omega,by rw [e1,if_pos h4]⟩,fun h4=>⟨by omega,?_,fun x ⟨hx0,hx1,hx2,hx3,hx4⟩=>⟨fun h5=>?_,fun h5=>?_⟩⟩⟩
  ·exact ⟨((srcN t m f s).set s 0,true),⟨by omega,by omega,set0_good hg s,rfl,fun h=>by cases h⟩,rfl,rfl⟩
  ·obtain ⟨g,gr⟩:=x
   dsimp only at hx0 hx1 hx2 hx3 hx4 h5 ⊢
   refine ⟨⟨0,⟨by omega,h5⟩,by simp [passG],rfl,rfl⟩,fun i hi=>⟨fun h6=>?_,fun h6=>?_⟩⟩
   ·refine ⟨by omega,⟨0,by omega,rfl,by have:=(ht i (by omega)).1;omega,rfl,rfl⟩,fun j hj=>⟨fun h7=>?_,fun h7=>?_⟩⟩
    ·have hP:=passG_good hx2 i (by omega)
     have hR:=rowG_good hP.1 i (by omega) j (by omega)
     have hL:=hP.2.trans hR.2
     have st:=rowG_step t m f i j (passG t m f i g)
     generalize rowG t m f i j (passG t m f i g)=G at hR hL st ⊢
     have hG:=hR.1
     have gl:=hG.len
     have tr:=ht i (by omega)
     have tv:=tr.2 j (by omega)
     have fr:=hf i (by omega)
     have fv:=fr.2 j (by omega)
     have vy:=hG.val j (by omega)
     have vz:=hG.val ((t.getD i []).getD j 0).toNat (by omega)
     have ee:en t i j=(t.getD i []).getD j 0:=rfl
     have ef:en f i j=(f.getD i []).getD j 0:=rfl
     have same:sg t m f G i j=G→∃x12,(x12≤t.length∧i<t.length)∧t.length - x12<t.length - j∧decide (negs G<negs g)=decide (negs (rowG t m f i x12 (passG t m f i g))<negs g)∧(j:Int)+1=(x12:Int)∧G=rowG t m f i x12 (passG t m f i g):=fun h=>⟨j+1,by omega,by omega,by rw [st,h],by omega,by rw [st,h]⟩
     have grow:negs (sg t m f G i j)+1=negs G→true=decide (negs (rowG t m f i (j+1) (passG t m f i g))<negs g):=fun h=>by
      rw [st]
      rcases hL with rfl | hL
      ·exact (decide_eq_true (by omega)).symm
      ·exact (decide_eq_true (by omega)).symm
     have neg:=sg_negs h1 h2 hG.val gl i j (by omega) (by omega)
     refine ⟨by omega,by omega,fun h8=>⟨by omega,fun h9=>?_,fun h9=>⟨by omega,fun h10=>⟨by omega,fun h11=>by omega,fun h11=>⟨by omega,same ?_⟩⟩,fun h10=>⟨by omega,same ?_⟩⟩⟩,fun h8=>⟨by omega,fun h9=>⟨by omega,fun h10=>?_,fun h10=>⟨by omega,same ?_⟩⟩,fun h9=>⟨by omega,same ?_⟩⟩⟩
     ·have e:sg t m f G i j=G.set ((t.getD i []).getD j 0).toNat ((G.getD j 0+(f.getD i []).getD j 0).tmod m):=by
       simp only [sg,ee,ef];rw [if_pos ⟨h8,h9⟩]
      have n:negs (sg t m f G i j)+1=negs G:=by
       rw [e];exact negs_set (by omega) h9 (tmod_in (by omega) m1).1
      exact ⟨by omega,by omega,by omega,by omega,by omega,by omega,by omega,j+1,by omega,by omega,grow n,by omega,by rw [st,e]⟩
     ·simp only [sg,ee,ef];rw [if_neg (by omega),if_neg (by omega)]
     ·simp only [sg,ee,ef];rw [if_neg (by omega),if_neg (by omega)]
     ·have e:sg t m f G i j=G.set j ((G.getD ((t.getD i []).getD j 0).toNat 0 - (f.getD i []).getD j 0+m).tmod m):=by
       simp only [sg,ee,ef];rw [if_neg (by omega),if_pos ⟨h9,h10⟩]
      have n:negs (sg t m f G i j)+1=negs G:=by
       rw [e];exact negs_set (by omega) h10 (tmod_in (by omega) m1).1
      exact ⟨by omega,by omega,by omega,by omega,by omega,by omega,by omega,by omega,j+1,by omega,by omega,grow n,by omega,by rw [st,e]⟩
     ·simp only [sg,ee,ef];rw [if_neg (by omega),if_neg (by omega)]
     ·simp only [sg,ee,ef];rw [if_neg (by omega),if_neg (by omega)]
    ·exact ⟨by omega,i+1,⟨by omega,h5⟩,by omega,by rw [passG_step,show j=t.length by omega],by omega,by rw [passG_step,show j=t.length by omega]⟩
   ·obtain ⟨p1,p2,p3,p4⟩:=pass_next hx2
    have ei:i=t.length:=by omega
    subst h5
    rw [ei]
    exact ⟨(passG t m f t.length g,decide (negs (passG t m f t.length g)<negs g)),⟨by omega,hx1,p1,by rw [hx3,p2],p3⟩,by simpa using p4,rfl,rfl⟩
  ·obtain ⟨g,gr⟩:=x
   dsimp only at hx0 hx1 hx2 hx3 hx4 h5 ⊢
   have e:srcN t m f (s+1)=g:=by rw [e1,if_neg h4,hx3,hx4 (by simpa using h5)]
   exact ⟨by omega,s+1,⟨by omega,by rw [e];exact hx2⟩,by omega,by omega,by rw [e]⟩
 ·rw [show s=t.length by omega]
theorem iSource_fits:Fits Tryz.prog 68 ⟨[],iSource_ct⟩:=by
 refine ffn (Γ:=gam iSource_G) gok_nil Tryz.func68 fun ds p h hp=>?_
 unfold iSource_ct at h
 split at h
 ·cases h
  exact ⟨noWr,iSource_ann _ _ _ ,by rw [iSource_vc];exact iSource_ok _ _ _  hp⟩
 ·cases h
end Go.Sx
