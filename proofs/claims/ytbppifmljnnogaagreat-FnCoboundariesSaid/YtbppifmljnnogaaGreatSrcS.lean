/- SrcS -/
import Derived.Test.YtbppifmljnnogaaGreatSrcI
import Derived.Test.YtbppifmljnnogaaGreatOwn2
open Go Go.Proofs
namespace Go.Sx
set_option linter.unusedSimpArgs false
set_option linter.unusedVariables false
def lsC (t:List (List Int)) (m:Int) (f:List (List Int)) (g:List Int):List Int×Bool:=if growKF t m f g=true then (growF t m f g,true) else ([],false)
theorem lsC_no {t:List (List Int)} {m:Int} {f:List (List Int)} {g:List Int} (h:growKF t m f g=false):[]=(lsC t m f g).1∧false=(lsC t m f g).2:=by simp [lsC,h]
theorem lsC_yes {t:List (List Int)} {m:Int} {f:List (List Int)} {g h:List Int} (e:growKF t m f g=true) (k:growF t m f g=h):h=(lsC t m f g).1∧true=(lsC t m f g).2:=by simp [lsC,e,k]
theorem passK_next {t:List (List Int)} {m:Int} {f:List (List Int)} {g:List Int} (h:Good t m f g) (k:passK t m f t.length g=true) :
  growKF t m f g=growKF t m f (passG t m f t.length g)∧(decide (negs (passG t m f t.length g)<negs g)=false→growKF t m f (passG t m f t.length g)=true):=by
 obtain ⟨a,b⟩:=passG_good h t.length (Nat.le_refl _)
 have e:=growKF_step h
 rw [k,Bool.true_and] at e
 refine ⟨?_,fun hd=>?_⟩
 ·by_cases h1:passG t m f t.length g=g
  ·rw [h1]
  ·rw [e,if_neg h1]
 ·have h1:passG t m f t.length g=g:=b.resolve_right (by simpa using hd)
  rw [h1,e,if_pos h1]
theorem growKF_bad {t:List (List Int)} {m:Int} {f:List (List Int)} {g:List Int} (h:Good t m f g) (k:passK t m f t.length g=false):growKF t m f g=false:=by
 rw [growKF_step h,k,Bool.false_and]
def l14Source_p (t:List (List Int)) (m:Int) (f:List (List Int)) (g:List Int):Post:=⟨Good t m f g,.tup [.inl (.ints 2 .i64 ((lsC t m f g).1)),.inl (.bool ((lsC t m f g).2))],[]⟩
def l14Source_ct:List AD→Option Post
 | [.c (.rows .i64 (t)),.c (.int .i64 (m)),.c (.rows .i64 (f)),.c (.ints .i64 (g))]=>some (l14Source_p t m f g)
 | _=>none
def l14Source_ann (t:List (List Int)) (m:Int) (f:List (List Int)) (g:List Int):Nat→Option Ann
 | 0=>some (Ann.mk ((List Int)×(Bool)) (fun x=>match x with | (h,gr)=>⟨[(0,.c (.ro (.rows .i64 (t)))),(1,.c (.int .i64 (m))),(2,.c (.ro (.rows .i64 (f)))),(10,.c (.own (16))),(11,.c (.bool (gr)))],[(16,some (.ints 2 .i64 (h)))]⟩) (fun x=>match x with | (h,gr)=>Good t m f h∧growF t m f g=growF t m f h∧growKF t m f g=growKF t m f h∧(gr=false→growF t m f h=h∧growKF t m f h=true)) (fun x=>match x with | (h,gr)=>2 * negs h+(bif gr then 1 else 0)) (fun x=>match x with | (h,gr)=>fun b_=>match b_ with | 2=>some (Ann.mk ((Nat)) (fun i=>⟨[(0,.c (.ro (.rows .i64 (t)))),(1,.c (.int .i64 (m))),(2,.c (.ro (.rows .i64 (f)))),(10,.c (.own (16))),(11,.c (.bool (decide (negs (passG t m f i h)<negs h)))),(12,.c (.int .i64 ((i:Int))))],[(16,some (.ints 2 .i64 (passG t m f i h)))]⟩) (fun i=>i≤t.length∧gr=true∧passK t m f i h=true) (fun i=>t.length - i) (fun i=>fun b_=>match b_ with | 4=>some (Ann.mk ((Nat)) (fun j=>⟨[(0,.c (.ro (.rows .i64 (t)))),(1,.c (.int .i64 (m))),(2,.c (.ro (.rows .i64 (f)))),(10,.c (.own (16))),(11,.c (.bool (decide (negs (rowG t m f i j (passG t m f i h))<negs h)))),(12,.c (.int .i64 ((i:Int)))),(13,.c (.int .i64 ((j:Int))))],[(16,some (.ints 2 .i64 (rowG t m f i j (passG t m f i h))))]⟩) (fun j=>j≤t.length∧i<t.length∧rowK t m f i j (passG t m f i h)=true) (fun j=>t.length - j) (fun _=>noAnn)) | _=>none)) | _=>none))
 | _=>none
def l14Source_G:List (Nat×Ctr):=[(117,⟨[],l01Own_ct⟩)]
def l14Source_c1 (t:List (List Int)) (m:Int) (f:List (List Int)) (x0:Nat) (x1:Nat) (x2:List Int×Bool):=(inB ((List.getD t ((↑x0:Int).toNat) []).getD ((↑x1:Int).toNat) (0:Int)) ((rowG t m f x0 x1 (passG t m f x0 x2.1)).length))
def l14Source_c2 (t:List (List Int)) (m:Int) (f:List (List Int)) (x0:Nat) (x1:Nat) (x2:List Int×Bool):=((rowG t m f x0 x1 (passG t m f x0 x2.1)).getD ((↑x1:Int).toNat) (0:Int)+(List.getD f ((↑x0:Int).toNat) []).getD ((↑x1:Int).toNat) (0:Int))
def l14Source_c3 (t:List (List Int)) (m:Int) (f:List (List Int)) (x0:Nat) (x1:Nat) (x2:List Int×Bool):=((rowG t m f x0 x1 (passG t m f x0 x2.1)).getD (((List.getD t ((↑x0:Int).toNat) []).getD ((↑x1:Int).toNat) (0:Int)).toNat) (0:Int) - (List.getD f ((↑x0:Int).toNat) []).getD ((↑x1:Int).toNat) (0:Int)+m)
def l14Source_c4 (t:List (List Int)) (m:Int) (f:List (List Int)) (x0:Nat) (x1:Nat) (x2:List Int×Bool):=(inB (↑x0:Int) ((rowG t m f x1 x0 (passG t m f x1 x2.1)).length))
def l14Source_V (t:List (List Int)) (m:Int) (f:List (List Int)) (g:List Int):Prop :=
 (((room (g.length))∧True)∧((∃x0:List Int×Bool,(((Good t m f (x0.1))∧((growF t m f g=growF t m f (x0.1))∧((growKF t m f g=growKF t m f (x0.1))∧(x0.2=false→growF t m f (x0.1)=x0.1∧growKF t m f (x0.1)=true))))∧((t=t)∧((m=m)∧((f=f)∧((true=x0.2)∧(g=x0.1)))))))∧(∀x1:List Int×Bool,(((Good t m f (x1.1))∧((growF t m f g=growF t m f (x1.1))∧((growKF t m f g=growKF t m f (x1.1))∧(x1.2=false→growF t m f (x1.1)=x1.1∧growKF t m f (x1.1)=true))))→(BrP (x1.2) ((∃x2:Nat,(((x2≤t.length)∧((x1.2=true)∧(passK t m f x2 x1.1=true)))∧((t=t)∧((m=m)∧((f=f)∧((false=decide (negs (passG t m f x2 x1.1)<negs x1.1))∧(((0:Int)=(↑x2:Int))∧(x1.1=passG t m f x2 x1.1))))))))∧(∀x3:Nat,(((x3≤t.length)∧((x1.2=true)∧(passK t m f x3 x1.1=true)))→(BrP (decide ((↑x3:Int)<(↑(t.length):Int))) ((∃x4:Nat,(((x4≤t.length)∧((x3<t.length)∧(rowK t m f x3 x4 (passG t m f x3 x1.1)=true)))∧((t=t)∧((m=m)∧((f=f)∧((decide (negs (passG t m f x3 x1.1)<negs x1.1)=decide (negs (rowG t m f x3 x4 (passG t m f x3 x1.1))<negs x1.1))∧(((↑x3:Int)=(↑x3:Int))∧(((0:Int)=(↑x4:Int))∧(passG t m f x3 x1.1=rowG t m f x3 x4 (passG t m f x3 x1.1))))))))))∧(∀x5:Nat,(((x5≤t.length)∧((x3<t.length)∧(rowK t m f x3 x5 (passG t m f x3 x1.1)=true)))→(BrP (decide ((↑x5:Int)<(↑(t.length):Int))) ((inB (↑x3:Int) (t.length))∧((inB (↑x5:Int) ((t.getD ((↑x3:Int).toNat) []).length))∧((l14Source_c4 t m f x5 x3 x1) ∧
 (BrP (decide ((0:Int)≤(rowG t m f x3 x5 (passG t m f x3 x1.1)).getD ((↑x5:Int).toNat) (0:Int))) ((l14Source_c1 t m f x3 x5 x1)∧(BrP (decide ((rowG t m f x3 x5 (passG t m f x3 x1.1)).getD (((List.getD t ((↑x3:Int).toNat) []).getD ((↑x5:Int).toNat) (0:Int)).toNat) (0:Int)<(0:Int))) ((l14Source_c4 t m f x5 x3 x1)∧((inB (↑x3:Int) (f.length))∧((inB (↑x5:Int) ((f.getD ((↑x3:Int).toNat) []).length))∧((InR (l14Source_c2 t m f x3 x5 x1))∧((m≠(0:Int))∧((l14Source_c1 t m f x3 x5 x1)∧((InR ((↑x5:Int)+(1:Int)))∧(∃x6:Nat,(((x6≤t.length)∧((x3<t.length)∧(rowK t m f x3 x6 (passG t m f x3 x1.1)=true)))∧((t.length - x6<t.length - x5)∧((t=t)∧((m=m)∧((f=f)∧((true=decide (negs (rowG t m f x3 x6 (passG t m f x3 x1.1))<negs x1.1))∧(((↑x3:Int)=(↑x3:Int))∧(((↑x5:Int)+(1:Int)=(↑x6:Int))∧(List.set (rowG t m f x3 x5 (passG t m f x3 x1.1)) (((List.getD t ((↑x3:Int).toNat) []).getD ((↑x5:Int).toNat) (0:Int)).toNat) (Int.tmod (l14Source_c2 t m f x3 x5 x1) m)=rowG t m f x3 x6 (passG t m f x3 x1.1)))))))))))))))))) ((l14Source_c4 t m f x5 x3 x1)∧(BrP (decide ((rowG t m f x3 x5 (passG t m f x3 x1.1)).getD ((↑x5:Int).toNat) (0:Int)<(0:Int))) ((l14Source_c1 t m f x3 x5 x1)∧(BrP (decide ((0:Int)≤(rowG t m f x3 x5 (passG t m f x3 x1.1)).getD (((List.getD t ((↑x3:Int).toNat) []).getD ((↑x5:Int).toNat) (0:Int)).toNat) (0:Int))) ((l14Source_c1 t m f x3 x5 x1)∧((inB (↑x3:Int) (f.length))∧((inB (↑x5:Int) ((f.getD ((↑x3:Int).toNat) []).length)) ∧
 ((InR ((rowG t m f x3 x5 (passG t m f x3 x1.1)).getD (((List.getD t ((↑x3:Int).toNat) []).getD ((↑x5:Int).toNat) (0:Int)).toNat) (0:Int) - (List.getD f ((↑x3:Int).toNat) []).getD ((↑x5:Int).toNat) (0:Int)))∧((InR (l14Source_c3 t m f x3 x5 x1))∧((m≠(0:Int))∧((l14Source_c4 t m f x5 x3 x1)∧((InR ((↑x5:Int)+(1:Int)))∧(∃x7:Nat,(((x7≤t.length)∧((x3<t.length)∧(rowK t m f x3 x7 (passG t m f x3 x1.1)=true)))∧((t.length - x7<t.length - x5)∧((t=t)∧((m=m)∧((f=f)∧((true=decide (negs (rowG t m f x3 x7 (passG t m f x3 x1.1))<negs x1.1))∧(((↑x3:Int)=(↑x3:Int))∧(((↑x5:Int)+(1:Int)=(↑x7:Int))∧(List.set (rowG t m f x3 x5 (passG t m f x3 x1.1)) ((↑x5:Int).toNat) (Int.tmod (l14Source_c3 t m f x3 x5 x1) m)=rowG t m f x3 x7 (passG t m f x3 x1.1))))))))))))))))))) ((l14Source_c4 t m f x5 x3 x1)∧(BrP (decide ((0:Int)≤(rowG t m f x3 x5 (passG t m f x3 x1.1)).getD ((↑x5:Int).toNat) (0:Int))) ((l14Source_c1 t m f x3 x5 x1)∧(BrP (decide ((0:Int)≤(rowG t m f x3 x5 (passG t m f x3 x1.1)).getD (((List.getD t ((↑x3:Int).toNat) []).getD ((↑x5:Int).toNat) (0:Int)).toNat) (0:Int))) ((l14Source_c4 t m f x5 x3 x1)∧((inB (↑x3:Int) (f.length))∧((inB (↑x5:Int) ((f.getD ((↑x3:Int).toNat) []).length))∧((InR (l14Source_c2 t m f x3 x5 x1))∧((m≠(0:Int))∧((l14Source_c1 t m f x3 x5 x1) ∧
 (BrP (Int.tmod ((rowG t m f x3 x5 (passG t m f x3 x1.1)).getD ((↑x5:Int).toNat) (0:Int)+(List.getD f ((↑x3:Int).toNat) []).getD ((↑x5:Int).toNat) (0:Int)) m != (rowG t m f x3 x5 (passG t m f x3 x1.1)).getD (((List.getD t ((↑x3:Int).toNat) []).getD ((↑x5:Int).toNat) (0:Int)).toNat) (0:Int)) ((([]=(lsC t m f g).1)∧((false=(lsC t m f g).2)∧True))∧True) ((InR ((↑x5:Int)+(1:Int)))∧(∃x8:Nat,(((x8≤t.length)∧((x3<t.length)∧(rowK t m f x3 x8 (passG t m f x3 x1.1)=true)))∧((t.length - x8<t.length - x5)∧((t=t)∧((m=m)∧((f=f)∧((decide (negs (rowG t m f x3 x5 (passG t m f x3 x1.1))<negs x1.1)=decide (negs (rowG t m f x3 x8 (passG t m f x3 x1.1))<negs x1.1))∧(((↑x3:Int)=(↑x3:Int))∧(((↑x5:Int)+(1:Int)=(↑x8:Int))∧(rowG t m f x3 x5 (passG t m f x3 x1.1)=rowG t m f x3 x8 (passG t m f x3 x1.1))))))))))))))))))) ((InR ((↑x5:Int)+(1:Int)))∧(∃x9:Nat,(((x9≤t.length)∧((x3<t.length)∧(rowK t m f x3 x9 (passG t m f x3 x1.1)=true)))∧((t.length - x9<t.length - x5)∧((t=t)∧((m=m)∧((f=f)∧((decide (negs (rowG t m f x3 x5 (passG t m f x3 x1.1))<negs x1.1)=decide (negs (rowG t m f x3 x9 (passG t m f x3 x1.1))<negs x1.1))∧(((↑x3:Int)=(↑x3:Int))∧(((↑x5:Int)+(1:Int)=(↑x9:Int))∧(rowG t m f x3 x5 (passG t m f x3 x1.1)=rowG t m f x3 x9 (passG t m f x3 x1.1)))))))))))))) ((InR ((↑x5:Int)+(1:Int)))∧(∃x10:Nat,(((x10≤t.length)∧((x3<t.length)∧(rowK t m f x3 x10 (passG t m f x3 x1.1)=true)))∧((t.length - x10<t.length - x5)∧((t=t) ∧
 ((m=m)∧((f=f)∧((decide (negs (rowG t m f x3 x5 (passG t m f x3 x1.1))<negs x1.1)=decide (negs (rowG t m f x3 x10 (passG t m f x3 x1.1))<negs x1.1))∧(((↑x3:Int)=(↑x3:Int))∧(((↑x5:Int)+(1:Int)=(↑x10:Int))∧(rowG t m f x3 x5 (passG t m f x3 x1.1)=rowG t m f x3 x10 (passG t m f x3 x1.1)))))))))))))))) ((l14Source_c4 t m f x5 x3 x1)∧(BrP (decide ((0:Int)≤(rowG t m f x3 x5 (passG t m f x3 x1.1)).getD ((↑x5:Int).toNat) (0:Int))) ((l14Source_c1 t m f x3 x5 x1)∧(BrP (decide ((0:Int)≤(rowG t m f x3 x5 (passG t m f x3 x1.1)).getD (((List.getD t ((↑x3:Int).toNat) []).getD ((↑x5:Int).toNat) (0:Int)).toNat) (0:Int))) ((l14Source_c4 t m f x5 x3 x1)∧((inB (↑x3:Int) (f.length))∧((inB (↑x5:Int) ((f.getD ((↑x3:Int).toNat) []).length))∧((InR (l14Source_c2 t m f x3 x5 x1))∧((m≠(0:Int))∧((l14Source_c1 t m f x3 x5 x1)∧(BrP (Int.tmod ((rowG t m f x3 x5 (passG t m f x3 x1.1)).getD ((↑x5:Int).toNat) (0:Int)+(List.getD f ((↑x3:Int).toNat) []).getD ((↑x5:Int).toNat) (0:Int)) m != (rowG t m f x3 x5 (passG t m f x3 x1.1)).getD (((List.getD t ((↑x3:Int).toNat) []).getD ((↑x5:Int).toNat) (0:Int)).toNat) (0:Int)) ((([]=(lsC t m f g).1)∧((false=(lsC t m f g).2)∧True))∧True) ((InR ((↑x5:Int)+(1:Int)))∧(∃x11:Nat,(((x11≤t.length)∧((x3<t.length)∧(rowK t m f x3 x11 (passG t m f x3 x1.1)=true)))∧((t.length - x11<t.length - x5)∧((t=t)∧((m=m)∧((f=f) ∧
 ((decide (negs (rowG t m f x3 x5 (passG t m f x3 x1.1))<negs x1.1)=decide (negs (rowG t m f x3 x11 (passG t m f x3 x1.1))<negs x1.1))∧(((↑x3:Int)=(↑x3:Int))∧(((↑x5:Int)+(1:Int)=(↑x11:Int))∧(rowG t m f x3 x5 (passG t m f x3 x1.1)=rowG t m f x3 x11 (passG t m f x3 x1.1))))))))))))))))))) ((InR ((↑x5:Int)+(1:Int)))∧(∃x12:Nat,(((x12≤t.length)∧((x3<t.length)∧(rowK t m f x3 x12 (passG t m f x3 x1.1)=true)))∧((t.length - x12<t.length - x5)∧((t=t)∧((m=m)∧((f=f)∧((decide (negs (rowG t m f x3 x5 (passG t m f x3 x1.1))<negs x1.1)=decide (negs (rowG t m f x3 x12 (passG t m f x3 x1.1))<negs x1.1))∧(((↑x3:Int)=(↑x3:Int))∧(((↑x5:Int)+(1:Int)=(↑x12:Int))∧(rowG t m f x3 x5 (passG t m f x3 x1.1)=rowG t m f x3 x12 (passG t m f x3 x1.1)))))))))))))) ((InR ((↑x5:Int)+(1:Int)))∧(∃x13:Nat,(((x13≤t.length)∧((x3<t.length)∧(rowK t m f x3 x13 (passG t m f x3 x1.1)=true)))∧((t.length - x13<t.length - x5)∧((t=t)∧((m=m)∧((f=f)∧((decide (negs (rowG t m f x3 x5 (passG t m f x3 x1.1))<negs x1.1)=decide (negs (rowG t m f x3 x13 (passG t m f x3 x1.1))<negs x1.1))∧(((↑x3:Int)=(↑x3:Int))∧(((↑x5:Int)+(1:Int)=(↑x13:Int))∧(rowG t m f x3 x5 (passG t m f x3 x1.1)=rowG t m f x3 x13 (passG t m f x3 x1.1)))))))))))))))))) ((l14Source_c4 t m f x5 x3 x1)∧(BrP (decide ((rowG t m f x3 x5 (passG t m f x3 x1.1)).getD ((↑x5:Int).toNat) (0:Int)<(0:Int))) ((l14Source_c1 t m f x3 x5 x1) ∧
 (BrP (decide ((0:Int)≤(rowG t m f x3 x5 (passG t m f x3 x1.1)).getD (((List.getD t ((↑x3:Int).toNat) []).getD ((↑x5:Int).toNat) (0:Int)).toNat) (0:Int))) ((l14Source_c1 t m f x3 x5 x1)∧((inB (↑x3:Int) (f.length))∧((inB (↑x5:Int) ((f.getD ((↑x3:Int).toNat) []).length))∧((InR ((rowG t m f x3 x5 (passG t m f x3 x1.1)).getD (((List.getD t ((↑x3:Int).toNat) []).getD ((↑x5:Int).toNat) (0:Int)).toNat) (0:Int) - (List.getD f ((↑x3:Int).toNat) []).getD ((↑x5:Int).toNat) (0:Int)))∧((InR (l14Source_c3 t m f x3 x5 x1))∧((m≠(0:Int))∧((l14Source_c4 t m f x5 x3 x1)∧((InR ((↑x5:Int)+(1:Int)))∧(∃x14:Nat,(((x14≤t.length)∧((x3<t.length)∧(rowK t m f x3 x14 (passG t m f x3 x1.1)=true)))∧((t.length - x14<t.length - x5)∧((t=t)∧((m=m)∧((f=f)∧((true=decide (negs (rowG t m f x3 x14 (passG t m f x3 x1.1))<negs x1.1))∧(((↑x3:Int)=(↑x3:Int))∧(((↑x5:Int)+(1:Int)=(↑x14:Int))∧(List.set (rowG t m f x3 x5 (passG t m f x3 x1.1)) ((↑x5:Int).toNat) (Int.tmod (l14Source_c3 t m f x3 x5 x1) m)=rowG t m f x3 x14 (passG t m f x3 x1.1))))))))))))))))))) ((l14Source_c4 t m f x5 x3 x1)∧(BrP (decide ((0:Int)≤(rowG t m f x3 x5 (passG t m f x3 x1.1)).getD ((↑x5:Int).toNat) (0:Int))) ((l14Source_c1 t m f x3 x5 x1)∧(BrP (decide ((0:Int)≤(rowG t m f x3 x5 (passG t m f x3 x1.1)).getD (((List.getD t ((↑x3:Int).toNat) []).getD ((↑x5:Int).toNat) (0:Int)).toNat) (0:Int))) ((l14Source_c4 t m f x5 x3 x1)∧((inB (↑x3:Int) (f.length))∧((inB (↑x5:Int) ((f.getD ((↑x3:Int).toNat) []).length)) ∧
 ((InR (l14Source_c2 t m f x3 x5 x1))∧((m≠(0:Int))∧((l14Source_c1 t m f x3 x5 x1)∧(BrP (Int.tmod ((rowG t m f x3 x5 (passG t m f x3 x1.1)).getD ((↑x5:Int).toNat) (0:Int)+(List.getD f ((↑x3:Int).toNat) []).getD ((↑x5:Int).toNat) (0:Int)) m != (rowG t m f x3 x5 (passG t m f x3 x1.1)).getD (((List.getD t ((↑x3:Int).toNat) []).getD ((↑x5:Int).toNat) (0:Int)).toNat) (0:Int)) ((([]=(lsC t m f g).1)∧((false=(lsC t m f g).2)∧True))∧True) ((InR ((↑x5:Int)+(1:Int)))∧(∃x15:Nat,(((x15≤t.length)∧((x3<t.length)∧(rowK t m f x3 x15 (passG t m f x3 x1.1)=true)))∧((t.length - x15<t.length - x5)∧((t=t)∧((m=m)∧((f=f)∧((decide (negs (rowG t m f x3 x5 (passG t m f x3 x1.1))<negs x1.1)=decide (negs (rowG t m f x3 x15 (passG t m f x3 x1.1))<negs x1.1))∧(((↑x3:Int)=(↑x3:Int))∧(((↑x5:Int)+(1:Int)=(↑x15:Int))∧(rowG t m f x3 x5 (passG t m f x3 x1.1)=rowG t m f x3 x15 (passG t m f x3 x1.1))))))))))))))))))) ((InR ((↑x5:Int)+(1:Int)))∧(∃x16:Nat,(((x16≤t.length)∧((x3<t.length)∧(rowK t m f x3 x16 (passG t m f x3 x1.1)=true)))∧((t.length - x16<t.length - x5)∧((t=t)∧((m=m)∧((f=f)∧((decide (negs (rowG t m f x3 x5 (passG t m f x3 x1.1))<negs x1.1)=decide (negs (rowG t m f x3 x16 (passG t m f x3 x1.1))<negs x1.1))∧(((↑x3:Int)=(↑x3:Int))∧(((↑x5:Int)+(1:Int)=(↑x16:Int))∧(rowG t m f x3 x5 (passG t m f x3 x1.1)=rowG t m f x3 x16 (passG t m f x3 x1.1)))))))))))))) ((InR ((↑x5:Int)+(1:Int)))∧(∃x17:Nat,(((x17≤t.length) ∧
 ((x3<t.length)∧(rowK t m f x3 x17 (passG t m f x3 x1.1)=true)))∧((t.length - x17<t.length - x5)∧((t=t)∧((m=m)∧((f=f)∧((decide (negs (rowG t m f x3 x5 (passG t m f x3 x1.1))<negs x1.1)=decide (negs (rowG t m f x3 x17 (passG t m f x3 x1.1))<negs x1.1))∧(((↑x3:Int)=(↑x3:Int))∧(((↑x5:Int)+(1:Int)=(↑x17:Int))∧(rowG t m f x3 x5 (passG t m f x3 x1.1)=rowG t m f x3 x17 (passG t m f x3 x1.1)))))))))))))))) ((l14Source_c4 t m f x5 x3 x1)∧(BrP (decide ((0:Int)≤(rowG t m f x3 x5 (passG t m f x3 x1.1)).getD ((↑x5:Int).toNat) (0:Int))) ((l14Source_c1 t m f x3 x5 x1)∧(BrP (decide ((0:Int)≤(rowG t m f x3 x5 (passG t m f x3 x1.1)).getD (((List.getD t ((↑x3:Int).toNat) []).getD ((↑x5:Int).toNat) (0:Int)).toNat) (0:Int))) ((l14Source_c4 t m f x5 x3 x1)∧((inB (↑x3:Int) (f.length))∧((inB (↑x5:Int) ((f.getD ((↑x3:Int).toNat) []).length))∧((InR (l14Source_c2 t m f x3 x5 x1))∧((m≠(0:Int))∧((l14Source_c1 t m f x3 x5 x1)∧(BrP (Int.tmod ((rowG t m f x3 x5 (passG t m f x3 x1.1)).getD ((↑x5:Int).toNat) (0:Int)+(List.getD f ((↑x3:Int).toNat) []).getD ((↑x5:Int).toNat) (0:Int)) m != (rowG t m f x3 x5 (passG t m f x3 x1.1)).getD (((List.getD t ((↑x3:Int).toNat) []).getD ((↑x5:Int).toNat) (0:Int)).toNat) (0:Int)) ((([]=(lsC t m f g).1)∧((false=(lsC t m f g).2)∧True))∧True) ((InR ((↑x5:Int)+(1:Int)))∧(∃x18:Nat,(((x18≤t.length)∧((x3<t.length)∧(rowK t m f x3 x18 (passG t m f x3 x1.1)=true)))∧((t.length - x18<t.length - x5)∧((t=t)∧((m=m)∧((f=f) ∧
 ((decide (negs (rowG t m f x3 x5 (passG t m f x3 x1.1))<negs x1.1)=decide (negs (rowG t m f x3 x18 (passG t m f x3 x1.1))<negs x1.1))∧(((↑x3:Int)=(↑x3:Int))∧(((↑x5:Int)+(1:Int)=(↑x18:Int))∧(rowG t m f x3 x5 (passG t m f x3 x1.1)=rowG t m f x3 x18 (passG t m f x3 x1.1))))))))))))))))))) ((InR ((↑x5:Int)+(1:Int)))∧(∃x19:Nat,(((x19≤t.length)∧((x3<t.length)∧(rowK t m f x3 x19 (passG t m f x3 x1.1)=true)))∧((t.length - x19<t.length - x5)∧((t=t)∧((m=m)∧((f=f)∧((decide (negs (rowG t m f x3 x5 (passG t m f x3 x1.1))<negs x1.1)=decide (negs (rowG t m f x3 x19 (passG t m f x3 x1.1))<negs x1.1))∧(((↑x3:Int)=(↑x3:Int))∧(((↑x5:Int)+(1:Int)=(↑x19:Int))∧(rowG t m f x3 x5 (passG t m f x3 x1.1)=rowG t m f x3 x19 (passG t m f x3 x1.1)))))))))))))) ((InR ((↑x5:Int)+(1:Int)))∧(∃x20:Nat,(((x20≤t.length)∧((x3<t.length)∧(rowK t m f x3 x20 (passG t m f x3 x1.1)=true)))∧((t.length - x20<t.length - x5)∧((t=t)∧((m=m)∧((f=f)∧((decide (negs (rowG t m f x3 x5 (passG t m f x3 x1.1))<negs x1.1)=decide (negs (rowG t m f x3 x20 (passG t m f x3 x1.1))<negs x1.1))∧(((↑x3:Int)=(↑x3:Int))∧(((↑x5:Int)+(1:Int)=(↑x20:Int))∧(rowG t m f x3 x5 (passG t m f x3 x1.1)=rowG t m f x3 x20 (passG t m f x3 x1.1)))))))))))))))))))) ((InR ((↑x3:Int)+(1:Int)))∧(∃x21:Nat,(((x21≤t.length)∧((x1.2=true)∧(passK t m f x21 x1.1=true)))∧((t.length - x21<t.length - x3)∧((t=t)∧((m=m)∧((f=f) ∧
 ((decide (negs (rowG t m f x3 x5 (passG t m f x3 x1.1))<negs x1.1)=decide (negs (passG t m f x21 x1.1)<negs x1.1))∧(((↑x3:Int)+(1:Int)=(↑x21:Int))∧(rowG t m f x3 x5 (passG t m f x3 x1.1)=passG t m f x21 x1.1)))))))))))))) (∃x22:List Int×Bool,(((Good t m f (x22.1))∧((growF t m f g=growF t m f (x22.1))∧((growKF t m f g=growKF t m f (x22.1))∧(x22.2=false→growF t m f (x22.1)=x22.1∧growKF t m f (x22.1)=true))))∧((((2:Nat) * negs (x22.1)+bif x22.2 then (1:Nat) else (0:Nat))<(2:Nat) * negs (x1.1)+bif x1.2 then (1:Nat) else (0:Nat))∧((t=t)∧((m=m)∧((f=f)∧((decide (negs (passG t m f x3 x1.1)<negs x1.1)=x22.2)∧(passG t m f x3 x1.1=x22.1)))))))))))) (((x1.1=(lsC t m f g).1)∧((true=(lsC t m f g).2)∧True))∧True))))))
theorem l14Source_vc (t:List (List Int)) (m:Int) (f:List (List Int)) (g:List Int):runF Tryz.prog (gam l14Source_G) noWr (l14Source_ann t m f g) Tryz.f79 (bodyOf Tryz.f79) [] [.c (.rows .i64 (t)),.c (.int .i64 (m)),.c (.rows .i64 (f)),.c (.ints .i64 (g))] (l14Source_p t m f g)=l14Source_V t m f g:=by kernel_rfl
theorem l14Source_ok (t:List (List Int)) (m:Int) (f:List (List Int)) (g:List Int) (hpre:(l14Source_p t m f g).pre):l14Source_V t m f g:=by
 simp only [l14Source_p,l14Source_V,l14Source_c1,l14Source_c2,l14Source_c3,l14Source_c4,BrP_iff,u1,u2,u3,u4,u5,u6,u7,u8,u9,v1,v2,v3,v4,v5,v6,v7,v8,v9,w1,w2,w3,w4,markL_length,inB,InR,room,bdsOk] at hpre ⊢
 have h1:=hpre.tab
 have h2:=hpre.mat
 obtain ⟨n1,n2,ht⟩:=tabB_of h1
 obtain ⟨m1,m2,m3,hf⟩:=matB_of h2
 have gl0:=hpre.len
 refine ⟨?_,⟨(g,true),⟨hpre,rfl,rfl,fun h=>by cases h⟩,rfl,rfl⟩,fun x ⟨hx2,hx3,hx5,hx4⟩=>⟨fun h5=>?_,fun h5=>?_⟩⟩
 ·omega
 ·obtain ⟨g',gr⟩:=x
  dsimp only at hx2 hx3 hx4 hx5 h5 ⊢
  refine ⟨⟨0,⟨by omega,h5,rfl⟩,by simp [passG],rfl,rfl⟩,fun i ⟨hi,_,hik⟩=>⟨fun h6=>?_,fun h6=>?_⟩⟩
  ·refine ⟨⟨0,⟨by omega,by omega,rfl⟩,rfl,rfl,rfl⟩,fun j ⟨hj,_,hjk⟩=>⟨fun h7=>?_,fun h7=>?_⟩⟩
   ·have hP:=passG_good hx2 i (by omega)
    have hR:=rowG_good hP.1 i (by omega) j (by omega)
    have hL:=hP.2.trans hR.2
    have st:=rowG_step t m f i j (passG t m f i g')
    have sk:=rowK_step t m f i j (passG t m f i g')
    have bad:lkB t m f (rowG t m f i j (passG t m f i g')) i j=true→growKF t m f g=false:=fun h=>by
     rw [hx5];exact growKF_bad hx2 (passK_bad (by omega) (rowK_bad (by omega) h))
    generalize rowG t m f i j (passG t m f i g')=G at hR hL st sk bad ⊢
    have hG:=hR.1
    have gl:=hG.len
    have tr:=ht i (by omega)
    have tv:=tr.2 j (by omega)
    have fr:=hf i (by omega)
    have fv:=fr.2 j (by omega)
    have vy:=hG.val j (by omega)
    have vz:=hG.val ((t.getD i []).getD j 0).toNat (by omega)
    have ee:en t i j=(t.getD i []).getD j 0:=rfl
    have ef:en f i j=(f.getD i []).getD j 0:=rfl
    have keep:sg t m f G i j=G→lkB t m f G i j=false→∃x8,(x8≤t.length∧i<t.length∧rowK t m f i x8 (passG t m f i g')=true)∧t.length - x8<t.length - j∧decide (negs G<negs g')=decide (negs (rowG t m f i x8 (passG t m f i g'))<negs g')∧(j:Int)+1=(x8:Int)∧G=rowG t m f i x8 (passG t m f i g'):=fun h k=>⟨j+1,⟨by omega,by omega,by rw [sk,hjk,k];rfl⟩,by omega,by rw [st,h],by omega,by rw [st,h]⟩
    have grow:∀W,sg t m f G i j=W→lkB t m f G i j=false→negs W+1=negs G→∃x6,(x6≤t.length∧i<t.length∧rowK t m f i x6 (passG t m f i g')=true)∧t.length - x6<t.length - j∧true=decide (negs (rowG t m f i x6 (passG t m f i g'))<negs g')∧(j:Int)+1=(x6:Int)∧W=rowG t m f i x6 (passG t m f i g'):=fun W h k n=>⟨j+1,⟨by omega,by omega,by rw [sk,hjk,k];rfl⟩,by omega,by
     rw [st,h]
     rcases hL with rfl | hL
     ·exact (decide_eq_true (by omega)).symm
     ·exact (decide_eq_true (by omega)).symm,by omega,by rw [st,h]⟩
    refine ⟨by omega,by omega,by omega,?_⟩
    by_cases hy:0≤G.getD j 0
    ·have ny:¬ G.getD j 0<0:=by omega
     by_cases hz:0≤G.getD ((t.getD i []).getD j 0).toNat 0
     ·have nz:¬ G.getD ((t.getD i []).getD j 0).toNat 0<0:=by omega
      simp only [hy,hz,ny,nz,not_true_eq_false,not_false_eq_true,forall_const,false_implies,and_true,true_and]
      have e:sg t m f G i j=G:=by simp only [sg,ee,ef];rw [if_neg (by omega),if_neg (by omega)]
      refine ⟨by omega,by omega,by omega,by omega,by omega,by omega,by omega,by omega,by omega,by omega,fun hb=>lsC_no (bad ?_),fun hb=>⟨by omega,keep e ?_⟩⟩
      ·simp only [lkB,ee,ef];exact decide_eq_true ⟨hy,hz,hb⟩
      ·simp only [lkB,ee,ef];exact decide_eq_false fun h=>h.2.2 hb
     ·have nz:G.getD ((t.getD i []).getD j 0).toNat 0<0:=by omega
      simp only [hy,hz,ny,nz,not_true_eq_false,not_false_eq_true,forall_const,false_implies,and_true,true_and]
      refine ⟨by omega,by omega,by omega,by omega,by omega,by omega,by omega,by omega,grow _ ?_ ?_ ?_⟩
      ·simp only [sg,ee,ef];rw [if_pos ⟨hy,nz⟩]
      ·simp only [lkB,ee,ef];exact decide_eq_false fun h=>hz h.2.1
      ·exact negs_set (by omega) nz (tmod_in (by omega) m1).1
    ·have ny:G.getD j 0<0:=by omega
     by_cases hz:0≤G.getD ((t.getD i []).getD j 0).toNat 0
     ·have nz:¬ G.getD ((t.getD i []).getD j 0).toNat 0<0:=by omega
      simp only [hy,hz,ny,nz,not_true_eq_false,not_false_eq_true,forall_const,false_implies,and_true,true_and]
      refine ⟨by omega,by omega,by omega,by omega,by omega,by omega,by omega,by omega,by omega,by omega,grow _ ?_ ?_ ?_⟩
      ·simp only [sg,ee,ef];rw [if_neg (by omega),if_pos ⟨hz,ny⟩]
      ·simp only [lkB,ee,ef];exact decide_eq_false fun h=>hy h.1
      ·exact negs_set (by omega) ny (tmod_in (by omega) m1).1
     ·have nz:G.getD ((t.getD i []).getD j 0).toNat 0<0:=by omega
      simp only [hy,hz,ny,nz,not_true_eq_false,not_false_eq_true,forall_const,false_implies,and_true,true_and]
      have e:sg t m f G i j=G:=by simp only [sg,ee,ef];rw [if_neg (by omega),if_neg (by omega)]
      refine ⟨by omega,by omega,by omega,by omega,keep e ?_⟩
      simp only [lkB,ee,ef];exact decide_eq_false fun h=>hy h.1
   ·exact ⟨by omega,i+1,⟨by omega,h5,by rw [passK_step,hik,show t.length=j by omega,hjk];rfl⟩,by omega,by rw [passG_step,show j=t.length by omega],by omega,by rw [passG_step,show j=t.length by omega]⟩
  ·obtain ⟨p1,p2,p3,p4⟩:=pass_next hx2
   have ei:i=t.length:=by omega
   rw [ei] at hik
   obtain ⟨q1,q2⟩:=passK_next hx2 hik
   subst h5
   rw [ei]
   exact ⟨(passG t m f t.length g',decide (negs (passG t m f t.length g')<negs g')),⟨p1,by rw [hx3,p2],by rw [hx5,q1],fun h=>⟨p3 h,q2 h⟩⟩,by simpa using p4,rfl,rfl⟩
 ·obtain ⟨g',gr⟩:=x
  dsimp only at hx2 hx3 hx4 hx5 h5 ⊢
  obtain ⟨a,b⟩:=hx4 (by simpa using h5)
  exact lsC_yes (by rw [hx5,b]) (by rw [hx3,a])
theorem l14Source_fits:Fits Tryz.prog 79 ⟨[],l14Source_ct⟩:=by
 refine ffn (Γ:=gam l14Source_G) (gok_cons l01Own_fits gok_nil) Tryz.func79 fun ds p h hp=>?_
 unfold l14Source_ct at h
 split at h
 ·cases h
  exact ⟨noWr,l14Source_ann _ _ _ _ ,by rw [l14Source_vc];exact l14Source_ok _ _ _ _  hp⟩
 ·cases h
end Go.Sx
