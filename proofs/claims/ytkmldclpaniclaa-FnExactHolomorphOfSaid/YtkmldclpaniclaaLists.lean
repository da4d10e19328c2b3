/- Lists -/
import Derived.Test.YtkmldclpaniclaaBase
open Go Go.Proofs
namespace Go.Sx
set_option linter.unusedSimpArgs false
set_option linter.unusedVariables false
def sumL (l:List (List Int)):Nat:=(l.map List.length).sum
theorem sumL_take (l:List (List Int)) (i:Nat) (h:i<l.length):sumL (l.take (i+1))=sumL (l.take i)+(l.getD i []).length:=by
 rw [←take_snoc l [] i h];simp [sumL]
theorem sumL_take_le (l:List (List Int)) (i:Nat):sumL (l.take i)≤sumL l:=by
 have h:sumL l=sumL (l.take i)+sumL (l.drop i):=by
  rw [sumL,sumL,sumL,←List.sum_append,←List.map_append,List.take_append_drop]
 omega
theorem sumL_mem {l:List (List Int)} {r:List Int} (h:r∈l):r.length≤sumL l:=by
 induction l with
 | nil=>simp at h
 | cons x l ih =>
  simp only [sumL,List.map_cons,List.sum_cons] at ih ⊢
  rcases List.mem_cons.1 h with rfl | h
  ·omega
  ·have:=ih h;omega
def roomR (l:List (List Int)):Prop:=l.length≤1099511627776∧∀r∈l,r.length≤1099511627776
theorem roomR_get {l:List (List Int)} (h:roomR l) (i:Nat) (hi:i<l.length):(l.getD i []).length≤1099511627776:=h.2 _ (getD_mem l [] i hi)
def szInt64SS_p (l:List (List Int)) (k:Int):Post:=⟨(l.length:Int)≤9223372036854775807∧(∀r∈l,(r.length:Int)≤9223372036854775807)∧0≤k∧k≤1099511627776,.c (.int .i64 (if k<(l.length:Int)+(sumL l:Int) then -1 else k - (l.length:Int) - (sumL l:Int))),[]⟩
def szInt64SS_ct:List AD→Option Post
 | [.c (.rows .i64 (l)),.c (.int .i64 (k))]=>some (szInt64SS_p l k)
 | _=>none
def szInt64SS_ann (l:List (List Int)) (k:Int):Nat→Option Ann
 | 0=>some (Ann.mk ((Nat)) (fun i=>⟨[(0,.c (.ro (.rows .i64 (l)))),(1,.c (.int .i64 (k - (l.length:Int) - (sumL (l.take i):Int)))),(5,.c (.int .i64 ((i:Int))))],[]⟩) (fun i=>i≤l.length∧(l.length:Int)+(sumL (l.take i):Int)≤k) (fun i=>l.length - i) (fun _=>noAnn))
 | _=>none
def szInt64SS_G:List (Nat×Ctr):=[(38,⟨[],szInt64S_ct⟩)]
def szInt64SS_V (l:List (List Int)) (k:Int):Prop :=
 ((InR (k - (↑(l.length):Int)))∧(BrP (decide (k - (↑(l.length):Int)<(0:Int))) (((-1:Int)=if k<(↑(l.length):Int)+(↑(sumL l):Int) then (-1:Int) else k - (↑(l.length):Int) - (↑(sumL l):Int))∧True) ((∃x0:Nat,(((x0≤l.length)∧((↑(l.length):Int)+(↑(sumL (List.take x0 l)):Int)≤k))∧((l=l)∧((k - (↑(l.length):Int)=k - (↑(l.length):Int) - (↑(sumL (List.take x0 l)):Int))∧((0:Int)=(↑x0:Int))))))∧(∀x1:Nat,(((x1≤l.length)∧((↑(l.length):Int)+(↑(sumL (List.take x1 l)):Int)≤k))→(BrP (decide ((↑x1:Int)<(↑(l.length):Int))) ((inB (↑x1:Int) (l.length))∧(((((↑((l.getD ((↑x1:Int).toNat) []).length):Int)≤(9223372036854775807:Int))∧(((0:Int)≤k - (↑(l.length):Int) - (↑(sumL (List.take x1 l)):Int))∧(k - (↑(l.length):Int) - (↑(sumL (List.take x1 l)):Int)≤(1099511627776:Int))))∧True)∧(BrP (decide ((if k - (↑(l.length):Int) - (↑(sumL (List.take x1 l)):Int)<(↑((l.getD ((↑x1:Int).toNat) []).length):Int) then (-1:Int) else k - (↑(l.length):Int) - (↑(sumL (List.take x1 l)):Int) - (↑((l.getD ((↑x1:Int).toNat) []).length):Int))<(0:Int))) (((-1:Int)=if k<(↑(l.length):Int)+(↑(sumL l):Int) then (-1:Int) else k - (↑(l.length):Int) - (↑(sumL l):Int))∧True) ((InR ((↑x1:Int)+(1:Int)))∧(∃x2:Nat,(((x2≤l.length)∧((↑(l.length):Int)+(↑(sumL (List.take x2 l)):Int)≤k))∧((l.length - x2<l.length - x1)∧((l=l) ∧
 (((if k - (↑(l.length):Int) - (↑(sumL (List.take x1 l)):Int)<(↑((l.getD ((↑x1:Int).toNat) []).length):Int) then (-1:Int) else k - (↑(l.length):Int) - (↑(sumL (List.take x1 l)):Int) - (↑((l.getD ((↑x1:Int).toNat) []).length):Int))=k - (↑(l.length):Int) - (↑(sumL (List.take x2 l)):Int))∧((↑x1:Int)+(1:Int)=(↑x2:Int))))))))))) ((k - (↑(l.length):Int) - (↑(sumL (List.take x1 l)):Int)=if k<(↑(l.length):Int)+(↑(sumL l):Int) then (-1:Int) else k - (↑(l.length):Int) - (↑(sumL l):Int))∧True)))))))
theorem szInt64SS_vc (l:List (List Int)) (k:Int):runF Try.prog (gam szInt64SS_G) noWr (szInt64SS_ann l k) Try.f19 (bodyOf Try.f19) [] [.c (.rows .i64 (l)),.c (.int .i64 (k))] (szInt64SS_p l k)=szInt64SS_V l k:=by kernel_rfl
theorem szInt64SS_ok (l:List (List Int)) (k:Int) (hpre:(szInt64SS_p l k).pre):szInt64SS_V l k:=by
 simp only [szInt64SS_p,szInt64SS_V,BrP_iff,u1,u2,u3,u4,u5,u6,u7,u8,u9,v1,v2,v3,v4,v5,v6,v7,v8,v9,w1,w2,w3,w4,markL_length,inB,InR,room,bdsOk] at hpre ⊢
 obtain ⟨h1,h2,h3,h4⟩:=hpre
 refine ⟨by omega,fun h=>by rw [if_pos (by omega)],fun h=>⟨⟨0,⟨by omega,by simp [sumL];omega⟩,by simp [sumL],rfl⟩,fun i ⟨hi,he⟩=>⟨fun h=>?_,fun h=>?_⟩⟩⟩
 ·have q1:=h2 _ (getD_mem l [] i (by omega))
  have q2:=sumL_take l i (by omega)
  have q3:=sumL_take_le l (i+1)
  refine ⟨by omega,by omega,fun h5=>?_,fun h5=>?_⟩
  ·split at h5
   ·rw [if_pos (by omega)]
   ·omega
  ·split at h5
   ·omega
   ·rename_i h6
    rw [if_neg h6]
    exact ⟨by omega,i+1,by omega,by omega,by omega,by omega⟩
 ·rw [List.take_of_length_le (by omega)] at he ⊢
  rw [if_neg (by omega)]
theorem szInt64SS_fits:Fits Try.prog 19 ⟨[],szInt64SS_ct⟩:=by
 refine ffn (Γ:=gam szInt64SS_G) (gok_cons szInt64S_fits gok_nil) Try.func19 fun ds p h hp=>?_
 unfold szInt64SS_ct at h
 split at h
 ·cases h
  exact ⟨noWr,szInt64SS_ann _ _ ,by rw [szInt64SS_vc];exact szInt64SS_ok _ _  hp⟩
 ·cases h
def toInt64SS_p (l:List (List Int)):Post:=⟨roomR l,.c (.rows 42 2 .i64 (l)),[]⟩
def toInt64SS_ct:List AD→Option Post
 | [.c (.rows .i64 (l))]=>some (toInt64SS_p l)
 | _=>none
def toInt64SS_ann (l:List (List Int)):Nat→Option Ann
 | 0=>some (Ann.mk ((Nat)) (fun i=>⟨[(0,.c (.ro (.rows .i64 (l)))),(4,.c (.int .i64 ((i:Int)))),(3,.c (.own (7)))],[(7,some (.rows 0 42 2 .i64 (l.take i++List.replicate (l.length - i) [])))]⟩) (fun i=>i≤l.length) (fun i=>l.length - i) (fun _=>noAnn))
 | _=>none
def toInt64SS_G:List (Nat×Ctr):=[(43,⟨[],toInt64S_ct⟩)]
def toInt64SS_V (l:List (List Int)):Prop :=
 ((((0:Int)≤(↑(l.length):Int))∧(((↑(l.length):Int)≤(↑(l.length):Int))∧(room ((↑(l.length):Int).toNat))))∧((∃x0:Nat,((x0≤l.length)∧((l=l)∧(((0:Int)=(↑x0:Int))∧(List.replicate ((↑(l.length):Int).toNat) []=List.take x0 l++List.replicate (l.length - x0) ([]:List Int))))))∧(∀x1:Nat,((x1≤l.length)→(BrP (decide ((↑x1:Int)<(↑(l.length):Int))) ((inB (↑x1:Int) (l.length))∧(((room ((l.getD ((↑x1:Int).toNat) []).length))∧True)∧((inB (↑x1:Int) ((List.take x1 l++List.replicate (l.length - x1) ([]:List Int)).length))∧((InR ((↑x1:Int)+(1:Int)))∧(∃x2:Nat,((x2≤l.length)∧((l.length - x2<l.length - x1)∧((l=l)∧(((↑x1:Int)+(1:Int)=(↑x2:Int))∧(List.set (List.take x1 l++List.replicate (l.length - x1) ([]:List Int)) ((↑x1:Int).toNat) (l.getD ((↑x1:Int).toNat) [])=List.take x2 l++List.replicate (l.length - x2) ([]:List Int))))))))))) ((List.take x1 l++List.replicate (l.length - x1) ([]:List Int)=l)∧True))))))
theorem toInt64SS_vc (l:List (List Int)):runF Try.prog (gam toInt64SS_G) noWr (toInt64SS_ann l) Try.f24 (bodyOf Try.f24) [] [.c (.rows .i64 (l))] (toInt64SS_p l)=toInt64SS_V l:=by kernel_rfl
theorem toInt64SS_ok (l:List (List Int)) (hpre:(toInt64SS_p l).pre):toInt64SS_V l:=by
 simp only [toInt64SS_p,toInt64SS_V,BrP_iff,u1,u2,u3,u4,u5,u6,u7,u8,u9,v1,v2,v3,v4,v5,v6,v7,v8,v9,w1,w2,w3,w4,markL_length,inB,InR,room,bdsOk] at hpre ⊢
 have h1:=hpre.1
 exact ⟨by omega,⟨0,by omega,by simp,by simp⟩,fun i hi=>⟨fun h=>⟨by omega,roomR_get hpre i (by omega),by omega,by omega,i+1,by omega,by omega,by omega,fill_step l [] [] i (by omega)⟩,fun h=>fill_end l [] i (by omega)⟩⟩
theorem toInt64SS_fits:Fits Try.prog 24 ⟨[],toInt64SS_ct⟩:=by
 refine ffn (Γ:=gam toInt64SS_G) (gok_cons toInt64S_fits gok_nil) Try.func24 fun ds p h hp=>?_
 unfold toInt64SS_ct at h
 split at h
 ·cases h
  exact ⟨noWr,toInt64SS_ann _ ,by rw [toInt64SS_vc];exact toInt64SS_ok _  hp⟩
 ·cases h
def eqInt64SS_p (a:List (List Int)) (b:List (List Int)):Post:=⟨roomR a,.c (.bool (decide (a=b))),[]⟩
def eqInt64SS_ct:List AD→Option Post
 | [.c (.rows .i64 (a)),.c (.rows .i64 (b))]=>some (eqInt64SS_p a b)
 | _=>none
def eqInt64SS_ann (a:List (List Int)) (b:List (List Int)):Nat→Option Ann
 | 0=>some (Ann.mk ((Nat)) (fun i=>⟨[(0,.c (.ro (.rows .i64 (a)))),(1,.c (.ro (.rows .i64 (b)))),(5,.c (.int .i64 ((i:Int))))],[]⟩) (fun i=>i≤a.length∧a.length=b.length∧a.take i=b.take i) (fun i=>a.length - i) (fun _=>noAnn))
 | _=>none
def eqInt64SS_G:List (Nat×Ctr):=[(32,⟨[],eqInt64S_ct⟩)]
def eqInt64SS_V (a:List (List Int)) (b:List (List Int)):Prop :=
 (BrP ((↑(a.length):Int) != (↑(b.length):Int)) ((false=decide (a=b))∧True) ((∃x0:Nat,(((x0≤a.length)∧((a.length=b.length)∧(List.take x0 a=List.take x0 b)))∧((a=a)∧((b=b)∧((0:Int)=(↑x0:Int))))))∧(∀x1:Nat,(((x1≤a.length)∧((a.length=b.length)∧(List.take x1 a=List.take x1 b)))→(BrP (decide ((↑x1:Int)<(↑(a.length):Int))) ((inB (↑x1:Int) (a.length))∧((inB (↑x1:Int) (b.length))∧(((room ((a.getD ((↑x1:Int).toNat) []).length))∧True)∧(BrP (!decide (a.getD ((↑x1:Int).toNat) []=b.getD ((↑x1:Int).toNat) [])) ((false=decide (a=b))∧True) ((InR ((↑x1:Int)+(1:Int)))∧(∃x2:Nat,(((x2≤a.length)∧((a.length=b.length)∧(List.take x2 a=List.take x2 b)))∧((a.length - x2<a.length - x1)∧((a=a)∧((b=b)∧((↑x1:Int)+(1:Int)=(↑x2:Int)))))))))))) ((true=decide (a=b))∧True))))))
theorem eqInt64SS_vc (a:List (List Int)) (b:List (List Int)):runF Try.prog (gam eqInt64SS_G) noWr (eqInt64SS_ann a b) Try.f9 (bodyOf Try.f9) [] [.c (.rows .i64 (a)),.c (.rows .i64 (b))] (eqInt64SS_p a b)=eqInt64SS_V a b:=by kernel_rfl
theorem eqInt64SS_ok (a:List (List Int)) (b:List (List Int)) (hpre:(eqInt64SS_p a b).pre):eqInt64SS_V a b:=by
 simp only [eqInt64SS_p,eqInt64SS_V,BrP_iff,u1,u2,u3,u4,u5,u6,u7,u8,u9,v1,v2,v3,v4,v5,v6,v7,v8,v9,w1,w2,w3,w4,markL_length,inB,InR,room,bdsOk] at hpre ⊢
 have h0:=hpre.1
 refine ⟨fun h=>?_,fun h=>⟨⟨0,⟨by omega,by omega,rfl⟩,by simp⟩,fun i hi=>⟨fun h1=>⟨by omega,by omega,roomR_get hpre i (by omega),fun h2=>?_,fun h2=>⟨by omega,i+1,⟨by omega,hi.2.1,?_⟩,by omega,by omega⟩⟩,fun h1=>?_⟩⟩⟩
 ·exact (decide_eq_false fun e=>h (by rw [e])).symm
 ·exact (decide_eq_false fun e=>h2 (by rw [e])).symm
 ·exact (take_eq_step a b [] i (by omega) (by omega) hi.2.2).2 h2
 ·refine (decide_eq_true ?_).symm
  have:=hi.2.2
  rwa [List.take_of_length_le (by omega),List.take_of_length_le (by omega)] at this
theorem eqInt64SS_fits:Fits Try.prog 9 ⟨[],eqInt64SS_ct⟩:=by
 refine ffn (Γ:=gam eqInt64SS_G) (gok_cons eqInt64S_fits gok_nil) Try.func9 fun ds p h hp=>?_
 unfold eqInt64SS_ct at h
 split at h
 ·cases h
  exact ⟨noWr,eqInt64SS_ann _ _ ,by rw [eqInt64SS_vc];exact eqInt64SS_ok _ _  hp⟩
 ·cases h
def markR:List (List Int)→Int→List (List Int)
 | [],_=>[]
 | r::l,k=>markL k r.length::markR l (k+(r.length:Int))
theorem markR_length:∀(l:List (List Int)) (k:Int),(markR l k).length=l.length
 | [],_=>rfl
 | r::l,k=>by simp [markR,markR_length l]
theorem markR_lens:∀(l:List (List Int)) (k:Int),(markR l k).map List.length=l.map List.length
 | [],_=>rfl
 | r::l,k=>by simp [markR,markL_length,markR_lens l]
theorem markR_append:∀(a b:List (List Int)) (k:Int),markR (a++b) k=markR a k++markR b (k+(sumL a:Int))
 | [],b,k=>by simp [markR,sumL]
 | r::a,b,k=>by
  simp only [List.cons_append,markR,markR_append a b,sumL,List.map_cons,List.sum_cons]
  rw [show k+((r.length+(a.map List.length).sum:Nat):Int)=k+(r.length:Int)+((a.map List.length).sum:Int) by omega]
theorem markR_take (l:List (List Int)) (k:Int) (i:Nat) (h:i<l.length):markR (l.take (i+1)) k=markR (l.take i) k++[markL (k+(sumL (l.take i):Int)) (l.getD i []).length]:=by
 rw [←take_snoc l [] i h,markR_append];rfl
theorem markR_getD (l:List (List Int)) (k:Int) (i:Nat) (h:i<l.length):(markR l k).getD i []=markL (k+(sumL (l.take i):Int)) (l.getD i []).length:=by
 have hl:(markR (l.take i) k).length=i:=by rw [markR_length,List.length_take];omega
 conv=>lhs;rw [←List.take_append_drop (i+1) l]
 rw [markR_append,markR_take l k i h,List.append_assoc,getD_append_right' _ _ _ _ (by omega),hl,Nat.sub_self]
 rfl
theorem markR_sum:∀(l:List (List Int)) (k:Int),sumL (markR l k)=sumL l
 | [],_=>rfl
 | r::l,k=>by
  have:=markR_sum l (k+(r.length:Int))
  simp only [sumL,markR,List.map_cons,List.sum_cons,markL_length] at this ⊢
  rw [this]
theorem markR_mark:∀(l:List (List Int)) (k:Int),markR (markR l k) k=markR l k
 | [],_=>rfl
 | r::l,k=>by simp only [markR,markL_length,markR_mark l]
def markInt64SS_p (l:List (List Int)) (k:Int):Post:=⟨l.length≤1048576∧sumL l≤1048576∧0≤k∧k≤1073741824,.c (.int .i64 (k+(sumL l:Int))),[.rows 42 2 .i64 (markR l k)]⟩
def markInt64SS_ct:List AD→Option Post
 | [.c (.rows .i64 (l)),.c (.int .i64 (k))]=>some (markInt64SS_p l k)
 | _=>none
def markInt64SS_ann (l:List (List Int)) (k:Int):Nat→Option Ann
 | 0=>some (Ann.mk ((Nat)) (fun i=>⟨[(0,.c (.own (700))),(1,.c (.int .i64 (k+(sumL (l.take i):Int)))),(5,.c (.int .i64 ((i:Int))))],[(700,some (.rows 0 42 2 .i64 (markR (l.take i) k++l.drop i)))]⟩) (fun i=>i≤l.length) (fun i=>l.length - i) (fun _=>noAnn))
 | _=>none
def markInt64SS_G:List (Nat×Ctr):=[(33,⟨[(0,0)],markInt64S_ct⟩)]
def markInt64SS_V (l:List (List Int)) (k:Int):Prop :=
 ((∃x0:Nat,((x0≤l.length)∧((k=k+(↑(sumL (List.take x0 l)):Int))∧(((0:Int)=(↑x0:Int))∧(l=markR (List.take x0 l) k++List.drop x0 l)))))∧(∀x1:Nat,((x1≤l.length)→(BrP (decide ((↑x1:Int)<(↑((markR (List.take x1 l) k++List.drop x1 l).length):Int))) ((inB (↑x1:Int) ((markR (List.take x1 l) k++List.drop x1 l).length))∧((((room (((markR (List.take x1 l) k++List.drop x1 l).getD ((↑x1:Int).toNat) []).length))∧(((0:Int)≤k+(↑(sumL (List.take x1 l)):Int))∧(k+(↑(sumL (List.take x1 l)):Int)≤(1099511627776:Int))))∧((markL (k+(↑(sumL (List.take x1 l)):Int)) (((markR (List.take x1 l) k++List.drop x1 l).getD ((↑x1:Int).toNat) []).length)).length=((markR (List.take x1 l) k++List.drop x1 l).getD ((↑x1:Int).toNat) []).length))∧((InR ((↑x1:Int)+(1:Int)))∧(∃x2:Nat,((x2≤l.length)∧((l.length - x2<l.length - x1)∧((k+(↑(sumL (List.take x1 l)):Int)+(↑(((markR (List.take x1 l) k++List.drop x1 l).getD ((↑x1:Int).toNat) []).length):Int)=k+(↑(sumL (List.take x2 l)):Int))∧(((↑x1:Int)+(1:Int)=(↑x2:Int))∧(List.set (markR (List.take x1 l) k++List.drop x1 l) ((↑x1:Int).toNat) (markL (k+(↑(sumL (List.take x1 l)):Int)) (((markR (List.take x1 l) k++List.drop x1 l).getD ((↑x1:Int).toNat) []).length))=markR (List.take x2 l) k++List.drop x2 l))))))))) ((k+(↑(sumL (List.take x1 l)):Int)=k+(↑(sumL l):Int))∧((markR (List.take x1 l) k++List.drop x1 l=markR l k)∧True))))))
theorem markInt64SS_vc (l:List (List Int)) (k:Int):runF Try.prog (gam markInt64SS_G) noWr (markInt64SS_ann l k) Try.f12 (bodyOf Try.f12) [(0,0)] [.c (.rows .i64 (l)),.c (.int .i64 (k))] (markInt64SS_p l k)=markInt64SS_V l k:=by kernel_rfl
theorem markInt64SS_ok (l:List (List Int)) (k:Int) (hpre:(markInt64SS_p l k).pre):markInt64SS_V l k:=by
 simp only [markInt64SS_p,markInt64SS_V,BrP_iff,u1,u2,u3,u4,u5,u6,u7,u8,u9,v1,v2,v3,v4,v5,v6,v7,v8,v9,w1,w2,w3,w4,markL_length,inB,InR,room,bdsOk] at hpre ⊢
 obtain ⟨h1,h2,h3,h4⟩:=hpre
 refine ⟨⟨0,by omega,by simp [sumL],rfl,by simp [markR]⟩,fun i hi=>?_⟩
 have hlen:(markR (l.take i) k).length=i:=by rw [markR_length,List.length_take];omega
 rw [hlen]
 refine ⟨fun h=>?_,fun h=>?_⟩
 ·have q1:=sumL_take l i (by omega)
  have q2:=sumL_take_le l (i+1)
  have hg:(markR (l.take i) k++l.drop i).getD i []=l.getD i []:=by
   rw [getD_append_right' _ _ _ _ (by omega),hlen,drop_getD];simp
  have q3:=sumL_mem (getD_mem l [] i (by omega))
  rw [hg]
  refine ⟨by omega,by omega,by omega,i+1,by omega,by omega,by omega,by omega,?_⟩
  rw [markR_take l k i (by omega),List.set_append_right _ _ (by omega),hlen,Nat.sub_self,drop_cons' l [] i (by omega),List.set_cons_zero]
  simp
 ·rw [List.take_of_length_le (by omega),List.drop_of_length_le (by omega),List.append_nil]
  exact ⟨rfl,rfl⟩
theorem markInt64SS_fits:Fits Try.prog 12 ⟨[(0,0)],markInt64SS_ct⟩:=by
 refine ffn (Γ:=gam markInt64SS_G) (gok_cons markInt64S_fits gok_nil) Try.func12 fun ds p h hp=>?_
 unfold markInt64SS_ct at h
 split at h
 ·cases h
  exact ⟨noWr,markInt64SS_ann _ _ ,by rw [markInt64SS_vc];exact markInt64SS_ok _ _  hp⟩
 ·cases h
def heldInt64SS_p (l:List (List Int)) (k:Int):Post:=⟨l.length≤1048576∧sumL l≤1048576∧0≤k∧k≤1073741824,.c (.int .i64 (if l=markR l k then k+(sumL l:Int) else -1)),[]⟩
def heldInt64SS_ct:List AD→Option Post
 | [.c (.rows .i64 (l)),.c (.int .i64 (k))]=>some (heldInt64SS_p l k)
 | _=>none
def heldInt64SS_ann (l:List (List Int)) (k:Int):Nat→Option Ann
 | 0=>some (Ann.mk ((Nat)) (fun i=>⟨[(0,.c (.ro (.rows .i64 (l)))),(1,.c (.int .i64 (k+(sumL (l.take i):Int)))),(5,.c (.int .i64 ((i:Int))))],[]⟩) (fun i=>i≤l.length∧l.take i=markR (l.take i) k) (fun i=>l.length - i) (fun _=>noAnn))
 | _=>none
def heldInt64SS_G:List (Nat×Ctr):=[(34,⟨[],heldInt64S_ct⟩)]
def heldInt64SS_V (l:List (List Int)) (k:Int):Prop :=
 ((∃x0:Nat,(((x0≤l.length)∧(List.take x0 l=markR (List.take x0 l) k))∧((l=l)∧((k=k+(↑(sumL (List.take x0 l)):Int))∧((0:Int)=(↑x0:Int))))))∧(∀x1:Nat,(((x1≤l.length)∧(List.take x1 l=markR (List.take x1 l) k))→(BrP (decide ((↑x1:Int)<(↑(l.length):Int))) ((inB (↑x1:Int) (l.length))∧((((room ((l.getD ((↑x1:Int).toNat) []).length))∧(((0:Int)≤k+(↑(sumL (List.take x1 l)):Int))∧(k+(↑(sumL (List.take x1 l)):Int)≤(1099511627776:Int))))∧True)∧(BrP (decide ((if l.getD ((↑x1:Int).toNat) []=markL (k+(↑(sumL (List.take x1 l)):Int)) ((l.getD ((↑x1:Int).toNat) []).length) then k+(↑(sumL (List.take x1 l)):Int)+(↑((l.getD ((↑x1:Int).toNat) []).length):Int) else (-1:Int))<(0:Int))) (((-1:Int)=if l=markR l k then k+(↑(sumL l):Int) else (-1:Int))∧True) ((InR ((↑x1:Int)+(1:Int)))∧(∃x2:Nat,(((x2≤l.length)∧(List.take x2 l=markR (List.take x2 l) k))∧((l.length - x2<l.length - x1)∧((l=l)∧(((if l.getD ((↑x1:Int).toNat) []=markL (k+(↑(sumL (List.take x1 l)):Int)) ((l.getD ((↑x1:Int).toNat) []).length) then k+(↑(sumL (List.take x1 l)):Int)+(↑((l.getD ((↑x1:Int).toNat) []).length):Int) else (-1:Int))=k+(↑(sumL (List.take x2 l)):Int))∧((↑x1:Int)+(1:Int)=(↑x2:Int))))))))))) ((k+(↑(sumL (List.take x1 l)):Int)=if l=markR l k then k+(↑(sumL l):Int) else (-1:Int))∧True)))))
theorem heldInt64SS_vc (l:List (List Int)) (k:Int):runF Try.prog (gam heldInt64SS_G) noWr (heldInt64SS_ann l k) Try.f13 (bodyOf Try.f13) [] [.c (.rows .i64 (l)),.c (.int .i64 (k))] (heldInt64SS_p l k)=heldInt64SS_V l k:=by kernel_rfl
theorem heldInt64SS_ok (l:List (List Int)) (k:Int) (hpre:(heldInt64SS_p l k).pre):heldInt64SS_V l k:=by
 simp only [heldInt64SS_p,heldInt64SS_V,BrP_iff,u1,u2,u3,u4,u5,u6,u7,u8,u9,v1,v2,v3,v4,v5,v6,v7,v8,v9,w1,w2,w3,w4,markL_length,inB,InR,room,bdsOk] at hpre ⊢
 obtain ⟨h1,h2,h3,h4⟩:=hpre
 refine ⟨⟨0,⟨by omega,rfl⟩,by simp [sumL],rfl⟩,fun i ⟨hi,he⟩=>⟨fun h=>?_,fun h=>?_⟩⟩
 ·have q1:=sumL_take l i (by omega)
  have q2:=sumL_take_le l (i+1)
  have q3:=sumL_mem (getD_mem l [] i (by omega))
  refine ⟨by omega,by omega,fun h5=>?_,fun h5=>?_⟩
  ·split at h5
   ·omega
   ·rename_i h6
    rw [if_neg]
    intro e
    apply h6
    conv=>lhs;rw [e]
    exact markR_getD l k i (by omega)
  ·split at h5
   ·rename_i h6
    refine ⟨by omega,i+1,⟨by omega,?_⟩,by omega,?_,by omega⟩
    ·rw [markR_take l k i (by omega),←he,←h6,take_snoc _ _ _ (by omega)]
    ·rw [if_pos h6];omega
   ·omega
 ·rw [List.take_of_length_le (by omega)] at he ⊢
  rw [if_pos he]
theorem heldInt64SS_fits:Fits Try.prog 13 ⟨[],heldInt64SS_ct⟩:=by
 refine ffn (Γ:=gam heldInt64SS_G) (gok_cons heldInt64S_fits gok_nil) Try.func13 fun ds p h hp=>?_
 unfold heldInt64SS_ct at h
 split at h
 ·cases h
  exact ⟨noWr,heldInt64SS_ann _ _ ,by rw [heldInt64SS_vc];exact heldInt64SS_ok _ _  hp⟩
 ·cases h
theorem size_of {t:List (List Int)} {k:Int} (h:¬ (if k<(t.length:Int)+(sumL t:Int) then (-1:Int) else k - (t.length:Int) - (sumL t:Int))<0) (hk:k≤1048576:=by omega) :
  t.length≤1048576∧sumL t≤1048576∧roomR t:=by
 split at h
 ·omega
 ·refine ⟨by omega,by omega,by omega,fun r hr=>?_⟩
  have:=sumL_mem hr
  omega
end Go.Sx
