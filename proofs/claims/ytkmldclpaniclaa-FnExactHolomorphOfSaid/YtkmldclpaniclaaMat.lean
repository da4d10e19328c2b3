/- Mat -/
import Derived.Test.YtkmldclpaniclaaLists
open Go Go.Proofs
namespace Go.Sx
set_option linter.unusedSimpArgs false
set_option linter.unusedVariables false
theorem allG_drop {α:Type} {l:List α} (d:α) (p:α→Bool) {i:Nat} (h:i<l.length):(l.drop i).all p=(p (l.getD i d)&&(l.drop (i+1)).all p):=by
 rw [drop_cons' l d i h];rfl
theorem allG_get {α:Type} {l:List α} (d:α) {p:α→Bool} (h:l.all p=true) (i:Nat) (hi:i<l.length):p (l.getD i d)=true :=
 List.all_eq_true.1 h _ (getD_mem l d i hi)
theorem at_getD {α:Type} (a b:List α) (r d:α) (i:Nat) (h:a.length=i):(a++r::b).getD i d=r:=by
 rw [getD_append_right' _ _ _ _ (by omega),h,Nat.sub_self];rfl
theorem at_set {α:Type} (a b:List α) (r v:α) (i:Nat) (h:a.length=i):(a++r::b).set i v=a++v::b:=by
 rw [List.set_append_right _ _ (by omega),h,Nat.sub_self];rfl
def rowB (n:Int) (r:List Int):Bool:=decide ((r.length:Int)=n)&&allW 0 (n - 1) r
def tabB (t:List (List Int)):Bool:=decide (1≤(t.length:Int)∧(t.length:Int)≤12)&&t.all (rowB (t.length:Int))
theorem rowB_of {n:Int} {r:List Int} (h:rowB n r=true):(r.length:Int)=n∧allW 0 (n - 1) r=true:=by
 simpa [rowB] using h
theorem tabB_of {t:List (List Int)} (h:tabB t=true):1≤t.length∧t.length≤12 ∧
  ∀x,x<t.length→(t.getD x []).length=t.length∧∀y,y<t.length→0≤(t.getD x []).getD y 0∧(t.getD x []).getD y 0≤(t.length:Int) - 1:=by
 simp only [tabB,Bool.and_eq_true,decide_eq_true_eq] at h
 refine ⟨by omega,by omega,fun x hx=>?_⟩
 obtain ⟨h1,h2⟩:=rowB_of (allG_get [] h.2 x hx)
 exact ⟨by omega,fun y hy=>allW_get h2 y (by omega)⟩
theorem tabB_no {t:List (List Int)} (h:¬ (1≤(t.length:Int)∧(t.length:Int)≤12)):tabB t=false:=by simp only [tabB,decide_eq_false h,Bool.false_and]
def l01Table_p (t:List (List Int)):Post:=⟨roomR t,.c (.bool (tabB t)),[]⟩
def l01Table_ct:List AD→Option Post
 | [.c (.rows .i64 (t))]=>some (l01Table_p t)
 | _=>none
def l01Table_ann (t:List (List Int)):Nat→Option Ann
 | 0=>some (Ann.mk ((Nat)) (fun i=>⟨[(0,.c (.ro (.rows .i64 (t)))),(3,.c (.int .i64 ((t.length:Int)))),(4,.c (.int .i64 ((i:Int))))],[]⟩) (fun i=>i≤t.length∧1≤t.length∧t.length≤12∧t.all (rowB (t.length:Int))=(t.drop i).all (rowB (t.length:Int))) (fun i=>t.length - i) (fun i=>fun b_=>match b_ with | 2=>some (Ann.mk ((Nat)) (fun j=>⟨[(0,.c (.ro (.rows .i64 (t)))),(3,.c (.int .i64 ((t.length:Int)))),(4,.c (.int .i64 ((i:Int)))),(5,.c (.int .i64 ((j:Int))))],[]⟩) (fun j=>j≤t.length∧i<t.length∧(t.getD i []).length=t.length∧allW 0 ((t.length:Int) - 1) (t.getD i [])=allW 0 ((t.length:Int) - 1) ((t.getD i []).drop j)) (fun j=>t.length - j) (fun _=>noAnn)) | _=>none))
 | _=>none
def l01Table_G:List (Nat×Ctr):=[(54,⟨[],l01In_ct⟩)]
def l01Table_V (t:List (List Int)):Prop :=
 ((True∧True)∧(BrP (!decide ((1:Int)≤(↑(t.length):Int)∧(↑(t.length):Int)≤(12:Int))) ((false=tabB t)∧True) ((∃x0:Nat,(((x0≤t.length)∧(((1:Nat)≤t.length)∧((t.length≤(12:Nat))∧(List.all t (rowB (↑(t.length):Int))=List.all (List.drop x0 t) (rowB (↑(t.length):Int))))))∧((t=t)∧(((↑(t.length):Int)=(↑(t.length):Int))∧((0:Int)=(↑x0:Int))))))∧(∀x1:Nat,(((x1≤t.length)∧(((1:Nat)≤t.length)∧((t.length≤(12:Nat))∧(List.all t (rowB (↑(t.length):Int))=List.all (List.drop x1 t) (rowB (↑(t.length):Int))))))→(BrP (decide ((↑x1:Int)<(↑(t.length):Int))) ((inB (↑x1:Int) (t.length))∧(BrP ((↑((t.getD ((↑x1:Int).toNat) []).length):Int) != (↑(t.length):Int)) ((false=tabB t)∧True) ((∃x2:Nat,(((x2≤t.length)∧((x1<t.length)∧(((t.getD x1 []).length=t.length)∧(allW (0:Int) ((↑(t.length):Int) - (1:Int)) (t.getD x1 [])=allW (0:Int) ((↑(t.length):Int) - (1:Int)) (List.drop x2 (t.getD x1 []))))))∧((t=t)∧(((↑(t.length):Int)=(↑(t.length):Int))∧(((↑x1:Int)=(↑x1:Int))∧((0:Int)=(↑x2:Int)))))))∧(∀x3:Nat,(((x3≤t.length)∧((x1<t.length)∧(((t.getD x1 []).length=t.length)∧(allW (0:Int) ((↑(t.length):Int) - (1:Int)) (t.getD x1 [])=allW (0:Int) ((↑(t.length):Int) - (1:Int)) (List.drop x3 (t.getD x1 []))))))→(BrP (decide ((↑x3:Int)<(↑(t.length):Int))) ((inB (↑x1:Int) (t.length))∧((inB (↑x3:Int) ((t.getD ((↑x1:Int).toNat) []).length))∧((InR ((↑(t.length):Int) - (1:Int)))∧((True∧True) ∧
 (BrP (!decide ((0:Int)≤(List.getD t ((↑x1:Int).toNat) []).getD ((↑x3:Int).toNat) (0:Int)∧(List.getD t ((↑x1:Int).toNat) []).getD ((↑x3:Int).toNat) (0:Int)≤(↑(t.length):Int) - (1:Int))) ((false=tabB t)∧True) ((InR ((↑x3:Int)+(1:Int)))∧(∃x4:Nat,(((x4≤t.length)∧((x1<t.length)∧(((t.getD x1 []).length=t.length)∧(allW (0:Int) ((↑(t.length):Int) - (1:Int)) (t.getD x1 [])=allW (0:Int) ((↑(t.length):Int) - (1:Int)) (List.drop x4 (t.getD x1 []))))))∧((t.length - x4<t.length - x3)∧((t=t)∧(((↑(t.length):Int)=(↑(t.length):Int))∧(((↑x1:Int)=(↑x1:Int))∧((↑x3:Int)+(1:Int)=(↑x4:Int)))))))))))))) ((InR ((↑x1:Int)+(1:Int)))∧(∃x5:Nat,(((x5≤t.length)∧(((1:Nat)≤t.length)∧((t.length≤(12:Nat))∧(List.all t (rowB (↑(t.length):Int))=List.all (List.drop x5 t) (rowB (↑(t.length):Int))))))∧((t.length - x5<t.length - x1)∧((t=t)∧(((↑(t.length):Int)=(↑(t.length):Int))∧((↑x1:Int)+(1:Int)=(↑x5:Int)))))))))))))) ((true=tabB t)∧True)))))))
theorem l01Table_vc (t:List (List Int)):runF Try.prog (gam l01Table_G) noWr (l01Table_ann t) Try.f39 (bodyOf Try.f39) [] [.c (.rows .i64 (t))] (l01Table_p t)=l01Table_V t:=by kernel_rfl
theorem l01Table_ok (t:List (List Int)) (hpre:(l01Table_p t).pre):l01Table_V t:=by
 simp only [l01Table_p,l01Table_V,BrP_iff,u1,u2,u3,u4,u5,u6,u7,u8,u9,v1,v2,v3,v4,v5,v6,v7,v8,v9,w1,w2,w3,w4,markL_length,inB,InR,room,bdsOk] at hpre ⊢
 have hr:=hpre
 refine ⟨fun h=>(tabB_no h).symm,fun hn=>⟨⟨0,⟨by omega,by omega,by omega,rfl⟩,rfl⟩,fun i ⟨hi,_,_,he⟩=>⟨fun h=>?_,fun h=>?_⟩⟩⟩
 ·have hd:=allG_drop [] (rowB (t.length:Int)) (show i<t.length by omega)
  have no:rowB (t.length:Int) (t.getD i [])=false→false=tabB t:=fun h=>by rw [tabB,he,hd,h];simp
  refine ⟨by omega,fun h1=>no (by rw [rowB,decide_eq_false h1];rfl),fun h1=>⟨⟨0,⟨by omega,by omega,by omega,rfl⟩,rfl⟩,fun j ⟨hj,_,hl,ha⟩=>⟨fun h2=>?_,fun h2=>?_⟩⟩⟩
  ·have hd2:=allW_drop 0 ((t.length:Int) - 1) (t.getD i []) j (by omega)
   refine ⟨by omega,by omega,by omega,fun h3=>no ?_,fun h3=>⟨by omega,j+1,⟨by omega,by omega,hl,?_⟩,by omega,by omega⟩⟩
   ·rw [rowB,ha,hd2,decide_eq_false h3];simp
   ·rw [ha,hd2,decide_eq_true h3];rfl
  ·refine ⟨by omega,i+1,⟨by omega,by omega,by omega,?_⟩,by omega,by omega⟩
   have:rowB (t.length:Int) (t.getD i [])=true:=by
    rw [rowB,decide_eq_true h1,ha,List.drop_of_length_le (by omega)];rfl
   rw [he,hd,this];rfl
 ·rw [tabB,he,decide_eq_true hn,List.drop_of_length_le (by omega)];rfl
theorem l01Table_fits:Fits Try.prog 39 ⟨[],l01Table_ct⟩:=by
 refine ffn (Γ:=gam l01Table_G) (gok_cons l01In_fits gok_nil) Try.func39 fun ds p h hp=>?_
 unfold l01Table_ct at h
 split at h
 ·cases h
  exact ⟨noWr,l01Table_ann _ ,by rw [l01Table_vc];exact l01Table_ok _  hp⟩
 ·cases h
def idxG (p:List Int→Bool):List (List Int)→Int→Int
 | [],_=>-1
 | x::l,k=>if p x=true then k else idxG p l (k+1)
theorem idxG_any (p:List Int→Bool):∀(l:List (List Int)) (k:Int),0≤k→decide (0≤idxG p l k)=l.any p
 | [],k,_=>rfl
 | x::l,k,h=>by
  simp only [idxG,List.any_cons]
  by_cases hp:p x=true
  ·simp [hp,h]
  ·simpa [hp] using idxG_any p l (k+1) (by omega)
def IndexFuncR_p (l:List (List Int)) (q:List Int→Prop) (p:List Int→Bool):Post:=⟨l.length≤1099511627776∧∀x∈l,q x,.c (.int .i64 (idxG p l 0)),[]⟩
def IndexFuncR_ct:List AD→Option Post
 | [.c (.rows .i64 (l)),.fv (.lb q p)]=>some (IndexFuncR_p l q p)
 | _=>none
def IndexFuncR_ann (l:List (List Int)) (q:List Int→Prop) (p:List Int→Bool):Nat→Option Ann
 | 0=>some (Ann.mk ((Nat)) (fun i=>⟨[(0,.c (.ro (.rows .i64 (l)))),(1,.fv (.lb q p)),(7,.c (.int .i64 ((l.length:Int)))),(8,.c (.int .i64 ((i:Int))))],[]⟩) (fun i=>i≤l.length∧idxG p l 0=idxG p (l.drop i) (i:Int)) (fun i=>l.length - i) (fun _=>noAnn))
 | _=>none
def IndexFuncR_G:List (Nat×Ctr):=[]
def IndexFuncR_V (l:List (List Int)) (q:List Int→Prop) (p:List Int→Bool):Prop :=
 ((∃x0:Nat,(((x0≤l.length)∧(idxG p l (0:Int)=idxG p (List.drop x0 l) (↑x0:Int)))∧((l=l)∧((FV.lb q p=FV.lb q p)∧(((↑(l.length):Int)=(↑(l.length):Int))∧((0:Int)=(↑x0:Int)))))))∧(∀x1:Nat,(((x1≤l.length)∧(idxG p l (0:Int)=idxG p (List.drop x1 l) (↑x1:Int)))→(BrP (decide ((↑x1:Int)<(↑(l.length):Int))) ((inB (↑x1:Int) (l.length))∧((q (l.getD ((↑x1:Int).toNat) []))∧(BrP (p (l.getD ((↑x1:Int).toNat) [])) (((↑x1:Int)=idxG p l (0:Int))∧True) ((InR ((↑x1:Int)+(1:Int)))∧(∃x2:Nat,(((x2≤l.length)∧(idxG p l (0:Int)=idxG p (List.drop x2 l) (↑x2:Int)))∧((l.length - x2<l.length - x1)∧((l=l)∧((FV.lb q p=FV.lb q p)∧(((↑(l.length):Int)=(↑(l.length):Int))∧((↑x1:Int)+(1:Int)=(↑x2:Int)))))))))))) (((-1:Int)=idxG p l (0:Int))∧True)))))
theorem IndexFuncR_vc (l:List (List Int)) (q:List Int→Prop) (p:List Int→Bool):runF Try.prog (gam IndexFuncR_G) noWr (IndexFuncR_ann l q p) Try.f109 (bodyOf Try.f109) [] [.c (.rows .i64 (l)),.fv (.lb q p)] (IndexFuncR_p l q p)=IndexFuncR_V l q p:=by kernel_rfl
theorem IndexFuncR_ok (l:List (List Int)) (q:List Int→Prop) (p:List Int→Bool) (hpre:(IndexFuncR_p l q p).pre):IndexFuncR_V l q p:=by
 simp only [IndexFuncR_p,IndexFuncR_V,BrP_iff,u1,u2,u3,u4,u5,u6,u7,u8,u9,v1,v2,v3,v4,v5,v6,v7,v8,v9,w1,w2,w3,w4,markL_length,inB,InR,room,bdsOk] at hpre ⊢
 obtain ⟨hl,hq⟩:=hpre
 refine ⟨⟨0,⟨by omega,rfl⟩,rfl⟩,fun i ⟨hi,he⟩=>⟨fun h=>?_,fun h=>?_⟩⟩
 ·rw [drop_cons' l [] i (by omega)] at he
  simp only [idxG] at he
  refine ⟨by omega,hq _ (getD_mem l [] i (by omega)),fun h1=>?_,fun h1=>⟨by omega,i+1,⟨by omega,?_⟩,by omega,by omega⟩⟩
  ·rw [he,if_pos h1]
  ·rw [he,if_neg (by rw [h1];exact Bool.false_ne_true)];simp
 ·rw [he,List.drop_of_length_le (by omega)];rfl
theorem IndexFuncR_fits:Fits Try.prog 109 ⟨[],IndexFuncR_ct⟩:=by
 refine ffn (Γ:=gam IndexFuncR_G) gok_nil Try.func109 fun ds p h hp=>?_
 unfold IndexFuncR_ct at h
 split at h
 ·cases h
  exact ⟨noWr,IndexFuncR_ann _ _ _ ,by rw [IndexFuncR_vc];exact IndexFuncR_ok _ _ _  hp⟩
 ·cases h
def ContainsFuncR_p (l:List (List Int)) (q:List Int→Prop) (p:List Int→Bool):Post:=⟨l.length≤1099511627776∧∀x∈l,q x,.c (.bool (l.any p)),[]⟩
def ContainsFuncR_ct:List AD→Option Post
 | [.c (.rows .i64 (l)),.fv (.lb q p)]=>some (ContainsFuncR_p l q p)
 | _=>none
def ContainsFuncR_G:List (Nat×Ctr):=[(109,⟨[],IndexFuncR_ct⟩)]
def ContainsFuncR_V (l:List (List Int)) (q:List Int→Prop) (p:List Int→Bool):Prop :=
 ((((l.length≤(1099511627776:Nat))∧(∀(x:List Int),x∈l→q x))∧True)∧((decide ((0:Int)≤idxG p l (0:Int))=List.any l p)∧True))
theorem ContainsFuncR_vc (l:List (List Int)) (q:List Int→Prop) (p:List Int→Bool):runF Try.prog (gam ContainsFuncR_G) noWr noAnn Try.f87 (bodyOf Try.f87) [] [.c (.rows .i64 (l)),.fv (.lb q p)] (ContainsFuncR_p l q p)=ContainsFuncR_V l q p:=by kernel_rfl
theorem ContainsFuncR_ok (l:List (List Int)) (q:List Int→Prop) (p:List Int→Bool) (hpre:(ContainsFuncR_p l q p).pre):ContainsFuncR_V l q p:=by
 simp only [ContainsFuncR_p,ContainsFuncR_V,BrP_iff,u1,u2,u3,u4,u5,u6,u7,u8,u9,v1,v2,v3,v4,v5,v6,v7,v8,v9,w1,w2,w3,w4,markL_length,inB,InR,room,bdsOk] at hpre ⊢
 exact ⟨hpre,idxG_any p l 0 (by omega)⟩
theorem ContainsFuncR_fits:Fits Try.prog 87 ⟨[],ContainsFuncR_ct⟩:=by
 refine ffn (Γ:=gam ContainsFuncR_G) (gok_cons IndexFuncR_fits gok_nil) Try.func87 fun ds p h hp=>?_
 unfold ContainsFuncR_ct at h
 split at h
 ·cases h
  exact ⟨noWr,noAnn,by rw [ContainsFuncR_vc];exact ContainsFuncR_ok _ _ _  hp⟩
 ·cases h
def IsTable1_p (r:List Int) (n:Int):Post:=⟨r.length≤1099511627776∧1≤n∧n≤12,.c (.bool (!rowB n r)),[]⟩
def IsTable1_ct:List AD→Option Post
 | [.c (.ints .i64 (r)),.box [.int .i64 (n)]]=>some (IsTable1_p r n)
 | _=>none
def IsTable1_G:List (Nat×Ctr):=[(89,⟨[],allWithin_ct⟩)]
def IsTable1_V (r:List Int) (n:Int):Prop :=
 (BrP ((↑(r.length):Int) != n) ((true=!rowB n r)∧True) ((InR (n - (1:Int)))∧(((room (r.length))∧True)∧(((!allW (0:Int) (n - (1:Int)) r)=!rowB n r)∧True))))
theorem IsTable1_vc (r:List Int) (n:Int):runF Try.prog (gam IsTable1_G) noWr noAnn Try.f88 (bodyOf Try.f88) [] [.c (.ints .i64 (r)),.box [.int .i64 (n)]] (IsTable1_p r n)=IsTable1_V r n:=by kernel_rfl
theorem IsTable1_ok (r:List Int) (n:Int) (hpre:(IsTable1_p r n).pre):IsTable1_V r n:=by
 simp only [IsTable1_p,IsTable1_V,BrP_iff,u1,u2,u3,u4,u5,u6,u7,u8,u9,v1,v2,v3,v4,v5,v6,v7,v8,v9,w1,w2,w3,w4,markL_length,inB,InR,room,bdsOk] at hpre ⊢
 refine ⟨fun h=>by rw [rowB,decide_eq_false h];rfl,fun h=>⟨by omega,hpre.1,?_⟩⟩
 rw [rowB,decide_eq_true h];simp
theorem IsTable1_fits:Fits Try.prog 88 ⟨[],IsTable1_ct⟩:=by
 refine ffn (Γ:=gam IsTable1_G) (gok_cons allWithin_fits gok_nil) Try.func88 fun ds p h hp=>?_
 unfold IsTable1_ct at h
 split at h
 ·cases h
  exact ⟨noWr,noAnn,by rw [IsTable1_vc];exact IsTable1_ok _ _  hp⟩
 ·cases h
def IsTable_p (t:List (List Int)):Post:=⟨roomR t,.c (.bool (tabB t)),[]⟩
def IsTable_ct:List AD→Option Post
 | [.c (.rows .i64 (t))]=>some (IsTable_p t)
 | _=>none
def IsTable_G:List (Nat×Ctr):=[(86,⟨[],within_ct⟩),(87,⟨[],ContainsFuncR_ct⟩),(88,⟨[],IsTable1_ct⟩)]
def IsTable_V (t:List (List Int)):Prop :=
 ((True∧True)∧(BrP (decide ((1:Int)≤(↑(t.length):Int)∧(↑(t.length):Int)≤(12:Int))) ((((t.length≤(1099511627776:Nat))∧(∀(x:List Int),x∈t→x.length≤(1099511627776:Nat)∧(1:Int)≤(↑(t.length):Int)∧(↑(t.length):Int)≤(12:Int)))∧True)∧(((!List.any t fun (x:List Int)=>!rowB (↑(t.length):Int) x)=tabB t)∧True)) ((false=tabB t)∧True)))
theorem IsTable_vc (t:List (List Int)):runF Try.prog (gam IsTable_G) noWr noAnn Try.f59 (bodyOf Try.f59) [] [.c (.rows .i64 (t))] (IsTable_p t)=IsTable_V t:=by kernel_rfl
theorem IsTable_ok (t:List (List Int)) (hpre:(IsTable_p t).pre):IsTable_V t:=by
 simp only [IsTable_p,IsTable_V,BrP_iff,u1,u2,u3,u4,u5,u6,u7,u8,u9,v1,v2,v3,v4,v5,v6,v7,v8,v9,w1,w2,w3,w4,markL_length,inB,InR,room,bdsOk] at hpre ⊢
 refine ⟨fun h=>⟨⟨hpre.1,fun x hx=>⟨hpre.2 x hx,h⟩⟩,?_⟩,fun h=>(tabB_no h).symm⟩
 rw [tabB,decide_eq_true h,Bool.true_and,List.all_eq_not_any_not,Bool.not_not]
theorem IsTable_fits:Fits Try.prog 59 ⟨[],IsTable_ct⟩:=by
 refine ffn (Γ:=gam IsTable_G) (gok_cons within_fits (gok_cons ContainsFuncR_fits (gok_cons IsTable1_fits gok_nil))) Try.func59 fun ds p h hp=>?_
 unfold IsTable_ct at h
 split at h
 ·cases h
  exact ⟨noWr,noAnn,by rw [IsTable_vc];exact IsTable_ok _  hp⟩
 ·cases h
end Go.Sx
