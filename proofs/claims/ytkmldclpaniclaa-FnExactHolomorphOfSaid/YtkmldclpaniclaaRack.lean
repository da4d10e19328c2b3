/- Rack -/
import Derived.Test.YtkmldclpaniclaaMat
open Go Go.Proofs
namespace Go.Sx
set_option linter.unusedSimpArgs false
set_option linter.unusedVariables false
theorem nodupLe:∀{a b:List Int},a.Nodup→(∀x∈a,x∈b)→a.length≤b.length
 | [],_,_,_=>Nat.zero_le _
 | x::a,b,hn,hs=>by
  rw [List.nodup_cons] at hn
  have h1:x∈b:=hs x (by simp)
  have h2:=nodupLe (b:=b.erase x) hn.2 fun y hy=>(List.mem_erase_of_ne (by rintro rfl;exact hn.1 hy)).2 (hs y (by simp [hy]))
  rw [List.length_erase_of_mem h1] at h2
  have:=List.length_pos_of_mem h1
  simp only [List.length_cons];omega
def ints (n:Nat):List Int:=(List.range n).map fun i:Nat=>(i:Int)
theorem ints_nodup:∀n,(ints n).Nodup
 | 0=>by simp [ints]
 | n+1=>by
  have:ints (n+1)=ints n++[(n:Int)]:=by simp [ints,List.range_succ]
  rw [this,List.nodup_append]
  refine ⟨ints_nodup n,by simp,fun a ha b hb=>?_⟩
  simp only [ints,List.mem_map,List.mem_range] at ha
  obtain ⟨i,hi,rfl⟩:=ha
  simp at hb
  omega
theorem ints_mem {n:Nat} {x:Int}:x∈ints n↔0≤x∧x<(n:Int):=by
 simp only [ints,List.mem_map,List.mem_range]
 exact ⟨by rintro ⟨i,hi,rfl⟩;omega,fun h=>⟨x.toNat,by omega,by omega⟩⟩
def permB (l:List Int):Bool:=decide ((∀x∈l,0≤x∧x<(l.length:Int))∧l.Nodup)
theorem perm_all {l:List Int}:permB l=true↔∀x:Int,0≤x→x<(l.length:Int)→x∈l:=by
 simp only [permB,decide_eq_true_eq]
 constructor
 ·rintro ⟨h1,h2⟩ x hx hx2
  refine Classical.byContradiction fun hn=>?_
  have:=nodupLe (a:=x::l) (b:=ints l.length) (List.nodup_cons.2 ⟨hn,h2⟩) fun y hy=>by
   rcases List.mem_cons.1 hy with rfl | hy
   ·exact ints_mem.2 ⟨hx,hx2⟩
   ·exact ints_mem.2 (h1 y hy)
  simp [ints] at this
  omega
 ·intro h
  have sub:∀l':List Int,l'.length<l.length→¬ ∀x∈ints l.length,x∈l':=fun l' hl hc=>by
   have:=nodupLe (ints_nodup l.length) hc
   simp [ints] at this
   omega
  have hall:∀x∈ints l.length,x∈l:=fun x hx=>h x (ints_mem.1 hx).1 (ints_mem.1 hx).2
  refine ⟨fun x hx=>Classical.byContradiction fun hn=>?_,Classical.byContradiction fun hn=>?_⟩
  ·refine sub (l.erase x) (by rw [List.length_erase_of_mem hx];have:=List.length_pos_of_mem hx;omega) fun y hy=>?_
   exact (List.mem_erase_of_ne (by rintro rfl;exact hn (ints_mem.1 hy))).2 (hall y hy)
  ·rw [List.nodup_iff_count] at hn
   simp only [Classical.not_forall] at hn
   obtain ⟨a,ha⟩:=hn
   have hm:a∈l:=List.count_pos_iff.1 (by omega)
   have hm2:a∈l.erase a:=List.count_pos_iff.1 (by rw [List.count_erase_self];omega)
   refine sub (l.erase a) (by rw [List.length_erase_of_mem hm];have:=List.length_pos_of_mem hm;omega) fun y hy=>?_
   by_cases hya:y=a
   ·rw [hya];exact hm2
   ·exact (List.mem_erase_of_ne hya).2 (hall y hy)
def idxL (x:Int):List Int→Int→Int
 | [],_=>-1
 | y::l,k=>if y=x then k else idxL x l (k+1)
theorem idxL_mem (x:Int):∀(l:List Int) (k:Int),0≤k→decide (0≤idxL x l k)=decide (x∈l)
 | [],k,_=>by simp [idxL]
 | y::l,k,h=>by
  simp only [idxL,List.mem_cons]
  by_cases hp:y=x
  ·simp [hp,h]
  ·simp only [hp,if_false,idxL_mem x l (k+1) (by omega)]
   have:¬ x=y:=fun e=>hp e.symm
   simp [this]
def l01Index_p (l:List Int) (n:Int):Post:=⟨l.length≤1099511627776,.c (.int .i64 (idxL n l 0)),[]⟩
def l01Index_ct:List AD→Option Post
 | [.c (.ints .i64 (l)),.c (.int .i64 (n))]=>some (l01Index_p l n)
 | _=>none
def l01Index_ann (l:List Int) (n:Int):Nat→Option Ann
 | 0=>some (Ann.mk ((Nat)) (fun i=>⟨[(0,.c (.ro (.ints .i64 (l)))),(1,.c (.int .i64 (n))),(5,.c (.int .i64 ((i:Int))))],[]⟩) (fun i=>i≤l.length∧idxL n l 0=idxL n (l.drop i) (i:Int)) (fun i=>l.length - i) (fun _=>noAnn))
 | _=>none
def l01Index_G:List (Nat×Ctr):=[]
def l01Index_V (l:List Int) (n:Int):Prop :=
 ((∃x0:Nat,(((x0≤l.length)∧(idxL n l (0:Int)=idxL n (List.drop x0 l) (↑x0:Int)))∧((l=l)∧((n=n)∧((0:Int)=(↑x0:Int))))))∧(∀x1:Nat,(((x1≤l.length)∧(idxL n l (0:Int)=idxL n (List.drop x1 l) (↑x1:Int)))→(BrP (decide ((↑x1:Int)<(↑(l.length):Int))) ((inB (↑x1:Int) (l.length))∧(BrP (l.getD ((↑x1:Int).toNat) (0:Int) == n) (((↑x1:Int)=idxL n l (0:Int))∧True) ((InR ((↑x1:Int)+(1:Int)))∧(∃x2:Nat,(((x2≤l.length)∧(idxL n l (0:Int)=idxL n (List.drop x2 l) (↑x2:Int)))∧((l.length - x2<l.length - x1)∧((l=l)∧((n=n)∧((↑x1:Int)+(1:Int)=(↑x2:Int)))))))))) (((-1:Int)=idxL n l (0:Int))∧True)))))
theorem l01Index_vc (l:List Int) (n:Int):runF Try.prog (gam l01Index_G) noWr (l01Index_ann l n) Try.f83 (bodyOf Try.f83) [] [.c (.ints .i64 (l)),.c (.int .i64 (n))] (l01Index_p l n)=l01Index_V l n:=by kernel_rfl
theorem l01Index_ok (l:List Int) (n:Int) (hpre:(l01Index_p l n).pre):l01Index_V l n:=by
 simp only [l01Index_p,l01Index_V,BrP_iff,u1,u2,u3,u4,u5,u6,u7,u8,u9,v1,v2,v3,v4,v5,v6,v7,v8,v9,w1,w2,w3,w4,markL_length,inB,InR,room,bdsOk] at hpre ⊢
 refine ⟨⟨0,⟨by omega,rfl⟩,rfl⟩,fun i ⟨hi,he⟩=>⟨fun h=>?_,fun h=>?_⟩⟩
 ·rw [drop_cons' l 0 i (by omega)] at he
  simp only [idxL] at he
  refine ⟨by omega,fun h1=>?_,fun h1=>⟨by omega,i+1,⟨by omega,?_⟩,by omega,by omega⟩⟩
  ·rw [he,if_pos h1]
  ·rw [he,if_neg h1];simp
 ·rw [he,List.drop_of_length_le (by omega)];rfl
theorem l01Index_fits:Fits Try.prog 83 ⟨[],l01Index_ct⟩:=by
 refine ffn (Γ:=gam l01Index_G) gok_nil Try.func83 fun ds p h hp=>?_
 unfold l01Index_ct at h
 split at h
 ·cases h
  exact ⟨noWr,l01Index_ann _ _ ,by rw [l01Index_vc];exact l01Index_ok _ _  hp⟩
 ·cases h
def l01Has_p (l:List Int) (n:Int):Post:=⟨l.length≤1099511627776,.c (.bool (decide (n∈l))),[]⟩
def l01Has_ct:List AD→Option Post
 | [.c (.ints .i64 (l)),.c (.int .i64 (n))]=>some (l01Has_p l n)
 | _=>none
def l01Has_G:List (Nat×Ctr):=[(83,⟨[],l01Index_ct⟩)]
def l01Has_V (l:List Int) (n:Int):Prop :=
 (((l.length≤(1099511627776:Nat))∧True)∧((decide ((0:Int)≤idxL n l (0:Int))=decide (n∈l))∧True))
theorem l01Has_vc (l:List Int) (n:Int):runF Try.prog (gam l01Has_G) noWr noAnn Try.f55 (bodyOf Try.f55) [] [.c (.ints .i64 (l)),.c (.int .i64 (n))] (l01Has_p l n)=l01Has_V l n:=by kernel_rfl
theorem l01Has_ok (l:List Int) (n:Int) (hpre:(l01Has_p l n).pre):l01Has_V l n:=by
 simp only [l01Has_p,l01Has_V,BrP_iff,u1,u2,u3,u4,u5,u6,u7,u8,u9,v1,v2,v3,v4,v5,v6,v7,v8,v9,w1,w2,w3,w4,markL_length,inB,InR,room,bdsOk] at hpre ⊢
 exact ⟨hpre,idxL_mem n l 0 (by omega)⟩
theorem l01Has_fits:Fits Try.prog 55 ⟨[],l01Has_ct⟩:=by
 refine ffn (Γ:=gam l01Has_G) (gok_cons l01Index_fits gok_nil) Try.func55 fun ds p h hp=>?_
 unfold l01Has_ct at h
 split at h
 ·cases h
  exact ⟨noWr,noAnn,by rw [l01Has_vc];exact l01Has_ok _ _  hp⟩
 ·cases h
def l01Perm_p (l:List Int):Post:=⟨l.length≤1099511627776,.c (.bool (decide (1≤(l.length:Int)∧(l.length:Int)≤12)&&permB l)),[]⟩
def l01Perm_ct:List AD→Option Post
 | [.c (.ints .i64 (l))]=>some (l01Perm_p l)
 | _=>none
def l01Perm_ann (l:List Int):Nat→Option Ann
 | 0=>some (Ann.mk ((Nat)) (fun i=>⟨[(0,.c (.ro (.ints .i64 (l)))),(3,.c (.int .i64 ((l.length:Int)))),(4,.c (.int .i64 ((i:Int))))],[]⟩) (fun i=>i≤l.length∧∀x:Int,0≤x→x<(i:Int)→x∈l) (fun i=>l.length - i) (fun _=>noAnn))
 | _=>none
def l01Perm_G:List (Nat×Ctr):=[(54,⟨[],l01In_ct⟩),(55,⟨[],l01Has_ct⟩)]
def l01Perm_V (l:List Int):Prop :=
 ((True∧True)∧(BrP (!decide ((1:Int)≤(↑(l.length):Int)∧(↑(l.length):Int)≤(12:Int))) ((false=(decide ((1:Int)≤(↑(l.length):Int)∧(↑(l.length):Int)≤(12:Int))&&permB l))∧True) ((∃x0:Nat,(((x0≤l.length)∧(∀(x:Int),(0:Int)≤x→x<(↑x0:Int)→x∈l))∧((l=l)∧(((↑(l.length):Int)=(↑(l.length):Int))∧((0:Int)=(↑x0:Int))))))∧(∀x1:Nat,(((x1≤l.length)∧(∀(x:Int),(0:Int)≤x→x<(↑x1:Int)→x∈l))→(BrP (decide ((↑x1:Int)<(↑(l.length):Int))) (((l.length≤(1099511627776:Nat))∧True)∧(BrP (!decide ((↑x1:Int)∈l)) ((false=(decide ((1:Int)≤(↑(l.length):Int)∧(↑(l.length):Int)≤(12:Int))&&permB l))∧True) ((InR ((↑x1:Int)+(1:Int)))∧(∃x2:Nat,(((x2≤l.length)∧(∀(x:Int),(0:Int)≤x→x<(↑x2:Int)→x∈l))∧((l.length - x2<l.length - x1)∧((l=l)∧(((↑(l.length):Int)=(↑(l.length):Int))∧((↑x1:Int)+(1:Int)=(↑x2:Int)))))))))) ((true=(decide ((1:Int)≤(↑(l.length):Int)∧(↑(l.length):Int)≤(12:Int))&&permB l))∧True)))))))
theorem l01Perm_vc (l:List Int):runF Try.prog (gam l01Perm_G) noWr (l01Perm_ann l) Try.f40 (bodyOf Try.f40) [] [.c (.ints .i64 (l))] (l01Perm_p l)=l01Perm_V l:=by kernel_rfl
theorem l01Perm_ok (l:List Int) (hpre:(l01Perm_p l).pre):l01Perm_V l:=by
 simp only [l01Perm_p,l01Perm_V,BrP_iff,u1,u2,u3,u4,u5,u6,u7,u8,u9,v1,v2,v3,v4,v5,v6,v7,v8,v9,w1,w2,w3,w4,markL_length,inB,InR,room,bdsOk] at hpre ⊢
 refine ⟨fun h=>by rw [decide_eq_false h];rfl,fun h=>⟨⟨0,⟨by omega,fun x a b=>by omega⟩,rfl⟩,fun i ⟨hi,he⟩=>⟨fun h2=>⟨hpre,fun h3=>?_,fun h3=>⟨by omega,i+1,⟨by omega,fun x a b=>?_⟩,by omega,by omega⟩⟩,fun h2=>?_⟩⟩⟩
 ·have:permB l=false:=by
   cases hb:permB l with
   | false=>rfl
   | true=>exact absurd (perm_all.1 hb i (by omega) h2) h3
  rw [this,Bool.and_false]
 ·by_cases hx:x=(i:Int)
  ·rw [hx];exact h3
  ·exact he x a (by omega)
 ·rw [decide_eq_true h,perm_all.2 fun x a b=>he x a (by omega)];rfl
theorem l01Perm_fits:Fits Try.prog 40 ⟨[],l01Perm_ct⟩:=by
 refine ffn (Γ:=gam l01Perm_G) (gok_cons l01In_fits (gok_cons l01Has_fits gok_nil)) Try.func40 fun ds p h hp=>?_
 unfold l01Perm_ct at h
 split at h
 ·cases h
  exact ⟨noWr,l01Perm_ann _ ,by rw [l01Perm_vc];exact l01Perm_ok _  hp⟩
 ·cases h
def seenL (n:Nat) (l:List Int):List Bool:=(List.range n).map fun i:Nat=>decide ((i:Int)∈l)
theorem seenL_length (n:Nat) (l:List Int):(seenL n l).length=n:=by simp [seenL]
theorem seenL_getD (n:Nat) (l:List Int) (k:Nat) (h:k<n):(seenL n l).getD k false=decide ((k:Int)∈l):=by
 simp [seenL,List.getD_eq_getElem?_getD,h]
theorem seenL_nil (n:Nat):seenL n []=List.replicate n false:=by
 apply List.ext_getElem
 ·simp [seenL]
 ·intro i h1 h2
  simp [seenL]
theorem seenL_set (n:Nat) (l:List Int) (k:Nat) (h:k<n):(seenL n l).set k true=seenL n (l++[(k:Int)]):=by
 apply List.ext_getElem
 ·simp [seenL]
 ·intro i h1 h2
  simp only [seenL,List.getElem_set,List.getElem_map,List.getElem_range,List.mem_append,List.mem_singleton]
  by_cases hk:k=i
  ·subst hk;simp
  ·have:¬ (i:Int)=(k:Int):=by omega
   simp [hk,this]
def isPermuted_p (l:List Int):Post:=⟨l.length≤1099511627776,.c (.bool (permB l)),[]⟩
def isPermuted_ct:List AD→Option Post
 | [.c (.ints .i64 (l))]=>some (isPermuted_p l)
 | _=>none
def isPermuted_ann (l:List Int):Nat→Option Ann
 | 0=>some (Ann.mk ((Nat)) (fun i=>⟨[(0,.c (.ro (.ints .i64 (l)))),(3,.c (.own (8))),(9,.c (.ro (.ints .i64 (l)))),(10,.c (.int .i64 ((l.length:Int)))),(11,.c (.int .i64 ((i:Int))))],[(8,some (.bools 4 (seenL l.length (l.take i))))]⟩) (fun i=>i≤l.length∧(∀x∈l.take i,0≤x∧x<(l.length:Int))∧(l.take i).Nodup) (fun i=>l.length - i) (fun _=>noAnn))
 | _=>none
def isPermuted_G:List (Nat×Ctr):=[(86,⟨[],within_ct⟩)]
def isPermuted_V (l:List Int):Prop :=
 ((((0:Int)≤(↑(l.length):Int))∧(((↑(l.length):Int)≤(↑(l.length):Int))∧(room ((↑(l.length):Int).toNat))))∧((∃x0:Nat,(((x0≤l.length)∧((∀(x:Int),x∈List.take x0 l→(0:Int)≤x∧x<(↑(l.length):Int))∧(List.Nodup (List.take x0 l))))∧((l=l)∧((l=l)∧(((↑(l.length):Int)=(↑(l.length):Int))∧(((0:Int)=(↑x0:Int))∧(List.replicate ((↑(l.length):Int).toNat) false=seenL (l.length) (List.take x0 l))))))))∧(∀x1:Nat,(((x1≤l.length)∧((∀(x:Int),x∈List.take x1 l→(0:Int)≤x∧x<(↑(l.length):Int))∧(List.Nodup (List.take x1 l))))→(BrP (decide ((↑x1:Int)<(↑(l.length):Int))) ((inB (↑x1:Int) (l.length))∧((InR ((↑(l.length):Int) - (1:Int)))∧((True∧True)∧(BrP (!decide ((0:Int)≤l.getD ((↑x1:Int).toNat) (0:Int)∧l.getD ((↑x1:Int).toNat) (0:Int)≤(↑(l.length):Int) - (1:Int))) ((false=permB l)∧True) ((inB (l.getD ((↑x1:Int).toNat) (0:Int)) ((seenL (l.length) (List.take x1 l)).length))∧(BrP ((seenL (l.length) (List.take x1 l)).getD ((l.getD ((↑x1:Int).toNat) (0:Int)).toNat) false) ((false=permB l)∧True) ((inB (l.getD ((↑x1:Int).toNat) (0:Int)) ((seenL (l.length) (List.take x1 l)).length))∧((InR ((↑x1:Int)+(1:Int)))∧(∃x2:Nat,(((x2≤l.length)∧((∀(x:Int),x∈List.take x2 l→(0:Int)≤x∧x<(↑(l.length):Int))∧(List.Nodup (List.take x2 l))))∧((l.length - x2<l.length - x1)∧((l=l)∧((l=l)∧(((↑(l.length):Int)=(↑(l.length):Int))∧(((↑x1:Int)+(1:Int)=(↑x2:Int)) ∧
 (List.set (seenL (l.length) (List.take x1 l)) ((l.getD ((↑x1:Int).toNat) (0:Int)).toNat) true=seenL (l.length) (List.take x2 l))))))))))))))))) ((true=permB l)∧True))))))
theorem isPermuted_vc (l:List Int):runF Try.prog (gam isPermuted_G) noWr (isPermuted_ann l) Try.f91 (bodyOf Try.f91) [] [.c (.ints .i64 (l))] (isPermuted_p l)=isPermuted_V l:=by kernel_rfl
theorem isPermuted_ok (l:List Int) (hpre:(isPermuted_p l).pre):isPermuted_V l:=by
 simp only [isPermuted_p,isPermuted_V,BrP_iff,u1,u2,u3,u4,u5,u6,u7,u8,u9,v1,v2,v3,v4,v5,v6,v7,v8,v9,w1,w2,w3,w4,markL_length,inB,InR,room,bdsOk] at hpre ⊢
 refine ⟨by omega,⟨0,⟨by omega,by simp,by simp⟩,rfl,(seenL_nil _).symm⟩,fun i ⟨hi,h1,h2⟩=>⟨fun h=>⟨by omega,by omega,fun h3=>?_,fun h3=>⟨?_,fun h4=>?_,fun h4=>⟨?_,by omega,i+1,⟨by omega,fun x hx=>?_,?_⟩,by omega,by omega,?_⟩⟩⟩,fun h=>?_⟩⟩
 ·exact (decide_eq_false fun e=>h3 (by have:=e.1 _ (getD_mem l 0 i (by omega));omega)).symm
 ·rw [seenL_length];omega
 ·rw [seenL_getD _ _ _ (by omega),decide_eq_true_eq] at h4
  rw [show (((l.getD i 0).toNat:Nat):Int)=l.getD i 0 by omega] at h4
  refine (decide_eq_false fun e=>?_).symm
  have h5:(l.take (i+1)).Nodup:=List.Pairwise.sublist (List.take_sublist _ _) e.2
  rw [←take_snoc l 0 i (by omega),List.nodup_append] at h5
  exact h5.2.2 _ h4 _ (by simp) rfl
 ·rw [seenL_length];omega
 ·rw [←take_snoc l 0 i (by omega),List.mem_append] at hx
  rcases hx with hx | hx
  ·exact h1 x hx
  ·simp only [List.mem_singleton] at hx
   rw [hx];omega
 ·rw [seenL_getD _ _ _ (by omega),decide_eq_false_iff_not] at h4
  rw [show (((l.getD i 0).toNat:Nat):Int)=l.getD i 0 by omega] at h4
  rw [←take_snoc l 0 i (by omega),List.nodup_append]
  refine ⟨h2,by simp,fun a ha b hb=>?_⟩
  simp only [List.mem_singleton] at hb
  rintro rfl
  rw [hb] at ha
  exact h4 ha
 ·rw [←take_snoc l 0 i (by omega),seenL_set _ _ _ (by omega),show (((l.getD i 0).toNat:Nat):Int)=l.getD i 0 by omega]
 ·rw [List.take_of_length_le (by omega)] at h1 h2
  exact (decide_eq_true ⟨h1,h2⟩).symm
theorem isPermuted_fits:Fits Try.prog 91 ⟨[],isPermuted_ct⟩:=by
 refine ffn (Γ:=gam isPermuted_G) (gok_cons within_fits gok_nil) Try.func91 fun ds p h hp=>?_
 unfold isPermuted_ct at h
 split at h
 ·cases h
  exact ⟨noWr,isPermuted_ann _ ,by rw [isPermuted_vc];exact isPermuted_ok _  hp⟩
 ·cases h
def permutationRows1_p (l:List Int):Post:=⟨l.length≤1099511627776,.c (.bool (!permB l)),[]⟩
def permutationRows1_ct:List AD→Option Post
 | [.c (.ints .i64 (l))]=>some (permutationRows1_p l)
 | _=>none
def permutationRows1_G:List (Nat×Ctr):=[(91,⟨[],isPermuted_ct⟩)]
def permutationRows1_V (l:List Int):Prop :=
 (((l.length≤(1099511627776:Nat))∧True)∧(((!permB l)=!permB l)∧True))
theorem permutationRows1_vc (l:List Int):runF Try.prog (gam permutationRows1_G) noWr noAnn Try.f90 (bodyOf Try.f90) [] [.c (.ints .i64 (l))] (permutationRows1_p l)=permutationRows1_V l:=by kernel_rfl
theorem permutationRows1_ok (l:List Int) (hpre:(permutationRows1_p l).pre):permutationRows1_V l:=by
 simp only [permutationRows1_p,permutationRows1_V,BrP_iff,u1,u2,u3,u4,u5,u6,u7,u8,u9,v1,v2,v3,v4,v5,v6,v7,v8,v9,w1,w2,w3,w4,markL_length,inB,InR,room,bdsOk] at hpre ⊢
 exact hpre
theorem permutationRows1_fits:Fits Try.prog 90 ⟨[],permutationRows1_ct⟩:=by
 refine ffn (Γ:=gam permutationRows1_G) (gok_cons isPermuted_fits gok_nil) Try.func90 fun ds p h hp=>?_
 unfold permutationRows1_ct at h
 split at h
 ·cases h
  exact ⟨noWr,noAnn,by rw [permutationRows1_vc];exact permutationRows1_ok _  hp⟩
 ·cases h
def permutationRows_p (t:List (List Int)):Post:=⟨roomR t,.c (.bool (t.all permB)),[]⟩
def permutationRows_ct:List AD→Option Post
 | [.c (.rows .i64 (t))]=>some (permutationRows_p t)
 | _=>none
def permutationRows_G:List (Nat×Ctr):=[(87,⟨[],ContainsFuncR_ct⟩),(90,⟨[],permutationRows1_ct⟩)]
def permutationRows_V (t:List (List Int)):Prop :=
 ((((t.length≤(1099511627776:Nat))∧(∀(x:List Int),x∈t→x.length≤(1099511627776:Nat)))∧True)∧(((!List.any t fun (x:List Int)=>!permB x)=List.all t permB)∧True))
theorem permutationRows_vc (t:List (List Int)):runF Try.prog (gam permutationRows_G) noWr noAnn Try.f60 (bodyOf Try.f60) [] [.c (.rows .i64 (t))] (permutationRows_p t)=permutationRows_V t:=by kernel_rfl
theorem permutationRows_ok (t:List (List Int)) (hpre:(permutationRows_p t).pre):permutationRows_V t:=by
 simp only [permutationRows_p,permutationRows_V,BrP_iff,u1,u2,u3,u4,u5,u6,u7,u8,u9,v1,v2,v3,v4,v5,v6,v7,v8,v9,w1,w2,w3,w4,markL_length,inB,InR,room,bdsOk] at hpre ⊢
 refine ⟨⟨hpre.1,hpre.2⟩,?_⟩
 rw [List.all_eq_not_any_not,Bool.not_not]
theorem permutationRows_fits:Fits Try.prog 60 ⟨[],permutationRows_ct⟩:=by
 refine ffn (Γ:=gam permutationRows_G) (gok_cons ContainsFuncR_fits (gok_cons permutationRows1_fits gok_nil)) Try.func60 fun ds p h hp=>?_
 unfold permutationRows_ct at h
 split at h
 ·cases h
  exact ⟨noWr,noAnn,by rw [permutationRows_vc];exact permutationRows_ok _  hp⟩
 ·cases h
def en (t:List (List Int)) (x y:Nat):Int:=(t.getD x []).getD y 0
end Go.Sx
