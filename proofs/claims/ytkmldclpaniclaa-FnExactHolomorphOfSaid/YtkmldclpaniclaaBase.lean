/- Base -/
import Derived.Test.YtkmldclpaniclaaProg
import Derived.Test.YtkmldclpaniclaaSxZ
import Derived.KernelRfl
open Go Go.Proofs
namespace Go.Sx
set_option linter.unusedSimpArgs false
set_option linter.unusedVariables false
def toInt64S_p (l:List Int):Post:=⟨room l.length,.c (.ints 2 .i64 (l)),[]⟩
def toInt64S_ct:List AD→Option Post
 | [.c (.ints .i64 (l))]=>some (toInt64S_p l)
 | _=>none
def toInt64S_ann (l:List Int):Nat→Option Ann
 | 0=>some (Ann.mk ((Nat)) (fun i=>⟨[(0,.c (.ro (.ints .i64 (l)))),(4,.c (.int .i64 ((i:Int)))),(3,.c (.own (1)))],[(1,some (.ints 2 .i64 (l.take i++List.replicate (l.length - i) 0)))]⟩) (fun i=>i≤l.length) (fun i=>l.length - i) (fun _=>noAnn))
 | _=>none
def toInt64S_G:List (Nat×Ctr):=[]
def toInt64S_V (l:List Int):Prop :=
 ((((0:Int)≤(↑(l.length):Int))∧(((↑(l.length):Int)≤(↑(l.length):Int))∧(room ((↑(l.length):Int).toNat))))∧((∃x0:Nat,((x0≤l.length)∧((l=l)∧(((0:Int)=(↑x0:Int))∧(List.replicate ((↑(l.length):Int).toNat) (0:Int)=List.take x0 l++List.replicate (l.length - x0) (0:Int))))))∧(∀x1:Nat,((x1≤l.length)→(BrP (decide ((↑x1:Int)<(↑(l.length):Int))) ((inB (↑x1:Int) (l.length))∧((inB (↑x1:Int) ((List.take x1 l++List.replicate (l.length - x1) (0:Int)).length))∧((InR ((↑x1:Int)+(1:Int)))∧(∃x2:Nat,((x2≤l.length)∧((l.length - x2<l.length - x1)∧((l=l)∧(((↑x1:Int)+(1:Int)=(↑x2:Int))∧(List.set (List.take x1 l++List.replicate (l.length - x1) (0:Int)) ((↑x1:Int).toNat) (l.getD ((↑x1:Int).toNat) (0:Int))=List.take x2 l++List.replicate (l.length - x2) (0:Int)))))))))) ((List.take x1 l++List.replicate (l.length - x1) (0:Int)=l)∧True))))))
theorem toInt64S_vc (l:List Int):runF Try.prog (gam toInt64S_G) noWr (toInt64S_ann l) Try.f43 (bodyOf Try.f43) [] [.c (.ints .i64 (l))] (toInt64S_p l)=toInt64S_V l:=by kernel_rfl
theorem toInt64S_ok (l:List Int) (hpre:(toInt64S_p l).pre):toInt64S_V l:=by
 simp only [toInt64S_p,toInt64S_V,BrP_iff,u1,u2,u3,u4,u5,u6,u7,u8,u9,v1,v2,v3,v4,v5,v6,v7,v8,v9,w1,w2,w3,w4,markL_length,inB,InR,room,bdsOk] at hpre ⊢
 exact ⟨by omega,⟨0,by omega,by simp,by simp⟩,fun i hi=>⟨fun h=>⟨by omega,by omega,by omega,i+1,by omega,by omega,by omega,fill_step l 0 0 i (by omega)⟩,fun h=>fill_end l 0 i (by omega)⟩⟩
theorem toInt64S_fits:Fits Try.prog 43 ⟨[],toInt64S_ct⟩:=by
 refine ffn (Γ:=gam toInt64S_G) gok_nil Try.func43 fun ds p h hp=>?_
 unfold toInt64S_ct at h
 split at h
 ·cases h
  exact ⟨noWr,toInt64S_ann _ ,by rw [toInt64S_vc];exact toInt64S_ok _  hp⟩
 ·cases h
def eqInt64S_p (a:List Int) (b:List Int):Post:=⟨room a.length,.c (.bool (decide (a=b))),[]⟩
def eqInt64S_ct:List AD→Option Post
 | [.c (.ints .i64 (a)),.c (.ints .i64 (b))]=>some (eqInt64S_p a b)
 | _=>none
def eqInt64S_ann (a:List Int) (b:List Int):Nat→Option Ann
 | 0=>some (Ann.mk ((Nat)) (fun i=>⟨[(0,.c (.ro (.ints .i64 (a)))),(1,.c (.ro (.ints .i64 (b)))),(5,.c (.int .i64 ((i:Int))))],[]⟩) (fun i=>i≤a.length∧a.length=b.length∧a.take i=b.take i) (fun i=>a.length - i) (fun _=>noAnn))
 | _=>none
def eqInt64S_G:List (Nat×Ctr):=[]
def eqInt64S_V (a:List Int) (b:List Int):Prop :=
 (BrP ((↑(a.length):Int) != (↑(b.length):Int)) ((false=decide (a=b))∧True) ((∃x0:Nat,(((x0≤a.length)∧((a.length=b.length)∧(List.take x0 a=List.take x0 b)))∧((a=a)∧((b=b)∧((0:Int)=(↑x0:Int))))))∧(∀x1:Nat,(((x1≤a.length)∧((a.length=b.length)∧(List.take x1 a=List.take x1 b)))→(BrP (decide ((↑x1:Int)<(↑(a.length):Int))) ((inB (↑x1:Int) (a.length))∧((inB (↑x1:Int) (b.length))∧(BrP (a.getD ((↑x1:Int).toNat) (0:Int) != b.getD ((↑x1:Int).toNat) (0:Int)) ((false=decide (a=b))∧True) ((InR ((↑x1:Int)+(1:Int)))∧(∃x2:Nat,(((x2≤a.length)∧((a.length=b.length)∧(List.take x2 a=List.take x2 b)))∧((a.length - x2<a.length - x1)∧((a=a)∧((b=b)∧((↑x1:Int)+(1:Int)=(↑x2:Int))))))))))) ((true=decide (a=b))∧True))))))
theorem eqInt64S_vc (a:List Int) (b:List Int):runF Try.prog (gam eqInt64S_G) noWr (eqInt64S_ann a b) Try.f32 (bodyOf Try.f32) [] [.c (.ints .i64 (a)),.c (.ints .i64 (b))] (eqInt64S_p a b)=eqInt64S_V a b:=by kernel_rfl
theorem eqInt64S_ok (a:List Int) (b:List Int) (hpre:(eqInt64S_p a b).pre):eqInt64S_V a b:=by
 simp only [eqInt64S_p,eqInt64S_V,BrP_iff,u1,u2,u3,u4,u5,u6,u7,u8,u9,v1,v2,v3,v4,v5,v6,v7,v8,v9,w1,w2,w3,w4,markL_length,inB,InR,room,bdsOk] at hpre ⊢
 refine ⟨fun h=>?_,fun h=>⟨⟨0,⟨by omega,by omega,rfl⟩,by simp⟩,fun i hi=>⟨fun h1=>⟨by omega,by omega,fun h2=>?_,fun h2=>⟨by omega,i+1,⟨by omega,hi.2.1,?_⟩,by omega,by omega⟩⟩,fun h1=>?_⟩⟩⟩
 ·exact (decide_eq_false fun e=>h (by rw [e])).symm
 ·exact (decide_eq_false fun e=>h2 (by rw [e])).symm
 ·exact (take_eq_step a b 0 i (by omega) (by omega) hi.2.2).2 h2
 ·refine (decide_eq_true ?_).symm
  have:=hi.2.2
  rwa [List.take_of_length_le (by omega),List.take_of_length_le (by omega)] at this
theorem eqInt64S_fits:Fits Try.prog 32 ⟨[],eqInt64S_ct⟩:=by
 refine ffn (Γ:=gam eqInt64S_G) gok_nil Try.func32 fun ds p h hp=>?_
 unfold eqInt64S_ct at h
 split at h
 ·cases h
  exact ⟨noWr,eqInt64S_ann _ _ ,by rw [eqInt64S_vc];exact eqInt64S_ok _ _  hp⟩
 ·cases h
def markInt64S_p (l:List Int) (k:Int):Post:=⟨room l.length∧0≤k∧k≤1099511627776,.c (.int .i64 (k+(l.length:Int))),[.ints 2 .i64 (markL k l.length)]⟩
def markInt64S_ct:List AD→Option Post
 | [.c (.ints .i64 (l)),.c (.int .i64 (k))]=>some (markInt64S_p l k)
 | _=>none
def markInt64S_ann (l:List Int) (k:Int):Nat→Option Ann
 | 0=>some (Ann.mk ((Nat)) (fun i=>⟨[(0,.c (.own (700))),(1,.c (.int .i64 (k+(i:Int)))),(5,.c (.int .i64 ((i:Int))))],[(700,some (.ints 2 .i64 ((markL k l.length).take i++l.drop i)))]⟩) (fun i=>i≤l.length) (fun i=>l.length - i) (fun _=>noAnn))
 | _=>none
def markInt64S_G:List (Nat×Ctr):=[]
def markInt64S_V (l:List Int) (k:Int):Prop :=
 ((∃x0:Nat,((x0≤l.length)∧((k=k+(↑x0:Int))∧(((0:Int)=(↑x0:Int))∧(l=List.take x0 (markL k (l.length))++List.drop x0 l)))))∧(∀x1:Nat,((x1≤l.length)→(BrP (decide ((↑x1:Int)<(↑((List.take x1 (markL k (l.length))++List.drop x1 l).length):Int))) ((inB (↑x1:Int) ((List.take x1 (markL k (l.length))++List.drop x1 l).length))∧((InR (k+(↑x1:Int)+(1:Int)))∧((InR ((↑x1:Int)+(1:Int)))∧(∃x2:Nat,((x2≤l.length)∧((l.length - x2<l.length - x1)∧((k+(↑x1:Int)+(1:Int)=k+(↑x2:Int))∧(((↑x1:Int)+(1:Int)=(↑x2:Int))∧(List.set (List.take x1 (markL k (l.length))++List.drop x1 l) ((↑x1:Int).toNat) (k+(↑x1:Int))=List.take x2 (markL k (l.length))++List.drop x2 l))))))))) ((k+(↑x1:Int)=k+(↑(l.length):Int))∧((List.take x1 (markL k (l.length))++List.drop x1 l=markL k (l.length))∧True))))))
theorem markInt64S_vc (l:List Int) (k:Int):runF Try.prog (gam markInt64S_G) noWr (markInt64S_ann l k) Try.f33 (bodyOf Try.f33) [(0,0)] [.c (.ints .i64 (l)),.c (.int .i64 (k))] (markInt64S_p l k)=markInt64S_V l k:=by kernel_rfl
theorem markInt64S_ok (l:List Int) (k:Int) (hpre:(markInt64S_p l k).pre):markInt64S_V l k:=by
 simp only [markInt64S_p,markInt64S_V,BrP_iff,u1,u2,u3,u4,u5,u6,u7,u8,u9,v1,v2,v3,v4,v5,v6,v7,v8,v9,w1,w2,w3,w4,markL_length,inB,InR,room,bdsOk] at hpre ⊢
 obtain ⟨h1,h2,h3⟩:=hpre
 refine ⟨⟨0,by omega,by simp⟩,fun i hi=>⟨fun h=>⟨by omega,by omega,by omega,i+1,by omega,by omega,by omega,by omega,?_⟩,fun h=>⟨?_,?_⟩⟩⟩
 ·rw [←set_take_drop (markL k l.length) l 0 i (markL_length _ _) (by omega),markL_getD _ _ _ (by omega)]
 ·omega
 ·rw [List.take_of_length_le (by rw [markL_length];omega),List.drop_of_length_le (by omega),List.append_nil]
theorem markInt64S_fits:Fits Try.prog 33 ⟨[(0,0)],markInt64S_ct⟩:=by
 refine ffn (Γ:=gam markInt64S_G) gok_nil Try.func33 fun ds p h hp=>?_
 unfold markInt64S_ct at h
 split at h
 ·cases h
  exact ⟨noWr,markInt64S_ann _ _ ,by rw [markInt64S_vc];exact markInt64S_ok _ _  hp⟩
 ·cases h
def heldInt64S_p (l:List Int) (k:Int):Post:=⟨room l.length∧0≤k∧k≤1099511627776,.c (.int .i64 (if l=markL k l.length then k+(l.length:Int) else -1)),[]⟩
def heldInt64S_ct:List AD→Option Post
 | [.c (.ints .i64 (l)),.c (.int .i64 (k))]=>some (heldInt64S_p l k)
 | _=>none
def heldInt64S_ann (l:List Int) (k:Int):Nat→Option Ann
 | 0=>some (Ann.mk ((Nat)) (fun i=>⟨[(0,.c (.ro (.ints .i64 (l)))),(1,.c (.int .i64 (k+(i:Int)))),(5,.c (.int .i64 ((i:Int))))],[]⟩) (fun i=>i≤l.length∧l.take i=(markL k l.length).take i) (fun i=>l.length - i) (fun _=>noAnn))
 | _=>none
def heldInt64S_G:List (Nat×Ctr):=[]
def heldInt64S_V (l:List Int) (k:Int):Prop :=
 ((∃x0:Nat,(((x0≤l.length)∧(List.take x0 l=List.take x0 (markL k (l.length))))∧((l=l)∧((k=k+(↑x0:Int))∧((0:Int)=(↑x0:Int))))))∧(∀x1:Nat,(((x1≤l.length)∧(List.take x1 l=List.take x1 (markL k (l.length))))→(BrP (decide ((↑x1:Int)<(↑(l.length):Int))) ((inB (↑x1:Int) (l.length))∧(BrP (l.getD ((↑x1:Int).toNat) (0:Int) != k+(↑x1:Int)) (((-1:Int)=if l=markL k (l.length) then k+(↑(l.length):Int) else (-1:Int))∧True) ((InR (k+(↑x1:Int)+(1:Int)))∧((InR ((↑x1:Int)+(1:Int)))∧(∃x2:Nat,(((x2≤l.length)∧(List.take x2 l=List.take x2 (markL k (l.length))))∧((l.length - x2<l.length - x1)∧((l=l)∧((k+(↑x1:Int)+(1:Int)=k+(↑x2:Int))∧((↑x1:Int)+(1:Int)=(↑x2:Int))))))))))) ((k+(↑x1:Int)=if l=markL k (l.length) then k+(↑(l.length):Int) else (-1:Int))∧True)))))
theorem heldInt64S_vc (l:List Int) (k:Int):runF Try.prog (gam heldInt64S_G) noWr (heldInt64S_ann l k) Try.f34 (bodyOf Try.f34) [] [.c (.ints .i64 (l)),.c (.int .i64 (k))] (heldInt64S_p l k)=heldInt64S_V l k:=by kernel_rfl
theorem heldInt64S_ok (l:List Int) (k:Int) (hpre:(heldInt64S_p l k).pre):heldInt64S_V l k:=by
 simp only [heldInt64S_p,heldInt64S_V,BrP_iff,u1,u2,u3,u4,u5,u6,u7,u8,u9,v1,v2,v3,v4,v5,v6,v7,v8,v9,w1,w2,w3,w4,markL_length,inB,InR,room,bdsOk] at hpre ⊢
 obtain ⟨h1,h2,h3⟩:=hpre
 refine ⟨⟨0,⟨by omega,rfl⟩,by simp⟩,fun i hi=>⟨fun h=>⟨by omega,fun h4=>?_,fun h4=>⟨by omega,by omega,i+1,⟨by omega,?_⟩,by omega,by omega,by omega⟩⟩,fun h=>?_⟩⟩
 ·rw [if_neg]
  intro e
  rw [e,markL_getD _ _ _ (by omega)] at h4
  exact h4 rfl
 ·rw [take_eq_step l (markL k l.length) 0 i (by omega) (by rw [markL_length];omega) hi.2,markL_getD _ _ _ (by omega),h4]
 ·have:=hi.2
  rw [List.take_of_length_le (by omega),List.take_of_length_le (by rw [markL_length];omega)] at this
  rw [if_pos this]
  omega
theorem heldInt64S_fits:Fits Try.prog 34 ⟨[],heldInt64S_ct⟩:=by
 refine ffn (Γ:=gam heldInt64S_G) gok_nil Try.func34 fun ds p h hp=>?_
 unfold heldInt64S_ct at h
 split at h
 ·cases h
  exact ⟨noWr,heldInt64S_ann _ _ ,by rw [heldInt64S_vc];exact heldInt64S_ok _ _  hp⟩
 ·cases h
def szInt64S_p (l:List Int) (k:Int):Post:=⟨(l.length:Int)≤9223372036854775807∧0≤k∧k≤1099511627776,.c (.int .i64 (if k<(l.length:Int) then -1 else k - (l.length:Int))),[]⟩
def szInt64S_ct:List AD→Option Post
 | [.c (.ints .i64 (l)),.c (.int .i64 (k))]=>some (szInt64S_p l k)
 | _=>none
def szInt64S_G:List (Nat×Ctr):=[]
def szInt64S_V (l:List Int) (k:Int):Prop :=
 ((InR (k - (↑(l.length):Int)))∧(BrP (decide (k - (↑(l.length):Int)<(0:Int))) (((-1:Int)=if k<(↑(l.length):Int) then (-1:Int) else k - (↑(l.length):Int))∧True) ((k - (↑(l.length):Int)=if k<(↑(l.length):Int) then (-1:Int) else k - (↑(l.length):Int))∧True)))
theorem szInt64S_vc (l:List Int) (k:Int):runF Try.prog (gam szInt64S_G) noWr noAnn Try.f38 (bodyOf Try.f38) [] [.c (.ints .i64 (l)),.c (.int .i64 (k))] (szInt64S_p l k)=szInt64S_V l k:=by kernel_rfl
theorem szInt64S_ok (l:List Int) (k:Int) (hpre:(szInt64S_p l k).pre):szInt64S_V l k:=by
 simp only [szInt64S_p,szInt64S_V,BrP_iff,u1,u2,u3,u4,u5,u6,u7,u8,u9,v1,v2,v3,v4,v5,v6,v7,v8,v9,w1,w2,w3,w4,markL_length,inB,InR,room,bdsOk] at hpre ⊢
 obtain ⟨h1,h2,h3⟩:=hpre
 refine ⟨by omega,fun h=>?_,fun h=>?_⟩
 ·rw [if_pos (by omega)]
 ·rw [if_neg (by omega)]
theorem szInt64S_fits:Fits Try.prog 38 ⟨[],szInt64S_ct⟩:=by
 refine ffn (Γ:=gam szInt64S_G) gok_nil Try.func38 fun ds p h hp=>?_
 unfold szInt64S_ct at h
 split at h
 ·cases h
  exact ⟨noWr,noAnn,by rw [szInt64S_vc];exact szInt64S_ok _ _  hp⟩
 ·cases h
def within_p (n:Int) (a:Int) (b:Int):Post:=⟨True,.c (.bool (decide (a≤n∧n≤b))),[]⟩
def within_ct:List AD→Option Post
 | [.c (.int .i64 (n)),.c (.int .i64 (a)),.c (.int .i64 (b))]=>some (within_p n a b)
 | _=>none
def within_G:List (Nat×Ctr):=[]
def within_V (n:Int) (a:Int) (b:Int):Prop :=
 (BrP (decide (a≤n)) ((decide (n≤b)=decide (a≤n∧n≤b))∧True) ((false=decide (a≤n∧n≤b))∧True))
theorem within_vc (n:Int) (a:Int) (b:Int):runF Try.prog (gam within_G) noWr noAnn Try.f86 (bodyOf Try.f86) [] [.c (.int .i64 (n)),.c (.int .i64 (a)),.c (.int .i64 (b))] (within_p n a b)=within_V n a b:=by kernel_rfl
theorem within_ok (n:Int) (a:Int) (b:Int) (hpre:(within_p n a b).pre):within_V n a b:=by
 simp only [within_p,within_V,BrP_iff,u1,u2,u3,u4,u5,u6,u7,u8,u9,v1,v2,v3,v4,v5,v6,v7,v8,v9,w1,w2,w3,w4,markL_length,inB,InR,room,bdsOk] at hpre ⊢
 refine ⟨fun h=>?_,fun h=>?_⟩
 ·simp [h]
 ·simp [h]
theorem within_fits:Fits Try.prog 86 ⟨[],within_ct⟩:=by
 refine ffn (Γ:=gam within_G) gok_nil Try.func86 fun ds p h hp=>?_
 unfold within_ct at h
 split at h
 ·cases h
  exact ⟨noWr,noAnn,by rw [within_vc];exact within_ok _ _ _  hp⟩
 ·cases h
def l01In_p (n:Int) (a:Int) (b:Int):Post:=⟨True,.c (.bool (decide (a≤n∧n≤b))),[]⟩
def l01In_ct:List AD→Option Post
 | [.c (.int .i64 (n)),.c (.int .i64 (a)),.c (.int .i64 (b))]=>some (l01In_p n a b)
 | _=>none
def l01In_G:List (Nat×Ctr):=[]
def l01In_V (n:Int) (a:Int) (b:Int):Prop :=
 (BrP (decide (a≤n)) ((decide (n≤b)=decide (a≤n∧n≤b))∧True) ((false=decide (a≤n∧n≤b))∧True))
theorem l01In_vc (n:Int) (a:Int) (b:Int):runF Try.prog (gam l01In_G) noWr noAnn Try.f54 (bodyOf Try.f54) [] [.c (.int .i64 (n)),.c (.int .i64 (a)),.c (.int .i64 (b))] (l01In_p n a b)=l01In_V n a b:=by kernel_rfl
theorem l01In_ok (n:Int) (a:Int) (b:Int) (hpre:(l01In_p n a b).pre):l01In_V n a b:=by
 simp only [l01In_p,l01In_V,BrP_iff,u1,u2,u3,u4,u5,u6,u7,u8,u9,v1,v2,v3,v4,v5,v6,v7,v8,v9,w1,w2,w3,w4,markL_length,inB,InR,room,bdsOk] at hpre ⊢
 refine ⟨fun h=>?_,fun h=>?_⟩
 ·simp [h]
 ·simp [h]
theorem l01In_fits:Fits Try.prog 54 ⟨[],l01In_ct⟩:=by
 refine ffn (Γ:=gam l01In_G) gok_nil Try.func54 fun ds p h hp=>?_
 unfold l01In_ct at h
 split at h
 ·cases h
  exact ⟨noWr,noAnn,by rw [l01In_vc];exact l01In_ok _ _ _  hp⟩
 ·cases h
def allW (lo hi:Int) (l:List Int):Bool:=l.all fun x=>decide (lo≤x∧x≤hi)
theorem allW_drop (lo hi:Int) (l:List Int) (i:Nat) (h:i<l.length):allW lo hi (l.drop i)=(decide (lo≤l.getD i 0∧l.getD i 0≤hi)&&allW lo hi (l.drop (i+1))):=by
 rw [drop_cons' l 0 i h]
 rfl
theorem allW_get {lo hi:Int} {l:List Int} (h:allW lo hi l=true) (i:Nat) (hi':i<l.length):lo≤l.getD i 0∧l.getD i 0≤hi:=by
 rw [getD_lt l 0 i hi']
 have:=List.all_eq_true.1 h _ (List.getElem_mem hi')
 simpa using this
def allWithin_p (l:List Int) (a:Int) (b:Int):Post:=⟨room l.length,.c (.bool (allW a b l)),[]⟩
def allWithin_ct:List AD→Option Post
 | [.c (.ints .i64 (l)),.c (.int .i64 (a)),.c (.int .i64 (b))]=>some (allWithin_p l a b)
 | _=>none
def allWithin_ann (l:List Int) (a:Int) (b:Int):Nat→Option Ann
 | 0=>some (Ann.mk ((Nat)) (fun i=>⟨[(1,.c (.int .i64 (a))),(2,.c (.int .i64 (b))),(9,.c (.ro (.ints .i64 (l)))),(10,.c (.int .i64 ((l.length:Int)))),(11,.c (.int .i64 ((i:Int))))],[]⟩) (fun i=>i≤l.length∧allW a b l=allW a b (l.drop i)) (fun i=>l.length - i) (fun _=>noAnn))
 | _=>none
def allWithin_G:List (Nat×Ctr):=[(86,⟨[],within_ct⟩)]
def allWithin_V (l:List Int) (a:Int) (b:Int):Prop :=
 ((∃x0:Nat,(((x0≤l.length)∧(allW a b l=allW a b (List.drop x0 l)))∧((a=a)∧((b=b)∧((l=l)∧(((↑(l.length):Int)=(↑(l.length):Int))∧((0:Int)=(↑x0:Int))))))))∧(∀x1:Nat,(((x1≤l.length)∧(allW a b l=allW a b (List.drop x1 l)))→(BrP (decide ((↑x1:Int)<(↑(l.length):Int))) ((inB (↑x1:Int) (l.length))∧((True∧True)∧(BrP (!decide (a≤l.getD ((↑x1:Int).toNat) (0:Int)∧l.getD ((↑x1:Int).toNat) (0:Int)≤b)) ((false=allW a b l)∧True) ((InR ((↑x1:Int)+(1:Int)))∧(∃x2:Nat,(((x2≤l.length)∧(allW a b l=allW a b (List.drop x2 l)))∧((l.length - x2<l.length - x1)∧((a=a)∧((b=b)∧((l=l)∧(((↑(l.length):Int)=(↑(l.length):Int))∧((↑x1:Int)+(1:Int)=(↑x2:Int))))))))))))) ((true=allW a b l)∧True)))))
theorem allWithin_vc (l:List Int) (a:Int) (b:Int):runF Try.prog (gam allWithin_G) noWr (allWithin_ann l a b) Try.f89 (bodyOf Try.f89) [] [.c (.ints .i64 (l)),.c (.int .i64 (a)),.c (.int .i64 (b))] (allWithin_p l a b)=allWithin_V l a b:=by kernel_rfl
theorem allWithin_ok (l:List Int) (a:Int) (b:Int) (hpre:(allWithin_p l a b).pre):allWithin_V l a b:=by
 simp only [allWithin_p,allWithin_V,BrP_iff,u1,u2,u3,u4,u5,u6,u7,u8,u9,v1,v2,v3,v4,v5,v6,v7,v8,v9,w1,w2,w3,w4,markL_length,inB,InR,room,bdsOk] at hpre ⊢
 refine ⟨⟨0,⟨by omega,rfl⟩,rfl⟩,fun i ⟨hi,he⟩=>⟨fun h=>?_,fun h=>?_⟩⟩
 ·have hd:=allW_drop a b l i (by omega)
  refine ⟨by omega,fun h1=>?_,fun h1=>⟨by omega,i+1,⟨by omega,?_⟩,by omega,by omega⟩⟩
  ·rw [he,hd,decide_eq_false h1];rfl
  ·rw [he,hd,decide_eq_true h1];rfl
 ·rw [he,List.drop_of_length_le (by omega)];rfl
theorem allWithin_fits:Fits Try.prog 89 ⟨[],allWithin_ct⟩:=by
 refine ffn (Γ:=gam allWithin_G) (gok_cons within_fits gok_nil) Try.func89 fun ds p h hp=>?_
 unfold allWithin_ct at h
 split at h
 ·cases h
  exact ⟨noWr,allWithin_ann _ _ _ ,by rw [allWithin_vc];exact allWithin_ok _ _ _  hp⟩
 ·cases h
end Go.Sx
