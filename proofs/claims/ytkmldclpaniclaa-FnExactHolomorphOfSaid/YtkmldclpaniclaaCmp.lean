/- Cmp -/
import Derived.Test.YtkmldclpaniclaaMat
open Go Go.Proofs
namespace Go.Sx
set_option linter.unusedSimpArgs false
set_option linter.unusedVariables false
def cmpI (x y:Int):Int:=if x<y then -1 else if y<x then 1 else 0
theorem cmpI_zero {x y:Int}:cmpI x y=0↔x=y:=by
 unfold cmpI
 split
 ·omega
 ·split <;> omega
def cmpG {α:Type} (c:α→α→Int):List α→List α→Int
 | [],[]=>0
 | [],_::_=>-1
 | _::_,[]=>1
 | x::a,y::b=>if c x y=0 then cmpG c a b else c x y
theorem cmpG_zero {α:Type} {c:α→α→Int} (hc:∀x y,c x y=0↔x=y):∀{a b:List α},cmpG c a b=0↔a=b
 | [],[]=>by simp [cmpG]
 | [],_::_=>by simp [cmpG]
 | _::_,[]=>by simp [cmpG]
 | x::a,y::b=>by
  simp only [cmpG,List.cons.injEq]
  by_cases h:c x y=0
  ·rw [if_pos h,cmpG_zero hc]
   simp [(hc x y).1 h]
  ·rw [if_neg h]
   exact ⟨fun e=>absurd e h,fun e=>absurd ((hc x y).2 e.1) h⟩
theorem cmpG_step {α:Type} (c:α→α→Int) (d:α) (a b:List α) (i:Nat) (ha:i<a.length) (hb:i<b.length) :
  cmpG c (a.drop i) (b.drop i)=if c (a.getD i d) (b.getD i d)=0 then cmpG c (a.drop (i+1)) (b.drop (i+1)) else c (a.getD i d) (b.getD i d):=by
 rw [drop_cons' a d i ha,drop_cons' b d i hb];rfl
theorem cmpG_short {α:Type} (c:α→α→Int) (d:α) (a b:List α) (i:Nat) (ha:i<a.length) (hb:b.length≤i):cmpG c (a.drop i) (b.drop i)=1:=by
 rw [drop_cons' a d i ha,List.drop_of_length_le hb];rfl
theorem cmpG_end {α:Type} (c:α→α→Int) (d:α) (a b:List α) (i:Nat) (ha:a.length≤i):cmpG c (a.drop i) (b.drop i)=if i<b.length then -1 else 0:=by
 rw [List.drop_of_length_le ha]
 split
 ·rename_i h;rw [drop_cons' b d i h];rfl
 ·rw [List.drop_of_length_le (by omega)];rfl
def isNaN_p (x:Int):Post:=⟨True,.c (.bool (false)),[]⟩
def isNaN_ct:List AD→Option Post
 | [.c (.int .i64 (x))]=>some (isNaN_p x)
 | _=>none
def isNaN_G:List (Nat×Ctr):=[]
def isNaN_V (x:Int):Prop :=
 (((x != x)=false)∧True)
theorem isNaN_vc (x:Int):runF Try.prog (gam isNaN_G) noWr noAnn Try.f73 (bodyOf Try.f73) [] [.c (.int .i64 (x))] (isNaN_p x)=isNaN_V x:=by kernel_rfl
theorem isNaN_ok (x:Int) (hpre:(isNaN_p x).pre):isNaN_V x:=by
 simp only [isNaN_p,isNaN_V,BrP_iff,u1,u2,u3,u4,u5,u6,u7,u8,u9,v1,v2,v3,v4,v5,v6,v7,v8,v9,w1,w2,w3,w4,markL_length,inB,InR,room,bdsOk] at hpre ⊢
theorem isNaN_fits:Fits Try.prog 73 ⟨[],isNaN_ct⟩:=by
 refine ffn (Γ:=gam isNaN_G) gok_nil Try.func73 fun ds p h hp=>?_
 unfold isNaN_ct at h
 split at h
 ·cases h
  exact ⟨noWr,noAnn,by rw [isNaN_vc];exact isNaN_ok _  hp⟩
 ·cases h
def cmpCompare_p (x:Int) (y:Int):Post:=⟨True,.c (.int .i64 (cmpI x y)),[]⟩
def cmpCompare_ct:List AD→Option Post
 | [.c (.int .i64 (x)),.c (.int .i64 (y))]=>some (cmpCompare_p x y)
 | _=>none
def cmpCompare_G:List (Nat×Ctr):=[(73,⟨[],isNaN_ct⟩)]
def cmpCompare_V (x:Int) (y:Int):Prop :=
 ((True∧True)∧((True∧True)∧(BrP (decide (x<y)) (((-1:Int)=cmpI x y)∧True) (BrP (decide (y<x)) (((1:Int)=cmpI x y)∧True) (((0:Int)=cmpI x y)∧True)))))
theorem cmpCompare_vc (x:Int) (y:Int):runF Try.prog (gam cmpCompare_G) noWr noAnn Try.f49 (bodyOf Try.f49) [] [.c (.int .i64 (x)),.c (.int .i64 (y))] (cmpCompare_p x y)=cmpCompare_V x y:=by kernel_rfl
theorem cmpCompare_ok (x:Int) (y:Int) (hpre:(cmpCompare_p x y).pre):cmpCompare_V x y:=by
 simp only [cmpCompare_p,cmpCompare_V,BrP_iff,u1,u2,u3,u4,u5,u6,u7,u8,u9,v1,v2,v3,v4,v5,v6,v7,v8,v9,w1,w2,w3,w4,markL_length,inB,InR,room,bdsOk] at hpre ⊢
 unfold cmpI
 refine ⟨fun h=>?_,fun h=>⟨fun h2=>?_,fun h2=>?_⟩⟩
 ·rw [if_pos h]
 ·rw [if_neg h,if_pos h2]
 ·rw [if_neg h,if_neg h2]
theorem cmpCompare_fits:Fits Try.prog 49 ⟨[],cmpCompare_ct⟩:=by
 refine ffn (Γ:=gam cmpCompare_G) (gok_cons isNaN_fits gok_nil) Try.func49 fun ds p h hp=>?_
 unfold cmpCompare_ct at h
 split at h
 ·cases h
  exact ⟨noWr,noAnn,by rw [cmpCompare_vc];exact cmpCompare_ok _ _  hp⟩
 ·cases h
def slicesCompare_p (a:List Int) (b:List Int):Post:=⟨room a.length∧room b.length,.c (.int .i64 (cmpG cmpI a b)),[]⟩
def slicesCompare_ct:List AD→Option Post
 | [.c (.ints .i64 (a)),.c (.ints .i64 (b))]=>some (slicesCompare_p a b)
 | _=>none
def slicesCompare_ann (a:List Int) (b:List Int):Nat→Option Ann
 | 0=>some (Ann.mk ((Nat)) (fun i=>⟨[(0,.c (.ro (.ints .i64 (a)))),(1,.c (.ro (.ints .i64 (b)))),(9,.c (.ro (.ints .i64 (a)))),(10,.c (.int .i64 ((a.length:Int)))),(11,.c (.int .i64 ((i:Int))))],[]⟩) (fun i=>i≤a.length∧i≤b.length∧cmpG cmpI a b=cmpG cmpI (a.drop i) (b.drop i)) (fun i=>a.length - i) (fun _=>noAnn))
 | _=>none
def slicesCompare_G:List (Nat×Ctr):=[(49,⟨[],cmpCompare_ct⟩)]
def slicesCompare_V (a:List Int) (b:List Int):Prop :=
 ((∃x0:Nat,(((x0≤a.length)∧((x0≤b.length)∧(cmpG cmpI a b=cmpG cmpI (List.drop x0 a) (List.drop x0 b))))∧((a=a)∧((b=b)∧((a=a)∧(((↑(a.length):Int)=(↑(a.length):Int))∧((0:Int)=(↑x0:Int))))))))∧(∀x1:Nat,(((x1≤a.length)∧((x1≤b.length)∧(cmpG cmpI a b=cmpG cmpI (List.drop x1 a) (List.drop x1 b))))→(BrP (decide ((↑x1:Int)<(↑(a.length):Int))) ((inB (↑x1:Int) (a.length))∧(BrP (decide ((↑(b.length):Int)≤(↑x1:Int))) (((1:Int)=cmpG cmpI a b)∧True) ((inB (↑x1:Int) (b.length))∧((True∧True)∧(BrP (cmpI (a.getD ((↑x1:Int).toNat) (0:Int)) (b.getD ((↑x1:Int).toNat) (0:Int)) != (0:Int)) ((cmpI (a.getD ((↑x1:Int).toNat) (0:Int)) (b.getD ((↑x1:Int).toNat) (0:Int))=cmpG cmpI a b)∧True) ((InR ((↑x1:Int)+(1:Int)))∧(∃x2:Nat,(((x2≤a.length)∧((x2≤b.length)∧(cmpG cmpI a b=cmpG cmpI (List.drop x2 a) (List.drop x2 b))))∧((a.length - x2<a.length - x1)∧((a=a)∧((b=b)∧((a=a)∧(((↑(a.length):Int)=(↑(a.length):Int))∧((↑x1:Int)+(1:Int)=(↑x2:Int))))))))))))))) (BrP (decide ((↑(a.length):Int)<(↑(b.length):Int))) (((-1:Int)=cmpG cmpI a b)∧True) (((0:Int)=cmpG cmpI a b)∧True))))))
theorem slicesCompare_vc (a:List Int) (b:List Int):runF Try.prog (gam slicesCompare_G) noWr (slicesCompare_ann a b) Try.f29 (bodyOf Try.f29) [] [.c (.ints .i64 (a)),.c (.ints .i64 (b))] (slicesCompare_p a b)=slicesCompare_V a b:=by kernel_rfl
theorem slicesCompare_ok (a:List Int) (b:List Int) (hpre:(slicesCompare_p a b).pre):slicesCompare_V a b:=by
 simp only [slicesCompare_p,slicesCompare_V,BrP_iff,u1,u2,u3,u4,u5,u6,u7,u8,u9,v1,v2,v3,v4,v5,v6,v7,v8,v9,w1,w2,w3,w4,markL_length,inB,InR,room,bdsOk] at hpre ⊢
 refine ⟨⟨0,⟨by omega,by omega,rfl⟩,rfl⟩,fun i ⟨hi,hj,he⟩=>⟨fun h=>⟨by omega,fun h2=>?_,fun h2=>⟨by omega,fun h3=>?_,fun h3=>⟨by omega,i+1,⟨by omega,by omega,?_⟩,by omega,by omega⟩⟩⟩,fun h=>⟨fun h2=>?_,fun h2=>?_⟩⟩⟩
 ·rw [he,cmpG_short cmpI 0 a b i (by omega) (by omega)]
 ·rw [he,cmpG_step cmpI 0 a b i (by omega) (by omega),if_neg h3]
 ·rw [he,cmpG_step cmpI 0 a b i (by omega) (by omega),if_pos h3]
 ·rw [he,cmpG_end cmpI 0 a b i (by omega),if_pos (by omega)]
 ·rw [he,cmpG_end cmpI 0 a b i (by omega),if_neg (by omega)]
theorem slicesCompare_fits:Fits Try.prog 29 ⟨[],slicesCompare_ct⟩:=by
 refine ffn (Γ:=gam slicesCompare_G) (gok_cons cmpCompare_fits gok_nil) Try.func29 fun ds p h hp=>?_
 unfold slicesCompare_ct at h
 split at h
 ·cases h
  exact ⟨noWr,slicesCompare_ann _ _ ,by rw [slicesCompare_vc];exact slicesCompare_ok _ _  hp⟩
 ·cases h
def l01Same_p (a:List Int) (b:List Int):Post:=⟨room a.length,.c (.bool (decide (a=b))),[]⟩
def l01Same_ct:List AD→Option Post
 | [.c (.ints .i64 (a)),.c (.ints .i64 (b))]=>some (l01Same_p a b)
 | _=>none
def l01Same_ann (a:List Int) (b:List Int):Nat→Option Ann
 | 0=>some (Ann.mk ((Nat)) (fun i=>⟨[(0,.c (.ro (.ints .i64 (a)))),(1,.c (.ro (.ints .i64 (b)))),(5,.c (.int .i64 ((i:Int))))],[]⟩) (fun i=>i≤a.length∧a.length=b.length∧a.take i=b.take i) (fun i=>a.length - i) (fun _=>noAnn))
 | _=>none
def l01Same_G:List (Nat×Ctr):=[]
def l01Same_V (a:List Int) (b:List Int):Prop :=
 (BrP ((↑(a.length):Int) != (↑(b.length):Int)) ((false=decide (a=b))∧True) ((∃x0:Nat,(((x0≤a.length)∧((a.length=b.length)∧(List.take x0 a=List.take x0 b)))∧((a=a)∧((b=b)∧((0:Int)=(↑x0:Int))))))∧(∀x1:Nat,(((x1≤a.length)∧((a.length=b.length)∧(List.take x1 a=List.take x1 b)))→(BrP (decide ((↑x1:Int)<(↑(a.length):Int))) ((inB (↑x1:Int) (a.length))∧((inB (↑x1:Int) (b.length))∧(BrP (a.getD ((↑x1:Int).toNat) (0:Int) != b.getD ((↑x1:Int).toNat) (0:Int)) ((false=decide (a=b))∧True) ((InR ((↑x1:Int)+(1:Int)))∧(∃x2:Nat,(((x2≤a.length)∧((a.length=b.length)∧(List.take x2 a=List.take x2 b)))∧((a.length - x2<a.length - x1)∧((a=a)∧((b=b)∧((↑x1:Int)+(1:Int)=(↑x2:Int))))))))))) ((true=decide (a=b))∧True))))))
theorem l01Same_vc (a:List Int) (b:List Int):runF Try.prog (gam l01Same_G) noWr (l01Same_ann a b) Try.f85 (bodyOf Try.f85) [] [.c (.ints .i64 (a)),.c (.ints .i64 (b))] (l01Same_p a b)=l01Same_V a b:=by kernel_rfl
theorem l01Same_ok (a:List Int) (b:List Int) (hpre:(l01Same_p a b).pre):l01Same_V a b:=by
 simp only [l01Same_p,l01Same_V,BrP_iff,u1,u2,u3,u4,u5,u6,u7,u8,u9,v1,v2,v3,v4,v5,v6,v7,v8,v9,w1,w2,w3,w4,markL_length,inB,InR,room,bdsOk] at hpre ⊢
 refine ⟨fun h=>?_,fun h=>⟨⟨0,⟨by omega,by omega,rfl⟩,by simp⟩,fun i hi=>⟨fun h1=>⟨by omega,by omega,fun h2=>?_,fun h2=>⟨by omega,i+1,⟨by omega,hi.2.1,?_⟩,by omega,by omega⟩⟩,fun h1=>?_⟩⟩⟩
 ·exact (decide_eq_false fun e=>h (by rw [e])).symm
 ·exact (decide_eq_false fun e=>h2 (by rw [e])).symm
 ·exact (take_eq_step a b 0 i (by omega) (by omega) hi.2.2).2 h2
 ·refine (decide_eq_true ?_).symm
  have:=hi.2.2
  rwa [List.take_of_length_le (by omega),List.take_of_length_le (by omega)] at this
theorem l01Same_fits:Fits Try.prog 85 ⟨[],l01Same_ct⟩:=by
 refine ffn (Γ:=gam l01Same_G) gok_nil Try.func85 fun ds p h hp=>?_
 unfold l01Same_ct at h
 split at h
 ·cases h
  exact ⟨noWr,l01Same_ann _ _ ,by rw [l01Same_vc];exact l01Same_ok _ _  hp⟩
 ·cases h
end Go.Sx
