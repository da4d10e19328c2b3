/- DrawD -/
import Derived.Test.YtjkbnanffneogaaDrawY
open Go Go.Proofs
namespace Go.Sx
set_option linter.unusedSimpArgs false
set_option linter.unusedVariables false
def big_p (code:List Int):Post:=⟨True,.c (.bool (decide (4096<(code.length:Int)))),[]⟩
def big_ct:List AD→Option Post
  | [.c (.ints .u8 (code))]=>some (big_p code)
  | _=>none
def big_G:List (Nat×Ctr):=[]
def big_V (code:List Int):Prop :=
 ((decide ((4096:Int)<(↑(code.length):Int))=decide ((4096:Int)<(↑(code.length):Int)))∧True)
theorem big_vc (code:List Int):runF Try.prog (gam big_G) noWr noAnn Try.f7 (bodyOf Try.f7) [] [.c (.ints .u8 (code))] (big_p code)=big_V code:=by kernel_rfl
theorem big_ok (code:List Int) (hpre:(big_p code).pre):big_V code:=by
  simp only [big_p,big_V,BrP_iff,u1,u2,u3,u4,u5,u6,u7,u8,u9,v1,v2,v3,v4,v5,v6,v7,v8,v9,w1,w2,w3,w4,markL_length,inB,InR,room,bdsOk] at hpre ⊢
theorem big_fits:Fits Try.prog 7 ⟨[],big_ct⟩:=by
  refine ffn (Γ:=gam big_G) gok_nil Try.func7 fun ds p h hp=>?_
  unfold big_ct at h
  split at h
  · cases h
    exact ⟨noWr,noAnn,by rw [big_vc];exact big_ok _  hp⟩
  · cases h
def likeInts_p (a:List Int) (b:List Int):Post:=⟨room a.length,.c (.bool (decide (a=b))),[]⟩
def likeInts_ct:List AD→Option Post
  | [.c (.ints .i64 (a)),.c (.ints .i64 (b))]=>some (likeInts_p a b)
  | _=>none
def likeInts_ann (a:List Int) (b:List Int):Nat→Option Ann
  | 0=>some (Ann.mk ((Nat)) (fun i=>⟨[(0,.c (.ro (.ints .i64 (a)))),(1,.c (.ro (.ints .i64 (b)))),(5,.c (.int .i64 ((i:Int))))],[]⟩) (fun i=>i≤a.length∧a.length=b.length∧a.take i=b.take i) (fun i=>a.length - i) (fun _=>noAnn))
  | _=>none
def likeInts_G:List (Nat×Ctr):=[]
def likeInts_V (a:List Int) (b:List Int):Prop :=
 (BrP ((↑(a.length):Int) != (↑(b.length):Int)) ((false=decide (a=b))∧True) ((∃x0:Nat,(((x0≤a.length)∧((a.length=b.length)∧(List.take x0 a=List.take x0 b)))∧((a=a)∧((b=b)∧((0:Int)=(↑x0:Int))))))∧(∀x1:Nat,(((x1≤a.length)∧((a.length=b.length)∧(List.take x1 a=List.take x1 b)))→(BrP (decide ((↑x1:Int)<(↑(a.length):Int))) ((inB (↑x1:Int) (a.length))∧((inB (↑x1:Int) (b.length))∧(BrP (a.getD ((↑x1:Int).toNat) (0:Int) != b.getD ((↑x1:Int).toNat) (0:Int)) ((false=decide (a=b))∧True) ((InR ((↑x1:Int)+(1:Int)))∧(∃x2:Nat,(((x2≤a.length)∧((a.length=b.length)∧(List.take x2 a=List.take x2 b)))∧((a.length - x2<a.length - x1)∧((a=a)∧((b=b)∧((↑x1:Int)+(1:Int)=(↑x2:Int))))))))))) ((true=decide (a=b))∧True))))))
theorem likeInts_vc (a:List Int) (b:List Int):runF Try.prog (gam likeInts_G) noWr (likeInts_ann a b) Try.f42 (bodyOf Try.f42) [] [.c (.ints .i64 (a)),.c (.ints .i64 (b))] (likeInts_p a b)=likeInts_V a b:=by kernel_rfl
theorem likeInts_ok (a:List Int) (b:List Int) (hpre:(likeInts_p a b).pre):likeInts_V a b:=by
  simp only [likeInts_p,likeInts_V,BrP_iff,u1,u2,u3,u4,u5,u6,u7,u8,u9,v1,v2,v3,v4,v5,v6,v7,v8,v9,w1,w2,w3,w4,markL_length,inB,InR,room,bdsOk] at hpre ⊢
  refine ⟨fun h=>?_,fun h=>⟨⟨0,⟨by omega,by omega,rfl⟩,by simp⟩,fun i hi=>⟨fun h1=>⟨by omega,by omega,fun h2=>?_,fun h2=>⟨by omega,i+1,⟨by omega,hi.2.1,?_⟩,by omega,by omega⟩⟩,fun h1=>?_⟩⟩⟩
  · exact (decide_eq_false fun e=>h (by rw [e])).symm
  · exact (decide_eq_false fun e=>h2 (by rw [e])).symm
  · exact (take_eq_step a b 0 i (by omega) (by omega) hi.2.2).2 h2
  · refine (decide_eq_true ?_).symm
    have:=hi.2.2
    rwa [List.take_of_length_le (by omega),List.take_of_length_le (by omega)] at this
theorem likeInts_fits:Fits Try.prog 42 ⟨[],likeInts_ct⟩:=by
  refine ffn (Γ:=gam likeInts_G) gok_nil Try.func42 fun ds p h hp=>?_
  unfold likeInts_ct at h
  split at h
  · cases h
    exact ⟨noWr,likeInts_ann _ _ ,by rw [likeInts_vc];exact likeInts_ok _ _  hp⟩
  · cases h
def lsS (code:List Int) (m:Int):Nat→List Int×Int×Int→List Int×Int×Int
  | 0,s=>s
  | j+1,s=>lsS code m j (s.1++[nxV code s.2.1 s.2.2 m],nxA code.length s.2.1 m,nxH s.2.2 m)
end Go.Sx
