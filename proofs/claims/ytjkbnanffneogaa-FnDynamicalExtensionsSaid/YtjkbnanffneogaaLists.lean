/- Lists -/
import Derived.Test.YtjkbnanffneogaaProg
import Derived.Test.YtjkbnanffneogaaSxZ
import Derived.KernelRfl
open Go Go.Proofs
namespace Go.Sx
set_option linter.unusedSimpArgs false
set_option linter.unusedVariables false
def within_p (n:Int) (a:Int) (b:Int):Post:=⟨True,.c (.bool (decide (a≤n∧n≤b))),[]⟩
def within_ct:List AD→Option Post
  | [.c (.int .i64 (n)),.c (.int .i64 (a)),.c (.int .i64 (b))]=>some (within_p n a b)
  | _=>none
def within_G:List (Nat×Ctr):=[]
def within_V (n:Int) (a:Int) (b:Int):Prop :=
 (BrP (decide (a≤n)) ((decide (n≤b)=decide (a≤n∧n≤b))∧True) ((false=decide (a≤n∧n≤b))∧True))
theorem within_vc (n:Int) (a:Int) (b:Int):runF Try.prog (gam within_G) noWr noAnn Try.f71 (bodyOf Try.f71) [] [.c (.int .i64 (n)),.c (.int .i64 (a)),.c (.int .i64 (b))] (within_p n a b)=within_V n a b:=by kernel_rfl
theorem within_ok (n:Int) (a:Int) (b:Int) (hpre:(within_p n a b).pre):within_V n a b:=by
  simp only [within_p,within_V,BrP_iff,u1,u2,u3,u4,u5,u6,u7,u8,u9,v1,v2,v3,v4,v5,v6,v7,v8,v9,w1,w2,w3,w4,markL_length,inB,InR,room,bdsOk] at hpre ⊢
  refine ⟨fun h=>?_,fun h=>?_⟩
  · simp [h]
  · simp [h]
theorem within_fits:Fits Try.prog 71 ⟨[],within_ct⟩:=by
  refine ffn (Γ:=gam within_G) gok_nil Try.func71 fun ds p h hp=>?_
  unfold within_ct at h
  split at h
  · cases h
    exact ⟨noWr,noAnn,by rw [within_vc];exact within_ok _ _ _  hp⟩
  · cases h
def l01In_p (n:Int) (a:Int) (b:Int):Post:=⟨True,.c (.bool (decide (a≤n∧n≤b))),[]⟩
def l01In_ct:List AD→Option Post
  | [.c (.int .i64 (n)),.c (.int .i64 (a)),.c (.int .i64 (b))]=>some (l01In_p n a b)
  | _=>none
def l01In_G:List (Nat×Ctr):=[]
def l01In_V (n:Int) (a:Int) (b:Int):Prop :=
 (BrP (decide (a≤n)) ((decide (n≤b)=decide (a≤n∧n≤b))∧True) ((false=decide (a≤n∧n≤b))∧True))
theorem l01In_vc (n:Int) (a:Int) (b:Int):runF Try.prog (gam l01In_G) noWr noAnn Try.f54 (bodyOf Try.f54) [] [.c (.int .i64 (n)),.c (.int .i64 (a)),.c (.int .i64 (b))] (l01In_p n a b)=l01In_V n a b:=by kernel_rfl
theorem l01In_ok (n:Int) (a:Int) (b:Int) (hpre:(l01In_p n a b).pre):l01In_V n a b:=by
  simp only [l01In_p,l01In_V,BrP_iff,u1,u2,u3,u4,u5,u6,u7,u8,u9,v1,v2,v3,v4,v5,v6,v7,v8,v9,w1,w2,w3,w4,markL_length,inB,InR,room,bdsOk] at hpre ⊢
  refine ⟨fun h=>?_,fun h=>?_⟩
  · simp [h]
  · simp [h]
theorem l01In_fits:Fits Try.prog 54 ⟨[],l01In_ct⟩:=by
  refine ffn (Γ:=gam l01In_G) gok_nil Try.func54 fun ds p h hp=>?_
  unfold l01In_ct at h
  split at h
  · cases h
    exact ⟨noWr,noAnn,by rw [l01In_vc];exact l01In_ok _ _ _  hp⟩
  · cases h
def allW (lo hi:Int) (l:List Int):Bool:=l.all fun x=>decide (lo≤x∧x≤hi)
theorem allW_drop (lo hi:Int) (l:List Int) (i:Nat) (h:i<l.length):allW lo hi (l.drop i)=(decide (lo≤l.getD i 0∧l.getD i 0≤hi)&&allW lo hi (l.drop (i+1))):=by
  rw [drop_cons' l 0 i h]
  rfl
theorem allW_get {lo hi:Int} {l:List Int} (h:allW lo hi l=true) (i:Nat) (hi':i<l.length):lo≤l.getD i 0∧l.getD i 0≤hi:=by
  rw [getD_lt l 0 i hi']
  have:=List.all_eq_true.1 h _ (List.getElem_mem hi')
  simpa using this
def allWithin_p (l:List Int) (a:Int) (b:Int):Post:=⟨room l.length,.c (.bool (allW a b l)),[]⟩
def allWithin_ct:List AD→Option Post
  | [.c (.ints .i64 (l)),.c (.int .i64 (a)),.c (.int .i64 (b))]=>some (allWithin_p l a b)
  | _=>none
def allWithin_ann (l:List Int) (a:Int) (b:Int):Nat→Option Ann
  | 0=>some (Ann.mk ((Nat)) (fun i=>⟨[(1,.c (.int .i64 (a))),(2,.c (.int .i64 (b))),(9,.c (.ro (.ints .i64 (l)))),(10,.c (.int .i64 ((l.length:Int)))),(11,.c (.int .i64 ((i:Int))))],[]⟩) (fun i=>i≤l.length∧allW a b l=allW a b (l.drop i)) (fun i=>l.length - i) (fun _=>noAnn))
  | _=>none
def allWithin_G:List (Nat×Ctr):=[(71,⟨[],within_ct⟩)]
def allWithin_V (l:List Int) (a:Int) (b:Int):Prop :=
 ((∃x0:Nat,(((x0≤l.length)∧(allW a b l=allW a b (List.drop x0 l)))∧((a=a)∧((b=b)∧((l=l)∧(((↑(l.length):Int)=(↑(l.length):Int))∧((0:Int)=(↑x0:Int))))))))∧(∀x1:Nat,(((x1≤l.length)∧(allW a b l=allW a b (List.drop x1 l)))→(BrP (decide ((↑x1:Int)<(↑(l.length):Int))) ((inB (↑x1:Int) (l.length))∧((True∧True)∧(BrP (!decide (a≤l.getD ((↑x1:Int).toNat) (0:Int)∧l.getD ((↑x1:Int).toNat) (0:Int)≤b)) ((false=allW a b l)∧True) ((InR ((↑x1:Int)+(1:Int)))∧(∃x2:Nat,(((x2≤l.length)∧(allW a b l=allW a b (List.drop x2 l)))∧((l.length - x2<l.length - x1)∧((a=a)∧((b=b)∧((l=l)∧(((↑(l.length):Int)=(↑(l.length):Int))∧((↑x1:Int)+(1:Int)=(↑x2:Int))))))))))))) ((true=allW a b l)∧True)))))
theorem allWithin_vc (l:List Int) (a:Int) (b:Int):runF Try.prog (gam allWithin_G) noWr (allWithin_ann l a b) Try.f84 (bodyOf Try.f84) [] [.c (.ints .i64 (l)),.c (.int .i64 (a)),.c (.int .i64 (b))] (allWithin_p l a b)=allWithin_V l a b:=by kernel_rfl
theorem allWithin_ok (l:List Int) (a:Int) (b:Int) (hpre:(allWithin_p l a b).pre):allWithin_V l a b:=by
  simp only [allWithin_p,allWithin_V,BrP_iff,u1,u2,u3,u4,u5,u6,u7,u8,u9,v1,v2,v3,v4,v5,v6,v7,v8,v9,w1,w2,w3,w4,markL_length,inB,InR,room,bdsOk] at hpre ⊢
  refine ⟨⟨0,⟨by omega,rfl⟩,rfl⟩,fun i ⟨hi,he⟩=>⟨fun h=>?_,fun h=>?_⟩⟩
  · have hd:=allW_drop a b l i (by omega)
    refine ⟨by omega,fun h1=>?_,fun h1=>⟨by omega,i+1,⟨by omega,?_⟩,by omega,by omega⟩⟩
    · rw [he,hd,decide_eq_false h1];rfl
    · rw [he,hd,decide_eq_true h1];rfl
  · rw [he,List.drop_of_length_le (by omega)];rfl
theorem allWithin_fits:Fits Try.prog 84 ⟨[],allWithin_ct⟩:=by
  refine ffn (Γ:=gam allWithin_G) (gok_cons within_fits gok_nil) Try.func84 fun ds p h hp=>?_
  unfold allWithin_ct at h
  split at h
  · cases h
    exact ⟨noWr,allWithin_ann _ _ _ ,by rw [allWithin_vc];exact allWithin_ok _ _ _  hp⟩
  · cases h
def sumL (l:List (List Int)):Nat:=(l.map List.length).sum
def roomR (l:List (List Int)):Prop:=l.length≤1099511627776∧∀r∈l,r.length≤1099511627776
theorem roomR_get {l:List (List Int)} (h:roomR l) (i:Nat) (hi:i<l.length):(l.getD i []).length≤1099511627776:=h.2 _ (getD_mem l [] i hi)
end Go.Sx
