/- Mat -/
import Derived.Test.YtjkbnanffneogaaLists
import Derived.Test.YtjkbnanffneogaaTable
open Go Go.Proofs
namespace Go.Sx
set_option linter.unusedSimpArgs false
set_option linter.unusedVariables false
def l01Own_p (l:List Int):Post:=⟨room l.length,.c (.ints 2 .i64 (l)),[]⟩
def l01Own_ct:List AD→Option Post
  | [.c (.ints .i64 (l))]=>some (l01Own_p l)
  | _=>none
def l01Own_G:List (Nat×Ctr):=[]
def l01Own_V (l:List Int):Prop :=
 ((room (([]:List Int).length+l.length))∧(([]++l=l)∧True))
theorem l01Own_vc (l:List Int):runF Try.prog (gam l01Own_G) noWr noAnn Try.f59 (bodyOf Try.f59) [] [.c (.ints .i64 (l))] (l01Own_p l)=l01Own_V l:=by kernel_rfl
theorem l01Own_ok (l:List Int) (hpre:(l01Own_p l).pre):l01Own_V l:=by
  simp only [l01Own_p,l01Own_V,BrP_iff,u1,u2,u3,u4,u5,u6,u7,u8,u9,v1,v2,v3,v4,v5,v6,v7,v8,v9,w1,w2,w3,w4,markL_length,inB,InR,room,bdsOk] at hpre ⊢
  simp [hpre]
theorem l01Own_fits:Fits Try.prog 59 ⟨[],l01Own_ct⟩:=by
  refine ffn (Γ:=gam l01Own_G) gok_nil Try.func59 fun ds p h hp=>?_
  unfold l01Own_ct at h
  split at h
  · cases h
    exact ⟨noWr,noAnn,by rw [l01Own_vc];exact l01Own_ok _  hp⟩
  · cases h
def l01Own2_p (t:List (List Int)):Post:=⟨roomR t,.c (.rows 41 2 .i64 (t)),[]⟩
def l01Own2_ct:List AD→Option Post
  | [.c (.rows .i64 (t))]=>some (l01Own2_p t)
  | _=>none
def l01Own2_ann (t:List (List Int)):Nat→Option Ann
  | 0=>some (Ann.mk ((Nat)) (fun i=>⟨[(0,.c (.ro (.rows .i64 (t)))),(3,.c (.own (5))),(4,.c (.int .i64 ((i:Int))))],[(5,some (.rows 0 41 2 .i64 (t.take i)))]⟩) (fun i=>i≤t.length) (fun i=>t.length - i) (fun _=>noAnn))
  | _=>none
def l01Own2_G:List (Nat×Ctr):=[(59,⟨[],l01Own_ct⟩)]
def l01Own2_V (t:List (List Int)):Prop :=
 ((∃x0:Nat,((x0≤t.length)∧((t=t)∧(((0:Int)=(↑x0:Int))∧(([]:List (List Int))=List.take x0 t)))))∧(∀x1:Nat,((x1≤t.length)→(BrP (decide ((↑x1:Int)<(↑(t.length):Int))) ((inB (↑x1:Int) (t.length))∧(((room ((t.getD ((↑x1:Int).toNat) []).length))∧True)∧((room ((List.take x1 t).length+(t.getD ((↑x1:Int).toNat) []::([]:List (List Int))).length))∧((InR ((↑x1:Int)+(1:Int)))∧(∃x2:Nat,((x2≤t.length)∧((t.length - x2<t.length - x1)∧((t=t)∧(((↑x1:Int)+(1:Int)=(↑x2:Int))∧(List.take x1 t++t.getD ((↑x1:Int).toNat) []::([]:List (List Int))=List.take x2 t)))))))))) ((List.take x1 t=t)∧True)))))
theorem l01Own2_vc (t:List (List Int)):runF Try.prog (gam l01Own2_G) noWr (l01Own2_ann t) Try.f121 (bodyOf Try.f121) [] [.c (.rows .i64 (t))] (l01Own2_p t)=l01Own2_V t:=by kernel_rfl
theorem l01Own2_ok (t:List (List Int)) (hpre:(l01Own2_p t).pre):l01Own2_V t:=by
  simp only [l01Own2_p,l01Own2_V,BrP_iff,u1,u2,u3,u4,u5,u6,u7,u8,u9,v1,v2,v3,v4,v5,v6,v7,v8,v9,w1,w2,w3,w4,markL_length,inB,InR,room,bdsOk] at hpre ⊢
  have h1:=hpre.1
  refine ⟨⟨0,by omega,rfl,by simp⟩,fun i hi=>⟨fun h=>⟨by omega,roomR_get hpre i (by omega),by omega,by omega,i+1,by omega,by omega,by omega,take_snoc _ _ _ (by omega)⟩,fun h=>List.take_of_length_le (by omega)⟩⟩
theorem l01Own2_fits:Fits Try.prog 121 ⟨[],l01Own2_ct⟩:=by
  refine ffn (Γ:=gam l01Own2_G) (gok_cons l01Own_fits gok_nil) Try.func121 fun ds p h hp=>?_
  unfold l01Own2_ct at h
  split at h
  · cases h
    exact ⟨noWr,l01Own2_ann _ ,by rw [l01Own2_vc];exact l01Own2_ok _  hp⟩
  · cases h
def cbF (t:List (List Int)) (m:Int) (g:List Int) (x y:Nat):Int:=(g.getD ((t.getD x []).getD y 0).toNat 0 - g.getD y 0+m).tmod m
theorem cb_in {t:List (List Int)} {m:Int} {g:List Int} (h1:tabB t=true) (h2:shiftB (t.length:Int) m g=true) (x y:Nat) (hx:x<t.length) (hy:y<t.length) :
    1≤m∧m≤12∧(g.length:Int)=(t.length:Int)∧(t.getD x []).length=t.length∧0≤(t.getD x []).getD y 0∧(t.getD x []).getD y 0≤(t.length:Int) - 1 ∧
    0≤g.getD ((t.getD x []).getD y 0).toNat 0∧g.getD ((t.getD x []).getD y 0).toNat 0≤m - 1∧0≤g.getD y 0∧g.getD y 0≤m - 1:=by
  obtain ⟨_,_,a⟩:=tabB_of h1
  obtain ⟨b,c⟩:=a x hx
  have d:=c y hy
  obtain ⟨e,f,k,l⟩:=shiftB_of h2
  have u:=l ((t.getD x []).getD y 0).toNat (by omega)
  have v:=l y (by omega)
  exact ⟨e,f,k,b,d.1,d.2,u.1,u.2,v.1,v.2⟩
def l14Bound_p (t:List (List Int)) (m:Int) (g:List Int):Post:=⟨tabB t=true∧shiftB (t.length:Int) m g=true,.c (.rows 41 2 .i64 (tabR t.length (cbF t m g))),[]⟩
def l14Bound_ct:List AD→Option Post
  | [.c (.rows .i64 (t)),.c (.int .i64 (m)),.c (.ints .i64 (g))]=>some (l14Bound_p t m g)
  | _=>none
def l14Bound_ann (t:List (List Int)) (m:Int) (g:List Int):Nat→Option Ann
  | 0=>some (Ann.mk ((Nat)) (fun i=>⟨[(0,.c (.ro (.rows .i64 (t)))),(1,.c (.int .i64 (m))),(2,.c (.ro (.ints .i64 (g)))),(7,.c (.own (11))),(8,.c (.int .i64 ((i:Int))))],[(11,some (.rows 0 41 2 .i64 ((tabR t.length (cbF t m g)).take i)))]⟩) (fun i=>i≤t.length) (fun i=>t.length - i) (fun i=>fun b_=>match b_ with | 2=>some (Ann.mk ((Nat)) (fun j=>⟨[(0,.c (.ro (.rows .i64 (t)))),(1,.c (.int .i64 (m))),(2,.c (.ro (.ints .i64 (g)))),(7,.c (.own (11))),(8,.c (.int .i64 ((i:Int)))),(9,.c (.own (18))),(10,.c (.int .i64 ((j:Int))))],[(11,some (.rows 0 41 2 .i64 ((tabR t.length (cbF t m g)).take i))),(18,some (.ints 2 .i64 ((tab t.length (cbF t m g i)).take j)))]⟩) (fun j=>j≤t.length∧i<t.length) (fun j=>t.length - j) (fun _=>noAnn)) | _=>none))
  | _=>none
def l14Bound_G:List (Nat×Ctr):=[]
def l14Bound_c1 (t:List (List Int)) (m:Int) (g:List Int) (x0:Nat) (x1:Nat):=(g.getD (((List.getD t ((↑x0:Int).toNat) []).getD ((↑x1:Int).toNat) (0:Int)).toNat) (0:Int) - g.getD ((↑x1:Int).toNat) (0:Int)+m)
def l14Bound_V (t:List (List Int)) (m:Int) (g:List Int):Prop :=
 ((∃x0:Nat,((x0≤t.length)∧((t=t)∧((m=m)∧((g=g)∧(((0:Int)=(↑x0:Int))∧(([]:List (List Int))=List.take x0 (tabR (t.length) (cbF t m g)))))))))∧(∀x1:Nat,((x1≤t.length)→(BrP (decide ((↑x1:Int)<(↑(t.length):Int))) ((∃x2:Nat,(((x2≤t.length)∧(x1<t.length))∧((t=t)∧((m=m)∧((g=g)∧(((↑x1:Int)=(↑x1:Int))∧(((0:Int)=(↑x2:Int))∧((List.take x1 (tabR (t.length) (cbF t m g))=List.take x1 (tabR (t.length) (cbF t m g)))∧([]=List.take x2 (tab (t.length) (cbF t m g x1)))))))))))∧(∀x3:Nat,(((x3≤t.length)∧(x1<t.length))→(BrP (decide ((↑x3:Int)<(↑(t.length):Int))) ((inB (↑x1:Int) (t.length))∧((inB (↑x3:Int) ((t.getD ((↑x1:Int).toNat) []).length))∧((inB ((List.getD t ((↑x1:Int).toNat) []).getD ((↑x3:Int).toNat) (0:Int)) (g.length))∧((inB (↑x3:Int) (g.length))∧((InR (g.getD (((List.getD t ((↑x1:Int).toNat) []).getD ((↑x3:Int).toNat) (0:Int)).toNat) (0:Int) - g.getD ((↑x3:Int).toNat) (0:Int)))∧((InR (l14Bound_c1 t m g x1 x3))∧((m≠(0:Int))∧((room ((List.take x3 (tab (t.length) (cbF t m g x1))).length+[Int.tmod (l14Bound_c1 t m g x1 x3) m].length))∧((InR ((↑x3:Int)+(1:Int)))∧(∃x4:Nat,(((x4≤t.length)∧(x1<t.length))∧((t.length - x4<t.length - x3)∧((t=t)∧((m=m)∧((g=g)∧(((↑x1:Int)=(↑x1:Int))∧(((↑x3:Int)+(1:Int)=(↑x4:Int))∧((List.take x1 (tabR (t.length) (cbF t m g))=List.take x1 (tabR (t.length) (cbF t m g))) ∧
 (List.take x3 (tab (t.length) (cbF t m g x1))++[Int.tmod (l14Bound_c1 t m g x1 x3) m]=List.take x4 (tab (t.length) (cbF t m g x1))))))))))))))))))))) ((room ((List.take x1 (tabR (t.length) (cbF t m g))).length+(List.take x3 (tab (t.length) (cbF t m g x1))::([]:List (List Int))).length))∧((InR ((↑x1:Int)+(1:Int)))∧(∃x5:Nat,((x5≤t.length)∧((t.length - x5<t.length - x1)∧((t=t)∧((m=m)∧((g=g)∧(((↑x1:Int)+(1:Int)=(↑x5:Int))∧(List.take x1 (tabR (t.length) (cbF t m g))++List.take x3 (tab (t.length) (cbF t m g x1))::([]:List (List Int))=List.take x5 (tabR (t.length) (cbF t m g)))))))))))))))) ((List.take x1 (tabR (t.length) (cbF t m g))=tabR (t.length) (cbF t m g))∧True)))))
theorem l14Bound_vc (t:List (List Int)) (m:Int) (g:List Int):runF Try.prog (gam l14Bound_G) noWr (l14Bound_ann t m g) Try.f90 (bodyOf Try.f90) [] [.c (.rows .i64 (t)),.c (.int .i64 (m)),.c (.ints .i64 (g))] (l14Bound_p t m g)=l14Bound_V t m g:=by kernel_rfl
theorem l14Bound_ok (t:List (List Int)) (m:Int) (g:List Int) (hpre:(l14Bound_p t m g).pre):l14Bound_V t m g:=by
  simp only [l14Bound_p,l14Bound_V,l14Bound_c1,BrP_iff,u1,u2,u3,u4,u5,u6,u7,u8,u9,v1,v2,v3,v4,v5,v6,v7,v8,v9,w1,w2,w3,w4,markL_length,inB,InR,room,bdsOk] at hpre ⊢
  obtain ⟨h1,h2⟩:=hpre
  have ht:=tabB_of h1
  have hT:=tabR_length t.length (cbF t m g)
  have hr:∀i:Nat,(tab t.length (cbF t m g i)).length=t.length:=fun i=>tab_length _ _
  refine ⟨⟨0,by omega,rfl,by simp⟩,fun i hi=>⟨fun h=>⟨⟨0,by omega,rfl,by simp⟩,fun j ⟨hj,_⟩=>⟨fun h3=>?_,fun h3=>?_⟩⟩,fun h=>List.take_of_length_le (by omega)⟩⟩
  · have q:=cb_in h1 h2 i j (by omega) (by omega)
    have:=hr i
    refine ⟨by omega,by omega,by omega,by omega,by omega,by omega,by omega,by omega,by omega,j+1,by omega,by omega,by omega,?_⟩
    rw [←take_snoc _ 0 j (by omega),tab_getD _ _ _ (by omega)]
    rfl
  · refine ⟨by omega,by omega,i+1,by omega,by omega,by omega,?_⟩
    have e:(tab t.length (cbF t m g i)).take j=tab t.length (cbF t m g i):=List.take_of_length_le (by rw [hr];omega)
    rw [←take_snoc _ [] i (by omega),tabR_getD _ _ _ (by omega),e]
theorem l14Bound_fits:Fits Try.prog 90 ⟨[],l14Bound_ct⟩:=by
  refine ffn (Γ:=gam l14Bound_G) gok_nil Try.func90 fun ds p h hp=>?_
  unfold l14Bound_ct at h
  split at h
  · cases h
    exact ⟨noWr,l14Bound_ann _ _ _ ,by rw [l14Bound_vc];exact l14Bound_ok _ _ _  hp⟩
  · cases h
def matsB (n m:Int) (f:List (List Int)):Bool:=decide ((f.length:Int)=n)&&f.all (numsB n m)
def matB (n m:Int) (f:List (List Int)):Bool:=decide (1≤m∧m≤12)&&matsB n m f
theorem matB_of {n m:Int} {f:List (List Int)} (h:matB n m f=true):1≤m∧m≤12∧(f.length:Int)=n∧∀x,x<f.length→((f.getD x []).length:Int)=n∧∀y,y<(f.getD x []).length→0≤(f.getD x []).getD y 0∧(f.getD x []).getD y 0≤m - 1:=by
  simp only [matB,matsB,Bool.and_eq_true,decide_eq_true_eq] at h
  refine ⟨by omega,by omega,by omega,fun x hx=>?_⟩
  have h1:=allG_get [] h.2.2 x hx
  simp only [numsB,Bool.and_eq_true,decide_eq_true_eq] at h1
  exact ⟨h1.2,fun y hy=>allW_get h1.1 y hy⟩
def l14Matrix_p (n:Int) (m:Int) (f:List (List Int)):Post:=⟨1≤m∧m≤12∧roomR f,.c (.bool (matsB n m f)),[]⟩
def l14Matrix_ct:List AD→Option Post
  | [.c (.int .i64 (n)),.c (.int .i64 (m)),.c (.rows .i64 (f))]=>some (l14Matrix_p n m f)
  | _=>none
def l14Matrix_ann (n:Int) (m:Int) (f:List (List Int)):Nat→Option Ann
  | 0=>some (Ann.mk ((Nat)) (fun i=>⟨[(0,.c (.int .i64 (n))),(1,.c (.int .i64 (m))),(2,.c (.ro (.rows .i64 (f)))),(7,.c (.int .i64 ((i:Int))))],[]⟩) (fun i=>i≤f.length∧f.all (numsB n m)=(f.drop i).all (numsB n m)) (fun i=>f.length - i) (fun _=>noAnn))
  | _=>none
def l14Matrix_G:List (Nat×Ctr):=[(96,⟨[],l14Numbers_ct⟩)]
def l14Matrix_V (n:Int) (m:Int) (f:List (List Int)):Prop :=
 (BrP ((↑(f.length):Int) != n) ((false=matsB n m f)∧True) ((∃x0:Nat,(((x0≤f.length)∧(List.all f (numsB n m)=List.all (List.drop x0 f) (numsB n m)))∧((n=n)∧((m=m)∧((f=f)∧((0:Int)=(↑x0:Int)))))))∧(∀x1:Nat,(((x1≤f.length)∧(List.all f (numsB n m)=List.all (List.drop x1 f) (numsB n m)))→(BrP (decide ((↑x1:Int)<(↑(f.length):Int))) ((inB (↑x1:Int) (f.length))∧(((((1:Int)≤m)∧((m≤(12:Int))∧(room ((f.getD ((↑x1:Int).toNat) []).length))))∧True)∧(BrP (!numsB n m (f.getD ((↑x1:Int).toNat) [])) ((false=matsB n m f)∧True) ((InR ((↑x1:Int)+(1:Int)))∧(∃x2:Nat,(((x2≤f.length)∧(List.all f (numsB n m)=List.all (List.drop x2 f) (numsB n m)))∧((f.length - x2<f.length - x1)∧((n=n)∧((m=m)∧((f=f)∧((↑x1:Int)+(1:Int)=(↑x2:Int)))))))))))) ((true=matsB n m f)∧True))))))
theorem l14Matrix_vc (n:Int) (m:Int) (f:List (List Int)):runF Try.prog (gam l14Matrix_G) noWr (l14Matrix_ann n m f) Try.f81 (bodyOf Try.f81) [] [.c (.int .i64 (n)),.c (.int .i64 (m)),.c (.rows .i64 (f))] (l14Matrix_p n m f)=l14Matrix_V n m f:=by kernel_rfl
theorem l14Matrix_ok (n:Int) (m:Int) (f:List (List Int)) (hpre:(l14Matrix_p n m f).pre):l14Matrix_V n m f:=by
  simp only [l14Matrix_p,l14Matrix_V,BrP_iff,u1,u2,u3,u4,u5,u6,u7,u8,u9,v1,v2,v3,v4,v5,v6,v7,v8,v9,w1,w2,w3,w4,markL_length,inB,InR,room,bdsOk] at hpre ⊢
  obtain ⟨h1,h2,h3⟩:=hpre
  have h4:=h3.1
  refine ⟨fun h=>by rw [matsB,decide_eq_false h];rfl,fun h=>⟨⟨0,⟨by omega,rfl⟩,rfl⟩,fun i ⟨hi,he⟩=>⟨fun h5=>?_,fun h5=>?_⟩⟩⟩
  · have hd:=allG_drop [] (numsB n m) (show i<f.length by omega)
    refine ⟨by omega,⟨h1,h2,roomR_get h3 i (by omega)⟩,fun h6=>?_,fun h6=>⟨by omega,i+1,⟨by omega,?_⟩,by omega,by omega⟩⟩
    · rw [matsB,he,hd,h6];simp
    · rw [he,hd,h6];rfl
  · rw [matsB,he,decide_eq_true h,List.drop_of_length_le (by omega)];rfl
theorem l14Matrix_fits:Fits Try.prog 81 ⟨[],l14Matrix_ct⟩:=by
  refine ffn (Γ:=gam l14Matrix_G) (gok_cons l14Numbers_fits gok_nil) Try.func81 fun ds p h hp=>?_
  unfold l14Matrix_ct at h
  split at h
  · cases h
    exact ⟨noWr,l14Matrix_ann _ _ _ ,by rw [l14Matrix_vc];exact l14Matrix_ok _ _ _  hp⟩
  · cases h
def l14Code_p (n:Int) (m:Int) (f:List (List Int)):Post:=⟨roomR f,.c (.int .i64 (if matB n m f=true then 0 else 2)),[]⟩
def l14Code_ct:List AD→Option Post
  | [.c (.int .i64 (n)),.c (.int .i64 (m)),.c (.rows .i64 (f))]=>some (l14Code_p n m f)
  | _=>none
def l14Code_G:List (Nat×Ctr):=[(54,⟨[],l01In_ct⟩),(81,⟨[],l14Matrix_ct⟩)]
def l14Code_V (n:Int) (m:Int) (f:List (List Int)):Prop :=
 ((True∧True)∧(BrP (!decide ((1:Int)≤m∧m≤(12:Int))) (((2:Int)=if matB n m f=true then (0:Int) else (2:Int))∧True) (((((1:Int)≤m)∧((m≤(12:Int))∧(roomR f)))∧True)∧(BrP (!matsB n m f) (((2:Int)=if matB n m f=true then (0:Int) else (2:Int))∧True) (((0:Int)=if matB n m f=true then (0:Int) else (2:Int))∧True)))))
theorem l14Code_vc (n:Int) (m:Int) (f:List (List Int)):runF Try.prog (gam l14Code_G) noWr noAnn Try.f40 (bodyOf Try.f40) [] [.c (.int .i64 (n)),.c (.int .i64 (m)),.c (.rows .i64 (f))] (l14Code_p n m f)=l14Code_V n m f:=by kernel_rfl
theorem l14Code_ok (n:Int) (m:Int) (f:List (List Int)) (hpre:(l14Code_p n m f).pre):l14Code_V n m f:=by
  simp only [l14Code_p,l14Code_V,BrP_iff,u1,u2,u3,u4,u5,u6,u7,u8,u9,v1,v2,v3,v4,v5,v6,v7,v8,v9,w1,w2,w3,w4,markL_length,inB,InR,room,bdsOk] at hpre ⊢
  refine ⟨fun h=>by rw [matB,decide_eq_false h];rfl,fun h=>⟨⟨h.1,h.2,hpre⟩,fun h2=>by rw [matB,h2,Bool.and_false];rfl,fun h2=>by rw [matB,h2,decide_eq_true h];rfl⟩⟩
theorem l14Code_fits:Fits Try.prog 40 ⟨[],l14Code_ct⟩:=by
  refine ffn (Γ:=gam l14Code_G) (gok_cons l01In_fits (gok_cons l14Matrix_fits gok_nil)) Try.func40 fun ds p h hp=>?_
  unfold l14Code_ct at h
  split at h
  · cases h
    exact ⟨noWr,noAnn,by rw [l14Code_vc];exact l14Code_ok _ _ _  hp⟩
  · cases h
def isMatrix1_p (r:List Int) (n:Int) (m:Int):Post:=⟨r.length≤1099511627776,.c (.bool (!shiftB n m r)),[]⟩
def isMatrix1_ct:List AD→Option Post
  | [.c (.ints .i64 (r)),.box [.int .i64 (n)],.box [.int .i64 (m)]]=>some (isMatrix1_p r n m)
  | _=>none
def isMatrix1_G:List (Nat×Ctr):=[(74,⟨[],isShift_ct⟩)]
def isMatrix1_V (r:List Int) (n:Int) (m:Int):Prop :=
 (((room (r.length))∧True)∧(((!shiftB n m r)=!shiftB n m r)∧True))
theorem isMatrix1_vc (r:List Int) (n:Int) (m:Int):runF Try.prog (gam isMatrix1_G) noWr noAnn Try.f73 (bodyOf Try.f73) [] [.c (.ints .i64 (r)),.box [.int .i64 (n)],.box [.int .i64 (m)]] (isMatrix1_p r n m)=isMatrix1_V r n m:=by kernel_rfl
theorem isMatrix1_ok (r:List Int) (n:Int) (m:Int) (hpre:(isMatrix1_p r n m).pre):isMatrix1_V r n m:=by
  simp only [isMatrix1_p,isMatrix1_V,BrP_iff,u1,u2,u3,u4,u5,u6,u7,u8,u9,v1,v2,v3,v4,v5,v6,v7,v8,v9,w1,w2,w3,w4,markL_length,inB,InR,room,bdsOk] at hpre ⊢
  exact hpre
theorem isMatrix1_fits:Fits Try.prog 73 ⟨[],isMatrix1_ct⟩:=by
  refine ffn (Γ:=gam isMatrix1_G) (gok_cons isShift_fits gok_nil) Try.func73 fun ds p h hp=>?_
  unfold isMatrix1_ct at h
  split at h
  · cases h
    exact ⟨noWr,noAnn,by rw [isMatrix1_vc];exact isMatrix1_ok _ _ _  hp⟩
  · cases h
def isMatrix_p (n:Int) (m:Int) (f:List (List Int)):Post:=⟨roomR f,.c (.bool (matB n m f)),[]⟩
def isMatrix_ct:List AD→Option Post
  | [.c (.int .i64 (n)),.c (.int .i64 (m)),.c (.rows .i64 (f))]=>some (isMatrix_p n m f)
  | _=>none
def isMatrix_G:List (Nat×Ctr):=[(71,⟨[],within_ct⟩),(72,⟨[],ContainsFuncR_ct⟩),(73,⟨[],isMatrix1_ct⟩)]
def isMatrix_V (n:Int) (m:Int) (f:List (List Int)):Prop :=
 ((True∧True)∧(BrP (decide ((1:Int)≤m∧m≤(12:Int))) (BrP ((↑(f.length):Int) == n) ((((f.length≤(1099511627776:Nat))∧(∀(x:List Int),x∈f→x.length≤(1099511627776:Nat)))∧True)∧(((!List.any f fun (x:List Int)=>!shiftB n m x)=matB n m f)∧True)) ((false=matB n m f)∧True)) ((false=matB n m f)∧True)))
theorem isMatrix_vc (n:Int) (m:Int) (f:List (List Int)):runF Try.prog (gam isMatrix_G) noWr noAnn Try.f35 (bodyOf Try.f35) [] [.c (.int .i64 (n)),.c (.int .i64 (m)),.c (.rows .i64 (f))] (isMatrix_p n m f)=isMatrix_V n m f:=by kernel_rfl
theorem isMatrix_ok (n:Int) (m:Int) (f:List (List Int)) (hpre:(isMatrix_p n m f).pre):isMatrix_V n m f:=by
  simp only [isMatrix_p,isMatrix_V,BrP_iff,u1,u2,u3,u4,u5,u6,u7,u8,u9,v1,v2,v3,v4,v5,v6,v7,v8,v9,w1,w2,w3,w4,markL_length,inB,InR,room,bdsOk] at hpre ⊢
  refine ⟨fun h=>⟨fun h2=>⟨hpre,?_⟩,fun h2=>by rw [matB,matsB,decide_eq_false h2,Bool.false_and,Bool.and_false]⟩,fun h=>by rw [matB,decide_eq_false h];rfl⟩
  have e:shiftB n m=numsB n m:=by funext r;rw [shiftB,decide_eq_true h,Bool.true_and]
  rw [matB,matsB,decide_eq_true h,decide_eq_true h2,Bool.true_and,Bool.true_and,List.all_eq_not_any_not,Bool.not_not,e]
theorem isMatrix_fits:Fits Try.prog 35 ⟨[],isMatrix_ct⟩:=by
  refine ffn (Γ:=gam isMatrix_G) (gok_cons within_fits (gok_cons ContainsFuncR_fits (gok_cons isMatrix1_fits gok_nil))) Try.func35 fun ds p h hp=>?_
  unfold isMatrix_ct at h
  split at h
  · cases h
    exact ⟨noWr,noAnn,by rw [isMatrix_vc];exact isMatrix_ok _ _ _  hp⟩
  · cases h
end Go.Sx
