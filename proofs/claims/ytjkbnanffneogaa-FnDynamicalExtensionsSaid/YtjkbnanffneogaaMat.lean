/- Mat -/
import Derived.Test.YtjkbnanffneogaaLists
import Derived.Test.YtjkbnanffneogaaTable
open Go Go.Proofs
namespace Go.Sx
set_option linter.unusedSimpArgs false
set_option linter.unusedVariables false
def l01Own_p (l:List Int):Post:=⟨room l.length,.c (.ints 2 .i64 (l)),[]⟩
def l01Own_ct:List AD→Option Post
  | [.c (.ints .i64 (l))]=>some (l01Own_p l)
  | _=>none
def l01Own_G:List (Nat×Ctr):=[]
def l01Own_V (l:List Int):Prop :=
 ((room (([]:List Int).length+l.length))∧(([]++l=l)∧True))
theorem l01Own_vc (l:List Int):runF Try.prog (gam l01Own_G) noWr noAnn Try.f59 (bodyOf Try.f59) [] [.c (.ints .i64 (l))] (l01Own_p l)=l01Own_V l:=by kernel_rfl
theorem l01Own_ok (l:List Int) (hpre:(l01Own_p l).pre):l01Own_V l:=by
  simp only [l01Own_p,l01Own_V,BrP_iff,u1,u2,u3,u4,u5,u6,u7,u8,u9,v1,v2,v3,v4,v5,v6,v7,v8,v9,w1,w2,w3,w4,markL_length,inB,InR,room,bdsOk] at hpre ⊢
  simp [hpre]
theorem l01Own_fits:Fits Try.prog 59 ⟨[],l01Own_ct⟩:=by
  refine ffn (Γ:=gam l01Own_G) gok_nil Try.func59 fun ds p h hp=>?_
  unfold l01Own_ct at h
  split at h
  · cases h
    exact ⟨noWr,noAnn,by rw [l01Own_vc];exact l01Own_ok _  hp⟩
  · cases h
def l01Own2_p (t:List (List Int)):Post:=⟨roomR t,.c (.rows 41 2 .i64 (t)),[]⟩
def l01Own2_ct:List AD→Option Post
  | [.c (.rows .i64 (t))]=>some (l01Own2_p t)
  | _=>none
def l01Own2_ann (t:List (List Int)):Nat→Option Ann
  | 0=>some (Ann.mk ((Nat)) (fun i=>⟨[(0,.c (.ro (.rows .i64 (t)))),(3,.c (.own (5))),(4,.c (.int .i64 ((i:Int))))],[(5,some (.rows 0 41 2 .i64 (t.take i)))]⟩) (fun i=>i≤t.length) (fun i=>t.length - i) (fun _=>noAnn))
  | _=>none
def l01Own2_G:List (Nat×Ctr):=[(59,⟨[],l01Own_ct⟩)]
def l01Own2_V (t:List (List Int)):Prop :=
 ((∃x0:Nat,((x0≤t.length)∧((t=t)∧(((0:Int)=(↑x0:Int))∧(([]:List (List Int))=List.take x0 t)))))∧(∀x1:Nat,((x1≤t.length)→(BrP (decide ((↑x1:Int)<(↑(t.length):Int))) ((inB (↑x1:Int) (t.length))∧(((room ((t.getD ((↑x1:Int).toNat) []).length))∧True)∧((room ((List.take x1 t).length+(t.getD ((↑x1:Int).toNat) []::([]:List (List Int))).length))∧((InR ((↑x1:Int)+(1:Int)))∧(∃x2:Nat,((x2≤t.length)∧((t.length - x2<t.length - x1)∧((t=t)∧(((↑x1:Int)+(1:Int)=(↑x2:Int))∧(List.take x1 t++t.getD ((↑x1:Int).toNat) []::([]:List (List Int))=List.take x2 t)))))))))) ((List.take x1 t=t)∧True)))))
theorem l01Own2_vc (t:List (List Int)):runF Try.prog (gam l01Own2_G) noWr (l01Own2_ann t) Try.f121 (bodyOf Try.f121) [] [.c (.rows .i64 (t))] (l01Own2_p t)=l01Own2_V t:=by kernel_rfl
theorem l01Own2_ok (t:List (List Int)) (hpre:(l01Own2_p t).pre):l01Own2_V t:=by
  simp only [l01Own2_p,l01Own2_V,BrP_iff,u1,u2,u3,u4,u5,u6,u7,u8,u9,v1,v2,v3,v4,v5,v6,v7,v8,v9,w1,w2,w3,w4,markL_length,inB,InR,room,bdsOk] at hpre ⊢
  have h1:=hpre.1
  refine ⟨⟨0,by omega,rfl,by simp⟩,fun i hi=>⟨fun h=>⟨by omega,roomR_get hpre i (by omega),by omega,by omega,i+1,by omega,by omega,by omega,take_snoc _ _ _ (by omega)⟩,fun h=>List.take_of_length_le (by omega)⟩⟩
theorem l01Own2_fits:Fits Try.prog 121 ⟨[],l01Own2_ct⟩:=by
  refine ffn (Γ:=gam l01Own2_G) (gok_cons l01Own_fits gok_nil) Try.func121 fun ds p h hp=>?_
  unfold l01Own2_ct at h
  split at h
  · cases h
    exact ⟨noWr,l01Own2_ann _ ,by rw [l01Own2_vc];exact l01Own2_ok _  hp⟩
  · cases h
def cbF (t:List (List Int)) (m:Int) (g:List Int) (x y:Nat):Int:=(g.getD ((t.getD x []).getD y 0).toNat 0 - g.getD y 0+m).tmod m
theorem cb_in {t:List (List Int)} {m:Int} {g:List Int} (h1:tabB t=true) (h2:shiftB (t.length:Int) m g=true) (x y:Nat) (hx:x<t.length) (hy:y<t.length) :
    1≤m∧m≤12∧(g.length:Int)=(t.length:Int)∧(t.getD x []).length=t.length∧0≤(t.getD x []).getD y 0∧(t.getD x []).getD y 0≤(t.length:Int) - 1 ∧
    0≤g.getD ((t.getD x []).getD y 0).toNat 0∧g.getD ((t.getD x []).getD y 0).toNat 0≤m - 1∧0≤g.getD y 0∧g.getD y 0≤m - 1:=by
  obtain ⟨_,_,a⟩:=tabB_of h1
  obtain ⟨b,c⟩:=a x hx
  have d:=c y hy
  obtain ⟨e,f,k,l⟩:=shiftB_of h2
  have u:=l ((t.getD x []).getD y 0).toNat (by omega)
  have v:=l y (by omega)
  exact ⟨e,f,k,b,d.1,d.2,u.1,u.2,v.1,v.2⟩
def l14Bound_p (t:List (List Int)) (m:Int) (g:List Int):Post:=⟨tabB t=true∧shiftB (t.length:Int) m g=true,.c (.rows 41 2 .i64 (tabR t.length (cbF t m g))),[]⟩
def l14Bound_ct:List AD→Option Post
  | [.c (.rows .i64 (t)),.c (.int .i64 (m)),.c (.ints .i64 (g))]=>some (l14Bound_p t m g)
  | _=>none
def l14Bound_ann (t:List (List Int)) (m:Int) (g:List Int):Nat→Option Ann
  | 0=>some (Ann.mk ((Nat)) (fun i=>⟨[(0,.c (.ro (.rows .i64 (t)))),(1,.c (.int .i64 (m))),(2,.c (.ro (.ints .i64 (g)))),(7,.c (.own (11))),(8,.c (.int .i64 ((i:Int))))],[(11,some (.rows 0 41 2 .i64 ((tabR t.length (cbF t m g)).take i)))]⟩) (fun i=>i≤t.length) (fun i=>t.length - i) (fun i=>fun b_=>match b_ with | 2=>some (Ann.mk ((Nat)) (fun j=>⟨[(0,.c (.ro (.rows .i64 (t)))),(1,.c (.int .i64 (m))),(2,.c (.ro (.ints .i64 (g)))),(7,.c (.own (11))),(8,.c (.int .i64 ((i:Int)))),(9,.c (.own (18))),(10,.c (.int .i64 ((j:Int))))],[(11,some (.rows 0 41 2 .i64 ((tabR t.length (cbF t m g)).take i))),(18,some (.ints 2 .i64 ((tab t.length (cbF t m g i)).take j)))]⟩) (fun j=>j≤t.length∧i<t.length) (fun j=>t.length - j) (fun _=>noAnn)) | _=>none))
  | _=>none
def l14Bound_G:List (Nat×Ctr):=[]
def l14Bound_c1 (t:List (List Int)) (m:Int) (g:List Int) (x0:Nat) (x1:Nat):=(g.getD (((List.getD t ((↑x0:Int).toNat) []).getD ((↑x1:Int).toNat) (0:Int)).toNat) (0:Int) - g.getD ((↑x1:Int).toNat) (0:Int)+m)
def l14Bound_V (t:List (List Int)) (m:Int) (g:List Int):Prop :=
 ((∃x0:Nat,((x0≤t.length)∧((t=t)∧((m=m)∧((g=g)∧(((0:Int)=(↑x0:Int))∧(([]:List (List Int))=List.take x0 (tabR (t.length) (cbF t m g)))))))))∧(∀x1:Nat,((x1≤t.length)→(BrP (decide ((↑x1:Int)<(↑(t.length):Int))) ((∃x2:Nat,(((x2≤t.length)∧(x1<t.length))∧((t=t)∧((m=m)∧((g=g)∧(((↑x1:Int)=(↑x1:Int))∧(((0:Int)=(↑x2:Int))∧((List.take x1 (tabR (t.length) (cbF t m g))=List.take x1 (tabR (t.length) (cbF t m g)))∧([]=List.take x2 (tab (t.length) (cbF t m g x1)))))))))))∧(∀x3:Nat,(((x3≤t.length)∧(x1<t.length))→(BrP (decide ((↑x3:Int)<(↑(t.length):Int))) ((inB (↑x1:Int) (t.length))∧((inB (↑x3:Int) ((t.getD ((↑x1:Int).toNat) []).length))∧((inB ((List.getD t ((↑x1:Int).toNat) []).getD ((↑x3:Int).toNat) (0:Int)) (g.length))∧((inB (↑x3:Int) (g.length))∧((InR (g.getD (((List.getD t ((↑x1:Int).toNat) []).getD ((↑x3:Int).toNat) (0:Int)).toNat) (0:Int) - g.getD ((↑x3:Int).toNat) (0:Int)))∧((InR (l14Bound_c1 t m g x1 x3))∧((m≠(0:Int))∧((room ((List.take x3 (tab (t.length) (cbF t m g x1))).length+[Int.tmod (l14Bound_c1 t m g x1 x3) m].length))∧((InR ((↑x3:Int)+(1:Int)))∧(∃x4:Nat,(((x4≤t.length)∧(x1<t.length))∧((t.length - x4<t.length - x3)∧((t=t)∧((m=m)∧((g=g)∧(((↑x1:Int)=(↑x1:Int))∧(((↑x3:Int)+(1:Int)=(↑x4:Int))∧((List.take x1 (tabR (t.length) (cbF t m g))=List.take x1 (tabR (t.length) (cbF t m g))) ∧
 (List.take x3 (tab (t.length) (cbF t m g x1))++[Int.tmod (l14Bound_c1 t m g x1 x3) m]=List.take x4 (tab (t.length) (cbF t m g x1))))))))))))))))))))) ((room ((List.take x1 (tabR (t.length) (cbF t m g))).length+(List.take x3 (tab (t.length) (cbF t m g x1))::([]:List (List Int))).length))∧((InR ((↑x1:Int)+(1:Int)))∧(∃x5:Nat,((x5≤t.length)∧((t.length - x5<t.length - x1)∧((t=t)∧((m=m)∧((g=g)∧(((↑x1:Int)+(1:Int)=(↑x5:Int))∧(List.take x1 (tabR (t.length) (cbF t m g))++List.take x3 (tab (t.length) (cbF t m g x1))::([]:List (List Int))=List.take x5 (tabR (t.length) (cbF t m g)))))))))))))))) ((List.take x1 (tabR (t.length) (cbF t m g))=tabR (t.length) (cbF t m g))∧True)))))
theorem l14Bound_vc (t:List (List Int)) (m:Int) (g:List Int):runF Try.prog (gam l14Bound_G) noWr (l14Bound_ann t m g) Try.f90 (bodyOf Try.f90) [] [.c (.rows .i64 (t)),.c (.int .i64 (m)),.c (.ints .i64 (g))] (l14Bound_p t m g)=l14Bound_V t m g:=by kernel_rfl
theorem l14Bound_ok (t:List (List Int)) (m:Int) (g:List Int) (hpre:(l14Bound_p t m g).pre):l14Bound_V t m g:=by
  simp only [l14Bound_p,l14Bound_V,l14Bound_c1,BrP_iff,u1,u2,u3,u4,u5,u6,u7,u8,u9,v1,v2,v3,v4,v5,v6,v7,v8,v9,w1,w2,w3,w4,markL_length,inB,InR,room,bdsOk] at hpre ⊢
  obtain ⟨h1,h2⟩:=hpre
  have ht:=tabB_of h1
  have hT:=tabR_length t.length (cbF t m g)
  have hr:∀i:Nat,(tab t.length (cbF t m g i)).length=t.length:=fun i=>tab_length _ _
  refine ⟨⟨0,by omega,rfl,by simp⟩,fun i hi=>⟨fun h=>⟨⟨0,by omega,rfl,by simp⟩,fun j ⟨hj,_⟩=>⟨fun h3=>?_,fun h3=>?_⟩⟩,fun h=>List.take_of_length_le (by omega)⟩⟩
  · have q:=cb_in h1 h2 i j (by omega) (by omega)
    have:=hr i
    refine ⟨by omega,by omega,by omega,by omega,by omega,by omega,by omega,by omega,by omega,j+1,by omega,by omega,by omega,?_⟩
    rw [←take_snoc _ 0 j (by omega),tab_getD _ _ _ (by omega)]
    rfl
  · refine ⟨by omega,by omega,i+1,by omega,by omega,by omega,?_⟩
    have e:(tab t.length (cbF t m g i)).take j=tab t.length (cbF t m g i):=List.take_of_length_le (by rw [hr];omega)
    rw [←take_snoc _ [] i (by omega),tabR_getD _ _ _ (by omega),e]
theorem l14Bound_fits:Fits Try.prog 90 ⟨[],l14Bound_ct⟩:=by
  refine ffn (Γ:=gam l14Bound_G) gok_nil Try.func90 fun ds p h hp=>?_
  unfold l14Bound_ct at h
  split at h
  · cases h
    exact ⟨noWr,l14Bound_ann _ _ _ ,by rw [l14Bound_vc];exact l14Bound_ok _ _ _  hp⟩
  · cases h
end Go.Sx
