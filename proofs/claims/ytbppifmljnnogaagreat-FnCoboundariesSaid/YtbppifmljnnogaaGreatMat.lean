/- Mat -/
import Derived.Test.YtbppifmljnnogaaGreatTable
open Go Go.Proofs
namespace Go.Sx
set_option linter.unusedSimpArgs false
set_option linter.unusedVariables false
def cbF (t:List (List Int)) (m:Int) (g:List Int) (x y:Nat):Int:=(g.getD ((t.getD x []).getD y 0).toNat 0 - g.getD y 0+m).tmod m
theorem cb_in {t:List (List Int)} {m:Int} {g:List Int} (h1:tabB t=true) (h2:shiftB (t.length:Int) m g=true) (x y:Nat) (hx:x<t.length) (hy:y<t.length) :
  1≤m∧m≤12∧(g.length:Int)=(t.length:Int)∧(t.getD x []).length=t.length∧0≤(t.getD x []).getD y 0∧(t.getD x []).getD y 0≤(t.length:Int) - 1 ∧
  0≤g.getD ((t.getD x []).getD y 0).toNat 0∧g.getD ((t.getD x []).getD y 0).toNat 0≤m - 1∧0≤g.getD y 0∧g.getD y 0≤m - 1:=by
 obtain ⟨_,_,a⟩:=tabB_of h1
 obtain ⟨b,c⟩:=a x hx
 have d:=c y hy
 obtain ⟨e,f,k,l⟩:=shiftB_of h2
 have u:=l ((t.getD x []).getD y 0).toNat (by omega)
 have v:=l y (by omega)
 exact ⟨e,f,k,b,d.1,d.2,u.1,u.2,v.1,v.2⟩
def coboundary1_p (x:Int) (y:Int) (g:List Int) (t:List (List Int)) (m:Int):Post:=⟨tabB t=true∧shiftB (t.length:Int) m g=true∧0≤x∧x<(t.length:Int)∧0≤y∧y<(t.length:Int),.c (.int .i64 (cbF t m g x.toNat y.toNat)),[]⟩
def coboundary1_ct:List AD→Option Post
 | [.c (.int .i64 (x)),.c (.int .i64 (y)),.box [.ints .i64 (g)],.box [.rows .i64 (t)],.box [.int .i64 (m)]]=>some (coboundary1_p x y g t m)
 | _=>none
def coboundary1_G:List (Nat×Ctr):=[]
def coboundary1_V (x:Int) (y:Int) (g:List Int) (t:List (List Int)) (m:Int):Prop :=
 ((inB x (t.length))∧((inB y ((t.getD (x.toNat) []).length))∧((inB ((List.getD t (x.toNat) []).getD (y.toNat) (0:Int)) (g.length))∧((inB y (g.length))∧((InR (g.getD (((List.getD t (x.toNat) []).getD (y.toNat) (0:Int)).toNat) (0:Int) - g.getD (y.toNat) (0:Int)))∧((InR (g.getD (((List.getD t (x.toNat) []).getD (y.toNat) (0:Int)).toNat) (0:Int) - g.getD (y.toNat) (0:Int)+m))∧((m≠(0:Int))∧((Int.tmod (g.getD (((List.getD t (x.toNat) []).getD (y.toNat) (0:Int)).toNat) (0:Int) - g.getD (y.toNat) (0:Int)+m) m=cbF t m g (x.toNat) (y.toNat))∧True))))))))
theorem coboundary1_vc (x:Int) (y:Int) (g:List Int) (t:List (List Int)) (m:Int):runF Tryz.prog (gam coboundary1_G) noWr noAnn Tryz.f110 (bodyOf Tryz.f110) [] [.c (.int .i64 (x)),.c (.int .i64 (y)),.box [.ints .i64 (g)],.box [.rows .i64 (t)],.box [.int .i64 (m)]] (coboundary1_p x y g t m)=coboundary1_V x y g t m:=by kernel_rfl
theorem coboundary1_ok (x:Int) (y:Int) (g:List Int) (t:List (List Int)) (m:Int) (hpre:(coboundary1_p x y g t m).pre):coboundary1_V x y g t m:=by
 simp only [coboundary1_p,coboundary1_V,BrP_iff,u1,u2,u3,u4,u5,u6,u7,u8,u9,v1,v2,v3,v4,v5,v6,v7,v8,v9,w1,w2,w3,w4,markL_length,inB,InR,room,bdsOk] at hpre ⊢
 obtain ⟨h1,h2,hx1,hx2,hy1,hy2⟩:=hpre
 have q:=cb_in h1 h2 x.toNat y.toNat (by omega) (by omega)
 exact ⟨by omega,by omega,by omega,by omega,by omega,by omega,by omega,rfl⟩
theorem coboundary1_fits:Fits Tryz.prog 110 ⟨[],coboundary1_ct⟩:=by
 refine ffn (Γ:=gam coboundary1_G) gok_nil Tryz.func110 fun ds p h hp=>?_
 unfold coboundary1_ct at h
 split at h
 ·cases h
  exact ⟨noWr,noAnn,by rw [coboundary1_vc];exact coboundary1_ok _ _ _ _ _  hp⟩
 ·cases h
def coboundary_p (t:List (List Int)) (m:Int) (g:List Int):Post:=⟨tabB t=true∧shiftB (t.length:Int) m g=true,.c (.rows 31 2 .i64 (tabR t.length (cbF t m g))),[]⟩
def coboundary_ct:List AD→Option Post
 | [.c (.rows .i64 (t)),.c (.int .i64 (m)),.c (.ints .i64 (g))]=>some (coboundary_p t m g)
 | _=>none
def coboundary_G:List (Nat×Ctr):=[(82,⟨[],tableBy_ct⟩),(110,⟨[],coboundary1_ct⟩)]
def coboundary_V (t:List (List Int)) (m:Int) (g:List Int):Prop :=
 (((((0:Int)≤(↑(t.length):Int))∧(((↑(t.length):Int)≤(144:Int))∧(∀(x y:Int),(0:Int)≤x→x<(↑(t.length):Int)→(0:Int)≤y→y<(↑(t.length):Int)→ctQI (coboundary1_ct [AD.c (FC.int IntKind.i64 x),AD.c (FC.int IntKind.i64 y),AD.box [FC.ints IntKind.i64 g],AD.box [FC.rows IntKind.i64 t],AD.box [FC.int IntKind.i64 m]]))))∧True)∧(((tabR ((↑(t.length):Int).toNat) fun (x y:Nat)=>ctI (coboundary1_ct [AD.c (FC.int IntKind.i64 (↑x:Int)),AD.c (FC.int IntKind.i64 (↑y:Int)),AD.box [FC.ints IntKind.i64 g],AD.box [FC.rows IntKind.i64 t],AD.box [FC.int IntKind.i64 m]]))=tabR (t.length) (cbF t m g))∧True))
theorem coboundary_vc (t:List (List Int)) (m:Int) (g:List Int):runF Tryz.prog (gam coboundary_G) noWr noAnn Tryz.f62 (bodyOf Tryz.f62) [] [.c (.rows .i64 (t)),.c (.int .i64 (m)),.c (.ints .i64 (g))] (coboundary_p t m g)=coboundary_V t m g:=by kernel_rfl
theorem coboundary_ok (t:List (List Int)) (m:Int) (g:List Int) (hpre:(coboundary_p t m g).pre):coboundary_V t m g:=by
 simp only [coboundary_p,coboundary_V,BrP_iff,u1,u2,u3,u4,u5,u6,u7,u8,u9,v1,v2,v3,v4,v5,v6,v7,v8,v9,w1,w2,w3,w4,markL_length,inB,InR,room,bdsOk] at hpre ⊢
 obtain ⟨h1,h2⟩:=hpre
 have ht:=tabB_of h1
 exact ⟨⟨by omega,by omega,fun x y a b c d=>⟨h1,h2,a,b,c,d⟩⟩,tabR_ext fun x y hx hy=>rfl⟩
theorem coboundary_fits:Fits Tryz.prog 62 ⟨[],coboundary_ct⟩:=by
 refine ffn (Γ:=gam coboundary_G) (gok_cons tableBy_fits (gok_cons coboundary1_fits gok_nil)) Tryz.func62 fun ds p h hp=>?_
 unfold coboundary_ct at h
 split at h
 ·cases h
  exact ⟨noWr,noAnn,by rw [coboundary_vc];exact coboundary_ok _ _ _  hp⟩
 ·cases h
def l14Bound_p (t:List (List Int)) (m:Int) (g:List Int):Post:=⟨tabB t=true∧shiftB (t.length:Int) m g=true,.c (.rows 31 2 .i64 (tabR t.length (cbF t m g))),[]⟩
def l14Bound_ct:List AD→Option Post
 | [.c (.rows .i64 (t)),.c (.int .i64 (m)),.c (.ints .i64 (g))]=>some (l14Bound_p t m g)
 | _=>none
def l14Bound_ann (t:List (List Int)) (m:Int) (g:List Int):Nat→Option Ann
 | 0=>some (Ann.mk ((Nat)) (fun i=>⟨[(0,.c (.ro (.rows .i64 (t)))),(1,.c (.int .i64 (m))),(2,.c (.ro (.ints .i64 (g)))),(7,.c (.own (11))),(8,.c (.int .i64 ((i:Int))))],[(11,some (.rows 0 31 2 .i64 ((tabR t.length (cbF t m g)).take i)))]⟩) (fun i=>i≤t.length) (fun i=>t.length - i) (fun i=>fun b_=>match b_ with | 2=>some (Ann.mk ((Nat)) (fun j=>⟨[(0,.c (.ro (.rows .i64 (t)))),(1,.c (.int .i64 (m))),(2,.c (.ro (.ints .i64 (g)))),(7,.c (.own (11))),(8,.c (.int .i64 ((i:Int)))),(9,.c (.own (18))),(10,.c (.int .i64 ((j:Int))))],[(11,some (.rows 0 31 2 .i64 ((tabR t.length (cbF t m g)).take i))),(18,some (.ints 2 .i64 ((tab t.length (cbF t m g i)).take j)))]⟩) (fun j=>j≤t.length∧i<t.length) (fun j=>t.length - j) (fun _=>noAnn)) | _=>none))
 | _=>none
def l14Bound_G:List (Nat×Ctr):=[]
def l14Bound_c1 (t:List (List Int)) (m:Int) (g:List Int) (x0:Nat) (x1:Nat):=(g.getD (((List.getD t ((↑x0:Int).toNat) []).getD ((↑x1:Int).toNat) (0:Int)).toNat) (0:Int) - g.getD ((↑x1:Int).toNat) (0:Int)+m)
def l14Bound_V (t:List (List Int)) (m:Int) (g:List Int):Prop :=
 ((∃x0:Nat,((x0≤t.length)∧((t=t)∧((m=m)∧((g=g)∧(((0:Int)=(↑x0:Int))∧([]=List.take x0 (tabR (t.length) (cbF t m g)))))))))∧(∀x1:Nat,((x1≤t.length)→(BrP (decide ((↑x1:Int)<(↑(t.length):Int))) ((∃x2:Nat,(((x2≤t.length)∧(x1<t.length))∧((t=t)∧((m=m)∧((g=g)∧(((↑x1:Int)=(↑x1:Int))∧(((0:Int)=(↑x2:Int))∧((List.take x1 (tabR (t.length) (cbF t m g))=List.take x1 (tabR (t.length) (cbF t m g)))∧([]=List.take x2 (tab (t.length) (cbF t m g x1)))))))))))∧(∀x3:Nat,(((x3≤t.length)∧(x1<t.length))→(BrP (decide ((↑x3:Int)<(↑(t.length):Int))) ((inB (↑x1:Int) (t.length))∧((inB (↑x3:Int) ((t.getD ((↑x1:Int).toNat) []).length))∧((inB ((List.getD t ((↑x1:Int).toNat) []).getD ((↑x3:Int).toNat) (0:Int)) (g.length))∧((inB (↑x3:Int) (g.length))∧((InR (g.getD (((List.getD t ((↑x1:Int).toNat) []).getD ((↑x3:Int).toNat) (0:Int)).toNat) (0:Int) - g.getD ((↑x3:Int).toNat) (0:Int)))∧((InR (l14Bound_c1 t m g x1 x3))∧((m≠(0:Int))∧((room ((List.take x3 (tab (t.length) (cbF t m g x1))).length+[Int.tmod (l14Bound_c1 t m g x1 x3) m].length))∧((InR ((↑x3:Int)+(1:Int)))∧(∃x4:Nat,(((x4≤t.length)∧(x1<t.length))∧((t.length - x4<t.length - x3)∧((t=t)∧((m=m)∧((g=g)∧(((↑x1:Int)=(↑x1:Int))∧(((↑x3:Int)+(1:Int)=(↑x4:Int))∧((List.take x1 (tabR (t.length) (cbF t m g))=List.take x1 (tabR (t.length) (cbF t m g))) ∧
 (List.take x3 (tab (t.length) (cbF t m g x1))++[Int.tmod (l14Bound_c1 t m g x1 x3) m]=List.take x4 (tab (t.length) (cbF t m g x1))))))))))))))))))))) ((room ((List.take x1 (tabR (t.length) (cbF t m g))).length+[List.take x3 (tab (t.length) (cbF t m g x1))].length))∧((InR ((↑x1:Int)+(1:Int)))∧(∃x5:Nat,((x5≤t.length)∧((t.length - x5<t.length - x1)∧((t=t)∧((m=m)∧((g=g)∧(((↑x1:Int)+(1:Int)=(↑x5:Int))∧(List.take x1 (tabR (t.length) (cbF t m g))++[List.take x3 (tab (t.length) (cbF t m g x1))]=List.take x5 (tabR (t.length) (cbF t m g)))))))))))))))) ((List.take x1 (tabR (t.length) (cbF t m g))=tabR (t.length) (cbF t m g))∧True)))))
theorem l14Bound_vc (t:List (List Int)) (m:Int) (g:List Int):runF Tryz.prog (gam l14Bound_G) noWr (l14Bound_ann t m g) Tryz.f66 (bodyOf Tryz.f66) [] [.c (.rows .i64 (t)),.c (.int .i64 (m)),.c (.ints .i64 (g))] (l14Bound_p t m g)=l14Bound_V t m g:=by kernel_rfl
theorem l14Bound_ok (t:List (List Int)) (m:Int) (g:List Int) (hpre:(l14Bound_p t m g).pre):l14Bound_V t m g:=by
 simp only [l14Bound_p,l14Bound_V,l14Bound_c1,BrP_iff,u1,u2,u3,u4,u5,u6,u7,u8,u9,v1,v2,v3,v4,v5,v6,v7,v8,v9,w1,w2,w3,w4,markL_length,inB,InR,room,bdsOk] at hpre ⊢
 obtain ⟨h1,h2⟩:=hpre
 have ht:=tabB_of h1
 have hT:=tabR_length t.length (cbF t m g)
 have hr:∀i:Nat,(tab t.length (cbF t m g i)).length=t.length:=fun i=>tab_length _ _
 refine ⟨⟨0,by omega,rfl,by simp⟩,fun i hi=>⟨fun h=>⟨⟨0,by omega,rfl,by simp⟩,fun j ⟨hj,_⟩=>⟨fun h3=>?_,fun h3=>?_⟩⟩,fun h=>List.take_of_length_le (by omega)⟩⟩
 ·have q:=cb_in h1 h2 i j (by omega) (by omega)
  have:=hr i
  refine ⟨by omega,by omega,by omega,by omega,by omega,by omega,by omega,by omega,by omega,j+1,by omega,by omega,by omega,?_⟩
  rw [←take_snoc _ 0 j (by omega),tab_getD _ _ _ (by omega)]
  rfl
 ·refine ⟨by omega,by omega,i+1,by omega,by omega,by omega,?_⟩
  have e:(tab t.length (cbF t m g i)).take j=tab t.length (cbF t m g i):=List.take_of_length_le (by rw [hr];omega)
  rw [←take_snoc _ [] i (by omega),tabR_getD _ _ _ (by omega),e]
theorem l14Bound_fits:Fits Tryz.prog 66 ⟨[],l14Bound_ct⟩:=by
 refine ffn (Γ:=gam l14Bound_G) gok_nil Tryz.func66 fun ds p h hp=>?_
 unfold l14Bound_ct at h
 split at h
 ·cases h
  exact ⟨noWr,l14Bound_ann _ _ _ ,by rw [l14Bound_vc];exact l14Bound_ok _ _ _  hp⟩
 ·cases h
def cbC (t:List (List Int)) (m:Int) (g:List Int):List (List Int)×Int :=
 if tabB t=true then (if shiftB (t.length:Int) m g=true then (tabR t.length (cbF t m g),0) else ([],2)) else ([],1)
theorem cbC_nt {t:List (List Int)} {m:Int} {g:List Int} (h:tabB t=false):[]=(cbC t m g).1∧1=(cbC t m g).2:=by simp [cbC,h]
theorem cbC_ns {t:List (List Int)} {m:Int} {g:List Int} (h:tabB t=true) (h2:shiftB (t.length:Int) m g=false):[]=(cbC t m g).1∧2=(cbC t m g).2:=by simp [cbC,h,h2]
theorem cbC_yes {t:List (List Int)} {m:Int} {g:List Int} (h:tabB t=true) (h2:shiftB (t.length:Int) m g=true):tabR t.length (cbF t m g)=(cbC t m g).1∧0=(cbC t m g).2:=by simp [cbC,h,h2]
theorem cbC_room (t:List (List Int)) (m:Int) (g:List Int):roomR (cbC t m g).1:=by
 unfold cbC
 split
 ·split
  ·rename_i h _
   have:=tabB_of h
   exact tabR_room _ _ (by omega)
  ·exact ⟨by simp,by simp⟩
 ·exact ⟨by simp,by simp⟩
def sCob_p (t:List (List Int)) (m:Int) (g:List Int):Post:=⟨roomR t∧g.length≤1099511627776,.tup [.inl (.rows 31 2 .i64 ((cbC t m g).1)),.inl (.int .i64 ((cbC t m g).2))],[]⟩
def sCob_ct:List AD→Option Post
 | [.c (.rows .i64 (t)),.c (.int .i64 (m)),.c (.ints .i64 (g))]=>some (sCob_p t m g)
 | _=>none
def sCob_G:List (Nat×Ctr):=[(63,⟨[],l01Table_ct⟩),(64,⟨[],l01In_ct⟩),(65,⟨[],l14Numbers_ct⟩),(66,⟨[],l14Bound_ct⟩)]
def sCob_V (t:List (List Int)) (m:Int) (g:List Int):Prop :=
 (((roomR t)∧True)∧(BrP (!tabB t) ((([]=(cbC t m g).1)∧(((1:Int)=(cbC t m g).2)∧True))∧True) ((True∧True)∧(BrP (!decide ((1:Int)≤m∧m≤(12:Int))) ((([]=(cbC t m g).1)∧(((2:Int)=(cbC t m g).2)∧True))∧True) (((((1:Int)≤m)∧((m≤(12:Int))∧(room (g.length))))∧True)∧(BrP (!numsB (↑(t.length):Int) m g) ((([]=(cbC t m g).1)∧(((2:Int)=(cbC t m g).2)∧True))∧True) ((((tabB t=true)∧(shiftB (↑(t.length):Int) m g=true))∧True)∧(((tabR (t.length) (cbF t m g)=(cbC t m g).1)∧(((0:Int)=(cbC t m g).2)∧True))∧True))))))))
theorem sCob_vc (t:List (List Int)) (m:Int) (g:List Int):runF Tryz.prog (gam sCob_G) noWr noAnn Tryz.f19 (bodyOf Tryz.f19) [] [.c (.rows .i64 (t)),.c (.int .i64 (m)),.c (.ints .i64 (g))] (sCob_p t m g)=sCob_V t m g:=by kernel_rfl
theorem sCob_ok (t:List (List Int)) (m:Int) (g:List Int) (hpre:(sCob_p t m g).pre):sCob_V t m g:=by
 simp only [sCob_p,sCob_V,BrP_iff,u1,u2,u3,u4,u5,u6,u7,u8,u9,v1,v2,v3,v4,v5,v6,v7,v8,v9,w1,w2,w3,w4,markL_length,inB,InR,room,bdsOk] at hpre ⊢
 refine ⟨hpre.1,fun h=>cbC_nt h,fun h=>⟨fun h2=>cbC_ns h (by rw [shiftB,decide_eq_false h2];rfl),fun h2=>⟨⟨h2.1,h2.2,hpre.2⟩,fun h3=>cbC_ns h (by rw [shiftB,h3,Bool.and_false]),fun h3=>?_⟩⟩⟩
 have h4:shiftB (t.length:Int) m g=true:=by rw [shiftB,decide_eq_true h2,h3];rfl
 exact ⟨⟨h,h4⟩,cbC_yes h h4⟩
theorem sCob_fits:Fits Tryz.prog 19 ⟨[],sCob_ct⟩:=by
 refine ffn (Γ:=gam sCob_G) (gok_cons l01Table_fits (gok_cons l01In_fits (gok_cons l14Numbers_fits (gok_cons l14Bound_fits gok_nil)))) Tryz.func19 fun ds p h hp=>?_
 unfold sCob_ct at h
 split at h
 ·cases h
  exact ⟨noWr,noAnn,by rw [sCob_vc];exact sCob_ok _ _ _  hp⟩
 ·cases h
def iCob_p (t:List (List Int)) (m:Int) (g:List Int):Post:=⟨roomR t∧g.length≤1099511627776,.tup [.inl (.rows 31 2 .i64 ((cbC t m g).1)),.inl (.int .i64 ((cbC t m g).2))],[]⟩
def iCob_ct:List AD→Option Post
 | [.c (.rows .i64 (t)),.c (.int .i64 (m)),.c (.ints .i64 (g))]=>some (iCob_p t m g)
 | _=>none
def iCob_G:List (Nat×Ctr):=[(60,⟨[],IsTable_ct⟩),(61,⟨[],isShift_ct⟩),(62,⟨[],coboundary_ct⟩)]
def iCob_V (t:List (List Int)) (m:Int) (g:List Int):Prop :=
 (((roomR t)∧True)∧(BrP (!tabB t) ((([]=(cbC t m g).1)∧(((1:Int)=(cbC t m g).2)∧True))∧True) (((room (g.length))∧True)∧(BrP (!shiftB (↑(t.length):Int) m g) ((([]=(cbC t m g).1)∧(((2:Int)=(cbC t m g).2)∧True))∧True) ((((tabB t=true)∧(shiftB (↑(t.length):Int) m g=true))∧True)∧(((tabR (t.length) (cbF t m g)=(cbC t m g).1)∧(((0:Int)=(cbC t m g).2)∧True))∧True))))))
theorem iCob_vc (t:List (List Int)) (m:Int) (g:List Int):runF Tryz.prog (gam iCob_G) noWr noAnn Tryz.f18 (bodyOf Tryz.f18) [] [.c (.rows .i64 (t)),.c (.int .i64 (m)),.c (.ints .i64 (g))] (iCob_p t m g)=iCob_V t m g:=by kernel_rfl
theorem iCob_ok (t:List (List Int)) (m:Int) (g:List Int) (hpre:(iCob_p t m g).pre):iCob_V t m g:=by
 simp only [iCob_p,iCob_V,BrP_iff,u1,u2,u3,u4,u5,u6,u7,u8,u9,v1,v2,v3,v4,v5,v6,v7,v8,v9,w1,w2,w3,w4,markL_length,inB,InR,room,bdsOk] at hpre ⊢
 exact ⟨hpre.1,fun h=>cbC_nt h,fun h=>⟨hpre.2,fun h3=>cbC_ns h h3,fun h3=>⟨⟨h,h3⟩,cbC_yes h h3⟩⟩⟩
theorem iCob_fits:Fits Tryz.prog 18 ⟨[],iCob_ct⟩:=by
 refine ffn (Γ:=gam iCob_G) (gok_cons IsTable_fits (gok_cons isShift_fits (gok_cons coboundary_fits gok_nil))) Tryz.func18 fun ds p h hp=>?_
 unfold iCob_ct at h
 split at h
 ·cases h
  exact ⟨noWr,noAnn,by rw [iCob_vc];exact iCob_ok _ _ _  hp⟩
 ·cases h
def matsB (n m:Int) (f:List (List Int)):Bool:=decide ((f.length:Int)=n)&&f.all (numsB n m)
def matB (n m:Int) (f:List (List Int)):Bool:=decide (1≤m∧m≤12)&&matsB n m f
theorem matB_of {n m:Int} {f:List (List Int)} (h:matB n m f=true):1≤m∧m≤12∧(f.length:Int)=n∧∀x,x<f.length→((f.getD x []).length:Int)=n∧∀y,y<(f.getD x []).length→0≤(f.getD x []).getD y 0∧(f.getD x []).getD y 0≤m - 1:=by
 simp only [matB,matsB,Bool.and_eq_true,decide_eq_true_eq] at h
 refine ⟨by omega,by omega,by omega,fun x hx=>?_⟩
 have h1:=allG_get [] h.2.2 x hx
 simp only [numsB,Bool.and_eq_true,decide_eq_true_eq] at h1
 exact ⟨h1.2,fun y hy=>allW_get h1.1 y hy⟩
def l14Matrix_p (n:Int) (m:Int) (f:List (List Int)):Post:=⟨1≤m∧m≤12∧roomR f,.c (.bool (matsB n m f)),[]⟩
def l14Matrix_ct:List AD→Option Post
 | [.c (.int .i64 (n)),.c (.int .i64 (m)),.c (.rows .i64 (f))]=>some (l14Matrix_p n m f)
 | _=>none
def l14Matrix_ann (n:Int) (m:Int) (f:List (List Int)):Nat→Option Ann
 | 0=>some (Ann.mk ((Nat)) (fun i=>⟨[(0,.c (.int .i64 (n))),(1,.c (.int .i64 (m))),(2,.c (.ro (.rows .i64 (f)))),(7,.c (.int .i64 ((i:Int))))],[]⟩) (fun i=>i≤f.length∧f.all (numsB n m)=(f.drop i).all (numsB n m)) (fun i=>f.length - i) (fun _=>noAnn))
 | _=>none
def l14Matrix_G:List (Nat×Ctr):=[(65,⟨[],l14Numbers_ct⟩)]
def l14Matrix_V (n:Int) (m:Int) (f:List (List Int)):Prop :=
 (BrP ((↑(f.length):Int) != n) ((false=matsB n m f)∧True) ((∃x0:Nat,(((x0≤f.length)∧(List.all f (numsB n m)=List.all (List.drop x0 f) (numsB n m)))∧((n=n)∧((m=m)∧((f=f)∧((0:Int)=(↑x0:Int)))))))∧(∀x1:Nat,(((x1≤f.length)∧(List.all f (numsB n m)=List.all (List.drop x1 f) (numsB n m)))→(BrP (decide ((↑x1:Int)<(↑(f.length):Int))) ((inB (↑x1:Int) (f.length))∧(((((1:Int)≤m)∧((m≤(12:Int))∧(room ((f.getD ((↑x1:Int).toNat) []).length))))∧True)∧(BrP (!numsB n m (f.getD ((↑x1:Int).toNat) [])) ((false=matsB n m f)∧True) ((InR ((↑x1:Int)+(1:Int)))∧(∃x2:Nat,(((x2≤f.length)∧(List.all f (numsB n m)=List.all (List.drop x2 f) (numsB n m)))∧((f.length - x2<f.length - x1)∧((n=n)∧((m=m)∧((f=f)∧((↑x1:Int)+(1:Int)=(↑x2:Int)))))))))))) ((true=matsB n m f)∧True))))))
theorem l14Matrix_vc (n:Int) (m:Int) (f:List (List Int)):runF Tryz.prog (gam l14Matrix_G) noWr (l14Matrix_ann n m f) Tryz.f116 (bodyOf Tryz.f116) [] [.c (.int .i64 (n)),.c (.int .i64 (m)),.c (.rows .i64 (f))] (l14Matrix_p n m f)=l14Matrix_V n m f:=by kernel_rfl
theorem l14Matrix_ok (n:Int) (m:Int) (f:List (List Int)) (hpre:(l14Matrix_p n m f).pre):l14Matrix_V n m f:=by
 simp only [l14Matrix_p,l14Matrix_V,BrP_iff,u1,u2,u3,u4,u5,u6,u7,u8,u9,v1,v2,v3,v4,v5,v6,v7,v8,v9,w1,w2,w3,w4,markL_length,inB,InR,room,bdsOk] at hpre ⊢
 obtain ⟨h1,h2,h3⟩:=hpre
 have h4:=h3.1
 refine ⟨fun h=>by rw [matsB,decide_eq_false h];rfl,fun h=>⟨⟨0,⟨by omega,rfl⟩,rfl⟩,fun i ⟨hi,he⟩=>⟨fun h5=>?_,fun h5=>?_⟩⟩⟩
 ·have hd:=allG_drop [] (numsB n m) (show i<f.length by omega)
  refine ⟨by omega,⟨h1,h2,roomR_get h3 i (by omega)⟩,fun h6=>?_,fun h6=>⟨by omega,i+1,⟨by omega,?_⟩,by omega,by omega⟩⟩
  ·rw [matsB,he,hd,h6];simp
  ·rw [he,hd,h6];rfl
 ·rw [matsB,he,decide_eq_true h,List.drop_of_length_le (by omega)];rfl
theorem l14Matrix_fits:Fits Tryz.prog 116 ⟨[],l14Matrix_ct⟩:=by
 refine ffn (Γ:=gam l14Matrix_G) (gok_cons l14Numbers_fits gok_nil) Tryz.func116 fun ds p h hp=>?_
 unfold l14Matrix_ct at h
 split at h
 ·cases h
  exact ⟨noWr,l14Matrix_ann _ _ _ ,by rw [l14Matrix_vc];exact l14Matrix_ok _ _ _  hp⟩
 ·cases h
def l14Code_p (n:Int) (m:Int) (f:List (List Int)):Post:=⟨roomR f,.c (.int .i64 (if matB n m f=true then 0 else 2)),[]⟩
def l14Code_ct:List AD→Option Post
 | [.c (.int .i64 (n)),.c (.int .i64 (m)),.c (.rows .i64 (f))]=>some (l14Code_p n m f)
 | _=>none
def l14Code_G:List (Nat×Ctr):=[(64,⟨[],l01In_ct⟩),(116,⟨[],l14Matrix_ct⟩)]
def l14Code_V (n:Int) (m:Int) (f:List (List Int)):Prop :=
 ((True∧True)∧(BrP (!decide ((1:Int)≤m∧m≤(12:Int))) (((2:Int)=if matB n m f=true then (0:Int) else (2:Int))∧True) (((((1:Int)≤m)∧((m≤(12:Int))∧(roomR f)))∧True)∧(BrP (!matsB n m f) (((2:Int)=if matB n m f=true then (0:Int) else (2:Int))∧True) (((0:Int)=if matB n m f=true then (0:Int) else (2:Int))∧True)))))
theorem l14Code_vc (n:Int) (m:Int) (f:List (List Int)):runF Tryz.prog (gam l14Code_G) noWr noAnn Tryz.f78 (bodyOf Tryz.f78) [] [.c (.int .i64 (n)),.c (.int .i64 (m)),.c (.rows .i64 (f))] (l14Code_p n m f)=l14Code_V n m f:=by kernel_rfl
theorem l14Code_ok (n:Int) (m:Int) (f:List (List Int)) (hpre:(l14Code_p n m f).pre):l14Code_V n m f:=by
 simp only [l14Code_p,l14Code_V,BrP_iff,u1,u2,u3,u4,u5,u6,u7,u8,u9,v1,v2,v3,v4,v5,v6,v7,v8,v9,w1,w2,w3,w4,markL_length,inB,InR,room,bdsOk] at hpre ⊢
 refine ⟨fun h=>by rw [matB,decide_eq_false h];rfl,fun h=>⟨⟨h.1,h.2,hpre⟩,fun h2=>by rw [matB,h2,Bool.and_false];rfl,fun h2=>by rw [matB,h2,decide_eq_true h];rfl⟩⟩
theorem l14Code_fits:Fits Tryz.prog 78 ⟨[],l14Code_ct⟩:=by
 refine ffn (Γ:=gam l14Code_G) (gok_cons l01In_fits (gok_cons l14Matrix_fits gok_nil)) Tryz.func78 fun ds p h hp=>?_
 unfold l14Code_ct at h
 split at h
 ·cases h
  exact ⟨noWr,noAnn,by rw [l14Code_vc];exact l14Code_ok _ _ _  hp⟩
 ·cases h
def isMatrix1_p (r:List Int) (n:Int) (m:Int):Post:=⟨r.length≤1099511627776,.c (.bool (!shiftB n m r)),[]⟩
def isMatrix1_ct:List AD→Option Post
 | [.c (.ints .i64 (r)),.box [.int .i64 (n)],.box [.int .i64 (m)]]=>some (isMatrix1_p r n m)
 | _=>none
def isMatrix1_G:List (Nat×Ctr):=[(61,⟨[],isShift_ct⟩)]
def isMatrix1_V (r:List Int) (n:Int) (m:Int):Prop :=
 (((room (r.length))∧True)∧(((!shiftB n m r)=!shiftB n m r)∧True))
theorem isMatrix1_vc (r:List Int) (n:Int) (m:Int):runF Tryz.prog (gam isMatrix1_G) noWr noAnn Tryz.f111 (bodyOf Tryz.f111) [] [.c (.ints .i64 (r)),.box [.int .i64 (n)],.box [.int .i64 (m)]] (isMatrix1_p r n m)=isMatrix1_V r n m:=by kernel_rfl
theorem isMatrix1_ok (r:List Int) (n:Int) (m:Int) (hpre:(isMatrix1_p r n m).pre):isMatrix1_V r n m:=by
 simp only [isMatrix1_p,isMatrix1_V,BrP_iff,u1,u2,u3,u4,u5,u6,u7,u8,u9,v1,v2,v3,v4,v5,v6,v7,v8,v9,w1,w2,w3,w4,markL_length,inB,InR,room,bdsOk] at hpre ⊢
 exact hpre
theorem isMatrix1_fits:Fits Tryz.prog 111 ⟨[],isMatrix1_ct⟩:=by
 refine ffn (Γ:=gam isMatrix1_G) (gok_cons isShift_fits gok_nil) Tryz.func111 fun ds p h hp=>?_
 unfold isMatrix1_ct at h
 split at h
 ·cases h
  exact ⟨noWr,noAnn,by rw [isMatrix1_vc];exact isMatrix1_ok _ _ _  hp⟩
 ·cases h
def isMatrix_p (n:Int) (m:Int) (f:List (List Int)):Post:=⟨roomR f,.c (.bool (matB n m f)),[]⟩
def isMatrix_ct:List AD→Option Post
 | [.c (.int .i64 (n)),.c (.int .i64 (m)),.c (.rows .i64 (f))]=>some (isMatrix_p n m f)
 | _=>none
def isMatrix_G:List (Nat×Ctr):=[(84,⟨[],within_ct⟩),(107,⟨[],ContainsFuncR_ct⟩),(111,⟨[],isMatrix1_ct⟩)]
def isMatrix_V (n:Int) (m:Int) (f:List (List Int)):Prop :=
 ((True∧True)∧(BrP (decide ((1:Int)≤m∧m≤(12:Int))) (BrP ((↑(f.length):Int) == n) ((((f.length≤(1099511627776:Nat))∧(∀(x:List Int),x∈f→x.length≤(1099511627776:Nat)))∧True)∧(((!List.any f fun (x:List Int)=>!shiftB n m x)=matB n m f)∧True)) ((false=matB n m f)∧True)) ((false=matB n m f)∧True)))
theorem isMatrix_vc (n:Int) (m:Int) (f:List (List Int)):runF Tryz.prog (gam isMatrix_G) noWr noAnn Tryz.f67 (bodyOf Tryz.f67) [] [.c (.int .i64 (n)),.c (.int .i64 (m)),.c (.rows .i64 (f))] (isMatrix_p n m f)=isMatrix_V n m f:=by kernel_rfl
theorem isMatrix_ok (n:Int) (m:Int) (f:List (List Int)) (hpre:(isMatrix_p n m f).pre):isMatrix_V n m f:=by
 simp only [isMatrix_p,isMatrix_V,BrP_iff,u1,u2,u3,u4,u5,u6,u7,u8,u9,v1,v2,v3,v4,v5,v6,v7,v8,v9,w1,w2,w3,w4,markL_length,inB,InR,room,bdsOk] at hpre ⊢
 refine ⟨fun h=>⟨fun h2=>⟨hpre,?_⟩,fun h2=>by rw [matB,matsB,decide_eq_false h2,Bool.false_and,Bool.and_false]⟩,fun h=>by rw [matB,decide_eq_false h];rfl⟩
 have e:shiftB n m=numsB n m:=by funext r;rw [shiftB,decide_eq_true h,Bool.true_and]
 rw [matB,matsB,decide_eq_true h,decide_eq_true h2,Bool.true_and,Bool.true_and,List.all_eq_not_any_not,Bool.not_not,e]
theorem isMatrix_fits:Fits Tryz.prog 67 ⟨[],isMatrix_ct⟩:=by
 refine ffn (Γ:=gam isMatrix_G) (gok_cons within_fits (gok_cons ContainsFuncR_fits (gok_cons isMatrix1_fits gok_nil))) Tryz.func67 fun ds p h hp=>?_
 unfold isMatrix_ct at h
 split at h
 ·cases h
  exact ⟨noWr,noAnn,by rw [isMatrix_vc];exact isMatrix_ok _ _ _  hp⟩
 ·cases h
theorem cbF_in {t:List (List Int)} {m:Int} {g:List Int} (h1:tabB t=true) (h2:shiftB (t.length:Int) m g=true) (x y:Nat) (hx:x<t.length) (hy:y<t.length):0≤cbF t m g x y∧cbF t m g x y≤m - 1:=by
 have q:=cb_in h1 h2 x y hx hy
 exact tmod_in (by omega) (by omega)
def smF (t:List (List Int)) (m:Int) (f:List (List Int)) (g:List Int) (x y:Nat):Int:=((f.getD x []).getD y 0+cbF t m g x y).tmod m
def ShiftMatrix1_p (x:Int) (y:Int) (f:List (List Int)) (b:List (List Int)) (m:Int):Post:=⟨0≤x∧x<(f.length:Int)∧0≤y∧y<((f.getD x.toNat []).length:Int)∧x<(b.length:Int)∧y<((b.getD x.toNat []).length:Int)∧1≤m∧0≤(f.getD x.toNat []).getD y.toNat 0∧(f.getD x.toNat []).getD y.toNat 0≤12∧0≤(b.getD x.toNat []).getD y.toNat 0∧(b.getD x.toNat []).getD y.toNat 0≤12,.c (.int .i64 (((f.getD x.toNat []).getD y.toNat 0+(b.getD x.toNat []).getD y.toNat 0).tmod m)),[]⟩
def ShiftMatrix1_ct:List AD→Option Post
 | [.c (.int .i64 (x)),.c (.int .i64 (y)),.box [.rows .i64 (f)],.box [.rows .i64 (b)],.box [.int .i64 (m)]]=>some (ShiftMatrix1_p x y f b m)
 | _=>none
def ShiftMatrix1_G:List (Nat×Ctr):=[]
def ShiftMatrix1_V (x:Int) (y:Int) (f:List (List Int)) (b:List (List Int)) (m:Int):Prop :=
 ((inB x (f.length))∧((inB y ((f.getD (x.toNat) []).length))∧((inB x (b.length))∧((inB y ((b.getD (x.toNat) []).length))∧((InR ((List.getD f (x.toNat) []).getD (y.toNat) (0:Int)+(List.getD b (x.toNat) []).getD (y.toNat) (0:Int)))∧((m≠(0:Int))∧((Int.tmod ((List.getD f (x.toNat) []).getD (y.toNat) (0:Int)+(List.getD b (x.toNat) []).getD (y.toNat) (0:Int)) m=Int.tmod ((List.getD f (x.toNat) []).getD (y.toNat) (0:Int)+(List.getD b (x.toNat) []).getD (y.toNat) (0:Int)) m)∧True)))))))
theorem ShiftMatrix1_vc (x:Int) (y:Int) (f:List (List Int)) (b:List (List Int)) (m:Int):runF Tryz.prog (gam ShiftMatrix1_G) noWr noAnn Tryz.f83 (bodyOf Tryz.f83) [] [.c (.int .i64 (x)),.c (.int .i64 (y)),.box [.rows .i64 (f)],.box [.rows .i64 (b)],.box [.int .i64 (m)]] (ShiftMatrix1_p x y f b m)=ShiftMatrix1_V x y f b m:=by kernel_rfl
theorem ShiftMatrix1_ok (x:Int) (y:Int) (f:List (List Int)) (b:List (List Int)) (m:Int) (hpre:(ShiftMatrix1_p x y f b m).pre):ShiftMatrix1_V x y f b m:=by
 simp only [ShiftMatrix1_p,ShiftMatrix1_V,BrP_iff,u1,u2,u3,u4,u5,u6,u7,u8,u9,v1,v2,v3,v4,v5,v6,v7,v8,v9,w1,w2,w3,w4,markL_length,inB,InR,room,bdsOk] at hpre ⊢
 omega
theorem ShiftMatrix1_fits:Fits Tryz.prog 83 ⟨[],ShiftMatrix1_ct⟩:=by
 refine ffn (Γ:=gam ShiftMatrix1_G) gok_nil Tryz.func83 fun ds p h hp=>?_
 unfold ShiftMatrix1_ct at h
 split at h
 ·cases h
  exact ⟨noWr,noAnn,by rw [ShiftMatrix1_vc];exact ShiftMatrix1_ok _ _ _ _ _  hp⟩
 ·cases h
def smC (t:List (List Int)) (m:Int) (f:List (List Int)) (g:List Int):List (List Int)×Int :=
 if tabB t=true then (if matB (t.length:Int) m f=true∧numsB (t.length:Int) m g=true then (tabR t.length (smF t m f g),0) else ([],2)) else ([],1)
theorem smC_nt {t:List (List Int)} {m:Int} {f:List (List Int)} {g:List Int} (h:tabB t=false):[]=(smC t m f g).1∧1=(smC t m f g).2:=by simp [smC,h]
theorem smC_ns {t:List (List Int)} {m:Int} {f:List (List Int)} {g:List Int} (h:tabB t=true) (h2:¬ (matB (t.length:Int) m f=true∧numsB (t.length:Int) m g=true)):[]=(smC t m f g).1∧2=(smC t m f g).2:=by simp only [smC,h,if_neg h2,if_true];exact ⟨trivial,trivial⟩
theorem smC_yes {t:List (List Int)} {m:Int} {f:List (List Int)} {g:List Int} (h:tabB t=true) (h2:matB (t.length:Int) m f=true∧numsB (t.length:Int) m g=true):tabR t.length (smF t m f g)=(smC t m f g).1∧0=(smC t m f g).2:=by simp only [smC,h,if_pos h2,if_true];exact ⟨trivial,trivial⟩
def iShiftM_p (t:List (List Int)) (m:Int) (f:List (List Int)) (g:List Int):Post:=⟨roomR t∧roomR f∧g.length≤1099511627776,.tup [.inl (.rows 31 2 .i64 ((smC t m f g).1)),.inl (.int .i64 ((smC t m f g).2))],[]⟩
def iShiftM_ct:List AD→Option Post
 | [.c (.rows .i64 (t)),.c (.int .i64 (m)),.c (.rows .i64 (f)),.c (.ints .i64 (g))]=>some (iShiftM_p t m f g)
 | _=>none
def iShiftM_G:List (Nat×Ctr):=[(60,⟨[],IsTable_ct⟩),(67,⟨[],isMatrix_ct⟩),(61,⟨[],isShift_ct⟩),(62,⟨[],coboundary_ct⟩),(82,⟨[],tableBy_ct⟩),(83,⟨[],ShiftMatrix1_ct⟩)]
def iShiftM_V (t:List (List Int)) (m:Int) (f:List (List Int)) (g:List Int):Prop :=
 (((roomR t)∧True)∧(BrP (!tabB t) ((([]=(smC t m f g).1)∧(((1:Int)=(smC t m f g).2)∧True))∧True) (((roomR f)∧True)∧(BrP (!matB (↑(t.length):Int) m f) ((([]=(smC t m f g).1)∧(((2:Int)=(smC t m f g).2)∧True))∧True) (((room (g.length))∧True)∧(BrP (!shiftB (↑(t.length):Int) m g) ((([]=(smC t m f g).1)∧(((2:Int)=(smC t m f g).2)∧True))∧True) ((((tabB t=true)∧(shiftB (↑(t.length):Int) m g=true))∧True)∧(((((0:Int)≤(↑(t.length):Int))∧(((↑(t.length):Int)≤(144:Int))∧(∀(x y:Int),(0:Int)≤x→x<(↑(t.length):Int)→(0:Int)≤y→y<(↑(t.length):Int)→ctQI (ShiftMatrix1_ct [AD.c (FC.int IntKind.i64 x),AD.c (FC.int IntKind.i64 y),AD.box [FC.rows IntKind.i64 f],AD.box [FC.rows IntKind.i64 (tabR (t.length) (cbF t m g))],AD.box [FC.int IntKind.i64 m]]))))∧True)∧((((tabR ((↑(t.length):Int).toNat) fun (x y:Nat)=>ctI (ShiftMatrix1_ct [AD.c (FC.int IntKind.i64 (↑x:Int)),AD.c (FC.int IntKind.i64 (↑y:Int)),AD.box [FC.rows IntKind.i64 f],AD.box [FC.rows IntKind.i64 (tabR (t.length) (cbF t m g))],AD.box [FC.int IntKind.i64 m]]))=(smC t m f g).1)∧(((0:Int)=(smC t m f g).2)∧True))∧True)))))))))
theorem iShiftM_vc (t:List (List Int)) (m:Int) (f:List (List Int)) (g:List Int):runF Tryz.prog (gam iShiftM_G) noWr noAnn Tryz.f31 (bodyOf Tryz.f31) [] [.c (.rows .i64 (t)),.c (.int .i64 (m)),.c (.rows .i64 (f)),.c (.ints .i64 (g))] (iShiftM_p t m f g)=iShiftM_V t m f g:=by kernel_rfl
theorem iShiftM_ok (t:List (List Int)) (m:Int) (f:List (List Int)) (g:List Int) (hpre:(iShiftM_p t m f g).pre):iShiftM_V t m f g:=by
 simp only [iShiftM_p,iShiftM_V,BrP_iff,u1,u2,u3,u4,u5,u6,u7,u8,u9,v1,v2,v3,v4,v5,v6,v7,v8,v9,w1,w2,w3,w4,markL_length,inB,InR,room,bdsOk] at hpre ⊢
 obtain ⟨p1,p2,p3⟩:=hpre
 refine ⟨p1,fun h=>smC_nt h,fun h=>⟨p2,fun h2=>smC_ns h (by rw [h2];simp),fun h2=>⟨p3,fun h3=>smC_ns h fun hc=>?_,fun h3=>?_⟩⟩⟩
 ·rw [shiftB,hc.2,decide_eq_true (show 1≤m∧m≤12 from ⟨(matB_of h2).1,(matB_of h2).2.1⟩)] at h3
  cases h3
 ·have hn:numsB (t.length:Int) m g=true:=by
   rw [shiftB,Bool.and_eq_true] at h3
   exact h3.2
  have ht:=tabB_of h
  obtain ⟨m1,m2,m3,m4⟩:=matB_of h2
  have hy:=smC_yes h ⟨h2,hn⟩
  refine ⟨⟨h,h3⟩,⟨by omega,by omega,fun x y a b c d=>?_⟩,?_,hy.2⟩
  ·have q:=cbF_in h h3 x.toNat y.toNat (by omega) (by omega)
   have r1:=m4 x.toNat (by omega)
   have r2:=r1.2 y.toNat (by omega)
   have e:=tabR_getD t.length (cbF t m g) x.toNat (by omega)
   have e2:=tab_getD t.length (cbF t m g x.toNat) y.toNat (by omega)
   refine ⟨by omega,by omega,by omega,by omega,?_,?_,by omega,by omega,by omega,?_,?_⟩
   ·rw [tabR_length];omega
   ·rw [e,tab_length];omega
   ·rw [e,e2];omega
   ·rw [e,e2];omega
  ·refine (tabR_ext fun x y hx hy=>?_).trans hy.1
   show ((f.getD (Int.toNat (x:Int)) []).getD (Int.toNat (y:Int)) 0+((tabR t.length (cbF t m g)).getD (Int.toNat (x:Int)) []).getD (Int.toNat (y:Int)) 0).tmod m=_
   rw [Int.toNat_natCast,Int.toNat_natCast,tabR_getD _ _ _ hx,tab_getD _ _ _ hy]
   rfl
theorem iShiftM_fits:Fits Tryz.prog 31 ⟨[],iShiftM_ct⟩:=by
 refine ffn (Γ:=gam iShiftM_G) (gok_cons IsTable_fits (gok_cons isMatrix_fits (gok_cons isShift_fits (gok_cons coboundary_fits (gok_cons tableBy_fits (gok_cons ShiftMatrix1_fits gok_nil)))))) Tryz.func31 fun ds p h hp=>?_
 unfold iShiftM_ct at h
 split at h
 ·cases h
  exact ⟨noWr,noAnn,by rw [iShiftM_vc];exact iShiftM_ok _ _ _ _  hp⟩
 ·cases h
end Go.Sx
