/- Own2 -/
import Derived.Test.YtbppifmljnnogaaGreatLists
import Derived.Test.YtbppifmljnnogaaGreatRack
import Derived.Shelf.SlicesG.Delete
import Derived.Lib.OwnBridge
section
section
open Go Go.Proofs
namespace Go.Sx
set_option linter.unusedSimpArgs false
set_option linter.unusedVariables false
def inP (p:Int) (c:List Int):Prop:=∀q,q<c.length→0≤c.getD q 0∧c.getD q 0≤p - 1
end Go.Sx
end
section
open Go Go.Proofs Go.RowKit Go.Shelf
namespace Go.Sx
set_option linter.unusedSimpArgs false
set_option linter.unusedVariables false
end Go.Sx
end
end
section
open Go Go.Proofs
namespace Go.Sx
set_option linter.unusedSimpArgs false
set_option linter.unusedVariables false
def l01Own_p (l:List Int):Post:=⟨room l.length,.c (.ints 2 .i64 (l)),[]⟩
def l01Own_ct:List AD→Option Post
 | [.c (.ints .i64 (l))]=>some (l01Own_p l)
 | _=>none
def l01Own_G:List (Nat×Ctr):=[]
def l01Own_V (l:List Int):Prop :=
 ((room (([]:List Int).length+l.length))∧(([]++l=l)∧True))
theorem l01Own_vc (l:List Int):runF Tryz.prog (gam l01Own_G) noWr noAnn Tryz.f117 (bodyOf Tryz.f117) [] [.c (.ints .i64 (l))] (l01Own_p l)=l01Own_V l:=by kernel_rfl
theorem l01Own_ok (l:List Int) (hpre:(l01Own_p l).pre):l01Own_V l:=by
 simp only [l01Own_p,l01Own_V,BrP_iff,u1,u2,u3,u4,u5,u6,u7,u8,u9,v1,v2,v3,v4,v5,v6,v7,v8,v9,w1,w2,w3,w4,markL_length,inB,InR,room,bdsOk] at hpre ⊢
 simp [hpre]
theorem l01Own_fits:Fits Tryz.prog 117 ⟨[],l01Own_ct⟩:=by
 refine ffn (Γ:=gam l01Own_G) gok_nil Tryz.func117 fun ds p h hp=>?_
 unfold l01Own_ct at h
 split at h
 ·cases h
  exact ⟨noWr,noAnn,by rw [l01Own_vc];exact l01Own_ok _  hp⟩
 ·cases h
def rackB (t:List (List Int)):Bool:=tabB t&&t.all permB&&(rkF t).isNone
theorem rackB_tab {t:List (List Int)} (h:rackB t=true):tabB t=true:=by
 simp only [rackB,Bool.and_eq_true] at h
 exact h.1.1
theorem firstO_some {α:Type} {n:Nat} {q:Nat→Option α} {r:α}:∀{k:Nat},firstO n q k=some r→∃i,q i=some r
 | 0,h=>by cases h
 | k+1,h=>by
  simp only [firstO,Option.or_eq_some_iff] at h
  rcases h with h | ⟨_,h⟩
  ·exact ⟨_,h⟩
  ·exact firstO_some h
theorem tmod_sub {a b m:Int} (ha:0≤a) (hb:0≤b) (hm:1≤m):a.tmod m=b.tmod m↔(a - b).tmod m=0:=by
 rw [Int.tmod_eq_emod_of_nonneg ha,Int.tmod_eq_emod_of_nonneg hb,Int.emod_eq_emod_iff_emod_sub_eq_zero]
 exact ⟨fun h=>Int.tmod_eq_zero_of_dvd (Int.dvd_of_emod_eq_zero h),fun h=>Int.emod_eq_zero_of_dvd (Int.dvd_of_tmod_eq_zero h)⟩
def IsRack_p (t:List (List Int)):Post:=⟨roomR t,.c (.bool (rackB t)),[]⟩
def IsRack_ct:List AD→Option Post
 | [.agg [.rows .i64 (t)]]=>some (IsRack_p t)
 | _=>none
def IsRack_G:List (Nat×Ctr):=[(60,⟨[],IsTable_ct⟩),(72,⟨[],permutationRows_ct⟩),(73,⟨[],rackFault_ct⟩)]
def IsRack_V (t:List (List Int)):Prop :=
 (((roomR t)∧True)∧(BrP (tabB t) (((roomR t)∧True)∧(BrP (List.all t permB) (((tabB t=true)∧True)∧((Option.isNone (rkF t)=rackB t)∧True)) ((false=rackB t)∧True))) ((false=rackB t)∧True)))
theorem IsRack_vc (t:List (List Int)):runF Tryz.prog (gam IsRack_G) noWr noAnn Tryz.f24 (bodyOf Tryz.f24) [] [.agg [.rows .i64 (t)]] (IsRack_p t)=IsRack_V t:=by kernel_rfl
theorem IsRack_ok (t:List (List Int)) (hpre:(IsRack_p t).pre):IsRack_V t:=by
 simp only [IsRack_p,IsRack_V,BrP_iff,u1,u2,u3,u4,u5,u6,u7,u8,u9,v1,v2,v3,v4,v5,v6,v7,v8,v9,w1,w2,w3,w4,markL_length,inB,InR,room,bdsOk] at hpre ⊢
 refine ⟨hpre,fun h=>⟨hpre,fun h2=>⟨h,?_⟩,fun h2=>?_⟩,fun h=>?_⟩
 ·rw [rackB,h,h2];rfl
 ·rw [rackB,h2];simp
 ·rw [rackB,h];rfl
theorem IsRack_fits:Fits Tryz.prog 24 ⟨[],IsRack_ct⟩:=by
 refine ffn (Γ:=gam IsRack_G) (gok_cons IsTable_fits (gok_cons permutationRows_fits (gok_cons rackFault_fits gok_nil))) Tryz.func24 fun ds p h hp=>?_
 unfold IsRack_ct at h
 split at h
 ·cases h
  exact ⟨noWr,noAnn,by rw [IsRack_vc];exact IsRack_ok _  hp⟩
 ·cases h
def rcZ (t:List (List Int)) (m:Int) (f:List (List Int)) (x y z:Nat):Option Unit:=if (en f y z+en f x (en t y z).toNat).tmod m=(en f x z+en f (en t x y).toNat (en t x z).toNat).tmod m then none else some ()
def rcY (t:List (List Int)) (m:Int) (f:List (List Int)) (x y:Nat):Option Unit:=firstO t.length (rcZ t m f x y) t.length
def rcX (t:List (List Int)) (m:Int) (f:List (List Int)) (x:Nat):Option Unit:=firstO t.length (rcY t m f x) t.length
def rcF (t:List (List Int)) (m:Int) (f:List (List Int)):Option Unit:=firstO t.length (rcX t m f) t.length
def isRackCocycle_p (t:List (List Int)) (m:Int) (f:List (List Int)):Post:=⟨tabB t=true∧matB (t.length:Int) m f=true,.c (.bool ((rcF t m f).isNone)),[]⟩
def isRackCocycle_ct:List AD→Option Post
 | [.c (.rows .i64 (t)),.c (.int .i64 (m)),.c (.rows .i64 (f))]=>some (isRackCocycle_p t m f)
 | _=>none
def isRackCocycle_ann (t:List (List Int)) (m:Int) (f:List (List Int)):Nat→Option Ann
 | 0=>some (Ann.mk ((Nat)) (fun i=>⟨[(0,.c (.ro (.rows .i64 (t)))),(1,.c (.int .i64 (m))),(2,.c (.ro (.rows .i64 (f)))),(14,.c (.int .i64 ((t.length:Int)))),(15,.c (.int .i64 ((i:Int))))],[]⟩) (fun i=>i≤t.length∧rcF t m f=firstO t.length (rcX t m f) (t.length - i)) (fun i=>t.length - i) (fun i=>fun b_=>match b_ with | 2=>some (Ann.mk ((Nat)) (fun j=>⟨[(0,.c (.ro (.rows .i64 (t)))),(1,.c (.int .i64 (m))),(2,.c (.ro (.rows .i64 (f)))),(14,.c (.int .i64 ((t.length:Int)))),(15,.c (.int .i64 ((i:Int)))),(7,.c (.int .i64 ((i:Int)))),(21,.c (.ro (.ints .i64 ((t.getD i []))))),(22,.c (.int .i64 ((t.length:Int)))),(23,.c (.int .i64 ((j:Int))))],[]⟩) (fun j=>j≤t.length∧i<t.length∧rcF t m f=(firstO t.length (rcY t m f i) (t.length - j)).or (firstO t.length (rcX t m f) (t.length - (i+1)))) (fun j=>t.length - j) (fun j=>fun b_=>match b_ with | 4=>some (Ann.mk ((Nat)) (fun k=>⟨[(0,.c (.ro (.rows .i64 (t)))),(1,.c (.int .i64 (m))),(2,.c (.ro (.rows .i64 (f)))),(14,.c (.int .i64 ((t.length:Int)))),(15,.c (.int .i64 ((i:Int)))),(7,.c (.int .i64 ((i:Int)))),(21,.c (.ro (.ints .i64 ((t.getD i []))))),(22,.c (.int .i64 ((t.length:Int)))),(23,.c (.int .i64 ((j:Int)))),(8,.c (.int .i64 ((j:Int)))),(9,.c (.int .i64 ((t.getD i []).getD j 0))),(31,.c (.ro (.ints .i64 ((t.getD i []))))),(32,.c (.int .i64 ((t.length:Int)))),(33,.c (.int .i64 ((k:Int))))],[]⟩) (fun k=>k≤t.length∧j<t.length∧rcF t m f=((firstO t.length (rcZ t m f i j) (t.length - k)).or (firstO t.length (rcY t m f i) (t.length - (j+1)))).or (firstO t.length (rcX t m f) (t.length - (i+1)))) (fun k=>t.length - k) (fun _=>noAnn)) | _=>none)) | _=>none))
 | _=>none
def isRackCocycle_G:List (Nat×Ctr):=[]
def isRackCocycle_V (t:List (List Int)) (m:Int) (f:List (List Int)):Prop :=
 ((∃x0:Nat,(((x0≤t.length)∧(rcF t m f=firstO (t.length) (rcX t m f) (t.length - x0)))∧((t=t)∧((m=m)∧((f=f)∧(((↑(t.length):Int)=(↑(t.length):Int))∧((0:Int)=(↑x0:Int))))))))∧(∀x1:Nat,(((x1≤t.length)∧(rcF t m f=firstO (t.length) (rcX t m f) (t.length - x1)))→(BrP (decide ((↑x1:Int)<(↑(t.length):Int))) ((inB (↑x1:Int) (t.length))∧((∃x2:Nat,(((x2≤t.length)∧((x1<t.length)∧(rcF t m f=Option.or (firstO (t.length) (rcY t m f x1) (t.length - x2)) (firstO (t.length) (rcX t m f) (t.length - (x1+(1:Nat)))))))∧((t=t)∧((m=m)∧((f=f)∧(((↑(t.length):Int)=(↑(t.length):Int))∧(((↑x1:Int)=(↑x1:Int))∧(((↑x1:Int)=(↑x1:Int))∧((t.getD ((↑x1:Int).toNat) []=t.getD x1 [])∧(((↑((t.getD ((↑x1:Int).toNat) []).length):Int)=(↑(t.length):Int))∧((0:Int)=(↑x2:Int))))))))))))∧(∀x3:Nat,(((x3≤t.length)∧((x1<t.length)∧(rcF t m f=Option.or (firstO (t.length) (rcY t m f x1) (t.length - x3)) (firstO (t.length) (rcX t m f) (t.length - (x1+(1:Nat)))))))→(BrP (decide ((↑x3:Int)<(↑(t.length):Int))) ((inB (↑x3:Int) ((t.getD x1 []).length))∧((inB (↑x1:Int) (t.length))∧((∃x4:Nat,(((x4≤t.length)∧((x3<t.length)∧(rcF t m f=Option.or (Option.or (firstO (t.length) (rcZ t m f x1 x3) (t.length - x4)) (firstO (t.length) (rcY t m f x1) (t.length - (x3+(1:Nat))))) (firstO (t.length) (rcX t m f) (t.length - (x1+(1:Nat)))))))∧((t=t)∧((m=m)∧((f=f)∧(((↑(t.length):Int)=(↑(t.length):Int))∧(((↑x1:Int)=(↑x1:Int))∧(((↑x1:Int)=(↑x1:Int)) ∧
 ((t.getD x1 []=t.getD x1 [])∧(((↑(t.length):Int)=(↑(t.length):Int))∧(((↑x3:Int)=(↑x3:Int))∧(((↑x3:Int)=(↑x3:Int))∧(((List.getD t x1 []).getD ((↑x3:Int).toNat) (0:Int)=(List.getD t x1 []).getD x3 (0:Int))∧((t.getD ((↑x1:Int).toNat) []=t.getD x1 [])∧(((↑((t.getD ((↑x1:Int).toNat) []).length):Int)=(↑(t.length):Int))∧((0:Int)=(↑x4:Int)))))))))))))))))∧(∀x5:Nat,(((x5≤t.length)∧((x3<t.length)∧(rcF t m f=Option.or (Option.or (firstO (t.length) (rcZ t m f x1 x3) (t.length - x5)) (firstO (t.length) (rcY t m f x1) (t.length - (x3+(1:Nat))))) (firstO (t.length) (rcX t m f) (t.length - (x1+(1:Nat)))))))→(BrP (decide ((↑x5:Int)<(↑(t.length):Int))) ((inB (↑x5:Int) ((t.getD x1 []).length))∧((inB (↑x3:Int) (t.length))∧((inB (↑x5:Int) ((t.getD ((↑x3:Int).toNat) []).length))∧((inB (↑x3:Int) (f.length))∧((inB (↑x5:Int) ((f.getD ((↑x3:Int).toNat) []).length))∧((inB (↑x1:Int) (f.length))∧((inB ((List.getD t ((↑x3:Int).toNat) []).getD ((↑x5:Int).toNat) (0:Int)) ((f.getD ((↑x1:Int).toNat) []).length))∧((InR ((List.getD f ((↑x3:Int).toNat) []).getD ((↑x5:Int).toNat) (0:Int)+(List.getD f ((↑x1:Int).toNat) []).getD (((List.getD t ((↑x3:Int).toNat) []).getD ((↑x5:Int).toNat) (0:Int)).toNat) (0:Int)))∧((inB (↑x1:Int) (f.length))∧((inB (↑x5:Int) ((f.getD ((↑x1:Int).toNat) []).length)) ∧
 ((InR ((List.getD f ((↑x3:Int).toNat) []).getD ((↑x5:Int).toNat) (0:Int)+(List.getD f ((↑x1:Int).toNat) []).getD (((List.getD t ((↑x3:Int).toNat) []).getD ((↑x5:Int).toNat) (0:Int)).toNat) (0:Int) - (List.getD f ((↑x1:Int).toNat) []).getD ((↑x5:Int).toNat) (0:Int)))∧((inB ((List.getD t x1 []).getD x3 (0:Int)) (f.length))∧((inB ((List.getD t x1 []).getD ((↑x5:Int).toNat) (0:Int)) ((f.getD (((List.getD t x1 []).getD x3 (0:Int)).toNat) []).length))∧((InR ((List.getD f ((↑x3:Int).toNat) []).getD ((↑x5:Int).toNat) (0:Int)+(List.getD f ((↑x1:Int).toNat) []).getD (((List.getD t ((↑x3:Int).toNat) []).getD ((↑x5:Int).toNat) (0:Int)).toNat) (0:Int) - (List.getD f ((↑x1:Int).toNat) []).getD ((↑x5:Int).toNat) (0:Int) - (List.getD f ((List.getD (List.getD t x1 []) x3 (0:Int)).toNat) []).getD (((List.getD t x1 []).getD ((↑x5:Int).toNat) (0:Int)).toNat) (0:Int)))∧((m≠(0:Int))∧(BrP (Int.tmod ((List.getD f ((↑x3:Int).toNat) []).getD ((↑x5:Int).toNat) (0:Int)+(List.getD f ((↑x1:Int).toNat) []).getD (((List.getD t ((↑x3:Int).toNat) []).getD ((↑x5:Int).toNat) (0:Int)).toNat) (0:Int) - (List.getD f ((↑x1:Int).toNat) []).getD ((↑x5:Int).toNat) (0:Int) - (List.getD f ((List.getD (List.getD t x1 []) x3 (0:Int)).toNat) []).getD (((List.getD t x1 []).getD ((↑x5:Int).toNat) (0:Int)).toNat) (0:Int)) m != (0:Int)) ((false=Option.isNone (rcF t m f))∧True) ((InR ((↑x5:Int)+(1:Int)))∧(∃x6:Nat,(((x6≤t.length)∧((x3<t.length) ∧
 (rcF t m f=Option.or (Option.or (firstO (t.length) (rcZ t m f x1 x3) (t.length - x6)) (firstO (t.length) (rcY t m f x1) (t.length - (x3+(1:Nat))))) (firstO (t.length) (rcX t m f) (t.length - (x1+(1:Nat)))))))∧((t.length - x6<t.length - x5)∧((t=t)∧((m=m)∧((f=f)∧(((↑(t.length):Int)=(↑(t.length):Int))∧(((↑x1:Int)=(↑x1:Int))∧(((↑x1:Int)=(↑x1:Int))∧((t.getD x1 []=t.getD x1 [])∧(((↑(t.length):Int)=(↑(t.length):Int))∧(((↑x3:Int)=(↑x3:Int))∧(((↑x3:Int)=(↑x3:Int))∧(((List.getD t x1 []).getD x3 (0:Int)=(List.getD t x1 []).getD x3 (0:Int))∧((t.getD x1 []=t.getD x1 [])∧(((↑(t.length):Int)=(↑(t.length):Int))∧((↑x5:Int)+(1:Int)=(↑x6:Int))))))))))))))))))))))))))))))))))) ((InR ((↑x3:Int)+(1:Int)))∧(∃x7:Nat,(((x7≤t.length)∧((x1<t.length)∧(rcF t m f=Option.or (firstO (t.length) (rcY t m f x1) (t.length - x7)) (firstO (t.length) (rcX t m f) (t.length - (x1+(1:Nat)))))))∧((t.length - x7<t.length - x3)∧((t=t)∧((m=m)∧((f=f)∧(((↑(t.length):Int)=(↑(t.length):Int))∧(((↑x1:Int)=(↑x1:Int))∧(((↑x1:Int)=(↑x1:Int))∧((t.getD x1 []=t.getD x1 [])∧(((↑(t.length):Int)=(↑(t.length):Int))∧((↑x3:Int)+(1:Int)=(↑x7:Int)))))))))))))))))))) ((InR ((↑x1:Int)+(1:Int)))∧(∃x8:Nat,(((x8≤t.length)∧(rcF t m f=firstO (t.length) (rcX t m f) (t.length - x8)))∧((t.length - x8<t.length - x1)∧((t=t)∧((m=m)∧((f=f)∧(((↑(t.length):Int)=(↑(t.length):Int))∧((↑x1:Int)+(1:Int)=(↑x8:Int))))))))))))))) ((true=Option.isNone (rcF t m f)) ∧
 True)))))
theorem isRackCocycle_vc (t:List (List Int)) (m:Int) (f:List (List Int)):runF Tryz.prog (gam isRackCocycle_G) noWr (isRackCocycle_ann t m f) Tryz.f70 (bodyOf Tryz.f70) [] [.c (.rows .i64 (t)),.c (.int .i64 (m)),.c (.rows .i64 (f))] (isRackCocycle_p t m f)=isRackCocycle_V t m f:=by kernel_rfl
theorem isRackCocycle_ok (t:List (List Int)) (m:Int) (f:List (List Int)) (hpre:(isRackCocycle_p t m f).pre):isRackCocycle_V t m f:=by
 simp only [isRackCocycle_p,isRackCocycle_V,BrP_iff,u1,u2,u3,u4,u5,u6,u7,u8,u9,v1,v2,v3,v4,v5,v6,v7,v8,v9,w1,w2,w3,w4,markL_length,inB,InR,room,bdsOk] at hpre ⊢
 obtain ⟨hp1,hp2⟩:=hpre
 obtain ⟨n1,n2,ht⟩:=tabB_of hp1
 obtain ⟨m1,m2,m3,hf⟩:=matB_of hp2
 refine ⟨⟨0,⟨by omega,rfl⟩,rfl⟩,fun i ⟨hi,hx⟩=>⟨fun h=>⟨by omega,⟨0,⟨by omega,by omega,?_⟩,by have:=ht i (by omega);omega,rfl⟩,fun j ⟨hj,_,hy⟩=>⟨fun h2=>⟨by have:=ht i (by omega);omega,by omega,⟨0,⟨by omega,by omega,?_⟩,by have:=ht i (by omega);omega,rfl⟩,fun k ⟨hk,_,hz⟩=>⟨fun h3=>?_,fun h3=>?_⟩⟩,fun h2=>?_⟩⟩,fun h=>?_⟩⟩
 ·rw [hx,firstO_step _ _ i (by omega)];rfl
 ·rw [hy,firstO_step _ _ j (by omega)];rfl
 ·skip
  have a:=ht i (by omega)
  have b:=ht j (by omega)
  have c:=b.2 k (by omega)
  have d:=a.2 j (by omega)
  have e:=a.2 k (by omega)
  have fi:=hf i (by omega)
  have fj:=hf j (by omega)
  have fd:=hf ((t.getD i []).getD j 0).toNat (by omega)
  have g1:=fj.2 k (by omega)
  have g2:=fi.2 ((t.getD j []).getD k 0).toNat (by omega)
  have g3:=fi.2 k (by omega)
  have g4:=fd.2 ((t.getD i []).getD k 0).toNat (by omega)
  have key:=tmod_sub (a:=(f.getD j []).getD k 0+(f.getD i []).getD ((t.getD j []).getD k 0).toNat 0) (b:=(f.getD i []).getD k 0+(f.getD ((t.getD i []).getD j 0).toNat []).getD ((t.getD i []).getD k 0).toNat 0) (m:=m) (by omega) (by omega) m1
  rw [←Int.sub_sub] at key
  refine ⟨by omega,by omega,by omega,by omega,by omega,by omega,by omega,by omega,by omega,by omega,by omega,by omega,by omega,by omega,by omega,fun h4=>?_,fun h4=>⟨by omega,k+1,⟨by omega,by omega,?_⟩,by omega,by omega⟩⟩
  ·rw [hz,firstO_step _ _ k (by omega),show rcZ t m f i j k=some () from if_neg fun e=>h4 (key.1 e)];rfl
  ·rw [hz,firstO_step _ _ k (by omega),show rcZ t m f i j k=none from if_pos (key.2 h4)];rfl
 ·refine ⟨by omega,j+1,⟨by omega,by omega,?_⟩,by omega,by omega⟩
  rw [hz,show t.length - k=0 by omega];rfl
 ·refine ⟨by omega,i+1,⟨by omega,?_⟩,by omega,by omega⟩
  rw [hy,show t.length - j=0 by omega];rfl
 ·rw [hx,show t.length - i=0 by omega];rfl
theorem isRackCocycle_fits:Fits Tryz.prog 70 ⟨[],isRackCocycle_ct⟩:=by
 refine ffn (Γ:=gam isRackCocycle_G) gok_nil Tryz.func70 fun ds p h hp=>?_
 unfold isRackCocycle_ct at h
 split at h
 ·cases h
  exact ⟨noWr,isRackCocycle_ann _ _ _ ,by rw [isRackCocycle_vc];exact isRackCocycle_ok _ _ _  hp⟩
 ·cases h
def rcC (t:List (List Int)) (m:Int) (f:List (List Int)):Bool×Int:=if rackB t=true then (if matB (t.length:Int) m f=true then ((rcF t m f).isNone,0) else (false,2)) else (false,1)
def iIsRC_p (t:List (List Int)) (m:Int) (f:List (List Int)):Post:=⟨roomR t∧roomR f,.tup [.inl (.bool ((rcC t m f).1)),.inl (.int .i64 ((rcC t m f).2))],[]⟩
def iIsRC_ct:List AD→Option Post
 | [.agg [.rows .i64 (t)],.c (.int .i64 (m)),.c (.rows .i64 (f))]=>some (iIsRC_p t m f)
 | _=>none
def iIsRC_G:List (Nat×Ctr):=[(24,⟨[],IsRack_ct⟩),(67,⟨[],isMatrix_ct⟩),(70,⟨[],isRackCocycle_ct⟩)]
def iIsRC_V (t:List (List Int)) (m:Int) (f:List (List Int)):Prop :=
 (((roomR t)∧True)∧(BrP (!rackB t) (((false=(rcC t m f).1)∧(((1:Int)=(rcC t m f).2)∧True))∧True) (((roomR f)∧True)∧(BrP (!matB (↑(t.length):Int) m f) (((false=(rcC t m f).1)∧(((2:Int)=(rcC t m f).2)∧True))∧True) ((((tabB t=true)∧(matB (↑(t.length):Int) m f=true))∧True)∧(((Option.isNone (rcF t m f)=(rcC t m f).1)∧(((0:Int)=(rcC t m f).2)∧True))∧True))))))
theorem iIsRC_vc (t:List (List Int)) (m:Int) (f:List (List Int)):runF Tryz.prog (gam iIsRC_G) noWr noAnn Tryz.f22 (bodyOf Tryz.f22) [] [.agg [.rows .i64 (t)],.c (.int .i64 (m)),.c (.rows .i64 (f))] (iIsRC_p t m f)=iIsRC_V t m f:=by kernel_rfl
theorem iIsRC_ok (t:List (List Int)) (m:Int) (f:List (List Int)) (hpre:(iIsRC_p t m f).pre):iIsRC_V t m f:=by
 simp only [iIsRC_p,iIsRC_V,BrP_iff,u1,u2,u3,u4,u5,u6,u7,u8,u9,v1,v2,v3,v4,v5,v6,v7,v8,v9,w1,w2,w3,w4,markL_length,inB,InR,room,bdsOk] at hpre ⊢
 refine ⟨hpre.1,fun h=>by simp [rcC,h],fun h=>⟨hpre.2,fun h2=>by simp [rcC,h,h2],fun hm=>?_⟩⟩
 rw [rcC,if_pos h,if_pos hm]
 exact ⟨⟨rackB_tab h,hm⟩,rfl,rfl⟩
theorem iIsRC_fits:Fits Tryz.prog 22 ⟨[],iIsRC_ct⟩:=by
 refine ffn (Γ:=gam iIsRC_G) (gok_cons IsRack_fits (gok_cons isMatrix_fits (gok_cons isRackCocycle_fits gok_nil))) Tryz.func22 fun ds p h hp=>?_
 unfold iIsRC_ct at h
 split at h
 ·cases h
  exact ⟨noWr,noAnn,by rw [iIsRC_vc];exact iIsRC_ok _ _ _  hp⟩
 ·cases h
def primeB (p:Int):Bool:=decide (p=2∨p=3∨p=5∨p=7)
def l01Own2_p (t:List (List Int)):Post:=⟨roomR t,.c (.rows 31 2 .i64 (t)),[]⟩
def l01Own2_ct:List AD→Option Post
 | [.c (.rows .i64 (t))]=>some (l01Own2_p t)
 | _=>none
def l01Own2_ann (t:List (List Int)):Nat→Option Ann
 | 0=>some (Ann.mk ((Nat)) (fun i=>⟨[(0,.c (.ro (.rows .i64 (t)))),(3,.c (.own (5))),(4,.c (.int .i64 ((i:Int))))],[(5,some (.rows 0 31 2 .i64 (t.take i)))]⟩) (fun i=>i≤t.length) (fun i=>t.length - i) (fun _=>noAnn))
 | _=>none
def l01Own2_G:List (Nat×Ctr):=[(117,⟨[],l01Own_ct⟩)]
def l01Own2_V (t:List (List Int)):Prop :=
 ((∃x0:Nat,((x0≤t.length)∧((t=t)∧(((0:Int)=(↑x0:Int))∧([]=List.take x0 t)))))∧(∀x1:Nat,((x1≤t.length)→(BrP (decide ((↑x1:Int)<(↑(t.length):Int))) ((inB (↑x1:Int) (t.length))∧(((room ((t.getD ((↑x1:Int).toNat) []).length))∧True)∧((room ((List.take x1 t).length+[t.getD ((↑x1:Int).toNat) []].length))∧((InR ((↑x1:Int)+(1:Int)))∧(∃x2:Nat,((x2≤t.length)∧((t.length - x2<t.length - x1)∧((t=t)∧(((↑x1:Int)+(1:Int)=(↑x2:Int))∧(List.take x1 t++[t.getD ((↑x1:Int).toNat) []]=List.take x2 t)))))))))) ((List.take x1 t=t)∧True)))))
theorem l01Own2_vc (t:List (List Int)):runF Tryz.prog (gam l01Own2_G) noWr (l01Own2_ann t) Tryz.f150 (bodyOf Tryz.f150) [] [.c (.rows .i64 (t))] (l01Own2_p t)=l01Own2_V t:=by kernel_rfl
theorem l01Own2_ok (t:List (List Int)) (hpre:(l01Own2_p t).pre):l01Own2_V t:=by
 simp only [l01Own2_p,l01Own2_V,BrP_iff,u1,u2,u3,u4,u5,u6,u7,u8,u9,v1,v2,v3,v4,v5,v6,v7,v8,v9,w1,w2,w3,w4,markL_length,inB,InR,room,bdsOk] at hpre ⊢
 have h1:=hpre.1
 refine ⟨⟨0,by omega,rfl,by simp⟩,fun i hi=>⟨fun h=>⟨by omega,roomR_get hpre i (by omega),by omega,by omega,i+1,by omega,by omega,by omega,take_snoc _ _ _ (by omega)⟩,fun h=>List.take_of_length_le (by omega)⟩⟩
theorem l01Own2_fits:Fits Tryz.prog 150 ⟨[],l01Own2_ct⟩:=by
 refine ffn (Γ:=gam l01Own2_G) (gok_cons l01Own_fits gok_nil) Tryz.func150 fun ds p h hp=>?_
 unfold l01Own2_ct at h
 split at h
 ·cases h
  exact ⟨noWr,l01Own2_ann _ ,by rw [l01Own2_vc];exact l01Own2_ok _  hp⟩
 ·cases h
end Go.Sx
end
