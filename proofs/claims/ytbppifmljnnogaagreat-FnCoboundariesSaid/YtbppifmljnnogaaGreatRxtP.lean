/- RxtP -/
import Derived.Test.YtbppifmljnnogaaGreatSrcS
import Derived.Test.YtbppifmljnnogaaGreatMat
import Derived.Test.YtbppifmljnnogaaGreatQb
open Go Go.Proofs
namespace Go.Sx
set_option linter.unusedSimpArgs false
set_option linter.unusedVariables false
def csC (t:List (List Int)) (m:Int) (f:List (List Int)):List Int×Int :=
 if tabB t=true then (if matB (t.length:Int) m f=true then (if tabR t.length (cbF t m (srcN t m f t.length))=f then (srcN t m f t.length,0) else ([],4)) else ([],2)) else ([],1)
theorem csC_nt {t:List (List Int)} {m:Int} {f:List (List Int)} (h:tabB t=false):[]=(csC t m f).1∧1=(csC t m f).2:=by simp [csC,h]
theorem csC_nm {t:List (List Int)} {m:Int} {f:List (List Int)} (h:tabB t=true) (k:¬ matB (t.length:Int) m f=true):[]=(csC t m f).1∧2=(csC t m f).2:=by simp [csC,h,k]
theorem csC_no {t:List (List Int)} {m:Int} {f:List (List Int)} (h:tabB t=true) (k:matB (t.length:Int) m f=true) (e:tabR t.length (cbF t m (srcN t m f t.length))≠f):[]=(csC t m f).1∧4=(csC t m f).2:=by simp [csC,h,k,e]
theorem csC_yes {t:List (List Int)} {m:Int} {f:List (List Int)} (h:tabB t=true) (k:matB (t.length:Int) m f=true) (e:tabR t.length (cbF t m (srcN t m f t.length))=f):srcN t m f t.length=(csC t m f).1∧0=(csC t m f).2:=by
 unfold csC
 rw [if_pos h,if_pos k,if_pos e]
 exact ⟨rfl,rfl⟩
theorem csC_len (t:List (List Int)) (m:Int) (f:List (List Int)):(csC t m f).1.length≤12:=by
 unfold csC
 split
 ·rename_i h
  split
  ·rename_i k
   split
   ·have:=(srcN_good h k t.length).len
    have:=tabB_of h
    simp only;omega
   ·simp
  ·simp
 ·simp
def iCS_p (t:List (List Int)) (m:Int) (f:List (List Int)):Post:=⟨roomR t∧roomR f,.tup [.inl (.ints 2 .i64 ((csC t m f).1)),.inl (.int .i64 ((csC t m f).2))],[]⟩
def iCS_ct:List AD→Option Post
 | [.c (.rows .i64 (t)),.c (.int .i64 (m)),.c (.rows .i64 (f))]=>some (iCS_p t m f)
 | _=>none
def iCS_G:List (Nat×Ctr):=[(60,⟨[],IsTable_ct⟩),(67,⟨[],isMatrix_ct⟩),(68,⟨[],iSource_ct⟩),(62,⟨[],coboundary_ct⟩),(69,⟨[],equalTables_ct⟩)]
def iCS_V (t:List (List Int)) (m:Int) (f:List (List Int)):Prop :=
 (((roomR t)∧True)∧(BrP (!tabB t) ((([]=(csC t m f).1)∧(((1:Int)=(csC t m f).2)∧True))∧True) (((roomR f)∧True)∧(BrP (!matB (↑(t.length):Int) m f) ((([]=(csC t m f).1)∧(((2:Int)=(csC t m f).2)∧True))∧True) ((((tabB t=true)∧(matB (↑(t.length):Int) m f=true))∧True)∧((((tabB t=true)∧(shiftB (↑(t.length):Int) m (srcN t m f (t.length))=true))∧True)∧((((roomR (tabR (t.length) (cbF t m (srcN t m f (t.length)))))∧(roomR f))∧True)∧(BrP (!decide (tabR (t.length) (cbF t m (srcN t m f (t.length)))=f)) ((([]=(csC t m f).1)∧(((4:Int)=(csC t m f).2)∧True))∧True) (((srcN t m f (t.length)=(csC t m f).1)∧(((0:Int)=(csC t m f).2)∧True))∧True)))))))))
theorem iCS_vc (t:List (List Int)) (m:Int) (f:List (List Int)):runF Tryz.prog (gam iCS_G) noWr noAnn Tryz.f21 (bodyOf Tryz.f21) [] [.c (.rows .i64 (t)),.c (.int .i64 (m)),.c (.rows .i64 (f))] (iCS_p t m f)=iCS_V t m f:=by kernel_rfl
theorem iCS_ok (t:List (List Int)) (m:Int) (f:List (List Int)) (hpre:(iCS_p t m f).pre):iCS_V t m f:=by
 simp only [iCS_p,iCS_V,BrP_iff,u1,u2,u3,u4,u5,u6,u7,u8,u9,v1,v2,v3,v4,v5,v6,v7,v8,v9,w1,w2,w3,w4,markL_length,inB,InR,room,bdsOk] at hpre ⊢
 refine ⟨hpre.1,fun h=>csC_nt h,fun h1=>⟨hpre.2,fun h=>csC_nm h1 (by rw [h];decide),fun h2=>?_⟩⟩
 have hn:=tabB_of h1
 exact ⟨⟨h1,h2⟩,⟨h1,srcN_shift h1 h2⟩,⟨tabR_room _ _ (by omega),hpre.2⟩,fun h=>csC_no h1 h2 h,fun h=>csC_yes h1 h2 h⟩
theorem iCS_fits:Fits Tryz.prog 21 ⟨[],iCS_ct⟩:=by
 refine ffn (Γ:=gam iCS_G) (gok_cons IsTable_fits (gok_cons isMatrix_fits (gok_cons iSource_fits (gok_cons coboundary_fits (gok_cons equalTables_fits gok_nil))))) Tryz.func21 fun ds p h hp=>?_
 unfold iCS_ct at h
 split at h
 ·cases h
  exact ⟨noWr,noAnn,by rw [iCS_vc];exact iCS_ok _ _ _  hp⟩
 ·cases h
def sCS_p (t:List (List Int)) (m:Int) (f:List (List Int)):Post:=⟨roomR t∧roomR f,.tup [.inl (.ints 2 .i64 ((csC t m f).1)),.inl (.int .i64 ((csC t m f).2))],[]⟩
def sCS_ct:List AD→Option Post
 | [.c (.rows .i64 (t)),.c (.int .i64 (m)),.c (.rows .i64 (f))]=>some (sCS_p t m f)
 | _=>none
def sCS_ann (t:List (List Int)) (m:Int) (f:List (List Int)):Nat→Option Ann
 | 0=>some (Ann.mk ((Nat)) (fun i=>⟨[(0,.c (.ro (.rows .i64 (t)))),(1,.c (.int .i64 (m))),(2,.c (.ro (.rows .i64 (f)))),(9,.c (.own (25))),(10,.c (.int .i64 ((i:Int))))],[(25,some (.ints 2 .i64 (List.replicate i (-1))))]⟩) (fun i=>i≤t.length∧tabB t=true∧matB (t.length:Int) m f=true) (fun i=>t.length - i) (fun _=>noAnn))
 | 2=>some (Ann.mk ((Nat)) (fun s=>⟨[(0,.c (.ro (.rows .i64 (t)))),(1,.c (.int .i64 (m))),(2,.c (.ro (.rows .i64 (f)))),(9,.c (.own (25))),(11,.c (.int .i64 ((s:Int))))],[(25,some (.ints 2 .i64 (srcN t m f s)))]⟩) (fun s=>s≤t.length∧srcK t m f s=true) (fun s=>t.length - s) (fun _=>noAnn))
 | _=>none
def sCS_G:List (Nat×Ctr):=[(63,⟨[],l01Table_ct⟩),(78,⟨[],l14Code_ct⟩),(79,⟨[],l14Source_ct⟩),(66,⟨[],l14Bound_ct⟩),(80,⟨[],l01Same2_ct⟩)]
def sCS_V (t:List (List Int)) (m:Int) (f:List (List Int)):Prop :=
 (((roomR t)∧True)∧(BrP (!tabB t) ((([]=(csC t m f).1)∧(((1:Int)=(csC t m f).2)∧True))∧True) (((roomR f)∧True)∧(BrP ((if matB (↑(t.length):Int) m f=true then (0:Int) else (2:Int)) != (0:Int)) ((([]=(csC t m f).1)∧(((if matB (↑(t.length):Int) m f=true then (0:Int) else (2:Int))=(csC t m f).2)∧True))∧True) ((∃x0:Nat,(((x0≤t.length)∧((tabB t=true)∧(matB (↑(t.length):Int) m f=true)))∧((t=t)∧((m=m)∧((f=f)∧(((0:Int)=(↑x0:Int))∧([]=List.replicate x0 (-1:Int))))))))∧(∀x1:Nat,(((x1≤t.length)∧((tabB t=true)∧(matB (↑(t.length):Int) m f=true)))→(BrP (decide ((↑x1:Int)<(↑(t.length):Int))) ((room ((List.replicate x1 (-1:Int)).length+[(-1:Int)].length))∧((InR ((↑x1:Int)+(1:Int)))∧(∃x2:Nat,(((x2≤t.length)∧((tabB t=true)∧(matB (↑(t.length):Int) m f=true)))∧((t.length - x2<t.length - x1)∧((t=t)∧((m=m)∧((f=f)∧(((↑x1:Int)+(1:Int)=(↑x2:Int))∧(List.replicate x1 (-1:Int)++[(-1:Int)]=List.replicate x2 (-1:Int))))))))))) ((∃x3:Nat,(((x3≤t.length)∧(srcK t m f x3=true))∧((t=t)∧((m=m)∧((f=f)∧(((0:Int)=(↑x3:Int))∧(List.replicate x1 (-1:Int)=srcN t m f x3)))))))∧(∀x4:Nat,(((x4≤t.length)∧(srcK t m f x4=true))→(BrP (decide ((↑x4:Int)<(↑(t.length):Int))) ((inB (↑x4:Int) ((srcN t m f x4).length))∧(BrP (decide ((0:Int)≤(srcN t m f x4).getD ((↑x4:Int).toNat) (0:Int))) ((InR ((↑x4:Int)+(1:Int)))∧(∃x5:Nat,(((x5≤t.length)∧(srcK t m f x5=true))∧((t.length - x5<t.length - x4)∧((t=t)∧((m=m) ∧
 ((f=f)∧(((↑x4:Int)+(1:Int)=(↑x5:Int))∧(srcN t m f x4=srcN t m f x5))))))))) ((inB (↑x4:Int) ((srcN t m f x4).length))∧(((Good t m f (List.set (srcN t m f x4) ((↑x4:Int).toNat) (0:Int)))∧True)∧(BrP (!(lsC t m f (List.set (srcN t m f x4) ((↑x4:Int).toNat) (0:Int))).2) ((([]=(csC t m f).1)∧(((4:Int)=(csC t m f).2)∧True))∧True) ((InR ((↑x4:Int)+(1:Int)))∧(∃x6:Nat,(((x6≤t.length)∧(srcK t m f x6=true))∧((t.length - x6<t.length - x4)∧((t=t)∧((m=m)∧((f=f)∧(((↑x4:Int)+(1:Int)=(↑x6:Int))∧((lsC t m f (List.set (srcN t m f x4) ((↑x4:Int).toNat) (0:Int))).1=srcN t m f x6)))))))))))))) ((((tabB t=true)∧(shiftB (↑(t.length):Int) m (srcN t m f x4)=true))∧True)∧(((roomR (tabR (t.length) (cbF t m (srcN t m f x4))))∧True)∧(BrP (!decide (tabR (t.length) (cbF t m (srcN t m f x4))=f)) ((([]=(csC t m f).1)∧(((4:Int)=(csC t m f).2)∧True))∧True) (((srcN t m f x4=(csC t m f).1)∧(((0:Int)=(csC t m f).2)∧True))∧True))))))))))))))))
theorem sCS_vc (t:List (List Int)) (m:Int) (f:List (List Int)):runF Tryz.prog (gam sCS_G) noWr (sCS_ann t m f) Tryz.f27 (bodyOf Tryz.f27) [] [.c (.rows .i64 (t)),.c (.int .i64 (m)),.c (.rows .i64 (f))] (sCS_p t m f)=sCS_V t m f:=by kernel_rfl
theorem sCS_ok (t:List (List Int)) (m:Int) (f:List (List Int)) (hpre:(sCS_p t m f).pre):sCS_V t m f:=by
 simp only [sCS_p,sCS_V,BrP_iff,u1,u2,u3,u4,u5,u6,u7,u8,u9,v1,v2,v3,v4,v5,v6,v7,v8,v9,w1,w2,w3,w4,markL_length,inB,InR,room,bdsOk] at hpre ⊢
 refine ⟨hpre.1,fun h=>csC_nt h,fun h1=>⟨hpre.2,fun h=>?_,fun h=>?_⟩⟩
 ·have k:¬ matB (t.length:Int) m f=true:=fun k=>h (if_pos k)
  rw [if_neg k]
  exact csC_nm h1 k
 have h2:matB (t.length:Int) m f=true:=by
  by_cases k:matB (t.length:Int) m f=true
  ·exact k
  ·rw [if_neg k] at h;omega
 clear h
 have hn:=tabB_of h1
 refine ⟨⟨0,⟨by omega,h1,h2⟩,rfl,rfl⟩,fun i ⟨hi,_,_⟩=>⟨fun h=>⟨by omega,by omega,i+1,⟨by omega,h1,h2⟩,by omega,by omega,List.replicate_succ'.symm⟩,fun h=>⟨⟨0,⟨by omega,rfl⟩,rfl,by rw [show i=t.length by omega];rfl⟩,fun s ⟨hs,hk⟩=>⟨fun h3=>?_,fun h3=>?_⟩⟩⟩⟩
 ·have hg:=srcN_good h1 h2 s
  have hl:=hg.len
  have e1:srcN t m f (s+1)=if 0≤(srcN t m f s).getD s 0 then srcN t m f s else growF t m f ((srcN t m f s).set s 0):=rfl
  have e2:srcK t m f (s+1)=(srcK t m f s&&(if 0≤(srcN t m f s).getD s 0 then true else growKF t m f ((srcN t m f s).set s 0))):=rfl
  refine ⟨by omega,fun h4=>⟨by omega,s+1,⟨by omega,by rw [e2,if_pos h4,hk];rfl⟩,by omega,by omega,by rw [e1,if_pos h4]⟩,fun h4=>?_⟩
  rw [if_neg h4] at e1 e2
  rw [hk,Bool.true_and] at e2
  refine ⟨by omega,set0_good hg s,fun h5=>?_,fun h5=>?_⟩
  ·refine csC_no h1 h2 (srcK_not h1 h2 (i:=s+1) (by omega) ?_)
   rw [e2]
   unfold lsC at h5
   split at h5
   ·cases h5
   ·rename_i h6;simpa using h6
  ·unfold lsC at h5 ⊢
   split at h5
   ·rename_i h6
    rw [if_pos h6]
    exact ⟨by omega,s+1,⟨by omega,by rw [e2,h6]⟩,by omega,by omega,e1.symm⟩
   ·cases h5
 ·have e:s=t.length:=by omega
  rw [e]
  exact ⟨⟨h1,srcN_shift h1 h2⟩,tabR_room _ _ (by omega),fun h=>csC_no h1 h2 h,fun h=>csC_yes h1 h2 h⟩
theorem sCS_fits:Fits Tryz.prog 27 ⟨[],sCS_ct⟩:=by
 refine ffn (Γ:=gam sCS_G) (gok_cons l01Table_fits (gok_cons l14Code_fits (gok_cons l14Source_fits (gok_cons l14Bound_fits (gok_cons l01Same2_fits gok_nil))))) Tryz.func27 fun ds p h hp=>?_
 unfold sCS_ct at h
 split at h
 ·cases h
  exact ⟨noWr,sCS_ann _ _ _ ,by rw [sCS_vc];exact sCS_ok _ _ _  hp⟩
 ·cases h
theorem fo_none {α:Type} {n:Nat} {q:Nat→Option α}:∀{k:Nat},k≤n→(firstO n q k=none↔∀i,n - k≤i→i<n→q i=none)
 | 0,_=>⟨fun _ i h1 h2=>by omega,fun _=>rfl⟩
 | k+1,hk=>by
  have ih:=fo_none (q:=q) (show k≤n by omega)
  rw [firstO]
  constructor
  ·intro h i h1 h2
   have a:q (n - (k+1))=none:=by
    cases e:q (n - (k+1)) with
    | none=>rfl
    | some v=>rw [e] at h;cases h
   rw [a] at h
   by_cases e:i=n - (k+1)
   ·rw [e];exact a
   ·exact ih.1 h i (by omega) h2
  ·intro h
   rw [h (n - (k+1)) (Nat.le_refl _) (by omega)]
   exact ih.2 fun i h1 h2=>h i (by omega) h2
theorem fo_none' {α:Type} {n:Nat} {q:Nat→Option α}:firstO n q n=none↔∀i,i<n→q i=none:=by
 rw [fo_none (Nat.le_refl n)]
 exact ⟨fun h i hi=>h i (by omega) hi,fun h i _ hi=>h i hi⟩
theorem rc_none {t:List (List Int)} {m:Int} {f:List (List Int)}:(rcF t m f).isNone=true↔∀x,x<t.length→∀y,y<t.length→∀z,z<t.length→(en f y z+en f x (en t y z).toNat).tmod m=(en f x z+en f (en t x y).toNat (en t x z).toNat).tmod m:=by
 rw [Option.isNone_iff_eq_none,rcF,fo_none']
 refine forall_congr' fun x=>forall_congr' fun _=>?_
 rw [rcX,fo_none']
 refine forall_congr' fun y=>forall_congr' fun _=>?_
 rw [rcY,fo_none']
 refine forall_congr' fun z=>forall_congr' fun _=>?_
 unfold rcZ
 constructor
 ·intro h
  split at h
  ·assumption
  ·cases h
 ·intro h
  rw [if_pos h]
theorem rk_none {t:List (List Int)}:(rkF t).isNone=true↔∀x,x<t.length→∀y,y<t.length→∀z,z<t.length→en t x (en t y z).toNat=en t (en t x y).toNat (en t x z).toNat:=by
 rw [Option.isNone_iff_eq_none,rkF,fo_none']
 refine forall_congr' fun x=>forall_congr' fun _=>?_
 rw [rkX,fo_none']
 refine forall_congr' fun y=>forall_congr' fun _=>?_
 rw [rkY,fo_none']
 refine forall_congr' fun z=>forall_congr' fun _=>?_
 unfold rkZ
 constructor
 ·intro h
  split at h
  ·assumption
  ·cases h
 ·intro h
  rw [if_pos h]
theorem dm_lt {n M p q:Nat} (hp:p<n) (hq:q<M):p * M+q<n * M:=by
 have:=Nat.mul_le_mul_right M (show p+1≤n by omega)
 rw [Nat.succ_mul] at this
 omega
theorem dm_of {n M a:Nat} (h:a<n * M):∃p q,p<n∧q<M∧a=p * M+q:=by
 have m0:0<M:=by
  rcases Nat.eq_zero_or_pos M with e | e
  ·subst e;simp at h
  ·exact e
 refine ⟨a / M,a % M,Nat.div_lt_of_lt_mul (by rw [Nat.mul_comm];exact h),Nat.mod_lt _ m0,?_⟩
 have:=Nat.div_add_mod a M
 rw [Nat.mul_comm];omega
theorem tabB_mk {n:Nat} {F:Nat→Nat→Int} (h1:1≤n) (h2:n≤12) (hF:∀x y,x<n→y<n→0≤F x y∧F x y≤(n:Int) - 1):tabB (tabR n F)=true:=by
 simp only [tabB,tabR_length,Bool.and_eq_true,decide_eq_true_eq,List.all_eq_true]
 refine ⟨by omega,fun r hr=>?_⟩
 simp only [tabR,List.mem_map,List.mem_range] at hr
 obtain ⟨x,hx,rfl⟩:=hr
 simp only [rowB,Bool.and_eq_true,decide_eq_true_eq,allW,List.all_eq_true]
 refine ⟨by rw [tab_length],fun v hv=>?_⟩
 simp only [tab,List.mem_map,List.mem_range] at hv
 obtain ⟨y,hy,rfl⟩:=hv
 exact hF x y hx hy
section
variable {t f:List (List Int)} {m:Int}
theorem ex_en (ht:tabB t=true) (hf:matB (t.length:Int) m f=true) {x s y u:Nat} (hx:x<t.length) (hs:s<m.toNat) (hy:y<t.length) (hu:u<m.toNat) :
  en (exR t m f) (x * m.toNat+s) (y * m.toNat+u)=(((en t x y).toNat * m.toNat+(u+(en f x y).toNat) % m.toNat:Nat):Int):=by
 obtain ⟨m1,m2,m3,hf'⟩:=matB_of hf
 obtain ⟨n1,n2,ht'⟩:=tabB_of ht
 have eK:((t.length:Int) * m).toNat=t.length * m.toNat:=by
  have:(t.length:Int) * m=((t.length * m.toNat:Nat):Int):=by rw [Int.natCast_mul];congr 1;omega
  rw [this];rfl
 have d:∀p q:Nat,q<m.toNat→((((p * m.toNat+q:Nat):Int)).tdiv m).toNat=p∧(((p * m.toNat+q:Nat):Int)).tmod m=(q:Int):=fun p q hq=>by
  obtain ⟨M,rfl⟩:∃M:Nat,m=(M:Int):=⟨m.toNat,by omega⟩
  rw [Int.toNat_natCast] at hq ⊢
  rw [Int.tdiv_eq_ediv_of_nonneg (by omega),Int.tmod_eq_emod_of_nonneg (by omega)]
  constructor
  ·have:(p * M+q) / M=p:=by rw [Nat.mul_comm,Nat.mul_add_div (by omega),Nat.div_eq_of_lt hq,Nat.add_zero]
   have e:((p * M+q:Nat):Int) / (M:Int)=((p:Nat):Int):=by exact_mod_cast this
   rw [e];rfl
  ·have:(p * M+q) % M=q:=by rw [Nat.mul_comm,Nat.mul_add_mod,Nat.mod_eq_of_lt hq]
   exact_mod_cast this
 rw [en,exR,eK,tabR_getD _ _ _ (dm_lt hx hs),tab_getD _ _ _ (dm_lt hy hu),exI,(d x s hs).1,(d y u hu).1,(d y u hu).2]
 have a:=(ht' x hx).2 y hy
 have b:=(hf' x (by omega)).2 y (by have:=(hf' x (by omega)).1;omega)
 have ea:(t.getD x []).getD y 0=(((en t x y).toNat:Nat):Int):=by unfold en;omega
 have eb:(f.getD x []).getD y 0=(((en f x y).toNat:Nat):Int):=by unfold en;omega
 rw [ea,eb]
 obtain ⟨M,rfl⟩:∃M:Nat,m=(M:Int):=⟨m.toNat,by omega⟩
 rw [Int.toNat_natCast,Int.tmod_eq_emod_of_nonneg (by omega)]
 simp
theorem ex_len (hm:1≤m):(exR t m f).length=t.length * m.toNat:=by
 rw [exR,tabR_length]
 have:(t.length:Int) * m=((t.length * m.toNat:Nat):Int):=by rw [Int.natCast_mul];congr 1;omega
 rw [this];rfl
theorem en_in (ht:tabB t=true) {x y:Nat} (hx:x<t.length) (hy:y<t.length):en t x y=(((en t x y).toNat:Nat):Int)∧(en t x y).toNat<t.length:=by
 obtain ⟨n1,n2,ht'⟩:=tabB_of ht
 have a:=(ht' x hx).2 y hy
 unfold en
 omega
theorem ex_tab (ht:tabB t=true) (hf:matB (t.length:Int) m f=true) (hk:(t.length:Int) * m≤12):tabB (exR t m f)=true:=by
 obtain ⟨m1,m2,m3,hf'⟩:=matB_of hf
 obtain ⟨n1,n2,ht'⟩:=tabB_of ht
 have e:(t.length:Int) * m=((t.length * m.toNat:Nat):Int):=by rw [Int.natCast_mul];congr 1;omega
 have eK:((t.length:Int) * m).toNat=t.length * m.toNat:=by rw [e];rfl
 have K1:1≤t.length * m.toNat:=Nat.mul_le_mul n1 (show 1≤m.toNat by omega)
 have E:=ex_len (t:=t) (f:=f) m1
 rw [exR,eK]
 refine tabB_mk K1 (by omega) fun a b ha hb=>?_
 obtain ⟨x,s,hx,hs,rfl⟩:=dm_of ha
 obtain ⟨y,u,hy,hu,rfl⟩:=dm_of hb
 have q:=ex_en ht hf hx hs hy hu
 rw [en,exR,eK,tabR_getD _ _ _ (dm_lt hx hs),tab_getD _ _ _ (dm_lt hy hu)] at q
 rw [q]
 have:=dm_lt (en_in ht hx hy).2 (Nat.mod_lt (u+(en f x y).toNat) (show 0<m.toNat by omega))
 omega
end
end Go.Sx
