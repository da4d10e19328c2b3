/- ExtC -/
import Derived.Test.YtjkbnanffneogaaRxtA
import Derived.Test.YtjkbnanffneogaaCyc
import Derived.Test.YtjkbnanffneogaaLists
import Derived.Test.YtjkbnanffneogaaInc
open Go Go.Proofs
namespace Go.Sx
set_option linter.unusedSimpArgs false
set_option linter.unusedVariables false
theorem cc_none {t:List (List Int)} {m:Int} {f:List (List Int)}:(ccF t m f).isNone=true↔∀x,x<t.length→∀y,y<t.length→∀z,z<t.length→(en f x z+en f (en t x y).toNat (en t x z).toNat).tmod m=(en f y z+en f (en t y x).toNat (en t y z).toNat).tmod m:=by
  rw [Option.isNone_iff_eq_none,ccF,fo_none']
  refine forall_congr' fun x=>forall_congr' fun _=>?_
  rw [ccX,fo_none']
  refine forall_congr' fun y=>forall_congr' fun _=>?_
  rw [ccY,fo_none']
  refine forall_congr' fun z=>forall_congr' fun _=>?_
  unfold ccZ
  constructor
  · intro h
    split at h
    · assumption
    · cases h
  · intro h
    rw [if_pos h]
theorem cy_none {t:List (List Int)}:(cyF t).isNone=true↔∀x,x<t.length→∀y,y<t.length→∀z,z<t.length→en t (en t x y).toNat (en t x z).toNat=en t (en t y x).toNat (en t y z).toNat:=by
  rw [Option.isNone_iff_eq_none,cyF,fo_none']
  refine forall_congr' fun x=>forall_congr' fun _=>?_
  rw [cyX,fo_none']
  refine forall_congr' fun y=>forall_congr' fun _=>?_
  rw [cyY,fo_none']
  refine forall_congr' fun z=>forall_congr' fun _=>?_
  unfold cyZ
  constructor
  · intro h
    split at h
    · assumption
    · cases h
  · intro h
    rw [if_pos h]
section
variable {t f:List (List Int)} {m:Int}
theorem ex_squares (ht:tabB t=true) (hp:permB (sqL t)=true) (hf:matB (t.length:Int) m f=true):permB (sqL (exR t m f))=true:=by
  obtain ⟨m1,m2,m3,hf'⟩:=matB_of hf
  have hl:=ex_len (t:=t) (f:=f) m1
  have hM:0<m.toNat:=by omega
  have sl:(sqL (exR t m f)).length=t.length * m.toNat:=by rw [sqL_length,hl]
  rw [perm_all,sl]
  intro v v0 v1
  obtain ⟨z,r,hz,hr,hv⟩:=dm_of (show v.toNat<t.length * m.toNat by omega)
  have mz:=perm_all.1 hp (z:Int) (by omega) (by rw [sqL_length];omega)
  obtain ⟨x,hx,ex⟩:=List.mem_iff_getElem.1 mz
  have hx:x<t.length:=by rw [sqL_length] at hx;exact hx
  have exx:(en t x x).toNat=z:=by
    have:(sqL t).getD x 0=en t x x:=by rw [sqL,tab_getD _ _ _ hx]
    rw [←this,getD_lt (sqL t) 0 x (by rw [sqL_length];exact hx),ex];rfl
  have fl:=(fm_in hf hx hx).2
  have hu:=Nat.mod_lt (r+(m.toNat - (en f x x).toNat)) hM
  have q:=ex_en ht hf hx hu hx hu
  have eu:((r+(m.toNat - (en f x x).toNat)) % m.toNat+(en f x x).toNat) % m.toNat=r:=by
    rw [Nat.mod_add_mod,show r+(m.toNat - (en f x x).toNat)+(en f x x).toNat=r+m.toNat by omega,Nat.add_mod_right,Nat.mod_eq_of_lt hr]
  rw [exx,eu,←hv] at q
  have bl:=dm_lt hx hu
  have q2:(sqL (exR t m f)).getD (x * m.toNat+(r+(m.toNat - (en f x x).toNat)) % m.toNat) 0=v:=by
    rw [sqL,tab_getD _ _ _ (by rw [hl];exact bl),q];omega
  rw [←q2]
  exact getD_mem _ 0 _ (by rw [sl];exact bl)
theorem ex_cycle (hr:cycB t=true) (hf:matB (t.length:Int) m f=true) (hk:(t.length:Int) * m≤12):cycB (exR t m f)=(ccF t m f).isNone:=by
  have ht:=cycB_tab hr
  obtain ⟨m1,m2,m3,hf'⟩:=matB_of hf
  have hr2:=hr
  simp only [cycB,Bool.and_eq_true] at hr2
  obtain ⟨⟨⟨_,hp⟩,hs⟩,hq⟩:=hr2
  rw [cy_none] at hq
  have T:tabB (exR t m f)=true:=ex_tab ht hf hk
  have P:(exR t m f).all permB=true:=ex_perm ht hp hf
  have S:permB (sqL (exR t m f))=true:=ex_squares ht hs hf
  rw [cycB,T,P,S,Bool.true_and,Bool.true_and,Bool.true_and,Bool.eq_iff_iff,cy_none,cc_none]
  have hl:=ex_len (t:=t) (f:=f) m1
  have hM:0<m.toNat:=by omega
  have key:∀x s y u z r,x<t.length→s<m.toNat→y<t.length→u<m.toNat→z<t.length→r<m.toNat →
      (en (exR t m f) (en (exR t m f) (x * m.toNat+s) (y * m.toNat+u)).toNat (en (exR t m f) (x * m.toNat+s) (z * m.toNat+r)).toNat=en (exR t m f) (en (exR t m f) (y * m.toNat+u) (x * m.toNat+s)).toNat (en (exR t m f) (y * m.toNat+u) (z * m.toNat+r)).toNat ↔
      (en f x z+en f (en t x y).toNat (en t x z).toNat).tmod m=(en f y z+en f (en t y x).toNat (en t y z).toNat).tmod m):=fun x s y u z r hx hs hy hu hz hr'=>by
    have v1:=(en_in ht hx hy).2
    have v2:=(en_in ht hx hz).2
    have v3:=(en_in ht hy hx).2
    have v4:=(en_in ht hy hz).2
    rw [ex_en ht hf hx hs hy hu,ex_en ht hf hx hs hz hr',ex_en ht hf hy hu hx hs,ex_en ht hf hy hu hz hr',Int.toNat_natCast,Int.toNat_natCast,Int.toNat_natCast,Int.toNat_natCast,
      ex_en ht hf v1 (Nat.mod_lt _ hM) v2 (Nat.mod_lt _ hM),ex_en ht hf v3 (Nat.mod_lt _ hM) v4 (Nat.mod_lt _ hM)]
    have g1:=fm_in hf hx hz
    have g2:=fm_in hf v1 v2
    have g3:=fm_in hf hy hz
    have g4:=fm_in hf v3 v4
    rw [g1.1,g2.1,g3.1,g4.1,hq x hx y hy z hz]
    rw [Int.ofNat_inj,dm_eq (Nat.mod_lt _ hM) (Nat.mod_lt _ hM),Nat.mod_add_mod,Nat.mod_add_mod,Nat.add_assoc,Nat.add_assoc,mod_cancel]
    simp only [true_and]
    obtain ⟨M,rfl⟩:∃M:Nat,m=(M:Int):=⟨m.toNat,by omega⟩
    rw [Int.toNat_natCast]
    rw [Int.tmod_eq_emod_of_nonneg (by omega),Int.tmod_eq_emod_of_nonneg (by omega)]
    norm_cast
  rw [hl]
  constructor
  · intro h x hx y hy z hz
    exact (key x 0 y 0 z 0 hx hM hy hM hz hM).1 (h _ (dm_lt hx hM) _ (dm_lt hy hM) _ (dm_lt hz hM))
  · intro h a ha b hb c hc
    obtain ⟨x,s,hx,hs,rfl⟩:=dm_of ha
    obtain ⟨y,u,hy,hu,rfl⟩:=dm_of hb
    obtain ⟨z,r,hz,hr',rfl⟩:=dm_of hc
    exact (key x s y u z r hx hs hy hu hz hr').2 (h x hx y hy z hz)
end
def sumB {α:Type} (c:α→Nat) (l:List α):Nat:=(l.map c).sum
def tot3 (l:List (List (List Int))):Nat:=sumB sumL l
def tot4 (l:List (List (List (List Int)))):Nat:=sumB tot3 l
def room3 (l:List (List (List Int))):Prop:=l.length≤1099511627776∧∀r∈l,roomR r
def room4 (l:List (List (List (List Int)))):Prop:=l.length≤1099511627776∧∀r∈l,room3 r
def fit3 (l:List (List (List Int))):Prop:=l.length≤1048576∧∀r∈l,r.length≤1048576
def fit4 (l:List (List (List (List Int)))):Prop:=l.length≤1048576∧∀r∈l,fit3 r
section
variable {α:Type} {f:α→Int→α} {c:α→Nat}
end
def eyC (t:List (List Int)) (m:Int) (f:List (List Int)):List (List Int)×Int :=
  if cycB t=true then (if matB (t.length:Int) m f=true then (if 12<(t.length:Int) * m then ([],3) else if (ccF t m f).isNone=true then (exR t m f,0) else ([],5)) else ([],2)) else ([],1)
theorem eyC_room (t:List (List Int)) (m:Int) (f:List (List Int)):roomR (eyC t m f).1∧(eyC t m f).1.length≤1048576∧sumL (eyC t m f).1≤1048576:=by
  have nil:roomR ([]:List (List Int))∧([]:List (List Int)).length≤1048576∧sumL ([]:List (List Int))≤1048576:=⟨⟨by simp,by simp⟩,by simp,by simp [sumL]⟩
  unfold eyC
  split
  · split
    · rename_i hr hm
      have hn:=nm_in (cycB_tab hr) hm
      split
      · exact nil
      · split
        · exact ⟨tabR_room _ _ (by omega),by simp only [exR,tabR_length];omega,Nat.le_trans (tabR_sum _ _ (by omega)) (by omega)⟩
        · exact nil
    · exact nil
  · exact nil
def iExtC_p (t:List (List Int)) (m:Int) (f:List (List Int)):Post:=⟨roomR t∧roomR f,.tup [.inr [.rows 41 2 .i64 ((eyC t m f).1)],.inl (.int .i64 ((eyC t m f).2))],[]⟩
def iExtC_ct:List AD→Option Post
  | [.agg [.rows .i64 (t)],.c (.int .i64 (m)),.c (.rows .i64 (f))]=>some (iExtC_p t m f)
  | _=>none
def iExtC_G:List (Nat×Ctr):=[(16,⟨[],IsCycleSet_ct⟩),(35,⟨[],isMatrix_ct⟩),(36,⟨[],isCycleCocycle_ct⟩),(37,⟨[],extension_ct⟩)]
def iExtC_V (t:List (List Int)) (m:Int) (f:List (List Int)):Prop :=
 (((roomR t)∧True)∧(BrP (!cycB t) ((((([]:List (List Int))=(eyC t m f).1)∧True)∧(((1:Int)=(eyC t m f).2)∧True))∧True) (((roomR f)∧True)∧(BrP (!matB (↑(t.length):Int) m f) ((((([]:List (List Int))=(eyC t m f).1)∧True)∧(((2:Int)=(eyC t m f).2)∧True))∧True) ((InR ((↑(t.length):Int) * m))∧(BrP (decide ((12:Int)<(↑(t.length):Int) * m)) ((((([]:List (List Int))=(eyC t m f).1)∧True)∧(((3:Int)=(eyC t m f).2)∧True))∧True) ((((tabB t=true)∧(matB (↑(t.length):Int) m f=true))∧True)∧(BrP (!Option.isNone (ccF t m f)) ((((([]:List (List Int))=(eyC t m f).1)∧True)∧(((5:Int)=(eyC t m f).2)∧True))∧True) ((((tabB t=true)∧(matB (↑(t.length):Int) m f=true))∧True)∧((((exR t m f=(eyC t m f).1)∧True)∧(((0:Int)=(eyC t m f).2)∧True))∧True))))))))))
theorem iExtC_vc (t:List (List Int)) (m:Int) (f:List (List Int)):runF Try.prog (gam iExtC_G) noWr noAnn Try.f9 (bodyOf Try.f9) [] [.agg [.rows .i64 (t)],.c (.int .i64 (m)),.c (.rows .i64 (f))] (iExtC_p t m f)=iExtC_V t m f:=by kernel_rfl
theorem iExtC_ok (t:List (List Int)) (m:Int) (f:List (List Int)) (hpre:(iExtC_p t m f).pre):iExtC_V t m f:=by
  simp only [iExtC_p,iExtC_V,BrP_iff,u1,u2,u3,u4,u5,u6,u7,u8,u9,v1,v2,v3,v4,v5,v6,v7,v8,v9,w1,w2,w3,w4,markL_length,inB,InR,room,bdsOk] at hpre ⊢
  refine ⟨hpre.1,fun h=>by simp [eyC,h],fun hr=>⟨hpre.2,fun h=>by simp [eyC,hr,h],fun hm=>?_⟩⟩
  have hn:=nm_in (cycB_tab hr) hm
  refine ⟨by omega,fun hb=>?_,fun hb=>⟨⟨cycB_tab hr,hm⟩,fun hf=>?_,fun hf=>⟨⟨cycB_tab hr,hm⟩,?_⟩⟩⟩
  · rw [eyC,if_pos hr,if_pos hm,if_pos hb];exact ⟨rfl,rfl⟩
  · rw [eyC,if_pos hr,if_pos hm,if_neg hb,hf];exact ⟨rfl,rfl⟩
  · rw [eyC,if_pos hr,if_pos hm,if_neg hb,hf];exact ⟨rfl,rfl⟩
theorem iExtC_fits:Fits Try.prog 9 ⟨[],iExtC_ct⟩:=by
  refine ffn (Γ:=gam iExtC_G) (gok_cons IsCycleSet_fits (gok_cons isMatrix_fits (gok_cons isCycleCocycle_fits (gok_cons extension_fits gok_nil)))) Try.func9 fun ds p h hp=>?_
  unfold iExtC_ct at h
  split at h
  · cases h
    exact ⟨noWr,noAnn,by rw [iExtC_vc];exact iExtC_ok _ _ _  hp⟩
  · cases h
def sExtC_p (t:List (List Int)) (m:Int) (f:List (List Int)):Post:=⟨roomR t∧roomR f,.tup [.inr [.rows 41 2 .i64 ((eyC t m f).1)],.inl (.int .i64 ((eyC t m f).2))],[]⟩
def sExtC_ct:List AD→Option Post
  | [.agg [.rows .i64 (t)],.c (.int .i64 (m)),.c (.rows .i64 (f))]=>some (sExtC_p t m f)
  | _=>none
def sExtC_G:List (Nat×Ctr):=[(12,⟨[],sIsCC_ct⟩),(38,⟨[],l14Extend_ct⟩)]
def sExtC_V1 (t:List (List Int)) (m:Int) (f:List (List Int)):Prop :=
 BrP ((ccC t m f).2 == (0:Int)) (BrP (!(ccC t m f).1) ((((([]:List (List Int))=(eyC t m f).1)∧True)∧(((5:Int)=(eyC t m f).2)∧True))∧True) (BrP ((ccC t m f).2 != (0:Int)) ((((([]:List (List Int))=(eyC t m f).1)∧True)∧(((ccC t m f).2=(eyC t m f).2)∧True))∧True) ((((tabB t=true)∧(matB (↑(t.length):Int) m f=true))∧True)∧((((exR t m f=(eyC t m f).1)∧True)∧(((0:Int)=(eyC t m f).2)∧True))∧True)))) (BrP ((ccC t m f).2 != (0:Int)) ((((([]:List (List Int))=(eyC t m f).1)∧True)∧(((ccC t m f).2=(eyC t m f).2)∧True))∧True) ((((tabB t=true)∧(matB (↑(t.length):Int) m f=true))∧True)∧((((exR t m f=(eyC t m f).1)∧True)∧(((0:Int)=(eyC t m f).2)∧True))∧True)))
def sExtC_V (t:List (List Int)) (m:Int) (f:List (List Int)):Prop :=
 ((((roomR t)∧(roomR f))∧True)∧(BrP ((ccC t m f).2 == (0:Int)) ((InR ((↑(t.length):Int) * m))∧(BrP (decide ((12:Int)<(↑(t.length):Int) * m)) ((((([]:List (List Int))=(eyC t m f).1)∧True)∧(((3:Int)=(eyC t m f).2)∧True))∧True) (sExtC_V1 t m f))) (sExtC_V1 t m f)))
theorem sExtC_vc (t:List (List Int)) (m:Int) (f:List (List Int)):runF Try.prog (gam sExtC_G) noWr noAnn Try.f10 (bodyOf Try.f10) [] [.agg [.rows .i64 (t)],.c (.int .i64 (m)),.c (.rows .i64 (f))] (sExtC_p t m f)=sExtC_V t m f:=by kernel_rfl
theorem sExtC_ok (t:List (List Int)) (m:Int) (f:List (List Int)) (hpre:(sExtC_p t m f).pre):sExtC_V t m f:=by
  simp only [sExtC_p,sExtC_V,sExtC_V1,BrP_iff,u1,u2,u3,u4,u5,u6,u7,u8,u9,v1,v2,v3,v4,v5,v6,v7,v8,v9,w1,w2,w3,w4,markL_length,inB,InR,room,bdsOk] at hpre ⊢
  refine ⟨hpre,?_⟩
  by_cases hr:cycB t=true
  · by_cases hm:matB (t.length:Int) m f=true
    · have e:ccC t m f=((ccF t m f).isNone,0):=by rw [ccC,if_pos hr,if_pos hm]
      have hn:=nm_in (cycB_tab hr) hm
      rw [e]
      by_cases hb:12<(t.length:Int) * m
      · rw [eyC,if_pos hr,if_pos hm,if_pos hb]
        exact ⟨fun _=>⟨by omega,fun _=>⟨rfl,rfl⟩,fun h=>absurd hb h⟩,fun h=>absurd rfl h⟩
      · rw [eyC,if_pos hr,if_pos hm,if_neg hb]
        cases hf:(ccF t m f).isNone with
        | false=>exact ⟨fun _=>⟨by omega,fun h=>absurd h hb,fun _=>⟨fun _=>⟨fun _=>⟨rfl,rfl⟩,fun h=>(by cases h)⟩,fun h=>absurd rfl h⟩⟩,fun h=>absurd rfl h⟩
        | true=>exact ⟨fun _=>⟨by omega,fun h=>absurd h hb,fun _=>⟨fun _=>⟨fun h=>(by cases h),fun _=>⟨fun h=>absurd rfl h,fun _=>⟨⟨cycB_tab hr,hm⟩,rfl,rfl⟩⟩⟩,fun h=>absurd rfl h⟩⟩,fun h=>absurd rfl h⟩
    · have e:ccC t m f=(false,2):=by rw [ccC,if_pos hr,if_neg hm]
      have x:eyC t m f=([],2):=by rw [eyC,if_pos hr,if_neg hm]
      rw [e,x]
      exact ⟨fun h=>absurd h (by simp),fun _=>⟨fun h=>absurd h (by simp),fun _=>⟨fun _=>⟨rfl,rfl⟩,fun h=>absurd h (by simp)⟩⟩⟩
  · have e:ccC t m f=(false,1):=by rw [ccC,if_neg hr]
    have x:eyC t m f=([],1):=by rw [eyC,if_neg hr]
    rw [e,x]
    exact ⟨fun h=>absurd h (by simp),fun _=>⟨fun h=>absurd h (by simp),fun _=>⟨fun _=>⟨rfl,rfl⟩,fun h=>absurd h (by simp)⟩⟩⟩
theorem sExtC_fits:Fits Try.prog 10 ⟨[],sExtC_ct⟩:=by
  refine ffn (Γ:=gam sExtC_G) (gok_cons sIsCC_fits (gok_cons l14Extend_fits gok_nil)) Try.func10 fun ds p h hp=>?_
  unfold sExtC_ct at h
  split at h
  · cases h
    exact ⟨noWr,noAnn,by rw [sExtC_vc];exact sExtC_ok _ _ _  hp⟩
  · cases h
end Go.Sx
