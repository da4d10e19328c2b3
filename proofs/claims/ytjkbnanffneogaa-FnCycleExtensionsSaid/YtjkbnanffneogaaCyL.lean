/- CyL -/
import Derived.Test.YtjkbnanffneogaaExtC
import Derived.Test.YtjkbnanffneogaaDynE
import Derived.Test.YtjkbnanffneogaaShpI
import Derived.Test.YtjkbnanffneogaaSpl
open Go Go.Proofs
namespace Go.Sx
set_option linter.unusedSimpArgs false
set_option linter.unusedVariables false
theorem conP_perm {m:Nat} {b:Int} (h0:0≤b) (h1:b≤(m:Int) - 1):permB (conP m b)=true:=by
  obtain ⟨B,rfl⟩:∃B:Nat,b=(B:Int):=⟨b.toNat,by omega⟩
  have l:(conP m B).length=m:=tab_length _ _
  rw [perm_all,l]
  intro x x0 x1
  obtain ⟨X,rfl⟩:∃X:Nat,x=(X:Int):=⟨x.toNat,by omega⟩
  refine List.mem_map.2 ⟨(X+(m - B)) % m,List.mem_range.2 (Nat.mod_lt _ (by omega)),?_⟩
  rw [Int.tmod_eq_emod_of_nonneg (by omega)]
  norm_cast
  rw [Nat.mod_add_mod,show X+(m - B)+B=X+m by omega,Nat.add_mod_right,Nat.mod_eq_of_lt (by omega)]
theorem con_ok {n m:Int} {f:List (List Int)} (hf:matB n m f=true):ddB n m (con4 m.toNat f)=true:=by
  obtain ⟨m1,m2,m3,m4⟩:=matB_of hf
  have e:((m.toNat:Nat):Int)=m:=by omega
  have P:∀b,(conP m.toNat b).length=m.toNat:=fun b=>tab_length _ _
  rw [ddB,con4,Bool.and_eq_true,decide_eq_true_eq,List.length_map]
  refine ⟨m3,List.all_eq_true.2 fun q hq=>?_⟩
  obtain ⟨r,hr,rfl⟩:=List.mem_map.1 hq
  obtain ⟨i,hi,rfl⟩:=List.getElem_of_mem hr
  have q4:=m4 i hi
  rw [getD_lt f [] i hi] at q4
  rw [rB,conR,Bool.and_eq_true,decide_eq_true_eq,List.length_map]
  refine ⟨q4.1,List.all_eq_true.2 fun s hs=>?_⟩
  obtain ⟨b,hb,rfl⟩:=List.mem_map.1 hs
  obtain ⟨j,hj,rfl⟩:=List.getElem_of_mem hb
  have q5:=q4.2 j hj
  rw [getD_lt f[i] 0 j hj] at q5
  rw [sB,conS,Bool.and_eq_true,decide_eq_true_eq,List.length_replicate]
  refine ⟨e,List.all_eq_true.2 fun p hp=>?_⟩
  rw [List.eq_of_mem_replicate hp,pB,Bool.and_eq_true,decide_eq_true_eq,P]
  exact ⟨e,conP_perm q5.1 (by omega)⟩
theorem con_dyI {t f:List (List Int)} {m:Int} (ht:tabB t=true) (hf:matB (t.length:Int) m f=true) {x y:Int} (hx:0≤x) (hx2:x<(t.length:Int) * m) (hy:0≤y) (hy2:y<(t.length:Int) * m) :
    dyI t m (con4 m.toNat f) x y=exI t m f x y:=by
  obtain ⟨m1,m2,m3,m4⟩:=matB_of hf
  obtain ⟨a1,a2,a3,a4⟩:=div_in m1 hx hx2
  obtain ⟨b1,b2,b3,b4⟩:=div_in m1 hy hy2
  have e:((m.toNat:Nat):Int)=m:=by omega
  have c:=m4 (x.tdiv m).toNat (by omega)
  unfold dyI exI
  congr 1
  have g1:(con4 m.toNat f).getD (x.tdiv m).toNat []=conR m.toNat (f.getD (x.tdiv m).toNat []):=by
    rw [con4,getD_lt _ [] _ (by rw [List.length_map];omega),List.getElem_map,getD_lt f [] _ (by omega)]
  rw [g1]
  generalize f.getD (x.tdiv m).toNat []=r at *
  have g2:(conR m.toNat r).getD (y.tdiv m).toNat []=conS m.toNat (r.getD (y.tdiv m).toNat 0):=by
    rw [conR,getD_lt _ [] _ (by rw [List.length_map];omega),List.getElem_map,getD_lt r 0 _ (by omega)]
  rw [g2]
  have g3:∀b,(conS m.toNat b).getD (x.tmod m).toNat []=conP m.toNat b:=fun b=>by
    rw [conS,getD_lt _ [] _ (by rw [List.length_replicate];omega),List.getElem_replicate]
  rw [g3,conP,tab_getD _ _ _ (by omega),e,show (((y.tmod m).toNat:Nat):Int)=y.tmod m by omega]
theorem con_dyR {t f:List (List Int)} {m:Int} (ht:tabB t=true) (hf:matB (t.length:Int) m f=true):dyR t m (con4 m.toNat f)=exR t m f:=by
  unfold dyR exR tabR
  refine List.map_congr_left fun x hx=>?_
  refine List.map_congr_left fun y hy=>?_
  rw [List.mem_range] at hx hy
  exact con_dyI ht hf (by omega) (by omega) (by omega) (by omega)
theorem cy_a {t f:List (List Int)} {m:Int} (h:(ccC t m f).2≠0):(eyC t m f).2=(ccC t m f).2:=by
  unfold ccC at h ⊢
  unfold eyC
  split
  · rename_i hr
    rw [if_pos hr] at h
    split
    · rename_i hm;rw [if_pos hm] at h;exact absurd rfl h
    · rfl
  · rfl
theorem cy_b {t f:List (List Int)} {m:Int} (h:(ccC t m f).2=0):cycB t=true∧matB (t.length:Int) m f=true∧(ccC t m f).1=(ccF t m f).isNone∧(12<(t.length:Int) * m→(eyC t m f).2=3) ∧
    (¬ 12<(t.length:Int) * m→eyC t m f=if (ccF t m f).isNone=true then (exR t m f,0) else ([],5)):=by
  unfold ccC at h ⊢
  split at h
  · rename_i hr
    split at h
    · rename_i hm
      refine ⟨hr,hm,?_,fun k=>?_,fun k=>?_⟩
      · rw [if_pos hr,if_pos hm]
      · rw [eyC,if_pos hr,if_pos hm,if_pos k]
      · rw [eyC,if_pos hr,if_pos hm,if_neg k]
    · cases h
  · cases h
theorem cy_dy {t f:List (List Int)} {m:Int} (hr:cycB t=true) (hm:matB (t.length:Int) m f=true) (hk:¬ 12<(t.length:Int) * m) :
    dyC t m (con4 m.toNat f)=if (ccF t m f).isNone=true then (exR t m f,0) else ([],5):=by
  obtain ⟨m1,m2,_⟩:=matB_of hm
  rw [dyC,if_pos hr,if_pos (by rw [decide_eq_true (And.intro m1 m2),con_ok hm];rfl),if_neg hk,con_dyR (cycB_tab hr) hm,ex_cycle hr hm (by omega)]
def likeRows5_p (a:List (List Int)) (b:List (List Int)):Post:=⟨roomR a,.c (.bool (decide (a=b))),[]⟩
def likeRows5_ct:List AD→Option Post
  | [.c (.rows .i64 (a)),.c (.rows .i64 (b))]=>some (likeRows5_p a b)
  | _=>none
def likeRows5_ann (a:List (List Int)) (b:List (List Int)):Nat→Option Ann
  | 0=>some (Ann.mk ((Nat)) (fun i=>⟨[(0,.c (.ro (.rows .i64 (a)))),(1,.c (.ro (.rows .i64 (b)))),(5,.c (.int .i64 ((i:Int))))],[]⟩) (fun i=>i≤a.length∧a.length=b.length∧a.take i=b.take i) (fun i=>a.length - i) (fun _=>noAnn))
  | _=>none
def likeRows5_G:List (Nat×Ctr):=[(42,⟨[],likeInts_ct⟩)]
def likeRows5_V (a:List (List Int)) (b:List (List Int)):Prop :=
 (BrP ((↑(a.length):Int) != (↑(b.length):Int)) ((false=decide (a=b))∧True) ((∃x0:Nat,(((x0≤a.length)∧((a.length=b.length)∧(List.take x0 a=List.take x0 b)))∧((a=a)∧((b=b)∧((0:Int)=(↑x0:Int))))))∧(∀x1:Nat,(((x1≤a.length)∧((a.length=b.length)∧(List.take x1 a=List.take x1 b)))→(BrP (decide ((↑x1:Int)<(↑(a.length):Int))) ((inB (↑x1:Int) (a.length))∧((inB (↑x1:Int) (b.length))∧(((room ((a.getD ((↑x1:Int).toNat) []).length))∧True)∧(BrP (!decide (a.getD ((↑x1:Int).toNat) []=b.getD ((↑x1:Int).toNat) [])) ((false=decide (a=b))∧True) ((InR ((↑x1:Int)+(1:Int)))∧(∃x2:Nat,(((x2≤a.length)∧((a.length=b.length)∧(List.take x2 a=List.take x2 b)))∧((a.length - x2<a.length - x1)∧((a=a)∧((b=b)∧((↑x1:Int)+(1:Int)=(↑x2:Int)))))))))))) ((true=decide (a=b))∧True))))))
theorem likeRows5_vc (a:List (List Int)) (b:List (List Int)):runF Try.prog (gam likeRows5_G) noWr (likeRows5_ann a b) Try.f13 (bodyOf Try.f13) [] [.c (.rows .i64 (a)),.c (.rows .i64 (b))] (likeRows5_p a b)=likeRows5_V a b:=by kernel_rfl
theorem likeRows5_ok (a:List (List Int)) (b:List (List Int)) (hpre:(likeRows5_p a b).pre):likeRows5_V a b:=by
  simp only [likeRows5_p,likeRows5_V,BrP_iff,u1,u2,u3,u4,u5,u6,u7,u8,u9,v1,v2,v3,v4,v5,v6,v7,v8,v9,w1,w2,w3,w4,markL_length,inB,InR,room,bdsOk] at hpre ⊢
  have h0:=hpre.1
  refine ⟨fun h=>?_,fun h=>⟨⟨0,⟨by omega,by omega,rfl⟩,by simp⟩,fun i hi=>⟨fun h1=>⟨by omega,by omega,roomR_get hpre i (by omega),fun h2=>?_,fun h2=>⟨by omega,i+1,⟨by omega,hi.2.1,?_⟩,by omega,by omega⟩⟩,fun h1=>?_⟩⟩⟩
  · exact (decide_eq_false fun e=>h (by rw [e])).symm
  · exact (decide_eq_false fun e=>h2 (by rw [e])).symm
  · exact (take_eq_step a b [] i (by omega) (by omega) hi.2.2).2 h2
  · refine (decide_eq_true ?_).symm
    have:=hi.2.2
    rwa [List.take_of_length_le (by omega),List.take_of_length_le (by omega)] at this
theorem likeRows5_fits:Fits Try.prog 13 ⟨[],likeRows5_ct⟩:=by
  refine ffn (Γ:=gam likeRows5_G) (gok_cons likeInts_fits gok_nil) Try.func13 fun ds p h hp=>?_
  unfold likeRows5_ct at h
  split at h
  · cases h
    exact ⟨noWr,likeRows5_ann _ _ ,by rw [likeRows5_vc];exact likeRows5_ok _ _  hp⟩
  · cases h
def yxC (code:List Int):Dr:=spD code 0 (frH code code.length) 6
def yxT (code:List Int):List (List Int):=(yxC code).1
def yxM (code:List Int):Int×Int×Int:=moD code (yxC code).2.1 (yxC code).2.2 ((yxT code).length:Int)
def yxS (code:List Int):Dy:=shF code (yxT code) (yxM code).1 (yxM code).2.1 (yxM code).2.2
def yxK (code:List Int):Nat:=(yxS code).1.length - (yxS code).2.1
def yxG (code:List Int):List (List Int):=yT (yxS code)
theorem yxC_ok {code:List Int} (hb:bytesB code):okB code (yxC code):=spD_ok hb (by omega) (by omega) (by omega) (by omega)
theorem yxT_room {code:List Int} (hb:bytesB code):roomR (yxT code)∧(yxT code).length≤13:=by
  obtain ⟨k1,k2,k3,k4⟩:=yxC_ok hb
  refine ⟨⟨by unfold yxT;omega,fun r hr=>?_⟩,k1⟩
  have:=k2 r hr
  omega
theorem yxG_room {code:List Int} (hb:bytesB code):roomR (yxG code):=by
  obtain ⟨k1,k2,k3,k4⟩:=yxC_ok hb
  have M:=moD_in hb (h:=(yxC code).2.2) (n:=((yxT code).length:Int)) k3 k4 (by omega)
  have S:=shF_ok (code:=code) (t:=yxT code) (m:=(yxM code).1) (a:=(yxM code).2.1) (h:=(yxM code).2.2) k1 M.2.2.1 M.2.2.2
  have e:shF code (yxT code) (yxM code).1 (yxM code).2.1 (yxM code).2.2=yxS code:=rfl
  rw [e] at S
  refine ⟨by rw [yxG,yT_length];omega,fun r hr=>?_⟩
  have:=S.2 r (List.mem_of_mem_drop (List.mem_of_mem_take hr))
  omega
def DrawIsCC_p (code:List Int):Post:=⟨bytesB code∧code.length≤4096,.tup [.inr [.rows 41 2 .i64 (yxT code)],.inl (.int .i64 ((yxM code).1)),.inl (.cut ((yxS code).2.1) (yxK code) 41 2 .i64 ((yxS code).1))],[]⟩
def DrawIsCC_ct:List AD→Option Post
  | [.c (.ints .u8 (code))]=>some (DrawIsCC_p code)
  | _=>none
def DrawIsCC_G:List (Nat×Ctr):=[(51,⟨[],l01From_ct⟩),(52,⟨[(0,0)],l05Spoil_ct⟩),(53,⟨[(0,0)],l14Modulus_ct⟩),(56,⟨[(0,0)],l14Shape_ct⟩)]
def DrawIsCC_c1 (code:List Int):=(moD code (((spD code (0:Int) (frH code (code.length)) (6:Int)).2).1) (((spD code (0:Int) (frH code (code.length)) (6:Int)).2).2) (↑(((spD code (0:Int) (frH code (code.length)) (6:Int)).1).length):Int))
def DrawIsCC_c2 (code:List Int):=(shF code ((spD code (0:Int) (frH code (code.length)) (6:Int)).1) ((DrawIsCC_c1 code).1) (((DrawIsCC_c1 code).2).1) (((DrawIsCC_c1 code).2).2))
def DrawIsCC_V (code:List Int):Prop :=
 ((((bytesB code)∧(code.length≤(4096:Nat)))∧True)∧((((bytesB code)∧(((0:Int)≤(0:Int))∧(((0:Int)≤(↑(code.length):Int))∧((code.length≤(4096:Nat))∧(((1:Int)≤(6:Int))∧((6:Int)≤(6:Int)))))))∧((code=code)∧True))∧((((bytesB code)∧(((0:Int)≤((spD code (0:Int) (frH code (code.length)) (6:Int)).2).1)∧((((spD code (0:Int) (frH code (code.length)) (6:Int)).2).1≤(↑(code.length):Int))∧((code.length≤(4096:Nat))∧(((0:Int)≤(↑(((spD code (0:Int) (frH code (code.length)) (6:Int)).1).length):Int))∧((↑(((spD code (0:Int) (frH code (code.length)) (6:Int)).1).length):Int)≤(13:Int)))))))∧((code=code)∧True))∧((((bytesB code)∧((code.length≤(4096:Nat))∧(((0:Int)≤((DrawIsCC_c1 code).2).1)∧((((DrawIsCC_c1 code).2).1≤(↑(code.length):Int))∧((((spD code (0:Int) (frH code (code.length)) (6:Int)).1).length≤(100:Nat))∧((roomR ((spD code (0:Int) (frH code (code.length)) (6:Int)).1))∧(((-1000:Int)≤(DrawIsCC_c1 code).1)∧((DrawIsCC_c1 code).1≤(1000:Int)))))))))∧((code=code)∧True))∧(((((spD code (0:Int) (frH code (code.length)) (6:Int)).1=yxT code)∧True)∧(((DrawIsCC_c1 code).1=(yxM code).1)∧(((((DrawIsCC_c2 code).2).1=((yxS code).2).1)∧((((DrawIsCC_c2 code).1).length - ((DrawIsCC_c2 code).2).1=yxK code)∧((DrawIsCC_c2 code).1=(yxS code).1)))∧True)))∧True)))))
theorem DrawIsCC_vc (code:List Int):runF Try.prog (gam DrawIsCC_G) noWr noAnn Try.f34 (bodyOf Try.f34) [] [.c (.ints .u8 (code))] (DrawIsCC_p code)=DrawIsCC_V code:=by kernel_rfl
theorem DrawIsCC_ok (code:List Int) (hpre:(DrawIsCC_p code).pre):DrawIsCC_V code:=by
  simp only [DrawIsCC_p,DrawIsCC_V,DrawIsCC_c1,DrawIsCC_c2,BrP_iff,u1,u2,u3,u4,u5,u6,u7,u8,u9,v1,v2,v3,v4,v5,v6,v7,v8,v9,w1,w2,w3,w4,markL_length,inB,InR,room,bdsOk] at hpre ⊢
  obtain ⟨hb,hc⟩:=hpre
  have eC:spD code 0 (frH code code.length) 6=yxC code:=rfl
  simp only [eC]
  have eT:(yxC code).1=yxT code:=rfl
  simp only [eT]
  have eM:moD code (yxC code).2.1 (yxC code).2.2 ((yxT code).length:Int)=yxM code:=rfl
  simp only [eM]
  have eS:shF code (yxT code) (yxM code).1 (yxM code).2.1 (yxM code).2.2=yxS code:=rfl
  simp only [eS]
  obtain ⟨k1,k2,k3,k4⟩:=yxC_ok hb
  obtain ⟨T1,T2⟩:=yxT_room hb
  have M:=moD_in hb (h:=(yxC code).2.2) (n:=((yxT code).length:Int)) k3 k4 (by omega)
  rw [eM] at M
  exact ⟨⟨hb,hc⟩,⟨hb,by omega,by omega,hc,by omega,by omega⟩,⟨hb,k3,k4,hc,by omega,by omega⟩,⟨hb,hc,M.2.2.1,M.2.2.2,by omega,T1,by omega,by omega⟩,trivial,trivial,trivial,rfl,trivial⟩
theorem DrawIsCC_fits:Fits Try.prog 34 ⟨[],DrawIsCC_ct⟩:=by
  refine ffn (Γ:=gam DrawIsCC_G) (gok_cons l01From_fits (gok_cons l05Spoil_fits (gok_cons l14Modulus_fits (gok_cons l14Shape_fits gok_nil)))) Try.func34 fun ds p h hp=>?_
  unfold DrawIsCC_ct at h
  split at h
  · cases h
    exact ⟨noWr,noAnn,by rw [DrawIsCC_vc];exact DrawIsCC_ok _  hp⟩
  · cases h
def DrawExtC_p (code:List Int):Post:=⟨bytesB code∧code.length≤4096,.tup [.inr [.rows 41 2 .i64 (yxT code)],.inl (.int .i64 ((yxM code).1)),.inl (.cut ((yxS code).2.1) (yxK code) 41 2 .i64 ((yxS code).1))],[]⟩
def DrawExtC_ct:List AD→Option Post
  | [.c (.ints .u8 (code))]=>some (DrawExtC_p code)
  | _=>none
def DrawExtC_G:List (Nat×Ctr):=[(34,⟨[],DrawIsCC_ct⟩)]
def DrawExtC_V (code:List Int):Prop :=
 ((((bytesB code)∧(code.length≤(4096:Nat)))∧True)∧((((yxT code=yxT code)∧True)∧(((yxM code).1=(yxM code).1)∧(((((yxS code).2).1=((yxS code).2).1)∧((yxK code=yxK code)∧((yxS code).1=(yxS code).1)))∧True)))∧True))
theorem DrawExtC_vc (code:List Int):runF Try.prog (gam DrawExtC_G) noWr noAnn Try.f8 (bodyOf Try.f8) [] [.c (.ints .u8 (code))] (DrawExtC_p code)=DrawExtC_V code:=by kernel_rfl
theorem DrawExtC_ok (code:List Int) (hpre:(DrawExtC_p code).pre):DrawExtC_V code:=by
  simp only [DrawExtC_p,DrawExtC_V,BrP_iff,u1,u2,u3,u4,u5,u6,u7,u8,u9,v1,v2,v3,v4,v5,v6,v7,v8,v9,w1,w2,w3,w4,markL_length,inB,InR,room,bdsOk] at hpre ⊢
  exact hpre
theorem DrawExtC_fits:Fits Try.prog 8 ⟨[],DrawExtC_ct⟩:=by
  refine ffn (Γ:=gam DrawExtC_G) (gok_cons DrawIsCC_fits gok_nil) Try.func8 fun ds p h hp=>?_
  unfold DrawExtC_ct at h
  split at h
  · cases h
    exact ⟨noWr,noAnn,by rw [DrawExtC_vc];exact DrawExtC_ok _  hp⟩
  · cases h
def lCyx_p (code:List Int):Post:=⟨bytesB code,.c (.bool (true)),[]⟩
def lCyx_ct:List AD→Option Post
  | [.c (.ints .u8 (code))]=>some (lCyx_p code)
  | _=>none
def lCyx_G:List (Nat×Ctr):=[(7,⟨[],big_ct⟩),(8,⟨[],DrawExtC_ct⟩),(9,⟨[],iExtC_ct⟩),(10,⟨[],sExtC_ct⟩),(11,⟨[],iIsCC_ct⟩),(12,⟨[],sIsCC_ct⟩),(13,⟨[],likeRows5_ct⟩),(14,⟨[],iCD_ct⟩),(15,⟨[],iDE_ct⟩),(16,⟨[],IsCycleSet_ct⟩)]
def lCyx_c1 (code:List Int):=(List.take (yxK code) (List.drop (((yxS code).2).1) ((yxS code).1)))
def lCyx_V (code:List Int):Prop :=
 ((True∧True)∧(BrP (decide ((4096:Int)<(↑(code.length):Int))) ((true=true)∧True) ((((bytesB code)∧(code.length≤(4096:Nat)))∧True)∧((((roomR (yxT code))∧(roomR (lCyx_c1 code)))∧True)∧((((roomR (yxT code))∧(roomR (lCyx_c1 code)))∧True)∧((((roomR (yxT code))∧(roomR (lCyx_c1 code)))∧True)∧((((roomR (yxT code))∧(roomR (lCyx_c1 code)))∧True)∧(BrP ((eyC (yxT code) ((yxM code).1) (List.take (yxK code) (List.drop (((yxS code).2).1) ((yxS code).1)))).2 != (eyC (yxT code) ((yxM code).1) (List.take (yxK code) (List.drop (((yxS code).2).1) ((yxS code).1)))).2) ((false=true)∧True) (BrP ((ccC (yxT code) ((yxM code).1) (List.take (yxK code) (List.drop (((yxS code).2).1) ((yxS code).1)))).2 != (ccC (yxT code) ((yxM code).1) (List.take (yxK code) (List.drop (((yxS code).2).1) ((yxS code).1)))).2) ((false=true)∧True) (BrP (!(ccC (yxT code) ((yxM code).1) (List.take (yxK code) (List.drop (((yxS code).2).1) ((yxS code).1)))).1 == (ccC (yxT code) ((yxM code).1) (List.take (yxK code) (List.drop (((yxS code).2).1) ((yxS code).1)))).1) ((false=true)∧True) (((roomR ((eyC (yxT code) ((yxM code).1) (lCyx_c1 code)).1))∧True)∧(BrP (!decide ((eyC (yxT code) ((yxM code).1) (List.take (yxK code) (List.drop (((yxS code).2).1) ((yxS code).1)))).1=(eyC (yxT code) ((yxM code).1) (List.take (yxK code) (List.drop (((yxS code).2).1) ((yxS code).1)))).1)) ((false=true)∧True) (BrP ((ccC (yxT code) ((yxM code).1) (List.take (yxK code) (List.drop (((yxS code).2).1) ((yxS code).1)))).2 != (0:Int))
 ((((eyC (yxT code) ((yxM code).1) (lCyx_c1 code)).2 == (ccC (yxT code) ((yxM code).1) (lCyx_c1 code)).2)=true)∧True) ((InR ((↑((yxT code).length):Int) * (yxM code).1))∧(BrP (decide ((12:Int)<(↑((yxT code).length):Int) * (yxM code).1)) ((((eyC (yxT code) ((yxM code).1) (lCyx_c1 code)).2 == (3:Int))=true)∧True) (BrP (!(ccC (yxT code) ((yxM code).1) (List.take (yxK code) (List.drop (((yxS code).2).1) ((yxS code).1)))).1 == ((eyC (yxT code) ((yxM code).1) (List.take (yxK code) (List.drop (((yxS code).2).1) ((yxS code).1)))).2 == (0:Int))) ((false=true)∧True) ((((roomR (yxT code))∧(roomR (lCyx_c1 code)))∧True)∧(BrP ((cdC (yxT code) ((yxM code).1) (List.take (yxK code) (List.drop (((yxS code).2).1) ((yxS code).1)))).2 != (0:Int)) ((false=true)∧True) ((((roomR (yxT code))∧(room4 ((cdC (yxT code) ((yxM code).1) (lCyx_c1 code)).1)))∧True)∧(BrP (!(ccC (yxT code) ((yxM code).1) (List.take (yxK code) (List.drop (((yxS code).2).1) ((yxS code).1)))).1) (BrP ((eyC (yxT code) ((yxM code).1) (List.take (yxK code) (List.drop (((yxS code).2).1) ((yxS code).1)))).2 == (5:Int)) ((((dyC (yxT code) ((yxM code).1) ((cdC (yxT code) ((yxM code).1) (lCyx_c1 code)).1)).2 == (5:Int))=true)∧True) ((false=true)∧True)) (BrP ((dyC (yxT code) ((yxM code).1) ((cdC (yxT code) ((yxM code).1) (List.take (yxK code) (List.drop (((yxS code).2).1) ((yxS code).1)))).1)).2 == (0:Int)) (((roomR ((dyC (yxT code) ((yxM code).1) ((cdC (yxT code) ((yxM code).1) (lCyx_c1 code)).1)).1))∧True) ∧
 (BrP (decide ((dyC (yxT code) ((yxM code).1) ((cdC (yxT code) ((yxM code).1) (List.take (yxK code) (List.drop (((yxS code).2).1) ((yxS code).1)))).1)).1=(eyC (yxT code) ((yxM code).1) (List.take (yxK code) (List.drop (((yxS code).2).1) ((yxS code).1)))).1)) (((roomR ((eyC (yxT code) ((yxM code).1) (lCyx_c1 code)).1))∧True)∧((cycB ((eyC (yxT code) ((yxM code).1) (lCyx_c1 code)).1)=true)∧True)) ((false=true)∧True))) ((false=true)∧True))))))))))))))))))))))
theorem lCyx_vc (code:List Int):runF Try.prog (gam lCyx_G) noWr noAnn Try.f3 (bodyOf Try.f3) [] [.c (.ints .u8 (code))] (lCyx_p code)=lCyx_V code:=by kernel_rfl
theorem lCyx_ok (code:List Int) (hpre:(lCyx_p code).pre):lCyx_V code:=by
  simp only [lCyx_p,lCyx_V,lCyx_c1,BrP_iff,u1,u2,u3,u4,u5,u6,u7,u8,u9,v1,v2,v3,v4,v5,v6,v7,v8,v9,w1,w2,w3,w4,markL_length,inB,InR,room,bdsOk] at hpre ⊢
  have eG:List.take (yxK code) (List.drop (yxS code).2.1 (yxS code).1)=yxG code:=rfl
  simp only [eG]
  refine ⟨fun _=>trivial,fun hc=>?_⟩
  have hT:=(yxT_room hpre).1
  have hG:=yxG_room hpre
  generalize yxT code=t at hT ⊢
  generalize yxG code=f at hG ⊢
  generalize (yxM code).1=m
  have er:=(eyC_room t m f).1
  refine ⟨⟨hpre,by omega⟩,⟨hT,hG⟩,⟨hT,hG⟩,⟨hT,hG⟩,⟨hT,hG⟩,fun h=>absurd rfl h,fun _=>⟨fun h=>absurd rfl h,fun _=>⟨fun h=>absurd rfl h,fun _=>⟨er,fun h=>absurd trivial h,fun _=>⟨fun z=>cy_a z,fun z=>?_⟩⟩⟩⟩⟩
  obtain ⟨hr,hm,r1,r2,r3⟩:=cy_b z
  obtain ⟨nm0,nm1⟩:=nm_in (cycB_tab hr) hm
  refine ⟨by omega,r2,fun k=>?_⟩
  have r3:=r3 k
  have r4:=cy_dy hr hm k
  have c1:cdC t m f=(con4 m.toNat f,0):=by rw [cdC,if_pos hr,if_pos hm]
  have c2:=(cdC_all t m f).1
  have ex:=ex_cycle hr hm (by omega)
  rw [c1] at c2 ⊢
  dsimp only at c2 ⊢
  rw [r4,r3,r1]
  rw [r3] at er
  refine ⟨fun h=>absurd ?_ h,fun _=>⟨⟨hT,hG⟩,fun h=>absurd rfl h,fun _=>⟨⟨hT,c2⟩,fun z=>?_,fun z=>?_⟩⟩⟩
  · cases (ccF t m f).isNone <;> rfl
  · rw [z];exact ⟨fun _=>rfl,fun h=>absurd rfl h⟩
  · rw [if_pos z] at er ⊢
    exact ⟨fun _=>⟨er,fun _=>⟨er,ex.trans z⟩,fun h=>absurd rfl h⟩,fun h=>absurd rfl h⟩
theorem lCyx_fits:Fits Try.prog 3 ⟨[],lCyx_ct⟩:=by
  refine ffn (Γ:=gam lCyx_G) (gok_cons big_fits (gok_cons DrawExtC_fits (gok_cons iExtC_fits (gok_cons sExtC_fits (gok_cons iIsCC_fits (gok_cons sIsCC_fits (gok_cons likeRows5_fits (gok_cons iCD_fits (gok_cons iDE_fits (gok_cons IsCycleSet_fits gok_nil)))))))))) Try.func3 fun ds p h hp=>?_
  unfold lCyx_ct at h
  split at h
  · cases h
    exact ⟨noWr,noAnn,by rw [lCyx_vc];exact lCyx_ok _  hp⟩
  · cases h
end Go.Sx
