/- DyxM -/
import Derived.Test.YtjkbnanffneogaaDyxL
open Go Go.Proofs
namespace Go.Sx
set_option linter.unusedSimpArgs false
set_option linter.unusedVariables false
def likeRows5_p (a:List (List Int)) (b:List (List Int)):Post:=⟨roomR a,.c (.bool (decide (a=b))),[]⟩
def likeRows5_ct:List AD→Option Post
  | [.c (.rows .i64 (a)),.c (.rows .i64 (b))]=>some (likeRows5_p a b)
  | _=>none
def likeRows5_ann (a:List (List Int)) (b:List (List Int)):Nat→Option Ann
  | 0=>some (Ann.mk ((Nat)) (fun i=>⟨[(0,.c (.ro (.rows .i64 (a)))),(1,.c (.ro (.rows .i64 (b)))),(5,.c (.int .i64 ((i:Int))))],[]⟩) (fun i=>i≤a.length∧a.length=b.length∧a.take i=b.take i) (fun i=>a.length - i) (fun _=>noAnn))
  | _=>none
def likeRows5_G:List (Nat×Ctr):=[(42,⟨[],likeInts_ct⟩)]
def likeRows5_V (a:List (List Int)) (b:List (List Int)):Prop :=
 (BrP ((↑(a.length):Int) != (↑(b.length):Int)) ((false=decide (a=b))∧True) ((∃x0:Nat,(((x0≤a.length)∧((a.length=b.length)∧(List.take x0 a=List.take x0 b)))∧((a=a)∧((b=b)∧((0:Int)=(↑x0:Int))))))∧(∀x1:Nat,(((x1≤a.length)∧((a.length=b.length)∧(List.take x1 a=List.take x1 b)))→(BrP (decide ((↑x1:Int)<(↑(a.length):Int))) ((inB (↑x1:Int) (a.length))∧((inB (↑x1:Int) (b.length))∧(((room ((a.getD ((↑x1:Int).toNat) []).length))∧True)∧(BrP (!decide (a.getD ((↑x1:Int).toNat) []=b.getD ((↑x1:Int).toNat) [])) ((false=decide (a=b))∧True) ((InR ((↑x1:Int)+(1:Int)))∧(∃x2:Nat,(((x2≤a.length)∧((a.length=b.length)∧(List.take x2 a=List.take x2 b)))∧((a.length - x2<a.length - x1)∧((a=a)∧((b=b)∧((↑x1:Int)+(1:Int)=(↑x2:Int)))))))))))) ((true=decide (a=b))∧True))))))
theorem likeRows5_vc (a:List (List Int)) (b:List (List Int)):runF Try.prog (gam likeRows5_G) noWr (likeRows5_ann a b) Try.f13 (bodyOf Try.f13) [] [.c (.rows .i64 (a)),.c (.rows .i64 (b))] (likeRows5_p a b)=likeRows5_V a b:=by kernel_rfl
theorem likeRows5_ok (a:List (List Int)) (b:List (List Int)) (hpre:(likeRows5_p a b).pre):likeRows5_V a b:=by
  simp only [likeRows5_p,likeRows5_V,BrP_iff,u1,u2,u3,u4,u5,u6,u7,u8,u9,v1,v2,v3,v4,v5,v6,v7,v8,v9,w1,w2,w3,w4,markL_length,inB,InR,room,bdsOk] at hpre ⊢
  have h0:=hpre.1
  refine ⟨fun h=>?_,fun h=>⟨⟨0,⟨by omega,by omega,rfl⟩,by simp⟩,fun i hi=>⟨fun h1=>⟨by omega,by omega,roomR_get hpre i (by omega),fun h2=>?_,fun h2=>⟨by omega,i+1,⟨by omega,hi.2.1,?_⟩,by omega,by omega⟩⟩,fun h1=>?_⟩⟩⟩
  · exact (decide_eq_false fun e=>h (by rw [e])).symm
  · exact (decide_eq_false fun e=>h2 (by rw [e])).symm
  · exact (take_eq_step a b [] i (by omega) (by omega) hi.2.2).2 h2
  · refine (decide_eq_true ?_).symm
    have:=hi.2.2
    rwa [List.take_of_length_le (by omega),List.take_of_length_le (by omega)] at this
theorem likeRows5_fits:Fits Try.prog 13 ⟨[],likeRows5_ct⟩:=by
  refine ffn (Γ:=gam likeRows5_G) (gok_cons likeInts_fits gok_nil) Try.func13 fun ds p h hp=>?_
  unfold likeRows5_ct at h
  split at h
  · cases h
    exact ⟨noWr,likeRows5_ann _ _ ,by rw [likeRows5_vc];exact likeRows5_ok _ _  hp⟩
  · cases h
def sh4 (d:List (List (List (List Int)))):Prop:=d.length≤13∧∀r∈d,r.length≤13∧∀l∈r,l.length≤13∧∀p∈l,p.length≤13
theorem sh4_room {d:List (List (List (List Int)))} (h:sh4 d):room4 d :=
  ⟨by have:=h.1;omega,fun r hr=>⟨by have:=(h.2 r hr).1;omega,fun l hl=>⟨by have:=((h.2 r hr).2 l hl).1;omega,fun p hp=>by have:=((h.2 r hr).2 l hl).2 p hp;omega⟩⟩⟩
theorem sh4_con {m:Nat} {k:Int} {f:List (List Int)} (h:mOk k f) (hm:m≤12):sh4 (con4 m (sqr f)):=by
  obtain ⟨_,_,h3,_⟩:=h
  refine ⟨by rw [con4,List.length_map,sqr,List.length_map];exact h3,fun r hr=>?_⟩
  obtain ⟨q,hq,rfl⟩:=List.mem_map.1 hr
  obtain ⟨q',hq',rfl⟩:=List.mem_map.1 hq
  refine ⟨by rw [conR,List.length_map,List.length_take];omega,fun l hl=>?_⟩
  obtain ⟨b,hb,rfl⟩:=List.mem_map.1 hl
  refine ⟨by rw [conS,List.length_replicate];omega,fun p hp=>?_⟩
  rw [List.eq_of_mem_replicate hp,conP,tab_length];omega
theorem sh4_w {p:List Int} {d:List (List (List (List Int)))} (h:sh4 d) (hp:p.length≤13):sh4 (wAll p d):=by
  refine ⟨by rw [wAll,List.length_map];exact h.1,fun r hr=>?_⟩
  obtain ⟨q,hq,rfl⟩:=List.mem_map.1 hr
  refine ⟨by rw [wR,List.length_map];exact (h.2 q hq).1,fun l hl=>?_⟩
  obtain ⟨b,hb,rfl⟩:=List.mem_map.1 hl
  refine ⟨by rw [wP,List.length_map];exact ((h.2 q hq).2 b hb).1,fun x hx=>?_⟩
  obtain ⟨y,_,rfl⟩:=List.mem_map.1 hx
  exact hp
theorem mem_setG {α:Type} {l:List α} {i:Nat} {v x d:α} {P:α→Prop} (h:∀x∈l,P x) (hv:(i<l.length→P (l.getD i d))→i<l.length→P v) (hx:x∈l.set i v):P x:=by
  by_cases e:i<l.length
  · rcases List.mem_or_eq_of_mem_set hx with hx | rfl
    · exact h x hx
    · exact hv (fun _=>h _ (getD_mem l d i e)) e
  · rw [List.set_eq_of_length_le (by omega)] at hx;exact h x hx
theorem sh4_set {d:List (List (List (List Int)))} {p:List Int} (h:sh4 d) (hp:p.length≤13):sh4 (d.set 0 ((d.getD 0 []).set 0 (((d.getD 0 []).getD 0 []).set 0 p))):=by
  refine ⟨by rw [List.length_set];exact h.1,fun r hr=>mem_setG (d:=[]) (P:=fun r=>r.length≤13∧∀l∈r,l.length≤13∧∀p∈l,p.length≤13) h.2 (fun q e=>?_) hr⟩
  obtain ⟨q1,q2⟩:=q e
  refine ⟨by rw [List.length_set];exact q1,fun l hl=>mem_setG (d:=[]) (P:=fun l=>l.length≤13∧∀p∈l,p.length≤13) q2 (fun q e=>?_) hl⟩
  obtain ⟨q3,q4⟩:=q e
  exact ⟨by rw [List.length_set];exact q3,fun x hx=>mem_setG (d:=[]) (P:=fun x=>x.length≤13) q4 (fun _ _=>hp) hx⟩
theorem dxD_room {code:List Int} (hb:bytesB code):room4 (dxD code):=by
  refine sh4_room ?_
  unfold dxD
  split
  · rename_i hk
    obtain ⟨hC,hk1,hk2⟩:=hk
    obtain ⟨k1,k2,k3,k4⟩:=dxY_ok hb
    have M:=moD_in hb (h:=(dxY code).2.2) (n:=((dxT code).length:Int)) k3 k4 (by omega)
    have P:=shF_pos (code:=code) (t:=dxT code) (m:=dxK code) (a:=(dxM code).2.1) (h:=(dxM code).2.2) M.2.2.1 M.2.2.2
    have mo:=mOk_shF hb (h:=(dxM code).2.2) (cycB_tab hC) ⟨hk1,hk2⟩ M.2.2.1 M.2.2.2
    have S:sh4 (dxC code):=sh4_con mo (by omega)
    have n3:=nxA_in (n:=3) P.1 P.2
    have U:=duF_in hb (n:=dxK code) (a:=nxA code.length (dxS code).2.2.1 3) (h:=nxH (dxS code).2.2.2 3) hk1 n3.1 n3.2
    have U1:(dxP code).1.length≤13:=by have:=U.1.1;unfold dxP;omega
    have n4:=nxA_in (n:=4) U.2.1 U.2.2
    split
    · exact S
    · split
      · exact S
      · unfold dxE
        split
        · have V:=duF_in hb (n:=dxK code) (a:=nxA code.length (dxP code).2.1 4) (h:=nxH (dxP code).2.2 4) hk1 n4.1 n4.2
          exact sh4_set (sh4_w S U1) (by have:=V.1.1;omega)
        · exact sh4_w S U1
  · exact ⟨by simp,by simp⟩
theorem dyC_of {t:List (List Int)} {k:Int} {d:List (List (List (List Int)))} (h:(dyC t k d).2=0):cycB t=true∧(1≤k∧k≤12)∧ddB (t.length:Int) k d=true∧(t.length:Int) * k≤12∧cycB (dyR t k d)=true∧(dyC t k d).1=dyR t k d:=by
  unfold dyC at h ⊢
  split at h
  · rename_i h1
    split at h
    · rename_i h2
      split at h
      · cases h
      · rename_i h3
        split at h
        · rename_i h4
          rw [if_pos h1,if_pos h2,if_neg h3,if_pos h4]
          have h2':=h2
          rw [Bool.and_eq_true,decide_eq_true_eq] at h2'
          exact ⟨h1,h2'.1,h2'.2,by omega,h4,rfl⟩
        · cases h
    · cases h
  · cases h
theorem dyI_div {t:List (List Int)} {k:Int} {d:List (List (List (List Int)))} (h1:tabB t=true) (hk:1≤k∧k≤12) (h2:ddB (t.length:Int) k d=true) {x y:Int} (hx:0≤x) (hx2:x<(t.length:Int) * k) (hy:0≤y) (hy2:y<(t.length:Int) * k) :
    (dyI t k d x y).tdiv k=(t.getD (x.tdiv k).toNat []).getD (y.tdiv k).toNat 0:=by
  obtain ⟨a1,a2,b1,b2,a3,a4,b3,b4,c1,c2,c3,c4,c5,e1,e2,e3,e4⟩:=dy_in h1 hk h2 hx hx2 hy hy2
  unfold dyI
  generalize ((((d.getD (x.tdiv k).toNat []).getD (y.tdiv k).toNat []).getD (x.tmod k).toNat []).getD (y.tmod k).toNat 0)=v at *
  generalize ((t.getD (x.tdiv k).toNat []).getD (y.tdiv k).toNat 0)=u at *
  rw [Int.tdiv_eq_ediv_of_nonneg (by omega),Int.add_comm,Int.add_mul_ediv_right _ _ (by omega),Int.ediv_eq_zero_of_lt e3 e4,Int.zero_add]
def lDyx_p (code:List Int):Post:=⟨bytesB code,.c (.bool (true)),[]⟩
def lDyx_ct:List AD→Option Post
  | [.c (.ints .u8 (code))]=>some (lDyx_p code)
  | _=>none
def lDyx_ann (code:List Int):Nat→Option Ann
  | 0=>some (Ann.mk ((Nat)) (fun a=>⟨[(3,.c (.ptr 3 0)),(4,.c (.int .i64 (dxK code))),(6,.c (.ptr 6 0)),(10,.c (.int .i64 ((a:Int))))],[(3,some (.box [.ro (.rows .i64 (dxT code))])),(6,some (.box [.ro (.rows .i64 ((dyC (dxT code) (dxK code) (dxD code)).1))]))]⟩) (fun a=>a≤(dyC (dxT code) (dxK code) (dxD code)).1.length∧(dyC (dxT code) (dxK code) (dxD code)).2=0) (fun a=>(dyC (dxT code) (dxK code) (dxD code)).1.length - a) (fun a=>fun b_=>match b_ with | 2=>some (Ann.mk ((Nat)) (fun b=>⟨[(3,.c (.ptr 3 0)),(4,.c (.int .i64 (dxK code))),(6,.c (.ptr 6 0)),(10,.c (.int .i64 ((a:Int)))),(11,.c (.int .i64 ((b:Int))))],[(3,some (.box [.ro (.rows .i64 (dxT code))])),(6,some (.box [.ro (.rows .i64 ((dyC (dxT code) (dxK code) (dxD code)).1))]))]⟩) (fun b=>a<(dyC (dxT code) (dxK code) (dxD code)).1.length∧b≤(dyC (dxT code) (dxK code) (dxD code)).1.length) (fun b=>(dyC (dxT code) (dxK code) (dxD code)).1.length - b) (fun _=>noAnn)) | _=>none))
  | _=>none
def lDyx_G:List (Nat×Ctr):=[(7,⟨[],big_ct⟩),(17,⟨[],DrawDyE_ct⟩),(15,⟨[],iDE_ct⟩),(18,⟨[],sDE_ct⟩),(13,⟨[],likeRows5_ct⟩),(16,⟨[],IsCycleSet_ct⟩)]
def lDyx_c1 (code:List Int):=(dyC (dxT code) (dxK code) (dxD code))
def lDyx_V (code:List Int):Prop :=
 ((True∧True)∧(BrP (decide ((4096:Int)<(↑(code.length):Int))) ((true=true)∧True) ((((bytesB code)∧(code.length≤(4096:Nat)))∧True)∧((((roomR (dxT code))∧(room4 (dxD code)))∧True)∧((((roomR (dxT code))∧(room4 (dxD code)))∧True)∧(BrP ((dyC (dxT code) (dxK code) (dxD code)).2 != (dyC (dxT code) (dxK code) (dxD code)).2) ((false=true)∧True) (((roomR ((lDyx_c1 code).1))∧True)∧(BrP (!decide ((dyC (dxT code) (dxK code) (dxD code)).1=(dyC (dxT code) (dxK code) (dxD code)).1)) ((false=true)∧True) (BrP ((dyC (dxT code) (dxK code) (dxD code)).2 != (0:Int)) ((true=true)∧True) (((roomR ((lDyx_c1 code).1))∧True)∧(BrP (!cycB ((dyC (dxT code) (dxK code) (dxD code)).1)) ((false=true)∧True) ((∃x0:Nat,(((x0≤((lDyx_c1 code).1).length)∧((lDyx_c1 code).2=(0:Int)))∧((dxK code=dxK code)∧(((0:Int)=(↑x0:Int))∧((dxT code=dxT code)∧((lDyx_c1 code).1=(lDyx_c1 code).1))))))∧(∀x1:Nat,(((x1≤((lDyx_c1 code).1).length)∧((lDyx_c1 code).2=(0:Int)))→(BrP (decide ((↑x1:Int)<(↑(((dyC (dxT code) (dxK code) (dxD code)).1).length):Int))) ((∃x2:Nat,(((x1<((lDyx_c1 code).1).length)∧(x2≤((lDyx_c1 code).1).length))∧((dxK code=dxK code)∧(((↑x1:Int)=(↑x1:Int))∧(((0:Int)=(↑x2:Int))∧((dxT code=dxT code)∧((lDyx_c1 code).1=(lDyx_c1 code).1)))))))∧(∀x3:Nat,(((x1<((lDyx_c1 code).1).length)∧(x3≤((lDyx_c1 code).1).length))→(BrP (decide ((↑x3:Int)<(↑(((dyC (dxT code) (dxK code) (dxD code)).1).length):Int))) ((inB (↑x1:Int) (((lDyx_c1 code).1).length)) ∧
 ((inB (↑x3:Int) ((((lDyx_c1 code).1).getD ((↑x1:Int).toNat) []).length))∧(((dxK code≠(0:Int))∧(InR (Int.tdiv ((List.getD ((lDyx_c1 code).1) ((↑x1:Int).toNat) []).getD ((↑x3:Int).toNat) (0:Int)) (dxK code))))∧(((dxK code≠(0:Int))∧(InR (Int.tdiv (↑x1:Int) (dxK code))))∧((inB (Int.tdiv (↑x1:Int) (dxK code)) ((dxT code).length))∧(((dxK code≠(0:Int))∧(InR (Int.tdiv (↑x3:Int) (dxK code))))∧((inB (Int.tdiv (↑x3:Int) (dxK code)) (((dxT code).getD ((Int.tdiv (↑x1:Int) (dxK code)).toNat) []).length))∧(BrP (Int.tdiv ((List.getD ((dyC (dxT code) (dxK code) (dxD code)).1) ((↑x1:Int).toNat) []).getD ((↑x3:Int).toNat) (0:Int)) (dxK code) != (List.getD (dxT code) ((Int.tdiv (↑x1:Int) (dxK code)).toNat) []).getD ((Int.tdiv (↑x3:Int) (dxK code)).toNat) (0:Int)) ((false=true)∧True) ((InR ((↑x3:Int)+(1:Int)))∧(∃x4:Nat,(((x1<((lDyx_c1 code).1).length)∧(x4≤((lDyx_c1 code).1).length))∧((((lDyx_c1 code).1).length - x4<((lDyx_c1 code).1).length - x3)∧((dxK code=dxK code)∧(((↑x1:Int)=(↑x1:Int))∧(((↑x3:Int)+(1:Int)=(↑x4:Int))∧((dxT code=dxT code)∧((lDyx_c1 code).1=(lDyx_c1 code).1))))))))))))))))) ((InR ((↑x1:Int)+(1:Int)))∧(∃x5:Nat,(((x5≤((lDyx_c1 code).1).length)∧((lDyx_c1 code).2=(0:Int)))∧((((lDyx_c1 code).1).length - x5<((lDyx_c1 code).1).length - x1)∧((dxK code=dxK code)∧(((↑x1:Int)+(1:Int)=(↑x5:Int))∧((dxT code=dxT code)∧((lDyx_c1 code).1=(lDyx_c1 code).1)))))))))))) ((true=true)∧True))))))))))))))))
theorem lDyx_vc (code:List Int):runF Try.prog (gam lDyx_G) noWr (lDyx_ann code) Try.f4 (bodyOf Try.f4) [] [.c (.ints .u8 (code))] (lDyx_p code)=lDyx_V code:=by kernel_rfl
theorem lDyx_ok (code:List Int) (hpre:(lDyx_p code).pre):lDyx_V code:=by
  simp only [lDyx_p,lDyx_V,lDyx_c1,BrP_iff,true_and,and_true,decide_eq_true_eq,decide_eq_false_iff_not,bne_iff_ne,beq_iff_eq,bne_eq_false_iff_eq,beq_eq_false_iff_ne,Bool.not_eq_true,Bool.not_eq_false,Bool.not_true,Bool.not_false,Bool.not_eq_eq_eq_not,Int.toNat_natCast,List.length_append,List.length_take,List.length_replicate,List.length_set,List.length_map,List.length_drop,List.length_nil,List.length_cons,markL_length,inB,InR,room,bdsOk,FC.len] at hpre ⊢
  refine ⟨fun _=>trivial,fun hc=>?_⟩
  have hT:=(dxT_room hpre).1
  have hD:=dxD_room hpre
  generalize dxT code=t at hT ⊢
  generalize dxD code=d at hD ⊢
  generalize dxK code=k
  have er:=(dyC_room t k d).1
  refine ⟨⟨hpre,by omega⟩,⟨hT,hD⟩,⟨hT,hD⟩,fun h=>absurd rfl h,fun _=>⟨er,fun h=>absurd trivial h,fun _=>⟨fun _=>trivial,fun z=>?_⟩⟩⟩
  obtain ⟨hr,hk,hd,nk,hc2,eD⟩:=dyC_of z
  have ht:=cycB_tab hr
  obtain ⟨n1,n2,n3⟩:=tabB_of ht
  rw [eD] at er ⊢
  have lE:(dyR t k d).length=((t.length:Int) * k).toNat:=tabR_length _ _
  refine ⟨er,fun h=>absurd (h.symm.trans hc2) (by simp),fun _=>⟨⟨0,⟨by omega,z⟩,rfl⟩,fun a ⟨ha,_⟩=>⟨fun hl=>⟨⟨0,⟨by omega,by omega⟩,rfl⟩,fun b ⟨_,hb⟩=>⟨fun hl2=>?_,fun hl2=>⟨by omega,a+1,⟨by omega,z⟩,by omega,by omega⟩⟩⟩,fun _=>trivial⟩⟩⟩
  have q:=dy_in ht hk hd (x:=(a:Int)) (y:=(b:Int)) (by omega) (by omega) (by omega) (by omega)
  have v:=dyI_div ht hk hd (x:=(a:Int)) (y:=(b:Int)) (by omega) (by omega) (by omega) (by omega)
  have row:(dyR t k d).getD a []=tab ((t.length:Int) * k).toNat fun y=>dyI t k d (a:Int) (y:Int):=tabR_getD _ _ _ (by omega)
  have cell:((dyR t k d).getD a []).getD b 0=dyI t k d (a:Int) (b:Int):=by rw [row,tab_getD _ _ _ (by omega)]
  have lr:((dyR t k d).getD a []).length=((t.length:Int) * k).toNat:=by rw [row,tab_length]
  have en:=(n3 ((a:Int).tdiv k).toNat (by omega)).2 ((b:Int).tdiv k).toNat (by omega)
  rw [cell,v]
  exact ⟨by omega,by omega,by omega,by omega,by omega,by omega,by omega,fun h=>absurd rfl h,fun _=>⟨by omega,b+1,⟨by omega,by omega⟩,by omega,by omega⟩⟩
theorem lDyx_fits:Fits Try.prog 4 ⟨[],lDyx_ct⟩:=by
  refine ffn (Γ:=gam lDyx_G) (gok_cons big_fits (gok_cons DrawDyE_fits (gok_cons iDE_fits (gok_cons sDE_fits (gok_cons likeRows5_fits (gok_cons IsCycleSet_fits gok_nil)))))) Try.func4 fun ds p h hp=>?_
  unfold lDyx_ct at h
  split at h
  · cases h
    exact ⟨noWr,lDyx_ann _ ,by rw [lDyx_vc];exact lDyx_ok _  hp⟩
  · cases h
end Go.Sx
