/- CbdL -/
import Derived.Test.YtbppifmljnnogaaGreatCbdI
import Derived.Test.YtbppifmljnnogaaGreatCbdC
open Go Go.Proofs
namespace Go.Sx
set_option linter.unusedSimpArgs false
set_option linter.unusedVariables false
def likeRows5_p (a:List (List Int)) (b:List (List Int)):Post:=⟨roomR a,.c (.bool (decide (a=b))),[]⟩
def likeRows5_ct:List AD→Option Post
 | [.c (.rows .i64 (a)),.c (.rows .i64 (b))]=>some (likeRows5_p a b)
 | _=>none
def likeRows5_ann (a:List (List Int)) (b:List (List Int)):Nat→Option Ann
 | 0=>some (Ann.mk ((Nat)) (fun i=>⟨[(0,.c (.ro (.rows .i64 (a)))),(1,.c (.ro (.rows .i64 (b)))),(5,.c (.int .i64 ((i:Int))))],[]⟩) (fun i=>i≤a.length∧a.length=b.length∧a.take i=b.take i) (fun i=>a.length - i) (fun _=>noAnn))
 | _=>none
def likeRows5_G:List (Nat×Ctr):=[(28,⟨[],likeInts_ct⟩)]
def likeRows5_V (a:List (List Int)) (b:List (List Int)):Prop :=
 (BrP ((↑(a.length):Int) != (↑(b.length):Int)) ((false=decide (a=b))∧True) ((∃x0:Nat,(((x0≤a.length)∧((a.length=b.length)∧(List.take x0 a=List.take x0 b)))∧((a=a)∧((b=b)∧((0:Int)=(↑x0:Int))))))∧(∀x1:Nat,(((x1≤a.length)∧((a.length=b.length)∧(List.take x1 a=List.take x1 b)))→(BrP (decide ((↑x1:Int)<(↑(a.length):Int))) ((inB (↑x1:Int) (a.length))∧((inB (↑x1:Int) (b.length))∧(((room ((a.getD ((↑x1:Int).toNat) []).length))∧True)∧(BrP (!decide (a.getD ((↑x1:Int).toNat) []=b.getD ((↑x1:Int).toNat) [])) ((false=decide (a=b))∧True) ((InR ((↑x1:Int)+(1:Int)))∧(∃x2:Nat,(((x2≤a.length)∧((a.length=b.length)∧(List.take x2 a=List.take x2 b)))∧((a.length - x2<a.length - x1)∧((a=a)∧((b=b)∧((↑x1:Int)+(1:Int)=(↑x2:Int)))))))))))) ((true=decide (a=b))∧True))))))
theorem likeRows5_vc (a:List (List Int)) (b:List (List Int)):runF Tryz.prog (gam likeRows5_G) noWr (likeRows5_ann a b) Tryz.f20 (bodyOf Tryz.f20) [] [.c (.rows .i64 (a)),.c (.rows .i64 (b))] (likeRows5_p a b)=likeRows5_V a b:=by kernel_rfl
theorem likeRows5_ok (a:List (List Int)) (b:List (List Int)) (hpre:(likeRows5_p a b).pre):likeRows5_V a b:=by
 simp only [likeRows5_p,likeRows5_V,BrP_iff,u1,u2,u3,u4,u5,u6,u7,u8,u9,v1,v2,v3,v4,v5,v6,v7,v8,v9,w1,w2,w3,w4,markL_length,inB,InR,room,bdsOk] at hpre ⊢
 have h0:=hpre.1
 refine ⟨fun h=>?_,fun h=>⟨⟨0,⟨by omega,by omega,rfl⟩,by simp⟩,fun i hi=>⟨fun h1=>⟨by omega,by omega,roomR_get hpre i (by omega),fun h2=>?_,fun h2=>⟨by omega,i+1,⟨by omega,hi.2.1,?_⟩,by omega,by omega⟩⟩,fun h1=>?_⟩⟩⟩
 ·exact (decide_eq_false fun e=>h (by rw [e])).symm
 ·exact (decide_eq_false fun e=>h2 (by rw [e])).symm
 ·exact (take_eq_step a b [] i (by omega) (by omega) hi.2.2).2 h2
 ·refine (decide_eq_true ?_).symm
  have:=hi.2.2
  rwa [List.take_of_length_le (by omega),List.take_of_length_le (by omega)] at this
theorem likeRows5_fits:Fits Tryz.prog 20 ⟨[],likeRows5_ct⟩:=by
 refine ffn (Γ:=gam likeRows5_G) (gok_cons likeInts_fits gok_nil) Tryz.func20 fun ds p h hp=>?_
 unfold likeRows5_ct at h
 split at h
 ·cases h
  exact ⟨noWr,likeRows5_ann _ _ ,by rw [likeRows5_vc];exact likeRows5_ok _ _  hp⟩
 ·cases h
def cH (code:List Int):List (List Int):=yT (cF code)
def cV (code:List Int):List Int:=(lsS code (cM code).1 (cT code).length ([],0,rlH code 819 code.length)).1
def cS (code:List Int):List (List Int)×Int:=smC (cT code) (cM code).1 (cH code) (cV code)
def cB (code:List Int):List (List Int)×Int:=cbC (cT code) (cM code).1 (cG code)
def cW (code:List Int):List Int×Int:=csC (cT code) (cM code).1 (cB code).1
def cE (code:List Int):List Int×Int:=seC (cT code).length (cM code).1 (cV code)
theorem cbd_z {t:List (List Int)} {m:Int} {g:List Int} (h:(cbC t m g).2=0):tabB t=true∧shiftB (t.length:Int) m g=true∧(cbC t m g).1=tabR t.length (cbF t m g):=by
 unfold cbC at h ⊢
 split at h
 ·rename_i h1
  split at h
  ·rename_i h2
   rw [if_pos h1,if_pos h2]
   exact ⟨h1,h2,rfl⟩
  ·cases h
 ·cases h
theorem cbd_w {t:List (List Int)} {m:Int} {g:List Int} (h:(cbC t m g).2=0):(csC t m (cbC t m g).1).2=0∧cbC t m (csC t m (cbC t m g).1).1=((cbC t m g).1,0)∧(csC t m (cbC t m g).1).1.length=g.length ∧
  ∀i,i<g.length→(∀j,j<i→(csC t m (cbC t m g).1).1.getD j 0=g.getD j 0)→(csC t m (cbC t m g).1).1.getD i 0≤g.getD i 0:=by
 obtain ⟨h1,h2,e⟩:=cbd_z h
 have M:=cb_mat h1 h2
 have L:=(srcN_good h1 M t.length).len
 have G:=(shiftB_of h2).2.2.1
 rw [e,csC_cob h1 h2]
 refine ⟨rfl,?_,by show (srcN t m _ t.length).length=_;omega,fun i hi he=>src_low h1 h2 i (by omega) he⟩
 have k:=cbC_yes h1 (srcN_shift h1 M)
 rw [←src_cob h1 h2,src_cob h1 h2]
 exact Prod.ext (k.1.symm.trans (src_cob h1 h2)) k.2.symm
theorem cbd_rc {t:List (List Int)} {m:Int} {g:List Int} (h:(cbC t m g).2=0):((rcC t m (cbC t m g).1).2=0→(rcC t m (cbC t m g).1).1=true)∧((rcC t m (cbC t m g).1).2=0↔rackB t=true):=by
 obtain ⟨h1,h2,e⟩:=cbd_z h
 have M:=cb_mat h1 h2
 rw [e,rcC]
 by_cases r:rackB t=true
 ·rw [if_pos r,if_pos M];exact ⟨fun _=>cob_rc r h2,fun _=>r,fun _=>rfl⟩
 ·rw [if_neg r];exact ⟨fun h=>(by cases h),fun h=>(by cases h),fun h=>absurd h r⟩
theorem cbd_cc {t:List (List Int)} {m:Int} {g:List Int} (h:(cbC t m g).2=0):((ccC t m (cbC t m g).1).2=0→(ccC t m (cbC t m g).1).1=true)∧((ccC t m (cbC t m g).1).2=0↔cycB t=true):=by
 obtain ⟨h1,h2,e⟩:=cbd_z h
 have M:=cb_mat h1 h2
 rw [e,ccC]
 by_cases r:cycB t=true
 ·rw [if_pos r,if_pos M];exact ⟨fun _=>cob_cc r h2,fun _=>r,fun _=>rfl⟩
 ·rw [if_neg r];exact ⟨fun h=>(by cases h),fun h=>(by cases h),fun h=>absurd h r⟩
theorem cbd_s {t:List (List Int)} {m:Int} {f:List (List Int)} (h:(csC t m f).2=0∨(csC t m f).2=4):tabB t=true∧matB (t.length:Int) m f=true:=by
 unfold csC at h
 split at h
 ·rename_i h1
  split at h
  ·rename_i h2;exact ⟨h1,h2⟩
  ·rcases h with h | h <;> cases h
 ·rcases h with h | h <;> cases h
theorem cV_ok {code:List Int} (hb:bytesB code) (hm:1≤(cM code).1∧(cM code).1≤12):shiftB ((cT code).length:Int) (cM code).1 (cV code)=true:=by
 have L:=drL_len (code:=code) (m:=(cM code).1) (cT code).length ([],0,rlH code 819 code.length) (by show (0:Int)≤0;omega) (by show (0:Int)≤_;omega)
 have G2:=drL_in hb hm.1 (cT code).length ([],0,rlH code 819 code.length) (fun x hx=>(List.not_mem_nil hx).elim)
 exact sh_mk hm (by unfold cV;rw [L.1];simp) G2
theorem cbd_e {code:List Int} (hb:bytesB code) (h1:tabB (cT code)=true) (h2:matB ((cT code).length:Int) (cM code).1 (cH code)=true) (hk:((cT code).length:Int) * (cM code).1≤12) :
  cS code=(tabR (cT code).length (smF (cT code) (cM code).1 (cH code) (cV code)),0)∧cE code=(seL (cT code).length (cM code).1 (cV code),0) ∧
  rnC (exR (cT code) (cM code).1 (cH code)) (cE code).1=(exR (cT code) (cM code).1 (cS code).1,0)∧matB ((cT code).length:Int) (cM code).1 (cS code).1=true:=by
 obtain ⟨m1,m2,m3,hf⟩:=matB_of h2
 have V:=cV_ok hb ⟨m1,m2⟩
 obtain ⟨n1,n2,_⟩:=tabB_of h1
 have V2:numsB ((cT code).length:Int) (cM code).1 (cV code)=true:=by
  rw [shiftB,Bool.and_eq_true] at V;exact V.2
 have eS:cS code=(tabR (cT code).length (smF (cT code) (cM code).1 (cH code) (cV code)),0):=by
  have:=smC_yes h1 ⟨h2,V2⟩
  exact Prod.ext this.1.symm this.2.symm
 have eE:cE code=(seL (cT code).length (cM code).1 (cV code),0):=by
  rw [cE,seC,decide_eq_true (show 1≤((cT code).length:Int)∧((cT code).length:Int)≤12 by omega),V,Bool.and_self,if_pos rfl,if_neg (by omega)]
 refine ⟨eS,eE,?_,by rw [eS];exact sm_mat h1 h2 V⟩
 rw [eS,eE]
 have X:=ex_tab h1 h2 hk
 have L:=tabB_of X
 have P:=se_perm h1 V
 have lE:(exR (cT code) (cM code).1 (cH code)).length=(((cT code).length:Int) * (cM code).1).toNat:=tabR_length _ _
 have lS:=seL_length ((cT code).length:Int) (cM code).1 (cV code)
 have ok:rnOk (exR (cT code) (cM code).1 (cH code)) (seL (cT code).length (cM code).1 (cV code))=true:=by
  rw [rnOk,X,P,decide_eq_true (show 1≤((seL (cT code).length (cM code).1 (cV code)).length:Int)∧((seL (cT code).length (cM code).1 (cV code)).length:Int)≤12 by omega),decide_eq_true (show (seL (cT code).length (cM code).1 (cV code)).length=(exR (cT code) (cM code).1 (cH code)).length by omega)]
  rfl
 rw [rnC,if_pos ok,rn_ext h1 h2 V]
theorem cH_room {code:List Int} (hb:bytesB code):roomR (cH code):=by
 have M:=cM_in hb
 obtain ⟨R,T⟩:=cT_room hb
 have lT:(cT code).length=cN code:=yT_length _
 have s2:=nxA_in (n:=2) M.2.2.1 M.2.2.2
 have K:(cF code).1.length≤13∧∀r∈(cF code).1,r.length≤13:=by
  unfold cF
  split
  ·split
   ·refine ⟨by show (tabR _ _).length≤13;rw [tabR_length];exact T,fun r hr=>?_⟩
    simp only [tabR,List.mem_map] at hr
    obtain ⟨i,_,rfl⟩:=hr
    rw [tab_length];exact T
   ·exact shF_ok T s2.1 s2.2
  ·exact shF_ok T M.2.2.1 M.2.2.2
 refine ⟨by rw [cH,yT_length];omega,fun r hr=>?_⟩
 have:=K.2 r (List.mem_of_mem_drop (List.mem_of_mem_take hr))
 omega
theorem cG_len {code:List Int} (hb:bytesB code):(cG code).length≤13:=by
 obtain ⟨k1,k2,k3,k4,k5⟩:=cY_ok hb
 have M:=cM_in hb
 have Q:=drL_len (code:=code) (m:=(cM code).1) (cN code) ([],(cM code).2) M.2.2.1 M.2.2.2
 have lQ:(cQ code).1.length=cN code:=by unfold cQ;rw [Q.1];show 0+cN code=_;omega
 have n13:cN code≤13:=by unfold cN;omega
 unfold cG
 split
 ·rw [List.length_set];omega
 ·omega
def lCbd_p (code:List Int):Post:=⟨bytesB code,.c (.bool (true)),[]⟩
def lCbd_ct:List AD→Option Post
 | [.c (.ints .u8 (code))]=>some (lCbd_p code)
 | _=>none
def lCbd_ann (code:List Int):Nat→Option Ann
 | 0=>some (Ann.mk ((Nat)) (fun x=>⟨[(0,.c (.ro (.ints .u8 (code)))),(3,.c (.ro (.rows .i64 (cT code)))),(4,.c (.int .i64 ((cM code).1))),(5,.c (.ro (.ints .i64 (cG code)))),(6,.c (.ro (.rows .i64 ((cB code).1)))),(10,.c (.ro (.ints .i64 ((cW code).1)))),(14,.c (.int .i64 ((x:Int))))],[]⟩) (fun x=>x≤(cG code).length∧code.length≤4096∧(cB code).2=0∧(cW code).2=0∧(∀j,j<x→(cW code).1.getD j 0=(cG code).getD j 0)) (fun x=>(cG code).length - x) (fun _=>noAnn))
 | 1019=>some (Ann.mk ((Unit)) (fun u=>⟨[(0,.c (.ro (.ints .u8 (code)))),(3,.c (.ro (.rows .i64 (cT code)))),(4,.c (.int .i64 ((cM code).1))),(6,.c (.ro (.rows .i64 ((cB code).1))))],[]⟩) (fun u=>code.length≤4096∧(cB code).2=0) (fun u=>0) (fun _=>noAnn))
 | 1023=>some (Ann.mk ((Unit)) (fun u=>⟨[(0,.c (.ro (.ints .u8 (code))))],[]⟩) (fun u=>code.length≤4096) (fun u=>0) (fun _=>noAnn))
 | 1030=>some (Ann.mk ((Unit)) (fun u=>⟨[(0,.c (.ro (.ints .u8 (code)))),(19,.c (.ro (.rows .i64 (cT code)))),(20,.c (.int .i64 ((cM code).1))),(21,.c (.ro (.rows .i64 (cH code))))],[]⟩) (fun u=>code.length≤4096∧tabB (cT code)=true∧matB ((cT code).length:Int) (cM code).1 (cH code)=true) (fun u=>0) (fun _=>noAnn))
 | 2=>some (Ann.mk ((Nat)) (fun a=>⟨[(19,.c (.ro (.rows .i64 (cT code)))),(20,.c (.int .i64 ((cM code).1))),(21,.c (.ro (.rows .i64 (cH code)))),(26,.c (.int .i64 (((cT code).length:Int)))),(28,.c (.ro (.rows .i64 ((cS code).1)))),(30,.c (.ro (.ints .i64 ((cE code).1)))),(32,.c (.own (100))),(33,.c (.own (101))),(34,.c (.int .i64 ((a:Int))))],[(100,some (.rows 0 31 2 .i64 ((exR (cT code) (cM code).1 (cH code)).take a))),(101,some (.rows 0 31 2 .i64 ((exR (cT code) (cM code).1 (cS code).1).take a)))]⟩) (fun a=>(a:Int)≤((cT code).length:Int) * (cM code).1∧tabB (cT code)=true∧matB ((cT code).length:Int) (cM code).1 (cH code)=true∧(cS code).2=0∧(cE code).2=0∧((cT code).length:Int) * (cM code).1≤12) (fun a=>(((cT code).length:Int) * (cM code).1).toNat - a) (fun a=>fun b_=>match b_ with | 4=>some (Ann.mk ((Nat)) (fun b=>⟨[(19,.c (.ro (.rows .i64 (cT code)))),(20,.c (.int .i64 ((cM code).1))),(21,.c (.ro (.rows .i64 (cH code)))),(26,.c (.int .i64 (((cT code).length:Int)))),(28,.c (.ro (.rows .i64 ((cS code).1)))),(30,.c (.ro (.ints .i64 ((cE code).1)))),(32,.c (.own (100))),(33,.c (.own (101))),(34,.c (.int .i64 ((a:Int)))),(35,.c (.int .i64 ((a:Int).tdiv (cM code).1))),(36,.c (.own (108))),(37,.c (.own (109))),(38,.c (.int .i64 ((b:Int))))],[(100,some (.rows 0 31 2 .i64 ((exR (cT code) (cM code).1 (cH code)).take a))),(101,some (.rows 0 31 2 .i64 ((exR (cT code) (cM code).1 (cS code).1).take a))),(108,some (.ints 2 .i64 ((tab (((cT code).length:Int) * (cM code).1).toNat fun b=>exI (cT code) (cM code).1 (cH code) (a:Int) (b:Int)).take b))),(109,some (.ints 2 .i64 ((tab (((cT code).length:Int) * (cM code).1).toNat fun b=>exI (cT code) (cM code).1 (cS code).1 (a:Int) (b:Int)).take b)))]⟩) (fun b=>(b:Int)≤((cT code).length:Int) * (cM code).1∧(a:Int)<((cT code).length:Int) * (cM code).1) (fun b=>(((cT code).length:Int) * (cM code).1).toNat - b) (fun _=>noAnn)) | _=>none))
 | _=>none
def lCbd_G:List (Nat×Ctr):=[(5,⟨[],big_ct⟩),(17,⟨[],DrawCob_ct⟩),(18,⟨[],iCob_ct⟩),(19,⟨[],sCob_ct⟩),(20,⟨[],likeRows5_ct⟩),(21,⟨[],iCS_ct⟩),(22,⟨[],iIsRC_ct⟩),(23,⟨[],iIsCC_ct⟩),(24,⟨[],IsRack_ct⟩),(25,⟨[],IsCycleSet_ct⟩),(26,⟨[],DrawCobSrc_ct⟩),(27,⟨[],sCS_ct⟩),(28,⟨[],likeInts_ct⟩),(30,⟨[],roll_ct⟩),(29,⟨[(0,0)],list5_ct⟩),(81,⟨[(0,0)],below_ct⟩),(31,⟨[],iShiftM_ct⟩),(32,⟨[],iSe_ct⟩),(33,⟨[],iRn_ct⟩)]
def lCbd_V1 (code:List Int):Prop :=
 BrP ((ccC (cT code) ((cM code).1) ((cB code).1)).2 == (0:Int)) (BrP (!(ccC (cT code) ((cM code).1) ((cB code).1)).1) ((false=true)∧True) (((roomR (cT code))∧True)∧(BrP (!((rcC (cT code) ((cM code).1) ((cB code).1)).2 == (0:Int)) == rackB (cT code)) ((false=true)∧True) (((roomR (cT code))∧True)∧(BrP (!((ccC (cT code) ((cM code).1) ((cB code).1)).2 == (0:Int)) == cycB (cT code)) ((false=true)∧True) (∃x0:Unit,((code.length≤(4096:Nat))∧(code=code)))))))) (((roomR (cT code))∧True)∧(BrP (!((rcC (cT code) ((cM code).1) ((cB code).1)).2 == (0:Int)) == rackB (cT code)) ((false=true)∧True) (((roomR (cT code))∧True)∧(BrP (!((ccC (cT code) ((cM code).1) ((cB code).1)).2 == (0:Int)) == cycB (cT code)) ((false=true)∧True) (∃x1:Unit,((code.length≤(4096:Nat))∧(code=code)))))))
def lCbd_c1 (code:List Int) (x0:Nat):=((Int.tdiv (↑x0:Int) ((cM code).1)).toNat)
def lCbd_c2 (code:List Int):=(List.take (cN code) (List.drop (((cY code).2).1) ((cY code).1)))
def lCbd_c3 (code:List Int):=(↑((cT code).length):Int)
def lCbd_c4 (code:List Int):=(((lCbd_c3 code) * (cM code).1).toNat)
def lCbd_c5 (code:List Int) (x0:Nat) (x1:Nat):=(Int.tmod (↑x0:Int) ((cM code).1)+(List.getD ((cS code).1) (lCbd_c1 code x1) []).getD (lCbd_c1 code x0) (0:Int))
def lCbd_c6 (code:List Int):=((lsS code ((cM code).1) ((lCbd_c3 code).toNat) ([],(0:Int),rlH code (819:Int) (code.length))).1)
def lCbd_c7 (code:List Int) (x0:Nat) (x1:Nat):=(Int.tmod (↑x0:Int) ((cM code).1)+(List.getD (cH code) (lCbd_c1 code x1) []).getD (lCbd_c1 code x0) (0:Int))
def lCbd_c8 (code:List Int):=(exR (cT code) ((cM code).1) ((cS code).1))
def lCbd_c9 (code:List Int):=(exR (cT code) ((cM code).1) (cH code))
def lCbd_c10 (code:List Int) (x0:Nat):=(Int.tdiv (↑x0:Int) ((cM code).1))
def lCbd_V (code:List Int):Prop :=
 ((True∧True)∧(BrP (decide ((4096:Int)<(↑(code.length):Int))) ((true=true)∧True) ((((bytesB code)∧(code.length≤(4096:Nat)))∧True)∧((((roomR (lCbd_c2 code))∧((cG code).length≤(1099511627776:Nat)))∧True)∧((((roomR (lCbd_c2 code))∧((cG code).length≤(1099511627776:Nat)))∧True)∧(BrP ((cbC (List.take (cN code) (List.drop (((cY code).2).1) ((cY code).1))) ((cM code).1) (cG code)).2 != (cbC (List.take (cN code) (List.drop (((cY code).2).1) ((cY code).1))) ((cM code).1) (cG code)).2) ((false=true)∧True) (((roomR ((cbC (lCbd_c2 code) ((cM code).1) (cG code)).1))∧True)∧(BrP (!decide ((cbC (List.take (cN code) (List.drop (((cY code).2).1) ((cY code).1))) ((cM code).1) (cG code)).1=(cbC (List.take (cN code) (List.drop (((cY code).2).1) ((cY code).1))) ((cM code).1) (cG code)).1)) ((false=true)∧True) ((BrP ((cbC (List.take (cN code) (List.drop (((cY code).2).1) ((cY code).1))) ((cM code).1) (cG code)).2 == (0:Int)) ((((roomR (lCbd_c2 code))∧(roomR ((cbC (lCbd_c2 code) ((cM code).1) (cG code)).1)))∧True)∧((((roomR (lCbd_c2 code))∧(((csC (lCbd_c2 code) ((cM code).1) ((cbC (lCbd_c2 code) ((cM code).1) (cG code)).1)).1).length≤(1099511627776:Nat)))∧True)∧(BrP ((csC (List.take (cN code) (List.drop (((cY code).2).1) ((cY code).1))) ((cM code).1) ((cbC (List.take (cN code) (List.drop (((cY code).2).1) ((cY code).1))) ((cM code).1) (cG code)).1)).2 != (0:Int)) ((false=true)∧True)
 (BrP ((cbC (List.take (cN code) (List.drop (((cY code).2).1) ((cY code).1))) ((cM code).1) ((csC (List.take (cN code) (List.drop (((cY code).2).1) ((cY code).1))) ((cM code).1) ((cbC (List.take (cN code) (List.drop (((cY code).2).1) ((cY code).1))) ((cM code).1) (cG code)).1)).1)).2 != (0:Int)) ((false=true)∧True) (BrP ((↑(((csC (List.take (cN code) (List.drop (((cY code).2).1) ((cY code).1))) ((cM code).1) ((cbC (List.take (cN code) (List.drop (((cY code).2).1) ((cY code).1))) ((cM code).1) (cG code)).1)).1).length):Int) != (↑((cG code).length):Int)) ((false=true)∧True) (((roomR ((cbC (lCbd_c2 code) ((cM code).1) ((csC (lCbd_c2 code) ((cM code).1) ((cbC (lCbd_c2 code) ((cM code).1) (cG code)).1)).1)).1))∧True)∧(BrP (!decide ((cbC (List.take (cN code) (List.drop (((cY code).2).1) ((cY code).1))) ((cM code).1) ((csC (List.take (cN code) (List.drop (((cY code).2).1) ((cY code).1))) ((cM code).1) ((cbC (List.take (cN code) (List.drop (((cY code).2).1) ((cY code).1))) ((cM code).1) (cG code)).1)).1)).1=(cbC (List.take (cN code) (List.drop (((cY code).2).1) ((cY code).1))) ((cM code).1) (cG code)).1)) ((false=true)∧True) (((∃x0:Nat,(((x0≤(cG code).length)∧((code.length≤(4096:Nat))∧(((cB code).2=(0:Int))∧(((cW code).2=(0:Int))∧(∀(j:Nat),j<x0→((cW code).1).getD j (0:Int)=(cG code).getD j (0:Int))))))∧((code=code)∧((List.take (cN code) (List.drop (((cY code).2).1) ((cY code).1))=cT code)∧(((cM code).1=(cM code).1)∧((cG code=cG code) ∧
 (((cbC (lCbd_c2 code) ((cM code).1) (cG code)).1=(cB code).1)∧(((csC (lCbd_c2 code) ((cM code).1) ((cbC (lCbd_c2 code) ((cM code).1) (cG code)).1)).1=(cW code).1)∧((0:Int)=(↑x0:Int))))))))))∧(∀x1:Nat,(((x1≤(cG code).length)∧((code.length≤(4096:Nat))∧(((cB code).2=(0:Int))∧(((cW code).2=(0:Int))∧(∀(j:Nat),j<x1→((cW code).1).getD j (0:Int)=(cG code).getD j (0:Int))))))→(BrP (decide ((↑x1:Int)<(↑((cG code).length):Int))) ((inB (↑x1:Int) (((cW code).1).length))∧((inB (↑x1:Int) ((cG code).length))∧(BrP (((cW code).1).getD ((↑x1:Int).toNat) (0:Int) != (cG code).getD ((↑x1:Int).toNat) (0:Int)) ((inB (↑x1:Int) (((cW code).1).length))∧((inB (↑x1:Int) ((cG code).length))∧(BrP (decide ((cG code).getD ((↑x1:Int).toNat) (0:Int)<((cW code).1).getD ((↑x1:Int).toNat) (0:Int))) ((false=true)∧True) (∃x2:Unit,(((code.length≤(4096:Nat))∧((cB code).2=(0:Int)))∧((code=code)∧((cT code=cT code)∧(((cM code).1=(cM code).1)∧((cB code).1=(cB code).1))))))))) ((InR ((↑x1:Int)+(1:Int)))∧(∃x3:Nat,(((x3≤(cG code).length)∧((code.length≤(4096:Nat))∧(((cB code).2=(0:Int))∧(((cW code).2=(0:Int))∧(∀(j:Nat),j<x3→((cW code).1).getD j (0:Int)=(cG code).getD j (0:Int))))))∧(((cG code).length - x3<(cG code).length - x1)∧((code=code)∧((cT code=cT code)∧(((cM code).1=(cM code).1)∧((cG code=cG code)∧(((cB code).1=(cB code).1)∧(((cW code).1=(cW code).1)∧((↑x1:Int)+(1:Int)=(↑x3:Int)))))))))))))))
 (∃x4:Unit,(((code.length≤(4096:Nat))∧((cB code).2=(0:Int)))∧((code=code)∧((cT code=cT code)∧(((cM code).1=(cM code).1)∧((cB code).1=(cB code).1))))))))))∧(∀x5:Unit,(((code.length≤(4096:Nat))∧((cB code).2=(0:Int)))→((((roomR (cT code))∧(roomR ((cB code).1)))∧True)∧((((roomR (cT code))∧(roomR ((cB code).1)))∧True)∧(BrP ((rcC (cT code) ((cM code).1) ((cB code).1)).2 == (0:Int)) (BrP (!(rcC (cT code) ((cM code).1) ((cB code).1)).1) ((false=true)∧True) (lCbd_V1 code)) (lCbd_V1 code)))))))))))))) (∃x10:Unit,((code.length≤(4096:Nat))∧(code=code))))∧(∀x11:Unit,((code.length≤(4096:Nat))→((((bytesB code)∧(code.length≤(4096:Nat)))∧True)∧((((roomR (lCbd_c2 code))∧(roomR (List.take (cK code) (List.drop (((cF code).2).1) ((cF code).1)))))∧True)∧((((roomR (lCbd_c2 code))∧(roomR (List.take (cK code) (List.drop (((cF code).2).1) ((cF code).1)))))∧True)∧(BrP ((csC (List.take (cN code) (List.drop (((cY code).2).1) ((cY code).1))) ((cM code).1) (List.take (cK code) (List.drop (((cF code).2).1) ((cF code).1)))).2 != (csC (List.take (cN code) (List.drop (((cY code).2).1) ((cY code).1))) ((cM code).1) (List.take (cK code) (List.drop (((cF code).2).1) ((cF code).1)))).2) ((false=true)∧True) (((room (((csC (lCbd_c2 code) ((cM code).1) (List.take (cK code) (List.drop (((cF code).2).1) ((cF code).1)))).1).length))∧True) ∧
 (BrP (!decide ((csC (List.take (cN code) (List.drop (((cY code).2).1) ((cY code).1))) ((cM code).1) (List.take (cK code) (List.drop (((cF code).2).1) ((cF code).1)))).1=(csC (List.take (cN code) (List.drop (((cY code).2).1) ((cY code).1))) ((cM code).1) (List.take (cK code) (List.drop (((cF code).2).1) ((cF code).1)))).1)) ((false=true)∧True) ((BrP ((csC (List.take (cN code) (List.drop (((cY code).2).1) ((cY code).1))) ((cM code).1) (List.take (cK code) (List.drop (((cF code).2).1) ((cF code).1)))).2 != (0:Int)) (BrP ((csC (List.take (cN code) (List.drop (((cY code).2).1) ((cY code).1))) ((cM code).1) (List.take (cK code) (List.drop (((cF code).2).1) ((cF code).1)))).2 != (4:Int)) ((true=true)∧True) (∃x12:Unit,(((code.length≤(4096:Nat))∧((tabB (cT code)=true)∧(matB (lCbd_c3 code) ((cM code).1) (cH code)=true)))∧((code=code)∧((List.take (cN code) (List.drop (((cY code).2).1) ((cY code).1))=cT code)∧(((cM code).1=(cM code).1)∧(List.take (cK code) (List.drop (((cF code).2).1) ((cF code).1))=cH code))))))) (∃x13:Unit,(((code.length≤(4096:Nat))∧((tabB (cT code)=true)∧(matB (lCbd_c3 code) ((cM code).1) (cH code)=true)))∧((code=code)∧((List.take (cN code) (List.drop (((cY code).2).1) ((cY code).1))=cT code)∧(((cM code).1=(cM code).1)∧(List.take (cK code) (List.drop (((cF code).2).1) ((cF code).1))=cH code)))))))∧(∀x14:Unit,(((code.length≤(4096:Nat))∧((tabB (cT code)=true)∧(matB (lCbd_c3 code) ((cM code).1) (cH code)=true))) →
 ((InR ((lCbd_c3 code) * (cM code).1))∧(BrP (decide ((12:Int)<(↑((cT code).length):Int) * (cM code).1)) ((true=true)∧True) ((((bytesB code)∧(code.length≤(4096:Nat)))∧True)∧((((bytesB code)∧(((0:Int)≤(0:Int))∧(((0:Int)≤(↑(code.length):Int))∧((code.length≤(4096:Nat))∧(((lCbd_c3 code)≤(1000000:Int))∧((1:Int)≤(cM code).1))))))∧((code=code)∧True))∧((((roomR (cT code))∧((roomR (cH code))∧((lCbd_c6 code).length≤(1099511627776:Nat))))∧True)∧(((room ((lCbd_c6 code).length))∧True)∧(BrP ((smC (cT code) ((cM code).1) (cH code) ((lsS code ((cM code).1) ((↑((cT code).length):Int).toNat) ([],(0:Int),rlH code (819:Int) (code.length))).1)).2 != (0:Int)) ((false=true)∧True) (BrP ((seC (↑((cT code).length):Int) ((cM code).1) ((lsS code ((cM code).1) ((↑((cT code).length):Int).toNat) ([],(0:Int),rlH code (819:Int) (code.length))).1)).2 != (0:Int)) ((false=true)∧True) (BrP ((↑(((smC (cT code) ((cM code).1) (cH code) ((lsS code ((cM code).1) ((↑((cT code).length):Int).toNat) ([],(0:Int),rlH code (819:Int) (code.length))).1)).1).length):Int) != (↑((cT code).length):Int)) ((false=true)∧True) ((InR ((lCbd_c3 code) * (cM code).1))∧(BrP ((↑(((seC (↑((cT code).length):Int) ((cM code).1) ((lsS code ((cM code).1) ((↑((cT code).length):Int).toNat) ([],(0:Int),rlH code (819:Int) (code.length))).1)).1).length):Int) != (↑((cT code).length):Int) * (cM code).1) ((false=true)∧True) ((∃x15:Nat,((((↑x15:Int)≤(lCbd_c3 code) * (cM code).1)∧((tabB (cT code)=true) ∧
 ((matB (lCbd_c3 code) ((cM code).1) (cH code)=true)∧(((cS code).2=(0:Int))∧(((cE code).2=(0:Int))∧((lCbd_c3 code) * (cM code).1≤(12:Int)))))))∧((cT code=cT code)∧(((cM code).1=(cM code).1)∧((cH code=cH code)∧(((lCbd_c3 code)=(lCbd_c3 code))∧(((smC (cT code) ((cM code).1) (cH code) (lCbd_c6 code)).1=(cS code).1)∧(((seC (lCbd_c3 code) ((cM code).1) (lCbd_c6 code)).1=(cE code).1)∧(((0:Int)=(↑x15:Int))∧(([]=List.take x15 (lCbd_c9 code))∧([]=List.take x15 (lCbd_c8 code))))))))))))∧(∀x16:Nat,((((↑x16:Int)≤(lCbd_c3 code) * (cM code).1)∧((tabB (cT code)=true)∧((matB (lCbd_c3 code) ((cM code).1) (cH code)=true)∧(((cS code).2=(0:Int))∧(((cE code).2=(0:Int))∧((lCbd_c3 code) * (cM code).1≤(12:Int)))))))→((InR ((lCbd_c3 code) * (cM code).1))∧(BrP (decide ((↑x16:Int)<(↑((cT code).length):Int) * (cM code).1)) ((((cM code).1≠(0:Int))∧(InR (lCbd_c10 code x16)))∧((inB (lCbd_c10 code x16) (((cS code).1).length))∧(BrP ((↑((((cS code).1).getD ((Int.tdiv (↑x16:Int) ((cM code).1)).toNat) []).length):Int) != (↑((cT code).length):Int)) ((false=true)∧True) ((∃x17:Nat,((((↑x17:Int)≤(lCbd_c3 code) * (cM code).1)∧((↑x16:Int)<(lCbd_c3 code) * (cM code).1))∧((cT code=cT code)∧(((cM code).1=(cM code).1)∧((cH code=cH code)∧(((lCbd_c3 code)=(lCbd_c3 code))∧(((cS code).1=(cS code).1)∧(((cE code).1=(cE code).1)∧(((↑x16:Int)=(↑x16:Int))∧((Int.tdiv (↑x16:Int) ((cM code).1)=Int.tdiv (↑x16:Int) ((cM code).1))∧(((0:Int)=(↑x17:Int)) ∧
 ((List.take x16 (lCbd_c9 code)=List.take x16 (lCbd_c9 code))∧((List.take x16 (lCbd_c8 code)=List.take x16 (lCbd_c8 code))∧(([]=List.take x17 (tab (lCbd_c4 code) fun (b:Nat)=>exI (cT code) ((cM code).1) (cH code) (↑x16:Int) (↑b:Int)))∧([]=List.take x17 (tab (lCbd_c4 code) fun (b:Nat)=>exI (cT code) ((cM code).1) ((cS code).1) (↑x16:Int) (↑b:Int)))))))))))))))))∧(∀x18:Nat,((((↑x18:Int)≤(lCbd_c3 code) * (cM code).1)∧((↑x16:Int)<(lCbd_c3 code) * (cM code).1))→((InR ((lCbd_c3 code) * (cM code).1))∧(BrP (decide ((↑x18:Int)<(↑((cT code).length):Int) * (cM code).1)) ((((cM code).1≠(0:Int))∧(InR (lCbd_c10 code x18)))∧((inB (lCbd_c10 code x16) ((cT code).length))∧((inB (lCbd_c10 code x18) (((cT code).getD (lCbd_c1 code x16) []).length))∧((InR ((List.getD (cT code) (lCbd_c1 code x16) []).getD (lCbd_c1 code x18) (0:Int) * (cM code).1))∧(((cM code).1≠(0:Int))∧((inB (lCbd_c10 code x16) ((cH code).length))∧((inB (lCbd_c10 code x18) (((cH code).getD (lCbd_c1 code x16) []).length))∧((InR (lCbd_c7 code x18 x16))∧(((cM code).1≠(0:Int))∧((InR ((List.getD (cT code) (lCbd_c1 code x16) []).getD (lCbd_c1 code x18) (0:Int) * (cM code).1+Int.tmod (lCbd_c7 code x18 x16) ((cM code).1)))∧((room ((List.take x18 (tab (lCbd_c4 code) fun (b:Nat)=>exI (cT code) ((cM code).1) (cH code) (↑x16:Int) (↑b:Int))).length+[(List.getD (cT code) (lCbd_c1 code x16) []).getD (lCbd_c1 code x18) (0:Int) * (cM code).1+Int.tmod (lCbd_c7 code x18 x16) ((cM code).1)].length)) ∧
 ((inB (lCbd_c10 code x16) ((cT code).length))∧((inB (lCbd_c10 code x18) (((cT code).getD (lCbd_c1 code x16) []).length))∧((InR ((List.getD (cT code) (lCbd_c1 code x16) []).getD (lCbd_c1 code x18) (0:Int) * (cM code).1))∧(((cM code).1≠(0:Int))∧((inB (lCbd_c10 code x16) (((cS code).1).length))∧((inB (lCbd_c10 code x18) ((((cS code).1).getD (lCbd_c1 code x16) []).length))∧((InR (lCbd_c5 code x18 x16))∧(((cM code).1≠(0:Int))∧((InR ((List.getD (cT code) (lCbd_c1 code x16) []).getD (lCbd_c1 code x18) (0:Int) * (cM code).1+Int.tmod (lCbd_c5 code x18 x16) ((cM code).1)))∧((room ((List.take x18 (tab (lCbd_c4 code) fun (b:Nat)=>exI (cT code) ((cM code).1) ((cS code).1) (↑x16:Int) (↑b:Int))).length+[(List.getD (cT code) (lCbd_c1 code x16) []).getD (lCbd_c1 code x18) (0:Int) * (cM code).1+Int.tmod (lCbd_c5 code x18 x16) ((cM code).1)].length))∧((InR ((↑x18:Int)+(1:Int)))∧(∃x19:Nat,((((↑x19:Int)≤(lCbd_c3 code) * (cM code).1)∧((↑x16:Int)<(lCbd_c3 code) * (cM code).1))∧((((lCbd_c3 code) * (cM code).1).toNat - x19<((lCbd_c3 code) * (cM code).1).toNat - x18)∧((cT code=cT code)∧(((cM code).1=(cM code).1)∧((cH code=cH code)∧(((lCbd_c3 code)=(lCbd_c3 code))∧(((cS code).1=(cS code).1)∧(((cE code).1=(cE code).1)∧(((↑x16:Int)=(↑x16:Int))∧((Int.tdiv (↑x16:Int) ((cM code).1)=Int.tdiv (↑x16:Int) ((cM code).1))∧(((↑x18:Int)+(1:Int)=(↑x19:Int))∧((List.take x16 (lCbd_c9 code)=List.take x16 (lCbd_c9 code)) ∧
 ((List.take x16 (lCbd_c8 code)=List.take x16 (lCbd_c8 code))∧((List.take x18 (tab (lCbd_c4 code) fun (b:Nat)=>exI (cT code) ((cM code).1) (cH code) (↑x16:Int) (↑b:Int))++[(List.getD (cT code) (lCbd_c1 code x16) []).getD (lCbd_c1 code x18) (0:Int) * (cM code).1+Int.tmod (lCbd_c7 code x18 x16) ((cM code).1)]=List.take x19 (tab (lCbd_c4 code) fun (b:Nat)=>exI (cT code) ((cM code).1) (cH code) (↑x16:Int) (↑b:Int)))∧(List.take x18 (tab (lCbd_c4 code) fun (b:Nat)=>exI (cT code) ((cM code).1) ((cS code).1) (↑x16:Int) (↑b:Int))++[(List.getD (cT code) (lCbd_c1 code x16) []).getD (lCbd_c1 code x18) (0:Int) * (cM code).1+Int.tmod (lCbd_c5 code x18 x16) ((cM code).1)]=List.take x19 (tab (lCbd_c4 code) fun (b:Nat)=>exI (cT code) ((cM code).1) ((cS code).1) (↑x16:Int) (↑b:Int)))))))))))))))))))))))))))))))))))))))) ((room ((List.take x16 (lCbd_c9 code)).length+[List.take x18 (tab (lCbd_c4 code) fun (b:Nat)=>exI (cT code) ((cM code).1) (cH code) (↑x16:Int) (↑b:Int))].length))∧((room ((List.take x16 (lCbd_c8 code)).length+[List.take x18 (tab (lCbd_c4 code) fun (b:Nat)=>exI (cT code) ((cM code).1) ((cS code).1) (↑x16:Int) (↑b:Int))].length))∧((InR ((↑x16:Int)+(1:Int)))∧(∃x20:Nat,((((↑x20:Int)≤(lCbd_c3 code) * (cM code).1)∧((tabB (cT code)=true)∧((matB (lCbd_c3 code) ((cM code).1) (cH code)=true)∧(((cS code).2=(0:Int))∧(((cE code).2=(0:Int))∧((lCbd_c3 code) * (cM code).1≤(12:Int))))))) ∧
 ((((lCbd_c3 code) * (cM code).1).toNat - x20<((lCbd_c3 code) * (cM code).1).toNat - x16)∧((cT code=cT code)∧(((cM code).1=(cM code).1)∧((cH code=cH code)∧(((lCbd_c3 code)=(lCbd_c3 code))∧(((cS code).1=(cS code).1)∧(((cE code).1=(cE code).1)∧(((↑x16:Int)+(1:Int)=(↑x20:Int))∧((List.take x16 (lCbd_c9 code)++[List.take x18 (tab (lCbd_c4 code) fun (b:Nat)=>exI (cT code) ((cM code).1) (cH code) (↑x16:Int) (↑b:Int))]=List.take x20 (lCbd_c9 code))∧(List.take x16 (lCbd_c8 code)++[List.take x18 (tab (lCbd_c4 code) fun (b:Nat)=>exI (cT code) ((cM code).1) ((cS code).1) (↑x16:Int) (↑b:Int))]=List.take x20 (lCbd_c8 code)))))))))))))))))))))))) ((((roomR (List.take x16 (lCbd_c9 code)))∧(((cE code).1).length≤(1099511627776:Nat)))∧True)∧(BrP ((rnC (List.take x16 (exR (cT code) ((cM code).1) (cH code))) ((cE code).1)).2 == (0:Int)) (((roomR ((rnC (List.take x16 (lCbd_c9 code)) ((cE code).1)).1))∧True)∧((decide ((rnC (List.take x16 (exR (cT code) ((cM code).1) (cH code))) ((cE code).1)).1=List.take x16 (exR (cT code) ((cM code).1) ((cS code).1)))=true)∧True)) ((false=true)∧True)))))))))))))))))))))))))))))))))))))))
theorem lCbd_vc (code:List Int):runF Tryz.prog (gam lCbd_G) noWr (lCbd_ann code) Tryz.f4 (bodyOf Tryz.f4) [] [.c (.ints .u8 (code))] (lCbd_p code)=lCbd_V code:=by kernel_rfl
set_option maxHeartbeats 1000000 in
theorem lCbd_ok (code:List Int) (hpre:(lCbd_p code).pre):lCbd_V code:=by
 simp only [lCbd_p,lCbd_V,lCbd_V1,lCbd_c1,lCbd_c2,lCbd_c3,lCbd_c4,lCbd_c5,lCbd_c6,lCbd_c7,lCbd_c8,lCbd_c9,lCbd_c10,BrP_iff,u1,u2,u3,u4,u5,u6,u7,u8,u9,v1,v2,v3,v4,v5,v6,v7,v8,v9,w1,w2,w3,w4,markL_length,inB,InR,room,bdsOk] at hpre ⊢
 have eT:List.take (cN code) (List.drop (cY code).2.1 (cY code).1)=cT code:=rfl
 have eH:List.take (cK code) (List.drop (cF code).2.1 (cF code).1)=cH code:=rfl
 have eB:cbC (cT code) (cM code).1 (cG code)=cB code:=rfl
 have eW:csC (cT code) (cM code).1 (cB code).1=cW code:=rfl
 have eV:(lsS code (cM code).1 (cT code).length ([],0,rlH code 819 code.length)).1=cV code:=rfl
 have eS:smC (cT code) (cM code).1 (cH code) (cV code)=cS code:=rfl
 have eE:seC (cT code).length (cM code).1 (cV code)=cE code:=rfl
 simp only [eT,eH,eB,eW,eV,eS,eE]
 have RT:=cT_room hpre
 have RH:=cH_room hpre
 have LG:=cG_len hpre
 have RB:=cbC_room (cT code) (cM code).1 (cG code)
 rw [eB] at RB
 refine ⟨fun _=>trivial,fun hc=>⟨⟨hpre,by omega⟩,⟨RT.1,by omega⟩,⟨RT.1,by omega⟩,fun h=>absurd rfl h,fun _=>⟨RB,fun h=>absurd trivial h,fun _=>⟨⟨fun z=>?_,fun _=>⟨(),by omega⟩⟩,fun _ _=>?_⟩⟩⟩⟩
 ·have W:(cbC (cT code) (cM code).1 (cG code)).2=0:=z
  obtain ⟨w1,w2,w3,w4⟩:=cbd_w W
  obtain ⟨r1,r2⟩:=cbd_rc W
  obtain ⟨c1,c2⟩:=cbd_cc W
  simp only [eB,eW] at w1 w2 w3 w4 r1 r2 c1 c2
  have Lr:((rcC (cT code) (cM code).1 (cB code).1).2 == 0)=rackB (cT code):=by rw [Bool.eq_iff_iff,beq_iff_eq];exact r2
  have Lc:((ccC (cT code) (cM code).1 (cB code).1).2 == 0)=cycB (cT code):=by rw [Bool.eq_iff_iff,beq_iff_eq];exact c2
  have hc4:code.length≤4096:=by omega
  have ne:∀b:Bool,b=true→b=false→false=true:=fun b h1 h2=>by rw [h1] at h2;cases h2
  rw [w2]
  refine ⟨⟨RT.1,RB⟩,⟨RT.1,by omega⟩,fun h=>absurd w1 h,fun _=>⟨fun h=>absurd rfl h,fun _=>⟨fun h=>absurd (by omega) h,fun _=>⟨RB,fun h=>absurd rfl h,fun _=>⟨⟨⟨0,⟨Nat.zero_le _,hc4,z,w1,fun j hj=>by omega⟩,trivial,trivial,trivial,rfl⟩,
   fun i ⟨hi,_,_,_,he⟩=>⟨fun hl=>⟨by omega,by omega,fun _=>⟨by omega,by omega,fun h=>?_,fun _=>⟨(),hc4,z⟩⟩,fun e=>⟨by omega,i+1,⟨by omega,hc4,z,w1,fun j hj=>?_⟩,by omega,by omega⟩⟩,fun _=>⟨(),hc4,z⟩⟩⟩,
   fun _ _=>⟨⟨RT.1,RB⟩,⟨RT.1,RB⟩,fun y=>⟨ne _ (r1 y),fun _=>⟨fun y2=>⟨ne _ (c1 y2),fun _=>?_⟩,fun _=>?_⟩⟩,fun y=>⟨fun y2=>⟨ne _ (c1 y2),fun _=>?_⟩,fun _=>?_⟩⟩⟩⟩⟩⟩⟩
  ·have:=w4 i (by omega) he;omega
  ·by_cases e2:j=i
   ·rw [e2];exact e
   ·exact he j (by omega)
  ·exact ⟨RT.1,fun h=>absurd Lr h,fun _=>⟨RT.1,fun h=>absurd Lc h,fun _=>⟨(),hc4⟩⟩⟩
  ·exact ⟨RT.1,fun h=>absurd Lr h,fun _=>⟨RT.1,fun h=>absurd Lc h,fun _=>⟨(),hc4⟩⟩⟩
  ·exact ⟨RT.1,fun h=>absurd Lr h,fun _=>⟨RT.1,fun h=>absurd Lc h,fun _=>⟨(),hc4⟩⟩⟩
  ·exact ⟨RT.1,fun h=>absurd Lr h,fun _=>⟨RT.1,fun h=>absurd Lc h,fun _=>⟨(),hc4⟩⟩⟩
 have hc4:code.length≤4096:=by omega
 have LC:=csC_len (cT code) (cM code).1 (cH code)
 refine ⟨⟨hpre,hc4⟩,⟨RT.1,RH⟩,⟨RT.1,RH⟩,fun h=>absurd rfl h,fun _=>⟨by omega,fun h=>absurd trivial h,fun _=>⟨⟨fun _=>⟨fun _=>trivial,fun z=>⟨(),⟨hc4,cbd_s (.inr z)⟩,trivial,trivial⟩⟩,fun z=>⟨(),⟨hc4,cbd_s (.inl z)⟩,trivial,trivial⟩⟩,fun _ ⟨_,ht,hm⟩=>?_⟩⟩⟩
 obtain ⟨nm0,nm1⟩:=nm_in ht hm
 obtain ⟨n1,n2,htt⟩:=tabB_of ht
 have mf:=matB_of hm
 refine ⟨by omega,fun _=>trivial,fun k=>?_⟩
 obtain ⟨s1,s2,s3,s4⟩:=cbd_e hpre ht hm (by omega)
 have V:=cV_ok hpre (by omega)
 have lV:=(shiftB_of V).2.2.1
 have mS:=matB_of s4
 have lE:(cE code).1.length=(((cT code).length:Int) * (cM code).1).toNat:=by rw [s2];exact seL_length _ _ _
 have e1:(exR (cT code) (cM code).1 (cH code)).length=(((cT code).length:Int) * (cM code).1).toNat:=tabR_length _ _
 have e2:(exR (cT code) (cM code).1 (cS code).1).length=(((cT code).length:Int) * (cM code).1).toNat:=tabR_length _ _
 have zS:(cS code).2=0:=by rw [s1]
 have zE:(cE code).2=0:=by rw [s2]
 refine ⟨⟨hpre,hc4⟩,⟨hpre,by omega,by omega,hc4,by omega,by omega⟩,⟨RT.1,RH,by omega⟩,by omega,fun h=>absurd zS h,fun _=>⟨fun h=>absurd zE h,fun _=>⟨fun h=>absurd (by omega) h,fun _=>⟨by omega,fun h=>absurd (by omega) h,fun _=>⟨⟨0,⟨by omega,ht,hm,zS,zE,by omega⟩,trivial,trivial,rfl,by simp,by simp⟩,fun a ⟨ha,_⟩=>⟨by omega,fun hl=>?_,fun hl=>?_⟩⟩⟩⟩⟩⟩
 ·have qa:=ex_in ht hm (x:=(a:Int)) (y:=(a:Int)) (by omega) hl (by omega) hl
  have rS:=(mS.2.2.2 ((a:Int).tdiv (cM code).1).toNat (by omega)).1
  refine ⟨by omega,by omega,fun h=>absurd rS h,fun _=>⟨⟨0,⟨by omega,hl⟩,rfl,by simp,by simp⟩,fun b ⟨hb,_⟩=>⟨by omega,fun hl2=>?_,fun hl2=>?_⟩⟩⟩
  ·have q:=ex_in ht hm (x:=(a:Int)) (y:=(b:Int)) (by omega) hl (by omega) hl2
   have q':=ex_in ht s4 (x:=(a:Int)) (y:=(b:Int)) (by omega) hl (by omega) hl2
   have lr:(tab (((cT code).length:Int) * (cM code).1).toNat fun b=>exI (cT code) (cM code).1 (cH code) (a:Int) (b:Int)).length=(((cT code).length:Int) * (cM code).1).toNat:=tab_length _ _
   have lr2:(tab (((cT code).length:Int) * (cM code).1).toNat fun b=>exI (cT code) (cM code).1 (cS code).1 (a:Int) (b:Int)).length=(((cT code).length:Int) * (cM code).1).toNat:=tab_length _ _
   refine ⟨by omega,by omega,by omega,by omega,by omega,by omega,by omega,by omega,by omega,by omega,by omega,by omega,by omega,by omega,by omega,by omega,by omega,by omega,by omega,by omega,by omega,by omega,b+1,⟨by omega,hl⟩,by omega,by omega,?_,?_⟩
   ·rw [←take_snoc _ 0 b (by omega),tab_getD _ _ _ (by omega)];rfl
   ·rw [←take_snoc _ 0 b (by omega),tab_getD _ _ _ (by omega)];rfl
  ·have lr:(tab (((cT code).length:Int) * (cM code).1).toNat fun b=>exI (cT code) (cM code).1 (cH code) (a:Int) (b:Int)).length=(((cT code).length:Int) * (cM code).1).toNat:=tab_length _ _
   have lr2:(tab (((cT code).length:Int) * (cM code).1).toNat fun b=>exI (cT code) (cM code).1 (cS code).1 (a:Int) (b:Int)).length=(((cT code).length:Int) * (cM code).1).toNat:=tab_length _ _
   refine ⟨by omega,by omega,by omega,a+1,⟨by omega,ht,hm,zS,zE,by omega⟩,by omega,by omega,?_,?_⟩
   ·rw [←take_snoc (exR (cT code) (cM code).1 (cH code)) [] a (by omega),show (exR (cT code) (cM code).1 (cH code)).getD a []=tab (((cT code).length:Int) * (cM code).1).toNat fun b=>exI (cT code) (cM code).1 (cH code) (a:Int) (b:Int) from tabR_getD _ _ _ (by omega),List.take_of_length_le (i:=b) (by omega)]
   ·rw [←take_snoc (exR (cT code) (cM code).1 (cS code).1) [] a (by omega),show (exR (cT code) (cM code).1 (cS code).1).getD a []=tab (((cT code).length:Int) * (cM code).1).toNat fun b=>exI (cT code) (cM code).1 (cS code).1 (a:Int) (b:Int) from tabR_getD _ _ _ (by omega),List.take_of_length_le (i:=b) (by omega)]
 ·have ea:List.take a (exR (cT code) (cM code).1 (cH code))=exR (cT code) (cM code).1 (cH code):=List.take_of_length_le (by omega)
  have eb:List.take a (exR (cT code) (cM code).1 (cS code).1)=exR (cT code) (cM code).1 (cS code).1:=List.take_of_length_le (by omega)
  rw [ea,eb,s3]
  exact ⟨⟨tabR_room _ _ (by omega),by omega⟩,fun _=>⟨tabR_room _ _ (by omega),rfl⟩,fun h=>absurd rfl h⟩
theorem lCbd_fits:Fits Tryz.prog 4 ⟨[],lCbd_ct⟩:=by
 refine ffn (Γ:=gam lCbd_G) (gok_cons big_fits (gok_cons DrawCob_fits (gok_cons iCob_fits (gok_cons sCob_fits (gok_cons likeRows5_fits (gok_cons iCS_fits (gok_cons iIsRC_fits (gok_cons iIsCC_fits (gok_cons IsRack_fits (gok_cons IsCycleSet_fits (gok_cons DrawCobSrc_fits (gok_cons sCS_fits (gok_cons likeInts_fits (gok_cons roll_fits (gok_cons list5_fits (gok_cons below_fits (gok_cons iShiftM_fits (gok_cons iSe_fits (gok_cons iRn_fits gok_nil))))))))))))))))))) Tryz.func4 fun ds p h hp=>?_
 unfold lCbd_ct at h
 split at h
 ·cases h
  exact ⟨noWr,lCbd_ann _ ,by rw [lCbd_vc];exact lCbd_ok _  hp⟩
 ·cases h
end Go.Sx
