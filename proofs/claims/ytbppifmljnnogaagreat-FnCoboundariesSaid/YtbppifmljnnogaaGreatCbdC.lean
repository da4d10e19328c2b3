/- CbdC -/
import Derived.Test.YtbppifmljnnogaaGreatCbdB
import Derived.Test.YtbppifmljnnogaaGreatMat
open Go Go.Proofs
namespace Go.Sx
set_option linter.unusedSimpArgs false
set_option linter.unusedVariables false
def cY (code:List Int):Dy:=anD code 0 (frH code code.length)
def cN (code:List Int):Nat:=(cY code).1.length - (cY code).2.1
def cM (code:List Int):Int×Int×Int:=moD code (cY code).2.2.1 (cY code).2.2.2 (cN code:Int)
def cQ (code:List Int):List Int×Int×Int:=lsS code (cM code).1 (cN code) ([],(cM code).2)
def cG (code:List Int):List Int :=
 if 0<cN code∧nxV code (cQ code).2.1 (cQ code).2.2 16=0 then (cQ code).1.set 0 ([-1,(cM code).1].getD (nxV code (nxA code.length (cQ code).2.1 16) (nxH (cQ code).2.2 16) 2).toNat 0) else (cQ code).1
def cT (code:List Int):List (List Int):=yT (cY code)
def cF (code:List Int):Dy :=
 if tabB (cT code)=true∧1≤(cM code).1∧(cM code).1≤12 then
  (if nxV code (cM code).2.1 (cM code).2.2 2=0 then
   (tabR (cT code).length (cbF (cT code) (cM code).1 (lsS code (cM code).1 (cN code) ([],nxA code.length (cM code).2.1 2,nxH (cM code).2.2 2)).1),0,(lsS code (cM code).1 (cN code) ([],nxA code.length (cM code).2.1 2,nxH (cM code).2.2 2)).2)
  else shF code (cT code) (cM code).1 (nxA code.length (cM code).2.1 2) (nxH (cM code).2.2 2))
 else shF code (cT code) (cM code).1 (cM code).2.1 (cM code).2.2
def cK (code:List Int):Nat:=(cF code).1.length - (cF code).2.1
theorem cY_ok {code:List Int} (hb:bytesB code):okA code (cY code):=anD_ok hb (by omega) (by omega)
theorem cT_room {code:List Int} (hb:bytesB code):roomR (cT code)∧(cT code).length≤13:=by
 obtain ⟨k1,k2,k3⟩:=cY_ok hb
 have:(cT code).length≤13:=by rw [cT,yT_length];omega
 refine ⟨⟨by omega,fun r hr=>?_⟩,this⟩
 have:=k2 r (List.mem_of_mem_drop (List.mem_of_mem_take hr))
 omega
theorem cM_in {code:List Int} (hb:bytesB code):-1≤(cM code).1∧(cM code).1≤13∧0≤(cM code).2.1∧(cM code).2.1≤(code.length:Int):=by
 obtain ⟨k1,k2,k3,k4,k5⟩:=cY_ok hb
 exact moD_in hb k4 k5 (by omega)
def DrawCob_p (code:List Int):Post:=⟨bytesB code∧code.length≤4096,.tup [.inl (.cut ((cY code).2.1) (cN code) 31 2 .i64 ((cY code).1)),.inl (.int .i64 ((cM code).1)),.inl (.ints 2 .i64 (cG code))],[]⟩
def DrawCob_ct:List AD→Option Post
 | [.c (.ints .u8 (code))]=>some (DrawCob_p code)
 | _=>none
def DrawCob_G:List (Nat×Ctr):=[(34,⟨[],l01From_ct⟩),(56,⟨[(0,0)],l14Any_ct⟩),(57,⟨[(0,0)],l14Modulus_ct⟩),(58,⟨[(0,0)],l14DrawList_ct⟩),(47,⟨[(0,0)],l01Next_ct⟩),(59,⟨[(0,0)],l01Pick_ct⟩)]
def DrawCob_c1 (code:List Int):=(moD code ((((anD code (0:Int) (frH code (code.length))).2).2).1) ((((anD code (0:Int) (frH code (code.length))).2).2).2) (↑(((anD code (0:Int) (frH code (code.length))).1).length - ((anD code (0:Int) (frH code (code.length))).2).1):Int))
def DrawCob_c2 (code:List Int):=(lsS code ((DrawCob_c1 code).1) ((↑(((anD code (0:Int) (frH code (code.length))).1).length - ((anD code (0:Int) (frH code (code.length))).2).1):Int).toNat) ([],((DrawCob_c1 code).2).1,((DrawCob_c1 code).2).2))
def DrawCob_c3 (code:List Int):=(anD code (0:Int) (frH code (code.length)))
def DrawCob_V (code:List Int):Prop :=
 ((((bytesB code)∧(code.length≤(4096:Nat)))∧True)∧((((bytesB code)∧(((0:Int)≤(0:Int))∧(((0:Int)≤(↑(code.length):Int))∧(code.length≤(4096:Nat)))))∧((code=code)∧True))∧((((bytesB code)∧(((0:Int)≤(((DrawCob_c3 code).2).2).1)∧(((((DrawCob_c3 code).2).2).1≤(↑(code.length):Int))∧((code.length≤(4096:Nat))∧(((0:Int)≤(↑(((DrawCob_c3 code).1).length - ((DrawCob_c3 code).2).1):Int))∧((↑(((DrawCob_c3 code).1).length - ((DrawCob_c3 code).2).1):Int)≤(13:Int)))))))∧((code=code)∧True))∧((((bytesB code)∧(((0:Int)≤((DrawCob_c1 code).2).1)∧((((DrawCob_c1 code).2).1≤(↑(code.length):Int))∧((code.length≤(4096:Nat))∧(((↑(((DrawCob_c3 code).1).length - ((DrawCob_c3 code).2).1):Int)≤(1000000:Int))∧((-1000000:Int)≤(↑(((DrawCob_c3 code).1).length - ((DrawCob_c3 code).2).1):Int)))))))∧((code=code)∧True)) ∧
 (BrP (decide ((0:Int)<(↑(((lsS code ((moD code ((((anD code (0:Int) (frH code (code.length))).2).2).1) ((((anD code (0:Int) (frH code (code.length))).2).2).2) (↑(((anD code (0:Int) (frH code (code.length))).1).length - ((anD code (0:Int) (frH code (code.length))).2).1):Int)).1) ((↑(((anD code (0:Int) (frH code (code.length))).1).length - ((anD code (0:Int) (frH code (code.length))).2).1):Int).toNat) ([],((moD code ((((anD code (0:Int) (frH code (code.length))).2).2).1) ((((anD code (0:Int) (frH code (code.length))).2).2).2) (↑(((anD code (0:Int) (frH code (code.length))).1).length - ((anD code (0:Int) (frH code (code.length))).2).1):Int)).2).1,((moD code ((((anD code (0:Int) (frH code (code.length))).2).2).1) ((((anD code (0:Int) (frH code (code.length))).2).2).2) (↑(((anD code (0:Int) (frH code (code.length))).1).length - ((anD code (0:Int) (frH code (code.length))).2).1):Int)).2).2)).1).length):Int))) ((((bytesB code)∧(((0:Int)≤((DrawCob_c2 code).2).1)∧(((DrawCob_c2 code).2).1≤(1099511627776:Int))))∧((code=code)∧True)) ∧
 (BrP (nxV code (((lsS code ((moD code ((((anD code (0:Int) (frH code (code.length))).2).2).1) ((((anD code (0:Int) (frH code (code.length))).2).2).2) (↑(((anD code (0:Int) (frH code (code.length))).1).length - ((anD code (0:Int) (frH code (code.length))).2).1):Int)).1) ((↑(((anD code (0:Int) (frH code (code.length))).1).length - ((anD code (0:Int) (frH code (code.length))).2).1):Int).toNat) ([],((moD code ((((anD code (0:Int) (frH code (code.length))).2).2).1) ((((anD code (0:Int) (frH code (code.length))).2).2).2) (↑(((anD code (0:Int) (frH code (code.length))).1).length - ((anD code (0:Int) (frH code (code.length))).2).1):Int)).2).1,((moD code ((((anD code (0:Int) (frH code (code.length))).2).2).1) ((((anD code (0:Int) (frH code (code.length))).2).2).2) (↑(((anD code (0:Int) (frH code (code.length))).1).length - ((anD code (0:Int) (frH code (code.length))).2).1):Int)).2).2)).2).1) (((lsS code ((moD code ((((anD code (0:Int) (frH code (code.length))).2).2).1) ((((anD code (0:Int) (frH code (code.length))).2).2).2) (↑(((anD code (0:Int) (frH code (code.length))).1).length - ((anD code (0:Int) (frH code (code.length))).2).1):Int)).1) ((↑(((anD code (0:Int) (frH code (code.length))).1).length - ((anD code (0:Int) (frH code (code.length))).2).1):Int).toNat) ([],((moD code ((((anD code (0:Int) (frH code (code.length))).2).2).1) ((((anD code (0:Int) (frH code (code.length))).2).2).2) (↑(((anD code (0:Int) (frH code (code.length))).1).length - ((anD code (0:Int) (frH code (code.length))).2).1):Int)).2).1,((moD code ((((anD code (0:Int) (frH code (code.length))).2).2).1) ((((anD code (0:Int) (frH code (code.length))).2).2).2) (↑(((anD code (0:Int) (frH code (code.length))).1).length - ((anD code (0:Int) (frH code (code.length))).2).1):Int)).2).2)).2).2) (16:Int) == (0:Int))
 ((((bytesB code)∧(((0:Int)≤nxA (code.length) (((DrawCob_c2 code).2).1) (16:Int))∧((nxA (code.length) (((DrawCob_c2 code).2).1) (16:Int)≤(1099511627776:Int))∧(((1:Nat)≤[(-1:Int),(DrawCob_c1 code).1].length)∧([(-1:Int),(DrawCob_c1 code).1].length≤(100:Nat))))))∧((code=code)∧True))∧((inB (0:Int) (((DrawCob_c2 code).1).length))∧((((((DrawCob_c3 code).2).1=((cY code).2).1)∧((((DrawCob_c3 code).1).length - ((DrawCob_c3 code).2).1=cN code)∧((DrawCob_c3 code).1=(cY code).1)))∧(((DrawCob_c1 code).1=(cM code).1)∧((List.set ((DrawCob_c2 code).1) (0:Nat) ([(-1:Int),(DrawCob_c1 code).1].getD ((nxV code (nxA (code.length) (((DrawCob_c2 code).2).1) (16:Int)) (nxH (((DrawCob_c2 code).2).2) (16:Int)) (↑([(-1:Int),(DrawCob_c1 code).1].length):Int)).toNat) (0:Int))=cG code)∧True)))∧True))) ((((((DrawCob_c3 code).2).1=((cY code).2).1)∧((((DrawCob_c3 code).1).length - ((DrawCob_c3 code).2).1=cN code)∧((DrawCob_c3 code).1=(cY code).1)))∧(((DrawCob_c1 code).1=(cM code).1)∧(((DrawCob_c2 code).1=cG code)∧True)))∧True))) ((((((DrawCob_c3 code).2).1=((cY code).2).1)∧((((DrawCob_c3 code).1).length - ((DrawCob_c3 code).2).1=cN code)∧((DrawCob_c3 code).1=(cY code).1)))∧(((DrawCob_c1 code).1=(cM code).1)∧(((DrawCob_c2 code).1=cG code)∧True)))∧True))))))
theorem DrawCob_vc (code:List Int):runF Tryz.prog (gam DrawCob_G) noWr noAnn Tryz.f17 (bodyOf Tryz.f17) [] [.c (.ints .u8 (code))] (DrawCob_p code)=DrawCob_V code:=by kernel_rfl
theorem DrawCob_ok (code:List Int) (hpre:(DrawCob_p code).pre):DrawCob_V code:=by
 simp only [DrawCob_p,DrawCob_V,DrawCob_c1,DrawCob_c2,DrawCob_c3,BrP_iff,u1,u2,u3,u4,u5,u6,u7,u8,u9,v1,v2,v3,v4,v5,v6,v7,v8,v9,w1,w2,w3,w4,markL_length,inB,InR,room,bdsOk] at hpre ⊢
 obtain ⟨hb,hc⟩:=hpre
 have eY:anD code 0 (frH code code.length)=cY code:=rfl
 simp only [eY]
 have eN:(cY code).1.length - (cY code).2.1=cN code:=rfl
 simp only [eN]
 have eM:moD code (cY code).2.2.1 (cY code).2.2.2 (cN code:Int)=cM code:=rfl
 simp only [eM]
 have eQ:lsS code (cM code).1 (cN code) ([],(cM code).2.1,(cM code).2.2)=cQ code:=rfl
 simp only [Int.toNat_natCast,eQ]
 obtain ⟨k1,k2,k3,k4,k5⟩:=cY_ok hb
 have M:=cM_in hb
 have Q:=drL_len (code:=code) (m:=(cM code).1) (cN code) ([],(cM code).2) M.2.2.1 M.2.2.2
 have eQ2:lsS code (cM code).1 (cN code) ([],(cM code).2)=cQ code:=rfl
 rw [eQ2] at Q
 have lQ:(cQ code).1.length=cN code:=by rw [Q.1];show 0+cN code=_;omega
 have n13:cN code≤13:=by unfold cN;omega
 have s16:=nxA_in (n:=16) Q.2.1 Q.2.2
 refine ⟨⟨hb,hc⟩,⟨hb,by omega,by omega,hc⟩,⟨hb,k4,k5,hc,by omega,by omega⟩,⟨hb,M.2.2.1,M.2.2.2,hc,by omega,by omega⟩,fun z=>⟨⟨hb,Q.2.1,by omega⟩,fun z1=>?_,fun z1=>?_⟩,fun z=>?_⟩
 ·have e:cG code=(cQ code).1.set 0 ([-1,(cM code).1].getD (nxV code (nxA code.length (cQ code).2.1 16) (nxH (cQ code).2.2 16) 2).toNat 0):=if_pos ⟨by omega,z1⟩
  exact ⟨⟨hb,s16.1,by omega,by simp,by simp⟩,by omega,⟨trivial,trivial,trivial⟩,trivial,e.symm⟩
 ·have e:cG code=(cQ code).1:=if_neg fun h=>z1 h.2
  exact ⟨⟨trivial,trivial,trivial⟩,trivial,e.symm⟩
 ·have e:cG code=(cQ code).1:=if_neg fun h=>by omega
  exact ⟨⟨trivial,trivial,trivial⟩,trivial,e.symm⟩
theorem DrawCob_fits:Fits Tryz.prog 17 ⟨[],DrawCob_ct⟩:=by
 refine ffn (Γ:=gam DrawCob_G) (gok_cons l01From_fits (gok_cons l14Any_fits (gok_cons l14Modulus_fits (gok_cons l14DrawList_fits (gok_cons l01Next_fits (gok_cons l01Pick_fits gok_nil)))))) Tryz.func17 fun ds p h hp=>?_
 unfold DrawCob_ct at h
 split at h
 ·cases h
  exact ⟨noWr,noAnn,by rw [DrawCob_vc];exact DrawCob_ok _  hp⟩
 ·cases h
def DrawCobSrc_p (code:List Int):Post:=⟨bytesB code∧code.length≤4096,.tup [.inl (.cut ((cY code).2.1) (cN code) 31 2 .i64 ((cY code).1)),.inl (.int .i64 ((cM code).1)),.inl (.cut ((cF code).2.1) (cK code) 31 2 .i64 ((cF code).1))],[]⟩
def DrawCobSrc_ct:List AD→Option Post
 | [.c (.ints .u8 (code))]=>some (DrawCobSrc_p code)
 | _=>none
def DrawCobSrc_G:List (Nat×Ctr):=[(34,⟨[],l01From_ct⟩),(56,⟨[(0,0)],l14Any_ct⟩),(57,⟨[(0,0)],l14Modulus_ct⟩),(63,⟨[],l01Table_ct⟩),(64,⟨[],l01In_ct⟩),(47,⟨[(0,0)],l01Next_ct⟩),(58,⟨[(0,0)],l14DrawList_ct⟩),(66,⟨[],l14Bound_ct⟩),(77,⟨[(0,0)],l14Shape_ct⟩)]
def DrawCobSrc_c1 (code:List Int):=(moD code ((((anD code (0:Int) (frH code (code.length))).2).2).1) ((((anD code (0:Int) (frH code (code.length))).2).2).2) (↑(((anD code (0:Int) (frH code (code.length))).1).length - ((anD code (0:Int) (frH code (code.length))).2).1):Int))
def DrawCobSrc_c2 (code:List Int):=(List.take (((anD code (0:Int) (frH code (code.length))).1).length - ((anD code (0:Int) (frH code (code.length))).2).1) (List.drop (((anD code (0:Int) (frH code (code.length))).2).1) ((anD code (0:Int) (frH code (code.length))).1)))
def DrawCobSrc_c3 (code:List Int):=(anD code (0:Int) (frH code (code.length)))
def DrawCobSrc_c4 (code:List Int):=(shF code (DrawCobSrc_c2 code) ((DrawCobSrc_c1 code).1) (((DrawCobSrc_c1 code).2).1) (((DrawCobSrc_c1 code).2).2))
def DrawCobSrc_c5 (code:List Int):=((lsS code ((DrawCobSrc_c1 code).1) ((↑(((DrawCobSrc_c3 code).1).length - ((DrawCobSrc_c3 code).2).1):Int).toNat) ([],nxA (code.length) (((DrawCobSrc_c1 code).2).1) (2:Int),nxH (((DrawCobSrc_c1 code).2).2) (2:Int))).1)
def DrawCobSrc_c6 (code:List Int):=(shF code (DrawCobSrc_c2 code) ((DrawCobSrc_c1 code).1) (nxA (code.length) (((DrawCobSrc_c1 code).2).1) (2:Int)) (nxH (((DrawCobSrc_c1 code).2).2) (2:Int)))
def DrawCobSrc_V (code:List Int):Prop :=
 ((((bytesB code)∧(code.length≤(4096:Nat)))∧True)∧((((bytesB code)∧(((0:Int)≤(0:Int))∧(((0:Int)≤(↑(code.length):Int))∧(code.length≤(4096:Nat)))))∧((code=code)∧True))∧((((bytesB code)∧(((0:Int)≤(((DrawCobSrc_c3 code).2).2).1)∧(((((DrawCobSrc_c3 code).2).2).1≤(↑(code.length):Int))∧((code.length≤(4096:Nat))∧(((0:Int)≤(↑(((DrawCobSrc_c3 code).1).length - ((DrawCobSrc_c3 code).2).1):Int))∧((↑(((DrawCobSrc_c3 code).1).length - ((DrawCobSrc_c3 code).2).1):Int)≤(13:Int)))))))∧((code=code)∧True))∧(((roomR (DrawCobSrc_c2 code))∧True)∧(BrP (tabB (List.take (((anD code (0:Int) (frH code (code.length))).1).length - ((anD code (0:Int) (frH code (code.length))).2).1) (List.drop (((anD code (0:Int) (frH code (code.length))).2).1) ((anD code (0:Int) (frH code (code.length))).1)))) ((True∧True)∧(BrP (decide ((1:Int)≤(moD code ((((anD code (0:Int) (frH code (code.length))).2).2).1) ((((anD code (0:Int) (frH code (code.length))).2).2).2) (↑(((anD code (0:Int) (frH code (code.length))).1).length - ((anD code (0:Int) (frH code (code.length))).2).1):Int)).1∧(moD code ((((anD code (0:Int) (frH code (code.length))).2).2).1) ((((anD code (0:Int) (frH code (code.length))).2).2).2) (↑(((anD code (0:Int) (frH code (code.length))).1).length - ((anD code (0:Int) (frH code (code.length))).2).1):Int)).1≤(12:Int))) ((((bytesB code)∧(((0:Int)≤((DrawCobSrc_c1 code).2).1)∧(((DrawCobSrc_c1 code).2).1≤(1099511627776:Int))))∧((code=code)∧True)) ∧
 (BrP (nxV code (((moD code ((((anD code (0:Int) (frH code (code.length))).2).2).1) ((((anD code (0:Int) (frH code (code.length))).2).2).2) (↑(((anD code (0:Int) (frH code (code.length))).1).length - ((anD code (0:Int) (frH code (code.length))).2).1):Int)).2).1) (((moD code ((((anD code (0:Int) (frH code (code.length))).2).2).1) ((((anD code (0:Int) (frH code (code.length))).2).2).2) (↑(((anD code (0:Int) (frH code (code.length))).1).length - ((anD code (0:Int) (frH code (code.length))).2).1):Int)).2).2) (2:Int) == (0:Int)) ((((bytesB code)∧(((0:Int)≤nxA (code.length) (((DrawCobSrc_c1 code).2).1) (2:Int))∧((nxA (code.length) (((DrawCobSrc_c1 code).2).1) (2:Int)≤(↑(code.length):Int))∧((code.length≤(4096:Nat))∧(((↑(((DrawCobSrc_c3 code).1).length - ((DrawCobSrc_c3 code).2).1):Int)≤(1000000:Int))∧((-1000000:Int)≤(↑(((DrawCobSrc_c3 code).1).length - ((DrawCobSrc_c3 code).2).1):Int)))))))∧((code=code)∧True))∧((((tabB (DrawCobSrc_c2 code)=true)∧(shiftB (↑((DrawCobSrc_c2 code).length):Int) ((DrawCobSrc_c1 code).1) (DrawCobSrc_c5 code)=true))∧True)∧((((((DrawCobSrc_c3 code).2).1=((cY code).2).1)∧((((DrawCobSrc_c3 code).1).length - ((DrawCobSrc_c3 code).2).1=cN code)∧((DrawCobSrc_c3 code).1=(cY code).1)))∧(((DrawCobSrc_c1 code).1=(cM code).1)∧((((0:Nat)=((cF code).2).1)∧(((tabR ((DrawCobSrc_c2 code).length) (cbF (DrawCobSrc_c2 code) ((DrawCobSrc_c1 code).1) (DrawCobSrc_c5 code))).length=cK code) ∧
 (tabR ((DrawCobSrc_c2 code).length) (cbF (DrawCobSrc_c2 code) ((DrawCobSrc_c1 code).1) (DrawCobSrc_c5 code))=(cF code).1)))∧True)))∧True))) ((((bytesB code)∧((code.length≤(4096:Nat))∧(((0:Int)≤nxA (code.length) (((DrawCobSrc_c1 code).2).1) (2:Int))∧((nxA (code.length) (((DrawCobSrc_c1 code).2).1) (2:Int)≤(↑(code.length):Int))∧(((DrawCobSrc_c2 code).length≤(100:Nat))∧((roomR (DrawCobSrc_c2 code))∧(((-1000:Int)≤(DrawCobSrc_c1 code).1)∧((DrawCobSrc_c1 code).1≤(1000:Int)))))))))∧((code=code)∧True))∧((((((DrawCobSrc_c3 code).2).1=((cY code).2).1)∧((((DrawCobSrc_c3 code).1).length - ((DrawCobSrc_c3 code).2).1=cN code)∧((DrawCobSrc_c3 code).1=(cY code).1)))∧(((DrawCobSrc_c1 code).1=(cM code).1)∧(((((DrawCobSrc_c6 code).2).1=((cF code).2).1)∧((((DrawCobSrc_c6 code).1).length - ((DrawCobSrc_c6 code).2).1=cK code)∧((DrawCobSrc_c6 code).1=(cF code).1)))∧True)))∧True)))) ((((bytesB code)∧((code.length≤(4096:Nat))∧(((0:Int)≤((DrawCobSrc_c1 code).2).1)∧((((DrawCobSrc_c1 code).2).1≤(↑(code.length):Int))∧(((DrawCobSrc_c2 code).length≤(100:Nat))∧((roomR (DrawCobSrc_c2 code))∧(((-1000:Int)≤(DrawCobSrc_c1 code).1)∧((DrawCobSrc_c1 code).1≤(1000:Int)))))))))∧((code=code)∧True))∧((((((DrawCobSrc_c3 code).2).1=((cY code).2).1)∧((((DrawCobSrc_c3 code).1).length - ((DrawCobSrc_c3 code).2).1=cN code)∧((DrawCobSrc_c3 code).1=(cY code).1)))∧(((DrawCobSrc_c1 code).1=(cM code).1)∧(((((DrawCobSrc_c4 code).2).1=((cF code).2).1) ∧
 ((((DrawCobSrc_c4 code).1).length - ((DrawCobSrc_c4 code).2).1=cK code)∧((DrawCobSrc_c4 code).1=(cF code).1)))∧True)))∧True)))) ((((bytesB code)∧((code.length≤(4096:Nat))∧(((0:Int)≤((DrawCobSrc_c1 code).2).1)∧((((DrawCobSrc_c1 code).2).1≤(↑(code.length):Int))∧(((DrawCobSrc_c2 code).length≤(100:Nat))∧((roomR (DrawCobSrc_c2 code))∧(((-1000:Int)≤(DrawCobSrc_c1 code).1)∧((DrawCobSrc_c1 code).1≤(1000:Int)))))))))∧((code=code)∧True))∧((((((DrawCobSrc_c3 code).2).1=((cY code).2).1)∧((((DrawCobSrc_c3 code).1).length - ((DrawCobSrc_c3 code).2).1=cN code)∧((DrawCobSrc_c3 code).1=(cY code).1)))∧(((DrawCobSrc_c1 code).1=(cM code).1)∧(((((DrawCobSrc_c4 code).2).1=((cF code).2).1)∧((((DrawCobSrc_c4 code).1).length - ((DrawCobSrc_c4 code).2).1=cK code)∧((DrawCobSrc_c4 code).1=(cF code).1)))∧True)))∧True)))))))
theorem DrawCobSrc_vc (code:List Int):runF Tryz.prog (gam DrawCobSrc_G) noWr noAnn Tryz.f26 (bodyOf Tryz.f26) [] [.c (.ints .u8 (code))] (DrawCobSrc_p code)=DrawCobSrc_V code:=by kernel_rfl
theorem DrawCobSrc_ok (code:List Int) (hpre:(DrawCobSrc_p code).pre):DrawCobSrc_V code:=by
 simp only [DrawCobSrc_p,DrawCobSrc_V,DrawCobSrc_c1,DrawCobSrc_c2,DrawCobSrc_c3,DrawCobSrc_c4,DrawCobSrc_c5,DrawCobSrc_c6,BrP_iff,u1,u2,u3,u4,u5,u6,u7,u8,u9,v1,v2,v3,v4,v5,v6,v7,v8,v9,w1,w2,w3,w4,markL_length,inB,InR,room,bdsOk] at hpre ⊢
 obtain ⟨hb,hc⟩:=hpre
 have eY:anD code 0 (frH code code.length)=cY code:=rfl
 simp only [eY]
 have eN:(cY code).1.length - (cY code).2.1=cN code:=rfl
 simp only [eN]
 have eT:List.take (cN code) (List.drop (cY code).2.1 (cY code).1)=cT code:=rfl
 simp only [eT]
 have eM:moD code (cY code).2.2.1 (cY code).2.2.2 (cN code:Int)=cM code:=rfl
 simp only [eM]
 obtain ⟨k1,k2,k3,k4,k5⟩:=cY_ok hb
 have M:=cM_in hb
 obtain ⟨R,T⟩:=cT_room hb
 have n13:cN code≤13:=by unfold cN;omega
 have lT:(cT code).length=cN code:=yT_length _
 have s2:=nxA_in (n:=2) M.2.2.1 M.2.2.2
 refine ⟨⟨hb,hc⟩,⟨hb,by omega,by omega,hc⟩,⟨hb,k4,k5,hc,by omega,by omega⟩,R,fun y=>⟨fun z=>⟨⟨hb,M.2.2.1,by omega⟩,fun z1=>?_,fun z1=>?_⟩,fun z=>?_⟩,fun y=>?_⟩
 ·have L:=drL_len (code:=code) (m:=(cM code).1) (cN code) ([],nxA code.length (cM code).2.1 2,nxH (cM code).2.2 2) s2.1 s2.2
  have G2:=drL_in hb z.1 (cN code) ([],nxA code.length (cM code).2.1 2,nxH (cM code).2.2 2) (fun x hx=>(List.not_mem_nil hx).elim)
  have e:cF code=(tabR (cT code).length (cbF (cT code) (cM code).1 (lsS code (cM code).1 (cN code) ([],nxA code.length (cM code).2.1 2,nxH (cM code).2.2 2)).1),0,(lsS code (cM code).1 (cN code) ([],nxA code.length (cM code).2.1 2,nxH (cM code).2.2 2)).2):=(if_pos ⟨y,z⟩).trans (if_pos z1)
  refine ⟨⟨hb,s2.1,s2.2,hc,by omega,by omega⟩,⟨y,sh_mk z (by rw [L.1,Nat.min_self];simp) G2⟩,⟨trivial,trivial,trivial⟩,trivial,?_⟩
  rw [cK,e,Nat.min_self,lT];exact ⟨rfl,rfl,rfl⟩
 ·have e:cF code=shF code (cT code) (cM code).1 (nxA code.length (cM code).2.1 2) (nxH (cM code).2.2 2):=(if_pos ⟨y,z⟩).trans (if_neg z1)
  refine ⟨⟨hb,hc,s2.1,s2.2,by omega,R,by omega,by omega⟩,⟨trivial,trivial,trivial⟩,trivial,?_⟩
  rw [cK,e];exact ⟨rfl,rfl,rfl⟩
 ·have e:cF code=shF code (cT code) (cM code).1 (cM code).2.1 (cM code).2.2:=if_neg fun h=>z h.2
  refine ⟨⟨hb,hc,M.2.2.1,M.2.2.2,by omega,R,by omega,by omega⟩,⟨trivial,trivial,trivial⟩,trivial,?_⟩
  rw [cK,e];exact ⟨rfl,rfl,rfl⟩
 ·have e:cF code=shF code (cT code) (cM code).1 (cM code).2.1 (cM code).2.2:=if_neg fun h=>by rw [h.1] at y;cases y
  refine ⟨⟨hb,hc,M.2.2.1,M.2.2.2,by omega,R,by omega,by omega⟩,⟨trivial,trivial,trivial⟩,trivial,?_⟩
  rw [cK,e];exact ⟨rfl,rfl,rfl⟩
theorem DrawCobSrc_fits:Fits Tryz.prog 26 ⟨[],DrawCobSrc_ct⟩:=by
 refine ffn (Γ:=gam DrawCobSrc_G) (gok_cons l01From_fits (gok_cons l14Any_fits (gok_cons l14Modulus_fits (gok_cons l01Table_fits (gok_cons l01In_fits (gok_cons l01Next_fits (gok_cons l14DrawList_fits (gok_cons l14Bound_fits (gok_cons l14Shape_fits gok_nil))))))))) Tryz.func26 fun ds p h hp=>?_
 unfold DrawCobSrc_ct at h
 split at h
 ·cases h
  exact ⟨noWr,noAnn,by rw [DrawCobSrc_vc];exact DrawCobSrc_ok _  hp⟩
 ·cases h
end Go.Sx
