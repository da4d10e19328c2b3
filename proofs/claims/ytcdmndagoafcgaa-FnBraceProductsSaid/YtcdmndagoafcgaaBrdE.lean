/- BrdE -/
import Derived.Test.YtcdmndagoafcgaaDrawY
import Derived.Test.YtcdmndagoafcgaaBrdC
open Go Go.Proofs
namespace Go.Sx
set_option linter.unusedSimpArgs false
set_option linter.unusedVariables false
def big_p (code:List Int):Post:=⟨True,.c (.bool (decide (4096<(code.length:Int)))),[]⟩
def big_ct:List AD→Option Post
 | [.c (.ints .u8 (code))]=>some (big_p code)
 | _=>none
def big_G:List (Nat×Ctr):=[]
def big_V (code:List Int):Prop :=
 ((decide ((4096:Int)<(↑(code.length):Int))=decide ((4096:Int)<(↑(code.length):Int)))∧True)
theorem big_vc (code:List Int):runF Try.prog (gam big_G) noWr noAnn Try.f16 (bodyOf Try.f16) [] [.c (.ints .u8 (code))] (big_p code)=big_V code:=by kernel_rfl
theorem big_ok (code:List Int) (hpre:(big_p code).pre):big_V code:=by
 simp only [big_p,big_V,BrP_iff,u1,u2,u3,u4,u5,u6,u7,u8,u9,v1,v2,v3,v4,v5,v6,v7,v8,v9,w1,w2,w3,w4,markL_length,inB,InR,room,bdsOk] at hpre ⊢
theorem big_fits:Fits Try.prog 16 ⟨[],big_ct⟩:=by
 refine ffn (Γ:=gam big_G) gok_nil Try.func16 fun ds p h hp=>?_
 unfold big_ct at h
 split at h
 ·cases h
  exact ⟨noWr,noAnn,by rw [big_vc];exact big_ok _  hp⟩
 ·cases h
def likeInts_p (a:List Int) (b:List Int):Post:=⟨room a.length,.c (.bool (decide (a=b))),[]⟩
def likeInts_ct:List AD→Option Post
 | [.c (.ints .i64 (a)),.c (.ints .i64 (b))]=>some (likeInts_p a b)
 | _=>none
def likeInts_ann (a:List Int) (b:List Int):Nat→Option Ann
 | 0=>some (Ann.mk ((Nat)) (fun i=>⟨[(0,.c (.ro (.ints .i64 (a)))),(1,.c (.ro (.ints .i64 (b)))),(5,.c (.int .i64 ((i:Int))))],[]⟩) (fun i=>i≤a.length∧a.length=b.length∧a.take i=b.take i) (fun i=>a.length - i) (fun _=>noAnn))
 | _=>none
def likeInts_G:List (Nat×Ctr):=[]
def likeInts_V (a:List Int) (b:List Int):Prop :=
 (BrP ((↑(a.length):Int) != (↑(b.length):Int)) ((false=decide (a=b))∧True) ((∃x0:Nat,(((x0≤a.length)∧((a.length=b.length)∧(List.take x0 a=List.take x0 b)))∧((a=a)∧((b=b)∧((0:Int)=(↑x0:Int))))))∧(∀x1:Nat,(((x1≤a.length)∧((a.length=b.length)∧(List.take x1 a=List.take x1 b)))→(BrP (decide ((↑x1:Int)<(↑(a.length):Int))) ((inB (↑x1:Int) (a.length))∧((inB (↑x1:Int) (b.length))∧(BrP (a.getD ((↑x1:Int).toNat) (0:Int) != b.getD ((↑x1:Int).toNat) (0:Int)) ((false=decide (a=b))∧True) ((InR ((↑x1:Int)+(1:Int)))∧(∃x2:Nat,(((x2≤a.length)∧((a.length=b.length)∧(List.take x2 a=List.take x2 b)))∧((a.length - x2<a.length - x1)∧((a=a)∧((b=b)∧((↑x1:Int)+(1:Int)=(↑x2:Int))))))))))) ((true=decide (a=b))∧True))))))
theorem likeInts_vc (a:List Int) (b:List Int):runF Try.prog (gam likeInts_G) noWr (likeInts_ann a b) Try.f100 (bodyOf Try.f100) [] [.c (.ints .i64 (a)),.c (.ints .i64 (b))] (likeInts_p a b)=likeInts_V a b:=by kernel_rfl
theorem likeInts_ok (a:List Int) (b:List Int) (hpre:(likeInts_p a b).pre):likeInts_V a b:=by
 simp only [likeInts_p,likeInts_V,BrP_iff,u1,u2,u3,u4,u5,u6,u7,u8,u9,v1,v2,v3,v4,v5,v6,v7,v8,v9,w1,w2,w3,w4,markL_length,inB,InR,room,bdsOk] at hpre ⊢
 refine ⟨fun h=>?_,fun h=>⟨⟨0,⟨by omega,by omega,rfl⟩,by simp⟩,fun i hi=>⟨fun h1=>⟨by omega,by omega,fun h2=>?_,fun h2=>⟨by omega,i+1,⟨by omega,hi.2.1,?_⟩,by omega,by omega⟩⟩,fun h1=>?_⟩⟩⟩
 ·exact (decide_eq_false fun e=>h (by rw [e])).symm
 ·exact (decide_eq_false fun e=>h2 (by rw [e])).symm
 ·exact (take_eq_step a b 0 i (by omega) (by omega) hi.2.2).2 h2
 ·refine (decide_eq_true ?_).symm
  have:=hi.2.2
  rwa [List.take_of_length_le (by omega),List.take_of_length_le (by omega)] at this
theorem likeInts_fits:Fits Try.prog 100 ⟨[],likeInts_ct⟩:=by
 refine ffn (Γ:=gam likeInts_G) gok_nil Try.func100 fun ds p h hp=>?_
 unfold likeInts_ct at h
 split at h
 ·cases h
  exact ⟨noWr,likeInts_ann _ _ ,by rw [likeInts_vc];exact likeInts_ok _ _  hp⟩
 ·cases h
def anC (code:List Int) (b:Bd):Int:=nxV code b.2.2.1 b.2.2.2 24
def anA (code:List Int) (b:Bd):Int:=nxA code.length b.2.2.1 24
def anH (b:Bd):Int:=nxH b.2.2.2 24
def anI (code:List Int) (b:Bd):Int:=nxV code (anA code b) (anH b) (b.1.length:Int)
def anJ (code:List Int) (b:Bd):Int:=nxV code (nxA code.length (anA code b) (b.1.length:Int)) (nxH (anH b) (b.1.length:Int)) (b.1.length:Int)
def anV (code:List Int) (b:Bd):Int:=nxV code (nxA code.length (nxA code.length (anA code b) (b.1.length:Int)) (b.1.length:Int)) (nxH (nxH (anH b) (b.1.length:Int)) (b.1.length:Int)) ((b.1.length:Int)+1)
def anF (code:List Int) (b:Bd):Bd :=
 if anC code b=0 then (b.1,(g10 code (anA code b) (anH b) (b.1.length:Int)).1,(g10 code (anA code b) (anH b) (b.1.length:Int)).2)
 else if anC code b=1 then (b.1.set (anI code b).toNat ((b.1.getD (anI code b).toNat []).set (anJ code b).toNat (anV code b)),b.2.1,
  nxA code.length (nxA code.length (nxA code.length (anA code b) (b.1.length:Int)) (b.1.length:Int)) ((b.1.length:Int)+1),nxH (nxH (nxH (anH b) (b.1.length:Int)) (b.1.length:Int)) ((b.1.length:Int)+1))
 else if anC code b=2 then (b.1,b.2.1.drop 1,anA code b,anH b)
 else (b.1,b.2.1,anA code b,anH b)
def anyF (code:List Int) (a h most:Int):Bd:=anF code (l11F code a h most)
theorem anF_ok {code:List Int} (hb:bytesB code) {b:Bd} (h:okB code 5 b):roomR (anF code b).1∧roomR (anF code b).2.1∧(anF code b).1.length≤5∧(anF code b).2.1.length≤5∧0≤(anF code b).2.2.1∧(anF code b).2.2.1≤(code.length:Int):=by
 obtain ⟨b1,b2,b3,b4,b5,b6⟩:=h
 have s:=nxA_in (n:=24) b5 b6
 have A1:0≤anA code b∧anA code b≤(code.length:Int):=s
 have R1:=tbN_room b3 (by omega)
 have R2:=tbN_room b4 (by omega)
 have l4:=b4.1
 unfold anF
 split
 ·obtain ⟨K,_⟩:=g10a_ok hb (h:=anH b) A1.1 A1.2 (most:=(b.1.length:Int)) (by omega) (by omega)
  obtain ⟨k1,k2,k3,k4,k5⟩:=g10b_ok hb K
  exact ⟨R1,tbN_room k3 (by omega),b2,k2,k4,k5⟩
 ·split
  ·have s2:=nxA_in (n:=(b.1.length:Int)) A1.1 A1.2
   have s3:=nxA_in (n:=(b.1.length:Int)) s2.1 s2.2
   have s4:=nxA_in (n:=(b.1.length:Int)+1) s3.1 s3.2
   refine ⟨⟨by rw [List.length_set];exact R1.1,fun r hr=>?_⟩,R2,by rw [List.length_set];exact b2,Nat.le_trans (Nat.le_of_eq l4) b2,s4.1,s4.2⟩
   rcases List.mem_or_eq_of_mem_set hr with hr | rfl
   ·exact R1.2 r hr
   ·rw [List.length_set]
    by_cases q:(anI code b).toNat<b.1.length
    ·exact R1.2 _ (getD_mem _ [] _ q)
    ·rw [List.getD_eq_getElem?_getD,List.getElem?_eq_none (by omega)];simp
  ·split
   ·have dl:(b.2.1.drop 1).length≤5:=by rw [List.length_drop];omega
    exact ⟨R1,⟨Nat.le_trans dl (by omega),fun r hr=>R2.2 r (List.mem_of_mem_drop hr)⟩,b2,dl,A1.1,A1.2⟩
   ·exact ⟨R1,R2,b2,Nat.le_trans (Nat.le_of_eq l4) b2,A1.1,A1.2⟩
def l11DrawAny_p (code:List Int) (a:Int) (h:Int) (most:Int):Post:=⟨bytesB code∧code.length≤4096∧0≤a∧a≤(code.length:Int)∧1≤most∧most≤5,.agg [.rows 22 2 .i64 ((anyF code a h most).1),.ro (.rows .i64 ((anyF code a h most).2.1))],[.bx [.ints .u8 (code),.int .i64 ((anyF code a h most).2.2.1),.int .u64 ((anyF code a h most).2.2.2)]]⟩
def l11DrawAny_ct:List AD→Option Post
 | [.box [.ints .u8 (code),.int .i64 (a),.int .u64 (h)],.c (.int .i64 (most))]=>some (l11DrawAny_p code a h most)
 | _=>none
def l11DrawAny_ann (code:List Int) (a:Int) (h:Int) (most:Int):Nat→Option Ann
 | 1002=>some (Ann.mk ((Unit)) (fun u=>⟨[(0,.c (.ptr 700 0)),(4,.c (.ptr 4 0)),(5,.c (.ptr 5 0))],[(4,some (.box [.nil,.nil])),(5,some (.box [.own (105),.ro (.rows .i64 ((l11F code a h most).2.1))])),(105,some (.rows 0 22 2 .i64 ((l11F code a h most).1))),(700,some (.box [.orig 700 0 (.ints .u8 (code)),.int .i64 ((l11F code a h most).2.2.1),.int .u64 ((l11F code a h most).2.2.2)]))]⟩) (fun u=>True) (fun u=>0) (fun _=>noAnn))
 | _=>none
def l11DrawAny_G:List (Nat×Ctr):=[(95,⟨[(0,0)],l01Next_ct⟩),(96,⟨[(0,0)],l10Draw_ct⟩),(94,⟨[(0,0)],l11Draw_ct⟩)]
def l11DrawAny_c1 (code:List Int) (a:Int) (h:Int) (most:Int):=(↑(((l11F code a h most).1).length):Int)
def l11DrawAny_c2 (code:List Int) (a:Int) (h:Int) (most:Int):=(nxA (code.length) ((((l11F code a h most).2).2).1) (24:Int))
def l11DrawAny_c3 (code:List Int) (a:Int) (h:Int) (most:Int):=(nxH ((((l11F code a h most).2).2).2) (24:Int))
def l11DrawAny_V (code:List Int) (a:Int) (h:Int) (most:Int):Prop :=
 (((((bytesB code)∧((code.length≤(4096:Nat))∧(((0:Int)≤a)∧((a≤(↑(code.length):Int))∧(((1:Int)≤most)∧(most≤(5:Int)))))))∧((code=code)∧True))∧(∃x0:Unit,(True∧((((l11F code a h most).2).1=((l11F code a h most).2).1)∧(((l11F code a h most).1=(l11F code a h most).1)∧((code=code)∧(((((l11F code a h most).2).2).1=(((l11F code a h most).2).2).1)∧((((l11F code a h most).2).2).2=(((l11F code a h most).2).2).2))))))))∧(∀x1:Unit,(True→((((bytesB code)∧(((0:Int)≤(((l11F code a h most).2).2).1)∧((((l11F code a h most).2).2).1≤(1099511627776:Int))))∧((code=code)∧True))∧(BrP (nxV code ((((l11F code a h most).2).2).1) ((((l11F code a h most).2).2).2) (24:Int) == (0:Int)) ((((bytesB code)∧((code.length≤(4096:Nat))∧(((0:Int)≤nxA (code.length) ((((l11F code a h most).2).2).1) (24:Int))∧((nxA (code.length) ((((l11F code a h most).2).2).1) (24:Int)≤(↑(code.length):Int))∧(((1:Int)≤(l11DrawAny_c1 code a h most))∧((l11DrawAny_c1 code a h most)≤(5:Int)))))))∧((code=code)∧True))∧((((l11F code a h most).1=(anyF code a h most).1)∧(((g10 code (l11DrawAny_c2 code a h most) (l11DrawAny_c3 code a h most) (l11DrawAny_c1 code a h most)).1=((anyF code a h most).2).1)∧True))∧(((code=code)∧((((g10 code (l11DrawAny_c2 code a h most) (l11DrawAny_c3 code a h most) (l11DrawAny_c1 code a h most)).2).1=(((anyF code a h most).2).2).1) ∧
 ((((g10 code (l11DrawAny_c2 code a h most) (l11DrawAny_c3 code a h most) (l11DrawAny_c1 code a h most)).2).2=(((anyF code a h most).2).2).2)∧True)))∧True))) (BrP (nxV code ((((l11F code a h most).2).2).1) ((((l11F code a h most).2).2).2) (24:Int) == (1:Int)) ((((bytesB code)∧(((0:Int)≤nxA (code.length) ((((l11F code a h most).2).2).1) (24:Int))∧(nxA (code.length) ((((l11F code a h most).2).2).1) (24:Int)≤(1099511627776:Int))))∧((code=code)∧True))∧((inB (nxV code (l11DrawAny_c2 code a h most) (l11DrawAny_c3 code a h most) (l11DrawAny_c1 code a h most)) (((l11F code a h most).1).length))∧((((bytesB code)∧(((0:Int)≤nxA (code.length) (l11DrawAny_c2 code a h most) (l11DrawAny_c1 code a h most))∧(nxA (code.length) (l11DrawAny_c2 code a h most) (l11DrawAny_c1 code a h most)≤(1099511627776:Int))))∧((code=code)∧True))∧((InR ((l11DrawAny_c1 code a h most)+(1:Int)))∧((((bytesB code)∧(((0:Int)≤nxA (code.length) (nxA (code.length) (l11DrawAny_c2 code a h most) (l11DrawAny_c1 code a h most)) (l11DrawAny_c1 code a h most))∧(nxA (code.length) (nxA (code.length) (l11DrawAny_c2 code a h most) (l11DrawAny_c1 code a h most)) (l11DrawAny_c1 code a h most)≤(1099511627776:Int))))∧((code=code)∧True)) ∧
 ((inB (nxV code (nxA (code.length) (l11DrawAny_c2 code a h most) (l11DrawAny_c1 code a h most)) (nxH (l11DrawAny_c3 code a h most) (l11DrawAny_c1 code a h most)) (l11DrawAny_c1 code a h most)) ((((l11F code a h most).1).getD ((nxV code (l11DrawAny_c2 code a h most) (l11DrawAny_c3 code a h most) (l11DrawAny_c1 code a h most)).toNat) []).length))∧(((List.set ((l11F code a h most).1) ((nxV code (l11DrawAny_c2 code a h most) (l11DrawAny_c3 code a h most) (l11DrawAny_c1 code a h most)).toNat) (List.set (((l11F code a h most).1).getD ((nxV code (l11DrawAny_c2 code a h most) (l11DrawAny_c3 code a h most) (l11DrawAny_c1 code a h most)).toNat) []) ((nxV code (nxA (code.length) (l11DrawAny_c2 code a h most) (l11DrawAny_c1 code a h most)) (nxH (l11DrawAny_c3 code a h most) (l11DrawAny_c1 code a h most)) (l11DrawAny_c1 code a h most)).toNat) (nxV code (nxA (code.length) (nxA (code.length) (l11DrawAny_c2 code a h most) (l11DrawAny_c1 code a h most)) (l11DrawAny_c1 code a h most)) (nxH (nxH (l11DrawAny_c3 code a h most) (l11DrawAny_c1 code a h most)) (l11DrawAny_c1 code a h most)) ((l11DrawAny_c1 code a h most)+(1:Int))))=(anyF code a h most).1)∧((((l11F code a h most).2).1=((anyF code a h most).2).1)∧True))∧(((code=code)∧((nxA (code.length) (nxA (code.length) (nxA (code.length) (l11DrawAny_c2 code a h most) (l11DrawAny_c1 code a h most)) (l11DrawAny_c1 code a h most)) ((l11DrawAny_c1 code a h most)+(1:Int))=(((anyF code a h most).2).2).1) ∧
 ((nxH (nxH (nxH (l11DrawAny_c3 code a h most) (l11DrawAny_c1 code a h most)) (l11DrawAny_c1 code a h most)) ((l11DrawAny_c1 code a h most)+(1:Int))=(((anyF code a h most).2).2).2)∧True)))∧True)))))))) (BrP (nxV code ((((l11F code a h most).2).2).1) ((((l11F code a h most).2).2).2) (24:Int) == (2:Int)) ((bdsOk ((((l11F code a h most).2).1).length) (Option.some (1:Int)) Option.none)∧((((l11F code a h most).1=(anyF code a h most).1)∧((cutL (((l11F code a h most).2).1) (Option.some (1:Int)) Option.none=((anyF code a h most).2).1)∧True))∧(((code=code)∧((nxA (code.length) ((((l11F code a h most).2).2).1) (24:Int)=(((anyF code a h most).2).2).1)∧((nxH ((((l11F code a h most).2).2).2) (24:Int)=(((anyF code a h most).2).2).2)∧True)))∧True))) ((((l11F code a h most).1=(anyF code a h most).1)∧((((l11F code a h most).2).1=((anyF code a h most).2).1)∧True))∧(((code=code)∧((nxA (code.length) ((((l11F code a h most).2).2).1) (24:Int)=(((anyF code a h most).2).2).1)∧((nxH ((((l11F code a h most).2).2).2) (24:Int)=(((anyF code a h most).2).2).2)∧True)))∧True)))))))))
theorem l11DrawAny_vc (code:List Int) (a:Int) (h:Int) (most:Int):runF Try.prog (gam l11DrawAny_G) noWr (l11DrawAny_ann code a h most) Try.f48 (bodyOf Try.f48) [(0,0)] [.box [.ints .u8 (code),.int .i64 (a),.int .u64 (h)],.c (.int .i64 (most))] (l11DrawAny_p code a h most)=l11DrawAny_V code a h most:=by kernel_rfl
theorem l11DrawAny_ok (code:List Int) (a:Int) (h:Int) (most:Int) (hpre:(l11DrawAny_p code a h most).pre):l11DrawAny_V code a h most:=by
 simp only [l11DrawAny_p,l11DrawAny_V,l11DrawAny_c1,l11DrawAny_c2,l11DrawAny_c3,BrP_iff,u1,u2,u3,u4,u5,u6,u7,u8,u9,v1,v2,v3,v4,v5,v6,v7,v8,v9,w1,w2,w3,w4,markL_length,inB,InR,room,bdsOk] at hpre ⊢
 obtain ⟨hb,hc,h0,h1,h2,h3⟩:=hpre
 have L:=l11F_ok hb (h:=h) h0 h1 h2 h3
 refine ⟨⟨⟨hb,hc,h0,h1,h2,h3⟩,⟨⟩,trivial⟩,fun _ _=>?_⟩
 have e:anyF code a h most=anF code (l11F code a h most):=rfl
 rw [e]
 generalize l11F code a h most=b at *
 obtain ⟨b1,b2,b3,b4,b5,b6⟩:=L
 have s:=nxA_in (n:=24) b5 b6
 have s2:=nxA_in (n:=(b.1.length:Int)) s.1 s.2
 have s3:=nxA_in (n:=(b.1.length:Int)) s2.1 s2.2
 have I:=nxV_in hb (nxA code.length b.2.2.1 24) (nxH b.2.2.2 24) (n:=(b.1.length:Int)) (by omega)
 have J:=nxV_in hb (nxA code.length (nxA code.length b.2.2.1 24) (b.1.length:Int)) (nxH (nxH b.2.2.2 24) (b.1.length:Int)) (n:=(b.1.length:Int)) (by omega)
 refine ⟨⟨hb,b5,by omega⟩,fun z=>?_,fun z=>⟨fun z2=>?_,fun z2=>⟨fun z3=>?_,fun z3=>?_⟩⟩⟩
 ·have R:anF code b=(b.1,(g10 code (anA code b) (anH b) (b.1.length:Int)).1,(g10 code (anA code b) (anH b) (b.1.length:Int)).2):=if_pos z
  rw [R]
  exact ⟨⟨hb,hc,s.1,s.2,by omega,by omega⟩,⟨rfl,rfl⟩,rfl,rfl⟩
 ·have R:anF code b=(b.1.set (anI code b).toNat ((b.1.getD (anI code b).toNat []).set (anJ code b).toNat (anV code b)),b.2.1,
      nxA code.length (nxA code.length (nxA code.length (anA code b) (b.1.length:Int)) (b.1.length:Int)) ((b.1.length:Int)+1),nxH (nxH (nxH (anH b) (b.1.length:Int)) (b.1.length:Int)) ((b.1.length:Int)+1)):=(if_neg z).trans (if_pos z2)
  rw [R]
  have row:=(b3.2 (nxV code (nxA code.length b.2.2.1 24) (nxH b.2.2.2 24) (b.1.length:Int)).toNat (by omega)).1
  exact ⟨⟨hb,s.1,by omega⟩,by omega,⟨hb,s2.1,by omega⟩,by omega,⟨hb,s3.1,by omega⟩,by rw [row];omega,⟨rfl,rfl⟩,rfl,rfl⟩
 ·have R:anF code b=(b.1,b.2.1.drop 1,anA code b,anH b):=(if_neg z).trans ((if_neg z2).trans (if_pos z3))
  rw [R]
  have l4:=b4.1
  exact ⟨by omega,⟨rfl,rfl⟩,rfl,rfl⟩
 ·have R:anF code b=(b.1,b.2.1,anA code b,anH b):=(if_neg z).trans ((if_neg z2).trans (if_neg z3))
  rw [R]
  exact ⟨⟨rfl,rfl⟩,rfl,rfl⟩
theorem l11DrawAny_fits:Fits Try.prog 48 ⟨[(0,0)],l11DrawAny_ct⟩:=by
 refine ffn (Γ:=gam l11DrawAny_G) (gok_cons l01Next_fits (gok_cons l10Draw_fits (gok_cons l11Draw_fits gok_nil))) Try.func48 fun ds p h hp=>?_
 unfold l11DrawAny_ct at h
 split at h
 ·cases h
  exact ⟨noWr,l11DrawAny_ann _ _ _ _ ,by rw [l11DrawAny_vc];exact l11DrawAny_ok _ _ _ _  hp⟩
 ·cases h
def pbY (code:List Int):Bd:=anyF code 0 (frH code code.length) 4
def pbZ (code:List Int):Bd:=anyF code (pbY code).2.2.1 (pbY code).2.2.2 4
def DrawProductBrace_p (code:List Int):Post:=⟨bytesB code∧code.length≤4096,.tup [.inr [.rows 22 2 .i64 ((pbY code).1),.ro (.rows .i64 ((pbY code).2.1))],.inr [.rows 22 2 .i64 ((pbZ code).1),.ro (.rows .i64 ((pbZ code).2.1))]],[]⟩
def DrawProductBrace_ct:List AD→Option Post
 | [.c (.ints .u8 (code))]=>some (DrawProductBrace_p code)
 | _=>none
def DrawProductBrace_G:List (Nat×Ctr):=[(47,⟨[],l01From_ct⟩),(48,⟨[(0,0)],l11DrawAny_ct⟩)]
def DrawProductBrace_V (code:List Int):Prop :=
 ((((bytesB code)∧(code.length≤(4096:Nat)))∧True)∧((((bytesB code)∧((code.length≤(4096:Nat))∧(((0:Int)≤(0:Int))∧(((0:Int)≤(↑(code.length):Int))∧(((1:Int)≤(4:Int))∧((4:Int)≤(5:Int)))))))∧((code=code)∧True))∧((((bytesB code)∧((code.length≤(4096:Nat))∧(((0:Int)≤(((anyF code (0:Int) (frH code (code.length)) (4:Int)).2).2).1)∧(((((anyF code (0:Int) (frH code (code.length)) (4:Int)).2).2).1≤(↑(code.length):Int))∧(((1:Int)≤(4:Int))∧((4:Int)≤(5:Int)))))))∧((code=code)∧True))∧(((((anyF code (0:Int) (frH code (code.length)) (4:Int)).1=(pbY code).1)∧((((anyF code (0:Int) (frH code (code.length)) (4:Int)).2).1=((pbY code).2).1)∧True))∧((((anyF code ((((anyF code (0:Int) (frH code (code.length)) (4:Int)).2).2).1) ((((anyF code (0:Int) (frH code (code.length)) (4:Int)).2).2).2) (4:Int)).1=(pbZ code).1)∧((((anyF code ((((anyF code (0:Int) (frH code (code.length)) (4:Int)).2).2).1) ((((anyF code (0:Int) (frH code (code.length)) (4:Int)).2).2).2) (4:Int)).2).1=((pbZ code).2).1)∧True))∧True))∧True))))
theorem DrawProductBrace_vc (code:List Int):runF Try.prog (gam DrawProductBrace_G) noWr noAnn Try.f17 (bodyOf Try.f17) [] [.c (.ints .u8 (code))] (DrawProductBrace_p code)=DrawProductBrace_V code:=by kernel_rfl
theorem DrawProductBrace_ok (code:List Int) (hpre:(DrawProductBrace_p code).pre):DrawProductBrace_V code:=by
 simp only [DrawProductBrace_p,DrawProductBrace_V,BrP_iff,u1,u2,u3,u4,u5,u6,u7,u8,u9,v1,v2,v3,v4,v5,v6,v7,v8,v9,w1,w2,w3,w4,markL_length,inB,InR,room,bdsOk] at hpre ⊢
 obtain ⟨hb,hc⟩:=hpre
 have A:=anF_ok hb (l11F_ok hb (h:=frH code code.length) (a:=0) (most:=4) (by omega) (by omega) (by omega) (by omega))
 exact ⟨⟨hb,hc⟩,⟨hb,hc,by omega,by omega,by omega,by omega⟩,⟨hb,hc,A.2.2.2.2.1,A.2.2.2.2.2,by omega,by omega⟩,⟨rfl,rfl⟩,rfl,rfl⟩
theorem DrawProductBrace_fits:Fits Try.prog 17 ⟨[],DrawProductBrace_ct⟩:=by
 refine ffn (Γ:=gam DrawProductBrace_G) (gok_cons l01From_fits (gok_cons l11DrawAny_fits gok_nil)) Try.func17 fun ds p h hp=>?_
 unfold DrawProductBrace_ct at h
 split at h
 ·cases h
  exact ⟨noWr,noAnn,by rw [DrawProductBrace_vc];exact DrawProductBrace_ok _  hp⟩
 ·cases h
theorem pb_room {code:List Int} (hb:bytesB code):(roomR (pbY code).1∧roomR (pbY code).2.1∧(pbY code).1.length≤5∧(pbY code).2.1.length≤5)∧roomR (pbZ code).1∧roomR (pbZ code).2.1∧(pbZ code).1.length≤5∧(pbZ code).2.1.length≤5:=by
 have A:=anF_ok hb (l11F_ok hb (h:=frH code code.length) (a:=0) (most:=4) (by omega) (by omega) (by omega) (by omega))
 have B:=anF_ok hb (l11F_ok hb (h:=(pbY code).2.2.2) (a:=(pbY code).2.2.1) (most:=4) A.2.2.2.2.1 A.2.2.2.2.2 (by omega) (by omega))
 exact ⟨⟨A.1,A.2.1,A.2.2.1,A.2.2.2.1⟩,B.1,B.2.1,B.2.2.1,B.2.2.2.1⟩
end Go.Sx
