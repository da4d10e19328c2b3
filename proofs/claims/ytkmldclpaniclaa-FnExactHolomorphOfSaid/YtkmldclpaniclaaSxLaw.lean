/- SxLaw -/
import Derived.Test.YtkmldclpaniclaaHolI
import Derived.Test.YtkmldclpaniclaaRows
import Derived.JoinedOf
import Derived.KernelRfl
import Derived.Test.YtkmldclpaniclaaSxZ
import Derived.ProofKit
import Derived.OpenShut
import Derived.Lib.SmallJoins
import Derived.Deep.Matrix
section
open Go Go.Proofs
namespace Go.Sx
set_option linter.unusedSimpArgs false
set_option linter.unusedVariables false
def szGroup_p (l:List (List Int)) (k:Int):Post:=⟨(l.length:Int)≤9223372036854775807∧(∀r∈l,(r.length:Int)≤9223372036854775807)∧0≤k∧k≤1099511627776,.c (.int .i64 (if k<(l.length:Int)+(sumL l:Int) then -1 else k - (l.length:Int) - (sumL l:Int))),[]⟩
def szGroup_ct:List AD→Option Post
 | [.agg [.rows .i64 (l)],.c (.int .i64 (k))]=>some (szGroup_p l k)
 | _=>none
def szGroup_G:List (Nat×Ctr):=[(19,⟨[],szInt64SS_ct⟩)]
def szGroup_V (l:List (List Int)) (k:Int):Prop :=
 (((((↑(l.length):Int)≤(9223372036854775807:Int))∧((∀(r:List Int),r∈l→(↑(r.length):Int)≤(9223372036854775807:Int))∧(((0:Int)≤k)∧(k≤(1099511627776:Int)))))∧True)∧(BrP (decide ((if k<(↑(l.length):Int)+(↑(sumL l):Int) then (-1:Int) else k - (↑(l.length):Int) - (↑(sumL l):Int))<(0:Int))) (((-1:Int)=if k<(↑(l.length):Int)+(↑(sumL l):Int) then (-1:Int) else k - (↑(l.length):Int) - (↑(sumL l):Int))∧True) (((if k<(↑(l.length):Int)+(↑(sumL l):Int) then (-1:Int) else k - (↑(l.length):Int) - (↑(sumL l):Int))=if k<(↑(l.length):Int)+(↑(sumL l):Int) then (-1:Int) else k - (↑(l.length):Int) - (↑(sumL l):Int))∧True)))
theorem szGroup_vc (l:List (List Int)) (k:Int):runF Try.prog (gam szGroup_G) noWr noAnn Try.f5 (bodyOf Try.f5) [] [.agg [.rows .i64 (l)],.c (.int .i64 (k))] (szGroup_p l k)=szGroup_V l k:=by kernel_rfl
theorem szGroup_ok (l:List (List Int)) (k:Int) (hpre:(szGroup_p l k).pre):szGroup_V l k:=by
 simp only [szGroup_p,szGroup_V,BrP_iff,u1,u2,u3,u4,u5,u6,u7,u8,u9,v1,v2,v3,v4,v5,v6,v7,v8,v9,w1,w2,w3,w4,markL_length,inB,InR,room,bdsOk] at hpre ⊢
 refine ⟨hpre,fun h=>?_,fun h=>trivial⟩
 split at h
 ·rename_i h1;rw [if_pos h1]
 ·omega
theorem szGroup_fits:Fits Try.prog 5 ⟨[],szGroup_ct⟩:=by
 refine ffn (Γ:=gam szGroup_G) (gok_cons szInt64SS_fits gok_nil) Try.func5 fun ds p h hp=>?_
 unfold szGroup_ct at h
 split at h
 ·cases h
  exact ⟨noWr,noAnn,by rw [szGroup_vc];exact szGroup_ok _ _  hp⟩
 ·cases h
def toGroup_p (l:List (List Int)):Post:=⟨roomR l,.agg [.rows 42 2 .i64 (l)],[]⟩
def toGroup_ct:List AD→Option Post
 | [.agg [.rows .i64 (l)]]=>some (toGroup_p l)
 | _=>none
def toGroup_G:List (Nat×Ctr):=[(24,⟨[],toInt64SS_ct⟩)]
def toGroup_V (l:List (List Int)):Prop :=
 (((roomR l)∧True)∧(((l=l)∧True)∧True))
theorem toGroup_vc (l:List (List Int)):runF Try.prog (gam toGroup_G) noWr noAnn Try.f7 (bodyOf Try.f7) [] [.agg [.rows .i64 (l)]] (toGroup_p l)=toGroup_V l:=by kernel_rfl
theorem toGroup_ok (l:List (List Int)) (hpre:(toGroup_p l).pre):toGroup_V l:=by
 simp only [toGroup_p,toGroup_V,BrP_iff,u1,u2,u3,u4,u5,u6,u7,u8,u9,v1,v2,v3,v4,v5,v6,v7,v8,v9,w1,w2,w3,w4,markL_length,inB,InR,room,bdsOk] at hpre ⊢
 exact hpre
theorem toGroup_fits:Fits Try.prog 7 ⟨[],toGroup_ct⟩:=by
 refine ffn (Γ:=gam toGroup_G) (gok_cons toInt64SS_fits gok_nil) Try.func7 fun ds p h hp=>?_
 unfold toGroup_ct at h
 split at h
 ·cases h
  exact ⟨noWr,noAnn,by rw [toGroup_vc];exact toGroup_ok _  hp⟩
 ·cases h
def eqGroup_p (a:List (List Int)) (b:List (List Int)):Post:=⟨roomR a,.c (.bool (decide (a=b))),[]⟩
def eqGroup_ct:List AD→Option Post
 | [.agg [.rows .i64 (a)],.agg [.rows .i64 (b)]]=>some (eqGroup_p a b)
 | _=>none
def eqGroup_G:List (Nat×Ctr):=[(9,⟨[],eqInt64SS_ct⟩)]
def eqGroup_V (a:List (List Int)) (b:List (List Int)):Prop :=
 (((roomR a)∧True)∧(BrP (!decide (a=b)) ((false=decide (a=b))∧True) ((true=decide (a=b))∧True)))
theorem eqGroup_vc (a:List (List Int)) (b:List (List Int)):runF Try.prog (gam eqGroup_G) noWr noAnn Try.f10 (bodyOf Try.f10) [] [.agg [.rows .i64 (a)],.agg [.rows .i64 (b)]] (eqGroup_p a b)=eqGroup_V a b:=by kernel_rfl
theorem eqGroup_ok (a:List (List Int)) (b:List (List Int)) (hpre:(eqGroup_p a b).pre):eqGroup_V a b:=by
 simp only [eqGroup_p,eqGroup_V,BrP_iff,u1,u2,u3,u4,u5,u6,u7,u8,u9,v1,v2,v3,v4,v5,v6,v7,v8,v9,w1,w2,w3,w4,markL_length,inB,InR,room,bdsOk] at hpre ⊢
 exact ⟨hpre,fun h=>(decide_eq_false h).symm,fun h=>(decide_eq_true h).symm⟩
theorem eqGroup_fits:Fits Try.prog 10 ⟨[],eqGroup_ct⟩:=by
 refine ffn (Γ:=gam eqGroup_G) (gok_cons eqInt64SS_fits gok_nil) Try.func10 fun ds p h hp=>?_
 unfold eqGroup_ct at h
 split at h
 ·cases h
  exact ⟨noWr,noAnn,by rw [eqGroup_vc];exact eqGroup_ok _ _  hp⟩
 ·cases h
def markGroup_p (l:List (List Int)) (k:Int):Post:=⟨l.length≤1048576∧sumL l≤1048576∧0≤k∧k≤1073741824,.c (.int .i64 (k+(sumL l:Int))),[.rows 42 2 .i64 (markR l k)]⟩
def markGroup_ct:List AD→Option Post
 | [.agg [.rows .i64 (l)],.c (.int .i64 (k))]=>some (markGroup_p l k)
 | _=>none
def markGroup_G:List (Nat×Ctr):=[(12,⟨[(0,0)],markInt64SS_ct⟩)]
def markGroup_V (l:List (List Int)) (k:Int):Prop :=
 ((((l.length≤(1048576:Nat))∧((sumL l≤(1048576:Nat))∧(((0:Int)≤k)∧(k≤(1073741824:Int)))))∧((List.map List.length (markR l k)=List.map List.length l)∧True))∧((k+(↑(sumL l):Int)=k+(↑(sumL l):Int))∧((markR l k=markR l k)∧True)))
theorem markGroup_vc (l:List (List Int)) (k:Int):runF Try.prog (gam markGroup_G) noWr noAnn Try.f11 (bodyOf Try.f11) [(0,0)] [.agg [.rows .i64 (l)],.c (.int .i64 (k))] (markGroup_p l k)=markGroup_V l k:=by kernel_rfl
theorem markGroup_ok (l:List (List Int)) (k:Int) (hpre:(markGroup_p l k).pre):markGroup_V l k:=by
 simp only [markGroup_p,markGroup_V,BrP_iff,u1,u2,u3,u4,u5,u6,u7,u8,u9,v1,v2,v3,v4,v5,v6,v7,v8,v9,w1,w2,w3,w4,markL_length,inB,InR,room,bdsOk] at hpre ⊢
 exact ⟨hpre,markR_lens l k⟩
theorem markGroup_fits:Fits Try.prog 11 ⟨[(0,0)],markGroup_ct⟩:=by
 refine ffn (Γ:=gam markGroup_G) (gok_cons markInt64SS_fits gok_nil) Try.func11 fun ds p h hp=>?_
 unfold markGroup_ct at h
 split at h
 ·cases h
  exact ⟨noWr,noAnn,by rw [markGroup_vc];exact markGroup_ok _ _  hp⟩
 ·cases h
def hoC (t:List (List Int)):List (List Int)×Int:=(if grpB t=true then if t.length≤7 then insA (hoP t (auF t) t.length 0) else [] else [],if grpB t=true then if t.length≤7 then 0 else 3 else 1)
theorem sum_le (k:Nat):∀l:List (List Int),(∀r∈l,r.length≤k)→sumL l≤l.length * k
 | [],_=>by simp [sumL]
 | r::l,h=>by
  have h1:=h r List.mem_cons_self
  have h2:=sum_le k l fun x hx=>h x (List.mem_cons_of_mem _ hx)
  simp only [sumL,List.map_cons,List.sum_cons,List.length_cons,Nat.add_mul] at *
  omega
theorem hoC_room (t:List (List Int)):(hoC t).1.length≤1048576∧sumL (hoC t).1≤1048576∧(∀r∈(hoC t).1,r.length≤1048576):=by
 simp only [hoC]
 split
 ·rename_i h
  split
  ·rename_i hn
   have G:=grpT_of h
   have hN:=hoP_nodup G hn (a:=t.length) (i:=0) (.inr ⟨by omega,rfl⟩)
   have hL:=hoP_len G hn (a:=t.length) (i:=0) (by omega)
   obtain ⟨_,s2,s3⟩:=insA_ok _ _ rfl hN
   have mem:∀x,x∈insA (hoP t (auF t) t.length 0)→x.length≤7:=fun x hx=>by
    obtain ⟨y,f,_,hfm,rfl⟩:=hoP_mem ((s2 x).1 hx)
    rw [thL_length,(au_iso G hn hfm).len];exact hn
   have:=sum_le 7 _ mem
   exact ⟨by omega,by omega,fun r hr=>by have:=mem r hr;omega⟩
  ·exact ⟨by simp,by simp [sumL],fun r hr=>by simp at hr⟩
 ·exact ⟨by simp,by simp [sumL],fun r hr=>by simp at hr⟩
def lHol_p (t:List (List Int)):Post:=⟨(t.length:Int)≤9223372036854775807∧∀r∈t,(r.length:Int)≤9223372036854775807,.c (.bool (true)),[]⟩
def lHol_ct:List AD→Option Post
 | [.agg [.rows .i64 (t)]]=>some (lHol_p t)
 | _=>none
def lHol_G:List (Nat×Ctr):=[(5,⟨[],szGroup_ct⟩),(7,⟨[],toGroup_ct⟩),(10,⟨[],eqGroup_ct⟩),(11,⟨[(0,0)],markGroup_ct⟩),(9,⟨[],eqInt64SS_ct⟩),(12,⟨[(0,0)],markInt64SS_ct⟩),(13,⟨[],heldInt64SS_ct⟩),(6,⟨[],sHol_ct⟩),(8,⟨[],iHol_ct⟩)]
def lHol_c1 (t:List (List Int)):=(hoP t (auF t) (t.length) (0:Nat))
def lHol_V (t:List (List Int)):Prop :=
 (((((↑(t.length):Int)≤(9223372036854775807:Int))∧((∀(r:List Int),r∈t→(↑(r.length):Int)≤(9223372036854775807:Int))∧(((0:Int)≤(1048576:Int))∧((1048576:Int)≤(1099511627776:Int)))))∧True)∧(BrP (decide ((if (1048576:Int)<(↑(t.length):Int)+(↑(sumL t):Int) then (-1:Int) else (1048576:Int) - (↑(t.length):Int) - (↑(sumL t):Int))<(0:Int))) ((true=true)∧True) (((roomR t)∧True)∧(((roomR t)∧True)∧(((roomR t)∧True)∧(((roomR t)∧True)∧(((roomR (if grpB t=true then if t.length≤(7:Nat) then insA (lHol_c1 t) else ([]:List (List Int)) else ([]:List (List Int))))∧True)∧(BrP (!decide ((if grpB t=true then if t.length≤(7:Nat) then insA (hoP t (auF t) (t.length) (0:Nat)) else ([]:List (List Int)) else ([]:List (List Int)))=if grpB t=true then if t.length≤(7:Nat) then insA (hoP t (auF t) (t.length) (0:Nat)) else ([]:List (List Int)) else ([]:List (List Int)))) ((false=true)∧True) (BrP ((if grpB t=true then if t.length≤(7:Nat) then (0:Int) else (3:Int) else (1:Int)) != if grpB t=true then if t.length≤(7:Nat) then (0:Int) else (3:Int) else (1:Int)) ((false=true)∧True) (((roomR t)∧True)∧(((roomR t)∧True)∧(BrP (!decide (t=t)) ((false=true)∧True) ((((t.length≤(1048576:Nat))∧((sumL t≤(1048576:Nat))∧(((0:Int)≤(1:Int))∧((1:Int)≤(1073741824:Int)))))∧((List.map List.length (markR t (1:Int))=List.map List.length t)∧True))∧(BrP (decide ((1:Int)+(↑(sumL t):Int)<(0:Int))) ((false=true)∧True)
 (((roomR (if grpB t=true then if t.length≤(7:Nat) then insA (lHol_c1 t) else ([]:List (List Int)) else ([]:List (List Int))))∧True)∧(BrP (!decide ((if grpB t=true then if t.length≤(7:Nat) then insA (hoP t (auF t) (t.length) (0:Nat)) else ([]:List (List Int)) else ([]:List (List Int)))=if grpB t=true then if t.length≤(7:Nat) then insA (hoP t (auF t) (t.length) (0:Nat)) else ([]:List (List Int)) else ([]:List (List Int)))) ((false=true)∧True) (BrP ((if grpB t=true then if t.length≤(7:Nat) then (0:Int) else (3:Int) else (1:Int)) != if grpB t=true then if t.length≤(7:Nat) then (0:Int) else (3:Int) else (1:Int)) ((false=true)∧True) (((((if grpB t=true then if t.length≤(7:Nat) then insA (lHol_c1 t) else ([]:List (List Int)) else ([]:List (List Int))).length≤(1048576:Nat))∧((sumL (if grpB t=true then if t.length≤(7:Nat) then insA (lHol_c1 t) else ([]:List (List Int)) else ([]:List (List Int)))≤(1048576:Nat))∧(((0:Int)≤(1:Int))∧((1:Int)≤(1073741824:Int)))))∧((List.map List.length (markR (if grpB t=true then if t.length≤(7:Nat) then insA (lHol_c1 t) else ([]:List (List Int)) else ([]:List (List Int))) (1:Int))=List.map List.length (if grpB t=true then if t.length≤(7:Nat) then insA (lHol_c1 t) else ([]:List (List Int)) else ([]:List (List Int))))∧True)) ∧
 (((((markR (if grpB t=true then if t.length≤(7:Nat) then insA (lHol_c1 t) else ([]:List (List Int)) else ([]:List (List Int))) (1:Int)).length≤(1048576:Nat))∧((sumL (markR (if grpB t=true then if t.length≤(7:Nat) then insA (lHol_c1 t) else ([]:List (List Int)) else ([]:List (List Int))) (1:Int))≤(1048576:Nat))∧(((0:Int)≤(1:Int))∧((1:Int)≤(1073741824:Int)))))∧True)∧(BrP (decide ((if markR (if grpB t=true then if t.length≤(7:Nat) then insA (hoP t (auF t) (t.length) (0:Nat)) else ([]:List (List Int)) else ([]:List (List Int))) (1:Int)=markR (markR (if grpB t=true then if t.length≤(7:Nat) then insA (hoP t (auF t) (t.length) (0:Nat)) else ([]:List (List Int)) else ([]:List (List Int))) (1:Int)) (1:Int) then (1:Int)+(↑(sumL (markR (if grpB t=true then if t.length≤(7:Nat) then insA (hoP t (auF t) (t.length) (0:Nat)) else ([]:List (List Int)) else ([]:List (List Int))) (1:Int))):Int) else (-1:Int))<(0:Int))) ((false=true)∧True)
 (BrP ((if markR (if grpB t=true then if t.length≤(7:Nat) then insA (hoP t (auF t) (t.length) (0:Nat)) else ([]:List (List Int)) else ([]:List (List Int))) (1:Int)=markR (markR (if grpB t=true then if t.length≤(7:Nat) then insA (hoP t (auF t) (t.length) (0:Nat)) else ([]:List (List Int)) else ([]:List (List Int))) (1:Int)) (1:Int) then (1:Int)+(↑(sumL (markR (if grpB t=true then if t.length≤(7:Nat) then insA (hoP t (auF t) (t.length) (0:Nat)) else ([]:List (List Int)) else ([]:List (List Int))) (1:Int))):Int) else (-1:Int)) != (1:Int)+(↑(sumL (if grpB t=true then if t.length≤(7:Nat) then insA (hoP t (auF t) (t.length) (0:Nat)) else ([]:List (List Int)) else ([]:List (List Int)))):Int)) ((false=true)∧True) (((roomR t)∧True)∧(((roomR t)∧True)∧(((roomR (if grpB t=true then if t.length≤(7:Nat) then insA (lHol_c1 t) else ([]:List (List Int)) else ([]:List (List Int))))∧True)∧(BrP (!decide ((if grpB t=true then if t.length≤(7:Nat) then insA (hoP t (auF t) (t.length) (0:Nat)) else ([]:List (List Int)) else ([]:List (List Int)))=if grpB t=true then if t.length≤(7:Nat) then insA (hoP t (auF t) (t.length) (0:Nat)) else ([]:List (List Int)) else ([]:List (List Int)))) ((false=true)∧True) (BrP ((if grpB t=true then if t.length≤(7:Nat) then (0:Int) else (3:Int) else (1:Int)) != if grpB t=true then if t.length≤(7:Nat) then (0:Int) else (3:Int) else (1:Int)) ((false=true)∧True)
 (((((markR (if grpB t=true then if t.length≤(7:Nat) then insA (lHol_c1 t) else ([]:List (List Int)) else ([]:List (List Int))) (1:Int)).length≤(1048576:Nat))∧((sumL (markR (if grpB t=true then if t.length≤(7:Nat) then insA (lHol_c1 t) else ([]:List (List Int)) else ([]:List (List Int))) (1:Int))≤(1048576:Nat))∧(((0:Int)≤(1:Int))∧((1:Int)≤(1073741824:Int)))))∧True)∧(BrP (decide ((if markR (if grpB t=true then if t.length≤(7:Nat) then insA (hoP t (auF t) (t.length) (0:Nat)) else ([]:List (List Int)) else ([]:List (List Int))) (1:Int)=markR (markR (if grpB t=true then if t.length≤(7:Nat) then insA (hoP t (auF t) (t.length) (0:Nat)) else ([]:List (List Int)) else ([]:List (List Int))) (1:Int)) (1:Int) then (1:Int)+(↑(sumL (markR (if grpB t=true then if t.length≤(7:Nat) then insA (hoP t (auF t) (t.length) (0:Nat)) else ([]:List (List Int)) else ([]:List (List Int))) (1:Int))):Int) else (-1:Int))<(0:Int))) ((false=true)∧True)
 (BrP ((if markR (if grpB t=true then if t.length≤(7:Nat) then insA (hoP t (auF t) (t.length) (0:Nat)) else ([]:List (List Int)) else ([]:List (List Int))) (1:Int)=markR (markR (if grpB t=true then if t.length≤(7:Nat) then insA (hoP t (auF t) (t.length) (0:Nat)) else ([]:List (List Int)) else ([]:List (List Int))) (1:Int)) (1:Int) then (1:Int)+(↑(sumL (markR (if grpB t=true then if t.length≤(7:Nat) then insA (hoP t (auF t) (t.length) (0:Nat)) else ([]:List (List Int)) else ([]:List (List Int))) (1:Int))):Int) else (-1:Int)) != (1:Int)+(↑(sumL (if grpB t=true then if t.length≤(7:Nat) then insA (hoP t (auF t) (t.length) (0:Nat)) else ([]:List (List Int)) else ([]:List (List Int)))):Int)) ((false=true)∧True) ((true=true)∧True))))))))))))))))))))))))))))))
theorem lHol_vc (t:List (List Int)):runF Try.prog (gam lHol_G) noWr noAnn Try.f3 (bodyOf Try.f3) [] [.agg [.rows .i64 (t)]] (lHol_p t)=lHol_V t:=by kernel_rfl
theorem lHol_ok (t:List (List Int)) (hpre:(lHol_p t).pre):lHol_V t:=by
 simp only [lHol_p,lHol_V,lHol_c1,BrP_iff,u1,u2,u3,u4,u5,u6,u7,u8,u9,v1,v2,v3,v4,v5,v6,v7,v8,v9,w1,w2,w3,w4,markL_length,inB,InR,room,bdsOk] at hpre ⊢
 have E1:(if grpB t=true then if t.length≤7 then insA (hoP t (auF t) t.length 0) else [] else [])=(hoC t).1:=rfl
 have E2:(if grpB t=true then if t.length≤7 then 0 else 3 else 1:Int)=(hoC t).2:=rfl
 simp only [E1,E2]
 obtain ⟨a1,a2⟩:=hpre
 refine ⟨⟨a1,a2,by omega,by omega⟩,fun _=>trivial,fun h=>?_⟩
 obtain ⟨e1,e2,e3⟩:=size_of h
 obtain ⟨c1,c2,c3⟩:=hoC_room t
 have c4:roomR (hoC t).1:=⟨by omega,fun r hr=>by have:=c3 r hr;omega⟩
 have c5:¬ (1+(sumL t:Int)<0):=by omega
 have c6:¬ (1+(sumL (hoC t).1:Int)<0):=by omega
 simp [e1,e2,e3,c1,c2,c4,c5,c6,markR_length,markR_lens,markR_sum,markR_mark]
theorem lHol_fits:Fits Try.prog 3 ⟨[],lHol_ct⟩:=by
 refine ffn (Γ:=gam lHol_G) (gok_cons szGroup_fits (gok_cons toGroup_fits (gok_cons eqGroup_fits (gok_cons markGroup_fits (gok_cons eqInt64SS_fits (gok_cons markInt64SS_fits (gok_cons heldInt64SS_fits (gok_cons sHol_fits (gok_cons iHol_fits gok_nil))))))))) Try.func3 fun ds p h hp=>?_
 unfold lHol_ct at h
 split at h
 ·cases h
  exact ⟨noWr,noAnn,by rw [lHol_vc];exact lHol_ok _  hp⟩
 ·cases h
end Go.Sx
end
section
namespace Go.Proofs.Ytkmldclpaniclaa
theorem band {x y:Bool} (h:x=true) (k:y=true):(x&&y)=true:=by rw [h,k];rfl
set_option maxRecDepth 10000000 in
def joinSigns:{ l:List Char // Try.prog.initOrder=String.ofList l }:=⟨_,rfl⟩
theorem joinList:Try.prog.initOrder.toList=joinSigns.1:=(congrArg String.toList joinSigns.2).trans String.toList_ofList
theorem joinCut:∃rest,behindMainWord (wordsSigns Try.prog.initOrder.toList)=['c','u','t']::rest:=by
 rw [joinList]
 have h:(behindMainWord (wordsSigns joinSigns.1)).head?=some ['c','u','t']:=by kernel_rfl
 cases hb:behindMainWord (wordsSigns joinSigns.1) with
 | nil=>rw [hb] at h;cases h
 | cons x y=>rw [hb] at h;cases h;exact ⟨y,rfl⟩
theorem joinStrip (rest:List (List Char)):stripLifts liftWords (['c','u','t']::rest)=([],['c','u','t']::rest):=by rfl
theorem joinHead:Try.prog.headLifts=[]:=by
 obtain ⟨rest,h⟩:=joinCut
 unfold Program.headLifts
 rw [h,joinStrip]
 rfl
theorem joinLater:Try.prog.laysLater=false:=by kernel_rfl
theorem joinReflect:Try.prog.bearsReflect=false:=by kernel_rfl
theorem joinRows:Try.prog.doorRows=[]:=by kernel_rfl
theorem joinDoor:Try.prog.doorFits []=true:=by
 unfold Program.doorFits
 rw [joinRows]
 rfl
theorem mayOf (P:Program) (rest:List (List Char)) (h:behindMainWord (wordsSigns P.initOrder.toList)=['c','u','t']::rest) (h1:P.laysLater=false) (h2:P.bearsReflect=false) (h3:P.doorFits []=true):P.mayEnter=true:=by
 unfold Program.mayEnter
 rw [h]
 simp only [joinStrip,h1,h2,h3]
 simp
theorem finalOf (P:Program) (rest:List (List Char)) (h:behindMainWord (wordsSigns P.initOrder.toList)=['c','u','t']::rest) (h1:P.headLifts=[]):(false == P.liftsFinal)=true:=by
 unfold Program.liftsFinal
 rw [h,h1]
 rfl
theorem makeOf (P:Program) (rest:List (List Char)) (h:behindMainWord (wordsSigns P.initOrder.toList)=['c','u','t']::rest):(P.make == some Make.cut)=true:=by
 have e1:(['c','u','t'] == "gc".toList)=false:=rfl
 have e2:(['c','u','t'] == "spec".toList)=false:=rfl
 have e3:(['c','u','t'] == "cut".toList)=true:=rfl
 unfold Program.make
 rw [h]
 simp only [e1,e2,e3,Bool.or_false,Bool.true_or,Bool.false_eq_true,if_true,if_false]
 rfl
theorem joinMay:Try.prog.mayEnter=true:=by
 obtain ⟨rest,h⟩:=joinCut
 exact mayOf _ rest h joinLater joinReflect joinDoor
theorem joinFinal:(false == Try.prog.liftsFinal)=true:=by
 obtain ⟨rest,h⟩:=joinCut
 exact finalOf _ rest h joinHead
theorem joinMake:(Try.prog.make == some Make.cut)=true:=by
 obtain ⟨rest,h⟩:=joinCut
 exact makeOf _ rest h
end Go.Proofs.Ytkmldclpaniclaa
end
section
namespace Go.Sx
set_option linter.unusedSimpArgs false
set_option linter.unusedVariables false
open Go.ChangeShapes Go.WideShapes Go.ChangeAt Go.RowKit Go.ChangeMaps Go.Deep
def I64s (n:Int):Prop:=-9223372036854775808≤n∧n≤9223372036854775807
theorem wf_i64' {n:Int} (h:(Lit.int .i64 n).wf=true):I64s n:=by
 simp only [Lit.wf,Bool.and_eq_true,decide_eq_true_eq] at h
 exact h
theorem maxLen_le:maxLen=9223372036854775807:=rfl
section
variable {H:Type} {enc:TypeId×Value→H} {P:Program} {W:World}
def Opn (P:Program) (W:World) (t:TypeId) (v:Value) (d:FC):Prop:=v.oneCell'=true∧Reads W v d
theorem opn_rows {t e q:TypeId} {fuel:Nat} {v:Value} {x:DataW H×List MemPlace} (ht:P.underlying t=some (.slice e)) (he:P.underlying e=some (.slice q)) (hq:P.underlying q=some (.int .i64))
  (ce:P.cellsOf e=1) (cq:P.cellsOf q=1) (h:DataW.trod enc P W 0 (fun _=>true) true fuel t [v]=some x) :
  ∃l:List (List Int),l.length≤maxLen∧(∀r∈l,r.length≤maxLen∧∀n∈r,I64s n)∧Opn P W t v (.rows .i64 l):=by
 rcases open_int_rows ht he hq ce cq h with ⟨h1,_⟩ | ⟨a,len,cap,A,L,Cc,Z,h1,_,hl,hm,_,hrow⟩
 ·simp only [List.cons.injEq,and_true] at h1
  subst h1
  exact ⟨[],Nat.zero_le _,by simp,rfl,none,0,rfl,Nat.le_refl _,fun h=>by simp at h⟩
 ·simp only [List.cons.injEq,and_true] at h1
  subst h1
  refine ⟨(List.range len).map fun r=>(Z r).take (L r),by simp;omega,?_,rfl,some a,cap,by simp,by simpa using hl,fun hpos=>?_⟩
  ·intro r hr
   simp only [List.mem_map,List.mem_range] at hr
   obtain ⟨j,hj,rfl⟩:=hr
   obtain ⟨_,k2,k3,k4,k5,_⟩:=hrow j (by omega)
   exact ⟨by simp;omega,fun n hn=>wf_i64' (k5 n (List.mem_of_mem_take hn))⟩
  ·simp only [List.length_map,List.length_range] at hpos
   obtain ⟨b,off,spot⟩:=a
   have hs:spot=none:=by simpa [Addr.add] using World.cell?_spot (hrow 0 (by omega)).1
   subst hs
   refine ⟨b,off,rfl,fun i hi=>?_⟩
   simp only [List.length_map,List.length_range] at hi
   obtain ⟨k1,k2,k3,k4,k5,k6,k7⟩:=hrow i (by omega)
   refine ⟨_,by rw [←add_plain];exact k1,?_⟩
   have hget:((List.range len).map fun r=>(Z r).take (L r)).getD i []=(Z i).take (L i):=by
    simp [List.getD_eq_getElem?_getD,hi]
   show ReadsI W .i64 _ _
   rw [hget]
   have hlen:((Z i).take (L i)).length=L i:=by simp;omega
   refine ⟨A i,Cc i,by rw [hlen],by rw [hlen];exact k2,fun hp=>?_⟩
   rw [hlen] at hp
   cases hA:A i with
   | none=>have:=k6 hA;omega
   | some a' =>
    obtain ⟨_,hc⟩:=k7 a' hA
    obtain ⟨b',off',spot'⟩:=a'
    have hs:spot'=none:=by simpa [Addr.add] using World.cell?_spot (hc 0 (by omega))
    subst hs
    refine ⟨b',off',rfl,fun j hj=>?_⟩
    rw [hlen] at hj
    refine ⟨_,by rw [←add_plain];exact hc j (by omega),?_⟩
    simp [List.getD_eq_getElem?_getD,List.getElem?_take,hj]
theorem arg_agg1 {t:TypeId} {v0:Value} {t0:TypeId} {d0:FC} (h0:Opn P W t0 v0 d0) (i:Nat):ArgRep P W [] [] [] i (.agg [d0]) (.agg #[v0]) :=
 ⟨_,rfl,rfl,fun j d hj=>match j,hj with
  | 0,hj=>by cases hj;exact ⟨v0,rfl,h0.1,h0.2⟩
  | j+1,hj=>by simp at hj⟩
open Go.Joins in
theorem opn_agg1 {r:Reach} {b0:Nat} {t:TypeId} {f0:Field} {v:Value} {d:DataW H} {p:List MemPlace} (hs:P.underlying t=some (.struct #[f0])) (hone:oneCellFields P #[f0]=true) (hC:P.cellsOf t=1)
  (hv:Value.okWide P W r b0 t v) (h:DataW.Trod enc P W 0 (fun _=>true) true t v d p) :
  ∃(v0:Value) (y0:DataW H×List MemPlace) (n:Nat),v=.agg #[v0]∧d=.agg [y0.1]∧p=y0.2∧DataW.trod enc P W 0 (fun _=>true) true n f0.type [v0]=some y0:=by
 obtain ⟨cs,rfl,hsz⟩:=okWide_struct hs hv
 have h1:cs.size=1:=hsz.trans hC
 obtain ⟨c0,rfl⟩:∃c0,cs=#[c0]:=by
  cases cs with
  | mk l=>match l,h1 with
   | [c],_=>exact ⟨c,rfl⟩
 obtain ⟨fuel,hf⟩:=h
 obtain ⟨y0,n,hx,_,h0⟩:=trod_struct1 hs hf
 obtain ⟨o0,k0⟩:=hone_of hone 0 f0 rfl
 simp only [Prod.mk.injEq] at hx
 exact ⟨c0,y0,n,rfl,hx.1,hx.2,by simpa [Value.cells,o0,k0] using h0⟩
theorem trodAll_keep (hl:laidOutB P=true) {W':World} (hb:Below W.heap.size W W'):∀{ts:List TypeId} {vs:List Value} {ds:List (DataW H)} {p:List MemPlace},(∀t∈ts,P.readableRec t=true∧t<P.types.size) →
  DataW.TrodAll enc P W 0 (fun _=>true) true ts vs ds p→(∀x∈p,x.block<W.heap.size)→DataW.TrodAll enc P W' 0 (fun b=>decide (b<W.heap.size)) true ts vs ds p
 | [],[],[],p,_,h,_=>h
 | t::ts,v::vs,d::ds,p,ht,h,hlt=>by
  obtain ⟨p1,p2,h1,h2,rfl⟩:=h
  exact ⟨p1,p2,Below.trod hl (ht t (by simp)).1 (ht t (by simp)).2 h1 hb (fun x hx=>hlt x (by simp [hx])),trodAll_keep hl hb (fun t' h'=>ht t' (by simp [h'])) h2 (fun x hx=>hlt x (by simp [hx])),rfl⟩
 | [],[],_::_,_,_,h,_=>h.elim
 | [],_::_,[],_,_,h,_=>h.elim
 | [],_::_,_::_,_,_,h,_=>h.elim
 | _::_,[],[],_,_,h,_=>h.elim
 | _::_,[],_::_,_,_,h,_=>h.elim
 | _::_,_::_,[],_,_,h,_=>h.elim
theorem trodAll_lens {W:World} {base:Nat} {sp:Nat→Bool} {hd:Bool}:∀{ts:List TypeId} {vs:List Value} {ds:List (DataW H)} {p:List MemPlace},DataW.TrodAll enc P W base sp hd ts vs ds p→vs.length=ts.length∧ds.length=ts.length
 | [],[],[],_,_=>⟨rfl,rfl⟩
 | t::ts,v::vs,d::ds,p,h=>by
  obtain ⟨p1,p2,_,h2,_⟩:=h
  have:=trodAll_lens h2
  simp [this.1,this.2]
 | [],[],_::_,_,h=>h.elim
 | [],_::_,[],_,h=>h.elim
 | [],_::_,_::_,_,h=>h.elim
 | _::_,[],[],_,h=>h.elim
 | _::_,[],_::_,_,h=>h.elim
 | _::_,_::_,[],_,h=>h.elim
end
theorem law_lifted {C:Checked} {os:Os} {H:Type} {enc:TypeId×Value→H} {f:FuncId} {fn:Func} {s:ChangeSpec} {conds:List PathCond} {fresh handsOn:Bool} {tb:TypeId}
  (own:ownKnob C.prog.godebug=none) (started:os.Started) (noInit:C.prog.inits.idxOf? f=none) (hfn:C.prog.funcs[f]?=some fn) (hlaid:laidOutB C.prog=true)
  (hvars:s.vars=[]) (hrd:∀t∈fn.params.toList,C.prog.readableRec t=true∧t<C.prog.types.size) (hres:fn.resultTypes=#[tb]) (htb:C.prog.underlying tb=some .bool)
  (hspec:∀ds:List (DataW H),ds.length=fn.params.toList.length→s.fn H ds={ results:=[.lit (.bool true)],args:=ds,vars:=[] })
  (witness:∃(w:World) (tape:Tape) (i:Input),w.os=os∧(w.forCall tape i).Shaped C.prog∧i.vars=[]∧Input.okWide C.prog (w.forCall tape i) .any w.heap.size f i ∧
   s.pre6 enc C.prog fn conds false (w.forCall tape i).memory i.args∧({}:Assume).holds C.prog (lone (Frame.enter C.prog f i.args .normal) [] (w.forCall tape i)))
  {ct:List AD→Option Post} (fits:Fits C.prog f ⟨[],ct⟩)
  (hopen:∀(W:World) (base:Nat) (vs:List Value) (ds:List (DataW H)) (p:List MemPlace),DataW.TrodAll enc C.prog W 0 (fun _=>true) true fn.params.toList vs ds p →
   (∀(j:Nat) t v,fn.params[j]?=some t→vs[j]?=some v→Value.okWide C.prog W .any base t v) →
   ∃(ads:List AD) (pre:Prop),ct ads=some ⟨pre,.c (.bool true),[]⟩∧pre∧vs.length=ads.length∧∀(i:Nat) (d:AD),ads[i]?=some d→∃v,vs[i]?=some v∧ArgRep C.prog W [] [] [] i d v) :
  ReturnsInHanded {} C os f .any (s.pre6 enc C.prog fn conds false) (s.post enc C.prog fn false fresh handsOn false):=by
 refine returnsInHanded_of_change own started noInit hfn witness ?_
 intro W base args ds gs before hval hW _ _
 have hW':=hW
 obtain ⟨p,q,hA,hV,rfl,hfz,hnd⟩:=hW
 rw [hvars] at hV
 obtain ⟨rfl,rfl⟩:=trodVars_none hV
 obtain ⟨ads,pre,h1,h2,h3,h4⟩:=hopen W base args.toList ds p hA (fun j t v ht hv=>hval j t v ht (by simpa using hv))
 have hrun:=fits.run W W args.toList ads _ [] [] h1 h2 h3 rfl rfl rfl (by simp) (by simp) (by simp) (fun q u hq=>⟨hq,by simp⟩) h4
 refine hrun.mono fun e W' ⟨v,ms',img,wG,he,haft,hms,_,_,hret⟩=>?_
 subst he
 have hv:v=.bool true:=hret.val
 subst hv
 have hB:Below W.heap.size W W':=haft.below
 have hlt:∀x∈p,x.block<W.heap.size:=fun x hx=>by simpa using hW'.lt x (by simp [hx])
 have hsp:=hspec ds (trodAll_lens hA).2
 refine ⟨_,rfl,ds,[],p++[],[],p,[],hW',?_,?_,?_,hB.frame _,fun h=>by cases h⟩
 ·rw [List.append_nil,hsp,hres]
  exact trodAll_cons_mk (shut_bool htb _) trodAll_mk0
 ·rw [List.append_nil,hsp]
  exact trodAll_keep hlaid hB hrd hA hlt
 ·rw [List.append_nil,hsp,hvars]
  rfl
end Go.Sx
end
