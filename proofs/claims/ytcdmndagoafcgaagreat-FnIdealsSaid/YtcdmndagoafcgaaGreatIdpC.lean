/- IdpC -/
import Derived.Test.YtcdmndagoafcgaaGreatIdcA
import Derived.Test.YtcdmndagoafcgaaGreatStar
import Derived.Test.YtcdmndagoafcgaaGreatNamD
import Derived.Test.YtcdmndagoafcgaaGreatMapA
open Go Go.Proofs
namespace Go.Sx
set_option linter.unusedSimpArgs false
set_option linter.unusedVariables false
def aA (Yg:List Int):Bd:=dn Yg 0 (dU Yg Yg.length) 8
def jZ (Yg:List Int) (a c:List (List Int)) (A H:Int):List Int:=if ay Yg A H 2=0 then aL (aR a c) (2 ^ (a.length - 1)) else aL (bv a) (2 ^ (a.length - 1))
def nH (Yg:List Int) (n:Nat) (A H:Int):Int:=ay Yg A H (2 * 2 ^ n) - 1
def dj (Yg:List Int) (b:Bd):Int :=
 if aK b.1 b.2.1=true then
  if 0<ay Yg b.2.2.1 b.2.2.2 4 then
   (jZ Yg b.1 b.2.1 (av Yg.length b.2.2.1 4) (az b.2.2.2 4)).getD (ay Yg (av Yg.length (av Yg.length b.2.2.1 4) 2) (az (az b.2.2.2 4) 2) ((jZ Yg b.1 b.2.1 (av Yg.length b.2.2.1 4) (az b.2.2.2 4)).length:Int)).toNat 0
  else nH Yg b.1.length (av Yg.length b.2.2.1 4) (az b.2.2.2 4)
 else nH Yg b.1.length b.2.2.1 b.2.2.2
theorem Ay (n x:Nat):aD ((2 ^ n - 1:Nat):Int) x=decide (x<n):=by
 rw [aD,Int.toNat_natCast,Nat.testBit_two_pow_sub_one]
theorem tJ {n:Nat} {v:Int} (h0:0≤v) (h1:v≤(n:Int) - 1):aD ((2 ^ n - 1:Nat):Int) v.toNat=true:=by
 rw [Ay,decide_eq_true_eq];omega
theorem Q4 {a c:List (List Int)} (g:bM a c):aR a c ((2 ^ a.length - 1:Nat):Int)=true:=by
 obtain ⟨ga,gc,hl⟩:=g;obtain ⟨n1,n2,ha⟩:=bA (dh ga);obtain ⟨_,_,hc⟩:=bA (dh gc);have L:=lX ⟨ga,gc,hl⟩
 simp only [aR,cQ,Bool.and_eq_true];refine ⟨⟨⟨⟨?_,?_⟩,?_⟩,?_⟩,?_⟩
 ·rw [Ay,decide_eq_true_eq];omega
 ·simp only [bv,List.all_eq_true,gU]
  intro x hx y hy
  have v:=(ha x (by simpa using hx)).2 y (by simpa using hy)
  rw [il,show aD ((2 ^ a.length - 1:Nat):Int) (en a x y).toNat=true from tJ v.1 v.2,Bool.or_true]
 ·simp only [cJ,List.all_eq_true,gV]
  intro x hx y hy
  have v:=(L.2 x (by simpa using hx)).2 y (by simpa using hy)
  rw [i6,show aD ((2 ^ a.length - 1:Nat):Int) (en (aO a c) x y).toNat=true from tJ v.1 v.2,Bool.or_true]
 ·simp only [cK,List.all_eq_true,gW]
  intro x hx y hy
  have hx:x<a.length:=by simpa using hx
  have hy:y<a.length:=by simpa using hy
  have v:=(ha x hx).2 y hy
  have b:=lS ga hx
  have w:=(ha (en a x y).toNat (by unfold en;omega)).2 (bk a x).toNat (by omega)
  rw [im,show aD ((2 ^ a.length - 1:Nat):Int) (en a (en a x y).toNat (bk a x).toNat).toNat=true from tJ w.1 w.2,Bool.or_true]
 ·simp only [cK,List.all_eq_true,gW]
  intro x hx y hy
  have hx:x<c.length:=by simpa using hx
  have hy:y<c.length:=by simpa using hy
  have v:=(hc x hx).2 y hy
  have b:=lS gc hx
  have w:=(hc (en c x y).toNat (by unfold en;omega)).2 (bk c x).toNat (by omega)
  rw [hl,im,show aD ((2 ^ c.length - 1:Nat):Int) (en c (en c x y).toNat (bk c x).toNat).toNat=true from tJ w.1 w.2,Bool.or_true]
theorem Az {p:Int→Bool} {k j:Nat} (hj:j<k) (hp:p (2 * (j:Int)+1)=true):2 * (j:Int)+1∈aL p k:=by
 simp only [aL,List.mem_map,List.mem_filter,List.mem_range];exact ⟨j,⟨hj,hp⟩,rfl⟩
theorem Ii {n:Nat} (h:1≤n):((2 ^ n - 1:Nat):Int)=2 * ((2 ^ (n - 1) - 1:Nat):Int)+1:=by
 obtain ⟨m,rfl⟩:∃m,n=m+1:=⟨n - 1,by omega⟩
 have:=Nat.one_le_pow m 2 (by omega)
 rw [Nat.add_sub_cancel,Nat.pow_succ];omega
theorem Q5 {Yg:List Int} {a c:List (List Int)} (g:bM a c) (A H:Int):1≤(jZ Yg a c A H).length:=by
 have n1:=(bA (dh g.1)).1
 have F:=Q4 g
 have p1:=Nat.one_le_pow (a.length - 1) 2 (by omega)
 rw [Ii (by omega)] at F
 unfold jZ;split
 ·exact List.length_pos_of_mem (Az (by omega) F)
 ·refine List.length_pos_of_mem (Az (j:=2 ^ (a.length - 1) - 1) (by omega) ?_)
  simp only [aR,cQ,Bool.and_eq_true] at F;exact F.1.1.1.2
def tK (Yg:List Int):Post:=⟨bD Yg∧Yg.length≤4096,.tup [.inr [.rows 57 2 .i64 ((aA Yg).1),.ro (.rows .i64 ((aA Yg).2.1))],.inl (.int .i64 (dj Yg (aA Yg)))],[]⟩
def AA:List AD→Option Post
 | [.c (.ints .u8 (Yg))]=>some (tK Yg)
 | _=>none
def Ij:List (Nat×Ctr):=[(113,⟨[],yF⟩),(112,⟨[(0,0)],lN⟩),(138,⟨[(0,0)],CB⟩),(78,⟨[],nC⟩),(155,⟨[],tU⟩),(156,⟨[],AW⟩)]
def ed (Yg:List Int):=(dn Yg (0:Int) (dU Yg (Yg.length)) (8:Int))
def i7 (Yg:List Int):=(av (Yg.length) ((((ed Yg).2).2).1) (4:Int))
def po (Yg:List Int):=(aL (aR ((ed Yg).1) (((ed Yg).2).1)) ((2:Nat) ^ (((ed Yg).1).length - (1:Nat))))
def eU (Yg:List Int):=(((ed Yg).2).2)
def i8 (Yg:List Int):=(↑(((ed Yg).1).length):Int)
def pq (Yg:List Int):=(aL (bv ((ed Yg).1)) ((2:Nat) ^ (((ed Yg).1).length - (1:Nat))))
def AB (Yg:List Int):Prop :=
 ((((bD Yg)∧(Yg.length≤(4096:Nat)))∧True)∧((((bD Yg)∧((Yg.length≤(4096:Nat))∧(((0:Int)≤(0:Int))∧(((0:Int)≤(↑(Yg.length):Int))∧(((1:Int)≤(8:Int))∧((8:Int)≤(8:Int)))))))∧((Yg=Yg)∧True))∧((((au ((ed Yg).1))∧(au (((ed Yg).2).1)))∧True)∧(ac (aK ((dn Yg (0:Int) (dU Yg (Yg.length)) (8:Int)).1) (((dn Yg (0:Int) (dU Yg (Yg.length)) (8:Int)).2).1)) ((((bD Yg)∧(((0:Int)≤(eU Yg).1)∧((eU Yg).1≤(1099511627776:Int))))∧((Yg=Yg)∧True))∧(ac (decide ((0:Int)<ay Yg ((((dn Yg (0:Int) (dU Yg (Yg.length)) (8:Int)).2).2).1) ((((dn Yg (0:Int) (dU Yg (Yg.length)) (8:Int)).2).2).2) (4:Int))) (((aW ((ed Yg).1)=true)∧True)∧((((bD Yg)∧(((0:Int)≤av (Yg.length) ((eU Yg).1) (4:Int))∧(av (Yg.length) ((eU Yg).1) (4:Int)≤(1099511627776:Int))))∧((Yg=Yg)∧True))∧(ac (ay Yg (av (Yg.length) ((((dn Yg (0:Int) (dU Yg (Yg.length)) (8:Int)).2).2).1) (4:Int)) (az ((((dn Yg (0:Int) (dU Yg (Yg.length)) (8:Int)).2).2).2) (4:Int)) (2:Int) == (0:Int)) (((bM ((ed Yg).1) (((ed Yg).2).1))∧True)∧((((bD Yg)∧(((0:Int)≤av (Yg.length) (i7 Yg) (2:Int))∧(av (Yg.length) (i7 Yg) (2:Int)≤(1099511627776:Int))))∧((Yg=Yg)∧True)) ∧
 ((aa (ay Yg (av (Yg.length) (i7 Yg) (2:Int)) (az (az ((eU Yg).2) (4:Int)) (2:Int)) (↑((po Yg).length):Int)) ((po Yg).length))∧(((((ed Yg).1=(aA Yg).1)∧((((ed Yg).2).1=((aA Yg).2).1)∧True))∧(((po Yg).getD ((ay Yg (av (Yg.length) (i7 Yg) (2:Int)) (az (az ((eU Yg).2) (4:Int)) (2:Int)) (↑((po Yg).length):Int)).toNat) (0:Int)=dj Yg (aA Yg))∧True))∧True)))) ((((bD Yg)∧(((0:Int)≤av (Yg.length) (i7 Yg) (2:Int))∧(av (Yg.length) (i7 Yg) (2:Int)≤(1099511627776:Int))))∧((Yg=Yg)∧True))∧((aa (ay Yg (av (Yg.length) (i7 Yg) (2:Int)) (az (az ((eU Yg).2) (4:Int)) (2:Int)) (↑((pq Yg).length):Int)) ((pq Yg).length))∧(((((ed Yg).1=(aA Yg).1)∧((((ed Yg).2).1=((aA Yg).2).1)∧True))∧(((pq Yg).getD ((ay Yg (av (Yg.length) (i7 Yg) (2:Int)) (az (az ((eU Yg).2) (4:Int)) (2:Int)) (↑((pq Yg).length):Int)).toNat) (0:Int)=dj Yg (aA Yg))∧True))∧True)))))) (((((0:Int)≤IntKind.wrap IntKind.u64 (i8 Yg))∧(IntKind.wrap IntKind.u64 (i8 Yg)≤(62:Int)))∧(ab ((2:Int) * (2:Int) ^ (IntKind.wrap IntKind.u64 (i8 Yg)).toNat)))∧((((bD Yg) ∧
 (((0:Int)≤av (Yg.length) ((eU Yg).1) (4:Int))∧(av (Yg.length) ((eU Yg).1) (4:Int)≤(1099511627776:Int))))∧((Yg=Yg)∧True))∧((ab (ay Yg (i7 Yg) (az ((eU Yg).2) (4:Int)) ((2:Int) * (2:Int) ^ (IntKind.wrap IntKind.u64 (i8 Yg)).toNat) - (1:Int)))∧(((((ed Yg).1=(aA Yg).1)∧((((ed Yg).2).1=((aA Yg).2).1)∧True))∧((ay Yg (i7 Yg) (az ((eU Yg).2) (4:Int)) ((2:Int) * (2:Int) ^ (IntKind.wrap IntKind.u64 (i8 Yg)).toNat) - (1:Int)=dj Yg (aA Yg))∧True))∧True)))))) (((((0:Int)≤IntKind.wrap IntKind.u64 (i8 Yg))∧(IntKind.wrap IntKind.u64 (i8 Yg)≤(62:Int)))∧(ab ((2:Int) * (2:Int) ^ (IntKind.wrap IntKind.u64 (i8 Yg)).toNat)))∧((((bD Yg)∧(((0:Int)≤(eU Yg).1)∧((eU Yg).1≤(1099511627776:Int))))∧((Yg=Yg)∧True))∧((ab (ay Yg ((eU Yg).1) ((eU Yg).2) ((2:Int) * (2:Int) ^ (IntKind.wrap IntKind.u64 (i8 Yg)).toNat) - (1:Int)))∧(((((ed Yg).1=(aA Yg).1)∧((((ed Yg).2).1=((aA Yg).2).1)∧True))∧((ay Yg ((eU Yg).1) ((eU Yg).2) ((2:Int) * (2:Int) ^ (IntKind.wrap IntKind.u64 (i8 Yg)).toNat) - (1:Int)=dj Yg (aA Yg))∧True))∧True))))))))
theorem Q6 (Yg:List Int):aC Tryz.prog (af Ij) ah am Tryz.f88 (aE Tryz.f88) [] [.c (.ints .u8 (Yg))] (tK Yg)=AB Yg:=by kernel_rfl
theorem Q7 (Yg:List Int) (Yh:(tK Yg).pre):AB Yg:=by
 simp only [tK,AB,ed,i7,po,eU,i8,pq,aG,u1,u2,u3,u4,u5,u6,u7,u8,u9,v1,v2,v3,v4,v5,v6,v7,v8,v9,w1,w2,w3,w4,aH,aa,ab,ae,ar] at Yh ⊢;obtain ⟨hb,hc⟩:=Yh;have K:=xP hb (h:=dU Yg Yg.length) (a:=0) (Yi:=8) (by omega) (by omega) (by omega) (by omega)
 have A:=Kw hb K (by decide)
 have e0:dn Yg 0 (dU Yg Yg.length) 8=aA Yg:=rfl
 have e1:gB Yg (aP Yg 0 (dU Yg Yg.length) 8)=aA Yg:=rfl
 rw [e1] at A;rw [e0];generalize aA Yg=b at *
 obtain ⟨a1,a2,a3,a4,a5,a6⟩:=A;have a3:b.1.length≤8:=a3
 have s4:=dH (n:=4) a5 a6
 have s2:=dH (n:=2) s4.1 s4.2
 have wn:IntKind.u64.wrap (b.1.length:Int)=(b.1.length:Int):=iX (by omega)
 have p8:2 ^ b.1.length≤2 ^ 8:=Nat.pow_le_pow_right (by omega) a3
 have p0:=Nat.one_le_pow b.1.length 2 (by omega)
 have pn:(2 * (2:Int) ^ b.1.length)=((2 * 2 ^ b.1.length:Nat):Int):=by rw [Int.natCast_mul,Int.natCast_pow];rfl
 have N:=fun (x y:Int)=>gk hb x y (n:=2 * 2 ^ b.1.length) (by rw [pn];omega)
 rw [wn,Int.toNat_natCast];refine ⟨⟨hb,hc⟩,⟨hb,hc,by omega,by omega,by omega,by omega⟩,⟨a1,a2⟩,fun y=>?_,fun y=>?_⟩
 ·have g:bM b.1 b.2.1:=⟨(dq y).1,(dq y).2.1,(dq y).2.2.1⟩
  refine ⟨⟨hb,by omega,by omega⟩,fun z=>?_,fun z=>?_⟩
  ·have Q:=Q5 (Yg:=Yg) g (av Yg.length b.2.2.1 4) (az b.2.2.2 4)
   have T:dj Yg b=(jZ Yg b.1 b.2.1 (av Yg.length b.2.2.1 4) (az b.2.2.2 4)).getD (ay Yg (av Yg.length (av Yg.length b.2.2.1 4) 2) (az (az b.2.2.2 4) 2) ((jZ Yg b.1 b.2.1 (av Yg.length b.2.2.1 4) (az b.2.2.2 4)).length:Int)).toNat 0:=by
    rw [dj,if_pos y,if_pos z]
   have V:=gk hb (av Yg.length (av Yg.length b.2.2.1 4) 2) (az (az b.2.2.2 4) 2) (n:=((jZ Yg b.1 b.2.1 (av Yg.length b.2.2.1 4) (az b.2.2.2 4)).length:Int)) (by omega)
   rw [T];refine ⟨dh g.1,⟨hb,by omega,by omega⟩,fun q=>?_,fun q=>?_⟩
   ·have L:jZ Yg b.1 b.2.1 (av Yg.length b.2.2.1 4) (az b.2.2.2 4)=aL (aR b.1 b.2.1) (2 ^ (b.1.length - 1)):=if_pos q
    rw [L] at V ⊢;exact ⟨g,⟨hb,by omega,by omega⟩,⟨V.1,by omega⟩,⟨rfl,rfl⟩,rfl⟩
   ·have L:jZ Yg b.1 b.2.1 (av Yg.length b.2.2.1 4) (az b.2.2.2 4)=aL (bv b.1) (2 ^ (b.1.length - 1)):=if_neg q
    rw [L] at V ⊢;exact ⟨⟨hb,by omega,by omega⟩,⟨V.1,by omega⟩,⟨rfl,rfl⟩,rfl⟩
  ·have T:dj Yg b=nH Yg b.1.length (av Yg.length b.2.2.1 4) (az b.2.2.2 4):=by rw [dj,if_pos y,if_neg z]
   have V:=N (av Yg.length b.2.2.1 4) (az b.2.2.2 4)
   rw [pn] at V ⊢;rw [T,nH,pn];exact ⟨by omega,⟨hb,by omega,by omega⟩,by omega,⟨rfl,rfl⟩,rfl⟩
 ·have T:dj Yg b=nH Yg b.1.length b.2.2.1 b.2.2.2:=by rw [dj,if_neg (by rw [y];decide)]
  have V:=N b.2.2.1 b.2.2.2
  rw [pn] at V ⊢;rw [T,nH,pn];exact ⟨by omega,⟨hb,by omega,by omega⟩,by omega,⟨rfl,rfl⟩,rfl⟩
theorem Q8:Fits Tryz.prog 88 ⟨[],AA⟩:=by
 refine aJ (Γ:=af Ij) (aj Oh (aj oQ (aj Um (aj te (aj Ix (aj RR aF)))))) Tryz.func88 fun ds p h hp=>?_
 unfold AA at h;split at h
 ·cases h
  exact ⟨ah,am,by rw [Q6];exact Q7 _  hp⟩
 ·cases h
def tL (Yg:List Int):Post:=⟨bD Yg∧Yg.length≤4096,.tup [.inr [.rows 57 2 .i64 ((aA Yg).1),.ro (.rows .i64 ((aA Yg).2.1))],.inl (.int .i64 (dj Yg (aA Yg)))],[]⟩
def AC:List AD→Option Post
 | [.c (.ints .u8 (Yg))]=>some (tL Yg)
 | _=>none
def Ik:List (Nat×Ctr):=[(88,⟨[],AA⟩)]
def AE (Yg:List Int):Prop :=
 ((((bD Yg)∧(Yg.length≤(4096:Nat)))∧True)∧(((((aA Yg).1=(aA Yg).1)∧((((aA Yg).2).1=((aA Yg).2).1)∧True))∧((dj Yg (aA Yg)=dj Yg (aA Yg))∧True))∧True))
theorem Q9 (Yg:List Int):aC Tryz.prog (af Ik) ah am Tryz.f29 (aE Tryz.f29) [] [.c (.ints .u8 (Yg))] (tL Yg)=AE Yg:=by kernel_rfl
theorem Ra (Yg:List Int) (Yh:(tL Yg).pre):AE Yg:=by
 simp only [tL,AE,aG,u1,u2,u3,u4,u5,u6,u7,u8,u9,v1,v2,v3,v4,v5,v6,v7,v8,v9,w1,w2,w3,w4,aH,aa,ab,ae,ar] at Yh ⊢;exact Yh
theorem Rb:Fits Tryz.prog 29 ⟨[],AC⟩:=by
 refine aJ (Γ:=af Ik) (aj Q8 aF) Tryz.func29 fun ds p h hp=>?_
 unfold AC at h;split at h
 ·cases h
  exact ⟨ah,am,by rw [Q9];exact Ra _  hp⟩
 ·cases h
theorem Rc {Yg:List Int} (hb:bD Yg):au (aA Yg).1∧au (aA Yg).2.1∧(aA Yg).1.length≤8:=by
 have K:=xP hb (h:=dU Yg Yg.length) (a:=0) (Yi:=8) (by omega) (by omega) (by omega) (by omega)
 have A:=Kw hb K (by decide)
 exact ⟨A.1,A.2.1,A.2.2.1⟩
set_option linter.unusedSectionVars false
structure IdN (n:Nat) (A C:Nat→Nat→Nat) (P:Nat→Prop):Prop where
 dom:∀x,P x→x<n
 zero:P 0
 add:∀x y,P x→P y→P (A x y)
 lam:∀x i y,x<n→i<n→A x i=0→P y→P (A i (C x y))
 na:∀x i y,x<n→i<n→A x i=0→P y→P (A (A x y) i)
 nc:∀x j y,x<n→j<n→C x j=0→P y→P (C (C x y) j)
def eJ (A:Nat→Nat→Nat) (P:Nat→Prop) (x y:Nat):Prop:=∃t,P t∧A x t=y
section
variable {n:Nat} {A C:Nat→Nat→Nat} (B:BrN n A C)
include B
theorem nI {x y z:Nat} (hx:x<n) (hy:y<n) (hz:z<n) (h:A x y=A x z):y=z:=by
 obtain ⟨i,hi,h2⟩:=B.ainv x hx;have h3:=ke B hx hi h2
 rw [←B.a0l y hy,←B.a0l z hz,←h3,B.aas i x y hi hx hy,B.aas i x z hi hx hz,h]
theorem Re {x y z:Nat} (hx:x<n) (hy:y<n) (hz:z<n) (h:C x y=C x z):y=z:=by
 obtain ⟨i,hi,h2⟩:=B.cinv x hx;have h3:=vd B hx hi h2
 rw [←B.c0l y hy,←B.c0l z hz,←h3,B.cas i x y hi hx hy,B.cas i x z hi hx hz,h]
open Classical in
theorem Rf {P:Nat→Prop} (dom:∀x,P x→x<n) (zero:P 0) (add:∀x y,P x→P y→P (A x y)) {x y:Nat} (hx:P x) (hy:y<n) (h:A x y=0):P y:=by
 have hxn:=dom x hx
 have R:=pK (n:=n) (g:=fun t=>if P t then A x t else t) (fun t ht=>by
   split
   ·exact B.ain x t hxn ht
   ·exact ht) (fun s t hs ht e=>by
   by_cases p:P s <;> by_cases q:P t
   ·rw [if_pos p,if_pos q] at e;exact nI B hxn hs ht e
   ·rw [if_pos p,if_neg q] at e;exact absurd (e ▸ add x s hx p) q
   ·rw [if_neg p,if_pos q] at e;exact absurd (e ▸ add x t hx q) p
   ·rw [if_neg p,if_neg q] at e;exact e)
 have m:0∈(List.range n).map (fun t=>if P t then A x t else t):=R.mem_iff.2 (List.mem_range.2 B.pos)
 obtain ⟨t,ht,e⟩:=List.mem_map.1 m;have ht:t<n:=List.mem_range.1 ht
 by_cases p:P t
 ·rw [if_pos p] at e
  rw [nI B hxn hy ht (h.trans e.symm)];exact p
 ·rw [if_neg p] at e
  subst e;exact absurd zero p
variable {P:Nat→Prop} (I:IdN n A C P)
include I
theorem Rg {x:Nat} (hx:x<n):eJ A P x x:=⟨0,I.zero,B.a0r x hx⟩
theorem AF {x y:Nat} (hx:x<n) (h:eJ A P x y):eJ A P y x:=by
 obtain ⟨t,ht,rfl⟩:=h;obtain ⟨i,hi,h2⟩:=B.ainv t (I.dom t ht);exact ⟨i,Rf B I.dom I.zero I.add ht hi h2,by rw [B.aas x t i hx (I.dom t ht) hi,h2,B.a0r x hx]⟩
theorem nJ {x y z:Nat} (hx:x<n) (h:eJ A P x y) (k:eJ A P y z):eJ A P x z:=by
 obtain ⟨t,ht,rfl⟩:=h;obtain ⟨u,hu,rfl⟩:=k;exact ⟨A t u,I.add t u ht hu,(B.aas x t u hx (I.dom t ht) (I.dom u hu)).symm⟩
theorem Il {x x' y y':Nat} (hx:x<n) (hy:y<n) (h:eJ A P x x') (k:eJ A P y y'):eJ A P (A x y) (A x' y'):=by
 obtain ⟨t,ht,rfl⟩:=h;obtain ⟨u,hu,rfl⟩:=k;obtain ⟨j,hj,h2⟩:=B.ainv y hy;have h3:=ke B hy hj h2
 have tn:=I.dom t ht
 have un:=I.dom u hu
 have w:=I.na j y t hj hy h3 ht
 have wn:=I.dom _ w
 refine ⟨A (A (A j t) y) u,I.add _ _ w hu,?_⟩
 have jt:=B.ain j t hj tn
 rw [B.aas x y _ hx hy (B.ain _ u wn un),←B.aas y _ u hy wn un,←B.aas y (A j t) y hy jt hy,←B.aas y j t hy hj tn,h2,B.a0l t tn,
  B.aas t y u tn hy un,B.aas x t _ hx tn (B.ain y u hy un)]
theorem Rh {z t:Nat} (hz:z<n) (ht:P t):eJ A P z (C z t):=by
 obtain ⟨i,hi,h2⟩:=B.ainv z hz;have c:=B.cin z t hz (I.dom t ht)
 exact ⟨A i (C z t),I.lam z i t hz hi h2 ht,by rw [←B.aas z i _ hz hi c,h2,B.a0l _ c]⟩
theorem Ri {x y u:Nat} (hx:x<n) (hy:y<n) (hu:P u):eJ A P (C x y) (C x (A y u)):=by
 obtain ⟨i,hi,h2⟩:=B.ainv x hx;have un:=I.dom u hu
 have c:=B.cin x u hx un
 exact ⟨A i (C x u),I.lam x i u hx hi h2 hu,by rw [B.brc x y u i hx hy un hi h2,B.aas _ i _ (B.cin x y hx hy) hi c]⟩
theorem Rj {x y t:Nat} (hx:x<n) (hy:y<n) (ht:P t):eJ A P (C x y) (C (A x t) y):=by
 have tn:=I.dom t ht
 obtain ⟨i,hi,h2⟩:=B.ainv x hx;obtain ⟨j,hj,h3⟩:=B.cinv x hx;have h4:=vd B hx hj h3
 obtain ⟨k,hk,h5⟩:=B.ainv j hj;have p1:=I.lam j k t hj hk h5 ht
 have jt:=B.cin j t hj tn
 have e1:C x k=A x x:=by
  have q:=B.brc x j k i hx hj hk hi h2
  rw [h5,B.c0r x hx,h3,B.a0l i hi] at q;have ck:=B.cin x k hx hk
  have h6:=ke B hx hi h2
  refine nI B hi ck (B.ain x x hx hx) ?_
  rw [←q,←B.aas i x x hi hx hx,h6,B.a0l x hx]
 have e2:C x (A k (C j t))=A x t:=by
  rw [B.brc x k _ i hx hk jt hi h2,e1,B.aas x x i hx hx hi,h2,B.a0r x hx,←B.cas x j t hx hj tn,h3,B.c0l t tn]
 rw [←e2];generalize A k (C j t)=s at p1
 have sn:=I.dom s p1
 obtain ⟨m,hm,h6⟩:=B.cinv y hy;have h7:=vd B hy hm h6
 have p2:=I.nc m y s hm hy h7 p1
 have e3:C (C x y) (C (C m s) y)=C (C x s) y:=by
  have ms:=B.cin m s hm sn
  rw [B.cas x y _ hx hy (B.cin _ y ms hy),←B.cas y (C m s) y hy ms hy,←B.cas y m s hy hm sn,h6,B.c0l s sn,←B.cas x s y hx sn hy]
 rw [←e3];exact Rh B I (B.cin x y hx hy) p2
theorem Im {x x' y y':Nat} (hx:x<n) (hy:y<n) (h:eJ A P x x') (k:eJ A P y y'):eJ A P (C x y) (C x' y'):=by
 obtain ⟨t,ht,rfl⟩:=h;obtain ⟨u,hu,rfl⟩:=k;exact nJ B I (B.cin x y hx hy) (Ri B I hx hy hu) (Rj B I hx (B.ain y u hy (I.dom u hu)) ht)
end
set_option linter.unusedSectionVars false
section
variable {a c:List (List Int)} (B:eW a c) {s:Int} (I:IdN a.length (tA a) (tA c) (fun t=>aD s t=true))
include B I
theorem AG {x:Nat} (hx:x<a.length):dI a (s) x a.length=(lb a (s) x:Int)∧lb a (s) x≤x∧eJ (tA a) (fun t=>aD s t=true) x (lb a (s) x)∧∀y,eJ (tA a) (fun t=>aD s t=true) x y→lb a (s) x≤y:=by
 obtain ⟨h1,h2,h3⟩:=Kp a (s) x a.length;have hn:0≤dI a (s) x a.length:=by
  rcases h2 with h2 | ⟨j,h4,_,h6⟩
  ·omega
  ·have:=(fh B.1 hx h4).2;omega
 refine ⟨by unfold lb;omega,by unfold lb;omega,?_,fun y ⟨t,ht,e⟩=>?_⟩
 ·unfold lb
  rcases h2 with h2 | ⟨j,h4,h5,h6⟩
  ·rw [h2];exact Rg B.2.2.2 I hx
  ·rw [h6];exact ⟨j,h5,rfl⟩
 ·have:=h3 t (I.dom t ht) (ht)
  have e2:=(fh B.1 hx (I.dom t ht)).2
  rw [e] at e2;unfold lb;omega
theorem Rk {x y:Nat} (hx:x<a.length) (hy:y<a.length):lb a (s) x=lb a (s) y↔eJ (tA a) (fun t=>aD s t=true) x y:=by
 have hB:=B.2.2.2
 have fx:=AG B I hx
 have fy:=AG B I hy
 constructor
 ·intro h
  refine nJ hB I hx fx.2.2.1 ?_
  rw [h];exact AF hB I hy fy.2.2.1
 ·intro h
  have h1:=fx.2.2.2 _ (nJ hB I hx h fy.2.2.1)
  have h2:=fy.2.2.2 _ (nJ hB I hy (AF hB I hx h) fx.2.2.1)
  omega
theorem In {x:Nat} (hx:x<a.length):(cg a (s)).getD x 0=(lb a (s) x:Int):=by
 rw [cg,cr _ _ _ hx];exact (AG B I hx).1
def fb (a:List (List Int)) (s:Int) (x:Nat):Nat:=((a8 a (s)).getD x 0).toNat
def dJ (a:List (List Int)) (s:Int) (x:Nat):Nat:=((bj (a8 a (s)) (a8 a (s)).length).getD x 0).toNat
def dw (a:List (List Int)) (s:Int):Nat:=(bj (a8 a (s)) (a8 a (s)).length).length
theorem jy {x:Nat} (hx:x<a.length):(a8 a (s)).getD x 0=(fb a s x:Int)∧fb a s x<dw a s:=by
 have hl:(cg a (s)).length=a.length:=cf _ _
 have:=Ud (cg a (s)) (i:=x) (by omega)
 unfold fb dw a8;omega
theorem io {x y:Nat} (hx:x<a.length) (hy:y<a.length):fb a s x=fb a s y↔eJ (tA a) (fun t=>aD s t=true) x y:=by
 have hl:(cg a (s)).length=a.length:=cf _ _
 have h1:=Uc (cg a (s)) (i:=x) (j:=y) (by omega) (by omega)
 rw [In B I hx,In B I hy] at h1;have e1:=(jy B I hx).1
 have e2:=(jy B I hy).1
 unfold a8 at e1 e2;rw [e1,e2] at h1;rw [←Rk B I hx hy];omega
theorem ip {x:Nat} (hx:x<dw a s):dJ a s x<a.length∧fb a s (dJ a s x)=x∧(bj (a8 a (s)) (a8 a (s)).length).getD x 0=(dJ a s x:Int):=by
 have hl:=kV a (s)
 have h1:=pa (a8 a (s)) (a8 a (s)).length _ (cE (bj (a8 a (s)) (a8 a (s)).length) 0 x hx)
 have h2:=Ct (a8 a (s)) (a8 a (s)).length x hx
 refine ⟨by unfold dJ;omega,by unfold fb dJ;rw [h2];rfl,by unfold dJ;omega⟩
theorem AH:0<dw a s:=by
 have:=(jy B I B.2.2.2.pos).2
 omega
theorem Rl:fb a s 0=0:=by
 have h0:=B.2.2.2.pos
 have h1:=ip B I (AH B I)
 have hl:(a8 a (s)).length=a.length:=kV _ _
 have hl2:(cg a (s)).length=a.length:=cf _ _
 have e:=(jy B I h0).1
 have:(bR (cg a (s))).getD 0 0=0:=by
  unfold bR;rw [cr _ _ _ (by omega)]
  simp [bh,bo]
 unfold a8 at e;omega
theorem pt {t:List (List Int)} (ht:aW t=true) (hl:t.length=a.length) {x y:Nat} (hx:x<dw a s) (hy:y<dw a s):en (quo t (a8 a (s))) x y=(fb a s (tA t (dJ a s x) (dJ a s y)):Int):=by
 unfold en quo;have hx':x<(bj (a8 a (s)) (a8 a (s)).length).length:=hx
 have hy':y<(bj (a8 a (s)) (a8 a (s)).length).length:=hy
 rw [eZ _ _ _ hx',cr _ _ _ hy'];have fx:=ip B I hx
 have fy:=ip B I hy
 rw [fx.2.2,fy.2.2,Int.toNat_natCast,Int.toNat_natCast];have h:=fh ht (x:=dJ a s x) (y:=dJ a s y) (by omega) (by omega)
 exact (jy B I (x:=tA t (dJ a s x) (dJ a s y)) (by omega)).1
theorem pu {t:List (List Int)} (ht:aW t=true) (hl:t.length=a.length):aW (quo t (a8 a (s)))=true∧(quo t (a8 a (s))).length=dw a s:=by
 have n2:=(bA B.1).2.1
 have hlen:(quo t (a8 a (s))).length=dw a s:=fK _ _
 have hm:=AH B I
 have hm2:dw a s≤a.length:=by
  have:=lW (a8 a (s)) (a8 a (s)).length
  rw [kV] at this;unfold dw;rw [kV];exact this
 refine ⟨?_,hlen⟩
 rw [aW,Bool.and_eq_true,decide_eq_true_eq,List.all_eq_true];refine ⟨by omega,fun r hr=>?_⟩
 obtain ⟨x,hx,rfl⟩:=List.mem_map.1 (show r∈(List.range (dw a s)).map _ from hr)
 have hx:x<dw a s:=by simpa using hx
 rw [d4,Bool.and_eq_true,decide_eq_true_eq,dQ,List.all_eq_true];refine ⟨by rw [cf,hlen];rfl,fun v hv=>?_⟩
 obtain ⟨y,hy,rfl⟩:=List.mem_map.1 (show v∈(List.range (dw a s)).map _ from hv)
 have hy:y<dw a s:=by simpa using hy
 have e:=pt B I ht hl hx hy
 unfold en quo at e;have hx':x<(bj (a8 a (s)) (a8 a (s)).length).length:=hx
 have hy':y<(bj (a8 a (s)) (a8 a (s)).length).length:=hy
 rw [eZ _ _ _ hx',cr _ _ _ hy'] at e;have fx:=ip B I hx
 have fy:=ip B I hy
 have h:=fh ht (x:=dJ a s x) (y:=dJ a s y) (by omega) (by omega)
 have:=(jy B I (x:=tA t (dJ a s x) (dJ a s y)) (by omega)).2
 rw [decide_eq_true_eq];simp only [e,hlen];omega
theorem tM:eW (quo a (a8 a (s))) (quo c (a8 a (s))):=by
 have hB:=B.2.2.2
 obtain ⟨q1,q2⟩:=pu B I B.1 rfl;obtain ⟨q3,q4⟩:=pu B I B.2.1 B.2.2.1;have key:=hB.quot (π:=fb a s) (f:=dJ a s) (AH B I) (fun x hx=>(jy B I hx).2) (fun x hx=>⟨(ip B I hx).1,(ip B I hx).2.1⟩) (Rl B I)
  (fun x x' y y' hx hy hx' hy' h k=>(io B I (hB.ain x y hx hy) (hB.ain x' y' hx' hy')).2 (Il hB I hx hy ((io B I hx hx').1 h) ((io B I hy hy').1 k)))
  (fun x x' y y' hx hy hx' hy' h k=>(io B I (hB.cin x y hx hy) (hB.cin x' y' hx' hy')).2 (Im hB I hx hy ((io B I hx hx').1 h) ((io B I hy hy').1 k)))
 have ea:∀x y,x<dw a s→y<dw a s→tA (quo a (a8 a (s))) x y=fb a s (tA a (dJ a s x) (dJ a s y)):=fun x y hx hy=>by
  have:=pt B I B.1 rfl hx hy
  rw [tA,this,Int.toNat_natCast]
 have ec:∀x y,x<dw a s→y<dw a s→tA (quo c (a8 a (s))) x y=fb a s (tA c (dJ a s x) (dJ a s y)):=fun x y hx hy=>by
  have:=pt B I B.2.1 B.2.2.1 hx hy
  rw [tA,this,Int.toNat_natCast]
 refine ⟨q1,q3,by omega,?_⟩
 rw [q2];exact key.congr ea ec
end
def br (a c:List (List Int)):List Int:=aL (aR a c) (2 ^ (a.length - 1))
theorem lY {a:List (List Int)} {s:Int} (S:bu a s) {t:Nat} (h:aD s t=true):t<a.length:=by
 refine Classical.byContradiction fun hn=>?_
 have p:2 ^ a.length≤2 ^ t:=Nat.pow_le_pow_right (by omega) (by omega)
 have:=S.2.2
 have q:s.toNat.testBit t=false:=Nat.testBit_lt_two_pow (by omega)
 rw [aD,q] at h;cases h
theorem pv (a c:List (List Int)) {x y:Nat} (hx:x<a.length) (hy:y<a.length):en (aO a c) x y=en a (bk a x).toNat (en c x y).toNat:=by
 show ((aO a c).getD x []).getD y 0=_
 rw [aO,eZ _ _ _ hx,cr _ _ _ hy];rfl
theorem tN {a c:List (List Int)} (B:eW a c):(∀x i,x<a.length→i<a.length→tA a x i=0→(bk a x).toNat=i)∧(∀x j,x<a.length→j<a.length→tA c x j=0→(bk c x).toNat=j) ∧
  (∀x,x<a.length→(bk a x).toNat<a.length∧tA a x (bk a x).toNat=0)∧∀x,x<a.length→(bk c x).toNat<a.length∧tA c x (bk c x).toNat=0:=by
 have b:=dq (pP B)
 have fa:=(pU b.1).2.2.2
 have fc:=(pU b.2.1).2.2.2
 rw [←b.2.2.1] at fc;exact ⟨fun x i hx hi h=>nI B.2.2.2 hx (fa x hx).1 hi ((fa x hx).2.trans h.symm),fun x j hx hj h=>Re B.2.2.2 hx (fc x hx).1 hj ((fc x hx).2.trans h.symm),fa,fc⟩
theorem tO {a c:List (List Int)} (B:eW a c) {s:Int} (S:bu a s):aR a c s=true↔IdN a.length (tA a) (tA c) (fun t=>aD s t=true):=by
 obtain ⟨ua,uc,fa,fc⟩:=tN B;have hl:=B.2.2.1
 simp only [aR,cQ,Bool.and_eq_true,bv,gU,cJ,gV,cK,gW,List.all_eq_true,List.mem_range]
 constructor
 ·rintro ⟨⟨⟨⟨h0,hc⟩,hm⟩,hna⟩,hnc⟩
  refine ⟨fun x=>lY S,h0,fun x y px py=>?_,fun x i y hx hi h py=>?_,fun x i y hx hi h py=>?_,fun x j y hx hj h py=>?_⟩
  ·have q:=hc x (lY S px) y (lY S py)
   rw [il,px,py] at q;exact q
  ·have q:=hm x hx y (lY S py)
   rw [i6,py,pv a c hx (lY S py),ua x i hx hi h] at q;exact q
  ·have q:=hna x hx y (lY S py)
   rw [im,py,ua x i hx hi h] at q;exact q
  ·have q:=hnc x (by omega) y (by have:=lY S py;omega)
   rw [im,py,uc x j hx hj h] at q;exact q
 ·intro I
  refine ⟨⟨⟨⟨I.zero,fun x hx y hy=>?_⟩,fun x hx y hy=>?_⟩,fun x hx y hy=>?_⟩,fun x hx y hy=>?_⟩
  ·rw [il]
   cases px:aD s x
   ·simp
   ·cases py:aD s y
    ·simp
    ·exact I.add x y px py
  ·rw [i6,pv a c hx hy]
   cases py:aD s y
   ·rfl
   ·exact I.lam x _ y hx (fa x hx).1 (fa x hx).2 py
  ·rw [im]
   cases py:aD s y
   ·rfl
   ·exact I.na x _ y hx (fa x hx).1 (fa x hx).2 py
  ·rw [im]
   cases py:aD s y
   ·rfl
   ·exact I.nc x _ y (by omega) (fc x (by omega)).1 (fc x (by omega)).2 py
theorem tP {a:List (List Int)} {p:Int→Bool} {s:Int} (S:bu a s) (h0:aD s 0=true):s∈aL p (2 ^ (a.length - 1))↔p s=true:=by
 have n1:=(bA S.1).1
 have o:s.toNat % 2=1:=by
  rw [aD,Nat.testBit_zero,decide_eq_true_eq] at h0;exact h0
 have e:=Ii (n:=a.length) (by omega)
 have u:=S.2.2
 have v:=S.2.1
 obtain ⟨m,hm⟩:∃m,a.length=m+1:=⟨a.length - 1,by omega⟩
 have w:s.toNat<2 * 2 ^ m:=by rw [hm,Nat.pow_succ] at u;omega
 have es:s=2 * ((s.toNat / 2:Nat):Int)+1:=by omega
 constructor
 ·intro h
  simp only [aL,List.mem_map,List.mem_filter] at h;obtain ⟨j,⟨_,hp⟩,rfl⟩:=h;exact hp
 ·intro h
  rw [es];refine Az ?_ (by rw [←es];exact h)
  rw [hm,Nat.add_sub_cancel];omega
theorem iq {a c:List (List Int)} (B:eW a c) {s:Int} (h:s∈br a c):bu a s∧aR a c s=true∧IdN a.length (tA a) (tA c) (fun t=>aD s t=true):=by
 obtain ⟨j,hj,e⟩:=tR h;have S:bu a s:=by rw [e];exact pB B.1 hj
 simp only [br,aL,List.mem_map,List.mem_filter] at h;obtain ⟨j,⟨_,hp⟩,rfl⟩:=h;exact ⟨S,hp,(tO B S).1 hp⟩
theorem pw {a c:List (List Int)} (B:eW a c) {s:Int} (S:bu a s) (I:IdN a.length (tA a) (tA c) (fun t=>aD s t=true)):s∈br a c :=
 (tP S I.zero).2 ((tO B S).2 I)
end Go.Sx
