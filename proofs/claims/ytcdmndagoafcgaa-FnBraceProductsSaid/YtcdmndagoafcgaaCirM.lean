/- CirM -/
import Derived.Test.YtcdmndagoafcgaaBprP
import Derived.Test.YtcdmndagoafcgaaGrp
open Go Go.Proofs
namespace Go.Sx
set_option linter.unusedSimpArgs false
set_option linter.unusedVariables false
def pcS (s:Int):Int:=(pcF 63 s.toNat:Int)
section
variable {a c a2 c2:List (List Int)} (h:brT a c) (h2:brT a2 c2) (hs:a.length * a2.length≤12)
theorem brT_tb {a c:List (List Int)} (h:brT a c):tbN a.length a∧tbN a.length c∧1≤a.length:=by
 obtain ⟨ta,tc,hl,B⟩:=h
 refine ⟨⟨rfl,fun x hx=>⟨((tabB_of ta).2.2 x hx).1,fun y hy=>by have:=tA_lt ta hx hy;omega⟩⟩,⟨hl,fun x hx=>⟨by rw [←hl];exact ((tabB_of tc).2.2 x (by omega)).1,fun y hy=>by have:=tA_lt tc (x:=x) (y:=y) (by omega) (by omega);omega⟩⟩,B.pos⟩
theorem pcS_so {a c:List (List Int)} (h:brT a c):pcS (soS a c)=((List.range a.length).countP (bitB (soS a c)):Nat):=by
 obtain ⟨ta,_,_,B⟩:=h
 have S:=soS_ok ta c
 have T:=tabB_of ta
 rw [pcS,show 63=a.length+(63 - a.length) by omega,pcF_more S.2.2,pcF_count]
 rfl
theorem tA_ext {n:Nat} {t u:List (List Int)} (ht:tbN n t) (hu:tbN n u):t=u↔∀x y,x<n→y<n→tA t x y=tA u x y:=by
 constructor
 ·rintro rfl x y _ _;rfl
 ·intro e
  apply List.ext_getElem?
  intro x
  by_cases hx:x<n
  ·have hxt:x<t.length:=by rw [ht.1];exact hx
   have hxu:x<u.length:=by rw [hu.1];exact hx
   rw [List.getElem?_eq_getElem hxt,List.getElem?_eq_getElem hxu]
   congr 1
   have r1:=ht.2 x hx
   have r2:=hu.2 x hx
   rw [getD_lt t [] x (by rw [ht.1];exact hx)] at r1
   rw [getD_lt u [] x (by rw [hu.1];exact hx)] at r2
   refine list_ext (by rw [r1.1,r2.1]) fun y hy=>?_
   rw [r1.1] at hy
   have v1:=r1.2 y hy
   have v2:=r2.2 y hy
   have q:=e x y hx hy
   have e1:t[x].getD y 0=en t x y:=by unfold en;rw [getD_lt t [] x (by rw [ht.1];exact hx)]
   have e2:u[x].getD y 0=en u x y:=by unfold en;rw [getD_lt u [] x (by rw [hu.1];exact hx)]
   rw [e1,e2]
   unfold tA at q
   omega
  ·rw [List.getElem?_eq_none (by rw [ht.1];omega),List.getElem?_eq_none (by rw [hu.1];omega)]
theorem trT_tb {n:Nat} {t:List (List Int)} (ht:tbN n t):tbN n (trT t)∧∀x y,x<n→y<n→tA (trT t) x y=tA t y x:=by
 have e:=ht.1
 have v:∀x y,x<n→y<n→en (trT t) x y=en t y x:=fun x y hx hy=>by
  unfold en trT
  rw [tabR_getD _ _ _ (by omega),tab_getD _ _ _ (by omega)];rfl
 refine ⟨⟨by rw [trT,tabR_length,e],fun x hx=>⟨by rw [trT,tabR_getD _ _ _ (by omega),tab_length,e],fun y hy=>?_⟩⟩,fun x y hx hy=>by unfold tA;rw [v x y hx hy]⟩
 rw [v x y hx hy]
 exact (ht.2 y hy).2 x hx
include h h2
theorem pr_facts:tbN (a.length * a2.length) (prT a a2)∧tbN (a.length * a2.length) (prT c c2)∧(∀x y,x<a.length * a2.length→y<a.length * a2.length→tA (prT a a2) x y=prN a2.length (tA a) (tA a2) x y)∧∀x y,x<a.length * a2.length→y<a.length * a2.length→tA (prT c c2) x y=prN a2.length (tA c) (tA c2) x y:=by
 obtain ⟨A1,A2,A3⟩:=brT_tb h
 obtain ⟨B1,B2,B3⟩:=brT_tb h2
 have lc:c.length=a.length:=A2.1
 have lc2:c2.length=a2.length:=B2.1
 have A2':tbN c.length c:=by rw [lc];exact A2
 have B2':tbN c2.length c2:=by rw [lc2];exact B2
 refine ⟨prT_tb A1 B1 B3,?_,fun x y hx hy=>prT_tA A1 B1 B3 hx hy,fun x y hx hy=>?_⟩
 ·have:=prT_tb A2' B2' (by omega)
  rwa [lc,lc2] at this
 ·have:=prT_tA A2' B2' (by omega) (x:=x) (y:=y) (by rw [lc,lc2];exact hx) (by rw [lc,lc2];exact hy)
  rwa [lc2] at this
theorem pr_eq:prT a a2=prT c c2↔a=c∧a2=c2:=by
 obtain ⟨A1,A2,A3⟩:=brT_tb h
 obtain ⟨B1,B2,B3⟩:=brT_tb h2
 obtain ⟨P,Q,eP,eQ⟩:=pr_facts h h2
 have h':=h
 have h2':=h2
 obtain ⟨_,_,_,B⟩:=h'
 obtain ⟨_,_,_,D⟩:=h2'
 rw [tA_ext P Q,tA_ext A1 A2,tA_ext B1 B2]
 constructor
 ·intro e
  refine ⟨fun x y hx hy=>?_,fun x y hx hy=>?_⟩
  ·have:=e (x * a2.length+0) (y * a2.length+0) (dm_lt hx B3) (dm_lt hy B3)
   rw [eP _ _ (dm_lt hx B3) (dm_lt hy B3),eQ _ _ (dm_lt hx B3) (dm_lt hy B3),prN,prN,dm_div B3,dm_mod B3,dm_div B3,dm_mod B3,dm_eq (D.ain _ _ B3 B3) (D.cin _ _ B3 B3)] at this
   exact this.1
  ·have:=e (0 * a2.length+x) (0 * a2.length+y) (dm_lt A3 hx) (dm_lt A3 hy)
   rw [eP _ _ (dm_lt A3 hx) (dm_lt A3 hy),eQ _ _ (dm_lt A3 hx) (dm_lt A3 hy),prN,prN,dm_div hx,dm_mod hx,dm_div hy,dm_mod hy,dm_eq (D.ain _ _ hx hy) (D.cin _ _ hx hy)] at this
   exact this.2
 ·rintro ⟨e1,e2⟩ x y hx hy
  obtain ⟨x1,x2⟩:=dm_in hx
  obtain ⟨y1,y2⟩:=dm_in hy
  rw [eP x y hx hy,eQ x y hx hy,prN,prN,e1 _ _ x1 y1,e2 _ _ x2 y2]
theorem pr_cl:prT a a2=trT (prT a a2)↔a=trT a∧a2=trT a2:=by
 obtain ⟨A1,A2,A3⟩:=brT_tb h
 obtain ⟨B1,B2,B3⟩:=brT_tb h2
 obtain ⟨P,Q,eP,eQ⟩:=pr_facts h h2
 have h':=h
 have h2':=h2
 obtain ⟨_,_,_,B⟩:=h'
 obtain ⟨_,_,_,D⟩:=h2'
 obtain ⟨TP,tP⟩:=trT_tb P
 obtain ⟨Ta,ta⟩:=trT_tb A1
 obtain ⟨Tb,tb⟩:=trT_tb B1
 rw [tA_ext P TP,tA_ext A1 Ta,tA_ext B1 Tb]
 constructor
 ·intro e
  refine ⟨fun x y hx hy=>?_,fun x y hx hy=>?_⟩
  ·have:=e (x * a2.length+0) (y * a2.length+0) (dm_lt hx B3) (dm_lt hy B3)
   rw [tP _ _ (dm_lt hx B3) (dm_lt hy B3),eP _ _ (dm_lt hx B3) (dm_lt hy B3),eP _ _ (dm_lt hy B3) (dm_lt hx B3),prN,prN,dm_div B3,dm_mod B3,dm_div B3,dm_mod B3,dm_eq (D.ain _ _ B3 B3) (D.ain _ _ B3 B3)] at this
   rw [ta x y hx hy];exact this.1
  ·have:=e (0 * a2.length+x) (0 * a2.length+y) (dm_lt A3 hx) (dm_lt A3 hy)
   rw [tP _ _ (dm_lt A3 hx) (dm_lt A3 hy),eP _ _ (dm_lt A3 hx) (dm_lt A3 hy),eP _ _ (dm_lt A3 hy) (dm_lt A3 hx),prN,prN,dm_div hx,dm_mod hx,dm_div hy,dm_mod hy,dm_eq (D.ain _ _ hx hy) (D.ain _ _ hy hx)] at this
   rw [tb x y hx hy];exact this.2
 ·rintro ⟨e1,e2⟩ x y hx hy
  obtain ⟨x1,x2⟩:=dm_in hx
  obtain ⟨y1,y2⟩:=dm_in hy
  have q1:=e1 _ _ x1 y1
  have q2:=e2 _ _ x2 y2
  rw [ta _ _ x1 y1] at q1
  rw [tb _ _ x2 y2] at q2
  rw [tP x y hx hy,eP x y hx hy,eP y x hy hx,prN,prN,q1,q2]
include hs
theorem pr_soc:pcS (soS (prT a a2) (prT c c2))=pcS (soS a c) * pcS (soS a2 c2):=by
 have hP:=brT_prod h h2 hs
 obtain ⟨A1,A2,A3⟩:=brT_tb h
 obtain ⟨B1,B2,B3⟩:=brT_tb h2
 obtain ⟨P,Q,eP,eQ⟩:=pr_facts h h2
 have h':=h
 have h2':=h2
 obtain ⟨_,_,_,B⟩:=h'
 obtain ⟨_,_,_,D⟩:=h2'
 rw [pcS_so hP,pcS_so h,pcS_so h2,P.1,←Int.natCast_mul,←count_prod]
 congr 1
 refine List.countP_congr fun t ht=>?_
 have ht:=List.mem_range.1 ht
 rw [so_soc hP,Bool.and_eq_true,so_soc h,so_soc h2,P.1,←soc_prod A3 B3 B.ain B.cin D.ain D.cin ht]
 unfold SocP
 constructor
 ·rintro ⟨x,y⟩
  refine ⟨x,fun z hz=>?_⟩
  have:=y z hz
  rwa [eQ t z ht hz,eP t z ht hz,eP z t hz ht] at this
 ·rintro ⟨x,y⟩
  refine ⟨x,fun z hz=>?_⟩
  rw [eQ t z ht hz,eP t z ht hz,eP z t hz ht]
  exact y z hz
end
def namL (n:Int):List (List (List Int)) :=
 cyT n::(if n=4 then [prT (cyT 2) (cyT 2)] else [])
theorem cyT_len {n:Int} (h:1≤n):((cyT n).length:Int)=n:=by rw [cyT,tabR_length];omega
theorem cyT_tb {n:Int} (h:1≤n):tbN (cyT n).length (cyT n):=by
 have e:=cyT_len h
 refine ⟨rfl,fun x hx=>?_⟩
 have r:(cyT n).getD x []=tab n.toNat (cyF n x):=tabR_getD _ _ _ (by omega)
 refine ⟨by rw [r,tab_length];omega,fun y hy=>?_⟩
 have v:en (cyT n) x y=cyF n x y:=by unfold en;rw [r,tab_getD _ _ _ (by omega)]
 have a:=Int.tmod_nonneg (a:=(x:Int)+(y:Int)) n (by omega)
 have b:=Int.tmod_lt_of_pos ((x:Int)+(y:Int)) (b:=n) (by omega)
 rw [v,cyF];omega
def l10Named_p (n:Int):Post:=⟨1≤n∧n≤5,.c (.tr [26,22,2] (.r3 .i64 (namL n))),[]⟩
def l10Named_ct:List AD→Option Post
 | [.c (.int .i64 (n))]=>some (l10Named_p n)
 | _=>none
def l10Named_wr (t:Nat):Bool:=[2000009,2000017,2000031,2000039,2000047,2000060,2000074,2000088].contains t
def l10Named_G:List (Nat×Ctr):=[(159,⟨[],l10Cyclic_ct⟩),(51,⟨[],l04Product_ct⟩)]
def l10Named_V (n:Int):Prop :=
 (((((1:Int)≤n)∧(n≤(12:Int)))∧True)∧(BrP (n == (4:Int)) (((((1:Int)≤(2:Int))∧((2:Int)≤(12:Int)))∧True)∧(((((1:Int)≤(2:Int))∧((2:Int)≤(12:Int)))∧True)∧((((tbN ((cyT (2:Int)).length) (cyT (2:Int)))∧((tbN ((cyT (2:Int)).length) (cyT (2:Int)))∧(((1:Nat)≤(cyT (2:Int)).length)∧(((cyT (2:Int)).length≤(144:Nat))∧((cyT (2:Int)).length≤(144:Nat))))))∧True)∧((room (FC.len (FC.r3 IntKind.i64 (cyT n::([]:List (List (List Int)))))+FC.len (FC.r3 IntKind.i64 (prT (cyT (2:Int)) (cyT (2:Int))::([]:List (List (List Int)))))))∧(BrP (decide ((6:Int)≤n)) (((2:Int)≠(0:Int))∧(BrP (Int.tmod n (2:Int) == (0:Int)) ((((2:Int)≠(0:Int))∧(InR (Int.tdiv n (2:Int))))∧(False)) (BrP (n == (8:Int)) ((((2:Int)≠(0:Int))∧(InR (Int.tdiv n (2:Int))))∧((((4:Int)≠(0:Int))∧(InR (Int.tdiv n (4:Int))))∧(False))) (BrP (n == (12:Int)) ((((2:Int)≠(0:Int))∧(InR (Int.tdiv n (2:Int))))∧((((4:Int)≠(0:Int))∧(InR (Int.tdiv n (4:Int))))∧(False))) (BrP (n == (12:Int)) (False) ((cyT n::([]:List (List (List Int)))++prT (cyT (2:Int)) (cyT (2:Int))::([]:List (List (List Int)))=namL n)∧True)))))) (BrP (n == (8:Int)) ((((2:Int)≠(0:Int))∧(InR (Int.tdiv n (2:Int))))∧((((4:Int)≠(0:Int))∧(InR (Int.tdiv n (4:Int))))∧(False))) (BrP (n == (12:Int)) ((((2:Int)≠(0:Int))∧(InR (Int.tdiv n (2:Int))))∧((((4:Int)≠(0:Int))∧(InR (Int.tdiv n (4:Int))))∧(False))) (BrP (n == (12:Int)) (False)
 ((cyT n::([]:List (List (List Int)))++prT (cyT (2:Int)) (cyT (2:Int))::([]:List (List (List Int)))=namL n)∧True))))))))) (BrP (n == (8:Int)) (((((1:Int)≤(2:Int))∧((2:Int)≤(12:Int)))∧True)∧(((((1:Int)≤(2:Int))∧((2:Int)≤(12:Int)))∧True)∧((((tbN ((cyT (2:Int)).length) (cyT (2:Int)))∧((tbN ((cyT (2:Int)).length) (cyT (2:Int)))∧(((1:Nat)≤(cyT (2:Int)).length)∧(((cyT (2:Int)).length≤(144:Nat))∧((cyT (2:Int)).length≤(144:Nat))))))∧True)∧(((((1:Int)≤(2:Int))∧((2:Int)≤(12:Int)))∧True)∧(((((1:Int)≤(4:Int))∧((4:Int)≤(12:Int)))∧True)∧((((tbN ((cyT (2:Int)).length) (cyT (2:Int)))∧((tbN ((cyT (4:Int)).length) (cyT (4:Int)))∧(((1:Nat)≤(cyT (4:Int)).length)∧(((cyT (2:Int)).length≤(144:Nat))∧((cyT (4:Int)).length≤(144:Nat))))))∧True)∧(((((1:Int)≤(2:Int))∧((2:Int)≤(12:Int)))∧True)∧((((tbN ((cyT (2:Int)).length) (cyT (2:Int)))∧((tbN ((prT (cyT (2:Int)) (cyT (2:Int))).length) (prT (cyT (2:Int)) (cyT (2:Int))))∧(((1:Nat)≤(prT (cyT (2:Int)) (cyT (2:Int))).length)∧(((cyT (2:Int)).length≤(144:Nat))∧((prT (cyT (2:Int)) (cyT (2:Int))).length≤(144:Nat))))))∧True)∧(False))))))))) (BrP (n == (9:Int)) (((((1:Int)≤(3:Int))∧((3:Int)≤(12:Int)))∧True)∧(((((1:Int)≤(3:Int))∧((3:Int)≤(12:Int)))∧True)∧((((tbN ((cyT (3:Int)).length) (cyT (3:Int)))∧((tbN ((cyT (3:Int)).length) (cyT (3:Int)))∧(((1:Nat)≤(cyT (3:Int)).length)∧(((cyT (3:Int)).length≤(144:Nat))∧((cyT (3:Int)).length≤(144:Nat))))))∧True) ∧
 ((room (FC.len (FC.r3 IntKind.i64 (cyT n::([]:List (List (List Int)))))+FC.len (FC.r3 IntKind.i64 (prT (cyT (3:Int)) (cyT (3:Int))::([]:List (List (List Int)))))))∧(BrP (decide ((6:Int)≤n)) (((2:Int)≠(0:Int))∧(BrP (Int.tmod n (2:Int) == (0:Int)) ((((2:Int)≠(0:Int))∧(InR (Int.tdiv n (2:Int))))∧(False)) (BrP (n == (8:Int)) ((((2:Int)≠(0:Int))∧(InR (Int.tdiv n (2:Int))))∧((((4:Int)≠(0:Int))∧(InR (Int.tdiv n (4:Int))))∧(False))) (BrP (n == (12:Int)) ((((2:Int)≠(0:Int))∧(InR (Int.tdiv n (2:Int))))∧((((4:Int)≠(0:Int))∧(InR (Int.tdiv n (4:Int))))∧(False))) (BrP (n == (12:Int)) (False) ((cyT n::([]:List (List (List Int)))++prT (cyT (3:Int)) (cyT (3:Int))::([]:List (List (List Int)))=namL n)∧True)))))) (BrP (n == (8:Int)) ((((2:Int)≠(0:Int))∧(InR (Int.tdiv n (2:Int))))∧((((4:Int)≠(0:Int))∧(InR (Int.tdiv n (4:Int))))∧(False))) (BrP (n == (12:Int)) ((((2:Int)≠(0:Int))∧(InR (Int.tdiv n (2:Int))))∧((((4:Int)≠(0:Int))∧(InR (Int.tdiv n (4:Int))))∧(False))) (BrP (n == (12:Int)) (False) ((cyT n::([]:List (List (List Int)))++prT (cyT (3:Int)) (cyT (3:Int))::([]:List (List (List Int)))=namL n)∧True))))))))) (BrP (n == (12:Int)) (((((1:Int)≤(2:Int))∧((2:Int)≤(12:Int)))∧True)∧(((((1:Int)≤(6:Int))∧((6:Int)≤(12:Int)))∧True)∧((((tbN ((cyT (2:Int)).length) (cyT (2:Int)))∧((tbN ((cyT (6:Int)).length) (cyT (6:Int)))∧(((1:Nat)≤(cyT (6:Int)).length)∧(((cyT (2:Int)).length≤(144:Nat))∧((cyT (6:Int)).length≤(144:Nat))))))∧True) ∧
 ((room (FC.len (FC.r3 IntKind.i64 (cyT n::([]:List (List (List Int)))))+FC.len (FC.r3 IntKind.i64 (prT (cyT (2:Int)) (cyT (6:Int))::([]:List (List (List Int)))))))∧(BrP (decide ((6:Int)≤n)) (((2:Int)≠(0:Int))∧(BrP (Int.tmod n (2:Int) == (0:Int)) ((((2:Int)≠(0:Int))∧(InR (Int.tdiv n (2:Int))))∧(False)) (BrP (n == (8:Int)) ((((2:Int)≠(0:Int))∧(InR (Int.tdiv n (2:Int))))∧((((4:Int)≠(0:Int))∧(InR (Int.tdiv n (4:Int))))∧(False))) (BrP (n == (12:Int)) ((((2:Int)≠(0:Int))∧(InR (Int.tdiv n (2:Int))))∧((((4:Int)≠(0:Int))∧(InR (Int.tdiv n (4:Int))))∧(False))) (BrP (n == (12:Int)) (False) ((cyT n::([]:List (List (List Int)))++prT (cyT (2:Int)) (cyT (6:Int))::([]:List (List (List Int)))=namL n)∧True)))))) (BrP (n == (8:Int)) ((((2:Int)≠(0:Int))∧(InR (Int.tdiv n (2:Int))))∧((((4:Int)≠(0:Int))∧(InR (Int.tdiv n (4:Int))))∧(False))) (BrP (n == (12:Int)) ((((2:Int)≠(0:Int))∧(InR (Int.tdiv n (2:Int))))∧((((4:Int)≠(0:Int))∧(InR (Int.tdiv n (4:Int))))∧(False))) (BrP (n == (12:Int)) (False) ((cyT n::([]:List (List (List Int)))++prT (cyT (2:Int)) (cyT (6:Int))::([]:List (List (List Int)))=namL n)∧True))))))))) (BrP (decide ((6:Int)≤n)) (((2:Int)≠(0:Int))∧(BrP (Int.tmod n (2:Int) == (0:Int)) ((((2:Int)≠(0:Int))∧(InR (Int.tdiv n (2:Int))))∧(False)) (BrP (n == (8:Int)) ((((2:Int)≠(0:Int))∧(InR (Int.tdiv n (2:Int))))∧((((4:Int)≠(0:Int))∧(InR (Int.tdiv n (4:Int))))∧(False))) (BrP (n == (12:Int)) ((((2:Int)≠(0:Int)) ∧
 (InR (Int.tdiv n (2:Int))))∧((((4:Int)≠(0:Int))∧(InR (Int.tdiv n (4:Int))))∧(False))) (BrP (n == (12:Int)) (False) ((cyT n::([]:List (List (List Int)))=namL n)∧True)))))) (BrP (n == (8:Int)) ((((2:Int)≠(0:Int))∧(InR (Int.tdiv n (2:Int))))∧((((4:Int)≠(0:Int))∧(InR (Int.tdiv n (4:Int))))∧(False))) (BrP (n == (12:Int)) ((((2:Int)≠(0:Int))∧(InR (Int.tdiv n (2:Int))))∧((((4:Int)≠(0:Int))∧(InR (Int.tdiv n (4:Int))))∧(False))) (BrP (n == (12:Int)) (False) ((cyT n::([]:List (List (List Int)))=namL n)∧True))))))))))
theorem l10Named_vc (n:Int):runF Try.prog (gam l10Named_G) l10Named_wr noAnn Try.f127 (bodyOf Try.f127) [] [.c (.int .i64 (n))] (l10Named_p n)=l10Named_V n:=by kernel_rfl
theorem l10Named_ok (n:Int) (hpre:(l10Named_p n).pre):l10Named_V n:=by
 simp only [l10Named_p,l10Named_V,BrP_iff,u1,u2,u3,u4,u5,u6,u7,u8,u9,v1,v2,v3,v4,v5,v6,v7,v8,v9,w1,w2,w3,w4,markL_length,inB,InR,room,bdsOk] at hpre ⊢
 obtain ⟨h1,h2⟩:=hpre
 have l2:(cyT 2).length=2:=by have:=cyT_len (n:=2) (by omega);omega
 have t2:=cyT_tb (n:=2) (by omega)
 have n8:n≠8:=by omega
 have n9:n≠9:=by omega
 have n12:n≠12:=by omega
 have n6:¬ 6≤n:=by omega
 have b1:n≤12:=by omega
 rw [l2] at t2
 by_cases h:n=4
 ·subst h
  simp [l2,t2,namL,FC.len]
 ·simp [l2,t2,namL,FC.len,h,n8,n9,n12,n6,h1,b1]
theorem l10Named_fits:Fits Try.prog 127 ⟨[],l10Named_ct⟩:=by
 refine ffn (Γ:=gam l10Named_G) (gok_cons l10Cyclic_fits (gok_cons l04Product_fits gok_nil)) Try.func127 fun ds p h hp=>?_
 unfold l10Named_ct at h
 split at h
 ·cases h
  exact ⟨l10Named_wr,noAnn,by rw [l10Named_vc];exact l10Named_ok _  hp⟩
 ·cases h
theorem nam_small {n:Int} (h1:1≤n) (h2:n≤5):∀t∈namL n,(t.length:Int)=n∧tabB t=true∧(auL t.length [t] [t]).length≤100:=by
 have:n=1∨n=2∨n=3∨n=4∨n=5:=by omega
 rcases this with rfl | rfl | rfl | rfl | rfl <;> decide +kernel
theorem tabB_tb {t:List (List Int)} (h:tabB t=true):tbN t.length t:=by
 obtain ⟨_,_,q⟩:=tabB_of h
 exact ⟨rfl,fun x hx=>⟨(q x hx).1,fun y hy=>by
  have:=(q x hx).2 y hy
  have e2:en t x y=(t.getD x []).getD y 0:=rfl
  omega⟩⟩
theorem nam_ok {n:Int} (h1:1≤n) (h2:n≤5) {t:List (List Int)} (ht:t∈namL n):(t.length:Int)=n∧tabB t=true∧tbN t.length t∧AuOk t.length (auF t)∧(auF t).length≤100∧cmI (auF t) 0 0=0:=by
 obtain ⟨a,b,c⟩:=nam_small h1 h2 t ht
 have T:=tabB_tb b
 have E:auF t=(auL t.length [t] [t]).take 1000000:=by
  rw [auF,mpR,if_pos rfl]
  exact mpL_eq (n:=t.length) (ts1 T) rfl (by omega) (by omega)
 have L:(auF t).length≤100:=by rw [E,List.length_take];omega
 obtain ⟨x,y⟩:=auF_ok T (by omega) (by omega)
 exact ⟨a,b,T,x,L,y⟩
def l13SearchM_p (d:Nat) (t:List (List Int)) (A:List (List Int)) (K:List Int) (out:List (List (List Int))):Post:=⟨ngL K<d∧t.length≤12∧tbN t.length t∧AuOk t.length A∧A.length≤100∧KOk t.length A.length K∧(∀c,c∈out→tbN t.length c)∧out.length+100 ^ ngL K≤1099511627775,.c (.ro (.r3 .i64 ((srF t A d K out)))),[.rows 22 2 .i64 (t)]⟩
def l13SearchM_ct (d:Nat):List AD→Option Post
 | [.c (.rows .i64 (t)),.c (.rows .i64 (A)),.c (.ints .i64 (K)),.c (.r3 .i64 (out))]=>some (l13SearchM_p d t A K out)
 | _=>none
def l13SearchM_ann (d:Nat) (t:List (List Int)) (A:List (List Int)) (K:List Int) (out:List (List (List Int))):Nat→Option Ann
 | 0=>some (Ann.mk ((Nat)) (fun x=>⟨[(0,.c (.own (700))),(1,.c (.ro (.rows .i64 (A)))),(2,.c (.ro (.ints .i64 (K)))),(3,.c (.ro (.r3 .i64 (out)))),(9,.c (.int .i64 ((x:Int))))],[(700,some (.rows 0 22 2 .i64 (t)))]⟩) (fun x=>x≤K.length∧(∀j,j<x→0≤K.getD j 0)) (fun x=>K.length - x) (fun _=>noAnn))
 | 1004=>some (Ann.mk ((Unit)) (fun u=>⟨[(0,.c (.own (700))),(1,.c (.ro (.rows .i64 (A)))),(2,.c (.ro (.ints .i64 (K)))),(3,.c (.ro (.r3 .i64 (out)))),(9,.c (.int .i64 ((psN K:Int))))],[(700,some (.rows 0 22 2 .i64 (t)))]⟩) (fun u=>True) (fun u=>0) (fun u=>fun b_=>match b_ with | 2=>some (Ann.mk ((Nat)) (fun y=>⟨[(0,.c (.own (700))),(1,.c (.ro (.rows .i64 (A)))),(2,.c (.ro (.ints .i64 (K)))),(3,.c (.ro (.r3 .i64 (out)))),(9,.c (.int .i64 ((psN K:Int)))),(10,.c (.own (10))),(11,.c (.int .i64 ((y:Int))))],[(10,some (.rows 0 22 2 .i64 ((List.range y).map fun y=>thL (A.getD (K.getD y 0).toNat []) (t.getD y [])))),(700,some (.rows 0 22 2 .i64 (t)))]⟩) (fun y=>y≤t.length∧psN K=K.length) (fun y=>t.length - y) (fun _=>noAnn)) | 4=>some (Ann.mk ((Nat)) (fun j=>⟨[(0,.c (.own (700))),(1,.c (.ro (.rows .i64 (A)))),(2,.c (.ro (.ints .i64 (K)))),(3,.c (.ro (.r3 .i64 (out)))),(9,.c (.int .i64 ((psN K:Int)))),(10,.c (.ro (.rows .i64 (cirT t A K)))),(12,.c (.int .i64 ((j:Int))))],[(700,some (.rows 0 22 2 .i64 (t)))]⟩) (fun j=>j≤out.length∧psN K=K.length∧(∀j1,j1<j→lexR (out.getD j1 []) (cirT t A K)=true)) (fun j=>out.length - j) (fun _=>noAnn)) | 1013=>some (Ann.mk ((Unit)) (fun u=>⟨[(0,.c (.own (700))),(3,.c (.ro (.r3 .i64 (out)))),(10,.c (.ro (.rows .i64 (cirT t A K)))),(12,.c (.int .i64 ((psC (cirT t A K) out:Int))))],[(700,some (.rows 0 22 2 .i64 (t)))]⟩) (fun u=>psN K=K.length) (fun u=>0) (fun _=>noAnn)) | 6=>some (Ann.mk ((Nat)) (fun i=>⟨[(0,.c (.own (700))),(1,.c (.ro (.rows .i64 (A)))),(2,.c (.ro (.ints .i64 (K)))),(3,.c (.ro (.r3 .i64 (srI (srG t A (srF t A (d - 1)) K) out i)))),(9,.c (.int .i64 ((psN K:Int)))),(14,.c (.int .i64 ((i:Int))))],[(700,some (.rows 0 22 2 .i64 (t)))]⟩) (fun i=>i≤A.length∧psN K≠K.length) (fun i=>A.length - i) (fun _=>noAnn)) | _=>none))
 | _=>none
def l13SearchM_G (d:Nat):List (Nat×Ctr):=[(61,⟨[],l01ThenG_ct⟩),(153,⟨[],l03Before_ct⟩),(83,⟨[],l01Own_ct⟩),(154,⟨[],l13Spread_ct⟩),(114,⟨[(0,0)],l13SearchM_ct d⟩)]
def l13SearchM_V (d:Nat) (t:List (List Int)) (A:List (List Int)) (K:List Int) (out:List (List (List Int))):Prop :=
 (((∃x0:Nat,(((x0≤K.length)∧(∀(j:Nat),j<x0→(0:Int)≤K.getD j (0:Int)))∧((A=A)∧((K=K)∧((out=out)∧(((0:Int)=(↑x0:Int))∧(t=t)))))))∧(∀x1:Nat,(((x1≤K.length)∧(∀(j:Nat),j<x1→(0:Int)≤K.getD j (0:Int)))→(BrP (decide ((↑x1:Int)<(↑(K.length):Int))) ((inB (↑x1:Int) (K.length))∧(BrP (decide ((0:Int)≤K.getD ((↑x1:Int).toNat) (0:Int))) ((InR ((↑x1:Int)+(1:Int)))∧(∃x2:Nat,(((x2≤K.length)∧(∀(j:Nat),j<x2→(0:Int)≤K.getD j (0:Int)))∧((K.length - x2<K.length - x1)∧((A=A)∧((K=K)∧((out=out)∧(((↑x1:Int)+(1:Int)=(↑x2:Int))∧(t=t))))))))) (∃x3:Unit,(True∧((A=A)∧((K=K)∧((out=out)∧(((↑x1:Int)=(↑(psN K):Int))∧(t=t))))))))) (∃x4:Unit,(True∧((A=A)∧((K=K)∧((out=out)∧(((↑x1:Int)=(↑(psN K):Int))∧(t=t)))))))))))∧(∀x5:Unit,(True→(BrP ((↑(psN K):Int) == (↑(K.length):Int)) ((∃x6:Nat,(((x6≤t.length)∧(psN K=K.length))∧((A=A)∧((K=K)∧((out=out)∧(((↑(psN K):Int)=(↑(psN K):Int))∧(((0:Int)=(↑x6:Int))∧((([]:List (List Int))=List.map (fun (y:Nat)=>thL (A.getD ((K.getD y (0:Int)).toNat) []) (t.getD y [])) (List.range x6))∧(t=t)))))))))∧(∀x7:Nat,(((x7≤t.length)∧(psN K=K.length))→(BrP (decide ((↑x7:Int)<(↑(t.length):Int))) ((inB (↑x7:Int) (K.length))∧((inB (K.getD ((↑x7:Int).toNat) (0:Int)) (A.length))∧((inB (↑x7:Int) (t.length))∧((((room ((A.getD ((K.getD ((↑x7:Int).toNat) (0:Int)).toNat) []).length)) ∧
 (inQ ((t.getD ((↑x7:Int).toNat) []).length) (A.getD ((K.getD ((↑x7:Int).toNat) (0:Int)).toNat) [])))∧True)∧((room ((List.map (fun (y:Nat)=>thL (A.getD ((K.getD y (0:Int)).toNat) []) (t.getD y [])) (List.range x7)).length+(thL (A.getD ((K.getD ((↑x7:Int).toNat) (0:Int)).toNat) []) (t.getD ((↑x7:Int).toNat) [])::([]:List (List Int))).length))∧((InR ((↑x7:Int)+(1:Int)))∧(∃x8:Nat,(((x8≤t.length)∧(psN K=K.length))∧((t.length - x8<t.length - x7)∧((A=A)∧((K=K)∧((out=out)∧(((↑(psN K):Int)=(↑(psN K):Int))∧(((↑x7:Int)+(1:Int)=(↑x8:Int))∧((List.map (fun (y:Nat)=>thL (A.getD ((K.getD y (0:Int)).toNat) []) (t.getD y [])) (List.range x7)++thL (A.getD ((K.getD ((↑x7:Int).toNat) (0:Int)).toNat) []) (t.getD ((↑x7:Int).toNat) [])::([]:List (List Int))=List.map (fun (y:Nat)=>thL (A.getD ((K.getD y (0:Int)).toNat) []) (t.getD y [])) (List.range x8))∧(t=t)))))))))))))))) (((∃x9:Nat,(((x9≤out.length)∧((psN K=K.length)∧(∀(j1:Nat),j1<x9→lexR (out.getD j1 ([]:List (List Int))) (cirT t A K)=true)))∧((A=A)∧((K=K)∧((out=out)∧(((↑(psN K):Int)=(↑(psN K):Int))∧((List.map (fun (y:Nat)=>thL (A.getD ((K.getD y (0:Int)).toNat) []) (t.getD y [])) (List.range x7)=cirT t A K)∧(((0:Int)=(↑x9:Int))∧(t=t)))))))))∧(∀x10:Nat,(((x10≤out.length)∧((psN K=K.length)∧(∀(j1:Nat),j1<x10→lexR (out.getD j1 ([]:List (List Int))) (cirT t A K)=true)))→(BrP (decide ((↑x10:Int)<(↑(out.length):Int)))
 ((inB (↑x10:Int) (out.length))∧((((roomR (out.getD ((↑x10:Int).toNat) ([]:List (List Int))))∧((roomR (cirT t A K))∧((out.getD ((↑x10:Int).toNat) ([]:List (List Int))).length=(cirT t A K).length)))∧True)∧(BrP (lexR (out.getD ((↑x10:Int).toNat) ([]:List (List Int))) (cirT t A K)) ((InR ((↑x10:Int)+(1:Int)))∧(∃x11:Nat,(((x11≤out.length)∧((psN K=K.length)∧(∀(j1:Nat),j1<x11→lexR (out.getD j1 ([]:List (List Int))) (cirT t A K)=true)))∧((out.length - x11<out.length - x10)∧((A=A)∧((K=K)∧((out=out)∧(((↑(psN K):Int)=(↑(psN K):Int))∧((cirT t A K=cirT t A K)∧(((↑x10:Int)+(1:Int)=(↑x11:Int))∧(t=t))))))))))) (∃x12:Unit,((psN K=K.length)∧((out=out)∧((cirT t A K=cirT t A K)∧(((↑x10:Int)=(↑(psC (cirT t A K) out):Int))∧(t=t))))))))) (∃x13:Unit,((psN K=K.length)∧((out=out)∧((cirT t A K=cirT t A K)∧(((↑x10:Int)=(↑(psC (cirT t A K) out):Int))∧(t=t))))))))))∧(∀x14:Unit,((psN K=K.length)→((bdsOk (out.length) (Option.some (↑(psC (cirT t A K) out):Int)) Option.none)∧((room (FC.len (FC.r3 IntKind.i64 (cirT t A K::([]:List (List (List Int)))))+FC.len (FC.r3 IntKind.i64 (cutL out (Option.some (↑(psC (cirT t A K) out):Int)) Option.none))))∧((bdsOk (out.length) Option.none (Option.some (↑(psC (cirT t A K) out):Int)))∧((room (FC.len (FC.r3 IntKind.i64 ([]:List (List (List Int))))+FC.len (FC.r3 IntKind.i64 (cutL out Option.none (Option.some (↑(psC (cirT t A K) out):Int)))))) ∧
 ((room (FC.len (FC.r3 IntKind.i64 (([]:List (List (List Int)))++cutL out Option.none (Option.some (↑(psC (cirT t A K) out):Int))))+FC.len (FC.r3 IntKind.i64 (cirT t A K::([]:List (List (List Int)))++cutL out (Option.some (↑(psC (cirT t A K) out):Int)) Option.none))))∧((([]:List (List (List Int)))++cutL out Option.none (Option.some (↑(psC (cirT t A K) out):Int))++(cirT t A K::([]:List (List (List Int)))++cutL out (Option.some (↑(psC (cirT t A K) out):Int)) Option.none)=srF t A (d+(1:Nat)) K out)∧((t=t)∧True)))))))))))))) ((∃x15:Nat,(((x15≤A.length)∧(psN K≠K.length))∧((A=A)∧((K=K)∧((out=srI (srG t A (srF t A (d+(1:Nat) - (1:Nat))) K) out x15)∧(((↑(psN K):Int)=(↑(psN K):Int))∧(((0:Int)=(↑x15:Int))∧(t=t))))))))∧(∀x16:Nat,(((x16≤A.length)∧(psN K≠K.length))→(BrP (decide ((↑x16:Int)<(↑(A.length):Int))) (((room (K.length))∧True)∧((inB (↑(psN K):Int) (K.length))∧((((t.length≤(12:Nat))∧((tbN (t.length) t)∧((AuOk (t.length) A)∧((A.length≤(1000000:Nat))∧(KOk (t.length) (A.length) (List.set K ((↑(psN K):Int).toNat) (↑x16:Int)))))))∧True)∧(BrP ((spC t A (List.set K ((↑(psN K):Int).toNat) (↑x16:Int))).2) ((((ngL ((spC t A (List.set K ((↑(psN K):Int).toNat) (↑x16:Int))).1)<d)∧((t.length≤(12:Nat))∧((tbN (t.length) t)∧((AuOk (t.length) A)∧((A.length≤(100:Nat))∧((KOk (t.length) (A.length) ((spC t A (List.set K ((↑(psN K):Int).toNat) (↑x16:Int))).1)) ∧
 ((∀(c:List (List Int)),c∈srI (srG t A (srF t A (d+(1:Nat) - (1:Nat))) K) out x16→tbN (t.length) c)∧((srI (srG t A (srF t A (d+(1:Nat) - (1:Nat))) K) out x16).length+(100:Nat) ^ ngL ((spC t A (List.set K ((↑(psN K):Int).toNat) (↑x16:Int))).1)≤(1099511627775:Nat)))))))))∧((List.map List.length t=List.map List.length t)∧True))∧((InR ((↑x16:Int)+(1:Int)))∧(∃x17:Nat,(((x17≤A.length)∧(psN K≠K.length))∧((A.length - x17<A.length - x16)∧((A=A)∧((K=K)∧((srF t A d ((spC t A (List.set K ((↑(psN K):Int).toNat) (↑x16:Int))).1) (srI (srG t A (srF t A (d+(1:Nat) - (1:Nat))) K) out x16)=srI (srG t A (srF t A (d+(1:Nat) - (1:Nat))) K) out x17)∧(((↑(psN K):Int)=(↑(psN K):Int))∧(((↑x16:Int)+(1:Int)=(↑x17:Int))∧(t=t))))))))))) ((InR ((↑x16:Int)+(1:Int)))∧(∃x18:Nat,(((x18≤A.length)∧(psN K≠K.length))∧((A.length - x18<A.length - x16)∧((A=A)∧((K=K)∧((srI (srG t A (srF t A (d+(1:Nat) - (1:Nat))) K) out x16=srI (srG t A (srF t A (d+(1:Nat) - (1:Nat))) K) out x18)∧(((↑(psN K):Int)=(↑(psN K):Int))∧(((↑x16:Int)+(1:Int)=(↑x18:Int))∧(t=t)))))))))))))) ((srI (srG t A (srF t A (d+(1:Nat) - (1:Nat))) K) out x16=srF t A (d+(1:Nat)) K out)∧((t=t)∧True))))))))))
theorem l13SearchM_vc (d:Nat) (t:List (List Int)) (A:List (List Int)) (K:List Int) (out:List (List (List Int))):runF Try.prog (gam (l13SearchM_G d)) noWr (l13SearchM_ann (d+1) t A K out) Try.f114 (bodyOf Try.f114) [(0,0)] [.c (.rows .i64 (t)),.c (.rows .i64 (A)),.c (.ints .i64 (K)),.c (.r3 .i64 (out))] (l13SearchM_p (d+1) t A K out)=l13SearchM_V d t A K out:=by kernel_rfl
theorem l13SearchM_ok (d:Nat) (t:List (List Int)) (A:List (List Int)) (K:List Int) (out:List (List (List Int))) (hpre:(l13SearchM_p (d+1) t A K out).pre):l13SearchM_V d t A K out:=by
 simp only [l13SearchM_p,l13SearchM_V,BrP_iff,u1,u2,u3,u4,u5,u6,u7,u8,u9,v1,v2,v3,v4,v5,v6,v7,v8,v9,w1,w2,w3,w4,markL_length,inB,InR,room,bdsOk] at hpre ⊢
 simp only [FC.len,cutL,Int.toNat_natCast]
 obtain ⟨h1,h2,h3,h4,h5,h6,h7,h8⟩:=hpre
 have kl:=h6.len
 have pl:=psN_le K
 have p1:1≤100 ^ ngL K:=Nat.one_le_pow _ _ (by omega)
 refine ⟨⟨⟨0,⟨by omega,fun j h=>by omega⟩,rfl⟩,fun x ⟨hx,ix⟩=>⟨fun g=>⟨by omega,fun q=>⟨by omega,x+1,⟨by omega,fun j hj=>?_⟩,by omega,by omega⟩,fun q=>⟨⟨⟩,?_⟩⟩,fun g=>⟨⟨⟩,?_⟩⟩⟩,fun _ _=>⟨fun hp=>?_,fun hp=>?_⟩⟩
 ·by_cases e:j=x
  ·subst e;exact q
  ·exact ix j (by omega)
 ·rw [psN_from K x ix hx (fun _=>by omega)]
 ·rw [psN_from K x ix hx (fun z=>absurd z (by omega))]
 ·have hp:psN K=K.length:=by omega
  have T:=cir_row h3 h4 h6 hp
  have PC:=psC_le (cirT t A K) out
  have o7:∀j,j<out.length→tbN t.length (out.getD j []):=fun j hj=>h7 _ (getD_mem out [] j hj)
  have e1:psN K=K.length:=hp
  refine ⟨⟨0,⟨by omega,e1⟩,rfl,rfl⟩,fun y ⟨hy,_⟩=>⟨fun g=>?_,fun g=>?_⟩⟩
  ·have hk:=psN_all K hp y (by omega)
   have hr:=h6.rng y (by omega)
   have L:=h4.len (K.getD y 0).toNat (by omega)
   have Lt:=(h3.2 y (by omega)).1
   refine ⟨by omega,by omega,by omega,⟨by omega,fun i hi=>?_⟩,by simp;omega,by omega,y+1,⟨by omega,e1⟩,by omega,by omega,?_⟩
   ·have:=h4.rng (K.getD y 0).toNat i (by omega) (by omega)
    rw [Lt];exact this
   ·rw [map_range_succ]
  ·have cT:(List.range y).map (fun y=>thL (A.getD (K.getD y 0).toNat []) (t.getD y []))=cirT t A K:=by rw [show y=t.length by omega];rfl
   refine ⟨⟨⟨0,⟨by omega,e1,fun j h=>by omega⟩,cT,rfl⟩,fun j ⟨hj,_,ij⟩=>⟨fun g2=>⟨by omega,⟨tbN_room (o7 j (by omega)) h2,tbN_room T h2,by rw [(o7 j (by omega)).1,T.1]⟩,fun q=>⟨by omega,j+1,⟨by omega,e1,fun j1 hj1=>?_⟩,by omega,by omega⟩,fun q=>⟨⟨⟩,e1,?_⟩⟩,fun g2=>⟨⟨⟩,e1,?_⟩⟩⟩,fun _ _=>?_⟩
   ·by_cases e:j1=j
    ·subst e;exact q
    ·exact ij j1 (by omega)
   ·rw [psC_from _ out j ij hj (fun _=>q)]
   ·rw [psC_from _ out j ij hj (fun z=>absurd z (by omega))]
   ·simp only [List.length_cons,List.length_nil,List.length_append,List.length_take,List.length_drop,List.nil_append]
    refine ⟨by omega,by omega,by omega,by omega,by omega,?_⟩
    rw [srF,if_pos hp,insC];rfl
 ·have hp:psN K≠K.length:=by omega
  have hx:psN K<K.length:=by omega
  have NG:=ng_set hx (i:=0)
  have P:100 ^ ngL K=100 ^ (ngL K - 1) * 100:=by rw [←Nat.pow_succ];congr 1;omega
  have B:∀i,i≤A.length→(∀c,c∈srI (srG t A (srF t A d) K) out i→tbN t.length c)∧(srI (srG t A (srF t A d) K) out i).length≤out.length+i * 100 ^ (ngL K - 1):=fun i hi=>by
   constructor
   ·refine srI_all (P:=fun o=>∀c,c∈o→tbN t.length c) h7 i fun j o hj hP=>?_
    unfold srG
    split
    ·exact hP
    ·rename_i K' hs
     exact srF_mem h3 h4 (fun K hK hp=>cir_row h3 h4 hK hp) d K' o (spR_ng h3 h4 h6 hx (by omega) hs).1 hP
   ·refine srI_len i fun j o hj=>?_
    unfold srG
    split
    ·omega
    ·rename_i K' hs
     have q:=spR_ng h3 h4 h6 hx (by omega) hs
     have a:=srF_len h3 h4 (M:=100) h5 (by omega) d K' o q.1
     have b:100 ^ ngL K'≤100 ^ (ngL K - 1):=Nat.pow_le_pow_right (by omega) (by omega)
     omega
  refine ⟨⟨0,⟨by omega,hp⟩,rfl,rfl⟩,fun i ⟨hi,_⟩=>⟨fun g=>?_,fun g=>?_⟩⟩
  ·obtain ⟨B1,B2⟩:=B i hi
   have hk:=h6.set (psN K) (w:=(i:Int)) ⟨by omega,by omega⟩
   have step:∀r,srG t A (srF t A d) K i (srI (srG t A (srF t A d) K) out i)=r→r=srI (srG t A (srF t A d) K) out (i+1):=fun r e=>by rw [srI,e]
   refine ⟨by omega,by omega,⟨h2,h3,h4,by omega,hk⟩,fun q=>?_,fun q=>⟨by omega,i+1,⟨by omega,hp⟩,by omega,step _ ?_,by omega⟩⟩
   ·have ok:=spC_yes q
    have N:=spR_ng h3 h4 h6 hx (i:=i) (by omega) ok
    have b:100 ^ ngL (spC t A (K.set (psN K) (i:Int))).1≤100 ^ (ngL K - 1):=Nat.pow_le_pow_right (by omega) (by omega)
    have c:i * 100 ^ (ngL K - 1)+100 ^ (ngL K - 1)≤100 ^ (ngL K - 1) * 100:=by
     rw [←Nat.succ_mul,Nat.mul_comm];exact Nat.mul_le_mul_left _ (by omega)
    refine ⟨⟨by omega,h2,h3,h4,h5,N.1,B1,?_⟩,by omega,i+1,⟨by omega,hp⟩,by omega,step _ ?_,by omega⟩
    ·show (srI (srG t A (srF t A d) K) out i).length+_≤_
     omega
    ·exact srG_yes ok
   ·exact srG_no (spC_no q)
  ·rw [srF,if_neg hp,show i=A.length by omega];rfl
theorem l13SearchM_no (t:List (List Int)) (A:List (List Int)) (K:List Int) (out:List (List (List Int))) (h:(l13SearchM_p 0 t A K out).pre):False:=by
 simp only [l13SearchM_p] at h
 omega
theorem l13SearchM_fits (d:Nat):Fits Try.prog 114 ⟨[(0,0)],l13SearchM_ct d⟩:=by
 induction d with
 | zero =>
  refine fits_no ⟨Try.f114,Try.func114,by kernel_rfl,by kernel_rfl⟩ (by decide) fun ds p h hp=>?_
  unfold l13SearchM_ct at h
  split at h
  ·cases h
   exact l13SearchM_no _ _ _ _  hp
  ·cases h
 | succ d ih =>
  refine fits_fn (Γ:=gam (l13SearchM_G d)) (gok_cons l01ThenG_fits (gok_cons l03Before_fits (gok_cons l01Own_fits (gok_cons l13Spread_fits (gok_cons ih gok_nil))))) Try.func114 (by kernel_rfl) (by kernel_rfl) (by kernel_rfl) fun ds p h hp=>?_
  unfold l13SearchM_ct at h
  split at h
  ·cases h
   exact ⟨noWr,l13SearchM_ann _ _ _ _ _ ,by rw [l13SearchM_vc];exact l13SearchM_ok _ _ _ _ _  hp⟩
  ·cases h
def l13CirclesM_p (t:List (List Int)):Post:=⟨tabB t=true∧AuOk t.length (auF t)∧(auF t).length≤100∧t.length≤7,.c (.ro (.r3 .i64 (cirF t (auF t)))),[.rows 22 2 .i64 (t)]⟩
def l13CirclesM_ct:List AD→Option Post
 | [.c (.rows .i64 (t))]=>some (l13CirclesM_p t)
 | _=>none
def l13CirclesM_ann (t:List (List Int)):Nat→Option Ann
 | 0=>some (Ann.mk ((Nat)) (fun i=>⟨[(0,.c (.own (700))),(3,.c (.own (3))),(4,.c (.int .i64 ((i:Int))))],[(3,some (.ints 2 .i64 (List.replicate i (-1)))),(700,some (.rows 0 22 2 .i64 (t)))]⟩) (fun i=>i≤t.length) (fun i=>t.length - i) (fun _=>noAnn))
 | _=>none
def l13CirclesM_G:List (Nat×Ctr):=[(60,⟨[],l10Automorphisms_ct⟩),(114,⟨[(0,0)],l13SearchM_ct 12⟩)]
def l13CirclesM_V (t:List (List Int)):Prop :=
 ((∃x0:Nat,((x0≤t.length)∧(((0:Int)=(↑x0:Int))∧(([]=List.replicate x0 (-1:Int))∧(t=t)))))∧(∀x1:Nat,((x1≤t.length)→(BrP (decide ((↑x1:Int)<(↑(t.length):Int))) ((room ((List.replicate x1 (-1:Int)).length+[(-1:Int)].length))∧((InR ((↑x1:Int)+(1:Int)))∧(∃x2:Nat,((x2≤t.length)∧((t.length - x2<t.length - x1)∧(((↑x1:Int)+(1:Int)=(↑x2:Int))∧((List.replicate x1 (-1:Int)++[(-1:Int)]=List.replicate x2 (-1:Int))∧(t=t)))))))) ((inB (0:Int) ((List.replicate x1 (-1:Int)).length))∧(((tabB t=true)∧True)∧((((ngL (List.set (List.replicate x1 (-1:Int)) (0:Nat) (0:Int))<(12:Nat))∧((t.length≤(12:Nat))∧((tbN (t.length) t)∧((AuOk (t.length) (auF t))∧(((auF t).length≤(100:Nat))∧((KOk (t.length) ((auF t).length) (List.set (List.replicate x1 (-1:Int)) (0:Nat) (0:Int)))∧((∀(c:List (List Int)),c∈([]:List (List (List Int)))→tbN (t.length) c)∧(([]:List (List (List Int))).length+(100:Nat) ^ ngL (List.set (List.replicate x1 (-1:Int)) (0:Nat) (0:Int))≤(1099511627775:Nat)))))))))∧((List.map List.length t=List.map List.length t)∧True))∧((srF t (auF t) (12:Nat) (List.set (List.replicate x1 (-1:Int)) (0:Nat) (0:Int)) ([]:List (List (List Int)))=cirF t (auF t))∧((t=t)∧True)))))))))
theorem l13CirclesM_vc (t:List (List Int)):runF Try.prog (gam l13CirclesM_G) noWr (l13CirclesM_ann t) Try.f72 (bodyOf Try.f72) [(0,0)] [.c (.rows .i64 (t))] (l13CirclesM_p t)=l13CirclesM_V t:=by kernel_rfl
theorem l13CirclesM_ok (t:List (List Int)) (hpre:(l13CirclesM_p t).pre):l13CirclesM_V t:=by
 simp only [l13CirclesM_p,l13CirclesM_V,BrP_iff,u1,u2,u3,u4,u5,u6,u7,u8,u9,v1,v2,v3,v4,v5,v6,v7,v8,v9,w1,w2,w3,w4,markL_length,inB,InR,room,bdsOk] at hpre ⊢
 obtain ⟨h1,h2,h3,h4⟩:=hpre
 obtain ⟨q1,q2,q3⟩:=tabB_of h1
 have T:tbN t.length t:=⟨rfl,fun x hx=>⟨(q3 x hx).1,fun y hy=>by
  have:=(q3 x hx).2 y hy
  have e2:en t x y=(t.getD x []).getD y 0:=rfl
  omega⟩⟩
 refine ⟨⟨0,by omega,rfl,rfl⟩,fun i hi=>⟨fun g=>⟨by omega,by omega,i+1,by omega,by omega,by omega,?_⟩,fun g=>?_⟩⟩
 ·rw [List.replicate_succ']
 ·rw [show i=t.length by omega]
  have NG:=k0_ng (n:=t.length) (by omega)
  have P:100 ^ ngL ((List.replicate t.length (-1)).set 0 0)≤100 ^ 6:=Nat.pow_le_pow_right (by omega) (by omega)
  exact ⟨by omega,h1,⟨by omega,by omega,T,h2,h3,Z0.ok k0_zero h2,fun c hc=>by simp at hc,by simp;omega⟩,rfl⟩
theorem l13CirclesM_fits:Fits Try.prog 72 ⟨[(0,0)],l13CirclesM_ct⟩:=by
 refine ffn (Γ:=gam l13CirclesM_G) (gok_cons l10Automorphisms_fits (gok_cons (l13SearchM_fits 12) gok_nil)) Try.func72 fun ds p h hp=>?_
 unfold l13CirclesM_ct at h
 split at h
 ·cases h
  exact ⟨noWr,l13CirclesM_ann _ ,by rw [l13CirclesM_vc];exact l13CirclesM_ok _  hp⟩
 ·cases h
end Go.Sx
