/- IdpF -/
import Derived.Test.YtcdmndagoafcgaaGreatIdpC
open Go Go.Proofs
namespace Go.Sx
set_option linter.unusedSimpArgs false
set_option linter.unusedVariables false
set_option linter.unusedSectionVars false
section
variable {n:Nat} {A C:Nat→Nat→Nat} (B:BrN n A C)
include B
theorem Rm:IdN n A C (kb n A C):=by
 refine ⟨fun x h=>h.1,Kl B,fun x y hx hy=>Km B hx hy,fun x i y hx hi h hy=>(Ko B hx hy hi h).1,fun x i y hx hi h hy=>?_,fun x j y hx hj h hy=>?_⟩
 ·have e:A (A x y) i=y:=by rw [←(hy.2 x hx).2,B.aas y x i hy.1 hx hi,h,B.a0r y hy.1]
  rw [e];exact hy
 ·obtain ⟨i,hi,h2⟩:=B.ainv x hx
  obtain ⟨u,eu⟩:=Ko B hx hy hi h2;have ew:C (A i (C x y)) x=C x y:=by rw [(u.2 x hx).1,(u.2 x hx).2,eu]
  have e:C (C x y) j=A i (C x y) :=
   calc C (C x y) j=C (C (A i (C x y)) x) j:=by rw [ew]
    _=C (A i (C x y)) (C x j):=B.cas _ x j u.1 hx hj
    _=A i (C x y):=by rw [h,B.c0r _ u.1]
  rw [e];exact u
def AI (n:Nat) (A C:Nat→Nat→Nat) (t:Nat):Prop:=kb n A C t∧∀z,z<n→C t z=C z t
theorem Rn:IdN n A C (AI n A C):=by
 have Z:AI n A C 0:=⟨Kl B,fun z hz=>by rw [B.c0l z hz,B.c0r z hz]⟩
 refine ⟨fun x h=>h.1.1,Z,fun x y hx hy=>⟨Km B hx.1 hy.1,fun z hz=>?_⟩,fun x i y hx hi h hy=>?_,fun x i y hx hi h hy=>?_,fun x j y hx hj h hy=>?_⟩
 ·have x1:=hx.1.1
  have y1:=hy.1.1
  rw [←(hx.1.2 y y1).1,B.cas x y z x1 y1 hz,hy.2 z hz,←B.cas x z y x1 hz y1,hx.2 z hz,B.cas z x y hz x1 y1]
 ·have e:A i (C x y)=y:=by
   have y1:=hy.1.1
   rw [←hy.2 x hx,(hy.1.2 x hx).1,(hy.1.2 x hx).2,←B.aas i x y hi hx y1,ke B hx hi h,B.a0l y y1]
  rw [e];exact hy
 ·have e:A (A x y) i=y:=by rw [←(hy.1.2 x hx).2,B.aas y x i hy.1.1 hx hi,h,B.a0r y hy.1.1]
  rw [e];exact hy
 ·have e:C (C x y) j=y:=by rw [←hy.2 x hx,B.cas y x j hy.1.1 hx hj,h,B.c0r y hy.1.1]
  rw [e];exact hy
def ir (n:Nat) (A C:Nat→Nat→Nat) (t:Nat):Prop:=t<n∧∀y i,y<n→i<n→A y i=0→A i (C y t)=t
theorem Ro {t y:Nat} (h:ir n A C t) (hy:y<n):C y t=A y t:=by
 obtain ⟨i,hi,h2⟩:=B.ainv y hy;have c:=B.cin y t hy h.1
 have e:A y (A i (C y t))=C y t:=by rw [←B.aas y i _ hy hi c,h2,B.a0l _ c]
 rw [h.2 y i hy hi h2] at e;exact e.symm
theorem Rp:ir n A C 0∧(∀x y,ir n A C x→ir n A C y→ir n A C (A x y))∧∀x y,ir n A C x→ir n A C y→ir n A C (C x y):=by
 have add:∀x y,ir n A C x→ir n A C y→ir n A C (A x y):=fun x y hx hy=>by
  refine ⟨B.ain x y hx.1 hy.1,fun z i hz hi h=>?_⟩
  have c1:=B.cin z x hz hx.1
  have c2:=B.cin z y hz hy.1
  rw [B.brc z x y i hz hx.1 hy.1 hi h,←B.aas i _ _ hi (B.ain _ i c1 hi) c2,←B.aas i _ i hi c1 hi,hx.2 z i hz hi h,B.aas x i _ hx.1 hi c2,hy.2 z i hz hi h]
 refine ⟨⟨B.pos,fun y i hy hi h=>by rw [B.c0r y hy,ke B hy hi h]⟩,add,fun x y hx hy=>?_⟩
 rw [Ro B hy hx.1];exact add x y hx hy
end
theorem IdN.congr {n:Nat} {A C:Nat→Nat→Nat} {P Q:Nat→Prop} (I:IdN n A C P) (h:∀t,Q t↔P t):IdN n A C Q:=by
 have:Q=P:=funext fun t=>propext (h t)
 rw [this];exact I
section
variable {a c:List (List Int)} (B:eW a c)
include B
theorem Rq:bt a c∈br a c:=pw B (Cq B.1 c) ((Rm B.2.2.2).congr fun t=>vg B t)
end
theorem tQ (c:List (List Int)):∀(l:List Int) (u:Nat),∃v:Nat,iY c l (u:Int)=(v:Int)∧∀k,v.testBit k=true↔(u.testBit k=true∨∃x∈l,x.toNat=k∧c.getD x.toNat []=(cI c).getD x.toNat [])
 | [],u=>⟨u,rfl,fun k=>by simp⟩
 | x::l,u=>by
  rw [iY];split
  ·rename_i h
   rw [Int.toNat_natCast];obtain ⟨v,e,hv⟩:=tQ c l (u ||| 2 ^ x.toNat)
   refine ⟨v,e,fun k=>?_⟩
   rw [hv,Nat.testBit_or,Nat.testBit_two_pow,Bool.or_eq_true,decide_eq_true_eq]
   constructor
   ·rintro ((h1 | h1) | ⟨y,hy,h2⟩)
    ·exact .inl h1
    ·exact .inr ⟨x,by simp,h1,h⟩
    ·exact .inr ⟨y,by simp [hy],h2⟩
   ·rintro (h1 | ⟨y,hy,h2⟩)
    ·exact .inl (.inl h1)
    ·rcases List.mem_cons.1 hy with rfl | hy
     ·exact .inl (.inr h2.1)
     ·exact .inr ⟨y,hy,h2⟩
  ·rename_i h
   obtain ⟨v,e,hv⟩:=tQ c l u;refine ⟨v,e,fun k=>?_⟩
   rw [hv]
   constructor
   ·rintro (h1 | ⟨y,hy,h2⟩)
    ·exact .inl h1
    ·exact .inr ⟨y,by simp [hy],h2⟩
   ·rintro (h1 | ⟨y,hy,h2⟩)
    ·exact .inl h1
    ·rcases List.mem_cons.1 hy with rfl | hy
     ·exact absurd h2.2 h
     ·exact .inr ⟨y,hy,h2⟩
section
variable {a c:List (List Int)} (B:eW a c)
include B
theorem AJ (k:Nat):aD (d6 a c) k=true↔AI a.length (tA a) (tA c) k:=by
 obtain ⟨v,e,hv⟩:=tQ c (ag (bt a c) 12) 0;have e':d6 a c=(v:Int):=e
 have n2:=(bA B.1).2.1
 have hl:=B.2.2.1
 have row:∀x,x<a.length→(c.getD x []=(cI c).getD x []↔∀z,z<a.length→tA c x z=tA c z x):=fun x hx=>by
  have r1:=((bA B.2.1).2.2 x (by omega)).1
  have r2:(cI c).getD x []=aq c.length fun y=>en c y x:=eZ _ _ _ (by omega)
  constructor
  ·intro h z hz
   have:en c x z=en c z x:=by
    show (c.getD x []).getD z 0=_
    rw [h,r2,cr _ _ _ (by omega)]
   unfold tA;rw [this]
  ·intro h
   refine xV (by rw [r2,cf];omega) fun z hz=>?_
   rw [r2,cr _ _ _ (by omega)]
   have q:=h z (by omega)
   have q1:=(fh B.2.1 (x:=x) (y:=z) (by omega) (by omega)).2
   have q2:=(fh B.2.1 (x:=z) (y:=x) (by omega) (by omega)).2
   have:en c x z=en c z x:=by omega
   exact this
 rw [e',aD,Int.toNat_natCast,hv,Nat.zero_testBit];have mem:∀x:Int,x∈ag (bt a c) 12↔∃i:Nat,i<12∧aD (bt a c) i=true∧(i:Int)=x:=fun x=>by
  simp only [ag,List.mem_map,List.mem_filter,List.mem_range,and_assoc]
 constructor
 ·rintro (h | ⟨x,hx,rfl,h2⟩)
  ·cases h
  ·obtain ⟨i,_,hb,rfl⟩:=(mem x).1 hx
   rw [Int.toNat_natCast] at h2 ⊢;have S:=(vg B i).1 hb
   exact ⟨S,(row i S.1).1 h2⟩
 ·rintro ⟨S,h⟩
  refine .inr ⟨(k:Int),(mem k).2 ⟨k,by have:=S.1;omega,(vg B k).2 S,rfl⟩,Int.toNat_natCast k,?_⟩
  rw [Int.toNat_natCast];exact (row k S.1).2 h
theorem AK:bu a (d6 a c):=by
 obtain ⟨v,e,hv⟩:=tQ c (ag (bt a c) 12) 0;have e':d6 a c=(v:Int):=e
 refine ⟨B.1,by omega,?_⟩
 rw [e',Int.toNat_natCast];refine Nat.lt_pow_two_of_testBit v fun i hi=>?_
 have q:=AJ B i
 rw [e',aD,Int.toNat_natCast] at q;cases hb:v.testBit i
 ·rfl
 ·have:=(q.1 hb).1.1;omega
theorem Rr:d6 a c∈br a c:=pw B (AK B) ((Rn B.2.2.2).congr fun t=>AJ B t)
theorem AL {s u:Int} (hs:0≤s):(((s.toNat &&& u.toNat:Nat):Int)=s)↔∀k,aD s k=true→aD u k=true:=by
 constructor
 ·intro h k hk
  have e:s.toNat &&& u.toNat=s.toNat:=by omega
  rw [aD,←e,Nat.testBit_and,Bool.and_eq_true] at hk;exact hk.2
 ·intro h
  have e:s.toNat &&& u.toNat=s.toNat:=by
   apply Nat.eq_of_testBit_eq
   intro k
   rw [Nat.testBit_and];cases hk:s.toNat.testBit k
   ·rfl
   ·rw [Bool.true_and];exact h k hk
  rw [e];omega
theorem Rs:(((d6 a c).toNat &&& (bt a c).toNat:Nat):Int)=d6 a c :=
 (AL B (AK B).2.1).2 fun k hk=>(vg B k).2 ((AJ B k).1 hk).1
end
set_option linter.unusedSectionVars false
def dk (a c:List (List Int)):List Int:=aL (ig a c) (2 ^ (a.length - 1))
def eK (a c:List (List Int)):List Int:=aL (gt a c) (2 ^ (a.length - 1))
theorem pz (t:List (List Int)) (s:Int):cQ t s=true↔aD s 0=true∧∀x y,x<t.length→y<t.length→aD s x=true→aD s y=true→aD s (tA t x y)=true:=by
 simp only [cQ,bv,gU,Bool.and_eq_true,List.all_eq_true,List.mem_range]
 constructor
 ·rintro ⟨h0,h⟩
  refine ⟨h0,fun x y hx hy px py=>?_⟩
  have q:=h x hx y hy
  rw [il,px,py] at q;exact q
 ·rintro ⟨h0,h⟩
  refine ⟨h0,fun x hx y hy=>?_⟩
  rw [il];cases px:aD s x
  ·simp
  ·cases py:aD s y
   ·simp
   ·exact h x y hx hy px py
section
variable {a c:List (List Int)} (B:eW a c)
include B
theorem j6 (k:Nat):aD (gS a c) k=true↔ir a.length (tA a) (tA c) k:=by
 obtain ⟨ua,uc,fa,fc⟩:=tN B;have hl:=B.2.2.1
 have ll:(aO a c).length=a.length:=fK _ _
 rw [gS,aD,Int.toNat_natCast,Cp,Bool.and_eq_true,decide_eq_true_eq]
 constructor
 ·rintro ⟨hk,h⟩
  refine ⟨hk,fun y i hy hi e=>?_⟩
  rw [fA,Bool.not_eq_true',List.any_eq_false] at h;have q:=h _ (cE (aO a c) [] y (by omega))
  rw [decide_eq_true_eq,Classical.not_not] at q;have q':en (aO a c) y k=(k:Int):=q
  rw [pv a c hy hk,ua y i hy hi e] at q'
  show tA a i (tA c y k)=k
  unfold tA;rw [q'];rfl
 ·rintro ⟨hk,h⟩
  refine ⟨hk,?_⟩
  rw [fA,Bool.not_eq_true',List.any_eq_false];intro r hr
  obtain ⟨y,hy,rfl⟩:=List.getElem_of_mem hr;have hy:y<a.length:=by omega
  rw [decide_eq_true_eq,Classical.not_not];have q:=h y _ hy (fa y hy).1 (fa y hy).2
  have v:=fh B.2.1 (x:=y) (y:=k) (by omega) (by omega)
  have v2:=fh B.1 (x:=(bk a y).toNat) (y:=tA c y k) (fa y hy).1 (by omega)
  have e:=pv a c hy hk
  have e2:((aO a c)[y]'(by omega)).getD k 0=en (aO a c) y k:=by
   show _=((aO a c).getD y []).getD k 0
   rw [ce _ [] y (by omega)]
  rw [e2,e];have e3:(en c y k).toNat=tA c y k:=rfl
  rw [e3,v2.2,q]
theorem Rt:bu a (gS a c):=by
 refine ⟨B.1,Int.natCast_nonneg _,?_⟩
 rw [gS,Int.toNat_natCast];exact oX _ _
theorem Ru:gS a c∈eK a c:=by
 obtain ⟨f0,f1,f2⟩:=Rp B.2.2.2;refine (tP (Rt B) ((j6 B 0).2 f0)).2 ?_
 rw [gt,Bool.and_eq_true,pz,pz];exact ⟨⟨(j6 B 0).2 f0,fun x y _ _ px py=>(j6 B _).2 (f1 x y ((j6 B x).1 px) ((j6 B y).1 py))⟩,
  (j6 B 0).2 f0,fun x y _ _ px py=>(j6 B _).2 (f2 x y ((j6 B x).1 px) ((j6 B y).1 py))⟩
theorem Rv {s:Int} (h:s∈br a c):s∈dk a c:=by
 obtain ⟨S,i,I⟩:=iq B h;refine (tP S I.zero).2 ?_
 simp only [aR,Bool.and_eq_true] at i;rw [ig,Bool.and_eq_true];exact ⟨i.1.1.1,i.1.1.2⟩
theorem Rw {s:Int} (h:s∈dk a c):s∈eK a c:=by
 obtain ⟨j,hj,e⟩:=tR h;have S:bu a s:=by rw [e];exact pB B.1 hj
 obtain ⟨ua,uc,fa,fc⟩:=tN B;have hl:=B.2.2.1
 have p:ig a c s=true:=by
  simp only [dk,aL,List.mem_map,List.mem_filter] at h;obtain ⟨j,⟨_,hp⟩,rfl⟩:=h;exact hp
 rw [ig,Bool.and_eq_true,pz] at p;obtain ⟨⟨p0,p1⟩,p2⟩:=p;simp only [cJ,gV,List.all_eq_true,List.mem_range] at p2;refine (tP S p0).2 ?_
 rw [gt,Bool.and_eq_true,pz,pz];refine ⟨⟨p0,p1⟩,p0,fun x y hx hy px py=>?_⟩
 have hx:x<a.length:=by omega
 have hy:y<a.length:=by omega
 have q:=p2 x hx y hy
 rw [i6,py,pv a c hx hy] at q;have q':aD s (tA a (bk a x).toNat (tA c x y))=true:=q
 have v:=B.2.2.2.cin x y hx hy
 have w:=B.2.2.2.ain _ _ (fa x hx).1 v
 have r:=p1 x _ hx w px q'
 rw [←B.2.2.2.aas x _ _ hx (fa x hx).1 v,(fa x hx).2,B.2.2.2.a0l _ v] at r;exact r
end
theorem Io (a c:List (List Int)) (x m k:Nat):∀j,(g5 a c x m j).testBit k=true↔(m.testBit k=true∨∃y,y<j∧(di a c x y).toNat=k)
 | 0=>by simp [g5]
 | j+1=>by
  rw [g5,Nat.testBit_or,Nat.testBit_two_pow,Bool.or_eq_true,decide_eq_true_eq,Io a c x m k j]
  constructor
  ·rintro ((h | ⟨y,hy,h⟩) | h)
   ·exact .inl h
   ·exact .inr ⟨y,by omega,h⟩
   ·exact .inr ⟨j,by omega,h⟩
  ·rintro (h | ⟨y,hy,h⟩)
   ·exact .inl (.inl h)
   ·by_cases e:y=j
    ·subst e;exact .inr h
    ·exact .inl (.inr ⟨y,by omega,h⟩)
theorem AM (a c:List (List Int)) (k:Nat):∀i,(cX a c i).testBit k=true↔∃x y,x<i∧y<a.length∧(di a c x y).toNat=k
 | 0=>by simp [cX]
 | i+1=>by
  rw [cX,Io,AM a c k i]
  constructor
  ·rintro (⟨x,y,hx,h⟩ | ⟨y,h⟩)
   ·exact ⟨x,y,by omega,h⟩
   ·exact ⟨i,y,by omega,h⟩
  ·rintro ⟨x,y,hx,h⟩
   by_cases e:x=i
   ·subst e;exact .inr ⟨y,h⟩
   ·exact .inl ⟨x,y,by omega,h⟩
theorem Ip {st:Int} {l:List Int} {m0:Int} (k:Nat):∀i,aD (de st l m0 i) k=true↔(aD m0 k=true∧∀j,j<i→(((l.getD j 0).toNat &&& st.toNat:Nat):Int)=st→aD (l.getD j 0) k=true)
 | 0=>by simp [de]
 | i+1=>by
  have ih:=Ip (st:=st) (l:=l) (m0:=m0) k i
  simp only [de];split
  ·rename_i h
   rw [aD,Int.toNat_natCast,Nat.testBit_and,Bool.and_eq_true];have e:(de st l m0 i).toNat.testBit k=aD (de st l m0 i) k:=rfl
   rw [e,ih]
   constructor
   ·rintro ⟨⟨h1,h2⟩,h3⟩
    refine ⟨h1,fun j hj hc=>?_⟩
    by_cases e:j=i
    ·subst e;exact h3
    ·exact h2 j (by omega) hc
   ·rintro ⟨h1,h2⟩
    exact ⟨⟨h1,fun j hj=>h2 j (by omega)⟩,h2 i (by omega) h⟩
  ·rename_i h
   rw [ih]
   constructor
   ·rintro ⟨h1,h2⟩
    refine ⟨h1,fun j hj hc=>?_⟩
    by_cases e:j=i
    ·subst e;exact absurd hc h
    ·exact h2 j (by omega) hc
   ·rintro ⟨h1,h2⟩
    exact ⟨h1,fun j hj=>h2 j (by omega)⟩
set_option linter.unusedSectionVars false
section
variable {a c:List (List Int)} (B:eW a c)
include B
theorem Rx:bM a c:=by
 have b:=dq (pP B)
 exact ⟨b.1,b.2.1,b.2.2.1⟩
theorem AN (k:Nat):aD (iD a c) k=true↔(k<a.length∧∀s,s∈br a c→(((s.toNat &&& cX a c a.length:Nat):Int)=(cX a c a.length:Int))→aD s k=true):=by
 have e1:(1 * 2 ^ a.length - 1:Int)=((2 ^ a.length - 1:Nat):Int):=by
  have:=Nat.one_le_pow a.length 2 (by omega)
  rw [me];omega
 rw [iD,Ip,e1,Ay,decide_eq_true_eq];simp only [Int.toNat_natCast]
 constructor
 ·rintro ⟨h1,h2⟩
  refine ⟨h1,fun s hs h3=>?_⟩
  obtain ⟨j,hj,rfl⟩:=List.getElem_of_mem hs;have q:=h2 j hj
  have e:(aL (aR a c) (2 ^ (a.length - 1))).getD j 0=(br a c)[j]:=ce _ 0 j hj
  rw [e] at q;exact q h3
 ·rintro ⟨h1,h2⟩
  exact ⟨h1,fun j hj h3=>h2 _ (cE _ 0 j hj) h3⟩
theorem AO:bu a (iD a c):=by
 have p:=Nat.one_le_pow a.length 2 (by omega)
 have q:=CX (st:=(cX a c a.length:Nat)) (l:=aL (aR a c) (2 ^ (a.length - 1))) (m0:=1 * 2 ^ a.length - 1) (M:=1 * 2 ^ a.length - 1) (by rw [me];omega) (aL (aR a c) (2 ^ (a.length - 1))).length
 rw [me] at q;have e:iD a c=de (cX a c a.length:Nat) (aL (aR a c) (2 ^ (a.length - 1))) (1 * 2 ^ a.length - 1) (aL (aR a c) (2 ^ (a.length - 1))).length:=rfl
 rw [me] at e;rw [←e] at q;exact ⟨B.1,q.1,by omega⟩
theorem Ry:IdN a.length (tA a) (tA c) (fun t=>t<a.length):=by
 have hB:=B.2.2.2
 exact ⟨fun x h=>h,hB.pos,hB.ain,fun x i y hx hi _ hy=>hB.ain _ _ hi (hB.cin _ _ hx hy),fun x i y hx hi _ hy=>hB.ain _ _ (hB.ain _ _ hx hy) hi,fun x j y hx hj _ hy=>hB.cin _ _ (hB.cin _ _ hx hy) hj⟩
theorem Rz:IdN a.length (tA a) (tA c) (fun t=>aD (iD a c) t=true):=by
 have F:=Ry B
 refine IdN.congr (P:=fun k=>k<a.length∧∀s,s∈br a c→(((s.toNat &&& cX a c a.length:Nat):Int)=(cX a c a.length:Int))→aD s k=true) ?_ fun k=>AN B k
 refine ⟨fun x h=>h.1,⟨F.zero,fun s hs h=>(iq B hs).2.2.zero⟩,fun x y hx hy=>⟨F.add x y hx.1 hy.1,fun s hs h=>(iq B hs).2.2.add x y (hx.2 s hs h) (hy.2 s hs h)⟩,
  fun x i y hx hi e hy=>⟨F.lam x i y hx hi e hy.1,fun s hs h=>(iq B hs).2.2.lam x i y hx hi e (hy.2 s hs h)⟩,
  fun x i y hx hi e hy=>⟨F.na x i y hx hi e hy.1,fun s hs h=>(iq B hs).2.2.na x i y hx hi e (hy.2 s hs h)⟩,
  fun x j y hx hj e hy=>⟨F.nc x j y hx hj e hy.1,fun s hs h=>(iq B hs).2.2.nc x j y hx hj e (hy.2 s hs h)⟩⟩
theorem RA:iD a c∈br a c:=pw B (AO B) (Rz B)
theorem RB {s:Int} (h:s∈br a c):(((s.toNat &&& (iD a c).toNat:Nat):Int)=iD a c)↔∀x y,x<a.length→y<a.length→aD s (di a c x y).toNat=true:=by
 obtain ⟨S,_,I⟩:=iq B h;rw [Nat.and_comm,AL B (AO B).2.1];have key:∀u:Int,(((u.toNat &&& cX a c a.length:Nat):Int)=(cX a c a.length:Int))↔∀x y,x<a.length→y<a.length→aD u (di a c x y).toNat=true:=fun u=>by
  have q:=AL B (s:=(cX a c a.length:Int)) (u:=u) (Int.natCast_nonneg _)
  rw [Int.toNat_natCast,Nat.and_comm] at q;rw [q]
  constructor
  ·intro h x y hx hy
   exact h _ (by rw [aD,Int.toNat_natCast,AM];exact ⟨x,y,hx,hy,rfl⟩)
  ·intro h k hk
   rw [aD,Int.toNat_natCast,AM] at hk;obtain ⟨x,y,hx,hy,rfl⟩:=hk;exact h x y hx hy
 constructor
 ·intro k x y hx hy
  refine k _ ((AN B _).2 ⟨?_,fun u hu hc=>(key u).1 hc x y hx hy⟩)
  have:=CU (Rx B) hx hy
  omega
 ·intro k t ht
  exact ((AN B t).1 ht).2 s h ((key s).2 k)
theorem Iq {s:Int} (I:IdN a.length (tA a) (tA c) (fun t=>aD s t=true)) {x y:Nat} (hx:x<a.length) (hy:y<a.length) :
  eJ (tA a) (fun t=>aD s t=true) (tA a x y) (tA c x y)↔aD s (di a c x y).toNat=true:=by
 obtain ⟨ua,uc,fa,fc⟩:=tN B;have hB:=B.2.2.2
 obtain ⟨i1,i2⟩:=fa x hx;obtain ⟨j1,j2⟩:=fa y hy;have j3:=ke hB hy j1 j2
 have i3:=ke hB hx i1 i2
 have cv:=hB.cin x y hx hy
 have lv:=hB.ain _ _ i1 cv
 have e:(di a c x y).toNat=tA a (tA a (bk a x).toNat (tA c x y)) (bk a y).toNat:=rfl
 rw [e]
 constructor
 ·rintro ⟨t,ht,et⟩
  have tn:=I.dom t ht
  rw [←et,hB.aas x y t hx hy tn,←hB.aas _ x _ i1 hx (hB.ain y t hy tn),i3,hB.a0l _ (hB.ain y t hy tn)];exact I.na y _ t hy j1 j2 ht
 ·intro h
  have hn:=I.dom _ h
  refine ⟨_,I.na (bk a y).toNat y _ j1 hy j3 h,?_⟩
  have e1:tA a (tA a (bk a y).toNat (tA a (tA a (bk a x).toNat (tA c x y)) (bk a y).toNat)) y=tA a (bk a y).toNat (tA a (bk a x).toNat (tA c x y)):=by
   rw [hB.aas _ _ y j1 hn hy,hB.aas _ _ y lv j1 hy,j3,hB.a0r _ lv]
  rw [e1,hB.aas x y _ hx hy (hB.ain _ _ j1 lv),←hB.aas y _ _ hy j1 lv,j2,hB.a0l _ lv,←hB.aas x _ _ hx i1 cv,i2,hB.a0l _ cv]
theorem RD {s:Int} (I:IdN a.length (tA a) (tA c) (fun t=>aD s t=true)):ba (dw a s) (quo a (a8 a s))∧ba (dw a s) (quo c (a8 a s)):=by
 obtain ⟨q1,q2⟩:=pu B I B.1 rfl;obtain ⟨q3,q4⟩:=pu B I B.2.1 B.2.2.1;have h1:=(JG (tM B I)).1
 have h2:=(JG (tM B I)).2.1
 rw [q2] at h1 h2;exact ⟨h1,h2⟩
theorem RE {s:Int} (h:s∈br a c):quo a (a8 a s)=quo c (a8 a s)↔(((s.toNat &&& (iD a c).toNat:Nat):Int)=iD a c):=by
 obtain ⟨S,_,I⟩:=iq B h;have hB:=B.2.2.2
 obtain ⟨T1,T2⟩:=RD B I;rw [RB B h,Tb T1 T2];have ea:∀x y,x<dw a s→y<dw a s→tA (quo a (a8 a s)) x y=fb a s (tA a (dJ a s x) (dJ a s y)):=fun x y hx hy=>by
  have:=pt B I B.1 rfl hx hy
  rw [tA,this,Int.toNat_natCast]
 have ec:∀x y,x<dw a s→y<dw a s→tA (quo c (a8 a s)) x y=fb a s (tA c (dJ a s x) (dJ a s y)):=fun x y hx hy=>by
  have:=pt B I B.2.1 B.2.2.1 hx hy
  rw [tA,this,Int.toNat_natCast]
 constructor
 ·intro k x y hx hy
  rw [←Iq B I hx hy];have px:=(jy B I hx).2
  have py:=(jy B I hy).2
  obtain ⟨fx,gx,_⟩:=ip B I px;obtain ⟨fy,gy,_⟩:=ip B I py;have q:=k _ _ px py
  rw [ea _ _ px py,ec _ _ px py,io B I (hB.ain _ _ fx fy) (hB.cin _ _ fx fy)] at q;have sx:=(io B I hx fx).1 gx.symm
  have sy:=(io B I hy fy).1 gy.symm
  have r1:=Il hB I hx hy sx sy
  have r2:=Im hB I hx hy sx sy
  exact nJ hB I (hB.ain x y hx hy) (nJ hB I (hB.ain x y hx hy) r1 q) (AF hB I (hB.cin x y hx hy) r2)
 ·intro k x y hx hy
  obtain ⟨fx,_⟩:=ip B I hx;obtain ⟨fy,_⟩:=ip B I hy;rw [ea x y hx hy,ec x y hx hy,io B I (hB.ain _ _ fx fy) (hB.cin _ _ fx fy),Iq B I fx fy];exact k _ _ fx fy
end
theorem Ir (π:Nat→Nat):∀(l:List Nat) (m:Nat),(∀x∈l,π x<m)→l.length=((List.range m).map fun u=>l.countP fun x=>decide (π x=u)).sum
 | [],m,_=>by
  have e:∀k:Nat,((List.range k).map fun u=>([]:List Nat).countP fun x=>decide (π x=u)).sum=0:=fun k=>by
   induction k with
   | zero=>rfl
   | succ k ih=>rw [List.range_succ,List.map_append,List.sum_append,ih];rfl
  exact (e m).symm
 | x::l,m,h=>by
  have ih:=Ir π l m fun y hy=>h y (by simp [hy])
  have hx:=h x (by simp)
  have e:∀k,((List.range k).map fun u=>(x::l).countP fun y=>decide (π y=u)).sum=((List.range k).map fun u=>l.countP fun y=>decide (π y=u)).sum+if π x<k then 1 else 0:=fun k=>by
   induction k with
   | zero=>simp
   | succ k ih2 =>
    rw [List.range_succ,List.map_append,List.map_append,List.sum_append,List.sum_append,ih2];simp only [List.map_cons,List.map_nil,List.sum_cons,List.sum_nil,List.countP_cons,decide_eq_true_eq];by_cases h1:π x<k
    ·rw [if_pos h1,if_neg (by omega),if_pos (by omega)];omega
    ·by_cases h2:π x=k
     ·rw [if_neg h1,if_pos h2,if_pos (by omega)];omega
     ·rw [if_neg h1,if_neg h2,if_neg (by omega)];omega
  rw [e m,if_pos hx,←ih];rfl
section
variable {a c:List (List Int)} (B:eW a c)
include B
theorem RF {s:Int} (S:bu a s) (I:IdN a.length (tA a) (tA c) (fun t=>aD s t=true)):((quo a (a8 a s)).length:Int) * iw s=(a.length:Int):=by
 have hB:=B.2.2.2
 have T:=bA B.1
 have p:iw s=((List.range a.length).countP (aD s):Nat):=by
  rw [iw,show 63=a.length+(63 - a.length) by omega,S9 S.2.2,uC]
  rfl
 have q:=(pu B I B.1 rfl).2
 have f:=Ir (fb a s) (List.range a.length) (dw a s) fun x hx=>(jy B I (List.mem_range.1 hx)).2
 have cls:∀u,u<dw a s→(List.range a.length).countP (fun x=>decide (fb a s x=u))=(List.range a.length).countP (aD s):=fun u hu=>by
  obtain ⟨fu,gu,_⟩:=ip B I hu;have R:=pK (n:=a.length) (g:=tA a (dJ a s u)) (fun x hx=>hB.ain _ x fu hx) (fun x y hx hy e=>nI hB fu hx hy e)
  rw [←R.countP_eq,List.countP_map];refine List.countP_congr fun t ht=>?_
  have ht:=List.mem_range.1 ht
  show decide (fb a s (tA a (dJ a s u) t)=u)=true↔_
  rw [decide_eq_true_eq]
  constructor
  ·intro h
   have:=(io B I fu (hB.ain _ t fu ht)).1 (gu.trans h.symm)
   obtain ⟨v,hv,e⟩:=this;rw [nI hB fu ht (I.dom v hv) e.symm];exact hv
  ·intro h
   have:=(io B I fu (hB.ain _ t fu ht)).2 ⟨t,h,rfl⟩
   rw [←this,gu]
 have m:((List.range (dw a s)).map fun u=>(List.range a.length).countP fun x=>decide (fb a s x=u))=List.replicate (dw a s) ((List.range a.length).countP (aD s)):=by
  refine List.ext_getElem (by simp) fun i h1 h2=>?_
  simp only [List.getElem_map,List.getElem_range,List.getElem_replicate];exact cls i (by simpa using h1)
 rw [m,List.length_range,List.sum_replicate_nat] at f;rw [p,q,←Int.natCast_mul,←f]
end
end Go.Sx
