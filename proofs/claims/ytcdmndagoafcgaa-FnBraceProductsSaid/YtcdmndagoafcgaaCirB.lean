/- CirB -/
import Derived.Test.YtcdmndagoafcgaaGrp
open Go Go.Proofs
namespace Go.Sx
set_option linter.unusedSimpArgs false
set_option linter.unusedVariables false
def spC (t A:List (List Int)) (K:List Int):List Int×Bool :=
 match spR t A K with
 | none=>([],false)
 | some o=>(o,true)
theorem spY_none {t A:List (List Int)} {o:List Int} {x y:Nat} (h:spY t A o x y=none):∀k,spY t A o x (y+k)=none
 | 0=>h
 | k+1=>by rw [←Nat.add_assoc,spY,spY_none h k];rfl
theorem spX_none {t A:List (List Int)} {o:List Int} {x:Nat} (h:spX t A o x=none):∀k,spX t A o (x+k)=none
 | 0=>h
 | k+1=>by rw [←Nat.add_assoc,spX,spX_none h k];rfl
theorem sp_fail {t A:List (List Int)} {K o c e:List Int} {fu i j:Nat} (hr:spR t A K=spF t A (fu+1) o) (hx:spX t A o i=some c) (hy:spY t A c i j=some e) (hi:i<t.length) (hj:j<t.length) (h:spS t A e i j=none):spC t A K=([],false):=by
 have h1:spY t A c i (j+1)=none:=by rw [spY,hy];exact h
 have h2:=spY_none h1 (t.length - (j+1))
 rw [show j+1+(t.length - (j+1))=t.length by omega] at h2
 have h3:spX t A o (i+1)=none:=by rw [spX,hx];exact h2
 have h4:=spX_none h3 (t.length - (i+1))
 rw [show i+1+(t.length - (i+1))=t.length by omega] at h4
 rw [spC,hr,spF,h4]
def l13Spread_p (t:List (List Int)) (A:List (List Int)) (K:List Int):Post:=⟨t.length≤12∧tbN t.length t∧AuOk t.length A∧A.length≤1000000∧KOk t.length A.length K,.tup [.inl (.ints 2 .i64 ((spC t A K).1)),.inl (.bool ((spC t A K).2))],[]⟩
def l13Spread_ct:List AD→Option Post
 | [.c (.rows .i64 (t)),.c (.rows .i64 (A)),.c (.ints .i64 (K))]=>some (l13Spread_p t A K)
 | _=>none
def l13Spread_ann (t:List (List Int)) (A:List (List Int)) (K:List Int):Nat→Option Ann
 | 0=>some (Ann.mk ((Nat)×(List Int)×(Bool)) (fun x=>match x with | (fu,o,g)=>⟨[(0,.c (.ro (.rows .i64 (t)))),(1,.c (.ro (.rows .i64 (A)))),(8,.c (.own (8))),(9,.c (.bool (g)))],[(8,some (.ints 2 .i64 (o)))]⟩) (fun x=>match x with | (fu,o,g)=>KOk t.length A.length o∧(g=true→ngL o<fu∧spR t A K=spF t A fu o)∧(g=false→spR t A K=some o)) (fun x=>match x with | (fu,o,g)=>2 * fu+(if g=true then 1 else 0)) (fun x=>match x with | (fu,o,g)=>fun b_=>match b_ with | 2=>some (Ann.mk ((Nat)×(List Int)) (fun x=>match x with | (i,c)=>⟨[(0,.c (.ro (.rows .i64 (t)))),(1,.c (.ro (.rows .i64 (A)))),(8,.c (.own (8))),(9,.c (.bool (decide (ngL c<ngL o)))),(10,.c (.int .i64 ((i:Int))))],[(8,some (.ints 2 .i64 (c)))]⟩) (fun x=>match x with | (i,c)=>i≤t.length∧g=true∧KOk t.length A.length c∧spX t A o i=some c∧ngL c≤ngL o) (fun x=>match x with | (i,c)=>t.length - i) (fun x=>match x with | (i,c)=>fun b_=>match b_ with | 4=>some (Ann.mk ((Nat)×(List Int)) (fun x=>match x with | (j,e)=>⟨[(0,.c (.ro (.rows .i64 (t)))),(1,.c (.ro (.rows .i64 (A)))),(8,.c (.own (8))),(9,.c (.bool (decide (ngL e<ngL o)))),(10,.c (.int .i64 ((i:Int)))),(11,.c (.int .i64 ((j:Int))))],[(8,some (.ints 2 .i64 (e)))]⟩) (fun x=>match x with | (j,e)=>i<t.length∧j≤t.length∧KOk t.length A.length e∧spY t A c i j=some e∧ngL e≤ngL c) (fun x=>match x with | (j,e)=>t.length - j) (fun _=>noAnn)) | _=>none)) | _=>none))
 | _=>none
def l13Spread_G:List (Nat×Ctr):=[(83,⟨[],l01Own_ct⟩),(61,⟨[],l01ThenG_ct⟩),(177,⟨[],l04Find_ct⟩)]
def l13Spread_c1 (t:List (List Int)) (A:List (List Int)) (x0:Nat×List Int) (x1:Nat×List Int):=((List.getD t ((↑x0.1:Int).toNat) []).getD (((List.getD A ((List.getD x1.2 ((↑x0.1:Int).toNat) (0:Int)).toNat) []).getD ((↑x1.1:Int).toNat) (0:Int)).toNat) (0:Int))
def l13Spread_V (t:List (List Int)) (A:List (List Int)) (K:List Int):Prop :=
 (((room (K.length))∧True)∧((∃x0:Nat×List Int×Bool,(((KOk (t.length) (A.length) (x0.2.1))∧((x0.2.2=true→ngL (x0.2.1)<x0.1∧spR t A K=spF t A (x0.1) (x0.2.1))∧(x0.2.2=false→spR t A K=Option.some (x0.2.1))))∧((t=t)∧((A=A)∧((true=x0.2.2)∧(K=x0.2.1))))))∧(∀x1:Nat×List Int×Bool,(((KOk (t.length) (A.length) (x1.2.1))∧((x1.2.2=true→ngL (x1.2.1)<x1.1∧spR t A K=spF t A (x1.1) (x1.2.1))∧(x1.2.2=false→spR t A K=Option.some (x1.2.1))))→(BrP (x1.2.2) ((∃x2:Nat×List Int,(((x2.1≤t.length)∧((x1.2.2=true)∧((KOk (t.length) (A.length) (x2.2))∧((spX t A x1.2.1 (x2.1)=Option.some (x2.2))∧(ngL (x2.2)≤ngL x1.2.1)))))∧((t=t)∧((A=A)∧((false=decide (ngL x2.2<ngL x1.2.1))∧(((0:Int)=(↑x2.1:Int))∧(x1.2.1=x2.2)))))))∧(∀x3:Nat×List Int,(((x3.1≤t.length)∧((x1.2.2=true)∧((KOk (t.length) (A.length) (x3.2))∧((spX t A x1.2.1 (x3.1)=Option.some (x3.2))∧(ngL (x3.2)≤ngL x1.2.1)))))→(BrP (decide ((↑x3.1:Int)<(↑(t.length):Int))) ((∃x4:Nat×List Int,(((x3.1<t.length)∧((x4.1≤t.length)∧((KOk (t.length) (A.length) (x4.2))∧((spY t A x3.2 x3.1 (x4.1)=Option.some (x4.2))∧(ngL (x4.2)≤ngL x3.2)))))∧((t=t)∧((A=A)∧((decide (ngL x3.2<ngL x1.2.1)=decide (ngL x4.2<ngL x1.2.1))∧(((↑x3.1:Int)=(↑x3.1:Int))∧(((0:Int)=(↑x4.1:Int))∧(x3.2=x4.2))))))))∧(∀x5:Nat×List Int,(((x3.1<t.length)∧((x5.1≤t.length)∧((KOk (t.length) (A.length) (x5.2))∧((spY t A x3.2 x3.1 (x5.1)=Option.some (x5.2)) ∧
 (ngL (x5.2)≤ngL x3.2)))))→(BrP (decide ((↑x5.1:Int)<(↑(t.length):Int))) ((inB (↑x3.1:Int) (x5.2.length))∧(BrP (decide (x5.2.getD ((↑x3.1:Int).toNat) (0:Int)<(0:Int))) ((InR ((↑x5.1:Int)+(1:Int)))∧(∃x6:Nat×List Int,(((x3.1<t.length)∧((x6.1≤t.length)∧((KOk (t.length) (A.length) (x6.2))∧((spY t A x3.2 x3.1 (x6.1)=Option.some (x6.2))∧(ngL (x6.2)≤ngL x3.2)))))∧((t.length - x6.1<t.length - x5.1)∧((t=t)∧((A=A)∧((decide (ngL x5.2<ngL x1.2.1)=decide (ngL x6.2<ngL x1.2.1))∧(((↑x3.1:Int)=(↑x3.1:Int))∧(((↑x5.1:Int)+(1:Int)=(↑x6.1:Int))∧(x5.2=x6.2)))))))))) ((inB (↑x5.1:Int) (x5.2.length))∧(BrP (decide (x5.2.getD ((↑x5.1:Int).toNat) (0:Int)<(0:Int))) ((InR ((↑x5.1:Int)+(1:Int)))∧(∃x7:Nat×List Int,(((x3.1<t.length)∧((x7.1≤t.length)∧((KOk (t.length) (A.length) (x7.2))∧((spY t A x3.2 x3.1 (x7.1)=Option.some (x7.2))∧(ngL (x7.2)≤ngL x3.2)))))∧((t.length - x7.1<t.length - x5.1)∧((t=t)∧((A=A)∧((decide (ngL x5.2<ngL x1.2.1)=decide (ngL x7.2<ngL x1.2.1))∧(((↑x3.1:Int)=(↑x3.1:Int))∧(((↑x5.1:Int)+(1:Int)=(↑x7.1:Int))∧(x5.2=x7.2)))))))))) ((inB (↑x3.1:Int) (t.length))∧((inB (↑x3.1:Int) (x5.2.length))∧((inB (x5.2.getD ((↑x3.1:Int).toNat) (0:Int)) (A.length))∧((inB (↑x5.1:Int) ((A.getD ((x5.2.getD ((↑x3.1:Int).toNat) (0:Int)).toNat) []).length))∧((inB ((List.getD A ((List.getD x5.2 ((↑x3.1:Int).toNat) (0:Int)).toNat) []).getD ((↑x5.1:Int).toNat) (0:Int)) ((t.getD ((↑x3.1:Int).toNat) []).length)) ∧
 ((inB (↑x5.1:Int) (x5.2.length))∧((inB (x5.2.getD ((↑x5.1:Int).toNat) (0:Int)) (A.length))∧((inB (↑x3.1:Int) (x5.2.length))∧((inB (x5.2.getD ((↑x3.1:Int).toNat) (0:Int)) (A.length))∧((((room ((A.getD ((x5.2.getD ((↑x5.1:Int).toNat) (0:Int)).toNat) []).length))∧(inQ ((A.getD ((x5.2.getD ((↑x3.1:Int).toNat) (0:Int)).toNat) []).length) (A.getD ((x5.2.getD ((↑x5.1:Int).toNat) (0:Int)).toNat) [])))∧True)∧(((roomR A)∧True)∧((inB (l13Spread_c1 t A x3 x5) (x5.2.length))∧(BrP (decide (x5.2.getD (((List.getD t ((↑x3.1:Int).toNat) []).getD (((List.getD A ((List.getD x5.2 ((↑x3.1:Int).toNat) (0:Int)).toNat) []).getD ((↑x5.1:Int).toNat) (0:Int)).toNat) (0:Int)).toNat) (0:Int)<(0:Int))) ((inB (l13Spread_c1 t A x3 x5) (x5.2.length))∧((inB (l13Spread_c1 t A x3 x5) ((List.set x5.2 ((l13Spread_c1 t A x3 x5).toNat) (fdF A (thL (A.getD ((x5.2.getD ((↑x5.1:Int).toNat) (0:Int)).toNat) []) (A.getD ((x5.2.getD ((↑x3.1:Int).toNat) (0:Int)).toNat) [])))).length)) ∧
 (BrP ((List.set x5.2 ((List.getD (List.getD t ((↑x3.1:Int).toNat) []) ((List.getD (List.getD A ((List.getD x5.2 ((↑x3.1:Int).toNat) (0:Int)).toNat) []) ((↑x5.1:Int).toNat) (0:Int)).toNat) (0:Int)).toNat) (fdF A (thL (List.getD A ((List.getD x5.2 ((↑x5.1:Int).toNat) (0:Int)).toNat) []) (List.getD A ((List.getD x5.2 ((↑x3.1:Int).toNat) (0:Int)).toNat) [])))).getD (((List.getD t ((↑x3.1:Int).toNat) []).getD (((List.getD A ((List.getD x5.2 ((↑x3.1:Int).toNat) (0:Int)).toNat) []).getD ((↑x5.1:Int).toNat) (0:Int)).toNat) (0:Int)).toNat) (0:Int) != fdF A (thL (A.getD ((x5.2.getD ((↑x5.1:Int).toNat) (0:Int)).toNat) []) (A.getD ((x5.2.getD ((↑x3.1:Int).toNat) (0:Int)).toNat) []))) ((([]=(spC t A K).1)∧((false=(spC t A K).2)∧True))∧True) ((InR ((↑x5.1:Int)+(1:Int)))∧(∃x8:Nat×List Int,(((x3.1<t.length)∧((x8.1≤t.length)∧((KOk (t.length) (A.length) (x8.2))∧((spY t A x3.2 x3.1 (x8.1)=Option.some (x8.2))∧(ngL (x8.2)≤ngL x3.2)))))∧((t.length - x8.1<t.length - x5.1)∧((t=t)∧((A=A)∧((true=decide (ngL x8.2<ngL x1.2.1))∧(((↑x3.1:Int)=(↑x3.1:Int))∧(((↑x5.1:Int)+(1:Int)=(↑x8.1:Int))∧(List.set x5.2 ((l13Spread_c1 t A x3 x5).toNat) (fdF A (thL (A.getD ((x5.2.getD ((↑x5.1:Int).toNat) (0:Int)).toNat) []) (A.getD ((x5.2.getD ((↑x3.1:Int).toNat) (0:Int)).toNat) [])))=x8.2))))))))))))) ((inB (l13Spread_c1 t A x3 x5) (x5.2.length)) ∧
 (BrP (x5.2.getD (((List.getD t ((↑x3.1:Int).toNat) []).getD (((List.getD A ((List.getD x5.2 ((↑x3.1:Int).toNat) (0:Int)).toNat) []).getD ((↑x5.1:Int).toNat) (0:Int)).toNat) (0:Int)).toNat) (0:Int) != fdF A (thL (A.getD ((x5.2.getD ((↑x5.1:Int).toNat) (0:Int)).toNat) []) (A.getD ((x5.2.getD ((↑x3.1:Int).toNat) (0:Int)).toNat) []))) ((([]=(spC t A K).1)∧((false=(spC t A K).2)∧True))∧True) ((InR ((↑x5.1:Int)+(1:Int)))∧(∃x9:Nat×List Int,(((x3.1<t.length)∧((x9.1≤t.length)∧((KOk (t.length) (A.length) (x9.2))∧((spY t A x3.2 x3.1 (x9.1)=Option.some (x9.2))∧(ngL (x9.2)≤ngL x3.2)))))∧((t.length - x9.1<t.length - x5.1)∧((t=t)∧((A=A)∧((decide (ngL x5.2<ngL x1.2.1)=decide (ngL x9.2<ngL x1.2.1))∧(((↑x3.1:Int)=(↑x3.1:Int))∧(((↑x5.1:Int)+(1:Int)=(↑x9.1:Int))∧(x5.2=x9.2))))))))))))))))))))))))))))) ((InR ((↑x3.1:Int)+(1:Int)))∧(∃x10:Nat×List Int,(((x10.1≤t.length)∧((x1.2.2=true)∧((KOk (t.length) (A.length) (x10.2))∧((spX t A x1.2.1 (x10.1)=Option.some (x10.2))∧(ngL (x10.2)≤ngL x1.2.1)))))∧((t.length - x10.1<t.length - x3.1)∧((t=t)∧((A=A)∧((decide (ngL x5.2<ngL x1.2.1)=decide (ngL x10.2<ngL x1.2.1))∧(((↑x3.1:Int)+(1:Int)=(↑x10.1:Int))∧(x5.2=x10.2))))))))))))) (∃x11:Nat×List Int×Bool,(((KOk (t.length) (A.length) (x11.2.1))∧((x11.2.2=true→ngL (x11.2.1)<x11.1∧spR t A K=spF t A (x11.1) (x11.2.1))∧(x11.2.2=false→spR t A K=Option.some (x11.2.1)))) ∧
 ((((2:Nat) * x11.1+if x11.2.2=true then (1:Nat) else (0:Nat))<(2:Nat) * x1.1+if x1.2.2=true then (1:Nat) else (0:Nat))∧((t=t)∧((A=A)∧((decide (ngL x3.2<ngL x1.2.1)=x11.2.2)∧(x3.2=x11.2.1))))))))))) (((x1.2.1=(spC t A K).1)∧((true=(spC t A K).2)∧True))∧True))))))
theorem l13Spread_vc (t:List (List Int)) (A:List (List Int)) (K:List Int):runF Try.prog (gam l13Spread_G) noWr (l13Spread_ann t A K) Try.f154 (bodyOf Try.f154) [] [.c (.rows .i64 (t)),.c (.rows .i64 (A)),.c (.ints .i64 (K))] (l13Spread_p t A K)=l13Spread_V t A K:=by kernel_rfl
theorem l13Spread_ok (t:List (List Int)) (A:List (List Int)) (K:List Int) (hpre:(l13Spread_p t A K).pre):l13Spread_V t A K:=by
 simp only [l13Spread_p,l13Spread_V,l13Spread_c1,BrP_iff,u1,u2,u3,u4,u5,u6,u7,u8,u9,v1,v2,v3,v4,v5,v6,v7,v8,v9,w1,w2,w3,w4,markL_length,inB,InR,room,bdsOk] at hpre ⊢
 obtain ⟨h1,h2,h3,h4,h5⟩:=hpre
 have kl:=h5.len
 have ng:=ngL_le K
 refine ⟨by omega,⟨⟨t.length+1,K,true⟩,⟨h5,fun _=>⟨by dsimp only;omega,rfl⟩,fun h=>by cases h⟩,rfl,rfl⟩,fun ⟨fu,o,g⟩ ⟨o1,o2,o3⟩=>?_⟩
 dsimp only at o1 o2 o3 ⊢
 refine ⟨fun hg=>?_,fun hg=>?_⟩
 ·subst hg
  obtain ⟨o2,o4⟩:=o2 rfl
  obtain ⟨fu,rfl⟩:∃m,fu=m+1:=⟨fu - 1,by omega⟩
  refine ⟨⟨⟨0,o⟩,⟨Nat.zero_le _,rfl,o1,rfl,Nat.le_refl _⟩,(decide_eq_false (Nat.lt_irrefl _)).symm,rfl,rfl⟩,fun ⟨i,c⟩ ⟨c1,_,c2,c3,c4⟩=>?_⟩
  dsimp only at c1 c2 c3 c4 ⊢
  refine ⟨fun hi=>⟨⟨⟨0,c⟩,⟨by omega,Nat.zero_le _,c2,rfl,Nat.le_refl _⟩,rfl,rfl,rfl⟩,fun ⟨j,e⟩ ⟨_,e1,e2,e3,e4⟩=>?_⟩,fun hi=>?_⟩
  ·dsimp only at e1 e2 e3 e4 ⊢
   refine ⟨fun hj=>?_,fun hj=>?_⟩
   ·have el:=e2.len
    have ri:=e2.rng i (by omega)
    have rj:=e2.rng j (by omega)
    have same:spS t A e i j=some e→spY t A c i (j+1)=some e:=fun h=>by rw [spY,e3];exact h
    refine ⟨by omega,fun q=>⟨by omega,⟨j+1,e⟩,⟨by omega,by dsimp only;omega,e2,same (by unfold spS;rw [if_pos (.inl q)]),e4⟩,by dsimp only;omega,rfl,by dsimp only;omega,rfl⟩,fun q=>⟨by omega,fun q2=>⟨by omega,⟨j+1,e⟩,⟨by omega,by dsimp only;omega,e2,same (by unfold spS;rw [if_pos (.inr q2)]),e4⟩,by dsimp only;omega,rfl,by dsimp only;omega,rfl⟩,fun q2=>?_⟩⟩
    have W:=ww_in h3 e2 (x:=i) (y:=j) (by omega) (by omega) (by omega) (by omega)
    have Z:=zz_in h2 h3 e2 (x:=i) (y:=j) (by omega) (by omega) (by omega)
    have Lt:(t.getD i []).length=t.length:=(h2.2 i (by omega)).1
    have La:=h3.len (e.getD i 0).toNat (by omega)
    have Lb:=h3.len (e.getD j 0).toNat (by omega)
    have hw:fdF A (thL (A.getD (e.getD j 0).toNat []) (A.getD (e.getD i 0).toNat []))=wwF A e i j:=by rw [fdF,if_pos W.1];rfl
    have hz:((t.getD i []).getD ((A.getD (e.getD i 0).toNat []).getD j 0).toNat 0).toNat=zzF t A e i j:=rfl
    have hq:inQ (A.getD (e.getD i 0).toNat []).length (A.getD (e.getD j 0).toNat []):=fun x hx=>by
     have:=h3.rng (e.getD j 0).toNat x (by omega) (by omega)
     rw [La];exact this
    have hA:roomR A:=⟨by omega,fun r hr=>by
     obtain ⟨x,hx,rfl⟩:=List.getElem_of_mem hr
     have:=h3.len x hx
     rw [getD_lt A [] x hx] at this
     omega⟩
    have Z1:0≤(A.getD (e.getD i 0).toNat []).getD j 0∧(A.getD (e.getD i 0).toNat []).getD j 0<(t.length:Int):=Z.1
    have Z2:0≤(t.getD i []).getD ((A.getD (e.getD i 0).toNat []).getD j 0).toNat 0∧(t.getD i []).getD ((A.getD (e.getD i 0).toNat []).getD j 0).toNat 0<(t.length:Int):=Z.2.1
    rw [hw,hz]
    have SS:spS t A e i j=if e.getD (zzF t A e i j) 0<0 then some (e.set (zzF t A e i j) (wwF A e i j)) else if e.getD (zzF t A e i j) 0=wwF A e i j then some e else none:=by
     conv=>lhs;unfold spS
     rw [if_neg (by omega)]
    have gs:e.getD (zzF t A e i j) 0<0→(e.set (zzF t A e i j) (wwF A e i j)).getD (zzF t A e i j) 0=wwF A e i j:=fun _=>by
     rw [getD_set _ _ _ _ (by rw [el];exact Z.2.2),if_pos rfl]
    refine ⟨by omega,by omega,by omega,by omega,by omega,by omega,by omega,by omega,by omega,⟨by omega,hq⟩,hA,by omega,fun z=>⟨by omega,by omega,fun y=>absurd (gs z) y,fun y=>?_⟩,fun z=>⟨by omega,fun y=>?_,fun y=>?_⟩⟩
    ·have N:=ngL_set (K:=e) (z:=zzF t A e i j) (w:=wwF A e i j) (by rw [el];exact Z.2.2) z W.2.1
     refine ⟨by omega,⟨j+1,e.set (zzF t A e i j) (wwF A e i j)⟩,⟨by omega,by dsimp only;omega,e2.set _ ⟨by omega,W.2.2⟩,?_,by dsimp only;omega⟩,by dsimp only;omega,?_,by dsimp only;omega,rfl⟩
     ·dsimp only;rw [spY,e3];show spS t A e i j=_;rw [SS,if_pos z]
     ·exact (decide_eq_true (by dsimp only;omega)).symm
    ·rw [sp_fail o4 c3 e3 (by omega) (by omega) (by rw [SS,if_neg z,if_neg y])];exact ⟨rfl,rfl⟩
    ·refine ⟨by omega,⟨j+1,e⟩,⟨by omega,by dsimp only;omega,e2,same (by rw [SS,if_neg z,if_pos y]),e4⟩,by dsimp only;omega,rfl,by dsimp only;omega,rfl⟩
   ·refine ⟨by omega,⟨i+1,e⟩,⟨by dsimp only;omega,rfl,e2,?_,by dsimp only;omega⟩,by dsimp only;omega,rfl,by dsimp only;omega,rfl⟩
    dsimp only
    rw [spX,c3]
    show spY t A c i t.length=_
    rw [show t.length=j by omega];exact e3
  ·have ei:i=t.length:=by omega
   rw [ei] at c3
   by_cases q:ngL c<ngL o
   ·refine ⟨⟨fu,c,true⟩,⟨c2,fun _=>⟨by dsimp only;omega,?_⟩,fun h=>by cases h⟩,?_,decide_eq_true q,rfl⟩
    ·dsimp only;rw [o4,spF,c3];simp only;rw [if_pos q]
    ·dsimp only;first | omega | (simp;done) | (simp;omega)
   ·refine ⟨⟨fu,c,false⟩,⟨c2,fun h=>(by cases h),fun _=>?_⟩,?_,decide_eq_false q,rfl⟩
    ·dsimp only;rw [o4,spF,c3];simp only;rw [if_neg q]
    ·dsimp only;first | omega | (simp;done) | (simp;omega)
 ·rw [spC,o3 hg];exact ⟨rfl,rfl⟩
theorem l13Spread_fits:Fits Try.prog 154 ⟨[],l13Spread_ct⟩:=by
 refine ffn (Γ:=gam l13Spread_G) (gok_cons l01Own_fits (gok_cons l01ThenG_fits (gok_cons l04Find_fits gok_nil))) Try.func154 fun ds p h hp=>?_
 unfold l13Spread_ct at h
 split at h
 ·cases h
  exact ⟨noWr,l13Spread_ann _ _ _ ,by rw [l13Spread_vc];exact l13Spread_ok _ _ _  hp⟩
 ·cases h
end Go.Sx
