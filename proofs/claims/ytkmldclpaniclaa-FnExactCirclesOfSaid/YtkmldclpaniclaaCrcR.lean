/- CrcR -/
import Derived.Test.YtkmldclpaniclaaCrcG
import Derived.Test.YtkmldclpaniclaaCrcP
import Derived.Test.YtkmldclpaniclaaHolL
open Go Go.Proofs
namespace Go.Sx
set_option linter.unusedSimpArgs false
set_option linter.unusedVariables false
def gC (t A:List (List Int)):Nat→List (List Int)→List (List (List Int))
 | 0,_=>[]
 | d+1,L=>if L.length=t.length then [L] else (List.range A.length).flatMap fun i:Nat=>if gA t (L++[A.getD i []])=true then gC t A d (L++[A.getD i []]) else []
theorem BB {t A:List (List Int)}:∀(d:Nat) (L:List (List Int)) (fd:List (List (List Int))),b9 t A d L fd=fd++(gC t A d L).map (gY t)
 | 0,L,fd=>by simp [b9,gC]
 | d+1,L,fd=>by
  rw [b9,gC];split
  ·rfl
  ·have:∀m,dg t A L (b9 t A d) fd m=fd++((List.range m).flatMap fun i:Nat=>if gA t (L++[A.getD i []])=true then gC t A d (L++[A.getD i []]) else []).map (gY t):=by
    intro m
    induction m with
    | zero=>simp [dg]
    | succ m ih =>
     rw [dg,List.range_succ,List.flatMap_append,List.map_append,←List.append_assoc,←ih];simp only [List.flatMap_cons,List.flatMap_nil,List.append_nil];split
     ·exact BB d _ _
     ·simp
   exact this A.length
structure SolL (n:Nat) (t A L:List (List Int)):Prop where
 len:L.length=n
 mem:∀x,x<n→L.getD x []∈A
 fit:∀x y,x<n→y<n→L.getD (en t x (en L x y).toNat).toNat []=ba (L.getD y []) (L.getD x [])
theorem BC {t L:List (List Int)}:gA t L=true↔∀x y,x<L.length→y<L.length→(en t x (en L x y).toNat).toNat<L.length→L.getD (en t x (en L x y).toNat).toNat []=ba (L.getD y []) (L.getD x []):=by
 simp only [gA,ly,iF,List.all_eq_true,List.mem_range,Bool.or_eq_true,Bool.not_eq_true',decide_eq_false_iff_not,decide_eq_true_eq]
 constructor
 ·intro h x y hx hy hz
  exact (h x hx y hy).resolve_left (by simpa using hz)
 ·intro h x hx y hy
  by_cases hz:(en t x (en L x y).toNat).toNat<L.length
  ·exact .inr (h x y hx hy hz)
  ·exact .inl hz
theorem ph {L:List (List Int)} {k x:Nat} (hx:x<k):(L.take k).getD x []=L.getD x []:=by
 simp [List.getD,List.getElem?_take,hx]
section
variable {n:Nat} {t A:List (List Int)}
theorem SolL.pre {L:List (List Int)} (h:SolL n t A L) {k:Nat} (hk:k≤n):gA t (L.take k)=true:=by
 have hl:(L.take k).length=k:=by rw [List.length_take,h.len];omega
 refine BC.2 fun x y hx hy hz=>?_
 rw [hl] at hx hy hz;have e:en (L.take k) x y=en L x y:=by simp only [en];rw [ph hx]
 rw [e] at hz ⊢;rw [ph hz,ph hx,ph hy];exact h.fit x y (by omega) (by omega)
theorem BD (ht:bi n t) (hA:AuOk n A) (hAn:A.Nodup):∀(d:Nat) (L:List (List Int)),L.length≤n→n<d+L.length→(∀r∈L,r∈A)→(L.length=n→SolL n t A L)→(∀S,S∈gC t A d L↔SolL n t A S∧S.take L.length=L)∧(gC t A d L).Nodup
 | 0,L,h1,h2,_,_=>by omega
 | d+1,L,h1,h2,hL,hz=>by
  rw [gC];by_cases hp:L.length=t.length
  ·rw [if_pos hp]
   have hp:L.length=n:=by rw [hp,ht.1]
   refine ⟨fun S=>?_,by simp⟩
   rw [List.mem_singleton]
   constructor
   ·rintro rfl;exact ⟨hz hp,List.take_length⟩
   ·rintro ⟨k1,k2⟩
    rw [←k2,hp,←k1.len,List.take_length]
  ·rw [if_neg hp]
   have hlt:L.length<n:=by rw [ht.1] at hp;omega
   have br:∀i,i<A.length→gA t (L++[A.getD i []])=true→(∀S,S∈gC t A d (L++[A.getD i []])↔SolL n t A S∧S.take (L.length+1)=L++[A.getD i []])∧(gC t A d (L++[A.getD i []])).Nodup:=fun i hi hf=>by
    have hm:∀r∈L++[A.getD i []],r∈A:=fun r hr=>by
     rcases List.mem_append.1 hr with hr | hr
     ·exact hL r hr
     ·rw [List.mem_singleton] at hr;rw [hr];exact bN A [] i hi
    have:=BD ht hA hAn d (L++[A.getD i []]) (by simp;omega) (by simp;omega) hm (fun e=>⟨e,fun x hx=>hm _ (bN _ [] x (by omega)),fun x y hx hy=>by
     have hxm:=hm _ (bN (L++[A.getD i []]) [] x (by omega))
     obtain ⟨j,hj,ej⟩:=List.mem_iff_getElem.1 hxm;have r:=hA.rng j y hj hy
     have e2:en (L++[A.getD i []]) x y=en A j y:=by simp only [en];rw [←ej,bU A [] j hj]
     have z:=(ht.2 x hx).2 (en A j y).toNat (by omega)
     exact BC.1 hf x y (by omega) (by omega) (by rw [e2];omega)⟩)
    simpa using this
   constructor
   ·intro S
    rw [List.mem_flatMap]
    constructor
    ·rintro ⟨i,hi,h⟩
     have hi:i<A.length:=by simpa using hi
     split at h
     ·rename_i hf
      obtain ⟨q1,q2⟩:=((br i hi hf).1 S).1 h;refine ⟨q1,?_⟩
      have:=congrArg (List.take L.length) q2
      rw [List.take_take,Nat.min_eq_left (by omega)] at this
      rw [this];simp
     ·cases h
    ·rintro ⟨q1,q2⟩
     obtain ⟨i,hi,ei⟩:=List.mem_iff_getElem.1 (q1.mem L.length hlt);have et:S.take (L.length+1)=L++[A.getD i []]:=by
      rw [bU A [] i hi,ei,←q2];have:=dK S [] L.length (by rw [q1.len];exact hlt)
      rw [List.length_take,Nat.min_eq_left (by rw [q1.len];omega)]
      exact this.symm
     have hf:=q1.pre (k:=L.length+1) (by omega)
     rw [et] at hf;exact ⟨i,by simpa using hi,by rw [if_pos hf];exact ((br i hi hf).1 S).2 ⟨q1,et⟩⟩
   ·refine List.pairwise_flatMap.2 ⟨fun i hi=>?_,List.Pairwise.imp_of_mem (fun {i j} hi hj hne S hS S' hS' e=>?_) List.nodup_range⟩
    ·split
     ·rename_i hf;exact (br i (by simpa using hi) hf).2
     ·exact List.Pairwise.nil
    ·subst e
     have hi:i<A.length:=by simpa using hi
     have hj:j<A.length:=by simpa using hj
     split at hS
     ·rename_i hf
      split at hS'
      ·rename_i hf2
       have a:=(((br i hi hf).1 S).1 hS).2
       have b:=(((br j hj hf2).1 S).1 hS').2
       rw [a] at b;have b:=List.append_cancel_left b
       rw [bU _ _ _ hi,bU _ _ _ hj] at b;exact hne ((List.getElem_inj hAn).1 (List.cons.inj b).1)
      ·cases hS'
     ·cases hS
end
theorem BE:∀a b:List Int,aW a b=true↔bf bG a b<0
 | [],[]=>by simp [aW,bf]
 | [],_::_=>by simp [aW,bf]
 | _::_,[]=>by simp [aW,bf]
 | x::a,y::b=>by
  simp only [bf,aW];have z:=ut.zero x y
  by_cases e:x=y
  ·rw [if_pos e,if_pos (z.2 e)];exact BE a b
  ·rw [if_neg e,if_neg fun h=>e (z.1 h)]
   rw [decide_eq_true_eq];unfold bG;split
   ·simp [*]
   ·split
    ·simp [*]
    ·omega
theorem uB:∀a b:List (List Int),a.length=b.length→(bV a b=true↔gZ a b<0)
 | [],[],_=>by simp [bV,gZ,bf]
 | [],_::_,h=>by simp at h
 | _::_,[],h=>by simp at h
 | x::a,y::b,h=>by
  have z:=ut.lists.zero x y
  show bV (x::a) (y::b)=true↔(if bf bG x y=0 then bf (bf bG) a b else bf bG x y)<0
  rw [bV];by_cases e:x=y
  ·rw [if_pos e,if_pos (z.2 e)];exact uB a b (by simpa using h)
  ·rw [if_neg e,if_neg fun h=>e (z.1 h)];exact BE x y
def iG (l:List (List (List Int))):Prop:=l.Pairwise fun a b=>gZ a b≤0
theorem IC {a b:List (List (List Int))} (ha:iG a) (hb:iG b) (h:a.Perm b):a=b :=
 List.Perm.eq_of_pairwise (le:=fun x y=>gZ x y≤0) (fun x y _ _ h1 h2=>(gB.zero x y).1 (by have:=gB.anti x y;omega)) ha hb h
theorem IE (out:List (List (List Int))) (c:List (List Int)):(eA out c).Perm (c::out):=by
 have h1:(eA out c).Perm (c::(out.take (b5 c out)++out.drop (b5 c out))):=List.perm_middle
 rwa [List.take_append_drop] at h1
theorem BF (c:List (List Int)):∀K:List (List (List Int)),(∀k∈K.take (b5 c K),bV k c=true)∧(∀h:b5 c K<K.length,bV K[b5 c K] c=false)
 | []=>⟨fun k hk=>by simp at hk,fun h=>by simp at h⟩
 | k::K=>by
  rw [b5];by_cases hk:bV k c=true
  ·rw [if_pos hk]
   obtain ⟨h1,h2⟩:=BF c K;refine ⟨fun x hx=>?_,fun h=>by simpa using h2 (by simpa using h)⟩
   rw [List.take_succ_cons,List.mem_cons] at hx;rcases hx with rfl | hx
   ·exact hk
   ·exact h1 x hx
  ·rw [if_neg hk]
   exact ⟨fun x hx=>by simp at hx,fun _=>by simpa using hk⟩
theorem IF {n:Nat} {out:List (List (List Int))} {c:List (List Int)} (hl:∀k∈out,k.length=n) (hc:c.length=n) (h:iG out):iG (eA out c):=by
 obtain ⟨h1,h2⟩:=BF c out;have h0:=h
 rw [iG,←List.take_append_drop (b5 c out) out,List.pairwise_append] at h0;obtain ⟨p1,p2,p3⟩:=h0;have low:∀k∈out.take (b5 c out),gZ k c<0:=fun k hk=>(uB k c (by rw [hl k (List.mem_of_mem_take hk),hc])).1 (h1 k hk)
 have high:∀k∈out.drop (b5 c out),gZ c k≤0:=fun k hk=>by
  have hlt:b5 c out<out.length:=by
   refine Classical.byContradiction fun hn=>?_
   rw [List.drop_eq_nil_of_le (by omega)] at hk;cases hk
  have hf:=h2 hlt
  have hm:out[b5 c out]∈out:=List.getElem_mem hlt
  have ge:gZ c out[b5 c out]≤0:=by
   have:=uB out[b5 c out] c (by rw [hl _ hm,hc])
   have an:=gB.anti c out[b5 c out]
   refine Classical.byContradiction fun hn=>?_
   rw [this.2 (by omega)] at hf;cases hf
  rw [List.drop_eq_getElem_cons hlt] at hk p2;rcases List.mem_cons.1 hk with rfl | hk
  ·exact ge
  ·exact gB.le _ _ _ ge ((List.pairwise_cons.1 p2).1 k hk)
 rw [iG,eA,List.pairwise_append];refine ⟨p1,List.pairwise_cons.2 ⟨high,p2⟩,fun a ha b hb=>?_⟩
 rcases List.mem_cons.1 hb with rfl | hb
 ·have:=low a ha;omega
 ·exact p3 a ha b hb
theorem BG {n:Nat}:∀(l out:List (List (List Int))),(∀k∈out,k.length=n)→(∀k∈l,k.length=n)→iG out→iG (l.foldl eA out)∧(l.foldl eA out).Perm (l++out)
 | [],out,_,_,h=>⟨h,.refl _⟩
 | c::l,out,ho,hl,h=>by
  have hc:=hl c List.mem_cons_self
  obtain ⟨a,b⟩:=BG l (eA out c) (fun k hk=>by
   rcases (AW out c k).1 hk with rfl | hk
   ·exact hc
   ·exact ho k hk) (fun k hk=>hl k (List.mem_cons_of_mem _ hk)) (IF ho hc h)
  refine ⟨a,b.trans ?_⟩
  refine (List.Perm.append_left l (IE out c)).trans ?_
  exact List.perm_middle
theorem IG (l:List (List (List Int))):(cM l).Perm l:=by
 unfold cM;split
 ·rename_i h
  refine ((pe l h).map _).trans ?_
  have:(List.finRange l.length).map (fun i=>l.getD i.1 [])=l:=by
   apply List.ext_getElem (by simp)
   intro i h1 h2
   simp
  rw [this]
 ·have:l=[]:=List.eq_nil_of_length_eq_zero (by omega)
  rw [this]
theorem IH (l:List (List (List Int))):iG (cM l):=by
 by_cases h:0<l.length
 case neg =>
  unfold cM;rw [dif_neg h];exact List.Pairwise.nil
 letI:Inhabited (Fin l.length):=⟨⟨0,h⟩⟩
 have S:=(Go.Sort.pdq_sorts (fun i j=>decide (fC l i j<0)) (uu l) (List.finRange l.length).toArray 0 (List.finRange l.length).toArray.size (Lib.bitLen (List.finRange l.length).toArray.size) true true (Nat.zero_le _) (Nat.le_refl _) (Or.inl rfl)).2
 have S:∀i j:Nat,i<j→j<l.length→decide (fC l (dV l h)[j]! (dV l h)[i]!<0)=false:=fun i j h1 h2=>S i j (Nat.zero_le _) h1 (by simpa using h2)
 have hS:cM l=(dV l h).toList.map (fun i=>l.getD i.1 []):=by unfold cM;rw [dif_pos h]
 have sl:(dV l h).toList.length=l.length:=by rw [(pe l h).length_eq];simp
 have sz:(dV l h).size=l.length:=by simpa using sl
 have g:∀i (hi:i<l.length),(dV l h)[i]! = (dV l h).toList[i]'(by omega):=fun i hi=>by
  rw [getElem!_pos (dV l h) i (by omega)];simp
 have hlen:(cM l).length=l.length:=pf l
 refine List.pairwise_iff_getElem.2 fun i j hi hj hij=>?_
 have e:∀k (hk:k<(cM l).length),(cM l)[k]=l.getD ((dV l h)[k]!).1 []:=fun k hk=>by
  rw [g k (by omega)]
  simp [hS]
 have s:=S i j hij (by omega)
 rw [decide_eq_false_iff_not,fC,←e j hj,←e i hi] at s;have an:=gB.anti (cM l)[i] (cM l)[j]
 omega
section
variable {n:Nat} {t A:List (List Int)}
def fa (A:List (List Int)) (K:List Int):List (List Int):=K.map fun k=>A.getD k.toNat []
theorem jh {K:List Int} {x:Nat} (hx:x<K.length):(fa A K).getD x []=A.getD (K.getD x 0).toNat []:=lh _ _ 0 [] _ hx
theorem II (ht:bi n t) (hA:AuOk n A) {K:List Int} (hK:SolK n t A K):bq t A K=gY t (fa A K):=by
 have e:t.length=n:=ht.1
 rw [bq,gY,cC];refine List.map_congr_left fun y hy=>?_
 have hy:y<n:=by rw [←e];exact List.mem_range.1 hy
 have r:=hK.rng y hy
 have al:=hA.len (K.getD y 0).toNat (by omega)
 have row:(fa A K).getD y []=A.getD (K.getD y 0).toNat []:=jh (by rw [hK.len];exact hy)
 refine li (by rw [gz,fA,al,e]) fun z hz=>?_
 rw [gz] at hz;rw [fW hz,eY _ _ _ (by omega)]
 simp only [en];rw [row]
theorem IJ (hA:AuOk n A) (hAn:A.Nodup) {K K':List Int} (hK:SolK n t A K) (hK':SolK n t A K') (e:fa A K=fa A K'):K=K':=by
 refine li (by rw [hK.len,hK'.len]) fun x hx=>?_
 rw [hK.len] at hx;have r:=hK.rng x hx
 have r':=hK'.rng x hx
 have a:(fa A K).getD x []=(fa A K').getD x []:=by rw [e]
 rw [jh (by rw [hK.len];exact hx),jh (by rw [hK'.len];exact hx),bU _ _ _ (show (K.getD x 0).toNat<A.length by omega),bU _ _ _ (show (K'.getD x 0).toNat<A.length by omega)] at a
 have:=(List.getElem_inj hAn).1 a
 omega
theorem IK (ht:bi n t) (hA:AuOk n A) {K:List Int} (hK:SolK n t A K):SolL n t A (fa A K) where
 len:=by rw [fa,List.length_map];exact hK.len
 mem x hx:=by
  have r:=hK.rng x hx
  rw [jh (by rw [hK.len];exact hx)]
  exact bN A [] _ (by omega)
 fit x y hx hy:=by
  have r:=hK.rng x hx
  have q:=hK.rng y hy
  have z:=jP ht hA hK.ok hx hy r.1
  have w:=lw hA hK.ok hx hy r.1 q.1
  have e:en (fa A K) x y=en A (K.getD x 0).toNat y:=by simp only [en];rw [jh (by rw [hK.len];exact hx)]
  rw [e];have f:=hK.fit x y hx hy
  have z2:=z.2.2
  simp only [bu] at f z2;rw [jh (by rw [hK.len];exact z2),f,jh (by rw [hK.len];exact hy),jh (by rw [hK.len];exact hx),c8,fB,Int.toNat_natCast]
  exact (iL w.1).2
theorem IL (ht:bi n t) (hA:AuOk n A) {L:List (List Int)} (hL:SolL n t A L):SolK n t A (L.map fun f=>(du A f:Int))∧fa A (L.map fun f=>(du A f:Int))=L:=by
 have g:∀x,x<n→(L.map fun f=>(du A f:Int)).getD x 0=(du A (L.getD x []):Int):=fun x hx=>lh _ _ [] 0 _ (by rw [hL.len];exact hx)
 have a:∀x,x<n→A.getD (du A (L.getD x [])) []=L.getD x []:=fun x hx=>(iL (hL.mem x hx)).2
 refine ⟨⟨by rw [List.length_map];exact hL.len,fun x hx=>?_,fun x y hx hy=>?_⟩,?_⟩
 ·rw [g x hx]
  have:=(iL (hL.mem x hx)).1
  omega
 ·have f:=hL.fit x y hx hy
  have e:bu t A (L.map fun f=>(du A f:Int)) x y=(en t x (en L x y).toNat).toNat:=by
   simp only [bu];rw [g x hx,Int.toNat_natCast];have:en A (du A (L.getD x [])) y=en L x y:=by simp only [en];rw [a x hx]
   rw [this]
  have zl:(en t x (en L x y).toNat).toNat<n:=by
   obtain ⟨j,hj,ej⟩:=List.mem_iff_getElem.1 (hL.mem x hx);have r:=hA.rng j y hj hy
   have e2:en L x y=en A j y:=by simp only [en];rw [←ej,bU A [] j hj]
   have:=(ht.2 x hx).2 (en L x y).toNat (by omega)
   omega
  rw [e,g _ zl,f,c8,fB,g x hx,g y hy,Int.toNat_natCast,Int.toNat_natCast,a x hx,a y hy]
 ·rw [fa,List.map_map]
  refine List.ext_getElem (by simp) fun x h1 h2=>?_
  have hx:x<n:=by rw [←hL.len];exact h2
  have:=a x hx
  rw [bU _ [] _ h2] at this
  simpa using this
end
theorem IM {n:Nat} {t:List (List Int)} (G:GrpT n t) (hn:n≤7) {L:List (List Int)} (hL:SolL n t (bg t) L):L.getD 0 []=cR n:=by
 have h0:=hL.mem 0 G.pos
 have P:=B6 G hn h0
 have Z:=iJ G P
 have f:=hL.fit 0 0 G.pos G.pos
 have z:(en t 0 (en L 0 0).toNat).toNat=0:=by
  have e:(en L 0 0).toNat=0:=Z
  rw [e];exact G.z1 0 G.pos
 rw [z] at f;have u:(cR n).length=n:=fA _ _
 refine li (by rw [P.len,u]) fun i hi=>?_
 rw [P.len] at hi;have r:=P.rng i hi
 have q:(L.getD 0 []).getD i 0=(ba (L.getD 0 []) (L.getD 0 [])).getD i 0:=congrArg (fun l:List Int=>l.getD i 0) f
 rw [fW (by rw [P.len];exact hi)] at q
 have:=oN P.nd (i:=((L.getD 0 []).getD i 0).toNat) (j:=i) (by rw [P.len];omega) (by rw [P.len];exact hi) q.symm
 rw [cR,eY _ _ _ hi];omega
theorem IN {n:Nat} {t:List (List Int)} (G:GrpT n t) (hn:n≤7):cM (b9 t (bg t) 9 [] [])=eZ t (bg t):=by
 have e:t.length=n:=G.tb.1
 have hlen:=pD G hn
 obtain ⟨hA,_⟩:=mR G.tb G.pos (by omega)
 have hAn:=Jp G hn
 have hA0:(bg t).getD 0 []=cR n:=by rw [tL G.tb G.pos (by omega)];exact (tK G.tb G.pos).2
 have z0:Z0 n ((List.replicate t.length (-1)).set 0 0):=by rw [e];exact mU
 have ng:=tW G.pos
 obtain ⟨k1,k2⟩:=BA G.tb hA 12 ((List.replicate t.length (-1)).set 0 0) (z0.ok hA) (by rw [e];omega) (fun hz=>by
  have n1:n=1:=by rw [e] at hz;omega
  have r0:=hA.pos
  refine ⟨z0.1,fun x hx=>?_,fun x y hx hy=>?_⟩
  ·have x0:x=0:=by omega
   subst x0;rw [eP (by rw [List.length_replicate,e];omega),if_pos rfl];omega
  ·have v:=jP G.tb hA (z0.ok hA) hx hy (by
    have x0:x=0:=by omega
    subst x0;rw [eP (by rw [List.length_replicate,e];omega),if_pos rfl];omega)
   have zz:bu t (bg t) ((List.replicate t.length (-1)).set 0 0) x y=0:=by omega
   have x0:x=0:=by omega
   have y0:y=0:=by omega
   rw [zz,c8,x0,y0,eP (by rw [List.length_replicate,e];omega),if_pos rfl]
   have:=(mR G.tb G.pos (by omega)).2
   omega)
 obtain ⟨l1,l2⟩:=BD G.tb hA hAn 9 [] (Nat.zero_le _) (by simp;omega) (fun r hr=>by cases hr) (fun h=>by have:=G.pos;simp at h;omega)
 have perm:((d8 t (bg t) 12 ((List.replicate t.length (-1)).set 0 0)).map (fa (bg t))).Perm (gC t (bg t) 9 []):=by
  refine (List.perm_ext_iff_of_nodup (List.pairwise_map.2 (List.Pairwise.imp_of_mem (fun {K K'} hK hK' hne h=>hne (IJ hA hAn ((k1 K).1 hK).1 ((k1 K').1 hK').1 h)) k2)) l2).2 fun L=>?_
  rw [List.mem_map,l1]
  constructor
  ·rintro ⟨K,hK,rfl⟩
   exact ⟨IK G.tb hA ((k1 K).1 hK).1,rfl⟩
  ·rintro ⟨hL,_⟩
   obtain ⟨b1,b2⟩:=IL G.tb hA hL;refine ⟨_,(k1 _).2 ⟨b1,fun x hx h0=>?_⟩,b2⟩
   by_cases x0:x=0
   ·subst x0
    rw [eP (by rw [List.length_replicate,e];omega),if_pos rfl,lh _ _ [] 0 _ (by rw [hL.len];exact hx),IM G hn hL,←hA0]
    have:=DB hAn (i:=0) hA.pos
    omega
   ·rw [eP (by rw [List.length_replicate,e];omega),if_neg x0] at h0
    simp [List.getD,e,hx] at h0
 have cl:∀L,(gY t L).length=n:=fun L=>by rw [gY,AE,e]
 have tl:∀K,(bq t (bg t) K).length=n:=fun K=>by simp [bq,e]
 obtain ⟨s1,s2⟩:=BG (n:=n) ((d8 t (bg t) 12 ((List.replicate t.length (-1)).set 0 0)).map (bq t (bg t))) [] (fun k hk=>by cases hk) (fun k hk=>by
  obtain ⟨K,_,rfl⟩:=List.mem_map.1 hk;exact tl K) List.Pairwise.nil
 rw [eZ,uA];refine IC (IH _) s1 ((IG _).trans (.trans ?_ s2.symm))
 rw [BB,List.nil_append,List.append_nil];have:(d8 t (bg t) 12 ((List.replicate t.length (-1)).set 0 0)).map (bq t (bg t))=((d8 t (bg t) 12 ((List.replicate t.length (-1)).set 0 0)).map (fa (bg t))).map (gY t):=by
  rw [List.map_map];exact List.map_congr_left fun K hK=>II G.tb hA ((k1 K).1 hK).1
 rw [this];exact (perm.map _).symm
end Go.Sx
