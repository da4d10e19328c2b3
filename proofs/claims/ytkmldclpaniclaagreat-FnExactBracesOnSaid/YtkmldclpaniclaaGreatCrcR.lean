/- CrcR -/
import Derived.Test.YtkmldclpaniclaaGreatCrcG
import Derived.Test.YtkmldclpaniclaaGreatCrcP
import Derived.Test.YtkmldclpaniclaaGreatEqt
import Derived.Test.YtkmldclpaniclaaGreatGrpC
set_option linter.unusedSimpArgs false
set_option linter.unusedVariables false
open Go Go.Proofs
namespace Go.Sx
def gY(t A:List (List Int)):Nat->List (List Int)->List (List (List Int))
 |0,_=>[]
 |d+1,L=>if L.length=t.length then [L]else(List.range A.length).flatMap fun i:Nat=>if gX t (L++[A.getD i []])=true then gY t A d (L++[A.getD i []])else []
theorem qw{t A:List (List Int)}:∀(d:Nat) (L:List (List Int)) (fd:List (List (List Int))),b9 t A d L fd=fd++(gY t A d L).map (ef t)
 |0,L,fd=>by simp[b9,gY]
 |d+1,L,fd=>by
  rw[b9,gY];split
  ·rfl
  ·have:∀m,dB t A L (b9 t A d) fd m=fd++((List.range m).flatMap fun i:Nat=>if gX t (L++[A.getD i []])=true then gY t A d (L++[A.getD i []])else []).map (ef t):=by
    intro m
    induction m with
    |zero=>simp[dB]
    |succ m ih =>
     rw[dB,List.range_succ,List.flatMap_append,List.map_append,<-List.append_assoc,<-ih];simp only[List.flatMap_cons,List.flatMap_nil,List.append_nil];split
     ·exact qw d _ _
     ·simp
   exact this A.length
structure SolL (n:Nat) (t A L:List (List Int)):Prop where
 len:L.length=n
 mem:∀x,x<n->L.getD x []∈A
 fit:∀x y,x<n->y<n->L.getD (en t x (en L x y).toNat).toNat []=aU (L.getD y []) (L.getD x [])
theorem Ee{t L:List (List Int)}:gX t L=true↔∀x y,x<L.length->y<L.length->(en t x (en L x y).toNat).toNat<L.length->L.getD (en t x (en L x y).toNat).toNat []=aU (L.getD y []) (L.getD x []):=by
 simp only[gX,mi,jg,List.all_eq_true,List.mem_range,Bool.or_eq_true,Bool.not_eq_true',decide_eq_false_iff_not,decide_eq_true_eq]
 constructor
 ·intro h x y hx hy hz
  exact(h x hx y hy).resolve_left (by simpa using hz)
 ·intro h x hx y hy
  by_cases hz:(en t x (en L x y).toNat).toNat<L.length
  ·exact .inr (h x y hx hy hz)
  ·exact .inl hz
theorem qx{L:List (List Int)}{k x:Nat}(hx:x<k):(L.take k).getD x []=L.getD x []:=by
 simp[List.getD,List.getElem?_take,hx]
section
variable {n:Nat} {t A:List (List Int)}
theorem SolL.pre{L:List (List Int)}(h:SolL n t A L){k:Nat}(hk:k<=n):gX t (L.take k)=true:=by
 have hl:(L.take k).length=k:=by rw[List.length_take,h.len];omega
 refine Ee.2 fun x y hx hy hz=>?_
 rw[hl]at hx hy hz;have e:en (L.take k) x y=en L x y:=by simp only[en];rw[qx hx]
 rw[e]at hz⊢;rw[qx hz,qx hx,qx hy];exact h.fit x y (by omega) (by omega)
theorem qy(ht:aT n t)(hA:AuOk n A)(hAn:A.Nodup):∀(d:Nat) (L:List (List Int)),L.length<=n->n<d+L.length->(∀r∈L,r∈A)->(L.length=n->SolL n t A L)->(∀S,S∈gY t A d L↔SolL n t A S/\S.take L.length=L)/\(gY t A d L).Nodup
 |0,L,h1,h2,_,_=>by omega
 |d+1,L,h1,h2,hL,hz=>by
  rw[gY];by_cases hp:L.length=t.length
  ·rw[if_pos hp]
   have hp:L.length=n:=by rw[hp,ht.1]
   refine⟨fun S=>?_,by simp⟩
   rw[List.mem_singleton]
   constructor
   ·rintro rfl;exact⟨hz hp,List.take_length⟩
   ·rintro⟨k1,k2⟩
    rw[<-k2,hp,<-k1.len,List.take_length]
  ·rw[if_neg hp]
   have hlt:L.length<n:=by rw[ht.1]at hp;omega
   have br:∀i,i<A.length->gX t (L++[A.getD i []])=true->(∀S,S∈gY t A d (L++[A.getD i []])↔SolL n t A S/\S.take (L.length+1)=L++[A.getD i []])/\(gY t A d (L++[A.getD i []])).Nodup:=fun i hi hf=>by
    have hm:∀r∈L++[A.getD i []],r∈A:=fun r hr=>by
     rcases List.mem_append.1 hr with hr|hr
     ·exact hL r hr
     ·rw[List.mem_singleton]at hr;rw[hr];exact bE A [] i hi
    have:=qy ht hA hAn d (L++[A.getD i []]) (by simp;omega) (by simp;omega) hm (fun e=>⟨e,fun x hx=>hm _ (bE _ [] x (by omega)),fun x y hx hy=>by
     have hxm:=hm _ (bE (L++[A.getD i []]) [] x (by omega))
     obtain⟨j,hj,ej⟩:=List.mem_iff_getElem.1 hxm;have r:=hA.rng j y hj hy
     have e2:en (L++[A.getD i []]) x y=en A j y:=by simp only[en];rw[<-ej,bD A [] j hj]
     have z:=(ht.2 x hx).2 (en A j y).toNat (by omega)
     exact Ee.1 hf x y (by omega) (by omega) (by rw[e2];omega)⟩)
    simpa using this
   constructor
   ·intro S
    rw[List.mem_flatMap]
    constructor
    ·rintro⟨i,hi,h⟩
     have hi:i<A.length:=by simpa using hi
     split at h
     ·rename_i hf
      obtain⟨q1,q2⟩:=((br i hi hf).1 S).1 h;refine⟨q1,?_⟩
      have:=congrArg (List.take L.length) q2
      rw[List.take_take,Nat.min_eq_left (by omega)]at this
      rw[this];simp
     ·cases h
    ·rintro⟨q1,q2⟩
     obtain⟨i,hi,ei⟩:=List.mem_iff_getElem.1 (q1.mem L.length hlt);have et:S.take (L.length+1)=L++[A.getD i []]:=by
      rw[bD A [] i hi,ei,<-q2];have:=da S [] L.length (by rw[q1.len];exact hlt)
      rw[List.length_take,Nat.min_eq_left (by rw[q1.len];omega)]
      exact this.symm
     have hf:=q1.pre (k:=L.length+1) (by omega)
     rw[et]at hf;exact⟨i,by simpa using hi,by rw[if_pos hf];exact((br i hi hf).1 S).2 ⟨q1,et⟩⟩
   ·refine List.pairwise_flatMap.2 ⟨fun i hi=>?_,List.Pairwise.imp_of_mem (fun {i j} hi hj hne S hS S' hS' e=>?_) List.nodup_range⟩
    ·split
     ·rename_i hf;exact(br i (by simpa using hi) hf).2
     ·exact List.Pairwise.nil
    ·subst e
     have hi:i<A.length:=by simpa using hi
     have hj:j<A.length:=by simpa using hj
     split at hS
     ·rename_i hf
      split at hS'
      ·rename_i hf2
       have a:=(((br i hi hf).1 S).1 hS).2
       have b:=(((br j hj hf2).1 S).1 hS').2
       rw[a]at b;have b:=List.append_cancel_left b
       rw[bD _ _ _ hi,bD _ _ _ hj]at b;exact hne ((List.getElem_inj hAn).1 (List.cons.inj b).1)
      ·cases hS'
     ·cases hS
end
section
variable {n:Nat} {t:List (List Int)}
theorem qz(G:GrpT n t)(hn:n<=7){p:List Int}(h:p∈aa t):isoL n [t] [t] p:=by
 rw[<-kI G hn]at h;have e:bt [t]=n:=G.tb.1
 have:=(((kW (kH G hn)).1 p).1 h).2
 rwa[e]at this
theorem kJ(G:GrpT n t)(hn:n<=7):(aa t).length<=49:=by rw[<-kI G hn];exact wE G hn
theorem wO(G:GrpT n t)(hn:n<=7):(aa t).Nodup:=by
 rw[<-kI G hn];exact n7 (kW (kH G hn)).2
theorem wP{α β:Type}(F:α->List β)(k:Nat):∀l:List α,(∀x∈l,(F x).length<=k)->(l.flatMap F).length<=l.length*k
 | [],_=>by simp
 |x::l,h=>by
  have:=wP F k l fun y hy=>h y (List.mem_cons_of_mem _ hy)
  have h0:=h x List.mem_cons_self
  simp only[List.flatMap_cons,List.length_append,List.length_cons,Nat.add_mul];omega
end
theorem Ef:∀a b:List Int,bh a b=true↔bj bL a b<0
 | [],[]=>by simp[bh,bj]
 | [],_::_=>by simp[bh,bj]
 |_::_,[]=>by simp[bh,bj]
 |x::a,y::b=>by
  simp only[bj,bh];have z:=xm.zero x y
  by_cases e:x=y
  ·rw[if_pos e,if_pos (z.2 e)];exact Ef a b
  ·rw[if_neg e,if_neg fun h=>e (z.1 h)]
   rw[decide_eq_true_eq];unfold bL;split
   ·simp[*]
   ·split
    ·simp[*]
    ·omega
theorem nP:∀a b:List (List Int),a.length=b.length->(bB a b=true↔eg a b<0)
 | [],[],_=>by simp[bB,eg,bj]
 | [],_::_,h=>by simp at h
 |_::_,[],h=>by simp at h
 |x::a,y::b,h=>by
  have z:=xm.lists.zero x y
  show bB (x::a) (y::b)=true↔(if bj bL x y=0 then bj (bj bL) a b else bj bL x y)<0
  rw[bB];by_cases e:x=y
  ·rw[if_pos e,if_pos (z.2 e)];exact nP a b (by simpa using h)
  ·rw[if_neg e,if_neg fun h=>e (z.1 h)];exact Ef x y
def iJ(l:List (List (List Int))):Prop:=l.Pairwise fun a b=>eg a b<=0
theorem Mo{a b:List (List (List Int))}(ha:iJ a)(hb:iJ b)(h:a.Perm b):a=b :=
 List.Perm.eq_of_pairwise (le:=fun x y=>eg x y<=0) (fun x y _ _ h1 h2=>(dK.zero x y).1 (by have:=dK.anti x y;omega)) ha hb h
theorem Mp(out:List (List (List Int)))(c:List (List Int)):(fa out c).Perm (c::out):=by
 have h1:(fa out c).Perm (c::(out.take (cb c out)++out.drop (cb c out))):=List.perm_middle
 rwa[List.take_append_drop]at h1
theorem Eg(c:List (List Int)):∀K:List (List (List Int)),(∀k∈K.take (cb c K),bB k c=true)/\(∀h:cb c K<K.length,bB K[cb c K] c=false)
 | []=>⟨fun k hk=>by simp at hk,fun h=>by simp at h⟩
 |k::K=>by
  rw[cb];by_cases hk:bB k c=true
  ·rw[if_pos hk]
   obtain⟨h1,h2⟩:=Eg c K;refine⟨fun x hx=>?_,fun h=>by simpa using h2 (by simpa using h)⟩
   rw[List.take_succ_cons,List.mem_cons]at hx;rcases hx with rfl|hx
   ·exact hk
   ·exact h1 x hx
  ·rw[if_neg hk]
   exact⟨fun x hx=>by simp at hx,fun _=>by simpa using hk⟩
theorem Mq{n:Nat}{out:List (List (List Int))}{c:List (List Int)}(hl:∀k∈out,k.length=n)(hc:c.length=n)(h:iJ out):iJ (fa out c):=by
 obtain⟨h1,h2⟩:=Eg c out;have h0:=h
 rw[iJ,<-List.take_append_drop (cb c out) out,List.pairwise_append]at h0;obtain⟨p1,p2,p3⟩:=h0;have low:∀k∈out.take (cb c out),eg k c<0:=fun k hk=>(nP k c (by rw[hl k (List.mem_of_mem_take hk),hc])).1 (h1 k hk)
 have high:∀k∈out.drop (cb c out),eg c k<=0:=fun k hk=>by
  have hlt:cb c out<out.length:=by
   refine Classical.byContradiction fun hn=>?_
   rw[List.drop_eq_nil_of_le (by omega)]at hk;cases hk
  have hf:=h2 hlt
  have hm:out[cb c out]∈out:=List.getElem_mem hlt
  have ge:eg c out[cb c out]<=0:=by
   have:=nP out[cb c out] c (by rw[hl _ hm,hc])
   have an:=dK.anti c out[cb c out]
   refine Classical.byContradiction fun hn=>?_
   rw[this.2 (by omega)]at hf;cases hf
  rw[List.drop_eq_getElem_cons hlt]at hk p2;rcases List.mem_cons.1 hk with rfl|hk
  ·exact ge
  ·exact dK.le _ _ _ ge ((List.pairwise_cons.1 p2).1 k hk)
 rw[iJ,fa,List.pairwise_append];refine⟨p1,List.pairwise_cons.2 ⟨high,p2⟩,fun a ha b hb=>?_⟩
 rcases List.mem_cons.1 hb with rfl|hb
 ·have:=low a ha;omega
 ·exact p3 a ha b hb
theorem Eh{n:Nat}:∀(l out:List (List (List Int))),(∀k∈out,k.length=n)->(∀k∈l,k.length=n)->iJ out->iJ (l.foldl fa out)/\(l.foldl fa out).Perm (l++out)
 | [],out,_,_,h=>⟨h,.refl _⟩
 |c::l,out,ho,hl,h=>by
  have hc:=hl c List.mem_cons_self
  obtain⟨a,b⟩:=Eh l (fa out c) (fun k hk=>by
   rcases(DG out c k).1 hk with rfl|hk
   ·exact hc
   ·exact ho k hk) (fun k hk=>hl k (List.mem_cons_of_mem _ hk)) (Mq ho hc h)
  refine⟨a,b.trans ?_⟩
  refine(List.Perm.append_left l (Mp out c)).trans ?_
  exact List.perm_middle
theorem wQ(l:List (List (List Int))):(cQ l).Perm l:=by
 unfold cQ;split
 ·rename_i h
  refine((qR l h).map _).trans ?_
  have:(List.finRange l.length).map (fun i=>l.getD i.1 [])=l:=by
   apply List.ext_getElem (by simp)
   intro i h1 h2
   simp
  rw[this]
 ·have:l=[]:=List.eq_nil_of_length_eq_zero (by omega)
  rw[this]
theorem Ei(l:List (List (List Int))):iJ (cQ l):=by
 by_cases h:0<l.length
 case neg =>
  unfold cQ;rw[dif_neg h];exact List.Pairwise.nil
 letI:Inhabited (Fin l.length):=⟨⟨0,h⟩⟩
 have S:=(Go.Sort.pdq_sorts (fun i j=>decide (f8 l i j<0)) (xn l) (List.finRange l.length).toArray 0 (List.finRange l.length).toArray.size (Lib.bitLen (List.finRange l.length).toArray.size) true true (Nat.zero_le _) (Nat.le_refl _) (Or.inl rfl)).2
 have S:∀i j:Nat,i<j->j<l.length->decide (f8 l (eA l h)[j]! (eA l h)[i]!<0)=false:=fun i j h1 h2=>S i j (Nat.zero_le _) h1 (by simpa using h2)
 have hS:cQ l=(eA l h).toList.map (fun i=>l.getD i.1 []):=by unfold cQ;rw[dif_pos h]
 have sl:(eA l h).toList.length=l.length:=by rw[(qR l h).length_eq];simp
 have sz:(eA l h).size=l.length:=by simpa using sl
 have g:∀i (hi:i<l.length),(eA l h)[i]! = (eA l h).toList[i]'(by omega):=fun i hi=>by
  rw[getElem!_pos (eA l h) i (by omega)];simp
 have hlen:(cQ l).length=l.length:=qS l
 refine List.pairwise_iff_getElem.2 fun i j hi hj hij=>?_
 have e:∀k (hk:k<(cQ l).length),(cQ l)[k]=l.getD ((eA l h)[k]!).1 []:=fun k hk=>by
  rw[g k (by omega)]
  simp[hS]
 have s:=S i j hij (by omega)
 rw[decide_eq_false_iff_not,f8,<-e j hj,<-e i hi]at s;have an:=dK.anti (cQ l)[i] (cQ l)[j]
 omega
section
variable {n:Nat} {t A:List (List Int)}
def fN(A:List (List Int))(K:List Int):List (List Int):=K.map fun k=>A.getD k.toNat []
theorem jM{K:List Int}{x:Nat}(hx:x<K.length):(fN A K).getD x []=A.getD (K.getD x 0).toNat []:=l8 _ _ 0 [] _ hx
theorem Mr(ht:aT n t)(hA:AuOk n A){K:List Int}(hK:SolK n t A K):bG t A K=ef t (fN A K):=by
 have e:t.length=n:=ht.1
 rw[bG,ef,bZ];refine List.map_congr_left fun y hy=>?_
 have hy:y<n:=by rw[<-e];exact List.mem_range.1 hy
 have r:=hK.rng y hy
 have al:=hA.len (K.getD y 0).toNat (by omega)
 have row:(fN A K).getD y []=A.getD (K.getD y 0).toNat []:=jM (by rw[hK.len];exact hy)
 refine jc (by rw[gD,fL,al,e]) fun z hz=>?_
 rw[gD]at hz;rw[f7 hz,eY _ _ _ (by omega)]
 simp only[en];rw[row]
theorem Ms(hA:AuOk n A)(hAn:A.Nodup){K K':List Int}(hK:SolK n t A K)(hK':SolK n t A K')(e:fN A K=fN A K'):K=K':=by
 refine jc (by rw[hK.len,hK'.len]) fun x hx=>?_
 rw[hK.len]at hx;have r:=hK.rng x hx
 have r':=hK'.rng x hx
 have a:(fN A K).getD x []=(fN A K').getD x []:=by rw[e]
 rw[jM (by rw[hK.len];exact hx),jM (by rw[hK'.len];exact hx),bD _ _ _ (show(K.getD x 0).toNat<A.length by omega),bD _ _ _ (show(K'.getD x 0).toNat<A.length by omega)]at a
 have:=(List.getElem_inj hAn).1 a
 omega
theorem Mt(ht:aT n t)(hA:AuOk n A){K:List Int}(hK:SolK n t A K):SolL n t A (fN A K) where
 len:=by rw[fN,List.length_map];exact hK.len
 mem x hx:=by
  have r:=hK.rng x hx
  rw[jM (by rw[hK.len];exact hx)]
  exact bE A [] _ (by omega)
 fit x y hx hy:=by
  have r:=hK.rng x hx
  have q:=hK.rng y hy
  have z:=kF ht hA hK.ok hx hy r.1
  have w:=mg hA hK.ok hx hy r.1 q.1
  have e:en (fN A K) x y=en A (K.getD x 0).toNat y:=by simp only[en];rw[jM (by rw[hK.len];exact hx)]
  rw[e];have f:=hK.fit x y hx hy
  have z2:=z.2.2
  simp only[bF]at f z2;rw[jM (by rw[hK.len];exact z2),f,jM (by rw[hK.len];exact hy),jM (by rw[hK.len];exact hx),dF,kE,Int.toNat_natCast]
  exact(jk w.1).2
theorem Mu(ht:aT n t)(hA:AuOk n A){L:List (List Int)}(hL:SolL n t A L):SolK n t A (L.map fun f=>(dM A f:Int))/\fN A (L.map fun f=>(dM A f:Int))=L:=by
 have g:∀x,x<n->(L.map fun f=>(dM A f:Int)).getD x 0=(dM A (L.getD x []):Int):=fun x hx=>l8 _ _ [] 0 _ (by rw[hL.len];exact hx)
 have a:∀x,x<n->A.getD (dM A (L.getD x [])) []=L.getD x []:=fun x hx=>(jk (hL.mem x hx)).2
 refine⟨⟨by rw[List.length_map];exact hL.len,fun x hx=>?_,fun x y hx hy=>?_⟩,?_⟩
 ·rw[g x hx]
  have:=(jk (hL.mem x hx)).1
  omega
 ·have f:=hL.fit x y hx hy
  have e:bF t A (L.map fun f=>(dM A f:Int)) x y=(en t x (en L x y).toNat).toNat:=by
   simp only[bF];rw[g x hx,Int.toNat_natCast];have:en A (dM A (L.getD x [])) y=en L x y:=by simp only[en];rw[a x hx]
   rw[this]
  have zl:(en t x (en L x y).toNat).toNat<n:=by
   obtain⟨j,hj,ej⟩:=List.mem_iff_getElem.1 (hL.mem x hx);have r:=hA.rng j y hj hy
   have e2:en L x y=en A j y:=by simp only[en];rw[<-ej,bD A [] j hj]
   have:=(ht.2 x hx).2 (en L x y).toNat (by omega)
   omega
  rw[e,g _ zl,f,dF,kE,g x hx,g y hy,Int.toNat_natCast,Int.toNat_natCast,a x hx,a y hy]
 ·rw[fN,List.map_map]
  refine List.ext_getElem (by simp) fun x h1 h2=>?_
  have hx:x<n:=by rw[<-hL.len];exact h2
  have:=a x hx
  rw[bD _ [] _ h2]at this
  simpa using this
end
theorem Mv{n:Nat}{t:List (List Int)}(G:GrpT n t)(hn:n<=7){L:List (List Int)}(hL:SolL n t (aa t) L):L.getD 0 []=cZ n:=by
 have h0:=hL.mem 0 G.pos
 have P:=qz G hn h0
 have Z:=iI G P
 have f:=hL.fit 0 0 G.pos G.pos
 have z:(en t 0 (en L 0 0).toNat).toNat=0:=by
  have e:(en L 0 0).toNat=0:=Z
  rw[e];exact G.z1 0 G.pos
 rw[z]at f;have u:(cZ n).length=n:=fL _ _
 refine jc (by rw[P.len,u]) fun i hi=>?_
 rw[P.len]at hi;have r:=P.rng i hi
 have q:(L.getD 0 []).getD i 0=(aU (L.getD 0 []) (L.getD 0 [])).getD i 0:=congrArg (fun l:List Int=>l.getD i 0) f
 rw[f7 (by rw[P.len];exact hi)]at q
 have:=nR P.nd (i:=((L.getD 0 []).getD i 0).toNat) (j:=i) (by rw[P.len];omega) (by rw[P.len];exact hi) q.symm
 rw[cZ,eY _ _ _ hi];omega
theorem qA{n:Nat}{t:List (List Int)}(G:GrpT n t)(hn:n<=7):cQ (b9 t (aa t) 9 [] [])=aB t (aa t):=by
 have e:t.length=n:=G.tb.1
 have hlen:=kJ G hn
 obtain⟨hA,_⟩:=mw G.tb G.pos (by omega)
 have hAn:=wO G hn
 have hA0:(aa t).getD 0 []=cZ n:=by rw[qO G.tb G.pos (by omega)];exact(xg G.tb G.pos).2
 have z0:Z0 n ((List.replicate t.length (-1)).set 0 0):=by rw[e];exact wb
 have ng:=DJ G.pos
 obtain⟨k1,k2⟩:=Ed G.tb hA 12 ((List.replicate t.length (-1)).set 0 0) (z0.ok hA) (by rw[e];omega) (fun hz=>by
  have n1:n=1:=by rw[e]at hz;omega
  have r0:=hA.pos
  refine⟨z0.1,fun x hx=>?_,fun x y hx hy=>?_⟩
  ·have x0:x=0:=by omega
   subst x0;rw[ft (by rw[List.length_replicate,e];omega),if_pos rfl];omega
  ·have v:=kF G.tb hA (z0.ok hA) hx hy (by
    have x0:x=0:=by omega
    subst x0;rw[ft (by rw[List.length_replicate,e];omega),if_pos rfl];omega)
   have zz:bF t (aa t) ((List.replicate t.length (-1)).set 0 0) x y=0:=by omega
   have x0:x=0:=by omega
   have y0:y=0:=by omega
   rw[zz,dF,x0,y0,ft (by rw[List.length_replicate,e];omega),if_pos rfl]
   have:=(mw G.tb G.pos (by omega)).2
   omega)
 obtain⟨l1,l2⟩:=qy G.tb hA hAn 9 [] (Nat.zero_le _) (by simp;omega) (fun r hr=>by cases hr) (fun h=>by have:=G.pos;simp at h;omega)
 have perm:((eN t (aa t) 12 ((List.replicate t.length (-1)).set 0 0)).map (fN (aa t))).Perm (gY t (aa t) 9 []):=by
  refine(List.perm_ext_iff_of_nodup (List.pairwise_map.2 (List.Pairwise.imp_of_mem (fun {K K'} hK hK' hne h=>hne (Ms hA hAn ((k1 K).1 hK).1 ((k1 K').1 hK').1 h)) k2)) l2).2 fun L=>?_
  rw[List.mem_map,l1]
  constructor
  ·rintro⟨K,hK,rfl⟩
   exact⟨Mt G.tb hA ((k1 K).1 hK).1,rfl⟩
  ·rintro⟨hL,_⟩
   obtain⟨b1,b2⟩:=Mu G.tb hA hL;refine⟨_,(k1 _).2 ⟨b1,fun x hx h0=>?_⟩,b2⟩
   by_cases x0:x=0
   ·subst x0
    rw[ft (by rw[List.length_replicate,e];omega),if_pos rfl,l8 _ _ [] 0 _ (by rw[hL.len];exact hx),Mv G hn hL,<-hA0]
    have:=Gb hAn (i:=0) hA.pos
    omega
   ·rw[ft (by rw[List.length_replicate,e];omega),if_neg x0]at h0
    simp[List.getD,e,hx]at h0
 have cl:∀L,(ef t L).length=n:=fun L=>by rw[ef,sy,e]
 have tl:∀K,(bG t (aa t) K).length=n:=fun K=>by simp[bG,e]
 obtain⟨s1,s2⟩:=Eh (n:=n) ((eN t (aa t) 12 ((List.replicate t.length (-1)).set 0 0)).map (bG t (aa t))) [] (fun k hk=>by cases hk) (fun k hk=>by
  obtain⟨K,_,rfl⟩:=List.mem_map.1 hk;exact tl K) List.Pairwise.nil
 rw[aB,wN];refine Mo (Ei _) s1 ((wQ _).trans (.trans ?_ s2.symm))
 rw[qw,List.nil_append,List.append_nil];have:(eN t (aa t) 12 ((List.replicate t.length (-1)).set 0 0)).map (bG t (aa t))=((eN t (aa t) 12 ((List.replicate t.length (-1)).set 0 0)).map (fN (aa t))).map (ef t):=by
  rw[List.map_map];exact List.map_congr_left fun K hK=>Mr G.tb hA ((k1 K).1 hK).1
 rw[this];exact(perm.map _).symm
end Go.Sx
