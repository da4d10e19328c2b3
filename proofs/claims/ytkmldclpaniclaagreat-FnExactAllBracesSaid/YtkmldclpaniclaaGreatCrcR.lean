/- CrcR -/
import Derived.Test.YtkmldclpaniclaaGreatCrcG
import Derived.Test.YtkmldclpaniclaaGreatCrcP
import Derived.Test.YtkmldclpaniclaaGreatEqt
import Derived.Test.YtkmldclpaniclaaGreatMpgC
set_option linter.unusedSimpArgs false
set_option linter.unusedVariables false
open Go Go.Proofs
namespace Go.Sx
def gZ(t A:List (List Int)):Nat->List (List Int)->List (List (List Int))
 |0,_=>[]
 |d+1,L=>if L.length=t.length then [L]else(List.range A.length).flatMap fun i:Nat=>if gY t (L++[A.getD i []])=true then gZ t A d (L++[A.getD i []])else []
theorem qB{t A:List (List Int)}:∀(d:Nat) (L:List (List Int)) (fd:List (List (List Int))),cf t A d L fd=fd++(gZ t A d L).map (eh t)
 |0,L,fd=>by simp[cf,gZ]
 |d+1,L,fd=>by
  rw[cf,gZ];split
  ·rfl
  ·have:∀m,dD t A L (cf t A d) fd m=fd++((List.range m).flatMap fun i:Nat=>if gY t (L++[A.getD i []])=true then gZ t A d (L++[A.getD i []])else []).map (eh t):=by
    intro m
    induction m with
    |zero=>simp[dD]
    |succ m ih =>
     rw[dD,List.range_succ,List.flatMap_append,List.map_append,<-List.append_assoc,<-ih];simp only[List.flatMap_cons,List.flatMap_nil,List.append_nil];split
     ·exact qB d _ _
     ·simp
   exact this A.length
structure SolL (n:Nat) (t A L:List (List Int)):Prop where
 len:L.length=n
 mem:∀x,x<n->L.getD x []∈A
 fit:∀x y,x<n->y<n->L.getD (en t x (en L x y).toNat).toNat []=aT (L.getD y []) (L.getD x [])
theorem Eh{t L:List (List Int)}:gY t L=true↔∀x y,x<L.length->y<L.length->(en t x (en L x y).toNat).toNat<L.length->L.getD (en t x (en L x y).toNat).toNat []=aT (L.getD y []) (L.getD x []):=by
 simp only[gY,mo,jg,List.all_eq_true,List.mem_range,Bool.or_eq_true,Bool.not_eq_true',decide_eq_false_iff_not,decide_eq_true_eq]
 constructor
 ·intro h x y hx hy hz
  exact(h x hx y hy).resolve_left (by simpa using hz)
 ·intro h x hx y hy
  by_cases hz:(en t x (en L x y).toNat).toNat<L.length
  ·exact .inr (h x y hx hy hz)
  ·exact .inl hz
theorem qC{L:List (List Int)}{k x:Nat}(hx:x<k):(L.take k).getD x []=L.getD x []:=by
 simp[List.getD,List.getElem?_take,hx]
section
variable {n:Nat} {t A:List (List Int)}
theorem SolL.pre{L:List (List Int)}(h:SolL n t A L){k:Nat}(hk:k<=n):gY t (L.take k)=true:=by
 have hl:(L.take k).length=k:=by rw[List.length_take,h.len];omega
 refine Eh.2 fun x y hx hy hz=>?_
 rw[hl]at hx hy hz;have e:en (L.take k) x y=en L x y:=by simp only[en];rw[qC hx]
 rw[e]at hz⊢;rw[qC hz,qC hx,qC hy];exact h.fit x y (by omega) (by omega)
theorem qD(ht:aB n t)(hA:AuOk n A)(hAn:A.Nodup):∀(d:Nat) (L:List (List Int)),L.length<=n->n<d+L.length->(∀r∈L,r∈A)->(L.length=n->SolL n t A L)->(∀S,S∈gZ t A d L↔SolL n t A S/\S.take L.length=L)/\(gZ t A d L).Nodup
 |0,L,h1,h2,_,_=>by omega
 |d+1,L,h1,h2,hL,hz=>by
  rw[gZ];by_cases hp:L.length=t.length
  ·rw[if_pos hp]
   have hp:L.length=n:=by rw[hp,ht.1]
   refine⟨fun S=>?_,by simp⟩
   rw[List.mem_singleton]
   constructor
   ·rintro rfl;exact⟨hz hp,List.take_length⟩
   ·rintro⟨k1,k2⟩
    rw[<-k2,hp,<-k1.len,List.take_length]
  ·rw[if_neg hp]
   have hlt:L.length<n:=by rw[ht.1]at hp;omega
   have br:∀i,i<A.length->gY t (L++[A.getD i []])=true->(∀S,S∈gZ t A d (L++[A.getD i []])↔SolL n t A S/\S.take (L.length+1)=L++[A.getD i []])/\(gZ t A d (L++[A.getD i []])).Nodup:=fun i hi hf=>by
    have hm:∀r∈L++[A.getD i []],r∈A:=fun r hr=>by
     rcases List.mem_append.1 hr with hr|hr
     ·exact hL r hr
     ·rw[List.mem_singleton]at hr;rw[hr];exact bO A [] i hi
    have:=qD ht hA hAn d (L++[A.getD i []]) (by simp;omega) (by simp;omega) hm (fun e=>⟨e,fun x hx=>hm _ (bO _ [] x (by omega)),fun x y hx hy=>by
     have hxm:=hm _ (bO (L++[A.getD i []]) [] x (by omega))
     obtain⟨j,hj,ej⟩:=List.mem_iff_getElem.1 hxm;have r:=hA.rng j y hj hy
     have e2:en (L++[A.getD i []]) x y=en A j y:=by simp only[en];rw[<-ej,bG A [] j hj]
     have z:=(ht.2 x hx).2 (en A j y).toNat (by omega)
     exact Eh.1 hf x y (by omega) (by omega) (by rw[e2];omega)⟩)
    simpa using this
   constructor
   ·intro S
    rw[List.mem_flatMap]
    constructor
    ·rintro⟨i,hi,h⟩
     have hi:i<A.length:=by simpa using hi
     split at h
     ·rename_i hf
      obtain⟨q1,q2⟩:=((br i hi hf).1 S).1 h;refine⟨q1,?_⟩
      have:=congrArg (List.take L.length) q2
      rw[List.take_take,Nat.min_eq_left (by omega)]at this
      rw[this];simp
     ·cases h
    ·rintro⟨q1,q2⟩
     obtain⟨i,hi,ei⟩:=List.mem_iff_getElem.1 (q1.mem L.length hlt);have et:S.take (L.length+1)=L++[A.getD i []]:=by
      rw[bG A [] i hi,ei,<-q2];have:=du S [] L.length (by rw[q1.len];exact hlt)
      rw[List.length_take,Nat.min_eq_left (by rw[q1.len];omega)]
      exact this.symm
     have hf:=q1.pre (k:=L.length+1) (by omega)
     rw[et]at hf;exact⟨i,by simpa using hi,by rw[if_pos hf];exact((br i hi hf).1 S).2 ⟨q1,et⟩⟩
   ·refine List.pairwise_flatMap.2 ⟨fun i hi=>?_,List.Pairwise.imp_of_mem (fun {i j} hi hj hne S hS S' hS' e=>?_) List.nodup_range⟩
    ·split
     ·rename_i hf;exact(br i (by simpa using hi) hf).2
     ·exact List.Pairwise.nil
    ·subst e
     have hi:i<A.length:=by simpa using hi
     have hj:j<A.length:=by simpa using hj
     split at hS
     ·rename_i hf
      split at hS'
      ·rename_i hf2
       have a:=(((br i hi hf).1 S).1 hS).2
       have b:=(((br j hj hf2).1 S).1 hS').2
       rw[a]at b;have b:=List.append_cancel_left b
       rw[bG _ _ _ hi,bG _ _ _ hj]at b;exact hne ((List.getElem_inj hAn).1 (List.cons.inj b).1)
      ·cases hS'
     ·cases hS
end
section
variable {n:Nat} {t:List (List Int)}
theorem qE(G:GrpT n t)(hn:n<=7){p:List Int}(h:p∈aa t):isoL n [t] [t] p:=by
 rw[<-kK G hn]at h;have e:bu [t]=n:=G.tb.1
 have:=(((kX (kJ G hn)).1 p).1 h).2
 rwa[e]at this
theorem kL(G:GrpT n t)(hn:n<=7):(aa t).length<=49:=by rw[<-kK G hn];exact wi G hn
theorem wp(G:GrpT n t)(hn:n<=7):(aa t).Nodup:=by
 rw[<-kK G hn];exact n9 (kX (kJ G hn)).2
theorem wq{α β:Type}(F:α->List β)(k:Nat):∀l:List α,(∀x∈l,(F x).length<=k)->(l.flatMap F).length<=l.length*k
 | [],_=>by simp
 |x::l,h=>by
  have:=wq F k l fun y hy=>h y (List.mem_cons_of_mem _ hy)
  have h0:=h x List.mem_cons_self
  simp only[List.flatMap_cons,List.length_append,List.length_cons,Nat.add_mul];omega
end
theorem Ei:∀a b:List Int,bh a b=true↔bm bS a b<0
 | [],[]=>by simp[bh,bm]
 | [],_::_=>by simp[bh,bm]
 |_::_,[]=>by simp[bh,bm]
 |x::a,y::b=>by
  simp only[bm,bh];have z:=wJ.zero x y
  by_cases e:x=y
  ·rw[if_pos e,if_pos (z.2 e)];exact Ei a b
  ·rw[if_neg e,if_neg fun h=>e (z.1 h)]
   rw[decide_eq_true_eq];unfold bS;split
   ·simp[*]
   ·split
    ·simp[*]
    ·omega
theorem nV:∀a b:List (List Int),a.length=b.length->(bE a b=true↔em a b<0)
 | [],[],_=>by simp[bE,em,bm]
 | [],_::_,h=>by simp at h
 |_::_,[],h=>by simp at h
 |x::a,y::b,h=>by
  have z:=wJ.lists.zero x y
  show bE (x::a) (y::b)=true↔(if bm bS x y=0 then bm (bm bS) a b else bm bS x y)<0
  rw[bE];by_cases e:x=y
  ·rw[if_pos e,if_pos (z.2 e)];exact nV a b (by simpa using h)
  ·rw[if_neg e,if_neg fun h=>e (z.1 h)];exact Ei x y
def iM(l:List (List (List Int))):Prop:=l.Pairwise fun a b=>em a b<=0
theorem L0{a b:List (List (List Int))}(ha:iM a)(hb:iM b)(h:a.Perm b):a=b :=
 List.Perm.eq_of_pairwise (le:=fun x y=>em x y<=0) (fun x y _ _ h1 h2=>(dL.zero x y).1 (by have:=dL.anti x y;omega)) ha hb h
theorem L5(out:List (List (List Int)))(c:List (List Int)):(fb out c).Perm (c::out):=by
 have h1:(fb out c).Perm (c::(out.take (co c out)++out.drop (co c out))):=List.perm_middle
 rwa[List.take_append_drop]at h1
theorem Ej(c:List (List Int)):∀K:List (List (List Int)),(∀k∈K.take (co c K),bE k c=true)/\(∀h:co c K<K.length,bE K[co c K] c=false)
 | []=>⟨fun k hk=>by simp at hk,fun h=>by simp at h⟩
 |k::K=>by
  rw[co];by_cases hk:bE k c=true
  ·rw[if_pos hk]
   obtain⟨h1,h2⟩:=Ej c K;refine⟨fun x hx=>?_,fun h=>by simpa using h2 (by simpa using h)⟩
   rw[List.take_succ_cons,List.mem_cons]at hx;rcases hx with rfl|hx
   ·exact hk
   ·exact h1 x hx
  ·rw[if_neg hk]
   exact⟨fun x hx=>by simp at hx,fun _=>by simpa using hk⟩
theorem L6{n:Nat}{out:List (List (List Int))}{c:List (List Int)}(hl:∀k∈out,k.length=n)(hc:c.length=n)(h:iM out):iM (fb out c):=by
 obtain⟨h1,h2⟩:=Ej c out;have h0:=h
 rw[iM,<-List.take_append_drop (co c out) out,List.pairwise_append]at h0;obtain⟨p1,p2,p3⟩:=h0;have low:∀k∈out.take (co c out),em k c<0:=fun k hk=>(nV k c (by rw[hl k (List.mem_of_mem_take hk),hc])).1 (h1 k hk)
 have high:∀k∈out.drop (co c out),em c k<=0:=fun k hk=>by
  have hlt:co c out<out.length:=by
   refine Classical.byContradiction fun hn=>?_
   rw[List.drop_eq_nil_of_le (by omega)]at hk;cases hk
  have hf:=h2 hlt
  have hm:out[co c out]∈out:=List.getElem_mem hlt
  have ge:em c out[co c out]<=0:=by
   have:=nV out[co c out] c (by rw[hl _ hm,hc])
   have an:=dL.anti c out[co c out]
   refine Classical.byContradiction fun hn=>?_
   rw[this.2 (by omega)]at hf;cases hf
  rw[List.drop_eq_getElem_cons hlt]at hk p2;rcases List.mem_cons.1 hk with rfl|hk
  ·exact ge
  ·exact dL.le _ _ _ ge ((List.pairwise_cons.1 p2).1 k hk)
 rw[iM,fb,List.pairwise_append];refine⟨p1,List.pairwise_cons.2 ⟨high,p2⟩,fun a ha b hb=>?_⟩
 rcases List.mem_cons.1 hb with rfl|hb
 ·have:=low a ha;omega
 ·exact p3 a ha b hb
theorem Ek{n:Nat}:∀(l out:List (List (List Int))),(∀k∈out,k.length=n)->(∀k∈l,k.length=n)->iM out->iM (l.foldl fb out)/\(l.foldl fb out).Perm (l++out)
 | [],out,_,_,h=>⟨h,.refl _⟩
 |c::l,out,ho,hl,h=>by
  have hc:=hl c List.mem_cons_self
  obtain⟨a,b⟩:=Ek l (fb out c) (fun k hk=>by
   rcases(DJ out c k).1 hk with rfl|hk
   ·exact hc
   ·exact ho k hk) (fun k hk=>hl k (List.mem_cons_of_mem _ hk)) (L6 ho hc h)
  refine⟨a,b.trans ?_⟩
  refine(List.Perm.append_left l (L5 out c)).trans ?_
  exact List.perm_middle
theorem wt(l:List (List (List Int))):(cS l).Perm l:=by
 unfold cS;split
 ·rename_i h
  refine((qO l h).map _).trans ?_
  have:(List.finRange l.length).map (fun i=>l.getD i.1 [])=l:=by
   apply List.ext_getElem (by simp)
   intro i h1 h2
   simp
  rw[this]
 ·have:l=[]:=List.eq_nil_of_length_eq_zero (by omega)
  rw[this]
theorem El(l:List (List (List Int))):iM (cS l):=by
 by_cases h:0<l.length
 case neg =>
  unfold cS;rw[dif_neg h];exact List.Pairwise.nil
 letI:Inhabited (Fin l.length):=⟨⟨0,h⟩⟩
 have S:=(Go.Sort.pdq_sorts (fun i j=>decide (fZ l i j<0)) (wK l) (List.finRange l.length).toArray 0 (List.finRange l.length).toArray.size (Lib.bitLen (List.finRange l.length).toArray.size) true true (Nat.zero_le _) (Nat.le_refl _) (Or.inl rfl)).2
 have S:∀i j:Nat,i<j->j<l.length->decide (fZ l (eD l h)[j]! (eD l h)[i]!<0)=false:=fun i j h1 h2=>S i j (Nat.zero_le _) h1 (by simpa using h2)
 have hS:cS l=(eD l h).toList.map (fun i=>l.getD i.1 []):=by unfold cS;rw[dif_pos h]
 have sl:(eD l h).toList.length=l.length:=by rw[(qO l h).length_eq];simp
 have sz:(eD l h).size=l.length:=by simpa using sl
 have g:∀i (hi:i<l.length),(eD l h)[i]! = (eD l h).toList[i]'(by omega):=fun i hi=>by
  rw[getElem!_pos (eD l h) i (by omega)];simp
 have hlen:(cS l).length=l.length:=qP l
 refine List.pairwise_iff_getElem.2 fun i j hi hj hij=>?_
 have e:∀k (hk:k<(cS l).length),(cS l)[k]=l.getD ((eD l h)[k]!).1 []:=fun k hk=>by
  rw[g k (by omega)]
  simp[hS]
 have s:=S i j hij (by omega)
 rw[decide_eq_false_iff_not,fZ,<-e j hj,<-e i hi]at s;have an:=dL.anti (cS l)[i] (cS l)[j]
 omega
section
variable {n:Nat} {t A:List (List Int)}
def fO(A:List (List Int))(K:List Int):List (List Int):=K.map fun k=>A.getD k.toNat []
theorem jO{K:List Int}{x:Nat}(hx:x<K.length):(fO A K).getD x []=A.getD (K.getD x 0).toNat []:=me _ _ 0 [] _ hx
theorem L7(ht:aB n t)(hA:AuOk n A){K:List Int}(hK:SolK n t A K):bL t A K=eh t (fO A K):=by
 have e:t.length=n:=ht.1
 rw[bL,eh,bQ];refine List.map_congr_left fun y hy=>?_
 have hy:y<n:=by rw[<-e];exact List.mem_range.1 hy
 have r:=hK.rng y hy
 have al:=hA.len (K.getD y 0).toNat (by omega)
 have row:(fO A K).getD y []=A.getD (K.getD y 0).toNat []:=jO (by rw[hK.len];exact hy)
 refine jc (by rw[gB,eA,al,e]) fun z hz=>?_
 rw[gB]at hz;rw[fY hz,eJ _ _ _ (by omega)]
 simp only[en];rw[row]
theorem L8(hA:AuOk n A)(hAn:A.Nodup){K K':List Int}(hK:SolK n t A K)(hK':SolK n t A K')(e:fO A K=fO A K'):K=K':=by
 refine jc (by rw[hK.len,hK'.len]) fun x hx=>?_
 rw[hK.len]at hx;have r:=hK.rng x hx
 have r':=hK'.rng x hx
 have a:(fO A K).getD x []=(fO A K').getD x []:=by rw[e]
 rw[jO (by rw[hK.len];exact hx),jO (by rw[hK'.len];exact hx),bG _ _ _ (show(K.getD x 0).toNat<A.length by omega),bG _ _ _ (show(K'.getD x 0).toNat<A.length by omega)]at a
 have:=(List.getElem_inj hAn).1 a
 omega
theorem L9(ht:aB n t)(hA:AuOk n A){K:List Int}(hK:SolK n t A K):SolL n t A (fO A K) where
 len:=by rw[fO,List.length_map];exact hK.len
 mem x hx:=by
  have r:=hK.rng x hx
  rw[jO (by rw[hK.len];exact hx)]
  exact bO A [] _ (by omega)
 fit x y hx hy:=by
  have r:=hK.rng x hx
  have q:=hK.rng y hy
  have z:=kH ht hA hK.ok hx hy r.1
  have w:=mm hA hK.ok hx hy r.1 q.1
  have e:en (fO A K) x y=en A (K.getD x 0).toNat y:=by simp only[en];rw[jO (by rw[hK.len];exact hx)]
  rw[e];have f:=hK.fit x y hx hy
  have z2:=z.2.2
  simp only[bJ]at f z2;rw[jO (by rw[hK.len];exact z2),f,jO (by rw[hK.len];exact hy),jO (by rw[hK.len];exact hx),dI,kG,Int.toNat_natCast]
  exact(jj w.1).2
theorem Ma(ht:aB n t)(hA:AuOk n A){L:List (List Int)}(hL:SolL n t A L):SolK n t A (L.map fun f=>(dN A f:Int))/\fO A (L.map fun f=>(dN A f:Int))=L:=by
 have g:∀x,x<n->(L.map fun f=>(dN A f:Int)).getD x 0=(dN A (L.getD x []):Int):=fun x hx=>me _ _ [] 0 _ (by rw[hL.len];exact hx)
 have a:∀x,x<n->A.getD (dN A (L.getD x [])) []=L.getD x []:=fun x hx=>(jj (hL.mem x hx)).2
 refine⟨⟨by rw[List.length_map];exact hL.len,fun x hx=>?_,fun x y hx hy=>?_⟩,?_⟩
 ·rw[g x hx]
  have:=(jj (hL.mem x hx)).1
  omega
 ·have f:=hL.fit x y hx hy
  have e:bJ t A (L.map fun f=>(dN A f:Int)) x y=(en t x (en L x y).toNat).toNat:=by
   simp only[bJ];rw[g x hx,Int.toNat_natCast];have:en A (dN A (L.getD x [])) y=en L x y:=by simp only[en];rw[a x hx]
   rw[this]
  have zl:(en t x (en L x y).toNat).toNat<n:=by
   obtain⟨j,hj,ej⟩:=List.mem_iff_getElem.1 (hL.mem x hx);have r:=hA.rng j y hj hy
   have e2:en L x y=en A j y:=by simp only[en];rw[<-ej,bG A [] j hj]
   have:=(ht.2 x hx).2 (en L x y).toNat (by omega)
   omega
  rw[e,g _ zl,f,dI,kG,g x hx,g y hy,Int.toNat_natCast,Int.toNat_natCast,a x hx,a y hy]
 ·rw[fO,List.map_map]
  refine List.ext_getElem (by simp) fun x h1 h2=>?_
  have hx:x<n:=by rw[<-hL.len];exact h2
  have:=a x hx
  rw[bG _ [] _ h2]at this
  simpa using this
end
theorem Mb{n:Nat}{t:List (List Int)}(G:GrpT n t)(hn:n<=7){L:List (List Int)}(hL:SolL n t (aa t) L):L.getD 0 []=c8 n:=by
 have h0:=hL.mem 0 G.pos
 have P:=qE G hn h0
 have Z:=iL G P
 have f:=hL.fit 0 0 G.pos G.pos
 have z:(en t 0 (en L 0 0).toNat).toNat=0:=by
  have e:(en L 0 0).toNat=0:=Z
  rw[e];exact G.z1 0 G.pos
 rw[z]at f;have u:(c8 n).length=n:=eA _ _
 refine jc (by rw[P.len,u]) fun i hi=>?_
 rw[P.len]at hi;have r:=P.rng i hi
 have q:(L.getD 0 []).getD i 0=(aT (L.getD 0 []) (L.getD 0 [])).getD i 0:=congrArg (fun l:List Int=>l.getD i 0) f
 rw[fY (by rw[P.len];exact hi)]at q
 have:=nW P.nd (i:=((L.getD 0 []).getD i 0).toNat) (j:=i) (by rw[P.len];omega) (by rw[P.len];exact hi) q.symm
 rw[c8,eJ _ _ _ hi];omega
theorem qF{n:Nat}{t:List (List Int)}(G:GrpT n t)(hn:n<=7):cS (cf t (aa t) 9 [] [])=aC t (aa t):=by
 have e:t.length=n:=G.tb.1
 have hlen:=kL G hn
 obtain⟨hA,_⟩:=mB G.tb G.pos (by omega)
 have hAn:=wp G hn
 have hA0:(aa t).getD 0 []=c8 n:=by rw[qL G.tb G.pos (by omega)];exact(wz G.tb G.pos).2
 have z0:Z0 n ((List.replicate t.length (-1)).set 0 0):=by rw[e];exact vJ
 have ng:=DM G.pos
 obtain⟨k1,k2⟩:=Eg G.tb hA 12 ((List.replicate t.length (-1)).set 0 0) (z0.ok hA) (by rw[e];omega) (fun hz=>by
  have n1:n=1:=by rw[e]at hz;omega
  have r0:=hA.pos
  refine⟨z0.1,fun x hx=>?_,fun x y hx hy=>?_⟩
  ·have x0:x=0:=by omega
   subst x0;rw[ft (by rw[List.length_replicate,e];omega),if_pos rfl];omega
  ·have v:=kH G.tb hA (z0.ok hA) hx hy (by
    have x0:x=0:=by omega
    subst x0;rw[ft (by rw[List.length_replicate,e];omega),if_pos rfl];omega)
   have zz:bJ t (aa t) ((List.replicate t.length (-1)).set 0 0) x y=0:=by omega
   have x0:x=0:=by omega
   have y0:y=0:=by omega
   rw[zz,dI,x0,y0,ft (by rw[List.length_replicate,e];omega),if_pos rfl]
   have:=(mB G.tb G.pos (by omega)).2
   omega)
 obtain⟨l1,l2⟩:=qD G.tb hA hAn 9 [] (Nat.zero_le _) (by simp;omega) (fun r hr=>by cases hr) (fun h=>by have:=G.pos;simp at h;omega)
 have perm:((eP t (aa t) 12 ((List.replicate t.length (-1)).set 0 0)).map (fO (aa t))).Perm (gZ t (aa t) 9 []):=by
  refine(List.perm_ext_iff_of_nodup (List.pairwise_map.2 (List.Pairwise.imp_of_mem (fun {K K'} hK hK' hne h=>hne (L8 hA hAn ((k1 K).1 hK).1 ((k1 K').1 hK').1 h)) k2)) l2).2 fun L=>?_
  rw[List.mem_map,l1]
  constructor
  ·rintro⟨K,hK,rfl⟩
   exact⟨L9 G.tb hA ((k1 K).1 hK).1,rfl⟩
  ·rintro⟨hL,_⟩
   obtain⟨b1,b2⟩:=Ma G.tb hA hL;refine⟨_,(k1 _).2 ⟨b1,fun x hx h0=>?_⟩,b2⟩
   by_cases x0:x=0
   ·subst x0
    rw[ft (by rw[List.length_replicate,e];omega),if_pos rfl,me _ _ [] 0 _ (by rw[hL.len];exact hx),Mb G hn hL,<-hA0]
    have:=Fq hAn (i:=0) hA.pos
    omega
   ·rw[ft (by rw[List.length_replicate,e];omega),if_neg x0]at h0
    simp[List.getD,e,hx]at h0
 have cl:∀L,(eh t L).length=n:=fun L=>by rw[eh,mR,e]
 have tl:∀K,(bL t (aa t) K).length=n:=fun K=>by simp[bL,e]
 obtain⟨s1,s2⟩:=Ek (n:=n) ((eP t (aa t) 12 ((List.replicate t.length (-1)).set 0 0)).map (bL t (aa t))) [] (fun k hk=>by cases hk) (fun k hk=>by
  obtain⟨K,_,rfl⟩:=List.mem_map.1 hk;exact tl K) List.Pairwise.nil
 rw[aC,wo];refine L0 (El _) s1 ((wt _).trans (.trans ?_ s2.symm))
 rw[qB,List.nil_append,List.append_nil];have:(eP t (aa t) 12 ((List.replicate t.length (-1)).set 0 0)).map (bL t (aa t))=((eP t (aa t) 12 ((List.replicate t.length (-1)).set 0 0)).map (fO (aa t))).map (eh t):=by
  rw[List.map_map];exact List.map_congr_left fun K hK=>L7 G.tb hA ((k1 K).1 hK).1
 rw[this];exact(perm.map _).symm
end Go.Sx
