/- ActP -/
import Derived.Test.YtkmldclpaniclaaGreatCrcG
import Derived.Test.YtkmldclpaniclaaGreatCrcP
import Derived.Test.YtkmldclpaniclaaGreatGrpC
import Derived.Test.YtkmldclpaniclaaGreatCirP
set_option linter.unusedSimpArgs false
set_option linter.unusedVariables false
open Go Go.Proofs
namespace Go.Sx
def ia(t A:V8):Nat->V8->V9
 |0,_=>[]
 |d+1,L=>if L.length=t.length then [L]else(List.range A.length).flatMap fun i:Nat=>if ie t (L++[A.getD i []])=true then ia t A d (L++[A.getD i []])else []
theorem qd{t A:V8}:∀(d:Nat) (L:V8) (fd:V9),cj t A d L fd=fd++(ia t A d L).map (eE t)
 |0,L,fd=>by simp[cj,ia]
 |d+1,L,fd=>by
  rw[cj,ia];split
  ·rfl
  ·have:∀m,dH t A L (cj t A d) fd m=fd++((List.range m).flatMap fun i:Nat=>if ie t (L++[A.getD i []])=true then ia t A d (L++[A.getD i []])else []).map (eE t):=by
    intro m
    induction m with
    |zero=>simp[dH]
    |succ m ih =>
     rw[dH,List.range_succ,List.flatMap_append,List.map_append,<-List.append_assoc,<-ih];simp only[List.flatMap_cons,List.flatMap_nil,List.append_nil];split
     ·exact qd d _ _
     ·simp
   exact this A.length
structure SolL (n:Nat) (t A L:V8):Prop where
 len:L.length=n
 mem:∀x,x<n->L.getD x []∈A
 fit:∀x y,x<n->y<n->L.getD (en t x (en L x y).toNat).toNat []=aY (L.getD y []) (L.getD x [])
theorem D3{t L:V8}:ie t L=true↔∀x y,x<L.length->y<L.length->(en t x (en L x y).toNat).toNat<L.length->L.getD (en t x (en L x y).toNat).toNat []=aY (L.getD y []) (L.getD x []):=by
 simp only[ie,mQ,jr,List.all_eq_true,List.mem_range,Bool.or_eq_true,Bool.not_eq_true',decide_eq_false_iff_not,decide_eq_true_eq]
 constructor
 ·intro h x y hx hy hz
  exact(h x hx y hy).resolve_left (by simpa using hz)
 ·intro h x hx y hy
  by_cases hz:(en t x (en L x y).toNat).toNat<L.length
  ·exact .inr (h x y hx hy hz)
  ·exact .inl hz
theorem qe{L:V8}{k x:Nat}(hx:x<k):(L.take k).getD x []=L.getD x []:=by
 simp[List.getD,List.getElem?_take,hx]
section
variable {n:Nat} {t A:V8}
theorem SolL.pre{L:V8}(h:SolL n t A L){k:Nat}(hk:k<=n):ie t (L.take k)=true:=by
 have hl:(L.take k).length=k:=by rw[List.length_take,h.len];omega
 refine D3.2 fun x y hx hy hz=>?_
 rw[hl]at hx hy hz;have e:en (L.take k) x y=en L x y:=by simp only[en];rw[qe hx]
 rw[e]at hz⊢;rw[qe hz,qe hx,qe hy];exact h.fit x y (by omega) (by omega)
theorem qf(ht:ay n t)(hA:AuOk n A)(hAn:A.Nodup):∀(d:Nat) (L:V8),L.length<=n->n<d+L.length->(∀r∈L,r∈A)->(L.length=n->SolL n t A L)->(∀S,S∈ia t A d L↔SolL n t A S/\S.take L.length=L)/\(ia t A d L).Nodup
 |0,L,h1,h2,_,_=>by omega
 |d+1,L,h1,h2,hL,hz=>by
  rw[ia];by_cases hp:L.length=t.length
  ·rw[if_pos hp]
   have hp:L.length=n:=by rw[hp,ht.1]
   refine⟨fun S=>?_,by simp⟩
   rw[List.mem_singleton]
   constructor
   ·rintro rfl;exact⟨hz hp,List.take_length⟩
   ·rintro⟨k1,k2⟩
    rw[<-k2,hp,<-k1.len,List.take_length]
  ·rw[if_neg hp]
   have hlt:L.length<n:=by rw[ht.1]at hp;omega
   have br:∀i,i<A.length->ie t (L++[A.getD i []])=true->(∀S,S∈ia t A d (L++[A.getD i []])↔SolL n t A S/\S.take (L.length+1)=L++[A.getD i []])/\(ia t A d (L++[A.getD i []])).Nodup:=fun i hi hf=>by
    have hm:∀r∈L++[A.getD i []],r∈A:=fun r hr=>by
     rcases List.mem_append.1 hr with hr|hr
     ·exact hL r hr
     ·rw[List.mem_singleton]at hr;rw[hr];exact bM A [] i hi
    have:=qf ht hA hAn d (L++[A.getD i []]) (by simp;omega) (by simp;omega) hm (fun e=>⟨e,fun x hx=>hm _ (bM _ [] x (by omega)),fun x y hx hy=>by
     have hxm:=hm _ (bM (L++[A.getD i []]) [] x (by omega))
     obtain⟨j,hj,ej⟩:=List.mem_iff_getElem.1 hxm;have r:=hA.rng j y hj hy
     have e2:en (L++[A.getD i []]) x y=en A j y:=by simp only[en];rw[<-ej,bF A [] j hj]
     have z:=(ht.2 x hx).2 (en A j y).toNat (by omega)
     exact D3.1 hf x y (by omega) (by omega) (by rw[e2];omega)⟩)
    simpa using this
   constructor
   ·intro S
    rw[List.mem_flatMap]
    constructor
    ·rintro⟨i,hi,h⟩
     have hi:i<A.length:=by simpa using hi
     split at h
     ·rename_i hf
      obtain⟨q1,q2⟩:=((br i hi hf).1 S).1 h;refine⟨q1,?_⟩
      have:=congrArg (List.take L.length) q2
      rw[List.take_take,Nat.min_eq_left (by omega)]at this
      rw[this];simp
     ·cases h
    ·rintro⟨q1,q2⟩
     obtain⟨i,hi,ei⟩:=List.mem_iff_getElem.1 (q1.mem L.length hlt);have et:S.take (L.length+1)=L++[A.getD i []]:=by
      rw[bF A [] i hi,ei,<-q2];have:=dF S [] L.length (by rw[q1.len];exact hlt)
      rw[List.length_take,Nat.min_eq_left (by rw[q1.len];omega)]
      exact this.symm
     have hf:=q1.pre (k:=L.length+1) (by omega)
     rw[et]at hf;exact⟨i,by simpa using hi,by rw[if_pos hf];exact((br i hi hf).1 S).2 ⟨q1,et⟩⟩
   ·refine List.pairwise_flatMap.2 ⟨fun i hi=>?_,List.Pairwise.imp_of_mem (fun {i j} hi hj hne S hS S' hS' e=>?_) List.nodup_range⟩
    ·split
     ·rename_i hf;exact(br i (by simpa using hi) hf).2
     ·exact List.Pairwise.nil
    ·subst e
     have hi:i<A.length:=by simpa using hi
     have hj:j<A.length:=by simpa using hj
     split at hS
     ·rename_i hf
      split at hS'
      ·rename_i hf2
       have a:=(((br i hi hf).1 S).1 hS).2
       have b:=(((br j hj hf2).1 S).1 hS').2
       rw[a]at b;have b:=List.append_cancel_left b
       rw[bF _ _ _ hi,bF _ _ _ hj]at b;exact hne ((List.getElem_inj hAn).1 (List.cons.inj b).1)
      ·cases hS'
     ·cases hS
end
section
variable {n:Nat} {t:V8}
theorem qg(G:GrpT n t)(hn:n<=7){p:V7}(h:p∈ab t):isoL n [t] [t] p:=by
 rw[<-lj G hn]at h;have e:bu [t]=n:=G.tb.1
 have:=(((kh (li G hn)).1 p).1 h).2
 rwa[e]at this
theorem kX(G:GrpT n t)(hn:n<=7):(ab t).length<=49:=by rw[<-lj G hn];exact xy G hn
theorem vQ(G:GrpT n t)(hn:n<=7):(ab t).Nodup:=by
 rw[<-lj G hn];exact oJ (kh (li G hn)).2
theorem vR{α β:Type}(F:α->List β)(k:Nat):∀l:List α,(∀x∈l,(F x).length<=k)->(l.flatMap F).length<=l.length*k
 | [],_=>by simp
 |x::l,h=>by
  have:=vR F k l fun y hy=>h y (List.mem_cons_of_mem _ hy)
  have h0:=h x List.mem_cons_self
  simp only[List.flatMap_cons,List.length_append,List.length_cons,Nat.add_mul];omega
end
theorem D4:∀a b:V7,bj a b=true↔bn bQ a b<0
 | [],[]=>by simp[bj,bn]
 | [],_::_=>by simp[bj,bn]
 |_::_,[]=>by simp[bj,bn]
 |x::a,y::b=>by
  simp only[bn,bj];have z:=xG.zero x y
  by_cases e:x=y
  ·rw[if_pos e,if_pos (z.2 e)];exact D4 a b
  ·rw[if_neg e,if_neg fun h=>e (z.1 h)]
   rw[decide_eq_true_eq];unfold bQ;split
   ·simp[*]
   ·split
    ·simp[*]
    ·omega
theorem ot:∀a b:V8,a.length=b.length->(bD a b=true↔eG a b<0)
 | [],[],_=>by simp[bD,eG,bn]
 | [],_::_,h=>by simp at h
 |_::_,[],h=>by simp at h
 |x::a,y::b,h=>by
  have z:=xG.lists.zero x y
  show bD (x::a) (y::b)=true↔(if bn bQ x y=0 then bn (bn bQ) a b else bn bQ x y)<0
  rw[bD];by_cases e:x=y
  ·rw[if_pos e,if_pos (z.2 e)];exact ot a b (by simpa using h)
  ·rw[if_neg e,if_neg fun h=>e (z.1 h)];exact D4 x y
def iQ(l:V9):Prop:=l.Pairwise fun a b=>eG a b<=0
theorem Ma{a b:V9}(ha:iQ a)(hb:iQ b)(h:a.Perm b):a=b :=
 List.Perm.eq_of_pairwise (le:=fun x y=>eG x y<=0) (fun x y _ _ h1 h2=>(dQ.zero x y).1 (by have:=dQ.anti x y;omega)) ha hb h
theorem Mb(out:V9)(c:V8):(fk out c).Perm (c::out):=by
 have h1:(fk out c).Perm (c::(out.take (cu c out)++out.drop (cu c out))):=List.perm_middle
 rwa[List.take_append_drop]at h1
theorem D5(c:V8):∀K:V9,(∀k∈K.take (cu c K),bD k c=true)/\(∀h:cu c K<K.length,bD K[cu c K] c=false)
 | []=>⟨fun k hk=>by simp at hk,fun h=>by simp at h⟩
 |k::K=>by
  rw[cu];by_cases hk:bD k c=true
  ·rw[if_pos hk]
   obtain⟨h1,h2⟩:=D5 c K;refine⟨fun x hx=>?_,fun h=>by simpa using h2 (by simpa using h)⟩
   rw[List.take_succ_cons,List.mem_cons]at hx;rcases hx with rfl|hx
   ·exact hk
   ·exact h1 x hx
  ·rw[if_neg hk]
   exact⟨fun x hx=>by simp at hx,fun _=>by simpa using hk⟩
theorem Mc{n:Nat}{out:V9}{c:V8}(hl:∀k∈out,k.length=n)(hc:c.length=n)(h:iQ out):iQ (fk out c):=by
 obtain⟨h1,h2⟩:=D5 c out;have h0:=h
 rw[iQ,<-List.take_append_drop (cu c out) out,List.pairwise_append]at h0;obtain⟨p1,p2,p3⟩:=h0;have low:∀k∈out.take (cu c out),eG k c<0:=fun k hk=>(ot k c (by rw[hl k (List.mem_of_mem_take hk),hc])).1 (h1 k hk)
 have high:∀k∈out.drop (cu c out),eG c k<=0:=fun k hk=>by
  have hlt:cu c out<out.length:=by
   refine Classical.byContradiction fun hn=>?_
   rw[List.drop_eq_nil_of_le (by omega)]at hk;cases hk
  have hf:=h2 hlt
  have hm:out[cu c out]∈out:=List.getElem_mem hlt
  have ge:eG c out[cu c out]<=0:=by
   have:=ot out[cu c out] c (by rw[hl _ hm,hc])
   have an:=dQ.anti c out[cu c out]
   refine Classical.byContradiction fun hn=>?_
   rw[this.2 (by omega)]at hf;cases hf
  rw[List.drop_eq_getElem_cons hlt]at hk p2;rcases List.mem_cons.1 hk with rfl|hk
  ·exact ge
  ·exact dQ.le _ _ _ ge ((List.pairwise_cons.1 p2).1 k hk)
 rw[iQ,fk,List.pairwise_append];refine⟨p1,List.pairwise_cons.2 ⟨high,p2⟩,fun a ha b hb=>?_⟩
 rcases List.mem_cons.1 hb with rfl|hb
 ·have:=low a ha;omega
 ·exact p3 a ha b hb
theorem D6{n:Nat}:∀(l out:V9),(∀k∈out,k.length=n)->(∀k∈l,k.length=n)->iQ out->iQ (l.foldl fk out)/\(l.foldl fk out).Perm (l++out)
 | [],out,_,_,h=>⟨h,.refl _⟩
 |c::l,out,ho,hl,h=>by
  have hc:=hl c List.mem_cons_self
  obtain⟨a,b⟩:=D6 l (fk out c) (fun k hk=>by
   rcases(E6 out c k).1 hk with rfl|hk
   ·exact hc
   ·exact ho k hk) (fun k hk=>hl k (List.mem_cons_of_mem _ hk)) (Mc ho hc h)
  refine⟨a,b.trans ?_⟩
  refine(List.Perm.append_left l (Mb out c)).trans ?_
  exact List.perm_middle
theorem vS(l:V9):(c7 l).Perm l:=by
 unfold c7;split
 ·rename_i h
  refine((rE l h).map _).trans ?_
  have:(List.finRange l.length).map (fun i=>l.getD i.1 [])=l:=by
   apply List.ext_getElem (by simp)
   intro i h1 h2
   simp
  rw[this]
 ·have:l=[]:=List.eq_nil_of_length_eq_zero (by omega)
  rw[this]
theorem D7(l:V9):iQ (c7 l):=by
 by_cases h:0<l.length
 case neg =>
  unfold c7;rw[dif_neg h];exact List.Pairwise.nil
 letI:Inhabited (Fin l.length):=⟨⟨0,h⟩⟩
 have S:=(Go.Sort.pdq_sorts (fun i j=>decide (gj l i j<0)) (xH l) (List.finRange l.length).toArray 0 (List.finRange l.length).toArray.size (Lib.bitLen (List.finRange l.length).toArray.size) true true (Nat.zero_le _) (Nat.le_refl _) (Or.inl rfl)).2
 have S:∀i j:Nat,i<j->j<l.length->decide (gj l (eM l h)[j]! (eM l h)[i]!<0)=false:=fun i j h1 h2=>S i j (Nat.zero_le _) h1 (by simpa using h2)
 have hS:c7 l=(eM l h).toList.map (fun i=>l.getD i.1 []):=by unfold c7;rw[dif_pos h]
 have sl:(eM l h).toList.length=l.length:=by rw[(rE l h).length_eq];simp
 have sz:(eM l h).size=l.length:=by simpa using sl
 have g:∀i (hi:i<l.length),(eM l h)[i]! = (eM l h).toList[i]'(by omega):=fun i hi=>by
  rw[getElem!_pos (eM l h) i (by omega)];simp
 have hlen:(c7 l).length=l.length:=rF l
 refine List.pairwise_iff_getElem.2 fun i j hi hj hij=>?_
 have e:∀k (hk:k<(c7 l).length),(c7 l)[k]=l.getD ((eM l h)[k]!).1 []:=fun k hk=>by
  rw[g k (by omega)]
  simp[hS]
 have s:=S i j hij (by omega)
 rw[decide_eq_false_iff_not,gj,<-e j hj,<-e i hi]at s;have an:=dQ.anti (c7 l)[i] (c7 l)[j]
 omega
section
variable {n:Nat} {t A:V8}
def fU(A:V8)(K:V7):V8:=K.map fun k=>A.getD k.toNat []
theorem ka{K:V7}{x:Nat}(hx:x<K.length):(fU A K).getD x []=A.getD (K.getD x 0).toNat []:=mF _ _ 0 [] _ hx
theorem Md(ht:ay n t)(hA:AuOk n A){K:V7}(hK:SolK n t A K):bJ t A K=eE t (fU A K):=by
 have e:t.length=n:=ht.1
 rw[bJ,eE,bN];refine List.map_congr_left fun y hy=>?_
 have hy:y<n:=by rw[<-e];exact List.mem_range.1 hy
 have r:=hK.rng y hy
 have al:=hA.len (K.getD y 0).toNat (by omega)
 have row:(fU A K).getD y []=A.getD (K.getD y 0).toNat []:=ka (by rw[hK.len];exact hy)
 refine jn (by rw[gJ,eu,al,e]) fun z hz=>?_
 rw[gJ]at hz;rw[gh hz,eJ _ _ _ (by omega)]
 simp only[en];rw[row]
theorem Me(hA:AuOk n A)(hAn:A.Nodup){K K':V7}(hK:SolK n t A K)(hK':SolK n t A K')(e:fU A K=fU A K'):K=K':=by
 refine jn (by rw[hK.len,hK'.len]) fun x hx=>?_
 rw[hK.len]at hx;have r:=hK.rng x hx
 have r':=hK'.rng x hx
 have a:(fU A K).getD x []=(fU A K').getD x []:=by rw[e]
 rw[ka (by rw[hK.len];exact hx),ka (by rw[hK'.len];exact hx),bF _ _ _ (show(K.getD x 0).toNat<A.length by omega),bF _ _ _ (show(K'.getD x 0).toNat<A.length by omega)]at a
 have:=(List.getElem_inj hAn).1 a
 omega
theorem Mf(ht:ay n t)(hA:AuOk n A){K:V7}(hK:SolK n t A K):SolL n t A (fU A K) where
 len:=by rw[fU,List.length_map];exact hK.len
 mem x hx:=by
  have r:=hK.rng x hx
  rw[ka (by rw[hK.len];exact hx)]
  exact bM A [] _ (by omega)
 fit x y hx hy:=by
  have r:=hK.rng x hx
  have q:=hK.rng y hy
  have z:=lf ht hA hK.ok hx hy r.1
  have w:=mM hA hK.ok hx hy r.1 q.1
  have e:en (fU A K) x y=en A (K.getD x 0).toNat y:=by simp only[en];rw[ka (by rw[hK.len];exact hx)]
  rw[e];have f:=hK.fit x y hx hy
  have z2:=z.2.2
  simp only[bI]at f z2;rw[ka (by rw[hK.len];exact z2),f,ka (by rw[hK.len];exact hy),ka (by rw[hK.len];exact hx),dM,ld,Int.toNat_natCast]
  exact(jx w.1).2
theorem Mg(ht:ay n t)(hA:AuOk n A){L:V8}(hL:SolL n t A L):SolK n t A (L.map fun f=>(dS A f:Int))/\fU A (L.map fun f=>(dS A f:Int))=L:=by
 have g:∀x,x<n->(L.map fun f=>(dS A f:Int)).getD x 0=(dS A (L.getD x []):Int):=fun x hx=>mF _ _ [] 0 _ (by rw[hL.len];exact hx)
 have a:∀x,x<n->A.getD (dS A (L.getD x [])) []=L.getD x []:=fun x hx=>(jx (hL.mem x hx)).2
 refine⟨⟨by rw[List.length_map];exact hL.len,fun x hx=>?_,fun x y hx hy=>?_⟩,?_⟩
 ·rw[g x hx]
  have:=(jx (hL.mem x hx)).1
  omega
 ·have f:=hL.fit x y hx hy
  have e:bI t A (L.map fun f=>(dS A f:Int)) x y=(en t x (en L x y).toNat).toNat:=by
   simp only[bI];rw[g x hx,Int.toNat_natCast];have:en A (dS A (L.getD x [])) y=en L x y:=by simp only[en];rw[a x hx]
   rw[this]
  have zl:(en t x (en L x y).toNat).toNat<n:=by
   obtain⟨j,hj,ej⟩:=List.mem_iff_getElem.1 (hL.mem x hx);have r:=hA.rng j y hj hy
   have e2:en L x y=en A j y:=by simp only[en];rw[<-ej,bF A [] j hj]
   have:=(ht.2 x hx).2 (en L x y).toNat (by omega)
   omega
  rw[e,g _ zl,f,dM,ld,g x hx,g y hy,Int.toNat_natCast,Int.toNat_natCast,a x hx,a y hy]
 ·rw[fU,List.map_map]
  refine List.ext_getElem (by simp) fun x h1 h2=>?_
  have hx:x<n:=by rw[<-hL.len];exact h2
  have:=a x hx
  rw[bF _ [] _ h2]at this
  simpa using this
end
theorem Mh{n:Nat}{t:V8}(G:GrpT n t)(hn:n<=7){L:V8}(hL:SolL n t (ab t) L):L.getD 0 []=dc n:=by
 have h0:=hL.mem 0 G.pos
 have P:=qg G hn h0
 have Z:=iU G P
 have f:=hL.fit 0 0 G.pos G.pos
 have z:(en t 0 (en L 0 0).toNat).toNat=0:=by
  have e:(en L 0 0).toNat=0:=Z
  rw[e];exact G.z1 0 G.pos
 rw[z]at f;have u:(dc n).length=n:=eu _ _
 refine jn (by rw[P.len,u]) fun i hi=>?_
 rw[P.len]at hi;have r:=P.rng i hi
 have q:(L.getD 0 []).getD i 0=(aY (L.getD 0 []) (L.getD 0 [])).getD i 0:=congrArg (fun l:V7=>l.getD i 0) f
 rw[gh (by rw[P.len];exact hi)]at q
 have:=oA P.nd (i:=((L.getD 0 []).getD i 0).toNat) (j:=i) (by rw[P.len];omega) (by rw[P.len];exact hi) q.symm
 rw[dc,eJ _ _ _ hi];omega
theorem qh{n:Nat}{t:V8}(G:GrpT n t)(hn:n<=7):c7 (cj t (ab t) 9 [] [])=aD t (ab t):=by
 have e:t.length=n:=G.tb.1
 have hlen:=kX G hn
 obtain⟨hA,_⟩:=mP G.tb G.pos (by omega)
 have hAn:=vQ G hn
 have hA0:(ab t).getD 0 []=dc n:=by rw[ry G.tb G.pos (by omega)];exact(xj G.tb G.pos).2
 have z0:Z0 n ((List.replicate t.length (-1)).set 0 0):=by rw[e];exact wV
 have ng:=E9 G.pos
 obtain⟨k1,k2⟩:=FR G.tb hA 12 ((List.replicate t.length (-1)).set 0 0) (z0.ok hA) (by rw[e];omega) (fun hz=>by
  have n1:n=1:=by rw[e]at hz;omega
  have r0:=hA.pos
  refine⟨z0.1,fun x hx=>?_,fun x y hx hy=>?_⟩
  ·have x0:x=0:=by omega
   subst x0;rw[fE (by rw[List.length_replicate,e];omega),if_pos rfl];omega
  ·have v:=lf G.tb hA (z0.ok hA) hx hy (by
    have x0:x=0:=by omega
    subst x0;rw[fE (by rw[List.length_replicate,e];omega),if_pos rfl];omega)
   have zz:bI t (ab t) ((List.replicate t.length (-1)).set 0 0) x y=0:=by omega
   have x0:x=0:=by omega
   have y0:y=0:=by omega
   rw[zz,dM,x0,y0,fE (by rw[List.length_replicate,e];omega),if_pos rfl]
   have:=(mP G.tb G.pos (by omega)).2
   omega)
 obtain⟨l1,l2⟩:=qf G.tb hA hAn 9 [] (Nat.zero_le _) (by simp;omega) (fun r hr=>by cases hr) (fun h=>by have:=G.pos;simp at h;omega)
 have perm:((eW t (ab t) 12 ((List.replicate t.length (-1)).set 0 0)).map (fU (ab t))).Perm (ia t (ab t) 9 []):=by
  refine(List.perm_ext_iff_of_nodup (List.pairwise_map.2 (List.Pairwise.imp_of_mem (fun {K K'} hK hK' hne h=>hne (Me hA hAn ((k1 K).1 hK).1 ((k1 K').1 hK').1 h)) k2)) l2).2 fun L=>?_
  rw[List.mem_map,l1]
  constructor
  ·rintro⟨K,hK,rfl⟩
   exact⟨Mf G.tb hA ((k1 K).1 hK).1,rfl⟩
  ·rintro⟨hL,_⟩
   obtain⟨b1,b2⟩:=Mg G.tb hA hL;refine⟨_,(k1 _).2 ⟨b1,fun x hx h0=>?_⟩,b2⟩
   by_cases x0:x=0
   ·subst x0
    rw[fE (by rw[List.length_replicate,e];omega),if_pos rfl,mF _ _ [] 0 _ (by rw[hL.len];exact hx),Mh G hn hL,<-hA0]
    have:=Ho hAn (i:=0) hA.pos
    omega
   ·rw[fE (by rw[List.length_replicate,e];omega),if_neg x0]at h0
    simp[List.getD,e,hx]at h0
 have cl:∀L,(eE t L).length=n:=fun L=>by rw[eE,nt,e]
 have tl:∀K,(bJ t (ab t) K).length=n:=fun K=>by simp[bJ,e]
 obtain⟨s1,s2⟩:=D6 (n:=n) ((eW t (ab t) 12 ((List.replicate t.length (-1)).set 0 0)).map (bJ t (ab t))) [] (fun k hk=>by cases hk) (fun k hk=>by
  obtain⟨K,_,rfl⟩:=List.mem_map.1 hk;exact tl K) List.Pairwise.nil
 rw[aD,xE];refine Ma (D7 _) s1 ((vS _).trans (.trans ?_ s2.symm))
 rw[qd,List.nil_append,List.append_nil];have:(eW t (ab t) 12 ((List.replicate t.length (-1)).set 0 0)).map (bJ t (ab t))=((eW t (ab t) 12 ((List.replicate t.length (-1)).set 0 0)).map (fU (ab t))).map (eE t):=by
  rw[List.map_map];exact List.map_congr_left fun K hK=>Md G.tb hA ((k1 K).1 hK).1
 rw[this];exact(perm.map _).symm
section
variable {n:Nat} {t A:V8}
def aL(A:V8)(K:V7)(x:Nat):V7:=A.getD (K.getD x 0).toNat []
structure ClK (n:Nat) (t A:V8) (K:V7):Prop where
 ok:KOk n A.length K
 calm:∀x,x<n->∀y,y<n->oB t A K x y
 zero:0<=K.getD 0 0
theorem iR(K:V7)(x y:Nat):bI t A K x y=gM t x (ap (aL A K x) y):=rfl
theorem qi{K:V7}(hK:KOk n A.length K){x:Nat}(hx:x<n)(h:0<=K.getD x 0):aL A K x∈A:=by
 have:=hK.rng x hx
 exact bM A [] _ (by omega)
theorem D8{p q:V7}{i:Nat}(hi:i<p.length):ap (aY p q) i=ap q (ap p i):=by
 simp only[ap];rw[gh hi]
theorem ClK.mem(G:GrpT n t)(hA:AuOk n A)(hi:∀p∈A,isoL n [t] [t] p){K:V7}(h:ClK n t A K){x y:Nat}(hx:x<n)(hy:y<n)(kx:0<=K.getD x 0)(ky:0<=K.getD y 0) :
  bI t A K x y<n/\0<=K.getD (bI t A K x y) 0/\aL A K (bI t A K x y)=aY (aL A K y) (aL A K x):=by
 have z:=lf G.tb hA h.ok hx hy kx
 rcases h.calm x hx y hy with c|c|c
 ·omega
 ·omega
 ·refine⟨z.2.2,c.1,?_⟩
  have w:=mM hA h.ok hx hy kx ky
  rw[aL,c.2,dM,ld,Int.toNat_natCast];exact(jx w.1).2
theorem ClK.assoc(G:GrpT n t)(hA:AuOk n A)(hi:∀p∈A,isoL n [t] [t] p){K:V7}(h:ClK n t A K){x y w:Nat}(hx:x<n)(hy:y<n)(hw:w<n)(kx:0<=K.getD x 0)(ky:0<=K.getD y 0) :
  bI t A K (bI t A K x y) w=bI t A K x (bI t A K y w):=by
 obtain⟨z1,z2,z3⟩:=h.mem G hA hi hx hy kx ky;have px:=hi _ (qi h.ok hx kx)
 have py:=hi _ (qi h.ok hy ky)
 rw[iR K (bI t A K x y) w,z3,D8 (by rw[py.len];exact hw),iR K x (bI t A K y w),iR K y w,iR K x y,jt G px hy (fl py hw)]
 exact G.asc x _ _ hx (fl px hy) (fl px (fl py hw))
theorem ClK.can(G:GrpT n t)(hi:∀p∈A,isoL n [t] [t] p){K:V7}(h:ClK n t A K){x y w:Nat}(hx:x<n)(hy:y<n)(hw:w<n)(kx:0<=K.getD x 0)(e:bI t A K x y=bI t A K x w):y=w:=by
 have px:=hi _ (qi h.ok hx kx)
 rw[iR,iR]at e;have e:=G.can x _ _ hx (fl px hy) (fl px hw) e
 have a:=px.rng y hy
 have b:=px.rng w hw
 simp only[ap]at e;exact oA px.nd (by rw[px.len];exact hy) (by rw[px.len];exact hw) (by omega)
def eA(n:Nat)(K:V7):List Nat:=(List.range n).filter fun x=>decide (0<=K.getD x 0)
theorem eK{K:V7}{x:Nat}:x∈eA n K↔x<n/\0<=K.getD x 0:=by simp[eA]
theorem qj(n:Nat)(K:V7):(eA n K).Nodup:=List.nodup_range.filter _
theorem D9{a b:List Nat}(ha:a.Nodup)(h:∀x∈a,x∈b):a.length<=b.length:=by
 have:=lL (a:=a.map (fun x:Nat=>(x:Int))) (b:=b.map (fun x:Nat=>(x:Int))) (List.pairwise_map.2 (ha.imp fun hne e=>hne (by omega))) (fun x hx=>by
  obtain⟨y,hy,rfl⟩:=List.mem_map.1 hx;exact List.mem_map.2 ⟨y,h y hy,rfl⟩)
 simpa using this
theorem ClK.inv(G:GrpT n t)(hA:AuOk n A)(hi:∀p∈A,isoL n [t] [t] p){K:V7}(h:ClK n t A K){x:Nat}(hx:x<n)(kx:0<=K.getD x 0):∃y,y<n/\0<=K.getD y 0/\bI t A K x y=0:=by
 refine Classical.byContradiction fun hno=>?_
 have nd:(0::(eA n K).map (bI t A K x)).Nodup:=by
  refine List.nodup_cons.2 ⟨fun hm=>?_,List.pairwise_map.2 (List.Pairwise.imp_of_mem (fun {a b} ha hb hne e=>hne (h.can G hi hx (eK.1 ha).1 (eK.1 hb).1 kx e)) (qj n K))⟩
  obtain⟨y,hy,e⟩:=List.mem_map.1 hm;exact hno ⟨y,(eK.1 hy).1,(eK.1 hy).2,e⟩
 have:=D9 nd (b:=eA n K) (fun y hy=>by
  rcases List.mem_cons.1 hy with rfl|hy
  ·exact eK.2 ⟨G.pos,h.zero⟩
  ·obtain⟨z,hz,rfl⟩:=List.mem_map.1 hy
   have q:=h.mem G hA hi hx (eK.1 hz).1 kx (eK.1 hz).2
   exact eK.2 ⟨q.1,q.2.1⟩)
 rw[List.length_cons,List.length_map]at this;omega
theorem ClK.dbl(G:GrpT n t)(hA:AuOk n A)(hi:∀p∈A,isoL n [t] [t] p){K K':V7}(h:ClK n t A K)(h':ClK n t A K')(hs:cI n K K'){p:Nat}(hp:p<n)(kp:¬ 0<=K.getD p 0)(kp':0<=K'.getD p 0) :
  2*(eA n K).length<=(eA n K').length:=by
 have up:∀x,x<n->0<=K.getD x 0->0<=K'.getD x 0:=fun x hx k=>by rw[hs x hx k];exact k
 have zz:∀x y,x<n->0<=K.getD x 0->bI t A K' x y=bI t A K x y:=fun x y hx k=>by rw[iR,iR,aL,aL,hs x hx k]
 have nd:(eA n K++(eA n K).map (bI t A K' p)).Nodup:=by
  rw[List.nodup_append];refine⟨qj n K,List.pairwise_map.2 (List.Pairwise.imp_of_mem (fun {a b} ha hb hne e=>hne (h'.can G hi hp (eK.1 ha).1 (eK.1 hb).1 kp' e)) (qj n K)),fun a ha b hb e=>?_⟩
  obtain⟨s,hs1,rfl⟩:=List.mem_map.1 hb;obtain⟨a1,a2⟩:=eK.1 ha;obtain⟨s1,s2⟩:=eK.1 hs1;obtain⟨y,y1,y2,y3⟩:=h.inv G hA hi s1 s2;have has:=h'.assoc G hA hi hp s1 y1 kp' (up s s1 s2)
  rw[<-e,zz s y s1 s2,y3,zz a y a1 a2,iR K' p 0,iU G (hi _ (qi h'.ok hp kp')),G.z2 p hp]at has;have:=(h.mem G hA hi a1 y1 a2 y2).2.1
  rw[has]at this;exact kp this
 have:=D9 nd (b:=eA n K') (fun x hx=>by
  rcases List.mem_append.1 hx with hx|hx
  ·obtain⟨x1,x2⟩:=eK.1 hx
   exact eK.2 ⟨x1,up x x1 x2⟩
  ·obtain⟨s,hs1,rfl⟩:=List.mem_map.1 hx
   obtain⟨s1,s2⟩:=eK.1 hs1;have q:=h'.mem G hA hi hp s1 kp' (up s s1 s2)
   exact eK.2 ⟨q.1,q.2.1⟩)
 simp only[List.length_append,List.length_map]at this;omega
theorem Mi(n:Nat)(K:V7):(eA n K).length<=n:=xw n _ (qj n K) fun x hx=>(eK.1 hx).1
theorem Ea(G:GrpT n t)(hA:AuOk n A)(hi:∀p∈A,isoL n [t] [t] p):∀(d j:Nat) (K:V7),ClK n t A K->n<2 ^ (j+1)*(eA n K).length->(eW t A d K).length<=A.length ^ j
 |0,j,K,_,_=>Nat.zero_le _
 |d+1,j,K,hK,hj=>by
  rw[eW];by_cases hp:aC K=K.length
  ·rw[if_pos hp]
   exact Nat.one_le_pow j _ hA.pos
  ·rw[if_neg hp]
   have hlt:aC K<K.length:=by have:=mN K;omega
   have hneg:=qN K hlt
   have hpn:aC K<n:=by rw[<-hK.ok.len];exact hlt
   have br:∀i,i<A.length->∀K',c6 t A (K.set (aC K) (i:Int))=some K'->ClK n t A K'/\2*(eA n K).length<=(eA n K').length:=fun i hi' K' h=>by
    have hset:=hK.ok.set (aC K) (w:=(i:Int)) ⟨by omega,by omega⟩
    have g1:=(lg G.tb hA hK.ok hlt hi' h).1
    have hfu:aA (K.set (aC K) (i:Int))<t.length+1:=by
     have:=wO (K.set (aC K) (i:Int))
     rw[hset.len]at this;rw[G.tb.1];omega
    obtain⟨f1,f2⟩:=xD G.tb hA _ hset hfu h;have sub:cI n K K':=fun x hx h0=>by
     have ne:x≠aC K:=fun e=>by rw[e]at h0;omega
     have e:=fE (x:=x) (w:=(i:Int)) hlt
     rw[if_neg ne]at e;rw[f1 x hx (by rw[e];exact h0),e]
    have kp:0<=K'.getD (aC K) 0:=by
     have e:=fE (x:=aC K) (w:=(i:Int)) hlt
     rw[if_pos rfl]at e;rw[f1 _ hpn (by rw[e];omega),e];omega
    have c:ClK n t A K':=⟨g1,f2,by rw[sub 0 G.pos hK.zero];exact hK.zero⟩
    exact⟨c,hK.dbl G hA hi c sub hpn (by omega) kp⟩
   cases j with
   |zero =>
    have none:∀i∈List.range A.length,(match c6 t A (K.set (aC K) (i:Int))with|none=>[]|some K'=>eW t A d K').length<=0:=fun i hi'=>by
     split
     ·exact Nat.le_refl _
     ·rename_i K' h
      obtain⟨_,b⟩:=br i (by simpa using hi') K' h
      have:=Mi n K'
      simp only[Nat.zero_add,Nat.pow_one]at hj;omega
    exact Nat.le_trans (vR _ 0 _ none) (by omega)
   |succ j =>
    have:=vR (fun i:Nat=>match c6 t A (K.set (aC K) (i:Int))with|none=>[]|some K'=>eW t A d K') (A.length ^ j) (List.range A.length) (fun i hi'=>by
     split
     ·exact Nat.zero_le _
     ·rename_i K' h
      obtain⟨c,b⟩:=br i (by simpa using hi') K' h
      refine Ea G hA hi d j K' c ?_
      have e:2 ^ (j+1+1)*(eA n K).length=2 ^ (j+1)*(2*(eA n K).length):=by rw[Nat.pow_succ 2 (j+1),Nat.mul_assoc]
      have l:2 ^ (j+1)*(2*(eA n K).length)<=2 ^ (j+1)*(eA n K').length:=Nat.mul_le_mul_left _ b
      omega)
    rw[List.length_range,Nat.mul_comm,<-Nat.pow_succ]at this;exact this
end
theorem Eb:∀(l out:V9),(l.foldl fk out).length=l.length+out.length
 | [],out=>by simp
 |c::l,out=>by
  rw[List.foldl_cons,Eb l,E5];simp;omega
theorem qk{n:Nat}{t:V8}(G:GrpT n t)(hn:n<=7):(aD t (ab t)).length<=2401:=by
 have e:t.length=n:=G.tb.1
 have hlen:=kX G hn
 have hpos:=G.pos
 obtain⟨hA,h0⟩:=mP G.tb G.pos (by omega)
 have hA0:(ab t).getD 0 []=dc n:=by rw[ry G.tb G.pos (by omega)];exact(xj G.tb G.pos).2
 have z0:Z0 n ((List.replicate t.length (-1)).set 0 0):=by rw[e];exact wV
 have get:∀x,x<n->((List.replicate t.length (-1)).set 0 0).getD x 0=if x=0 then 0 else -1:=fun x hx=>by
  rw[fE (by rw[List.length_replicate,e];omega)]
  split
  ·rfl
  ·simp[List.getD,e,hx]
 have cl:ClK n t (ab t) ((List.replicate t.length (-1)).set 0 0):=by
  refine⟨z0.ok hA,fun x hx y hy=>?_,by rw[get 0 hpos];simp⟩
  by_cases x0:x=0
  ·by_cases y0:y=0
   ·subst x0;subst y0
    have g0:=get 0 hpos
    rw[if_pos rfl]at g0;have z:bI t (ab t) ((List.replicate t.length (-1)).set 0 0) 0 0=0:=by
     rw[iR,aL,g0];have:(0:Int).toNat=0:=rfl
     rw[this,hA0];have:ap (dc n) 0=0:=by rw[ap,dc,eJ _ _ _ hpos];rfl
     rw[this,G.z1 0 hpos]
    refine .inr (.inr ⟨by rw[z,g0];omega,by rw[z,g0,dM,g0,h0];rfl⟩)
   ·exact .inr (.inl (by rw[get y hy,if_neg y0];omega))
  ·exact .inl (by rw[get x hx,if_neg x0];omega)
 have one:1<=(eA n ((List.replicate t.length (-1)).set 0 0)).length:=List.length_pos_of_mem (eK.2 ⟨hpos,by rw[get 0 hpos];simp⟩)
 have:=Ea G hA (fun p hp=>qg G hn hp) 12 2 _ cl (by omega)
 rw[aD,xE,Eb,List.length_map,List.length_nil,Nat.add_zero];have q:(ab t).length ^ 2<=49 ^ 2:=Nat.pow_le_pow_left hlen 2
 omega
structure IsP (n:Nat) (p:V7):Prop where
 len:p.length=n
 rng:∀i,i<n->0<=p.getD i 0/\p.getD i 0<(n:Int)
 nd:p.Nodup
theorem isoL.p{n:Nat}{a b:V9}{p:V7}(h:isoL n a b p):IsP n p:=⟨h.len,h.rng,h.nd⟩
section
variable {n:Nat} {p:V7}
theorem IsP.lt(h:IsP n p){x:Nat}(hx:x<n):ap p x<n:=by have:=h.rng x hx;simp only[ap];omega
theorem IsP.int(h:IsP n p){x:Nat}(hx:x<n):p.getD x 0=(ap p x:Int):=by have:=h.rng x hx;simp only[ap];omega
theorem IsP.inj(h:IsP n p){x y:Nat}(hx:x<n)(hy:y<n)(e:ap p x=ap p y):x=y:=by
 have a:=h.rng x hx
 have b:=h.rng y hy
 simp only[ap]at e;exact oA h.nd (by rw[h.len];exact hx) (by rw[h.len];exact hy) (by omega)
theorem IsP.onto(h:IsP n p){x:Nat}(hx:x<n):∃k,k<n/\ap p k=x:=by
 have:=(sH (fun x hx=>h.lt hx) (fun x y hx hy e=>h.inj hx hy e)).mem_iff (a:=x)
 have:=this.2 (List.mem_range.2 hx)
 obtain⟨k,hk,e⟩:=List.mem_map.1 this;exact⟨k,List.mem_range.1 hk,e⟩
theorem vT(h:IsP n p):∀(i k:Nat),i<=n->k<i->(eU p i).getD (ap p k) 0=(k:Int)
 |0,_,_,hk=>by omega
 |i+1,k,hi,hk=>by
  have rk:=h.lt (x:=k) (by omega)
  have e0:(p.getD i 0).toNat=ap p i:=rfl
  rw[eU,hZ _ _ _ _ (by rw[mL,h.len];omega),e0]
  by_cases e:k=i
  ·rw[e,if_pos rfl]
  ·rw[if_neg fun q=>e (h.inj (by omega) (by omega) q)]
   exact vT h i k (by omega) (by omega)
theorem IsP.back(h:IsP n p){k:Nat}(hk:k<n):ap (cD p) (ap p k)=k:=by
 have:=vT h n k (Nat.le_refl _) hk
 rw[ap,cD,h.len,this];rfl
theorem IsP.bk(h:IsP n p):IsP n (cD p):=by
 have hl:(cD p).length=n:=by rw[cD,mL,h.len]
 have at':∀k,k<n->(cD p).getD (ap p k) 0=(k:Int):=fun k hk=>by rw[cD,h.len];exact vT h n k (Nat.le_refl _) hk
 refine⟨hl,fun i hi=>?_,?_⟩
 ·obtain⟨k,hk,rfl⟩:=h.onto hi
  rw[at' k hk];omega
 ·refine List.pairwise_iff_getElem.2 fun i j hi hj hij e=>?_
  rw[hl]at hi hj;obtain⟨k,hk,rfl⟩:=h.onto hi;obtain⟨l,hl2,rfl⟩:=h.onto hj;have a:=at' k hk
  have b:=at' l hl2
  rw[bF _ _ _ (by omega)]at a b
  have:k=l:=by omega
  subst this;omega
theorem IsP.th{q:V7}(h:IsP n p)(k:IsP n q):IsP n (aY p q):=by
 have hl:(aY p q).length=n:=by rw[gJ,h.len]
 have g:∀i,i<n->(aY p q).getD i 0=(ap q (ap p i):Int):=fun i hi=>by
  rw[gh (by rw[h.len];exact hi)]
  exact k.int (h.lt hi)
 refine⟨hl,fun i hi=>?_,?_⟩
 ·have:=k.lt (h.lt hi)
  rw[g i hi];omega
 ·refine List.pairwise_iff_getElem.2 fun i j hi hj hij e=>?_
  rw[hl]at hi hj;have a:=g i hi
  have b:=g j hj
  rw[bF _ _ _ (by omega)]at a b
  have:=h.inj hi hj (k.inj (h.lt hi) (h.lt hj) (by omega))
  omega
theorem jo{q:V7}(h:IsP n p){i:Nat}(hi:i<n):ap (aY p q) i=ap q (ap p i):=D8 (by rw[h.len];exact hi)
end
theorem Mj{n:Nat}{a b:V8}(ha:ay n a)(hb:ay n b)(h:∀x y,x<n->y<n->en a x y=en b x y):a=b:=by
 refine List.ext_getElem (by rw[ha.1,hb.1]) fun x h1 h2=>?_
 rw[ha.1]at h1;have ra:=(ha.2 x h1).1
 have rb:=(hb.2 x h1).1
 rw[bF _ _ _ (by rw[ha.1];exact h1)]at ra
 rw[bF _ _ _ (by rw[hb.1];exact h1)]at rb
 refine jn (by omega) fun y hy=>?_
 have:=h x y h1 (by omega)
 simp only[en]at this
 rwa[bF a _ _ (by rw[ha.1];exact h1),bF b _ _ (by rw[hb.1];exact h1)]at this
theorem Ec{n:Nat}{F:Nat->Nat->Int}(h:∀x y,x<n->y<n->0<=F x y/\F x y<(n:Int)):ay n (bN n F):=by
 refine⟨nt _ _,fun x hx=>⟨by rw[oZ _ _ _ hx,eu],fun y hy=>?_⟩⟩
 simp only[en];rw[oZ _ _ _ hx,eJ _ _ _ hy];exact h x y hx hy
theorem Ed{n:Nat}{F:Nat->Nat->Int}{x y:Nat}(hx:x<n)(hy:y<n):en (bN n F) x y=F x y:=by
 simp only[en];rw[oZ _ _ _ hx,eJ _ _ _ hy]
structure ImO (n:Nat) (t:V8) (p:V7) (c:V8):Prop where
 tb:ay n c
 eq:∀x y,x<n->y<n->en c (ap p x) (ap p y)=p.getD (gM t x y) 0
theorem ImO.uniq{n:Nat}{t c d:V8}{p:V7}(hp:IsP n p)(h:ImO n t p c)(k:ImO n t p d):c=d:=by
 refine Mj h.tb k.tb fun x y hx hy=>?_
 obtain⟨a,ha,rfl⟩:=hp.onto hx;obtain⟨b,hb,rfl⟩:=hp.onto hy;rw[h.eq a b ha hb,k.eq a b ha hb]
theorem mH{n:Nat}{t:V8}(ht:ay n t){x y:Nat}(hx:x<n)(hy:y<n):gM t x y<n:=by
 have:=(ht.2 x hx).2 y hy
 simp only[gM];omega
theorem ImO.th{n:Nat}{t c d:V8}{p q:V7}(hp:IsP n p)(hq:IsP n q)(ht:ay n t)(h:ImO n t p c)(k:ImO n c q d):ImO n t (aY p q) d:=⟨k.tb,fun x y hx hy=>by
 have e:=h.eq x y hx hy
 have l:=mH ht hx hy
 rw[jo hp hx,jo hp hy,k.eq _ _ (hp.lt hx) (hp.lt hy),(hp.th hq).int l,jo hp l];rw[hq.int (mH h.tb (hp.lt hx) (hp.lt hy))]
 congr 2
 rw[gM,e];rfl⟩
theorem ImO.back{n:Nat}{t c:V8}{p:V7}(hp:IsP n p)(ht:ay n t)(h:ImO n t p c):ImO n c (cD p) t:=⟨ht,fun x y hx hy=>by
 obtain⟨a,ha,rfl⟩:=hp.onto hx;obtain⟨b,hb,rfl⟩:=hp.onto hy;have v:=(ht.2 a ha).2 b hb
 have l:=mH ht ha hb
 have e:=h.eq a b ha hb
 have g:gM c (ap p a) (ap p b)=ap p (gM t a b):=by rw[gM,e];rfl
 rw[hp.back ha,hp.back hb,g,hp.bk.int (hp.lt l),hp.back l,gM];omega⟩
def eC(t:V8)(p:V7):V8:=bN t.length fun x y=>p.getD (en t ((cD p).getD x 0).toNat ((cD p).getD y 0).toNat).toNat 0
theorem Ee{n:Nat}{t:V8}{p:V7}(ht:ay n t)(hp:IsP n p):ImO n t p (eC t p):=by
 have e:t.length=n:=ht.1
 have el:∀x y,x<n->y<n->en t ((cD p).getD x 0).toNat ((cD p).getD y 0).toNat=en t (ap (cD p) x) (ap (cD p) y):=fun _ _ _ _=>rfl
 refine⟨?_,fun x y hx hy=>?_⟩
 ·rw[eC,e]
  exact Ec fun x y hx hy=>hp.rng _ (mH ht (hp.bk.lt hx) (hp.bk.lt hy))
 ·rw[eC,e,Ed (hp.lt hx) (hp.lt hy),el _ _ (hp.lt hx) (hp.lt hy),hp.back hx,hp.back hy,gM]
/- The reference's image. -/
section
variable {n:Nat} {t:V8} {p:V7}
theorem Ef{o:V8}(ho:ay n o){i j x y:Nat}(hi:i<n)(hj:j<n){v:Int}:en (o.set i ((o.getD i []).set j v)) x y=if x=i/\y=j then v else en o x y:=by
 simp only[en];by_cases hx:x=i
 ·subst hx
  have e:(o.set x ((o.getD x []).set j v)).getD x []=(o.getD x []).set j v:=by
   rw[List.getD_eq_getElem?_getD,List.getElem?_set_self (by rw[ho.1];exact hi)];rfl
  rw[e];by_cases hy:y=j
  ·subst hy
   rw[if_pos ⟨rfl,rfl⟩,List.getD_eq_getElem?_getD,List.getElem?_set_self (by rw[(ho.2 x hi).1];exact hj)];rfl
  ·rw[if_neg fun h=>hy h.2,List.getD_eq_getElem?_getD,List.getElem?_set_ne (Ne.symm hy),<-List.getD_eq_getElem?_getD]
 ·rw[if_neg fun h=>hx h.1]
  have e:(o.set i ((o.getD i []).set j v)).getD x []=o.getD x []:=by
   rw[List.getD_eq_getElem?_getD,List.getElem?_set_ne (Ne.symm hx),<-List.getD_eq_getElem?_getD]
  rw[e]
theorem Mk{o:V8}(ho:ay n o){i j:Nat}(hi:i<n)(hj:j<n){v:Int}(hv:0<=v/\v<(n:Int)):ay n (o.set i ((o.getD i []).set j v)):=by
 refine⟨by rw[List.length_set];exact ho.1,fun x hx=>⟨?_,fun y hy=>?_⟩⟩
 ·by_cases hxi:x=i
  ·subst hxi
   have e:(o.set x ((o.getD x []).set j v)).getD x []=(o.getD x []).set j v:=by
    rw[List.getD_eq_getElem?_getD,List.getElem?_set_self (by rw[ho.1];exact hi)];rfl
   rw[e,List.length_set];exact(ho.2 x hi).1
  ·have e:(o.set i ((o.getD i []).set j v)).getD x []=o.getD x []:=by
    rw[List.getD_eq_getElem?_getD,List.getElem?_set_ne (Ne.symm hxi),<-List.getD_eq_getElem?_getD]
   rw[e];exact(ho.2 x hx).1
 ·rw[Ef ho hi hj]
  split
  ·exact hv
  ·exact(ho.2 x hx).2 y hy
theorem Eg(ht:ay n t)(hp:IsP n p){x:Nat}(hx:x<n){o:V8}(ho:ay n o):∀y,y<=n->ay n (eS t p x y o) /\
  ∀a b,a<n->b<n->en (eS t p x y o) (ap p a) (ap p b)=if a=x/\b<y then p.getD (gM t a b) 0 else en o (ap p a) (ap p b)
 |0,_=>⟨ho,fun a b _ _=>by rw[if_neg (by omega)];rfl⟩
 |y+1,hy=>by
  obtain⟨h1,h2⟩:=Eg ht hp hx ho y (by omega)
  have e1:(p.getD x 0).toNat=ap p x:=rfl
  have e2:(p.getD y 0).toNat=ap p y:=rfl
  have e3:((t.getD x []).getD y 0).toNat=gM t x y:=rfl
  have st:eS t p x (y+1) o=(eS t p x y o).set (ap p x) (((eS t p x y o).getD (ap p x) []).set (ap p y) (p.getD (gM t x y) 0)):=rfl
  rw[st];have lx:=hp.lt hx
  have ly:=hp.lt (x:=y) (by omega)
  refine⟨Mk h1 lx ly (hp.rng _ (mH ht hx (by omega))),fun a b ha hb=>?_⟩
  rw[Ef h1 lx ly];by_cases hab:ap p a=ap p x/\ap p b=ap p y
  ·have ea:=hp.inj ha hx hab.1
   have eb:=hp.inj hb (by omega) hab.2
   subst ea;subst eb;rw[if_pos hab,if_pos ⟨rfl,by omega⟩]
  ·rw[if_neg hab,h2 a b ha hb]
   by_cases hc:a=x/\b<y
   ·rw[if_pos hc,if_pos ⟨hc.1,by omega⟩]
   ·rw[if_neg hc,if_neg]
    rintro⟨h3,h4⟩
    subst h3;have:b=y:=by omega
    subst this;exact hab ⟨rfl,rfl⟩
theorem vU(ht:ay n t)(hp:IsP n p):∀X,X<=n->ay n (bz t p X)/\∀a b,a<X->b<n->en (bz t p X) (ap p a) (ap p b)=p.getD (gM t a b) 0
 |0,_=>⟨ht,fun a b h=>by omega⟩
 |X+1,hX=>by
  obtain⟨h1,h2⟩:=vU ht hp X (by omega)
  have e:t.length=n:=ht.1
  obtain⟨k1,k2⟩:=Eg ht hp (x:=X) (by omega) h1 n (Nat.le_refl _)
  have st:bz t p (X+1)=eS t p X n (bz t p X):=by rw[bz,e]
  rw[st];refine⟨k1,fun a b ha hb=>?_⟩
  rw[k2 a b (by omega) hb]
  by_cases hc:a=X
  ·rw[if_pos ⟨hc,hb⟩]
  ·rw[if_neg fun h=>hc h.1];exact h2 a b (by omega) hb
theorem gH(ht:ay n t)(hp:IsP n p):ImO n t p (bz t p n):=⟨(vU ht hp n (Nat.le_refl _)).1,(vU ht hp n (Nat.le_refl _)).2⟩
theorem Eh(ht:ay n t)(hp:IsP n p):eC t p=bz t p n:=(Ee ht hp).uniq hp (gH ht hp)
end
/- Automorphisms. -/
section
variable {n:Nat} {t:V8}
theorem gb(G:GrpT n t)(hn:n<=7){p:V7}:p∈ab t↔isoL n [t] [t] p:=by
 have hl:=kX G hn
 rw[ry G.tb G.pos (by omega),lA (lh G.tb) G.pos]
 refine⟨fun h=>h.1,fun h=>⟨h,?_⟩⟩
 have z:=iU G h
 have:=h.rng 0 G.pos
 simp only[ap]at z;omega
theorem Ml(G:GrpT n t){p:V7}(hp:IsP n p)(h:∀x y,x<n->y<n->ap p (gM t x y)=gM t (ap p x) (ap p y)):isoL n [t] [t] p:=by
 refine⟨hp.len,hp.rng,hp.nd,fun k x y hk hx hy hv=>?_⟩
 have k0:k=0:=by simp at hk;omega
 subst k0;rw[hp.len]at hx hy;have e:[t].getD 0 []=t:=rfl
 rw[e]at hv⊢;have v:=(G.tb.2 x hx).2 y hy
 have q:=h x y hx hy
 have l:=hp.rng _ (mH G.tb hx hy)
 have r:=(G.tb.2 _ (hp.lt hx)).2 _ (hp.lt hy)
 show p.getD (gM t x y) 0=en t (ap p x) (ap p y)
 simp only[gM]at q l⊢;simp only[ap]at q r⊢;omega
theorem vV(G:GrpT n t){p:V7}(h:isoL n [t] [t] p):isoL n [t] [t] (cD p):=by
 have P:=h.p
 refine Ml G P.bk fun x y hx hy=>?_
 obtain⟨a,ha,rfl⟩:=P.onto hx;obtain⟨b,hb,rfl⟩:=P.onto hy;rw[<-jt G h ha hb,P.back (G.lt ha hb),P.back ha,P.back hb]
theorem vW(G:GrpT n t)(hn:n<=7){L:V8}(hL:SolL n t (ab t) L):ay n (eE t L):=by
 rw[eE,G.tb.1];refine Ec fun x y hx hy=>?_
 have P:=((gb G hn).1 (hL.mem x hx)).p
 exact(G.tb.2 x hx).2 _ (P.lt hy)
theorem ql(G:GrpT n t){L:V8}{x y:Nat}(hx:x<n)(hy:y<n):gM (eE t L) x y=gM t x (ap (L.getD x []) y):=by
 rw[gM,eE,G.tb.1,Ed hx hy];rfl
theorem vX(G:GrpT n t)(hn:n<=7){c:V8}:c∈aD t (ab t)↔∃L,SolL n t (ab t) L/\c=eE t L:=by
 have hlen:=kX G hn
 obtain⟨hA,_⟩:=mP G.tb G.pos (by omega)
 obtain⟨l1,l2⟩:=qf G.tb hA (vQ G hn) 9 [] (Nat.zero_le _) (by simp;omega) (fun r hr=>by cases hr) (fun h=>by have:=G.pos;simp at h;omega)
 rw[<-qh G hn,(vS _).mem_iff,qd,List.nil_append,List.mem_map]
 constructor
 ·rintro⟨L,h1,h2⟩;exact⟨L,((l1 L).1 h1).1,h2.symm⟩
 ·rintro⟨L,h1,h2⟩;exact⟨L,(l1 L).2 ⟨h1,rfl⟩,h2.symm⟩
theorem Mm(G:GrpT n t)(hn:n<=7){L M:V8}(hL:SolL n t (ab t) L)(hM:SolL n t (ab t) M)(e:eE t L=eE t M):L=M:=by
 refine List.ext_getElem (by rw[hL.len,hM.len]) fun x h1 h2=>?_
 rw[hL.len]at h1;have PL:=((gb G hn).1 (hL.mem x h1)).p
 have PM:=((gb G hn).1 (hM.mem x h1)).p
 rw[<-bF L [] x (by rw[hL.len];exact h1),<-bF M [] x (by rw[hM.len];exact h1)]
 refine jn (by rw[PL.len,PM.len]) fun y hy=>?_
 rw[PL.len]at hy;have a:=ql G (L:=L) h1 hy
 rw[e,ql G h1 hy]at a;have:=G.can x _ _ h1 (PM.lt hy) (PL.lt hy) a
 rw[PL.int hy,PM.int hy,this]
theorem Mn(G:GrpT n t)(hn:n<=7):(aD t (ab t)).Nodup:=by
 have hlen:=kX G hn
 obtain⟨hA,_⟩:=mP G.tb G.pos (by omega)
 obtain⟨l1,l2⟩:=qf G.tb hA (vQ G hn) 9 [] (Nat.zero_le _) (by simp;omega) (fun r hr=>by cases hr) (fun h=>by have:=G.pos;simp at h;omega)
 rw[<-qh G hn,(vS _).nodup_iff,qd,List.nil_append];exact List.pairwise_map.2 (List.Pairwise.imp_of_mem (fun {L M} h1 h2 hne e=>hne (Mm G hn ((l1 L).1 h1).1 ((l1 M).1 h2).1 e)) l2)
theorem Mo(G:GrpT n t)(hn:n<=7):iQ (aD t (ab t)):=by rw[<-qh G hn];exact D7 _
theorem Mp(G:GrpT n t)(hn:n<=7){f:V7}(hf:f∈ab t){c d:V8}(hc:c∈aD t (ab t))(h:ImO n c f d):d∈aD t (ab t):=by
 obtain⟨L,hL,rfl⟩:=(vX G hn).1 hc;have F:=(gb G hn).1 hf
 have P:=F.p
 have I:=fun x hx=>(gb G hn).1 (hL.mem x hx)
 let L':V8:=(List.range n).map fun u=>aY (cD f) (aY (L.getD (ap (cD f) u) []) f)
 have g:∀x,x<n->L'.getD (ap f x) []=aY (cD f) (aY (L.getD x []) f):=fun x hx=>by
  show((List.range n).map _).getD _ _=_
  rw[mF _ _ 0 _ _ (by rw[List.length_range];exact P.lt hx),bF (List.range n) 0 _ (by rw[List.length_range];exact P.lt hx),List.getElem_range,P.back hx]
 have iso:∀x,x<n->isoL n [t] [t] (aY (cD f) (aY (L.getD x []) f)):=fun x hx=>kb G.tb (vV G F) (kb G.tb (I x hx) F)
 have ev:∀x y,x<n->y<n->ap (aY (cD f) (aY (L.getD x []) f)) (ap f y)=ap f (ap (L.getD x []) y):=fun x y hx hy=>by
  rw[jo P.bk (P.lt hy),P.back hy,jo (I x hx).p hy]
 have hL':SolL n t (ab t) L':=by
  refine⟨by show((List.range n).map _).length=n;simp,fun u hu=>?_,fun u v hu hv=>?_⟩
  ·obtain⟨x,hx,rfl⟩:=P.onto hu
   rw[g x hx];exact(gb G hn).2 (iso x hx)
  ·obtain⟨x,hx,rfl⟩:=P.onto hu
   obtain⟨y,hy,rfl⟩:=P.onto hv;have zl:gM t x (ap (L.getD x []) y)<n:=G.lt hx ((I x hx).p.lt hy)
   have z:(en t (ap f x) (en L' (ap f x) (ap f y)).toNat).toNat=ap f (gM t x (ap (L.getD x []) y)):=by
    show gM t (ap f x) (ap (L'.getD (ap f x) []) (ap f y))=_
    rw[g x hx,ev x y hx hy,<-jt G F hx ((I x hx).p.lt hy)]
   have fit:L.getD (gM t x (ap (L.getD x []) y)) []=aY (L.getD y []) (L.getD x []):=hL.fit x y hx hy
   rw[z,g _ zl,g x hx,g y hy,fit];have A1:=kb G.tb (vV G F) (kb G.tb (kb G.tb (I y hy) (I x hx)) F)
   have A2:=kb G.tb (iso y hy) (iso x hx)
   refine jn (by rw[A1.len,A2.len]) fun w hw=>?_
   rw[A1.len]at hw;rw[A1.p.int hw,A2.p.int hw]
   congr 1
   obtain⟨k,hk,rfl⟩:=P.onto hw;rw[jo P.bk (P.lt hk),P.back hk,jo ((I y hy).p.th (I x hx).p) hk,jo (I y hy).p hk,jo (iso y hy).p (P.lt hk),ev y k hy hk,ev x _ hx ((I y hy).p.lt hk)]
 refine(vX G hn).2 ⟨L',hL',?_⟩
 have k:ImO n (eE t L) f (eE t L'):=⟨vW G hn hL',fun x y hx hy=>by
  have v:=(vW G hn hL').2 _ (P.lt hx)
  have v2:=v.2 _ (P.lt hy)
  have e1:=ql G (L:=L') (P.lt hx) (P.lt hy)
  have l:=G.lt hx ((I x hx).p.lt hy)
  rw[g x hx,ev x y hx hy,<-jt G F hx ((I x hx).p.lt hy)]at e1;rw[ql G hx hy,P.int l];simp only[gM]at e1⊢;omega⟩
 exact h.uniq P k
end
end Go.Sx
