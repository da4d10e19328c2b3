/- ActP -/
import Derived.Test.YtkmldclpaniclaaGreatCrcG
import Derived.Test.YtkmldclpaniclaaGreatCrcP
import Derived.Test.YtkmldclpaniclaaGreatEqt
import Derived.Test.YtkmldclpaniclaaGreatGrpC
import Derived.Test.YtkmldclpaniclaaGreatDrawY
set_option linter.unusedSimpArgs false
set_option linter.unusedVariables false
set_option linter.defProp false
open Go Go.Proofs
namespace Go.Sx
def jc(t A:D7):Nat->D7->D8
 |0,_=>[]
 |d+1,L=>if L.length=t.length then [L]else(List.range A.length).flatMap λi:Nat=>if jh t (L++[A.getD i []])=true then jc t A d (L++[A.getD i []])else []
def sL{t A:D7}:∀(d:Nat) (L:D7) (fd:D8),cR t A d L fd=fd++(jc t A d L).map (ft t)
 |0,L,fd=>by simp[cR,jc]
 |d+1,L,fd=>by
  rw[cR,jc];split
  ·rfl
  ·have:∀m,eh t A L (cR t A d) fd m=fd++((List.range m).flatMap λi:Nat=>if jh t (L++[A.getD i []])=true then jc t A d (L++[A.getD i []])else []).map (ft t):=by
    intro m
    induction m with
    |zero=>simp[eh]
    |succ m ih =>
     rw[eh,Br,Bz,Be,<-Ap,<-ih];simp only[Av,BX,AV];split
     ·exact sL d _ _
     ·simp
   exact this A.length
structure SolL (n:Nat) (t A L:D7):Prop where
 len:L.length=n
 mem:∀x,x<n->L.getD x []∈A
 fit:∀x y,x<n->y<n->L.getD (en t x (en L x y).toNat).toNat []=aR (L.getD y []) (L.getD x [])
def KN{t L:D7}:jh t L=true↔∀x y,x<L.length->y<L.length->(en t x (en L x y).toNat).toNat<L.length->L.getD (en t x (en L x y).toNat).toNat []=aR (L.getD y []) (L.getD x []):=by
 simp only[jh,oK,kJ,Ac,Af,BK,CY,B4,Ai]
 constructor
 ·intro h x y hx hy hz
  exact(h x hx y hy).resolve_left (by simpa using hz)
 ·intro h x hx y hy
  by_cases hz:(en t x (en L x y).toNat).toNat<L.length
  ·exact .inr (h x y hx hy hz)
  ·exact .inl hz
def sM{L:D7}{k x:Nat}(hx:x<k):(L.take k).getD x []=L.getD x []:=by
 simp[List.getD,Aw,hx]
section
variable {n:Nat} {t A:D7}
theorem SolL.pre{L:D7}(h:SolL n t A L){k:Nat}(hk:k<=n):jh t (L.take k)=true:=by
 have hl:(L.take k).length=k:=by rw[AP,h.len];omega
 refine KN.2 λx y hx hy hz=>?_
 rw[hl]at hx hy hz;have e:en (L.take k) x y=en L x y:=by simp only[en];rw[sM hx]
 rw[e]at hz⊢;rw[sM hz,sM hx,sM hy];exact h.fit x y (by omega) (by omega)
def sN(ht:am n t)(hA:AuOk n A)(hAn:A.Nodup):∀(d:Nat) (L:D7),L.length<=n->n<d+L.length->(∀r∈L,r∈A)->(L.length=n->SolL n t A L)->(∀S,S∈jc t A d L↔SolL n t A S/\S.take L.length=L)/\(jc t A d L).Nodup
 |0,L,h1,h2,_,_=>by omega
 |d+1,L,h1,h2,hL,hz=>by
  rw[jc];by_cases hp:L.length=t.length
  ·rw[AA hp]
   have hp:L.length=n:=by rw[hp,ht.1]
   refine⟨λS=>?_,by simp⟩
   rw[Ar]
   constructor
   ·rintro rfl;exact⟨hz hp,Bs⟩
   ·rintro⟨k1,k2⟩
    rw[<-k2,hp,<-k1.len,Bs]
  ·rw[AB hp]
   have ψ:L.length<n:=by rw[ht.1]at hp;omega
   have br:∀i,i<A.length->jh t (L++[A.getD i []])=true->(∀S,S∈jc t A d (L++[A.getD i []])↔SolL n t A S/\S.take (L.length+1)=L++[A.getD i []])/\(jc t A d (L++[A.getD i []])).Nodup:=λi hi hf=>by
    have hm:∀r∈L++[A.getD i []],r∈A:=λr hr=>by
     rcases AH.1 hr with hr|hr
     ·exact hL r hr
     ·rw[Ar]at hr;rw[hr];exact bN A [] i hi
    have:=sN ht hA hAn d (L++[A.getD i []]) (by simp;omega) (by simp;omega) hm (λe=>⟨e,λx hx=>hm _ (bN _ [] x (by omega)),λx y hx hy=>by
     have hxm:=hm _ (bN (L++[A.getD i []]) [] x (by omega))
     obtain⟨j,hj,ej⟩:=BS.1 hxm;have r:=hA.rng j y hj hy
     have e2:en (L++[A.getD i []]) x y=en A j y:=by simp only[en];rw[<-ej,bM A [] j hj]
     have z:=(ht.2 x hx).2 (en A j y).toNat (by omega)
     exact KN.1 hf x y (by omega) (by omega) (by rw[e2];omega)⟩)
    simpa using this
   constructor
   ·intro S
    rw[Am]
    constructor
    ·rintro⟨i,hi,h⟩
     have hi:i<A.length:=by simpa using hi
     split at h
     ·rename_i hf
      obtain⟨q1,q2⟩:=((br i hi hf).1 S).1 h;refine⟨q1,?_⟩
      have:=BC (List.take L.length) q2
      rw[Co,B5 (by omega)]at this
      rw[this];simp
     ·cases h
    ·rintro⟨q1,q2⟩
     obtain⟨i,hi,ei⟩:=BS.1 (q1.mem L.length ψ);have et:S.take (L.length+1)=L++[A.getD i []]:=by
      rw[bM A [] i hi,ei,<-q2];have:=dZ S [] L.length (by rw[q1.len];exact ψ)
      rw[AP,B5 (by rw[q1.len];omega)]
      exact this.symm
     have hf:=q1.pre (k:=L.length+1) (by omega)
     rw[et]at hf;exact⟨i,by simpa using hi,by rw[AA hf];exact((br i hi hf).1 S).2 ⟨q1,et⟩⟩
   ·refine CZ.2 ⟨λi hi=>?_,Bt (fun {i j} hi hj hne S hS S' hS' e=>?_) Bl⟩
    ·split
     ·rename_i hf;exact(br i (by simpa using hi) hf).2
     ·exact List.Pairwise.nil
    ·subst e
     have hi:i<A.length:=by simpa using hi
     have hj:j<A.length:=by simpa using hj
     split at hS
     ·rename_i hf
      split at hS'
      ·rename_i hf2
       have a:=(((br i hi hf).1 S).1 hS).2
       have b:=(((br j hj hf2).1 S).1 hS').2
       rw[a]at b;have b:=List.append_cancel_left b
       rw[bM _ _ _ hi,bM _ _ _ hj]at b;exact hne ((CM hAn).1 (List.cons.inj b).1)
      ·cases hS'
     ·cases hS
end
section
variable {n:Nat} {t:D7}
def sO(G:GrpT n t)(hn:n<=7){p:D6}(h:p∈aa t):isoL n [t] [t] p:=by
 rw[<-mV G hn]at h;have e:bI [t]=n:=G.tb.1
 have:=(((jY (mU G hn)).1 p).1 h).2
 rwa[e]at this
def mJ(G:GrpT n t)(hn:n<=7):(aa t).length<=49:=by rw[<-mV G hn];exact Fw G hn
def y9(G:GrpT n t)(hn:n<=7):(aa t).Nodup:=by
 rw[<-mV G hn];exact qR (jY (mU G hn)).2
def za{α β:Type}(F:α->List β)(k:Nat):∀l:List α,(∀x∈l,(F x).length<=k)->(l.flatMap F).length<=l.length*k
 | [],_=>by simp
 |x::l,h=>by
  have:=za F k l λy hy=>h y (AQ _ hy)
  have h0:=h x AZ
  simp only[Av,Ag,AR,Bu];omega
end
def KO:∀a b:D6,bw a b=true↔bC cf a b<0
 | [],[]=>by simp[bw,bC]
 | [],_::_=>by simp[bw,bC]
 |_::_,[]=>by simp[bw,bC]
 |x::a,y::b=>by
  simp only[bC,bw];have z:=F3.zero x y
  by_cases e:x=y
  ·rw[AA e,AA (z.2 e)];exact KO a b
  ·rw[AB e,AB λh=>e (z.1 h)]
   rw[Ai];unfold cf;split
   ·simp[*]
   ·split
    ·simp[*]
    ·omega
def qi:∀a b:D7,a.length=b.length->(bO a b=true↔fx a b<0)
 | [],[],_=>by simp[bO,fx,bC]
 | [],_::_,h=>by simp at h
 |_::_,[],h=>by simp at h
 |x::a,y::b,h=>by
  have z:=F3.lists.zero x y
  show bO (x::a) (y::b)=true↔(if bC cf x y=0 then bC (bC cf) a b else bC cf x y)<0
  rw[bO];by_cases e:x=y
  ·rw[AA e,AA (z.2 e)];exact qi a b (by simpa using h)
  ·rw[AB e,AB λh=>e (z.1 h)];exact KO x y
def jM(l:D8):Prop:=l.Pairwise λa b=>fx a b<=0
def Ur{a b:D8}(ha:jM a)(hb:jM b)(h:a.Perm b):a=b :=
 DL (le:=λx y=>fx x y<=0) (λx y _ _ h1 h2=>(eE.zero x y).1 (by have:=eE.anti x y;omega)) ha hb h
def Us(out:D8)(c:D7):(fL out c).Perm (c::out):=by
 have h1:(fL out c).Perm (c::(out.take (ca c out)++out.drop (ca c out))):=Cp
 rwa[CO]at h1
def KP(c:D7):∀K:D8,(∀k∈K.take (ca c K),bO k c=true)/\(∀h:ca c K<K.length,bO K[ca c K] c=false)
 | []=>⟨λk hk=>by simp at hk,λh=>by simp at h⟩
 |k::K=>by
  rw[ca];by_cases hk:bO k c=true
  ·rw[AA hk]
   obtain⟨h1,h2⟩:=KP c K;refine⟨λx hx=>?_,λh=>by simpa using h2 (by simpa using h)⟩
   rw[List.take_succ_cons,AG]at hx;rcases hx with rfl|hx
   ·exact hk
   ·exact h1 x hx
  ·rw[AB hk]
   exact⟨λx hx=>by simp at hx,λ_=>by simpa using hk⟩
def Ut{n:Nat}{out:D8}{c:D7}(hl:∀k∈out,k.length=n)(hc:c.length=n)(h:jM out):jM (fL out c):=by
 obtain⟨h1,h2⟩:=KP c out;have h0:=h
 rw[jM,<-CO (ca c out) out,Cq]at h0;obtain⟨p1,p2,p3⟩:=h0;have low:∀k∈out.take (ca c out),fx k c<0:=λk hk=>(qi k c (by rw[hl k (CP hk),hc])).1 (h1 k hk)
 have high:∀k∈out.drop (ca c out),fx c k<=0:=λk hk=>by
  have ψ:ca c out<out.length:=by
   refine Ax λhn=>?_
   rw[Ca (by omega)]at hk;cases hk
  have hf:=h2 ψ
  have hm:out[ca c out]∈out:=A5 ψ
  have ge:fx c out[ca c out]<=0:=by
   have:=qi out[ca c out] c (by rw[hl _ hm,hc])
   have an:=eE.anti c out[ca c out]
   refine Ax λhn=>?_
   rw[this.2 (by omega)]at hf;cases hf
  rw[Cr ψ]at hk p2;rcases AG.1 hk with rfl|hk
  ·exact ge
  ·exact eE.le _ _ _ ge ((CQ.1 p2).1 k hk)
 rw[jM,fL,Cq];refine⟨p1,CQ.2 ⟨high,p2⟩,λa ha b hb=>?_⟩
 rcases AG.1 hb with rfl|hb
 ·have:=low a ha;omega
 ·exact p3 a ha b hb
def KQ{n:Nat}:∀(l out:D8),(∀k∈out,k.length=n)->(∀k∈l,k.length=n)->jM out->jM (l.foldl fL out)/\(l.foldl fL out).Perm (l++out)
 | [],out,_,_,h=>⟨h,.refl _⟩
 |c::l,out,ho,hl,h=>by
  have hc:=hl c AZ
  obtain⟨a,b⟩:=KQ l (fL out c) (λk hk=>by
   rcases(N3 out c k).1 hk with rfl|hk
   ·exact hc
   ·exact ho k hk) (λk hk=>hl k (AQ _ hk)) (Ut ho hc h)
  refine⟨a,b.trans ?_⟩
  refine(DM l (Us out c)).trans ?_
  exact Cp
def zb(l:D8):(dz l).Perm l:=by
 unfold dz;split
 ·rename_i h
  refine((vh l h).map _).trans ?_
  have:(List.finRange l.length).map (λi=>l.getD i.1 [])=l:=by
   apply BY (by simp)
   intro i h1 h2
   simp
  rw[this]
 ·have:l=[]:=BA (by omega)
  rw[this]
def KT(l:D8):jM (dz l):=by
 by_cases h:0<l.length
 case neg =>
  unfold dz;rw[dif_neg h];exact List.Pairwise.nil
 letI:Inhabited (Fin l.length):=⟨⟨0,h⟩⟩
 have S:=(Go.Sort.pdq_sorts (λi j=>decide (hZ l i j<0)) (F4 l) (List.finRange l.length).toArray 0 (List.finRange l.length).toArray.size (Lib.bitLen (List.finRange l.length).toArray.size) true true (AT _) (AE _) (Or.inl rfl)).2
 have S:∀i j:Nat,i<j->j<l.length->decide (hZ l (fC l h)[j]! (fC l h)[i]!<0)=false:=λi j h1 h2=>S i j (AT _) h1 (by simpa using h2)
 have hS:dz l=(fC l h).toList.map (λi=>l.getD i.1 []):=by unfold dz;rw[dif_pos h]
 have sl:(fC l h).toList.length=l.length:=by rw[(vh l h).length_eq];simp
 have sz:(fC l h).size=l.length:=by simpa using sl
 have g:∀i (hi:i<l.length),(fC l h)[i]! = (fC l h).toList[i]'(by omega):=λi hi=>by
  rw[getElem!_pos (fC l h) i (by omega)];simp
 have hlen:(dz l).length=l.length:=vj l
 refine Bf.2 λi j hi hj hij=>?_
 have e:∀k (hk:k<(dz l).length),(dz l)[k]=l.getD ((fC l h)[k]!).1 []:=λk hk=>by
  rw[g k (by omega)]
  simp[hS]
 have s:=S i j hij (by omega)
 rw[B4,hZ,<-e j hj,<-e i hi]at s;have an:=eE.anti (dz l)[i] (dz l)[j]
 omega
section
variable {n:Nat} {t A:D7}
def gI(A:D7)(K:D6):D7:=K.map λk=>A.getD k.toNat []
def lK{K:D6}{x:Nat}(hx:x<K.length):(gI A K).getD x []=A.getD (K.getD x 0).toNat []:=lJ _ _ 0 [] _ hx
def Uu(ht:am n t)(hA:AuOk n A){K:D6}(hK:SolK n t A K):bf t A K=ft t (gI A K):=by
 have e:t.length=n:=ht.1
 rw[bf,ft,cb];refine B6 λy hy=>?_
 have hy:y<n:=by rw[<-e];exact Af.1 hy
 have r:=hK.rng y hy
 have al:=hA.len (K.getD y 0).toNat (by omega)
 have row:(gI A K).getD y []=A.getD (K.getD y 0).toNat []:=lK (by rw[hK.len];exact hy)
 refine kA (by rw[iM,d4,al,e]) λz hz=>?_
 rw[iM]at hz;rw[g9 hz,eA _ _ _ (by omega)]
 simp only[en];rw[row]
def Uv(hA:AuOk n A)(hAn:A.Nodup){K K':D6}(hK:SolK n t A K)(hK':SolK n t A K')(e:gI A K=gI A K'):K=K':=by
 refine kA (by rw[hK.len,hK'.len]) λx hx=>?_
 rw[hK.len]at hx;have r:=hK.rng x hx
 have r':=hK'.rng x hx
 have a:(gI A K).getD x []=(gI A K').getD x []:=by rw[e]
 rw[lK (by rw[hK.len];exact hx),lK (by rw[hK'.len];exact hx),bM _ _ _ (show(K.getD x 0).toNat<A.length by omega),bM _ _ _ (show(K'.getD x 0).toNat<A.length by omega)]at a
 have:=(CM hAn).1 a
 omega
def Uw(ht:am n t)(hA:AuOk n A){K:D6}(hK:SolK n t A K):SolL n t A (gI A K) where
 len:=by rw[gI,AW];exact hK.len
 mem x hx:=by
  have r:=hK.rng x hx
  rw[lK (by rw[hK.len];exact hx)]
  exact bN A [] _ (by omega)
 fit x y hx hy:=by
  have r:=hK.rng x hx
  have q:=hK.rng y hy
  have z:=mW ht hA hK.ok hx hy r.1
  have w:=oT hA hK.ok hx hy r.1 q.1
  have e:en (gI A K) x y=en A (K.getD x 0).toNat y:=by simp only[en];rw[lK (by rw[hK.len];exact hx)]
  rw[e];have f:=hK.fit x y hx hy
  have z2:=z.2.2
  simp only[bW]at f z2;rw[lK (by rw[hK.len];exact z2),f,lK (by rw[hK.len];exact hy),lK (by rw[hK.len];exact hx),d6,gO,An]
  exact(kP w.1).2
def Ux(ht:am n t)(hA:AuOk n A){L:D7}(hL:SolL n t A L):SolK n t A (L.map λf=>(eH A f:Int))/\gI A (L.map λf=>(eH A f:Int))=L:=by
 have g:∀x,x<n->(L.map λf=>(eH A f:Int)).getD x 0=(eH A (L.getD x []):Int):=λx hx=>lJ _ _ [] 0 _ (by rw[hL.len];exact hx)
 have a:∀x,x<n->A.getD (eH A (L.getD x [])) []=L.getD x []:=λx hx=>(kP (hL.mem x hx)).2
 refine⟨⟨by rw[AW];exact hL.len,λx hx=>?_,λx y hx hy=>?_⟩,?_⟩
 ·rw[g x hx]
  have:=(kP (hL.mem x hx)).1
  omega
 ·have f:=hL.fit x y hx hy
  have e:bW t A (L.map λf=>(eH A f:Int)) x y=(en t x (en L x y).toNat).toNat:=by
   simp only[bW];rw[g x hx,An];have:en A (eH A (L.getD x [])) y=en L x y:=by simp only[en];rw[a x hx]
   rw[this]
  have zl:(en t x (en L x y).toNat).toNat<n:=by
   obtain⟨j,hj,ej⟩:=BS.1 (hL.mem x hx);have r:=hA.rng j y hj hy
   have e2:en L x y=en A j y:=by simp only[en];rw[<-ej,bM A [] j hj]
   have:=(ht.2 x hx).2 (en L x y).toNat (by omega)
   omega
  rw[e,g _ zl,f,d6,gO,g x hx,g y hy,An,An,a x hx,a y hy]
 ·rw[gI,B7]
  refine BY (by simp) λx h1 h2=>?_
  have hx:x<n:=by rw[<-hL.len];exact h2
  have:=a x hx
  rw[bM _ [] _ h2]at this
  simpa using this
end
def Uy{n:Nat}{t:D7}(G:GrpT n t)(hn:n<=7){L:D7}(hL:SolL n t (aa t) L):L.getD 0 []=dK n:=by
 have h0:=hL.mem 0 G.pos
 have P:=sO G hn h0
 have Z:=jR G P
 have f:=hL.fit 0 0 G.pos G.pos
 have z:(en t 0 (en L 0 0).toNat).toNat=0:=by
  have e:(en L 0 0).toNat=0:=Z
  rw[e];exact G.z1 0 G.pos
 rw[z]at f;have u:(dK n).length=n:=d4 _ _
 refine kA (by rw[P.len,u]) λi hi=>?_
 rw[P.len]at hi;have r:=P.rng i hi
 have q:(L.getD 0 []).getD i 0=(aR (L.getD 0 []) (L.getD 0 [])).getD i 0:=BC (λl:D6=>l.getD i 0) f
 rw[g9 (by rw[P.len];exact hi)]at q
 have:=qJ P.nd (i:=((L.getD 0 []).getD i 0).toNat) (j:=i) (by rw[P.len];omega) (by rw[P.len];exact hi) q.symm
 rw[dK,eA _ _ _ hi];omega
def sP{n:Nat}{t:D7}(G:GrpT n t)(hn:n<=7):dz (cR t (aa t) 9 [] [])=aF t (aa t):=by
 have e:t.length=n:=G.tb.1
 have hlen:=mJ G hn
 obtain⟨hA,_⟩:=mX G.tb G.pos (by omega)
 have hAn:=y9 G hn
 have hA0:(aa t).getD 0 []=dK n:=by rw[ve G.tb G.pos (by omega)];exact(FX G.tb G.pos).2
 have z0:Z0 n ((List.replicate t.length (-1)).set 0 0):=by rw[e];exact oV
 have ng:=uY G.pos
 obtain⟨k1,k2⟩:=NK G.tb hA 12 ((List.replicate t.length (-1)).set 0 0) (z0.ok hA) (by rw[e];omega) (λhz=>by
  have n1:n=1:=by rw[e]at hz;omega
  have r0:=hA.pos
  refine⟨z0.1,λx hx=>?_,λx y hx hy=>?_⟩
  ·have x0:x=0:=by omega
   subst x0;rw[gn (by rw[Bn,e];omega),AA rfl];omega
  ·have v:=mW G.tb hA (z0.ok hA) hx hy (by
    have x0:x=0:=by omega
    subst x0;rw[gn (by rw[Bn,e];omega),AA rfl];omega)
   have zz:bW t (aa t) ((List.replicate t.length (-1)).set 0 0) x y=0:=by omega
   have x0:x=0:=by omega
   have y0:y=0:=by omega
   rw[zz,d6,x0,y0,gn (by rw[Bn,e];omega),AA rfl]
   have:=(mX G.tb G.pos (by omega)).2
   omega)
 obtain⟨l1,l2⟩:=sN G.tb hA hAn 9 [] (AT _) (by simp;omega) (λr hr=>by cases hr) (λh=>by have:=G.pos;simp at h;omega)
 have perm:((fJ t (aa t) 12 ((List.replicate t.length (-1)).set 0 0)).map (gI (aa t))).Perm (jc t (aa t) 9 []):=by
  refine(DN (BZ.2 (Bt (fun {K K'} hK hK' hne h=>hne (Uv hA hAn ((k1 K).1 hK).1 ((k1 K').1 hK').1 h)) k2)) l2).2 λL=>?_
  rw[AJ,l1]
  constructor
  ·rintro⟨K,hK,rfl⟩
   exact⟨Uw G.tb hA ((k1 K).1 hK).1,rfl⟩
  ·rintro⟨hL,_⟩
   obtain⟨b1,b2⟩:=Ux G.tb hA hL;refine⟨_,(k1 _).2 ⟨b1,λx hx h0=>?_⟩,b2⟩
   by_cases x0:x=0
   ·subst x0
    rw[gn (by rw[Bn,e];omega),AA rfl,lJ _ _ [] 0 _ (by rw[hL.len];exact hx),Uy G hn hL,<-hA0]
    have:=PA hAn (i:=0) hA.pos
    omega
   ·rw[gn (by rw[Bn,e];omega),AB x0]at h0
    simp[List.getD,e,hx]at h0
 have cl:∀L,(ft t L).length=n:=λL=>by rw[ft,mI,e]
 have tl:∀K,(bf t (aa t) K).length=n:=λK=>by simp[bf,e]
 obtain⟨s1,s2⟩:=KQ (n:=n) ((fJ t (aa t) 12 ((List.replicate t.length (-1)).set 0 0)).map (bf t (aa t))) [] (λk hk=>by cases hk) (λk hk=>by
  obtain⟨K,_,rfl⟩:=AJ.1 hk;exact tl K) List.Pairwise.nil
 rw[aF,FD];refine Ur (KT _) s1 ((zb _).trans (.trans ?_ s2.symm))
 rw[sL,BT,AV];have:(fJ t (aa t) 12 ((List.replicate t.length (-1)).set 0 0)).map (bf t (aa t))=((fJ t (aa t) 12 ((List.replicate t.length (-1)).set 0 0)).map (gI (aa t))).map (ft t):=by
  rw[B7];exact B6 λK hK=>Uu G.tb hA ((k1 K).1 hK).1
 rw[this];exact(perm.map _).symm
section
variable {n:Nat} {t A:D7}
def aL(A:D7)(K:D6)(x:Nat):D6:=A.getD (K.getD x 0).toNat []
structure ClK (n:Nat) (t A:D7) (K:D6):Prop where
 ok:KOk n A.length K
 calm:∀x,x<n->∀y,y<n->qz t A K x y
 zero:0<=K.getD 0 0
def jN(K:D6)(x y:Nat):bW t A K x y=gM t x (ap (aL A K x) y):=rfl
def sQ{K:D6}(hK:KOk n A.length K){x:Nat}(hx:x<n)(h:0<=K.getD x 0):aL A K x∈A:=by
 have:=hK.rng x hx
 exact bN A [] _ (by omega)
def KU{p q:D6}{i:Nat}(hi:i<p.length):ap (aR p q) i=ap q (ap p i):=by
 simp only[ap];rw[g9 hi]
theorem ClK.mem(G:GrpT n t)(hA:AuOk n A)(hi:∀p∈A,isoL n [t] [t] p){K:D6}(h:ClK n t A K){x y:Nat}(hx:x<n)(hy:y<n)(kx:0<=K.getD x 0)(ky:0<=K.getD y 0) :
  bW t A K x y<n/\0<=K.getD (bW t A K x y) 0/\aL A K (bW t A K x y)=aR (aL A K y) (aL A K x):=by
 have z:=mW G.tb hA h.ok hx hy kx
 rcases h.calm x hx y hy with c|c|c
 ·omega
 ·omega
 ·refine⟨z.2.2,c.1,?_⟩
  have w:=oT hA h.ok hx hy kx ky
  rw[aL,c.2,d6,gO,An];exact(kP w.1).2
theorem ClK.assoc(G:GrpT n t)(hA:AuOk n A)(hi:∀p∈A,isoL n [t] [t] p){K:D6}(h:ClK n t A K){x y w:Nat}(hx:x<n)(hy:y<n)(hw:w<n)(kx:0<=K.getD x 0)(ky:0<=K.getD y 0) :
  bW t A K (bW t A K x y) w=bW t A K x (bW t A K y w):=by
 obtain⟨z1,z2,z3⟩:=h.mem G hA hi hx hy kx ky;have px:=hi _ (sQ h.ok hx kx)
 have py:=hi _ (sQ h.ok hy ky)
 rw[jN K (bW t A K x y) w,z3,KU (by rw[py.len];exact hw),jN K x (bW t A K y w),jN K y w,jN K x y,kL G px hy (fX py hw)]
 exact G.asc x _ _ hx (fX px hy) (fX px (fX py hw))
theorem ClK.can(G:GrpT n t)(hi:∀p∈A,isoL n [t] [t] p){K:D6}(h:ClK n t A K){x y w:Nat}(hx:x<n)(hy:y<n)(hw:w<n)(kx:0<=K.getD x 0)(e:bW t A K x y=bW t A K x w):y=w:=by
 have px:=hi _ (sQ h.ok hx kx)
 rw[jN,jN]at e;have e:=G.can x _ _ hx (fX px hy) (fX px hw) e
 have a:=px.rng y hy
 have b:=px.rng w hw
 simp only[ap]at e;exact qJ px.nd (by rw[px.len];exact hy) (by rw[px.len];exact hw) (by omega)
def fm(n:Nat)(K:D6):List Nat:=(List.range n).filter λx=>decide (0<=K.getD x 0)
def fB{K:D6}{x:Nat}:x∈fm n K↔x<n/\0<=K.getD x 0:=by simp[fm]
def sR(n:Nat)(K:D6):(fm n K).Nodup:=Bl.filter _
def KW{a b:List Nat}(ha:a.Nodup)(h:∀x∈a,x∈b):a.length<=b.length:=by
 have:=nc (a:=a.map (λx:Nat=>(x:Int))) (b:=b.map (λx:Nat=>(x:Int))) (BZ.2 (ha.imp λhne e=>hne (by omega))) (λx hx=>by
  obtain⟨y,hy,rfl⟩:=AJ.1 hx;exact AJ.2 ⟨y,h y hy,rfl⟩)
 simpa using this
theorem ClK.inv(G:GrpT n t)(hA:AuOk n A)(hi:∀p∈A,isoL n [t] [t] p){K:D6}(h:ClK n t A K){x:Nat}(hx:x<n)(kx:0<=K.getD x 0):∃y,y<n/\0<=K.getD y 0/\bW t A K x y=0:=by
 refine Ax λhno=>?_
 have nd:(0::(fm n K).map (bW t A K x)).Nodup:=by
  refine Aa.2 ⟨λhm=>?_,BZ.2 (Bt (fun {a b} ha hb hne e=>hne (h.can G hi hx (fB.1 ha).1 (fB.1 hb).1 kx e)) (sR n K))⟩
  obtain⟨y,hy,e⟩:=AJ.1 hm;exact hno ⟨y,(fB.1 hy).1,(fB.1 hy).2,e⟩
 have:=KW nd (b:=fm n K) (λy hy=>by
  rcases AG.1 hy with rfl|hy
  ·exact fB.2 ⟨G.pos,h.zero⟩
  ·obtain⟨z,hz,rfl⟩:=AJ.1 hy
   have q:=h.mem G hA hi hx (fB.1 hz).1 kx (fB.1 hz).2
   exact fB.2 ⟨q.1,q.2.1⟩)
 rw[AR,AW]at this;omega
theorem ClK.dbl(G:GrpT n t)(hA:AuOk n A)(hi:∀p∈A,isoL n [t] [t] p){K K':D6}(h:ClK n t A K)(h':ClK n t A K')(hs:dc n K K'){p:Nat}(hp:p<n)(kp:¬ 0<=K.getD p 0)(kp':0<=K'.getD p 0) :
  2*(fm n K).length<=(fm n K').length:=by
 have up:∀x,x<n->0<=K.getD x 0->0<=K'.getD x 0:=λx hx k=>by rw[hs x hx k];exact k
 have zz:∀x y,x<n->0<=K.getD x 0->bW t A K' x y=bW t A K x y:=λx y hx k=>by rw[jN,jN,aL,aL,hs x hx k]
 have nd:(fm n K++(fm n K).map (bW t A K' p)).Nodup:=by
  rw[Ae];refine⟨sR n K,BZ.2 (Bt (fun {a b} ha hb hne e=>hne (h'.can G hi hp (fB.1 ha).1 (fB.1 hb).1 kp' e)) (sR n K)),λa ha b hb e=>?_⟩
  obtain⟨s,hs1,rfl⟩:=AJ.1 hb;obtain⟨a1,a2⟩:=fB.1 ha;obtain⟨s1,s2⟩:=fB.1 hs1;obtain⟨y,y1,y2,y3⟩:=h.inv G hA hi s1 s2;have has:=h'.assoc G hA hi hp s1 y1 kp' (up s s1 s2)
  rw[<-e,zz s y s1 s2,y3,zz a y a1 a2,jN K' p 0,jR G (hi _ (sQ h'.ok hp kp')),G.z2 p hp]at has;have:=(h.mem G hA hi a1 y1 a2 y2).2.1
  rw[has]at this;exact kp this
 have:=KW nd (b:=fm n K') (λx hx=>by
  rcases AH.1 hx with hx|hx
  ·obtain⟨x1,x2⟩:=fB.1 hx
   exact fB.2 ⟨x1,up x x1 x2⟩
  ·obtain⟨s,hs1,rfl⟩:=AJ.1 hx
   obtain⟨s1,s2⟩:=fB.1 hs1;have q:=h'.mem G hA hi hp s1 kp' (up s s1 s2)
   exact fB.2 ⟨q.1,q.2.1⟩)
 simp only[Ag,AW]at this;omega
def Uz(n:Nat)(K:D6):(fm n K).length<=n:=Fu n _ (sR n K) λx hx=>(fB.1 hx).1
def KX(G:GrpT n t)(hA:AuOk n A)(hi:∀p∈A,isoL n [t] [t] p):∀(d j:Nat) (K:D6),ClK n t A K->n<2 ^ (j+1)*(fm n K).length->(fJ t A d K).length<=A.length ^ j
 |0,j,K,_,_=>AT _
 |d+1,j,K,hK,hj=>by
  rw[fJ];by_cases hp:av K=K.length
  ·rw[AA hp]
   exact Cs j _ hA.pos
  ·rw[AB hp]
   have ψ:av K<K.length:=by have:=lO K;omega
   have hneg:=uU K ψ
   have hpn:av K<n:=by rw[<-hK.ok.len];exact ψ
   have br:∀i,i<A.length->∀K',dr t A (K.set (av K) (i:Int))=some K'->ClK n t A K'/\2*(fm n K).length<=(fm n K').length:=λi hi' K' h=>by
    have hset:=hK.ok.set (av K) (w:=(i:Int)) ⟨by omega,by omega⟩
    have g1:=(ji G.tb hA hK.ok ψ hi' h).1
    have hfu:aB (K.set (av K) (i:Int))<t.length+1:=by
     have:=FN (K.set (av K) (i:Int))
     rw[hset.len]at this;rw[G.tb.1];omega
    obtain⟨f1,f2⟩:=FB G.tb hA _ hset hfu h;have sub:dc n K K':=λx hx h0=>by
     have ne:x≠av K:=λe=>by rw[e]at h0;omega
     have e:=gn (x:=x) (w:=(i:Int)) ψ
     rw[AB ne]at e;rw[f1 x hx (by rw[e];exact h0),e]
    have kp:0<=K'.getD (av K) 0:=by
     have e:=gn (x:=av K) (w:=(i:Int)) ψ
     rw[AA rfl]at e;rw[f1 _ hpn (by rw[e];omega),e];omega
    have c:ClK n t A K':=⟨g1,f2,by rw[sub 0 G.pos hK.zero];exact hK.zero⟩
    exact⟨c,hK.dbl G hA hi c sub hpn (by omega) kp⟩
   cases j with
   |zero =>
    have none:∀i∈List.range A.length,(match dr t A (K.set (av K) (i:Int))with|none=>[]|some K'=>fJ t A d K').length<=0:=λi hi'=>by
     split
     ·exact AE _
     ·rename_i K' h
      obtain⟨_,b⟩:=br i (by simpa using hi') K' h
      have:=Uz n K'
      simp only[AI,Nat.pow_one]at hj;omega
    exact Ao (za _ 0 _ none) (by omega)
   |succ j =>
    have:=za (λi:Nat=>match dr t A (K.set (av K) (i:Int))with|none=>[]|some K'=>fJ t A d K') (A.length ^ j) (List.range A.length) (λi hi'=>by
     split
     ·exact AT _
     ·rename_i K' h
      obtain⟨c,b⟩:=br i (by simpa using hi') K' h
      refine KX G hA hi d j K' c ?_
      have e:2 ^ (j+1+1)*(fm n K).length=2 ^ (j+1)*(2*(fm n K).length):=by rw[B8 2 (j+1),Nat.mul_assoc]
      have l:2 ^ (j+1)*(2*(fm n K).length)<=2 ^ (j+1)*(fm n K').length:=Cb _ b
      omega)
    rw[Cc,B9,<-B8]at this;exact this
end
def KY:∀(l out:D8),(l.foldl fL out).length=l.length+out.length
 | [],out=>by simp
 |c::l,out=>by
  rw[Ct,KY l,uT];simp;omega
def sS{n:Nat}{t:D7}(G:GrpT n t)(hn:n<=7):(aF t (aa t)).length<=2401:=by
 have e:t.length=n:=G.tb.1
 have hlen:=mJ G hn
 have hpos:=G.pos
 obtain⟨hA,h0⟩:=mX G.tb G.pos (by omega)
 have hA0:(aa t).getD 0 []=dK n:=by rw[ve G.tb G.pos (by omega)];exact(FX G.tb G.pos).2
 have z0:Z0 n ((List.replicate t.length (-1)).set 0 0):=by rw[e];exact oV
 have get:∀x,x<n->((List.replicate t.length (-1)).set 0 0).getD x 0=if x=0 then 0 else -1:=λx hx=>by
  rw[gn (by rw[Bn,e];omega)]
  split
  ·rfl
  ·simp[List.getD,e,hx]
 have cl:ClK n t (aa t) ((List.replicate t.length (-1)).set 0 0):=by
  refine⟨z0.ok hA,λx hx y hy=>?_,by rw[get 0 hpos];simp⟩
  by_cases x0:x=0
  ·by_cases y0:y=0
   ·subst x0;subst y0
    have g0:=get 0 hpos
    rw[AA rfl]at g0;have z:bW t (aa t) ((List.replicate t.length (-1)).set 0 0) 0 0=0:=by
     rw[jN,aL,g0];have:(0:Int).toNat=0:=rfl
     rw[this,hA0];have:ap (dK n) 0=0:=by rw[ap,dK,eA _ _ _ hpos];rfl
     rw[this,G.z1 0 hpos]
    refine .inr (.inr ⟨by rw[z,g0];omega,by rw[z,g0,d6,g0,h0];rfl⟩)
   ·exact .inr (.inl (by rw[get y hy,AB y0];omega))
  ·exact .inl (by rw[get x hx,AB x0];omega)
 have one:1<=(fm n ((List.replicate t.length (-1)).set 0 0)).length:=Cd (fB.2 ⟨hpos,by rw[get 0 hpos];simp⟩)
 have:=KX G hA (λp hp=>sO G hn hp) 12 2 _ cl (by omega)
 rw[aF,FD,KY,AW,Bo,Bg];have q:(aa t).length ^ 2<=49 ^ 2:=Nat.pow_le_pow_left hlen 2
 omega
structure IsP (n:Nat) (p:D6):Prop where
 len:p.length=n
 rng:∀i,i<n->0<=p.getD i 0/\p.getD i 0<(n:Int)
 nd:p.Nodup
theorem isoL.p{n:Nat}{a b:D8}{p:D6}(h:isoL n a b p):IsP n p:=⟨h.len,h.rng,h.nd⟩
section
variable {n:Nat} {p:D6}
theorem IsP.lt(h:IsP n p){x:Nat}(hx:x<n):ap p x<n:=by have:=h.rng x hx;simp only[ap];omega
theorem IsP.int(h:IsP n p){x:Nat}(hx:x<n):p.getD x 0=(ap p x:Int):=by have:=h.rng x hx;simp only[ap];omega
theorem IsP.inj(h:IsP n p){x y:Nat}(hx:x<n)(hy:y<n)(e:ap p x=ap p y):x=y:=by
 have a:=h.rng x hx
 have b:=h.rng y hy
 simp only[ap]at e;exact qJ h.nd (by rw[h.len];exact hx) (by rw[h.len];exact hy) (by omega)
theorem IsP.onto(h:IsP n p){x:Nat}(hx:x<n):∃k,k<n/\ap p k=x:=by
 have:=(vX (λx hx=>h.lt hx) (λx y hx hy e=>h.inj hx hy e)).mem_iff (a:=x)
 have:=this.2 (Af.2 hx)
 obtain⟨k,hk,e⟩:=AJ.1 this;exact⟨k,Af.1 hk,e⟩
def zc(h:IsP n p):∀(i k:Nat),i<=n->k<i->(fK p i).getD (ap p k) 0=(k:Int)
 |0,_,_,hk=>by omega
 |i+1,k,hi,hk=>by
  have rk:=h.lt (x:=k) (by omega)
  have e0:(p.getD i 0).toNat=ap p i:=rfl
  rw[fK,jb _ _ _ _ (by rw[oR,h.len];omega),e0]
  by_cases e:k=i
  ·rw[e,AA rfl]
  ·rw[AB λq=>e (h.inj (by omega) (by omega) q)]
   exact zc h i k (by omega) (by omega)
theorem IsP.back(h:IsP n p){k:Nat}(hk:k<n):ap (cG p) (ap p k)=k:=by
 have:=zc h n k (AE _) hk
 rw[ap,cG,h.len,this];rfl
theorem IsP.bk(h:IsP n p):IsP n (cG p):=by
 have hl:(cG p).length=n:=by rw[cG,oR,h.len]
 have at':∀k,k<n->(cG p).getD (ap p k) 0=(k:Int):=λk hk=>by rw[cG,h.len];exact zc h n k (AE _) hk
 refine⟨hl,λi hi=>?_,?_⟩
 ·obtain⟨k,hk,rfl⟩:=h.onto hi
  rw[at' k hk];omega
 ·refine Bf.2 λi j hi hj hij e=>?_
  rw[hl]at hi hj;obtain⟨k,hk,rfl⟩:=h.onto hi;obtain⟨l,hl2,rfl⟩:=h.onto hj;have a:=at' k hk
  have b:=at' l hl2
  rw[bM _ _ _ (by omega)]at a b
  have:k=l:=by omega
  subst this;omega
theorem IsP.th{q:D6}(h:IsP n p)(k:IsP n q):IsP n (aR p q):=by
 have hl:(aR p q).length=n:=by rw[iM,h.len]
 have g:∀i,i<n->(aR p q).getD i 0=(ap q (ap p i):Int):=λi hi=>by
  rw[g9 (by rw[h.len];exact hi)]
  exact k.int (h.lt hi)
 refine⟨hl,λi hi=>?_,?_⟩
 ·have:=k.lt (h.lt hi)
  rw[g i hi];omega
 ·refine Bf.2 λi j hi hj hij e=>?_
  rw[hl]at hi hj;have a:=g i hi
  have b:=g j hj
  rw[bM _ _ _ (by omega)]at a b
  have:=h.inj hi hj (k.inj (h.lt hi) (h.lt hj) (by omega))
  omega
def kB{q:D6}(h:IsP n p){i:Nat}(hi:i<n):ap (aR p q) i=ap q (ap p i):=KU (by rw[h.len];exact hi)
end
def UA{n:Nat}{a b:D7}(ha:am n a)(hb:am n b)(h:∀x y,x<n->y<n->en a x y=en b x y):a=b:=by
 refine BY (by rw[ha.1,hb.1]) λx h1 h2=>?_
 rw[ha.1]at h1;have ra:=(ha.2 x h1).1
 have rb:=(hb.2 x h1).1
 rw[bM _ _ _ (by rw[ha.1];exact h1)]at ra
 rw[bM _ _ _ (by rw[hb.1];exact h1)]at rb
 refine kA (by omega) λy hy=>?_
 have:=h x y h1 (by omega)
 simp only[en]at this
 rwa[bM a _ _ (by rw[ha.1];exact h1),bM b _ _ (by rw[hb.1];exact h1)]at this
def KZ{n:Nat}{F:Nat->Nat->Int}(h:∀x y,x<n->y<n->0<=F x y/\F x y<(n:Int)):am n (cb n F):=by
 refine⟨mI _ _,λx hx=>⟨by rw[ou _ _ _ hx,d4],λy hy=>?_⟩⟩
 simp only[en];rw[ou _ _ _ hx,eA _ _ _ hy];exact h x y hx hy
def K0{n:Nat}{F:Nat->Nat->Int}{x y:Nat}(hx:x<n)(hy:y<n):en (cb n F) x y=F x y:=by
 simp only[en];rw[ou _ _ _ hx,eA _ _ _ hy]
structure ImO (n:Nat) (t:D7) (p:D6) (c:D7):Prop where
 tb:am n c
 eq:∀x y,x<n->y<n->en c (ap p x) (ap p y)=p.getD (gM t x y) 0
theorem ImO.uniq{n:Nat}{t c d:D7}{p:D6}(hp:IsP n p)(h:ImO n t p c)(k:ImO n t p d):c=d:=by
 refine UA h.tb k.tb λx y hx hy=>?_
 obtain⟨a,ha,rfl⟩:=hp.onto hx;obtain⟨b,hb,rfl⟩:=hp.onto hy;rw[h.eq a b ha hb,k.eq a b ha hb]
def mK{n:Nat}{t:D7}(ht:am n t){x y:Nat}(hx:x<n)(hy:y<n):gM t x y<n:=by
 have:=(ht.2 x hx).2 y hy
 simp only[gM];omega
theorem ImO.th{n:Nat}{t c d:D7}{p q:D6}(hp:IsP n p)(hq:IsP n q)(ht:am n t)(h:ImO n t p c)(k:ImO n c q d):ImO n t (aR p q) d:=⟨k.tb,λx y hx hy=>by
 have e:=h.eq x y hx hy
 have l:=mK ht hx hy
 rw[kB hp hx,kB hp hy,k.eq _ _ (hp.lt hx) (hp.lt hy),(hp.th hq).int l,kB hp l];rw[hq.int (mK h.tb (hp.lt hx) (hp.lt hy))]
 congr 2
 rw[gM,e];rfl⟩
theorem ImO.back{n:Nat}{t c:D7}{p:D6}(hp:IsP n p)(ht:am n t)(h:ImO n t p c):ImO n c (cG p) t:=⟨ht,λx y hx hy=>by
 obtain⟨a,ha,rfl⟩:=hp.onto hx;obtain⟨b,hb,rfl⟩:=hp.onto hy;have v:=(ht.2 a ha).2 b hb
 have l:=mK ht ha hb
 have e:=h.eq a b ha hb
 have g:gM c (ap p a) (ap p b)=ap p (gM t a b):=by rw[gM,e];rfl
 rw[hp.back ha,hp.back hb,g,hp.bk.int (hp.lt l),hp.back l,gM];omega⟩
def fo(t:D7)(p:D6):D7:=cb t.length λx y=>p.getD (en t ((cG p).getD x 0).toNat ((cG p).getD y 0).toNat).toNat 0
def K3{n:Nat}{t:D7}{p:D6}(ht:am n t)(hp:IsP n p):ImO n t p (fo t p):=by
 have e:t.length=n:=ht.1
 have el:∀x y,x<n->y<n->en t ((cG p).getD x 0).toNat ((cG p).getD y 0).toNat=en t (ap (cG p) x) (ap (cG p) y):=λ_ _ _ _=>rfl
 refine⟨?_,λx y hx hy=>?_⟩
 ·rw[fo,e]
  exact KZ λx y hx hy=>hp.rng _ (mK ht (hp.bk.lt hx) (hp.bk.lt hy))
 ·rw[fo,e,K0 (hp.lt hx) (hp.lt hy),el _ _ (hp.lt hx) (hp.lt hy),hp.back hx,hp.back hy,gM]
/- The reference's image. -/
section
variable {n:Nat} {t:D7} {p:D6}
def K4{o:D7}(ho:am n o){i j x y:Nat}(hi:i<n)(hj:j<n){v:Int}:en (o.set i ((o.getD i []).set j v)) x y=if x=i/\y=j then v else en o x y:=by
 simp only[en];by_cases hx:x=i
 ·subst hx
  have e:(o.set x ((o.getD x []).set j v)).getD x []=(o.getD x []).set j v:=by
   rw[AM,Ba (by rw[ho.1];exact hi)];rfl
  rw[e];by_cases hy:y=j
  ·subst hy
   rw[AA ⟨rfl,rfl⟩,AM,Ba (by rw[(ho.2 x hi).1];exact hj)];rfl
  ·rw[AB λh=>hy h.2,AM,A6 (AN hy),<-AM]
 ·rw[AB λh=>hx h.1]
  have e:(o.set i ((o.getD i []).set j v)).getD x []=o.getD x []:=by
   rw[AM,A6 (AN hx),<-AM]
  rw[e]
def UB{o:D7}(ho:am n o){i j:Nat}(hi:i<n)(hj:j<n){v:Int}(hv:0<=v/\v<(n:Int)):am n (o.set i ((o.getD i []).set j v)):=by
 refine⟨by rw[Aj];exact ho.1,λx hx=>⟨?_,λy hy=>?_⟩⟩
 ·by_cases hxi:x=i
  ·subst hxi
   have e:(o.set x ((o.getD x []).set j v)).getD x []=(o.getD x []).set j v:=by
    rw[AM,Ba (by rw[ho.1];exact hi)];rfl
   rw[e,Aj];exact(ho.2 x hi).1
  ·have e:(o.set i ((o.getD i []).set j v)).getD x []=o.getD x []:=by
    rw[AM,A6 (AN hxi),<-AM]
   rw[e];exact(ho.2 x hx).1
 ·rw[K4 ho hi hj]
  split
  ·exact hv
  ·exact(ho.2 x hx).2 y hy
def sT(ht:am n t)(hp:IsP n p){x:Nat}(hx:x<n){o:D7}(ho:am n o):∀y,y<=n->am n (dJ t p x y o) /\
  ∀a b,a<n->b<n->en (dJ t p x y o) (ap p a) (ap p b)=if a=x/\b<y then p.getD (gM t a b) 0 else en o (ap p a) (ap p b)
 |0,_=>⟨ho,λa b _ _=>by rw[AB (by omega)];rfl⟩
 |y+1,hy=>by
  obtain⟨h1,h2⟩:=sT ht hp hx ho y (by omega)
  have e1:(p.getD x 0).toNat=ap p x:=rfl
  have e2:(p.getD y 0).toNat=ap p y:=rfl
  have e3:((t.getD x []).getD y 0).toNat=gM t x y:=rfl
  have st:dJ t p x (y+1) o=(dJ t p x y o).set (ap p x) (((dJ t p x y o).getD (ap p x) []).set (ap p y) (p.getD (gM t x y) 0)):=rfl
  rw[st];have lx:=hp.lt hx
  have ly:=hp.lt (x:=y) (by omega)
  refine⟨UB h1 lx ly (hp.rng _ (mK ht hx (by omega))),λa b ha hb=>?_⟩
  rw[K4 h1 lx ly];by_cases hab:ap p a=ap p x/\ap p b=ap p y
  ·have ea:=hp.inj ha hx hab.1
   have eb:=hp.inj hb (by omega) hab.2
   subst ea;subst eb;rw[AA hab,AA ⟨rfl,by omega⟩]
  ·rw[AB hab,h2 a b ha hb]
   by_cases hc:a=x/\b<y
   ·rw[AA hc,AA ⟨hc.1,by omega⟩]
   ·rw[AB hc,AB]
    rintro⟨h3,h4⟩
    subst h3;have:b=y:=by omega
    subst this;exact hab ⟨rfl,rfl⟩
def zd(ht:am n t)(hp:IsP n p):∀X,X<=n->am n (bt t p X)/\∀a b,a<X->b<n->en (bt t p X) (ap p a) (ap p b)=p.getD (gM t a b) 0
 |0,_=>⟨ht,λa b h=>by omega⟩
 |X+1,hX=>by
  obtain⟨h1,h2⟩:=zd ht hp X (by omega)
  have e:t.length=n:=ht.1
  obtain⟨k1,k2⟩:=sT ht hp (x:=X) (by omega) h1 n (AE _)
  have st:bt t p (X+1)=dJ t p X n (bt t p X):=by rw[bt,e]
  rw[st];refine⟨k1,λa b ha hb=>?_⟩
  rw[k2 a b (by omega) hb]
  by_cases hc:a=X
  ·rw[AA ⟨hc,hb⟩]
  ·rw[AB λh=>hc h.1];exact h2 a b (by omega) hb
def iF(ht:am n t)(hp:IsP n p):ImO n t p (bt t p n):=⟨(zd ht hp n (AE _)).1,(zd ht hp n (AE _)).2⟩
def K5(ht:am n t)(hp:IsP n p):fo t p=bt t p n:=(K3 ht hp).uniq hp (iF ht hp)
end
/- Automorphisms. -/
section
variable {n:Nat} {t:D7}
def g3(G:GrpT n t)(hn:n<=7){p:D6}:p∈aa t↔isoL n [t] [t] p:=by
 have hl:=mJ G hn
 rw[ve G.tb G.pos (by omega),na (kN G.tb) G.pos]
 refine⟨λh=>h.1,λh=>⟨h,?_⟩⟩
 have z:=jR G h
 have:=h.rng 0 G.pos
 simp only[ap]at z;omega
def UC(G:GrpT n t){p:D6}(hp:IsP n p)(h:∀x y,x<n->y<n->ap p (gM t x y)=gM t (ap p x) (ap p y)):isoL n [t] [t] p:=by
 refine⟨hp.len,hp.rng,hp.nd,λk x y hk hx hy hv=>?_⟩
 have k0:k=0:=by simp at hk;omega
 subst k0;rw[hp.len]at hx hy;have e:[t].getD 0 []=t:=rfl
 rw[e]at hv⊢;have v:=(G.tb.2 x hx).2 y hy
 have q:=h x y hx hy
 have l:=hp.rng _ (mK G.tb hx hy)
 have r:=(G.tb.2 _ (hp.lt hx)).2 _ (hp.lt hy)
 show p.getD (gM t x y) 0=en t (ap p x) (ap p y)
 simp only[gM]at q l⊢;simp only[ap]at q r⊢;omega
def ze(G:GrpT n t){p:D6}(h:isoL n [t] [t] p):isoL n [t] [t] (cG p):=by
 have P:=h.p
 refine UC G P.bk λx y hx hy=>?_
 obtain⟨a,ha,rfl⟩:=P.onto hx;obtain⟨b,hb,rfl⟩:=P.onto hy;rw[<-kL G h ha hb,P.back (G.lt ha hb),P.back ha,P.back hb]
def zf(G:GrpT n t)(hn:n<=7){L:D7}(hL:SolL n t (aa t) L):am n (ft t L):=by
 rw[ft,G.tb.1];refine KZ λx y hx hy=>?_
 have P:=((g3 G hn).1 (hL.mem x hx)).p
 exact(G.tb.2 x hx).2 _ (P.lt hy)
def sU(G:GrpT n t){L:D7}{x y:Nat}(hx:x<n)(hy:y<n):gM (ft t L) x y=gM t x (ap (L.getD x []) y):=by
 rw[gM,ft,G.tb.1,K0 hx hy];rfl
def zg(G:GrpT n t)(hn:n<=7){c:D7}:c∈aF t (aa t)↔∃L,SolL n t (aa t) L/\c=ft t L:=by
 have hlen:=mJ G hn
 obtain⟨hA,_⟩:=mX G.tb G.pos (by omega)
 obtain⟨l1,l2⟩:=sN G.tb hA (y9 G hn) 9 [] (AT _) (by simp;omega) (λr hr=>by cases hr) (λh=>by have:=G.pos;simp at h;omega)
 rw[<-sP G hn,(zb _).mem_iff,sL,BT,AJ]
 constructor
 ·rintro⟨L,h1,h2⟩;exact⟨L,((l1 L).1 h1).1,h2.symm⟩
 ·rintro⟨L,h1,h2⟩;exact⟨L,(l1 L).2 ⟨h1,rfl⟩,h2.symm⟩
def UD(G:GrpT n t)(hn:n<=7){L M:D7}(hL:SolL n t (aa t) L)(hM:SolL n t (aa t) M)(e:ft t L=ft t M):L=M:=by
 refine BY (by rw[hL.len,hM.len]) λx h1 h2=>?_
 rw[hL.len]at h1;have PL:=((g3 G hn).1 (hL.mem x h1)).p
 have PM:=((g3 G hn).1 (hM.mem x h1)).p
 rw[<-bM L [] x (by rw[hL.len];exact h1),<-bM M [] x (by rw[hM.len];exact h1)]
 refine kA (by rw[PL.len,PM.len]) λy hy=>?_
 rw[PL.len]at hy;have a:=sU G (L:=L) h1 hy
 rw[e,sU G h1 hy]at a;have:=G.can x _ _ h1 (PM.lt hy) (PL.lt hy) a
 rw[PL.int hy,PM.int hy,this]
def UE(G:GrpT n t)(hn:n<=7):(aF t (aa t)).Nodup:=by
 have hlen:=mJ G hn
 obtain⟨hA,_⟩:=mX G.tb G.pos (by omega)
 obtain⟨l1,l2⟩:=sN G.tb hA (y9 G hn) 9 [] (AT _) (by simp;omega) (λr hr=>by cases hr) (λh=>by have:=G.pos;simp at h;omega)
 rw[<-sP G hn,(zb _).nodup_iff,sL,BT];exact BZ.2 (Bt (fun {L M} h1 h2 hne e=>hne (UD G hn ((l1 L).1 h1).1 ((l1 M).1 h2).1 e)) l2)
def UF(G:GrpT n t)(hn:n<=7):jM (aF t (aa t)):=by rw[<-sP G hn];exact KT _
def UG(G:GrpT n t)(hn:n<=7){f:D6}(hf:f∈aa t){c d:D7}(hc:c∈aF t (aa t))(h:ImO n c f d):d∈aF t (aa t):=by
 obtain⟨L,hL,rfl⟩:=(zg G hn).1 hc;have F:=(g3 G hn).1 hf
 have P:=F.p
 have I:=λx hx=>(g3 G hn).1 (hL.mem x hx)
 let L':D7:=(List.range n).map λu=>aR (cG f) (aR (L.getD (ap (cG f) u) []) f)
 have g:∀x,x<n->L'.getD (ap f x) []=aR (cG f) (aR (L.getD x []) f):=λx hx=>by
  show((List.range n).map _).getD _ _=_
  rw[lJ _ _ 0 _ _ (by rw[Cc];exact P.lt hx),bM (List.range n) 0 _ (by rw[Cc];exact P.lt hx),List.getElem_range,P.back hx]
 have iso:∀x,x<n->isoL n [t] [t] (aR (cG f) (aR (L.getD x []) f)):=λx hx=>lP G.tb (ze G F) (lP G.tb (I x hx) F)
 have ev:∀x y,x<n->y<n->ap (aR (cG f) (aR (L.getD x []) f)) (ap f y)=ap f (ap (L.getD x []) y):=λx y hx hy=>by
  rw[kB P.bk (P.lt hy),P.back hy,kB (I x hx).p hy]
 have hL':SolL n t (aa t) L':=by
  refine⟨by show((List.range n).map _).length=n;simp,λu hu=>?_,λu v hu hv=>?_⟩
  ·obtain⟨x,hx,rfl⟩:=P.onto hu
   rw[g x hx];exact(g3 G hn).2 (iso x hx)
  ·obtain⟨x,hx,rfl⟩:=P.onto hu
   obtain⟨y,hy,rfl⟩:=P.onto hv;have zl:gM t x (ap (L.getD x []) y)<n:=G.lt hx ((I x hx).p.lt hy)
   have z:(en t (ap f x) (en L' (ap f x) (ap f y)).toNat).toNat=ap f (gM t x (ap (L.getD x []) y)):=by
    show gM t (ap f x) (ap (L'.getD (ap f x) []) (ap f y))=_
    rw[g x hx,ev x y hx hy,<-kL G F hx ((I x hx).p.lt hy)]
   have fit:L.getD (gM t x (ap (L.getD x []) y)) []=aR (L.getD y []) (L.getD x []):=hL.fit x y hx hy
   rw[z,g _ zl,g x hx,g y hy,fit];have A1:=lP G.tb (ze G F) (lP G.tb (lP G.tb (I y hy) (I x hx)) F)
   have A2:=lP G.tb (iso y hy) (iso x hx)
   refine kA (by rw[A1.len,A2.len]) λw hw=>?_
   rw[A1.len]at hw;rw[A1.p.int hw,A2.p.int hw]
   congr 1
   obtain⟨k,hk,rfl⟩:=P.onto hw;rw[kB P.bk (P.lt hk),P.back hk,kB ((I y hy).p.th (I x hx).p) hk,kB (I y hy).p hk,kB (iso y hy).p (P.lt hk),ev y k hy hk,ev x _ hx ((I y hy).p.lt hk)]
 refine(zg G hn).2 ⟨L',hL',?_⟩
 have k:ImO n (ft t L) f (ft t L'):=⟨zf G hn hL',λx y hx hy=>by
  have v:=(zf G hn hL').2 _ (P.lt hx)
  have v2:=v.2 _ (P.lt hy)
  have e1:=sU G (L:=L') (P.lt hx) (P.lt hy)
  have l:=G.lt hx ((I x hx).p.lt hy)
  rw[g x hx,ev x y hx hy,<-kL G F hx ((I x hx).p.lt hy)]at e1;rw[sU G hx hy,P.int l];simp only[gM]at e1⊢;omega⟩
 exact h.uniq P k
end
end Go.Sx
