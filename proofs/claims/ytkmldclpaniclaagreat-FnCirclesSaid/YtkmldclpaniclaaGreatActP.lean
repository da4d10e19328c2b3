/- ActP -/
import Derived.Test.YtkmldclpaniclaaGreatCrcC
import Derived.Test.YtkmldclpaniclaaGreatHol
import Derived.Test.YtkmldclpaniclaaGreatDrawY
set_option linter.unusedSimpArgs false
set_option linter.unusedVariables false
set_option linter.defProp false
open Go Go.Proofs
namespace Go.Sx
theorem II:∀a b:D1,bh a b=true↔aR bg a b<0
 | [],[]=>by simp[bh,aR]
 | [],_::_=>by simp[bh,aR]
 |_::_,[]=>by simp[bh,aR]
 |x::a,y::b=>by
  simp only[aR,bh];have z:=zQ.zero x y
  by_cases e:x=y
  ·rw[AA e,AA (z.2 e)];exact II a b
  ·rw[AB e,AB fun h=>e (z.1 h)]
   rw[Ab];unfold bg;split
   ·simp[*]
   ·split
    ·simp[*]
    ·omega
theorem nD:∀a b:D2,a.length=b.length->(ca a b=true↔eA a b<0)
 | [],[],_=>by simp[ca,eA,aR]
 | [],_::_,h=>by simp at h
 |_::_,[],h=>by simp at h
 |x::a,y::b,h=>by
  have z:=zQ.lists.zero x y
  show ca (x::a) (y::b)=true↔(if aR bg x y=0 then aR (aR bg) a b else aR bg x y)<0
  rw[ca];by_cases e:x=y
  ·rw[AA e,AA (z.2 e)];exact nD a b (by simpa using h)
  ·rw[AB e,AB fun h=>e (z.1 h)];exact II x y
def jq(l:D3):Prop:=l.Pairwise fun a b=>eA a b<=0
theorem Ro{a b:D3}(ha:jq a)(hb:jq b)(h:a.Perm b):a=b :=
 DI (le:=fun x y=>eA x y<=0) (fun x y _ _ h1 h2=>(dO.zero x y).1 (by have:=dO.anti x y;omega)) ha hb h
theorem Rp(out:D3)(c:D2):(fJ out c).Perm (c::out):=by
 have h1:(fJ out c).Perm (c::(out.take (cJ c out)++out.drop (cJ c out))):=Cj
 rwa[CF]at h1
theorem IJ(c:D2):∀K:D3,(∀k∈K.take (cJ c K),ca k c=true)/\(∀h:cJ c K<K.length,ca K[cJ c K] c=false)
 | []=>⟨fun k hk=>by simp at hk,fun h=>by simp at h⟩
 |k::K=>by
  rw[cJ];by_cases hk:ca k c=true
  ·rw[AA hk]
   obtain⟨h1,h2⟩:=IJ c K;refine⟨fun x hx=>?_,fun h=>by simpa using h2 (by simpa using h)⟩
   rw[List.take_succ_cons,AG]at hx;rcases hx with rfl|hx
   ·exact hk
   ·exact h1 x hx
  ·rw[AB hk]
   exact⟨fun x hx=>by simp at hx,fun _=>by simpa using hk⟩
theorem Rq{n:Nat}{out:D3}{c:D2}(hl:∀k∈out,k.length=n)(hc:c.length=n)(h:jq out):jq (fJ out c):=by
 obtain⟨h1,h2⟩:=IJ c out;have h0:=h
 rw[jq,<-CF (cJ c out) out,Ck]at h0;obtain⟨p1,p2,p3⟩:=h0;have low:∀k∈out.take (cJ c out),eA k c<0:=fun k hk=>(nD k c (by rw[hl k (Bv hk),hc])).1 (h1 k hk)
 have high:∀k∈out.drop (cJ c out),eA c k<=0:=fun k hk=>by
  have ψ:cJ c out<out.length:=by
   refine Av fun hn=>?_
   rw[CU (by omega)]at hk;cases hk
  have hf:=h2 ψ
  have hm:out[cJ c out]∈out:=A7 ψ
  have ge:eA c out[cJ c out]<=0:=by
   have:=nD out[cJ c out] c (by rw[hl _ hm,hc])
   have an:=dO.anti c out[cJ c out]
   refine Av fun hn=>?_
   rw[this.2 (by omega)]at hf;cases hf
  rw[Cm ψ]at hk p2;rcases AG.1 hk with rfl|hk
  ·exact ge
  ·exact dO.le _ _ _ ge ((CG.1 p2).1 k hk)
 rw[jq,fJ,Ck];refine⟨p1,CG.2 ⟨high,p2⟩,fun a ha b hb=>?_⟩
 rcases AG.1 hb with rfl|hb
 ·have:=low a ha;omega
 ·exact p3 a ha b hb
theorem IK{n:Nat}:∀(l out:D3),(∀k∈out,k.length=n)->(∀k∈l,k.length=n)->jq out->jq (l.foldl fJ out)/\(l.foldl fJ out).Perm (l++out)
 | [],out,_,_,h=>⟨h,.refl _⟩
 |c::l,out,ho,hl,h=>by
  have hc:=hl c AX
  obtain⟨a,b⟩:=IK l (fJ out c) (fun k hk=>by
   rcases(KZ out c k).1 hk with rfl|hk
   ·exact hc
   ·exact ho k hk) (fun k hk=>hl k (AO _ hk)) (Rq ho hc h)
  refine⟨a,b.trans ?_⟩
  refine(DJ l (Rp out c)).trans ?_
  exact Cj
theorem xe(l:D3):(dc l).Perm l:=by
 unfold dc;split
 ·rename_i h
  refine((ti l h).map _).trans ?_
  have:(List.finRange l.length).map (fun i=>l.getD i.1 [])=l:=by
   apply BP (by simp)
   intro i h1 h2
   simp
  rw[this]
 ·have:l=[]:=Ay (by omega)
  rw[this]
theorem IL(l:D3):jq (dc l):=by
 by_cases h:0<l.length
 case neg =>
  unfold dc;rw[dif_neg h];exact List.Pairwise.nil
 letI:Inhabited (Fin l.length):=⟨⟨0,h⟩⟩
 have S:=(Go.Sort.pdq_sorts (fun i j=>decide (gQ l i j<0)) (zR l) (List.finRange l.length).toArray 0 (List.finRange l.length).toArray.size (Lib.bitLen (List.finRange l.length).toArray.size) true true (AQ _) (AE _) (Or.inl rfl)).2
 have S:∀i j:Nat,i<j->j<l.length->decide (gQ l (fe l h)[j]! (fe l h)[i]!<0)=false:=fun i j h1 h2=>S i j (AQ _) h1 (by simpa using h2)
 have hS:dc l=(fe l h).toList.map (fun i=>l.getD i.1 []):=by unfold dc;rw[dif_pos h]
 have sl:(fe l h).toList.length=l.length:=by rw[(ti l h).length_eq];simp
 have sz:(fe l h).size=l.length:=by simpa using sl
 have g:∀i (hi:i<l.length),(fe l h)[i]! = (fe l h).toList[i]'(by omega):=fun i hi=>by
  rw[getElem!_pos (fe l h) i (by omega)];simp
 have hlen:(dc l).length=l.length:=tj l
 refine BD.2 fun i j hi hj hij=>?_
 have e:∀k (hk:k<(dc l).length),(dc l)[k]=l.getD ((fe l h)[k]!).1 []:=fun k hk=>by
  rw[g k (by omega)]
  simp[hS]
 have s:=S i j hij (by omega)
 rw[Bq,gQ,<-e j hj,<-e i hi]at s;have an:=dO.anti (dc l)[i] (dc l)[j]
 omega
section
variable {n:Nat} {t A:D2}
def gt(A:D2)(K:D1):D2:=K.map fun k=>A.getD k.toNat []
theorem kO{K:D1}{x:Nat}(hx:x<K.length):(gt A K).getD x []=A.getD (K.getD x 0).toNat []:=jT _ _ 0 [] _ hx
theorem Rr(ht:aA n t)(hA:AuOk n A){K:D1}(hK:SolK n t A K):bK t A K=dM t (gt A K):=by
 have e:t.length=n:=ht.1
 rw[bK,dM,b9];refine Bk fun y hy=>?_
 have hy:y<n:=by rw[<-e];exact Af.1 hy
 have r:=hK.rng y hy
 have al:=hA.len (K.getD y 0).toNat (by omega)
 have row:(gt A K).getD y []=A.getD (K.getD y 0).toNat []:=kO (by rw[hK.len];exact hy)
 refine ic (by rw[fL,ep,al,e]) fun z hz=>?_
 rw[fL]at hz;rw[fK hz,er _ _ _ (by omega)]
 simp only[en];rw[row]
theorem Rs(hA:AuOk n A)(hAn:A.Nodup){K K':D1}(hK:SolK n t A K)(hK':SolK n t A K')(e:gt A K=gt A K'):K=K':=by
 refine ic (by rw[hK.len,hK'.len]) fun x hx=>?_
 rw[hK.len]at hx;have r:=hK.rng x hx
 have r':=hK'.rng x hx
 have a:(gt A K).getD x []=(gt A K').getD x []:=by rw[e]
 rw[kO (by rw[hK.len];exact hx),kO (by rw[hK'.len];exact hx),bv _ _ _ (show(K.getD x 0).toNat<A.length by omega),bv _ _ _ (show(K'.getD x 0).toNat<A.length by omega)]at a
 have:=(CH hAn).1 a
 omega
theorem Rt(ht:aA n t)(hA:AuOk n A){K:D1}(hK:SolK n t A K):SolL n t A (gt A K) where
 len:=by rw[gt,AR];exact hK.len
 mem x hx:=by
  have r:=hK.rng x hx
  rw[kO (by rw[hK.len];exact hx)]
  exact bI A [] _ (by omega)
 fit x y hx hy:=by
  have r:=hK.rng x hx
  have q:=hK.rng y hy
  have z:=mi ht hA hK.ok hx hy r.1
  have w:=nQ hA hK.ok hx hy r.1 q.1
  have e:en (gt A K) x y=en A (K.getD x 0).toNat y:=by simp only[en];rw[kO (by rw[hK.len];exact hx)]
  rw[e];have f:=hK.fit x y hx hy
  have z2:=z.2.2
  simp only[bP]at f z2;rw[kO (by rw[hK.len];exact z2),f,kO (by rw[hK.len];exact hy),kO (by rw[hK.len];exact hx),dN,gP,Am]
  exact(j9 w.1).2
theorem Ru(ht:aA n t)(hA:AuOk n A){L:D2}(hL:SolL n t A L):SolK n t A (L.map fun f=>(d6 A f:Int))/\gt A (L.map fun f=>(d6 A f:Int))=L:=by
 have g:∀x,x<n->(L.map fun f=>(d6 A f:Int)).getD x 0=(d6 A (L.getD x []):Int):=fun x hx=>jT _ _ [] 0 _ (by rw[hL.len];exact hx)
 have a:∀x,x<n->A.getD (d6 A (L.getD x [])) []=L.getD x []:=fun x hx=>(j9 (hL.mem x hx)).2
 refine⟨⟨by rw[AR];exact hL.len,fun x hx=>?_,fun x y hx hy=>?_⟩,?_⟩
 ·rw[g x hx]
  have:=(j9 (hL.mem x hx)).1
  omega
 ·have f:=hL.fit x y hx hy
  have e:bP t A (L.map fun f=>(d6 A f:Int)) x y=(en t x (en L x y).toNat).toNat:=by
   simp only[bP];rw[g x hx,Am];have:en A (d6 A (L.getD x [])) y=en L x y:=by simp only[en];rw[a x hx]
   rw[this]
  have zl:(en t x (en L x y).toNat).toNat<n:=by
   obtain⟨j,hj,ej⟩:=BV.1 (hL.mem x hx);have r:=hA.rng j y hj hy
   have e2:en L x y=en A j y:=by simp only[en];rw[<-ej,bv A [] j hj]
   have:=(ht.2 x hx).2 (en L x y).toNat (by omega)
   omega
  rw[e,g _ zl,f,dN,gP,g x hx,g y hy,Am,Am,a x hx,a y hy]
 ·rw[gt,Bw]
  refine BP (by simp) fun x h1 h2=>?_
  have hx:x<n:=by rw[<-hL.len];exact h2
  have:=a x hx
  rw[bv _ [] _ h2]at this
  simpa using this
end
theorem IM{n:Nat}{t:D2}(G:GrpT n t)(hn:n<=7){L:D2}(hL:SolL n t (aa t) L):L.getD 0 []=cF n:=by
 have h0:=hL.mem 0 G.pos
 have P:=gS G hn h0
 have Z:=gO G P
 have f:=hL.fit 0 0 G.pos G.pos
 have z:(en t 0 (en L 0 0).toNat).toNat=0:=by
  have e:(en L 0 0).toNat=0:=Z
  rw[e];exact G.z1 0 G.pos
 rw[z]at f;have u:(cF n).length=n:=ep _ _
 refine ic (by rw[P.len,u]) fun i hi=>?_
 rw[P.len]at hi;have r:=P.rng i hi
 have q:(L.getD 0 []).getD i 0=(aE (L.getD 0 []) (L.getD 0 [])).getD i 0:=A4 (fun l:D1=>l.getD i 0) f
 rw[fK (by rw[P.len];exact hi)]at q
 have:=pI P.nd (i:=((L.getD 0 []).getD i 0).toNat) (j:=i) (by rw[P.len];omega) (by rw[P.len];exact hi) q.symm
 rw[cF,er _ _ _ hi];omega
theorem pn{n:Nat}{t:D2}(G:GrpT n t)(hn:n<=7):dc (cB t (aa t) 9 [] [])=bw t (aa t):=by
 have e:t.length=n:=G.tb.1
 have hlen:=iq G hn
 obtain⟨hA,_⟩:=mm G.tb G.pos (by omega)
 have hAn:=mq G hn
 have hA0:(aa t).getD 0 []=cF n:=by rw[s8 G.tb G.pos (by omega)];exact(zM G.tb G.pos).2
 have z0:Z0 n ((List.replicate t.length (-1)).set 0 0):=by rw[e];exact pH
 have ng:=zF G.pos
 obtain⟨k1,k2⟩:=LT G.tb hA 12 ((List.replicate t.length (-1)).set 0 0) (z0.ok hA) (by rw[e];omega) (fun hz=>by
  have n1:n=1:=by rw[e]at hz;omega
  have r0:=hA.pos
  refine⟨z0.1,fun x hx=>?_,fun x y hx hy=>?_⟩
  ·have x0:x=0:=by omega
   subst x0;rw[f4 (by rw[Bl,e];omega),AA rfl];omega
  ·have v:=mi G.tb hA (z0.ok hA) hx hy (by
    have x0:x=0:=by omega
    subst x0;rw[f4 (by rw[Bl,e];omega),AA rfl];omega)
   have zz:bP t (aa t) ((List.replicate t.length (-1)).set 0 0) x y=0:=by omega
   have x0:x=0:=by omega
   have y0:y=0:=by omega
   rw[zz,dN,x0,y0,f4 (by rw[Bl,e];omega),AA rfl]
   have:=(mm G.tb G.pos (by omega)).2
   omega)
 obtain⟨l1,l2⟩:=tK G.tb hA hAn 9 [] (AQ _) (by simp;omega) (fun r hr=>by cases hr) (fun h=>by have:=G.pos;simp at h;omega)
 have perm:((fx t (aa t) 12 ((List.replicate t.length (-1)).set 0 0)).map (gt (aa t))).Perm (iT t (aa t) 9 []):=by
  refine(DK (BE.2 (BZ (fun {K K'} hK hK' hne h=>hne (Rs hA hAn ((k1 K).1 hK).1 ((k1 K').1 hK').1 h)) k2)) l2).2 fun L=>?_
  rw[AH,l1]
  constructor
  ·rintro⟨K,hK,rfl⟩
   exact⟨Rt G.tb hA ((k1 K).1 hK).1,rfl⟩
  ·rintro⟨hL,_⟩
   obtain⟨b1,b2⟩:=Ru G.tb hA hL;refine⟨_,(k1 _).2 ⟨b1,fun x hx h0=>?_⟩,b2⟩
   by_cases x0:x=0
   ·subst x0
    rw[f4 (by rw[Bl,e];omega),AA rfl,jT _ _ [] 0 _ (by rw[hL.len];exact hx),IM G hn hL,<-hA0]
    have:=MK hAn (i:=0) hA.pos
    omega
   ·rw[f4 (by rw[Bl,e];omega),AB x0]at h0
    simp[List.getD,e,hx]at h0
 have cl:∀L,(dM t L).length=n:=fun L=>by rw[dM,pk,e]
 have tl:∀K,(bK t (aa t) K).length=n:=fun K=>by simp[bK,e]
 obtain⟨s1,s2⟩:=IK (n:=n) ((fx t (aa t) 12 ((List.replicate t.length (-1)).set 0 0)).map (bK t (aa t))) [] (fun k hk=>by cases hk) (fun k hk=>by
  obtain⟨K,_,rfl⟩:=AH.1 hk;exact tl K) List.Pairwise.nil
 rw[bw,Ea];refine Ro (IL _) s1 ((xe _).trans (.trans ?_ s2.symm))
 rw[tI,Ba,Ac];have:(fx t (aa t) 12 ((List.replicate t.length (-1)).set 0 0)).map (bK t (aa t))=((fx t (aa t) 12 ((List.replicate t.length (-1)).set 0 0)).map (gt (aa t))).map (dM t):=by
  rw[Bw];exact Bk fun K hK=>Rr G.tb hA ((k1 K).1 hK).1
 rw[this];exact(perm.map _).symm
section
variable {n:Nat} {t A:D2}
def aL(A:D2)(K:D1)(x:Nat):D1:=A.getD (K.getD x 0).toNat []
structure ClK (n:Nat) (t A:D2) (K:D1):Prop where
 ok:KOk n A.length K
 calm:∀x,x<n->∀y,y<n->pM t A K x y
 zero:0<=K.getD 0 0
theorem jr(K:D1)(x y:Nat):bP t A K x y=gM t x (ap (aL A K x) y):=rfl
theorem rq{K:D1}(hK:KOk n A.length K){x:Nat}(hx:x<n)(h:0<=K.getD x 0):aL A K x∈A:=by
 have:=hK.rng x hx
 exact bI A [] _ (by omega)
theorem IN{p q:D1}{i:Nat}(hi:i<p.length):ap (aE p q) i=ap q (ap p i):=by
 simp only[ap];rw[fK hi]
theorem ClK.mem(G:GrpT n t)(hA:AuOk n A)(hi:∀p∈A,isoL n [t] [t] p){K:D1}(h:ClK n t A K){x y:Nat}(hx:x<n)(hy:y<n)(kx:0<=K.getD x 0)(ky:0<=K.getD y 0) :
  bP t A K x y<n/\0<=K.getD (bP t A K x y) 0/\aL A K (bP t A K x y)=aE (aL A K y) (aL A K x):=by
 have z:=mi G.tb hA h.ok hx hy kx
 rcases h.calm x hx y hy with c|c|c
 ·omega
 ·omega
 ·refine⟨z.2.2,c.1,?_⟩
  have w:=nQ hA h.ok hx hy kx ky
  rw[aL,c.2,dN,gP,Am];exact(j9 w.1).2
theorem ClK.assoc(G:GrpT n t)(hA:AuOk n A)(hi:∀p∈A,isoL n [t] [t] p){K:D1}(h:ClK n t A K){x y w:Nat}(hx:x<n)(hy:y<n)(hw:w<n)(kx:0<=K.getD x 0)(ky:0<=K.getD y 0) :
  bP t A K (bP t A K x y) w=bP t A K x (bP t A K y w):=by
 obtain⟨z1,z2,z3⟩:=h.mem G hA hi hx hy kx ky;have px:=hi _ (rq h.ok hx kx)
 have py:=hi _ (rq h.ok hy ky)
 rw[jr K (bP t A K x y) w,z3,IN (by rw[py.len];exact hw),jr K x (bP t A K y w),jr K y w,jr K x y,jv G px hy (fb py hw)]
 exact G.asc x _ _ hx (fb px hy) (fb px (fb py hw))
theorem ClK.can(G:GrpT n t)(hi:∀p∈A,isoL n [t] [t] p){K:D1}(h:ClK n t A K){x y w:Nat}(hx:x<n)(hy:y<n)(hw:w<n)(kx:0<=K.getD x 0)(e:bP t A K x y=bP t A K x w):y=w:=by
 have px:=hi _ (rq h.ok hx kx)
 rw[jr,jr]at e;have e:=G.can x _ _ hx (fb px hy) (fb px hw) e
 have a:=px.rng y hy
 have b:=px.rng w hw
 simp only[ap]at e;exact pI px.nd (by rw[px.len];exact hy) (by rw[px.len];exact hw) (by omega)
def eR(n:Nat)(K:D1):List Nat:=(List.range n).filter fun x=>decide (0<=K.getD x 0)
theorem eZ{K:D1}{x:Nat}:x∈eR n K↔x<n/\0<=K.getD x 0:=by simp[eR]
theorem rt(n:Nat)(K:D1):(eR n K).Nodup:=Bb.filter _
theorem IP{a b:List Nat}(ha:a.Nodup)(h:∀x∈a,x∈b):a.length<=b.length:=by
 have:=jz (a:=a.map (fun x:Nat=>(x:Int))) (b:=b.map (fun x:Nat=>(x:Int))) (BE.2 (ha.imp fun hne e=>hne (by omega))) (fun x hx=>by
  obtain⟨y,hy,rfl⟩:=AH.1 hx;exact AH.2 ⟨y,h y hy,rfl⟩)
 simpa using this
theorem ClK.inv(G:GrpT n t)(hA:AuOk n A)(hi:∀p∈A,isoL n [t] [t] p){K:D1}(h:ClK n t A K){x:Nat}(hx:x<n)(kx:0<=K.getD x 0):∃y,y<n/\0<=K.getD y 0/\bP t A K x y=0:=by
 refine Av fun hno=>?_
 have nd:(0::(eR n K).map (bP t A K x)).Nodup:=by
  refine AZ.2 ⟨fun hm=>?_,BE.2 (BZ (fun {a b} ha hb hne e=>hne (h.can G hi hx (eZ.1 ha).1 (eZ.1 hb).1 kx e)) (rt n K))⟩
  obtain⟨y,hy,e⟩:=AH.1 hm;exact hno ⟨y,(eZ.1 hy).1,(eZ.1 hy).2,e⟩
 have:=IP nd (b:=eR n K) (fun y hy=>by
  rcases AG.1 hy with rfl|hy
  ·exact eZ.2 ⟨G.pos,h.zero⟩
  ·obtain⟨z,hz,rfl⟩:=AH.1 hy
   have q:=h.mem G hA hi hx (eZ.1 hz).1 kx (eZ.1 hz).2
   exact eZ.2 ⟨q.1,q.2.1⟩)
 rw[AS,AR]at this;omega
theorem ClK.dbl(G:GrpT n t)(hA:AuOk n A)(hi:∀p∈A,isoL n [t] [t] p){K K':D1}(h:ClK n t A K)(h':ClK n t A K')(hs:cU n K K'){p:Nat}(hp:p<n)(kp:¬ 0<=K.getD p 0)(kp':0<=K'.getD p 0) :
  2*(eR n K).length<=(eR n K').length:=by
 have up:∀x,x<n->0<=K.getD x 0->0<=K'.getD x 0:=fun x hx k=>by rw[hs x hx k];exact k
 have zz:∀x y,x<n->0<=K.getD x 0->bP t A K' x y=bP t A K x y:=fun x y hx k=>by rw[jr,jr,aL,aL,hs x hx k]
 have nd:(eR n K++(eR n K).map (bP t A K' p)).Nodup:=by
  rw[Ad];refine⟨rt n K,BE.2 (BZ (fun {a b} ha hb hne e=>hne (h'.can G hi hp (eZ.1 ha).1 (eZ.1 hb).1 kp' e)) (rt n K)),fun a ha b hb e=>?_⟩
  obtain⟨s,hs1,rfl⟩:=AH.1 hb;obtain⟨a1,a2⟩:=eZ.1 ha;obtain⟨s1,s2⟩:=eZ.1 hs1;obtain⟨y,y1,y2,y3⟩:=h.inv G hA hi s1 s2;have has:=h'.assoc G hA hi hp s1 y1 kp' (up s s1 s2)
  rw[<-e,zz s y s1 s2,y3,zz a y a1 a2,jr K' p 0,gO G (hi _ (rq h'.ok hp kp')),G.z2 p hp]at has;have:=(h.mem G hA hi a1 y1 a2 y2).2.1
  rw[has]at this;exact kp this
 have:=IP nd (b:=eR n K') (fun x hx=>by
  rcases AI.1 hx with hx|hx
  ·obtain⟨x1,x2⟩:=eZ.1 hx
   exact eZ.2 ⟨x1,up x x1 x2⟩
  ·obtain⟨s,hs1,rfl⟩:=AH.1 hx
   obtain⟨s1,s2⟩:=eZ.1 hs1;have q:=h'.mem G hA hi hp s1 kp' (up s s1 s2)
   exact eZ.2 ⟨q.1,q.2.1⟩)
 simp only[Ag,AR]at this;omega
theorem Rv(n:Nat)(K:D1):(eR n K).length<=n:=za n _ (rt n K) fun x hx=>(eZ.1 hx).1
theorem IQ(G:GrpT n t)(hA:AuOk n A)(hi:∀p∈A,isoL n [t] [t] p):∀(d j:Nat) (K:D1),ClK n t A K->n<2 ^ (j+1)*(eR n K).length->(fx t A d K).length<=A.length ^ j
 |0,j,K,_,_=>AQ _
 |d+1,j,K,hK,hj=>by
  rw[fx];by_cases hp:aB K=K.length
  ·rw[AA hp]
   exact DL j _ hA.pos
  ·rw[AB hp]
   have ψ:aB K<K.length:=by have:=mj K;omega
   have hneg:=sV K ψ
   have hpn:aB K<n:=by rw[<-hK.ok.len];exact ψ
   have br:∀i,i<A.length->∀K',da t A (K.set (aB K) (i:Int))=some K'->ClK n t A K'/\2*(eR n K).length<=(eR n K').length:=fun i hi' K' h=>by
    have hset:=hK.ok.set (aB K) (w:=(i:Int)) ⟨by omega,by omega⟩
    have g1:=(kT G.tb hA hK.ok ψ hi' h).1
    have hfu:az (K.set (aB K) (i:Int))<t.length+1:=by
     have:=zx (K.set (aB K) (i:Int))
     rw[hset.len]at this;rw[G.tb.1];omega
    obtain⟨f1,f2⟩:=D9 G.tb hA _ hset hfu h;have sub:cU n K K':=fun x hx h0=>by
     have ne:x≠aB K:=fun e=>by rw[e]at h0;omega
     have e:=f4 (x:=x) (w:=(i:Int)) ψ
     rw[AB ne]at e;rw[f1 x hx (by rw[e];exact h0),e]
    have kp:0<=K'.getD (aB K) 0:=by
     have e:=f4 (x:=aB K) (w:=(i:Int)) ψ
     rw[AA rfl]at e;rw[f1 _ hpn (by rw[e];omega),e];omega
    have c:ClK n t A K':=⟨g1,f2,by rw[sub 0 G.pos hK.zero];exact hK.zero⟩
    exact⟨c,hK.dbl G hA hi c sub hpn (by omega) kp⟩
   cases j with
   |zero =>
    have none:∀i∈List.range A.length,(match da t A (K.set (aB K) (i:Int))with|none=>[]|some K'=>fx t A d K').length<=0:=fun i hi'=>by
     split
     ·exact AE _
     ·rename_i K' h
      obtain⟨_,b⟩:=br i (by simpa using hi') K' h
      have:=Rv n K'
      simp only[AJ,Nat.pow_one]at hj;omega
    exact Ar (tL _ 0 _ none) (by omega)
   |succ j =>
    have:=tL (fun i:Nat=>match da t A (K.set (aB K) (i:Int))with|none=>[]|some K'=>fx t A d K') (A.length ^ j) (List.range A.length) (fun i hi'=>by
     split
     ·exact AQ _
     ·rename_i K' h
      obtain⟨c,b⟩:=br i (by simpa using hi') K' h
      refine IQ G hA hi d j K' c ?_
      have e:2 ^ (j+1+1)*(eR n K).length=2 ^ (j+1)*(2*(eR n K).length):=by rw[CJ 2 (j+1),Nat.mul_assoc]
      have l:2 ^ (j+1)*(2*(eR n K).length)<=2 ^ (j+1)*(eR n K').length:=Cn _ b
      omega)
    rw[CV,CK,<-CJ]at this;exact this
end
theorem IR:∀(l out:D3),(l.foldl fJ out).length=l.length+out.length
 | [],out=>by simp
 |c::l,out=>by
  rw[Co,IR l,sU];simp;omega
theorem xf{n:Nat}{t:D2}(G:GrpT n t)(hn:n<=7):(bw t (aa t)).length<=2401:=by
 have e:t.length=n:=G.tb.1
 have hlen:=iq G hn
 have hpos:=G.pos
 obtain⟨hA,h0⟩:=mm G.tb G.pos (by omega)
 have hA0:(aa t).getD 0 []=cF n:=by rw[s8 G.tb G.pos (by omega)];exact(zM G.tb G.pos).2
 have z0:Z0 n ((List.replicate t.length (-1)).set 0 0):=by rw[e];exact pH
 have get:∀x,x<n->((List.replicate t.length (-1)).set 0 0).getD x 0=if x=0 then 0 else -1:=fun x hx=>by
  rw[f4 (by rw[Bl,e];omega)]
  split
  ·rfl
  ·simp[List.getD,e,hx]
 have cl:ClK n t (aa t) ((List.replicate t.length (-1)).set 0 0):=by
  refine⟨z0.ok hA,fun x hx y hy=>?_,by rw[get 0 hpos];simp⟩
  by_cases x0:x=0
  ·by_cases y0:y=0
   ·subst x0;subst y0
    have g0:=get 0 hpos
    rw[AA rfl]at g0;have z:bP t (aa t) ((List.replicate t.length (-1)).set 0 0) 0 0=0:=by
     rw[jr,aL,g0];have:(0:Int).toNat=0:=rfl
     rw[this,hA0];have:ap (cF n) 0=0:=by rw[ap,cF,er _ _ _ hpos];rfl
     rw[this,G.z1 0 hpos]
    refine .inr (.inr ⟨by rw[z,g0];omega,by rw[z,g0,dN,g0,h0];rfl⟩)
   ·exact .inr (.inl (by rw[get y hy,AB y0];omega))
  ·exact .inl (by rw[get x hx,AB x0];omega)
 have one:1<=(eR n ((List.replicate t.length (-1)).set 0 0)).length:=CW (eZ.2 ⟨hpos,by rw[get 0 hpos];simp⟩)
 have:=IQ G hA (fun p hp=>gS G hn hp) 12 2 _ cl (by omega)
 rw[bw,Ea,IR,AR,Bn,Bc];have q:(aa t).length ^ 2<=49 ^ 2:=Nat.pow_le_pow_left hlen 2
 omega
structure IsP (n:Nat) (p:D1):Prop where
 len:p.length=n
 rng:∀i,i<n->0<=p.getD i 0/\p.getD i 0<(n:Int)
 nd:p.Nodup
theorem isoL.p{n:Nat}{a b:D3}{p:D1}(h:isoL n a b p):IsP n p:=⟨h.len,h.rng,h.nd⟩
section
variable {n:Nat} {p:D1}
theorem IsP.lt(h:IsP n p){x:Nat}(hx:x<n):ap p x<n:=by have:=h.rng x hx;simp only[ap];omega
theorem IsP.int(h:IsP n p){x:Nat}(hx:x<n):p.getD x 0=(ap p x:Int):=by have:=h.rng x hx;simp only[ap];omega
theorem IsP.inj(h:IsP n p){x y:Nat}(hx:x<n)(hy:y<n)(e:ap p x=ap p y):x=y:=by
 have a:=h.rng x hx
 have b:=h.rng y hy
 simp only[ap]at e;exact pI h.nd (by rw[h.len];exact hx) (by rw[h.len];exact hy) (by omega)
theorem IsP.onto(h:IsP n p){x:Nat}(hx:x<n):∃k,k<n/\ap p k=x:=by
 have:=(ue (fun x hx=>h.lt hx) (fun x y hx hy e=>h.inj hx hy e)).mem_iff (a:=x)
 have:=this.2 (Af.2 hx)
 obtain⟨k,hk,e⟩:=AH.1 this;exact⟨k,Af.1 hk,e⟩
theorem xg(h:IsP n p):∀(i k:Nat),i<=n->k<i->(ft p i).getD (ap p k) 0=(k:Int)
 |0,_,_,hk=>by omega
 |i+1,k,hi,hk=>by
  have rk:=h.lt (x:=k) (by omega)
  have e0:(p.getD i 0).toNat=ap p i:=rfl
  rw[ft,iM _ _ _ _ (by rw[nP,h.len];omega),e0]
  by_cases e:k=i
  ·rw[e,AA rfl]
  ·rw[AB fun q=>e (h.inj (by omega) (by omega) q)]
   exact xg h i k (by omega) (by omega)
theorem IsP.back(h:IsP n p){k:Nat}(hk:k<n):ap (b6 p) (ap p k)=k:=by
 have:=xg h n k (AE _) hk
 rw[ap,b6,h.len,this];rfl
theorem IsP.bk(h:IsP n p):IsP n (b6 p):=by
 have hl:(b6 p).length=n:=by rw[b6,nP,h.len]
 have at':∀k,k<n->(b6 p).getD (ap p k) 0=(k:Int):=fun k hk=>by rw[b6,h.len];exact xg h n k (AE _) hk
 refine⟨hl,fun i hi=>?_,?_⟩
 ·obtain⟨k,hk,rfl⟩:=h.onto hi
  rw[at' k hk];omega
 ·refine BD.2 fun i j hi hj hij e=>?_
  rw[hl]at hi hj;obtain⟨k,hk,rfl⟩:=h.onto hi;obtain⟨l,hl2,rfl⟩:=h.onto hj;have a:=at' k hk
  have b:=at' l hl2
  rw[bv _ _ _ (by omega)]at a b
  have:k=l:=by omega
  subst this;omega
theorem IsP.th{q:D1}(h:IsP n p)(k:IsP n q):IsP n (aE p q):=by
 have hl:(aE p q).length=n:=by rw[fL,h.len]
 have g:∀i,i<n->(aE p q).getD i 0=(ap q (ap p i):Int):=fun i hi=>by
  rw[fK (by rw[h.len];exact hi)]
  exact k.int (h.lt hi)
 refine⟨hl,fun i hi=>?_,?_⟩
 ·have:=k.lt (h.lt hi)
  rw[g i hi];omega
 ·refine BD.2 fun i j hi hj hij e=>?_
  rw[hl]at hi hj;have a:=g i hi
  have b:=g j hj
  rw[bv _ _ _ (by omega)]at a b
  have:=h.inj hi hj (k.inj (h.lt hi) (h.lt hj) (by omega))
  omega
theorem ie{q:D1}(h:IsP n p){i:Nat}(hi:i<n):ap (aE p q) i=ap q (ap p i):=IN (by rw[h.len];exact hi)
theorem xh(n:Nat):IsP n (cF n) where
 len:=ep _ _
 rng i hi:=by rw[cF,er _ _ _ hi];omega
 nd:=by
  rw[cF,au,List.Nodup,BE];exact(Bb (n:=n)).imp fun {x y} h e=>h (by omega)
theorem rx{i:Nat}(hi:i<n):ap (cF n) i=i:=by rw[ap,cF,er _ _ _ hi];simp
end
theorem Rw{n:Nat}{a b:D2}(ha:aA n a)(hb:aA n b)(h:∀x y,x<n->y<n->en a x y=en b x y):a=b:=by
 refine BP (by rw[ha.1,hb.1]) fun x h1 h2=>?_
 rw[ha.1]at h1;have ra:=(ha.2 x h1).1
 have rb:=(hb.2 x h1).1
 rw[bv _ _ _ (by rw[ha.1];exact h1)]at ra
 rw[bv _ _ _ (by rw[hb.1];exact h1)]at rb
 refine ic (by omega) fun y hy=>?_
 have:=h x y h1 (by omega)
 simp only[en]at this
 rwa[bv a _ _ (by rw[ha.1];exact h1),bv b _ _ (by rw[hb.1];exact h1)]at this
theorem IS{n:Nat}{F:Nat->Nat->Int}(h:∀x y,x<n->y<n->0<=F x y/\F x y<(n:Int)):aA n (b9 n F):=by
 refine⟨pk _ _,fun x hx=>⟨by rw[pm _ _ _ hx,ep],fun y hy=>?_⟩⟩
 simp only[en];rw[pm _ _ _ hx,er _ _ _ hy];exact h x y hx hy
theorem IT{n:Nat}{F:Nat->Nat->Int}{x y:Nat}(hx:x<n)(hy:y<n):en (b9 n F) x y=F x y:=by
 simp only[en];rw[pm _ _ _ hx,er _ _ _ hy]
structure ImO (n:Nat) (t:D2) (p:D1) (c:D2):Prop where
 tb:aA n c
 eq:∀x y,x<n->y<n->en c (ap p x) (ap p y)=p.getD (gM t x y) 0
theorem ImO.uniq{n:Nat}{t c d:D2}{p:D1}(hp:IsP n p)(h:ImO n t p c)(k:ImO n t p d):c=d:=by
 refine Rw h.tb k.tb fun x y hx hy=>?_
 obtain⟨a,ha,rfl⟩:=hp.onto hx;obtain⟨b,hb,rfl⟩:=hp.onto hy;rw[h.eq a b ha hb,k.eq a b ha hb]
theorem jU{n:Nat}{t:D2}(ht:aA n t){x y:Nat}(hx:x<n)(hy:y<n):gM t x y<n:=by
 have:=(ht.2 x hx).2 y hy
 simp only[gM];omega
theorem ImO.un{n:Nat}{t:D2}(ht:aA n t):ImO n t (cF n) t:=⟨ht,fun x y hx hy=>by
 have v:=(ht.2 x hx).2 y hy
 rw[rx hx,rx hy,(xh n).int (jU ht hx hy),rx (jU ht hx hy),gM];omega⟩
theorem ImO.th{n:Nat}{t c d:D2}{p q:D1}(hp:IsP n p)(hq:IsP n q)(ht:aA n t)(h:ImO n t p c)(k:ImO n c q d):ImO n t (aE p q) d:=⟨k.tb,fun x y hx hy=>by
 have e:=h.eq x y hx hy
 have l:=jU ht hx hy
 rw[ie hp hx,ie hp hy,k.eq _ _ (hp.lt hx) (hp.lt hy),(hp.th hq).int l,ie hp l];rw[hq.int (jU h.tb (hp.lt hx) (hp.lt hy))]
 congr 2
 rw[gM,e];rfl⟩
theorem ImO.back{n:Nat}{t c:D2}{p:D1}(hp:IsP n p)(ht:aA n t)(h:ImO n t p c):ImO n c (b6 p) t:=⟨ht,fun x y hx hy=>by
 obtain⟨a,ha,rfl⟩:=hp.onto hx;obtain⟨b,hb,rfl⟩:=hp.onto hy;have v:=(ht.2 a ha).2 b hb
 have l:=jU ht ha hb
 have e:=h.eq a b ha hb
 have g:gM c (ap p a) (ap p b)=ap p (gM t a b):=by rw[gM,e];rfl
 rw[hp.back ha,hp.back hb,g,hp.bk.int (hp.lt l),hp.back l,gM];omega⟩
def eS(t:D2)(p:D1):D2:=b9 t.length fun x y=>p.getD (en t ((b6 p).getD x 0).toNat ((b6 p).getD y 0).toNat).toNat 0
theorem IU{n:Nat}{t:D2}{p:D1}(ht:aA n t)(hp:IsP n p):ImO n t p (eS t p):=by
 have e:t.length=n:=ht.1
 have el:∀x y,x<n->y<n->en t ((b6 p).getD x 0).toNat ((b6 p).getD y 0).toNat=en t (ap (b6 p) x) (ap (b6 p) y):=fun _ _ _ _=>rfl
 refine⟨?_,fun x y hx hy=>?_⟩
 ·rw[eS,e]
  exact IS fun x y hx hy=>hp.rng _ (jU ht (hp.bk.lt hx) (hp.bk.lt hy))
 ·rw[eS,e,IT (hp.lt hx) (hp.lt hy),el _ _ (hp.lt hx) (hp.lt hy),hp.back hx,hp.back hy,gM]
/- The reference's image. -/
section
variable {n:Nat} {t:D2} {p:D1}
theorem IV{o:D2}(ho:aA n o){i j x y:Nat}(hi:i<n)(hj:j<n){v:Int}:en (o.set i ((o.getD i []).set j v)) x y=if x=i/\y=j then v else en o x y:=by
 simp only[en];by_cases hx:x=i
 ·subst hx
  have e:(o.set x ((o.getD x []).set j v)).getD x []=(o.getD x []).set j v:=by
   rw[AP,Bd (by rw[ho.1];exact hi)];rfl
  rw[e];by_cases hy:y=j
  ·subst hy
   rw[AA ⟨rfl,rfl⟩,AP,Bd (by rw[(ho.2 x hi).1];exact hj)];rfl
  ·rw[AB fun h=>hy h.2,AP,A8 (AM hy),<-AP]
 ·rw[AB fun h=>hx h.1]
  have e:(o.set i ((o.getD i []).set j v)).getD x []=o.getD x []:=by
   rw[AP,A8 (AM hx),<-AP]
  rw[e]
theorem Rx{o:D2}(ho:aA n o){i j:Nat}(hi:i<n)(hj:j<n){v:Int}(hv:0<=v/\v<(n:Int)):aA n (o.set i ((o.getD i []).set j v)):=by
 refine⟨by rw[Ak];exact ho.1,fun x hx=>⟨?_,fun y hy=>?_⟩⟩
 ·by_cases hxi:x=i
  ·subst hxi
   have e:(o.set x ((o.getD x []).set j v)).getD x []=(o.getD x []).set j v:=by
    rw[AP,Bd (by rw[ho.1];exact hi)];rfl
   rw[e,Ak];exact(ho.2 x hi).1
  ·have e:(o.set i ((o.getD i []).set j v)).getD x []=o.getD x []:=by
    rw[AP,A8 (AM hxi),<-AP]
   rw[e];exact(ho.2 x hx).1
 ·rw[IV ho hi hj]
  split
  ·exact hv
  ·exact(ho.2 x hx).2 y hy
theorem IW(ht:aA n t)(hp:IsP n p){x:Nat}(hx:x<n){o:D2}(ho:aA n o):∀y,y<=n->aA n (fq t p x y o) /\
  ∀a b,a<n->b<n->en (fq t p x y o) (ap p a) (ap p b)=if a=x/\b<y then p.getD (gM t a b) 0 else en o (ap p a) (ap p b)
 |0,_=>⟨ho,fun a b _ _=>by rw[AB (by omega)];rfl⟩
 |y+1,hy=>by
  obtain⟨h1,h2⟩:=IW ht hp hx ho y (by omega)
  have e1:(p.getD x 0).toNat=ap p x:=rfl
  have e2:(p.getD y 0).toNat=ap p y:=rfl
  have e3:((t.getD x []).getD y 0).toNat=gM t x y:=rfl
  have st:fq t p x (y+1) o=(fq t p x y o).set (ap p x) (((fq t p x y o).getD (ap p x) []).set (ap p y) (p.getD (gM t x y) 0)):=rfl
  rw[st];have lx:=hp.lt hx
  have ly:=hp.lt (x:=y) (by omega)
  refine⟨Rx h1 lx ly (hp.rng _ (jU ht hx (by omega))),fun a b ha hb=>?_⟩
  rw[IV h1 lx ly];by_cases hab:ap p a=ap p x/\ap p b=ap p y
  ·have ea:=hp.inj ha hx hab.1
   have eb:=hp.inj hb (by omega) hab.2
   subst ea;subst eb;rw[AA hab,AA ⟨rfl,by omega⟩]
  ·rw[AB hab,h2 a b ha hb]
   by_cases hc:a=x/\b<y
   ·rw[AA hc,AA ⟨hc.1,by omega⟩]
   ·rw[AB hc,AB]
    rintro⟨h3,h4⟩
    subst h3;have:b=y:=by omega
    subst this;exact hab ⟨rfl,rfl⟩
theorem xi(ht:aA n t)(hp:IsP n p):∀X,X<=n->aA n (bn t p X)/\∀a b,a<X->b<n->en (bn t p X) (ap p a) (ap p b)=p.getD (gM t a b) 0
 |0,_=>⟨ht,fun a b h=>by omega⟩
 |X+1,hX=>by
  obtain⟨h1,h2⟩:=xi ht hp X (by omega)
  have e:t.length=n:=ht.1
  obtain⟨k1,k2⟩:=IW ht hp (x:=X) (by omega) h1 n (AE _)
  have st:bn t p (X+1)=fq t p X n (bn t p X):=by rw[bn,e]
  rw[st];refine⟨k1,fun a b ha hb=>?_⟩
  rw[k2 a b (by omega) hb]
  by_cases hc:a=X
  ·rw[AA ⟨hc,hb⟩]
  ·rw[AB fun h=>hc h.1];exact h2 a b (by omega) hb
theorem fY(ht:aA n t)(hp:IsP n p):ImO n t p (bn t p n):=⟨(xi ht hp n (AE _)).1,(xi ht hp n (AE _)).2⟩
theorem IX(ht:aA n t)(hp:IsP n p):eS t p=bn t p n:=(IU ht hp).uniq hp (fY ht hp)
end
/- Automorphisms. -/
section
variable {n:Nat} {t:D2}
theorem fH(G:GrpT n t)(hn:n<=7){p:D1}:p∈aa t↔isoL n [t] [t] p:=by
 have hl:=iq G hn
 rw[s8 G.tb G.pos (by omega),pO (ml G.tb) G.pos]
 refine⟨fun h=>h.1,fun h=>⟨h,?_⟩⟩
 have z:=gO G h
 have:=h.rng 0 G.pos
 simp only[ap]at z;omega
theorem IY(G:GrpT n t){p:D1}(hp:IsP n p)(h:∀x y,x<n->y<n->ap p (gM t x y)=gM t (ap p x) (ap p y)):isoL n [t] [t] p:=by
 refine⟨hp.len,hp.rng,hp.nd,fun k x y hk hx hy hv=>?_⟩
 have k0:k=0:=by simp at hk;omega
 subst k0;rw[hp.len]at hx hy;have e:[t].getD 0 []=t:=rfl
 rw[e]at hv⊢;have v:=(G.tb.2 x hx).2 y hy
 have q:=h x y hx hy
 have l:=hp.rng _ (jU G.tb hx hy)
 have r:=(G.tb.2 _ (hp.lt hx)).2 _ (hp.lt hy)
 show p.getD (gM t x y) 0=en t (ap p x) (ap p y)
 simp only[gM]at q l⊢;simp only[ap]at q r⊢;omega
theorem xj(G:GrpT n t){p:D1}(h:isoL n [t] [t] p):isoL n [t] [t] (b6 p):=by
 have P:=h.p
 refine IY G P.bk fun x y hx hy=>?_
 obtain⟨a,ha,rfl⟩:=P.onto hx;obtain⟨b,hb,rfl⟩:=P.onto hy;rw[<-jv G h ha hb,P.back (G.lt ha hb),P.back ha,P.back hb]
theorem ry(G:GrpT n t)(hn:n<=7){L:D2}(hL:SolL n t (aa t) L):aA n (dM t L):=by
 rw[dM,G.tb.1];refine IS fun x y hx hy=>?_
 have P:=((fH G hn).1 (hL.mem x hx)).p
 exact(G.tb.2 x hx).2 _ (P.lt hy)
theorem po(G:GrpT n t){L:D2}{x y:Nat}(hx:x<n)(hy:y<n):gM (dM t L) x y=gM t x (ap (L.getD x []) y):=by
 rw[gM,dM,G.tb.1,IT hx hy];rfl
theorem pq(G:GrpT n t)(hn:n<=7){c:D2}:c∈bw t (aa t)↔∃L,SolL n t (aa t) L/\c=dM t L:=by
 have hlen:=iq G hn
 obtain⟨hA,_⟩:=mm G.tb G.pos (by omega)
 obtain⟨l1,l2⟩:=tK G.tb hA (mq G hn) 9 [] (AQ _) (by simp;omega) (fun r hr=>by cases hr) (fun h=>by have:=G.pos;simp at h;omega)
 rw[<-pn G hn,(xe _).mem_iff,tI,Ba,AH]
 constructor
 ·rintro⟨L,h1,h2⟩;exact⟨L,((l1 L).1 h1).1,h2.symm⟩
 ·rintro⟨L,h1,h2⟩;exact⟨L,(l1 L).2 ⟨h1,rfl⟩,h2.symm⟩
theorem Ry(G:GrpT n t)(hn:n<=7){L M:D2}(hL:SolL n t (aa t) L)(hM:SolL n t (aa t) M)(e:dM t L=dM t M):L=M:=by
 refine BP (by rw[hL.len,hM.len]) fun x h1 h2=>?_
 rw[hL.len]at h1;have PL:=((fH G hn).1 (hL.mem x h1)).p
 have PM:=((fH G hn).1 (hM.mem x h1)).p
 rw[<-bv L [] x (by rw[hL.len];exact h1),<-bv M [] x (by rw[hM.len];exact h1)]
 refine ic (by rw[PL.len,PM.len]) fun y hy=>?_
 rw[PL.len]at hy;have a:=po G (L:=L) h1 hy
 rw[e,po G h1 hy]at a;have:=G.can x _ _ h1 (PM.lt hy) (PL.lt hy) a
 rw[PL.int hy,PM.int hy,this]
theorem xk(G:GrpT n t)(hn:n<=7):(bw t (aa t)).Nodup:=by
 have hlen:=iq G hn
 obtain⟨hA,_⟩:=mm G.tb G.pos (by omega)
 obtain⟨l1,l2⟩:=tK G.tb hA (mq G hn) 9 [] (AQ _) (by simp;omega) (fun r hr=>by cases hr) (fun h=>by have:=G.pos;simp at h;omega)
 rw[<-pn G hn,(xe _).nodup_iff,tI,Ba];exact BE.2 (BZ (fun {L M} h1 h2 hne e=>hne (Ry G hn ((l1 L).1 h1).1 ((l1 M).1 h2).1 e)) l2)
theorem Rz(G:GrpT n t)(hn:n<=7):jq (bw t (aa t)):=by rw[<-pn G hn];exact IL _
theorem RA(G:GrpT n t)(hn:n<=7){f:D1}(hf:f∈aa t){c d:D2}(hc:c∈bw t (aa t))(h:ImO n c f d):d∈bw t (aa t):=by
 obtain⟨L,hL,rfl⟩:=(pq G hn).1 hc;have F:=(fH G hn).1 hf
 have P:=F.p
 have I:=fun x hx=>(fH G hn).1 (hL.mem x hx)
 let L':D2:=(List.range n).map fun u=>aE (b6 f) (aE (L.getD (ap (b6 f) u) []) f)
 have g:∀x,x<n->L'.getD (ap f x) []=aE (b6 f) (aE (L.getD x []) f):=fun x hx=>by
  show((List.range n).map _).getD _ _=_
  rw[jT _ _ 0 _ _ (by rw[CV];exact P.lt hx),bv (List.range n) 0 _ (by rw[CV];exact P.lt hx),List.getElem_range,P.back hx]
 have iso:∀x,x<n->isoL n [t] [t] (aE (b6 f) (aE (L.getD x []) f)):=fun x hx=>kU G.tb (xj G F) (kU G.tb (I x hx) F)
 have ev:∀x y,x<n->y<n->ap (aE (b6 f) (aE (L.getD x []) f)) (ap f y)=ap f (ap (L.getD x []) y):=fun x y hx hy=>by
  rw[ie P.bk (P.lt hy),P.back hy,ie (I x hx).p hy]
 have hL':SolL n t (aa t) L':=by
  refine⟨by show((List.range n).map _).length=n;simp,fun u hu=>?_,fun u v hu hv=>?_⟩
  ·obtain⟨x,hx,rfl⟩:=P.onto hu
   rw[g x hx];exact(fH G hn).2 (iso x hx)
  ·obtain⟨x,hx,rfl⟩:=P.onto hu
   obtain⟨y,hy,rfl⟩:=P.onto hv;have zl:gM t x (ap (L.getD x []) y)<n:=G.lt hx ((I x hx).p.lt hy)
   have z:(en t (ap f x) (en L' (ap f x) (ap f y)).toNat).toNat=ap f (gM t x (ap (L.getD x []) y)):=by
    show gM t (ap f x) (ap (L'.getD (ap f x) []) (ap f y))=_
    rw[g x hx,ev x y hx hy,<-jv G F hx ((I x hx).p.lt hy)]
   have fit:L.getD (gM t x (ap (L.getD x []) y)) []=aE (L.getD y []) (L.getD x []):=hL.fit x y hx hy
   rw[z,g _ zl,g x hx,g y hy,fit];have A1:=kU G.tb (xj G F) (kU G.tb (kU G.tb (I y hy) (I x hx)) F)
   have A2:=kU G.tb (iso y hy) (iso x hx)
   refine ic (by rw[A1.len,A2.len]) fun w hw=>?_
   rw[A1.len]at hw;rw[A1.p.int hw,A2.p.int hw]
   congr 1
   obtain⟨k,hk,rfl⟩:=P.onto hw;rw[ie P.bk (P.lt hk),P.back hk,ie ((I y hy).p.th (I x hx).p) hk,ie (I y hy).p hk,ie (iso y hy).p (P.lt hk),ev y k hy hk,ev x _ hx ((I y hy).p.lt hk)]
 refine(pq G hn).2 ⟨L',hL',?_⟩
 have k:ImO n (dM t L) f (dM t L'):=⟨ry G hn hL',fun x y hx hy=>by
  have v:=(ry G hn hL').2 _ (P.lt hx)
  have v2:=v.2 _ (P.lt hy)
  have e1:=po G (L:=L') (P.lt hx) (P.lt hy)
  have l:=G.lt hx ((I x hx).p.lt hy)
  rw[g x hx,ev x y hx hy,<-jv G F hx ((I x hx).p.lt hy)]at e1;rw[po G hx hy,P.int l];simp only[gM]at e1⊢;omega⟩
 exact h.uniq P k
end
end Go.Sx
