/- SrtN -/
import Derived.Test.YtkmldclpaniclaaGreatBrs
import Derived.Test.YtkmldclpaniclaaGreatCmp
import Derived.Shelf.SlSortCmp.NoneTotal
import Derived.Lib.OwnBridge
set_option linter.unusedSimpArgs false
set_option linter.unusedVariables false
set_option linter.defProp false
section
open Go Go.Proofs
namespace Go.Sx
def i4(A:D2)(c:D2):Bool:=A.all fun f=>!ca (bn c f c.length) c
def oA(t A:D2):D3:=(bw t A).filter (i4 A)
theorem Xc{a b c:D2}(h:eA a b<=0)(k:eA b c<0):eA a c<0:=by
 have h1:=dO.le a b c h (by omega)
 refine Av fun hn=>?_
 have e:eA a c=0:=by omega
 have:=(dO.zero a c).1 e
 subst this;have:=dO.anti a b
 omega
theorem FK:∀(l:D3),l≠[]->∃m∈l,∀x∈l,eA m x<=0
 | [],h=>absurd rfl h
 | [a],_=>⟨a,by simp,fun x hx=>by
  rw[As]at hx;subst hx;have:=(dO.zero x x).2 rfl
  omega⟩
 |a::b::l,_=>by
  obtain⟨m,hm,h⟩:=FK (b::l) (by simp)
  by_cases hc:eA a m<=0
  ·refine⟨a,by simp,fun x hx=>?_⟩
   rcases AG.1 hx with rfl|hx
   ·have:=(dO.zero x x).2 rfl
    omega
   ·exact dO.le _ _ _ hc (h x hx)
  ·refine⟨m,AO _ hm,fun x hx=>?_⟩
   rcases AG.1 hx with rfl|hx
   ·have:=dO.anti x m
    omega
   ·exact h x hx
section
variable {n:Nat} {t:D2}
theorem iy(G:GrpT n t)(hn:n<=7){f:D1}(hf:f∈aa t):IsP n f:=((fH G hn).1 hf).p
theorem oB(G:GrpT n t)(hn:n<=7){f:D1}(hf:f∈aa t):b6 f∈aa t:=(fH G hn).2 (xj G ((fH G hn).1 hf))
theorem pZ(G:GrpT n t)(hn:n<=7){f g:D1}(hf:f∈aa t)(hg:g∈aa t):aE f g∈aa t:=(fH G hn).2 (kU G.tb ((fH G hn).1 hf) ((fH G hn).1 hg))
theorem kj(G:GrpT n t)(hn:n<=7){c:D2}(hc:c∈bw t (aa t)):aA n c:=by rw[<-rK G hn]at hc;exact Jn G hn hc
theorem FL(G:GrpT n t)(hn:n<=7){f:D1}(hf:f∈aa t){c:D2}(hc:c∈bw t (aa t)):bn c f n∈bw t (aa t) :=
 RA G hn hf hc (fY (kj G hn hc) (iy G hn hf))
theorem p9(G:GrpT n t)(hn:n<=7){f:D1}(hf:f∈aa t){c:D2}(hc:aA n c):bn (bn c f n) (b6 f) n=c:=by
 have P:=iy G hn hf
 have h:=fY hc P
 exact(fY h.tb P.bk).uniq P.bk (h.back P hc)
theorem qa(G:GrpT n t)(hn:n<=7){f g:D1}(hf:f∈aa t)(hg:g∈aa t){c:D2}(hc:aA n c):bn (bn c f n) g n=bn c (aE f g) n:=by
 have P:=iy G hn hf
 have Q:=iy G hn hg
 have h:=fY hc P
 exact(h.th P Q hc (fY h.tb Q)).uniq (P.th Q) (fY hc (P.th Q))
theorem FM(G:GrpT n t)(hn:n<=7):cF n∈aa t:=(fH G hn).2 (Lg G.tb)
theorem Ok(G:GrpT n t)(hn:n<=7):∀i,i<=(bw t (aa t)).length->(dp (aa t) ((bw t (aa t)).take i)).2=((bw t (aa t)).take i).filter (i4 (aa t)) /\
  ∀s,s∈(dp (aa t) ((bw t (aa t)).take i)).1↔∃c∈((bw t (aa t)).take i).filter (i4 (aa t)),∃f∈aa t,s=bn c f n
 |0,_=>by simp[dp]
 |i+1,hi=>by
  obtain⟨h1,h2⟩:=Ok G hn i (by omega)
  have hil:i<(bw t (aa t)).length:=by omega
  have hc:=bI (bw t (aa t)) [] i hil
  have ψ:=bv (bw t (aa t)) [] i hil
  have srt:=BD.1 (Rz G hn)
  have nd:=BD.1 (xk G hn)
  have tk:(bw t (aa t)).take (i+1)=(bw t (aa t)).take i++[(bw t (aa t)).getD i []]:=(dZ _ [] i hil).symm
  have tb:=kj G hn hc
  have before:∀m∈(bw t (aa t)).take i,eA m ((bw t (aa t)).getD i [])<0:=fun m hm=>by
   obtain⟨k,hk,rfl⟩:=BV.1 hm;have hk':k<i:=by rw[AT]at hk;omega
   rw[DX,ψ];have a:=srt k i (by omega) hil hk'
   have b:=nd k i (by omega) hil hk'
   have:=dO.zero (bw t (aa t))[k] (bw t (aa t))[i]
   refine Av fun hq=>b (this.1 (by omega))
  have after:∀m∈bw t (aa t),eA m ((bw t (aa t)).getD i [])<0->m∈(bw t (aa t)).take i:=fun m hm hlt2=>by
   obtain⟨k,hk,rfl⟩:=BV.1 hm;rw[ψ]at hlt2;by_cases hki:k<i
   ·exact BV.2 ⟨k,by rw[AT];omega,by rw[DX]⟩
   ·exfalso
    by_cases e:k=i
    ·subst e
     have:=(dO.zero (bw t (aa t))[k] (bw t (aa t))[k]).2 rfl
     omega
    ·have a:=srt i k hil hk (by omega)
     have:=dO.anti (bw t (aa t))[i] (bw t (aa t))[k]
     omega
  generalize hC:(bw t (aa t)).getD i []=c at *
  have lx:∀m,aA n m->(ca m c=true↔eA m c<0):=fun m hm=>nD m c (by rw[hm.1,tb.1])
  have hcl:c.length=n:=tb.1
  rw[rJ hil,hC,jV,tk,List.filter_append];by_cases hs:c∈(dp (aa t) ((bw t (aa t)).take i)).1
  ·have any:(dp (aa t) ((bw t (aa t)).take i)).1.any (fun s=>decide (s=c))=true:=List.any_eq_true.2 ⟨c,hs,by simp⟩
   obtain⟨c0,hc0,f,hf,e⟩:=(h2 c).1 hs;have hm0:=(An.1 hc0).1
   have tb0:=kj G hn (Bv hm0)
   have no:i4 (aa t) c=false:=by
    rw[i4,List.all_eq_false];refine⟨b6 f,oB G hn hf,?_⟩
    have eb:bn c (b6 f) n=c0:=by rw[e];exact p9 G hn hf tb0
    rw[hcl,eb,(lx c0 tb0).2 (before c0 hm0)];simp
   rw[AA any,List.filter_cons,no];simp only[Bu,Al,List.filter_nil,Ac];exact⟨h1,h2⟩
  ·have any:¬ (dp (aa t) ((bw t (aa t)).take i)).1.any (fun s=>decide (s=c))=true:=fun hq=>by
    obtain⟨s,hs1,hs2⟩:=List.any_eq_true.1 hq;have:s=c:=by simpa using hs2
    subst this;exact hs hs1
   have yes:i4 (aa t) c=true:=by
    refine Av fun hq=>hs ?_
    have hq:i4 (aa t) c=false:=by simpa using hq
    rw[i4,List.all_eq_false]at hq;obtain⟨f,hf,hlx⟩:=hq;rw[hcl]at hlx;have tf:=(fY tb (iy G hn hf)).tb
    have hlx:=(lx _ tf).1 (by simpa using hlx)
    obtain⟨m,hm,hmin⟩:=FK ((aa t).map fun f=>bn c f n) (by
     intro h0
     have:=FM G hn
     rw[List.map_eq_nil_iff]at h0;rw[h0]at this;cases this)
    obtain⟨f1,hf1,rfl⟩:=AH.1 hm;have hmc:=Xc (hmin _ (AH.2 ⟨f,hf,rfl⟩)) hlx
    have hmem:=after _ (FL G hn hf1 hc) hmc
    have tm:=(fY tb (iy G hn hf1)).tb
    refine(h2 c).2 ⟨bn c f1 n,An.2 ⟨hmem,?_⟩,b6 f1,oB G hn hf1,(p9 G hn hf1 tb).symm⟩
    rw[i4,AW];intro g hg
    have e:=qa G hn hf1 hg tb
    have hl:(bn c f1 n).length=n:=tm.1
    rw[hl,e];have:=hmin _ (AH.2 ⟨aE f1 g,pZ G hn hf1 hg,rfl⟩)
    have tq:=(fY tb ((iy G hn hf1).th (iy G hn hg))).tb
    have an:=dO.anti (bn c f1 n) (bn c (aE f1 g) n)
    cases hb:ca (bn c (aE f1 g) n) (bn c f1 n)with
    |false=>rfl
    |true =>
     have:=(nD _ _ (by rw[tq.1,tm.1])).1 hb
     omega
   rw[AB any,List.filter_cons,yes];simp only[AV,List.filter_nil];refine⟨by rw[h1],fun s=>?_⟩
   rw[AI,h2,AH]
   constructor
   ·rintro(⟨c0,a1,f,a2,a3⟩|⟨f,a1,a2⟩)
    ·exact⟨c0,BM _ a1,f,a2,a3⟩
    ·exact⟨c,by simp,f,a1,by rw[<-a2];exact IX tb (iy G hn a1)⟩
   ·rintro⟨c0,a1,f,a2,a3⟩
    rcases AI.1 a1 with a1|a1
    ·exact .inl ⟨c0,a1,f,a2,a3⟩
    ·rw[As]at a1
     subst a1;exact .inr ⟨f,a2,by rw[a3];exact IX tb (iy G hn a2)⟩
theorem Xd(G:GrpT n t)(hn:n<=7):(dp (aa t) (aZ t)).2=oA t (aa t):=by
 have:=(Ok G hn _ (AE _)).1
 rw[Bh]at this;rw[rK G hn];exact this
end
end Go.Sx
end
section
open Go Go.Proofs Go.RowKit Go.Shelf
namespace Go.Sx
def FN:Shelf.Ren:=⟨fun x=>match x with|6=>89|14=>138|15=>139|20=>191|21=>192|22=>193|23=>194|24=>195|25=>196|26=>197|27=>198|28=>199|29=>200|46=>233|47=>234|48=>235|49=>236|50=>237|57=>246|_=>0,fun x=>match x with|0=>0|3=>3|4=>4|5=>5|9=>9|22=>22|24=>62|25=>105|39=>130|45=>173|46=>174|50=>178|53=>181|55=>112|66=>199|70=>203|76=>210|77=>211|_=>0,fun x=>x⟩
set_option maxRecDepth 100000
theorem Ol:SlLaysF.n6 Tryz.prog FN where
 mixed:=by kernel_rfl
 f6:=⟨Tryz.f89.name,by kernel_rfl,by kernel_rfl⟩
 f14:=⟨Tryz.f138.name,by kernel_rfl,by kernel_rfl⟩
 f15:=by kernel_rfl
 f20:=⟨Tryz.f191.name,by kernel_rfl,by kernel_rfl⟩
 f21:=⟨Tryz.f192.name,by kernel_rfl,by kernel_rfl⟩
 f22:=⟨Tryz.f193.name,by kernel_rfl,by kernel_rfl⟩
 f23:=⟨Tryz.f194.name,by kernel_rfl,by kernel_rfl⟩
 f24:=⟨Tryz.f195.name,by kernel_rfl,by kernel_rfl⟩
 f25:=⟨Tryz.f196.name,by kernel_rfl,by kernel_rfl⟩
 f26:=⟨Tryz.f197.name,by kernel_rfl,by kernel_rfl⟩
 f27:=⟨Tryz.f198.name,by kernel_rfl,by kernel_rfl⟩
 f28:=by kernel_rfl
 f29:=by kernel_rfl
 f46:=⟨Tryz.f233.name,by kernel_rfl,by kernel_rfl⟩
 f47:=by kernel_rfl
 f48:=by kernel_rfl
 f49:=⟨Tryz.f236.name,by kernel_rfl,by kernel_rfl⟩
 f50:=⟨Tryz.f237.name,by kernel_rfl,by kernel_rfl⟩
 f57:=⟨Tryz.f246.name,by kernel_rfl,by kernel_rfl⟩
 t0:=by kernel_rfl
 a0:=fun w=>by kernel_rfl
 z0:=fun w=>by kernel_rfl
 v0:=fun w=>by kernel_rfl
 t3:=by kernel_rfl
 a3:=fun w=>by kernel_rfl
 z3:=fun w=>by kernel_rfl
 v3:=fun w=>by kernel_rfl
 t4:=by kernel_rfl
 a4:=fun w=>by kernel_rfl
 z4:=fun w=>by kernel_rfl
 v4:=fun w=>by kernel_rfl
 t5:=by kernel_rfl
 a5:=fun w=>by kernel_rfl
 z5:=fun w=>by kernel_rfl
 v5:=fun w=>by kernel_rfl
 t9:=by kernel_rfl
 a9:=fun w=>by kernel_rfl
 z9:=fun w=>by kernel_rfl
 v9:=fun w=>by kernel_rfl
 t22:=by kernel_rfl
 a22:=fun w=>by kernel_rfl
 z22:=fun w=>by kernel_rfl
 v22:=fun w=>by kernel_rfl
 a24:=fun w=>by kernel_rfl
 z24:=fun w=>by kernel_rfl
 t25:=by kernel_rfl
 a25:=fun w=>by kernel_rfl
 z25:=fun w=>by kernel_rfl
 v25:=fun w=>by kernel_rfl
 t39:=by kernel_rfl
 a39:=fun w=>by kernel_rfl
 z39:=fun w=>by kernel_rfl
 v39:=fun w=>by kernel_rfl
 t45:=by kernel_rfl
 a45:=fun w=>by kernel_rfl
 z45:=fun w=>by kernel_rfl
 v45:=fun w=>by kernel_rfl
 t46:=by kernel_rfl
 a46:=fun w=>by kernel_rfl
 z46:=fun w=>by kernel_rfl
 v46:=fun w=>by kernel_rfl
 t50:=by kernel_rfl
 a50:=fun w=>by kernel_rfl
 z50:=fun w=>by kernel_rfl
 v50:=fun w=>by kernel_rfl
 t53:=by kernel_rfl
 a53:=fun w=>by kernel_rfl
 z53:=fun w=>by kernel_rfl
 v53:=fun w=>by kernel_rfl
 t55:=by kernel_rfl
 a55:=fun w=>by kernel_rfl
 z55:=fun w=>by kernel_rfl
 v55:=fun w=>by kernel_rfl
 t66:=by kernel_rfl
 a66:=fun w=>by kernel_rfl
 z66:=fun w=>by kernel_rfl
 v66:=fun w=>by kernel_rfl
 t70:=by kernel_rfl
 a70:=fun w=>by kernel_rfl
 z70:=fun w=>by kernel_rfl
 v70:=fun w=>by kernel_rfl
 t76:=by kernel_rfl
 a76:=fun w=>by kernel_rfl
 z76:=fun w=>by kernel_rfl
 v76:=fun w=>by kernel_rfl
 t77:=by kernel_rfl
 a77:=fun w=>by kernel_rfl
 z77:=fun w=>by kernel_rfl
 v77:=fun w=>by kernel_rfl
theorem Xe(x y:Int):bg x y=- bg y x:=by
 unfold bg
 (repeat' split)<;>omega
theorem oC:∀a b:D1,aR bg a b=- aR bg b a
 | [],[]=>rfl
 | [],_::_=>rfl
 |_::_,[]=>rfl
 |x::a,y::b=>by
  simp only[aR];have h:=Xe x y
  by_cases h0:bg x y=0
  ·rw[AA h0,AA (by omega),oC a b]
  ·rw[AB h0,AB (by omega),h]
theorem FO:∀a b c:D1,aR bg a b<=0->aR bg b c<=0->aR bg a c<=0
 | [],_,[],_,_=>by simp[aR]
 | [],_,_::_,_,_=>by simp[aR]
 |_::_,[],_,h,_=>by simp[aR]at h
 |_::_,_::_,[],_,h=>by simp[aR]at h
 |x::a,y::b,z::c,h1,h2=>by
  simp only[aR]at h1 h2⊢;have v:∀u v:Int,(bg u v=-1/\u<v)\/(bg u v=0/\u=v)\/(bg u v=1/\v<u):=fun u v=>by
   unfold bg;split
   ·omega
   ·split<;>omega
  have v1:=v x y
  have v2:=v y z
  have v3:=v x z
  by_cases e1:bg x y=0
  ·rw[AA e1]at h1
   by_cases e2:bg y z=0
   ·rw[AA e2]at h2
    rw[AA (by omega)]
    exact FO a b c h1 h2
   ·rw[AB e2]at h2
    rw[AB (by omega)];omega
  ·rw[AB e1]at h1
   by_cases e2:bg y z=0
   ·rw[AB (by omega)];omega
   ·rw[AB e2]at h2
    rw[AB (by omega)];omega
theorem Xf(a b c:D1)(h1:aR bg a b<0)(h2:aR bg b c<0):aR bg a c<0:=by
 have h:=FO a b c (by omega) (by omega)
 refine Av fun hc=>?_
 have e:aR bg a c=0:=by omega
 have:=(mg (fun x y=>mf)).1 e
 subst this;have:=oC a b
 omega
def gY(l:D2)(i j:Fin l.length):Int:=aR bg (l.getD i.1 []) (l.getD j.1 [])
theorem FP(l:D2):Go.Sort.SWO (fun i j=>decide (gY l i j<0)) where
 irrefl:=fun x=>by
  have:aR bg (l.getD x.1 []) (l.getD x.1 [])=0:=(mg fun x y=>mf).2 rfl
  show decide (gY l x x<0)=false
  rw[gY,this];rfl
 trans:=fun x y z h1 h2=>by
  rw[Ab]at h1 h2⊢;exact Xf _ _ _ h1 h2
 ntrans:=fun x y z h1 h2=>by
  rw[Bq]at h1 h2⊢;unfold gY at *;have a1:=oC (l.getD x.1 []) (l.getD y.1 [])
  have a2:=oC (l.getD y.1 []) (l.getD z.1 [])
  have a3:=oC (l.getD x.1 []) (l.getD z.1 [])
  have:=FO (l.getD z.1 []) (l.getD y.1 []) (l.getD x.1 []) (by omega) (by omega)
  omega
def fl(l:D2)(h:0<l.length):Array (Fin l.length) :=
 letI:Inhabited (Fin l.length):=⟨⟨0,h⟩⟩
 Go.Sort.pdq (fun i j=>decide (gY l i j<0)) (List.finRange l.length).toArray 0 (List.finRange l.length).toArray.size (Lib.bitLen (List.finRange l.length).toArray.size) true true
def cX(l:D2):D2:=if h:0<l.length then(fl l h).toList.map (fun i=>l.getD i.1 [])else []
theorem uI(l:D2)(h:0<l.length):(fl l h).toList.Perm (List.finRange l.length):=by
 letI:Inhabited (Fin l.length):=⟨⟨0,h⟩⟩
 have:=(Go.Sort.pdq_sorts (fun i j=>decide (gY l i j<0)) (FP l) (List.finRange l.length).toArray 0 (List.finRange l.length).toArray.size (Lib.bitLen (List.finRange l.length).toArray.size) true true (AQ _) (AE _) (Or.inl rfl)).1
 obtain⟨h1,_,h3⟩:=this;have e1:∀(d:Array (Fin l.length)),d.extract 0 d.size=d:=fun d=>by simp
 rw[e1]at h3;have h4:((fl l h).extract 0 (List.finRange l.length).toArray.size).toList.Perm (List.finRange l.length).toArray.toList:=h3
 rw[<-show(fl l h).size=(List.finRange l.length).toArray.size from h1,e1]at h4
 simpa using h4
theorem FQ(l:D2):(cX l).length=l.length:=by
 unfold cX;split
 ·rename_i h
  rw[AR,(uI l h).length_eq];simp
 ·show 0=l.length
  omega
theorem Xg(l:D2)(hr1:l.length<=1000000000)(hr2:∀r∈l,r.length<=1000):Py Tryz.prog 89 90 l (cX l):=by
 intro w e ei v ins h1 h2 h3 hnd
 by_cases h0:0<l.length
 case neg =>
  have hl:l=[]:=Ay (by omega)
  subst hl;have hi:ins=[]:=Ay h2
  subst hi;have hv:∃p cap,v=.slice p 0 cap:=by
   rcases h1.2 with⟨e0,_⟩|⟨g,cap,cur,e0,_⟩
   ·exact⟨_,_,e0⟩
   ·exact⟨_,_,e0⟩
  obtain⟨p,cap,rfl⟩:=hv;refine(AnyF.slices_SortFunc_none (P:=Tryz.prog) (ρ:=FN) { Ol with } p cap _ w).mono ?_
  rintro r w' ⟨rfl,rfl⟩
  exact⟨rfl,[],h1,rfl,fun i u r hi=>by simp at hi,.refl _,.refl _,rfl,rfl,AE _,fun _ _ _=>rfl⟩
 case pos =>
 letI:Inhabited (Fin l.length):=⟨⟨0,h0⟩⟩
 let enc:Fin l.length->Value:=fun i=>ins.getD i.1 undef
 have hz:(List.finRange l.length).map enc=ins:=by
  apply BP
  ·simp[h2]
  ·intro i a b
   simp[enc,List.getD,AF b]
 have hone:∀i:Fin l.length,(enc i).oneCell'=true:=fun i=>by
  have hi:i.1<ins.length:=by rw[h2];exact i.2
  have:=fU (h3 i.1 (ins.getD i.1 undef) (l.getD i.1 []) (by simp[List.getD,hi]) (by simp[List.getD,i.2]))
  exact this
 rw[<-hz]at h1;have hne:v≠.slice none 0 0:=fun hv=>by
  rcases h1.2 with⟨_,hn⟩|⟨g,cap,cur,h5,_⟩
  ·omega
  ·rw[hv]at h5;cases h5
 obtain⟨g,cap,rfl,_,ψ,hn,hm,hzl,hH⟩:=Lib.holds_of_ownsRow h1 hne;have hn0:∀i:Fin l.length,i.1<ins.length:=fun i=>by rw[h2];exact i.2
 have hrow:∀i:Fin l.length,w.ownsRow 0 ei 1 (enc i) (l.getD i.1 []).length ((l.getD i.1 []).map (.int .i64))/\∀b,ae (enc i)=some b->b<w.heap.size/\b≠g:=fun i=>by
  have hu:ins[i.1]?=some (enc i):=by simp[enc,List.getD,AF (hn0 i)]
  have h4:=h3 i.1 (enc i) (l.getD i.1 []) hu (by simp[List.getD,i.2])
  refine⟨h4,fun b hb=>⟨(gB h4 b hb).2,fun hc=>?_⟩⟩
  exact(jJ hnd).2 b (by rw[hc];rfl) (Aq.2 ⟨enc i,AK hu,hb⟩)
 obtain⟨fn,k1,k2,k3⟩:=sq.fn;have hsz:(List.finRange l.length).toArray.size=l.length:=by simp
 have hcmp:CmpLays1 Tryz.prog 90 #[] enc (gY l) g 0 (List.finRange l.length).toArray.size w:=by
  intro m os dk hdk x y
  have keep:∀b,b<w.heap.size->b≠g->(sortWorld enc w g 0 m dk os).heap[b]?=w.heap[b]?:=fun b hb hne=>by
   unfold sortWorld;rw[Go.Sort.heap_grow_old _ _ (by simpa[Go.Sort.putRow,Go.Sort.mapBlock,Go.Sort.ahead]using hb)]
   simp[Go.Sort.putRow,Go.Sort.mapBlock,Go.Sort.ahead,C4,AM hne]
  have rd:∀i:Fin l.length,bj (sortWorld enc w g 0 m dk os) (enc i) (.ints .i64 (l.getD i.1 [])):=fun i=>by
   obtain⟨h4,h5⟩:=hrow i;have h6:=dC h4 fun b hb=>keep b (h5 b hb).1 (h5 b hb).2
   have:=oX h6 (cH h6) (by omega)
   show gA _ _ _ _
   simpa using this
  have:=sq.run (sortWorld enc w g 0 m dk os) (sortWorld enc w g 0 m dk os) [enc x,enc y] [.c (.ints .i64 (l.getD x.1 [])),.c (.ints .i64 (l.getD y.1 []))] _ [] [] rfl
   ⟨by have:=hr2 _ (bI l [] x.1 x.2);unfold am;omega,by have:=hr2 _ (bI l [] y.1 y.2);unfold am;omega⟩ rfl rfl rfl rfl (by simp) (by simp) (by simp) (fun q u hq=>⟨hq,by simp⟩) (fun i d hi=>by
    match i,hi with
    |0,hi=>cases hi;exact⟨enc x,rfl,hone x,rd x⟩
    |1,hi=>cases hi;exact⟨enc y,rfl,hone y,rd y⟩
    |i+2,hi=>simp at hi)
  refine Calls.mono this ?_
  rintro e0 w' ⟨v0,ms',img,wG,rfl,haft,_,_,_,hret⟩
  have hv:v0=.int .i64 (gY l x y):=hret.val
  subst hv;refine⟨rfl,w'.drawn-(sortWorld enc w g 0 m dk os).drawn,w'.heap.extract (sortWorld enc w g 0 m dk os).heap.size w'.heap.size,?_⟩
  generalize hW:sortWorld enc w g 0 m dk os=W at *
  have hheap:w'.heap=W.heap++w'.heap.extract W.heap.size w'.heap.size:=by
   apply B7
   intro i
   by_cases hi:i<W.heap.size
   ·rw[C5 hi,haft.block i hi (by simp)]
   ·rw[Dt (by omega),Cb]
    split
    ·congr 1;omega
    ·rw[BH (by omega)]
  have hd:=haft.os.drawn
  cases w' with
  |mk heap tape drawn os' output =>
   simp only[Go.Sort.grow,World.drewN]at *;have e1:=haft.os.os
   have e2:=haft.tape
   have e3:=haft.output
   simp only at e1 e2 e3;rw[<-hheap,e1,e2,e3,show W.drawn+(drawn-W.drawn)=drawn by omega]
 have hcall:=Any.slices_SortFunc_eq (P:=Tryz.prog) (ρ:=FN) Ol enc hone (gY l) (FP l) 90 #[] g 0 cap (List.finRange l.length).toArray w (fun args w=>nf k1 k2 k3 args) hcmp hH ψ (by rw[hsz];omega)
 rw[hsz]at hcall;refine Calls.mono hcall ?_
 rintro r w' ⟨rfl,n,os,rfl⟩
 refine⟨rfl,?_⟩
 have hD:Go.Sort.pdq (ltOf (gY l)) (List.finRange l.length).toArray 0 l.length (Lib.bitLen l.length) true true=fl l h0:=by
  unfold fl;rw[hsz];rfl
 rw[hD];have hDp:=uI l h0
 have hDl:(fl l h0).toList.length=l.length:=by rw[hDp.length_eq];simp
 have hS:cX l=(fl l h0).toList.map (fun i=>l.getD i.1 []):=by unfold cX;rw[dif_pos h0]
 have hSl:=FQ l
 generalize fl l h0=D at *
 have o:=Lib.ownsRow_putRow (q:=n) (k:=l.length) h1 (ys:=D.toList) hDl (AE _)
 rw[AU (by omega),Cc]at o
 refine⟨D.toList.map enc,?_,by rw[AR,hDl,hSl],fun i u r hi hr=>?_,?_,⟨rfl,DR _ _⟩,rfl,rfl,?_,fun b hb hne=>?_⟩
 ·rw[hSl]
  refine dC o fun b hb=>?_
  simp[ae]at hb
  subst hb;exact Go.Sort.heap_grow_old _ _ (by simpa[Go.Sort.putRow,Go.Sort.mapBlock,Go.Sort.ahead]using ψ)
 ·rw[hS,Ai]at hr
  rw[Ai]at hi;cases hx:D.toList[i]? with
  |none=>rw[hx]at hi;cases hi
  |some x =>
   rw[hx]at hi hr;cases hi;cases hr;exact(hrow x).1
 ·rw[<-hz]
  exact hDp.map enc
 ·simp[sortWorld,Go.Sort.grow,Go.Sort.putRow,Go.Sort.mapBlock,Go.Sort.ahead]
 ·have hg:b≠g:=fun hc=>hne (by rw[hc];rfl)
  unfold sortWorld;rw[Go.Sort.heap_grow_old _ _ (by simpa[Go.Sort.putRow,Go.Sort.mapBlock,Go.Sort.ahead]using hb)]
  simp[Go.Sort.putRow,Go.Sort.mapBlock,Go.Sort.ahead,C4,AM hg]
def qb:List AD->Option Post:=fun ds=>match ds with
 | [.c (.rows .i64 l)]=>some ⟨l.length<=1000000000/\∀r∈l,r.length<=1000,.c (.rows 90 0 .i64 (cX l)),[]⟩
 |_=>none
theorem Xh:Fits Tryz.prog 89 ⟨[(0,97),(0,97)],qb⟩ where
 fn:=⟨Tryz.f89,Tryz.func89,by kernel_rfl,by kernel_rfl⟩
 run:=fun _ _ _ ds p ms obs h _ _ hm _ hw=>by
  exfalso
  have h:qb ds=some p:=h
  unfold qb at h;split at h
  ·cases h;simp at hw
  ·cases h
 mv:=fun h=>by cases h
 gr:=fun h=>by cases h
 so:=fun _=>⟨fun l q g x l' ws h hq=>by
  have h:some (⟨l.length<=1000000000/\∀r∈l,r.length<=1000,.c (.rows 90 0 .i64 (cX l)),[]⟩:Post)=some ⟨q,.c (.rows g x .i64 l'),ws⟩:=h
  simp only[AC,Post.mk.injEq,RV.c.injEq,RC.rows.injEq]at h;obtain⟨h1,⟨h2,_,_,h3⟩,_⟩:=h;subst h1;subst h2;subst h3;exact Xg l hq.1 hq.2,
  fun l q g l' ws h=>by
  have h:qb [.c (.r3 .i64 l)]=some ⟨q,.c (.tr [g] (.r3 .i64 l')),ws⟩:=h
  cases h⟩
 df:=fun h=>by cases h
 st:=fun h=>by cases h
end Go.Sx
end
