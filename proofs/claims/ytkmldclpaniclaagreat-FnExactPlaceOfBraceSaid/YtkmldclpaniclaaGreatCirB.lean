/- CirB -/
import Derived.Test.YtkmldclpaniclaaGreatBrs
import Derived.Test.YtkmldclpaniclaaGreatCmp
import Derived.Shelf.SlSortCmp.NoneTotal
import Derived.Lib.OwnBridge
import Derived.Test.YtkmldclpaniclaaGreatMpgE
import Derived.Test.YtkmldclpaniclaaGreatActP
import Derived.Test.YtkmldclpaniclaaGreatLists
import Derived.Test.YtkmldclpaniclaaGreatCrcG
set_option linter.unusedSimpArgs false
set_option linter.unusedVariables false
section
open Go Go.Proofs
namespace Go.Sx
def cU(A:V8)(c:V8):Bool:=A.all fun f=>!bD (bz c f c.length) c
def bG(t A:V8):V9:=(aD t A).filter (cU A)
theorem Ng{a b c:V8}(h:eG a b<=0)(k:eG b c<0):eG a c<0:=by
 have h1:=dQ.le a b c h (by omega)
 refine Classical.byContradiction fun hn=>?_
 have e:eG a c=0:=by omega
 have:=(dQ.zero a c).1 e
 subst this;have:=dQ.anti a b
 omega
theorem EI:∀(l:V9),l≠[]->∃m∈l,∀x∈l,eG m x<=0
 | [],h=>absurd rfl h
 | [a],_=>⟨a,by simp,fun x hx=>by
  rw[List.mem_singleton]at hx;subst hx;have:=(dQ.zero x x).2 rfl
  omega⟩
 |a::b::l,_=>by
  obtain⟨m,hm,h⟩:=EI (b::l) (by simp)
  by_cases hc:eG a m<=0
  ·refine⟨a,by simp,fun x hx=>?_⟩
   rcases List.mem_cons.1 hx with rfl|hx
   ·have:=(dQ.zero x x).2 rfl
    omega
   ·exact dQ.le _ _ _ hc (h x hx)
  ·refine⟨m,List.mem_cons_of_mem _ hm,fun x hx=>?_⟩
   rcases List.mem_cons.1 hx with rfl|hx
   ·have:=dQ.anti x m
    omega
   ·exact h x hx
section
variable {n:Nat} {t:V8}
theorem ic(G:GrpT n t)(hn:n<=7){f:V7}(hf:f∈ab t):IsP n f:=((gb G hn).1 hf).p
theorem EJ(G:GrpT n t)(hn:n<=7){f:V7}(hf:f∈ab t):cD f∈ab t:=(gb G hn).2 (vV G ((gb G hn).1 hf))
theorem Nh(G:GrpT n t)(hn:n<=7){f g:V7}(hf:f∈ab t)(hg:g∈ab t):aY f g∈ab t:=(gb G hn).2 (kb G.tb ((gb G hn).1 hf) ((gb G hn).1 hg))
theorem mK(G:GrpT n t)(hn:n<=7){c:V8}(hc:c∈aD t (ab t)):ay n c:=by rw[<-qD G hn]at hc;exact ED G hn hc
theorem Ni(G:GrpT n t)(hn:n<=7){f:V7}(hf:f∈ab t){c:V8}(hc:c∈aD t (ab t)):bz c f n∈aD t (ab t) :=
 Mp G hn hf hc (gH (mK G hn hc) (ic G hn hf))
theorem EK(G:GrpT n t)(hn:n<=7){f:V7}(hf:f∈ab t){c:V8}(hc:ay n c):bz (bz c f n) (cD f) n=c:=by
 have P:=ic G hn hf
 have h:=gH hc P
 exact(gH h.tb P.bk).uniq P.bk (h.back P hc)
theorem Nj(G:GrpT n t)(hn:n<=7){f g:V7}(hf:f∈ab t)(hg:g∈ab t){c:V8}(hc:ay n c):bz (bz c f n) g n=bz c (aY f g) n:=by
 have P:=ic G hn hf
 have Q:=ic G hn hg
 have h:=gH hc P
 exact(h.th P Q hc (gH h.tb Q)).uniq (P.th Q) (gH hc (P.th Q))
theorem Nk(G:GrpT n t)(hn:n<=7):dc n∈ab t:=(gb G hn).2 (Fv G.tb)
theorem EL(G:GrpT n t)(hn:n<=7):∀i,i<=(aD t (ab t)).length->(da (ab t) ((aD t (ab t)).take i)).2=((aD t (ab t)).take i).filter (cU (ab t)) /\
  ∀s,s∈(da (ab t) ((aD t (ab t)).take i)).1↔∃c∈((aD t (ab t)).take i).filter (cU (ab t)),∃f∈ab t,s=bz c f n
 |0,_=>by simp[da]
 |i+1,hi=>by
  obtain⟨h1,h2⟩:=EL G hn i (by omega)
  have hil:i<(aD t (ab t)).length:=by omega
  have hc:=bM (aD t (ab t)) [] i hil
  have hlt:=bF (aD t (ab t)) [] i hil
  have srt:=List.pairwise_iff_getElem.1 (Mo G hn)
  have nd:=List.pairwise_iff_getElem.1 (Mn G hn)
  have tk:(aD t (ab t)).take (i+1)=(aD t (ab t)).take i++[(aD t (ab t)).getD i []]:=(dF _ [] i hil).symm
  have tb:=mK G hn hc
  have before:∀m∈(aD t (ab t)).take i,eG m ((aD t (ab t)).getD i [])<0:=fun m hm=>by
   obtain⟨k,hk,rfl⟩:=List.mem_iff_getElem.1 hm;have hk':k<i:=by rw[List.length_take]at hk;omega
   rw[List.getElem_take,hlt];have a:=srt k i (by omega) hil hk'
   have b:=nd k i (by omega) hil hk'
   have:=dQ.zero (aD t (ab t))[k] (aD t (ab t))[i]
   refine Classical.byContradiction fun hq=>b (this.1 (by omega))
  have after:∀m∈aD t (ab t),eG m ((aD t (ab t)).getD i [])<0->m∈(aD t (ab t)).take i:=fun m hm hlt2=>by
   obtain⟨k,hk,rfl⟩:=List.mem_iff_getElem.1 hm;rw[hlt]at hlt2;by_cases hki:k<i
   ·exact List.mem_iff_getElem.2 ⟨k,by rw[List.length_take];omega,by rw[List.getElem_take]⟩
   ·exfalso
    by_cases e:k=i
    ·subst e
     have:=(dQ.zero (aD t (ab t))[k] (aD t (ab t))[k]).2 rfl
     omega
    ·have a:=srt i k hil hk (by omega)
     have:=dQ.anti (aD t (ab t))[i] (aD t (ab t))[k]
     omega
  generalize hC:(aD t (ab t)).getD i []=c at *
  have lx:∀m,ay n m->(bD m c=true↔eG m c<0):=fun m hm=>ot m c (by rw[hm.1,tb.1])
  have hcl:c.length=n:=tb.1
  rw[qC hil,hC,jp,tk,List.filter_append];by_cases hs:c∈(da (ab t) ((aD t (ab t)).take i)).1
  ·have any:(da (ab t) ((aD t (ab t)).take i)).1.any (fun s=>decide (s=c))=true:=List.any_eq_true.2 ⟨c,hs,by simp⟩
   obtain⟨c0,hc0,f,hf,e⟩:=(h2 c).1 hs;have hm0:=(List.mem_filter.1 hc0).1
   have tb0:=mK G hn (List.mem_of_mem_take hm0)
   have no:cU (ab t) c=false:=by
    rw[cU,List.all_eq_false];refine⟨cD f,EJ G hn hf,?_⟩
    have eb:bz c (cD f) n=c0:=by rw[e];exact EK G hn hf tb0
    rw[hcl,eb,(lx c0 tb0).2 (before c0 hm0)];simp
   rw[if_pos any,List.filter_cons,no];simp only[Bool.false_eq_true,if_false,List.filter_nil,List.append_nil];exact⟨h1,h2⟩
  ·have any:¬ (da (ab t) ((aD t (ab t)).take i)).1.any (fun s=>decide (s=c))=true:=fun hq=>by
    obtain⟨s,hs1,hs2⟩:=List.any_eq_true.1 hq;have:s=c:=by simpa using hs2
    subst this;exact hs hs1
   have yes:cU (ab t) c=true:=by
    refine Classical.byContradiction fun hq=>hs ?_
    have hq:cU (ab t) c=false:=by simpa using hq
    rw[cU,List.all_eq_false]at hq;obtain⟨f,hf,hlx⟩:=hq;rw[hcl]at hlx;have tf:=(gH tb (ic G hn hf)).tb
    have hlx:=(lx _ tf).1 (by simpa using hlx)
    obtain⟨m,hm,hmin⟩:=EI ((ab t).map fun f=>bz c f n) (by
     intro h0
     have:=Nk G hn
     rw[List.map_eq_nil_iff]at h0;rw[h0]at this;cases this)
    obtain⟨f1,hf1,rfl⟩:=List.mem_map.1 hm;have hmc:=Ng (hmin _ (List.mem_map.2 ⟨f,hf,rfl⟩)) hlx
    have hmem:=after _ (Ni G hn hf1 hc) hmc
    have tm:=(gH tb (ic G hn hf1)).tb
    refine(h2 c).2 ⟨bz c f1 n,List.mem_filter.2 ⟨hmem,?_⟩,cD f1,EJ G hn hf1,(EK G hn hf1 tb).symm⟩
    rw[cU,List.all_eq_true];intro g hg
    have e:=Nj G hn hf1 hg tb
    have hl:(bz c f1 n).length=n:=tm.1
    rw[hl,e];have:=hmin _ (List.mem_map.2 ⟨aY f1 g,Nh G hn hf1 hg,rfl⟩)
    have tq:=(gH tb ((ic G hn hf1).th (ic G hn hg))).tb
    have an:=dQ.anti (bz c f1 n) (bz c (aY f1 g) n)
    cases hb:bD (bz c (aY f1 g) n) (bz c f1 n)with
    |false=>rfl
    |true =>
     have:=(ot _ _ (by rw[tq.1,tm.1])).1 hb
     omega
   rw[if_neg any,List.filter_cons,yes];simp only[if_true,List.filter_nil];refine⟨by rw[h1],fun s=>?_⟩
   rw[List.mem_append,h2,List.mem_map]
   constructor
   ·rintro(⟨c0,a1,f,a2,a3⟩|⟨f,a1,a2⟩)
    ·exact⟨c0,List.mem_append_left _ a1,f,a2,a3⟩
    ·exact⟨c,by simp,f,a1,by rw[<-a2];exact Eh tb (ic G hn a1)⟩
   ·rintro⟨c0,a1,f,a2,a3⟩
    rcases List.mem_append.1 a1 with a1|a1
    ·exact .inl ⟨c0,a1,f,a2,a3⟩
    ·rw[List.mem_singleton]at a1
     subst a1;exact .inr ⟨f,a2,by rw[a3];exact Eh tb (ic G hn a2)⟩
theorem Nl(G:GrpT n t)(hn:n<=7):(da (ab t) (a8 t)).2=bG t (ab t):=by
 have:=(EL G hn _ (Nat.le_refl _)).1
 rw[List.take_length]at this;rw[qD G hn];exact this
end
end Go.Sx
end
section
open Go Go.Proofs Go.RowKit Go.Shelf
namespace Go.Sx
set_option maxRecDepth 100000
end Go.Sx
end
section
open Go Go.Proofs
namespace Go.Sx
section
variable {α:Type} {f:α->Int->α} {c:α->Nat}
end
def dP(t A:V8)(K:V7):V7×Bool :=
 match c6 t A K with
 |none=>([],false)
 |some o=>(o,true)
theorem EM{t A:V8}{o:V7}{x y:Nat}(h:dw t A o x y=none):∀k,dw t A o x (y+k)=none
 |0=>h
 |k+1=>by rw[<-Nat.add_assoc,dw,EM h k];rfl
theorem EN{t A:V8}{o:V7}{x:Nat}(h:eD t A o x=none):∀k,eD t A o (x+k)=none
 |0=>h
 |k+1=>by rw[<-Nat.add_assoc,eD,EN h k];rfl
theorem Nm{t A:V8}{K o c e:V7}{fu i j:Nat}(hr:c6 t A K=eV t A (fu+1) o)(hx:eD t A o i=some c)(hy:dw t A c i j=some e)(hi:i<t.length)(hj:j<t.length)(h:fV t A e i j=none):dP t A K=([],false):=by
 have h1:dw t A c i (j+1)=none:=by rw[dw,hy];exact h
 have h2:=EM h1 (t.length-(j+1))
 rw[show j+1+(t.length-(j+1))=t.length by omega]at h2
 have h3:eD t A o (i+1)=none:=by rw[eD,hx];exact h2
 have h4:=EN h3 (t.length-(i+1))
 rw[show i+1+(t.length-(i+1))=t.length by omega]at h4
 rw[dP,hr,eV,h4]
def qF(t:V8)(A:V8)(K:V7):Post:=⟨t.length<=12/\ay t.length t/\AuOk t.length A/\A.length<=1000000/\KOk t.length A.length K,.tup [.inl (.ints 2 .i64 (dP t A K).1),.inl (.bool (dP t A K).2)],[]⟩
def wE:List AD->Option Post
 | [.c (.rows .i64 t),.c (.rows .i64 A),.c (.ints .i64 K)]=>some (qF t A K)
 |_=>none
def EO(t:V8)(A:V8)(K:V7):Nat->Option Ann
 |0=>some (Ann.mk ((Nat)×(V7)×(Bool)) (fun x=>match x with|(fu,o,g)=>⟨[(0,.c (.ro (.rows .i64 t))),(1,.c (.ro (.rows .i64 A))),(8,.c (.own 8)),(9,.c (.bool g))],[(8,some (.ints 2 .i64 o))]⟩) (fun x=>match x with|(fu,o,g)=>KOk t.length A.length o/\(g=true->aA o<fu/\c6 t A K=eV t A fu o)/\(g=false->c6 t A K=some o)) (fun x=>match x with|(fu,o,g)=>2*fu+(if g=true then 1 else 0)) (fun x=>match x with|(fu,o,g)=>fun b_=>match b_ with|2=>some (Ann.mk ((Nat)×(V7)) (fun x=>match x with|(i,c)=>⟨[(0,.c (.ro (.rows .i64 t))),(1,.c (.ro (.rows .i64 A))),(8,.c (.own 8)),(9,.c (.bool (decide (aA c<aA o)))),(10,.c (.int .i64 ((i:Int))))],[(8,some (.ints 2 .i64 c))]⟩) (fun x=>match x with|(i,c)=>i<=t.length/\g=true/\KOk t.length A.length c/\eD t A o i=some c/\aA c<=aA o) (fun x=>match x with|(i,c)=>t.length-i) (fun x=>match x with|(i,c)=>fun b_=>match b_ with|4=>some (Ann.mk ((Nat)×(V7)) (fun x=>match x with|(j,e)=>⟨[(0,.c (.ro (.rows .i64 t))),(1,.c (.ro (.rows .i64 A))),(8,.c (.own 8)),(9,.c (.bool (decide (aA e<aA o)))),(10,.c (.int .i64 ((i:Int)))),(11,.c (.int .i64 ((j:Int))))],[(8,some (.ints 2 .i64 e))]⟩) (fun x=>match x with|(j,e)=>i<t.length/\j<=t.length/\KOk t.length A.length e/\dw t A c i j=some e/\aA e<=aA c) (fun x=>match x with|(j,e)=>t.length-j) (fun _=>am))|_=>none))|_=>none))
 |_=>none
def EP:List (Nat×Ctr):=[(144,⟨[],m8⟩),(189,⟨[],qK⟩),(232,⟨[],xf⟩)]
def la(t:V8)(A:V8)(x0:Nat×V7)(x1:Nat×V7):=((List.getD t (↑x0.1:Int).toNat []).getD (((List.getD A ((List.getD x1.2 (↑x0.1:Int).toNat (0:Int)).toNat) []).getD (↑x1.1:Int).toNat (0:Int)).toNat) (0:Int))
def wI(t:V8)(A:V8)(K:V7):Prop :=
 ((af K.length/\True)/\((∃x0:Nat×V7×Bool,(KOk t.length A.length x0.2.1/\(x0.2.2=true->aA x0.2.1<x0.1/\c6 t A K=eV t A x0.1 x0.2.1)/\(x0.2.2=false->c6 t A K=Option.some x0.2.1))/\t=t/\A=A/\true=x0.2.2/\K=x0.2.1)/\(∀x1:Nat×V7×Bool,(KOk t.length A.length x1.2.1/\(x1.2.2=true->aA x1.2.1<x1.1/\c6 t A K=eV t A x1.1 x1.2.1)/\(x1.2.2=false->c6 t A K=Option.some x1.2.1)->(ae x1.2.2 ((∃x2:Nat×V7,(x2.1<=t.length/\x1.2.2=true/\KOk t.length A.length x2.2/\eD t A x1.2.1 x2.1=Option.some x2.2/\aA x2.2<=aA x1.2.1)/\t=t/\A=A/\false=decide (aA x2.2<aA x1.2.1)/\(0:Int)=(↑x2.1:Int)/\x1.2.1=x2.2)/\(∀x3:Nat×V7,(x3.1<=t.length/\x1.2.2=true/\KOk t.length A.length x3.2/\eD t A x1.2.1 x3.1=Option.some x3.2/\aA x3.2<=aA x1.2.1->(ae (decide ((↑x3.1:Int)<(t.length:Int))) ((∃x4:Nat×V7,(x3.1<t.length/\x4.1<=t.length/\KOk t.length A.length x4.2/\dw t A x3.2 x3.1 x4.1=Option.some x4.2/\aA x4.2<=aA x3.2)/\t=t/\A=A/\decide (aA x3.2<aA x1.2.1)=decide (aA x4.2<aA x1.2.1)/\(↑x3.1:Int)=(↑x3.1:Int)/\(0:Int)=(↑x4.1:Int)/\x3.2=x4.2)/\(∀x5:Nat×V7,((x3.1<t.length/\(x5.1<=t.length/\(KOk t.length A.length x5.2/\((dw t A x3.2 x3.1 x5.1=Option.some x5.2) /\
 (aA x5.2<=aA x3.2)))))->(ae (decide ((↑x5.1:Int)<(t.length:Int))) ((aa (↑x3.1:Int) x5.2.length)/\(ae (decide (x5.2.getD (↑x3.1:Int).toNat (0:Int)<(0:Int))) ((ac ((↑x5.1:Int)+(1:Int)))/\(∃x6:Nat×V7,(((x3.1<t.length)/\((x6.1<=t.length)/\((KOk t.length A.length x6.2)/\((dw t A x3.2 x3.1 x6.1=Option.some x6.2)/\(aA x6.2<=aA x3.2)))))/\((t.length-x6.1<t.length-x5.1)/\((t=t)/\((A=A)/\((decide (aA x5.2<aA x1.2.1)=decide (aA x6.2<aA x1.2.1))/\(((↑x3.1:Int)=(↑x3.1:Int))/\(((↑x5.1:Int)+(1:Int)=(↑x6.1:Int))/\(x5.2=x6.2)))))))))) ((aa (↑x5.1:Int) x5.2.length)/\(ae (decide (x5.2.getD (↑x5.1:Int).toNat (0:Int)<(0:Int))) ((ac ((↑x5.1:Int)+(1:Int)))/\(∃x7:Nat×V7,(((x3.1<t.length)/\((x7.1<=t.length)/\((KOk t.length A.length x7.2)/\((dw t A x3.2 x3.1 x7.1=Option.some x7.2)/\(aA x7.2<=aA x3.2)))))/\((t.length-x7.1<t.length-x5.1)/\((t=t)/\((A=A)/\((decide (aA x5.2<aA x1.2.1)=decide (aA x7.2<aA x1.2.1))/\(((↑x3.1:Int)=(↑x3.1:Int))/\(((↑x5.1:Int)+(1:Int)=(↑x7.1:Int))/\(x5.2=x7.2)))))))))) ((aa (↑x3.1:Int) t.length)/\((aa (↑x3.1:Int) x5.2.length)/\((aa (x5.2.getD (↑x3.1:Int).toNat (0:Int)) A.length)/\((aa (↑x5.1:Int) ((A.getD ((x5.2.getD (↑x3.1:Int).toNat (0:Int)).toNat) []).length))/\((aa ((List.getD A ((List.getD x5.2 (↑x3.1:Int).toNat (0:Int)).toNat) []).getD (↑x5.1:Int).toNat (0:Int)) ((t.getD (↑x3.1:Int).toNat []).length)) /\
 (aa (↑x5.1:Int) x5.2.length/\(aa (x5.2.getD (↑x5.1:Int).toNat (0:Int)) A.length/\(aa (↑x3.1:Int) x5.2.length/\(aa (x5.2.getD (↑x3.1:Int).toNat (0:Int)) A.length/\(((af ((A.getD ((x5.2.getD (↑x5.1:Int).toNat (0:Int)).toNat) []).length)/\iS ((A.getD ((x5.2.getD (↑x3.1:Int).toNat (0:Int)).toNat) []).length) (A.getD ((x5.2.getD (↑x5.1:Int).toNat (0:Int)).toNat) []))/\True)/\((aM A/\True)/\(aa (la t A x3 x5) x5.2.length/\(ae (decide (x5.2.getD (((List.getD t (↑x3.1:Int).toNat []).getD (((List.getD A ((List.getD x5.2 (↑x3.1:Int).toNat (0:Int)).toNat) []).getD (↑x5.1:Int).toNat (0:Int)).toNat) (0:Int)).toNat) (0:Int)<(0:Int))) (aa (la t A x3 x5) x5.2.length/\((aa (la t A x3 x5) ((List.set x5.2 (la t A x3 x5).toNat (gI A (aY (A.getD ((x5.2.getD (↑x5.1:Int).toNat (0:Int)).toNat) []) (A.getD ((x5.2.getD (↑x3.1:Int).toNat (0:Int)).toNat) [])))).length)) /\
 (ae ((List.set x5.2 ((List.getD (List.getD t (↑x3.1:Int).toNat []) ((List.getD (List.getD A ((List.getD x5.2 (↑x3.1:Int).toNat (0:Int)).toNat) []) (↑x5.1:Int).toNat (0:Int)).toNat) (0:Int)).toNat) (gI A (aY (List.getD A ((List.getD x5.2 (↑x5.1:Int).toNat (0:Int)).toNat) []) (List.getD A ((List.getD x5.2 (↑x3.1:Int).toNat (0:Int)).toNat) [])))).getD (((List.getD t (↑x3.1:Int).toNat []).getD (((List.getD A ((List.getD x5.2 (↑x3.1:Int).toNat (0:Int)).toNat) []).getD (↑x5.1:Int).toNat (0:Int)).toNat) (0:Int)).toNat) (0:Int) != gI A (aY (A.getD ((x5.2.getD (↑x5.1:Int).toNat (0:Int)).toNat) []) (A.getD ((x5.2.getD (↑x3.1:Int).toNat (0:Int)).toNat) []))) ((([]=(dP t A K).1)/\((false=(dP t A K).2)/\True))/\True) ((ac ((↑x5.1:Int)+(1:Int)))/\(∃x8:Nat×V7,(((x3.1<t.length)/\((x8.1<=t.length)/\((KOk t.length A.length x8.2)/\((dw t A x3.2 x3.1 x8.1=Option.some x8.2)/\(aA x8.2<=aA x3.2)))))/\((t.length-x8.1<t.length-x5.1)/\((t=t)/\((A=A)/\((true=decide (aA x8.2<aA x1.2.1))/\(((↑x3.1:Int)=(↑x3.1:Int))/\(((↑x5.1:Int)+(1:Int)=(↑x8.1:Int))/\(List.set x5.2 (la t A x3 x5).toNat (gI A (aY (A.getD ((x5.2.getD (↑x5.1:Int).toNat (0:Int)).toNat) []) (A.getD ((x5.2.getD (↑x3.1:Int).toNat (0:Int)).toNat) [])))=x8.2))))))))))))) ((aa (la t A x3 x5) x5.2.length) /\
 (ae (x5.2.getD (((List.getD t (↑x3.1:Int).toNat []).getD (((List.getD A ((List.getD x5.2 (↑x3.1:Int).toNat (0:Int)).toNat) []).getD (↑x5.1:Int).toNat (0:Int)).toNat) (0:Int)).toNat) (0:Int) != gI A (aY (A.getD ((x5.2.getD (↑x5.1:Int).toNat (0:Int)).toNat) []) (A.getD ((x5.2.getD (↑x3.1:Int).toNat (0:Int)).toNat) []))) ((([]=(dP t A K).1)/\((false=(dP t A K).2)/\True))/\True) ((ac ((↑x5.1:Int)+(1:Int)))/\(∃x9:Nat×V7,(((x3.1<t.length)/\((x9.1<=t.length)/\((KOk t.length A.length x9.2)/\((dw t A x3.2 x3.1 x9.1=Option.some x9.2)/\(aA x9.2<=aA x3.2)))))/\((t.length-x9.1<t.length-x5.1)/\((t=t)/\((A=A)/\((decide (aA x5.2<aA x1.2.1)=decide (aA x9.2<aA x1.2.1))/\(((↑x3.1:Int)=(↑x3.1:Int))/\(((↑x5.1:Int)+(1:Int)=(↑x9.1:Int))/\(x5.2=x9.2))))))))))))))))))))))))))))) ((ac ((↑x3.1:Int)+(1:Int)))/\(∃x10:Nat×V7,(((x10.1<=t.length)/\((x1.2.2=true)/\((KOk t.length A.length x10.2)/\((eD t A x1.2.1 x10.1=Option.some x10.2)/\(aA x10.2<=aA x1.2.1)))))/\((t.length-x10.1<t.length-x3.1)/\((t=t)/\((A=A)/\((decide (aA x5.2<aA x1.2.1)=decide (aA x10.2<aA x1.2.1))/\(((↑x3.1:Int)+(1:Int)=(↑x10.1:Int))/\(x5.2=x10.2))))))))))))) (∃x11:Nat×V7×Bool,(((KOk t.length A.length x11.2.1)/\((x11.2.2=true->aA x11.2.1<x11.1/\c6 t A K=eV t A x11.1 x11.2.1)/\(x11.2.2=false->c6 t A K=Option.some x11.2.1))) /\
 ((((2:Nat)*x11.1+if x11.2.2=true then(1:Nat)else(0:Nat))<(2:Nat)*x1.1+if x1.2.2=true then(1:Nat)else(0:Nat))/\((t=t)/\((A=A)/\((decide (aA x3.2<aA x1.2.1)=x11.2.2)/\(x3.2=x11.2.1))))))))))) (((x1.2.1=(dP t A K).1)/\((true=(dP t A K).2)/\True))/\True))))))
theorem Nn(t:V8)(A:V8)(K:V7):aJ Tryz.prog (ai EP) ak (EO t A K) Tryz.f190 (aE Tryz.f190) [] [.c (.rows .i64 t),.c (.rows .i64 A),.c (.ints .i64 K)] (qF t A K)=wI t A K:=by kernel_rfl
theorem No(t:V8)(A:V8)(K:V7)(Yh:(qF t A K).pre):wI t A K:=by
 simp only[qF,wI,la,aG,u1,u2,u3,u4,u5,u6,u7,u8,u9,v1,v2,v3,v4,v5,v6,v7,v8,v9,w1,w2,w3,w4,aH,aa,ac,af,ar]at Yh⊢;obtain⟨h1,h2,h3,h4,h5⟩:=Yh;have kl:=h5.len
 have ng:=wO K
 refine⟨by omega,⟨⟨t.length+1,K,true⟩,⟨h5,fun _=>⟨by dsimp only;omega,rfl⟩,fun h=>by cases h⟩,rfl,rfl⟩,fun⟨fu,o,g⟩ ⟨o1,o2,o3⟩=>?_⟩
 dsimp only at o1 o2 o3⊢;refine⟨fun hg=>?_,fun hg=>?_⟩
 ·subst hg
  obtain⟨o2,o4⟩:=o2 rfl;obtain⟨fu,rfl⟩:∃m,fu=m+1:=⟨fu-1,by omega⟩
  refine⟨⟨⟨0,o⟩,⟨Nat.zero_le _,rfl,o1,rfl,Nat.le_refl _⟩,(decide_eq_false (Nat.lt_irrefl _)).symm,rfl,rfl⟩,fun⟨i,c⟩ ⟨c1,_,c2,c3,c4⟩=>?_⟩
  dsimp only at c1 c2 c3 c4⊢;refine⟨fun hi=>⟨⟨⟨0,c⟩,⟨by omega,Nat.zero_le _,c2,rfl,Nat.le_refl _⟩,rfl,rfl,rfl⟩,fun⟨j,e⟩ ⟨_,e1,e2,e3,e4⟩=>?_⟩,fun hi=>?_⟩
  ·dsimp only at e1 e2 e3 e4⊢
   refine⟨fun hj=>?_,fun hj=>?_⟩
   ·have el:=e2.len
    have ri:=e2.rng i (by omega)
    have rj:=e2.rng j (by omega)
    have same:fV t A e i j=some e->dw t A c i (j+1)=some e:=fun h=>by rw[dw,e3];exact h
    refine⟨by omega,fun q=>⟨by omega,⟨j+1,e⟩,⟨by omega,by dsimp only;omega,e2,same (by unfold fV;rw[if_pos (.inl q)]),e4⟩,by dsimp only;omega,rfl,by dsimp only;omega,rfl⟩,fun q=>⟨by omega,fun q2=>⟨by omega,⟨j+1,e⟩,⟨by omega,by dsimp only;omega,e2,same (by unfold fV;rw[if_pos (.inr q2)]),e4⟩,by dsimp only;omega,rfl,by dsimp only;omega,rfl⟩,fun q2=>?_⟩⟩
    have W:=mM h3 e2 (x:=i) (y:=j) (by omega) (by omega) (by omega) (by omega)
    have Z:=lf h2 h3 e2 (x:=i) (y:=j) (by omega) (by omega) (by omega)
    have Lt:(t.getD i []).length=t.length:=(h2.2 i (by omega)).1
    have La:=h3.len (e.getD i 0).toNat (by omega)
    have Lb:=h3.len (e.getD j 0).toNat (by omega)
    have hw:gI A (aY (A.getD (e.getD j 0).toNat []) (A.getD (e.getD i 0).toNat []))=dM A e i j:=by rw[gI,if_pos W.1];rfl
    have hz:((t.getD i []).getD ((A.getD (e.getD i 0).toNat []).getD j 0).toNat 0).toNat=bI t A e i j:=rfl
    have hq:iS (A.getD (e.getD i 0).toNat []).length (A.getD (e.getD j 0).toNat []):=fun x hx=>by
     have:=h3.rng (e.getD j 0).toNat x (by omega) (by omega)
     rw[La];exact this
    have hA:aM A:=⟨by omega,fun r hr=>by
     obtain⟨x,hx,rfl⟩:=List.getElem_of_mem hr;have:=h3.len x hx
     rw[bF A [] x hx]at this;omega⟩
    have Z1:0<=(A.getD (e.getD i 0).toNat []).getD j 0/\(A.getD (e.getD i 0).toNat []).getD j 0<(t.length:Int):=Z.1
    have Z2:0<=(t.getD i []).getD ((A.getD (e.getD i 0).toNat []).getD j 0).toNat 0/\(t.getD i []).getD ((A.getD (e.getD i 0).toNat []).getD j 0).toNat 0<(t.length:Int):=Z.2.1
    rw[hw,hz];have SS:fV t A e i j=if e.getD (bI t A e i j) 0<0 then some (e.set (bI t A e i j) (dM A e i j))else if e.getD (bI t A e i j) 0=dM A e i j then some e else none:=by
     conv=>lhs;unfold fV
     rw[if_neg (by omega)]
    have gs:e.getD (bI t A e i j) 0<0->(e.set (bI t A e i j) (dM A e i j)).getD (bI t A e i j) 0=dM A e i j:=fun _=>by
     rw[hZ _ _ _ _ (by rw[el];exact Z.2.2),if_pos rfl]
    refine⟨by omega,by omega,by omega,by omega,by omega,by omega,by omega,by omega,by omega,⟨by omega,hq⟩,hA,by omega,fun z=>⟨by omega,by omega,fun y=>absurd (gs z) y,fun y=>?_⟩,fun z=>⟨by omega,fun y=>?_,fun y=>?_⟩⟩
    ·have N:=ox (K:=e) (z:=bI t A e i j) (w:=dM A e i j) (by rw[el];exact Z.2.2) z W.2.1
     refine⟨by omega,⟨j+1,e.set (bI t A e i j) (dM A e i j)⟩,⟨by omega,by dsimp only;omega,e2.set _ ⟨by omega,W.2.2⟩,?_,by dsimp only;omega⟩,by dsimp only;omega,?_,by dsimp only;omega,rfl⟩
     ·dsimp only;rw[dw,e3];show fV t A e i j=_;rw[SS,if_pos z]
     ·exact(decide_eq_true (by dsimp only;omega)).symm
    ·rw[Nm o4 c3 e3 (by omega) (by omega) (by rw[SS,if_neg z,if_neg y])];exact⟨rfl,rfl⟩
    ·refine⟨by omega,⟨j+1,e⟩,⟨by omega,by dsimp only;omega,e2,same (by rw[SS,if_neg z,if_pos y]),e4⟩,by dsimp only;omega,rfl,by dsimp only;omega,rfl⟩
   ·refine⟨by omega,⟨i+1,e⟩,⟨by dsimp only;omega,rfl,e2,?_,by dsimp only;omega⟩,by dsimp only;omega,rfl,by dsimp only;omega,rfl⟩
    dsimp only;rw[eD,c3]
    show dw t A c i t.length=_
    rw[show t.length=j by omega];exact e3
  ·have ei:i=t.length:=by omega
   rw[ei]at c3;by_cases q:aA c<aA o
   ·refine⟨⟨fu,c,true⟩,⟨c2,fun _=>⟨by dsimp only;omega,?_⟩,fun h=>by cases h⟩,?_,decide_eq_true q,rfl⟩
    ·dsimp only;rw[o4,eV,c3];simp only;rw[if_pos q]
    ·dsimp only;first|omega|(simp;done)|(simp;omega)
   ·refine⟨⟨fu,c,false⟩,⟨c2,fun h=>(by cases h),fun _=>?_⟩,?_,decide_eq_false q,rfl⟩
    ·dsimp only;rw[o4,eV,c3];simp only;rw[if_neg q]
    ·dsimp only;first|omega|(simp;done)|(simp;omega)
 ·rw[dP,o3 hg];exact⟨rfl,rfl⟩
theorem Np:Fits Tryz.prog 190 ⟨[],wE⟩:=by
 refine aO (Γ:=ai EP) (aw sD (aw EZ (aw NZ aF))) Tryz.func190 fun ds p h hp=>?_
 unfold wE at h;split at h
 ·cases h
  exact⟨ak,EO _ _ _ ,by rw[Nn];exact No _ _ _  hp⟩
 ·cases h
end Go.Sx
end
