/- Deep -/
import Derived.Test.YtkmldclpaniclaaGreatBrs
import Derived.Test.YtkmldclpaniclaaGreatCmp
import Derived.Shelf.SlSortCmp.NoneTotal
import Derived.Lib.OwnBridge
import Derived.Test.YtkmldclpaniclaaGreatMpgE
import Derived.Test.YtkmldclpaniclaaGreatCrcR
import Derived.Test.YtkmldclpaniclaaGreatLists
import Derived.Test.YtkmldclpaniclaaGreatEqt
set_option linter.unusedSimpArgs false
set_option linter.unusedVariables false
section
open Go Go.Proofs
namespace Go.Sx
def cK(A:List (List Int))(c:List (List Int)):Bool:=A.all fun f=>!bB (bv c f c.length) c
def cE(t A:List (List Int)):List (List (List Int)):=(aB t A).filter (cK A)
theorem Mw{a b c:List (List Int)}(h:eg a b<=0)(k:eg b c<0):eg a c<0:=by
 have h1:=dK.le a b c h (by omega)
 refine Classical.byContradiction fun hn=>?_
 have e:eg a c=0:=by omega
 have:=(dK.zero a c).1 e
 subst this;have:=dK.anti a b
 omega
theorem Ej:∀(l:List (List (List Int))),l≠[]->∃m∈l,∀x∈l,eg m x<=0
 | [],h=>absurd rfl h
 | [a],_=>⟨a,by simp,fun x hx=>by
  rw[List.mem_singleton]at hx;subst hx;have:=(dK.zero x x).2 rfl
  omega⟩
 |a::b::l,_=>by
  obtain⟨m,hm,h⟩:=Ej (b::l) (by simp)
  by_cases hc:eg a m<=0
  ·refine⟨a,by simp,fun x hx=>?_⟩
   rcases List.mem_cons.1 hx with rfl|hx
   ·have:=(dK.zero x x).2 rfl
    omega
   ·exact dK.le _ _ _ hc (h x hx)
  ·refine⟨m,List.mem_cons_of_mem _ hm,fun x hx=>?_⟩
   rcases List.mem_cons.1 hx with rfl|hx
   ·have:=dK.anti x m
    omega
   ·exact h x hx
section
variable {n:Nat} {t:List (List Int)}
theorem gZ(G:GrpT n t)(hn:n<=7){f:List Int}(hf:f∈aa t):IsP n f:=((fZ G hn).1 hf).p
theorem Ek(G:GrpT n t)(hn:n<=7){f:List Int}(hf:f∈aa t):co f∈aa t:=(fZ G hn).2 (uX G ((fZ G hn).1 hf))
theorem Mx(G:GrpT n t)(hn:n<=7){f g:List Int}(hf:f∈aa t)(hg:g∈aa t):aU f g∈aa t:=(fZ G hn).2 (jN G.tb ((fZ G hn).1 hf) ((fZ G hn).1 hg))
theorem nQ(G:GrpT n t)(hn:n<=7){c:List (List Int)}(hc:c∈aB t (aa t)):aT n c:=by rw[<-pK G hn]at hc;exact C3 G hn hc
theorem My(G:GrpT n t)(hn:n<=7){f:List Int}(hf:f∈aa t){c:List (List Int)}(hc:c∈aB t (aa t)):bv c f n∈aB t (aa t) :=
 Kl G hn hf hc (gA (nQ G hn hc) (gZ G hn hf))
theorem El(G:GrpT n t)(hn:n<=7){f:List Int}(hf:f∈aa t){c:List (List Int)}(hc:aT n c):bv (bv c f n) (co f) n=c:=by
 have P:=gZ G hn hf
 have h:=gA hc P
 exact(gA h.tb P.bk).uniq P.bk (h.back P hc)
theorem Mz(G:GrpT n t)(hn:n<=7){f g:List Int}(hf:f∈aa t)(hg:g∈aa t){c:List (List Int)}(hc:aT n c):bv (bv c f n) g n=bv c (aU f g) n:=by
 have P:=gZ G hn hf
 have Q:=gZ G hn hg
 have h:=gA hc P
 exact(h.th P Q hc (gA h.tb Q)).uniq (P.th Q) (gA hc (P.th Q))
theorem MB(G:GrpT n t)(hn:n<=7):cZ n∈aa t:=(fZ G hn).2 (EK G.tb)
theorem Em(G:GrpT n t)(hn:n<=7):∀i,i<=(aB t (aa t)).length->(cY (aa t) ((aB t (aa t)).take i)).2=((aB t (aa t)).take i).filter (cK (aa t)) /\
  ∀s,s∈(cY (aa t) ((aB t (aa t)).take i)).1↔∃c∈((aB t (aa t)).take i).filter (cK (aa t)),∃f∈aa t,s=bv c f n
 |0,_=>by simp[cY]
 |i+1,hi=>by
  obtain⟨h1,h2⟩:=Em G hn i (by omega)
  have hil:i<(aB t (aa t)).length:=by omega
  have hc:=bE (aB t (aa t)) [] i hil
  have hlt:=bD (aB t (aa t)) [] i hil
  have srt:=List.pairwise_iff_getElem.1 (Kk G hn)
  have nd:=List.pairwise_iff_getElem.1 (Kj G hn)
  have tk:(aB t (aa t)).take (i+1)=(aB t (aa t)).take i++[(aB t (aa t)).getD i []]:=(da _ [] i hil).symm
  have tb:=nQ G hn hc
  have before:∀m∈(aB t (aa t)).take i,eg m ((aB t (aa t)).getD i [])<0:=fun m hm=>by
   obtain⟨k,hk,rfl⟩:=List.mem_iff_getElem.1 hm;have hk':k<i:=by rw[List.length_take]at hk;omega
   rw[List.getElem_take,hlt];have a:=srt k i (by omega) hil hk'
   have b:=nd k i (by omega) hil hk'
   have:=dK.zero (aB t (aa t))[k] (aB t (aa t))[i]
   refine Classical.byContradiction fun hq=>b (this.1 (by omega))
  have after:∀m∈aB t (aa t),eg m ((aB t (aa t)).getD i [])<0->m∈(aB t (aa t)).take i:=fun m hm hlt2=>by
   obtain⟨k,hk,rfl⟩:=List.mem_iff_getElem.1 hm;rw[hlt]at hlt2;by_cases hki:k<i
   ·exact List.mem_iff_getElem.2 ⟨k,by rw[List.length_take];omega,by rw[List.getElem_take]⟩
   ·exfalso
    by_cases e:k=i
    ·subst e
     have:=(dK.zero (aB t (aa t))[k] (aB t (aa t))[k]).2 rfl
     omega
    ·have a:=srt i k hil hk (by omega)
     have:=dK.anti (aB t (aa t))[i] (aB t (aa t))[k]
     omega
  generalize hC:(aB t (aa t)).getD i []=c at *
  have lx:∀m,aT n m->(bB m c=true↔eg m c<0):=fun m hm=>nP m c (by rw[hm.1,tb.1])
  have hcl:c.length=n:=tb.1
  rw[pJ hil,hC,je,tk,List.filter_append];by_cases hs:c∈(cY (aa t) ((aB t (aa t)).take i)).1
  ·have any:(cY (aa t) ((aB t (aa t)).take i)).1.any (fun s=>decide (s=c))=true:=List.any_eq_true.2 ⟨c,hs,by simp⟩
   obtain⟨c0,hc0,f,hf,e⟩:=(h2 c).1 hs;have hm0:=(List.mem_filter.1 hc0).1
   have tb0:=nQ G hn (List.mem_of_mem_take hm0)
   have no:cK (aa t) c=false:=by
    rw[cK,List.all_eq_false];refine⟨co f,Ek G hn hf,?_⟩
    have eb:bv c (co f) n=c0:=by rw[e];exact El G hn hf tb0
    rw[hcl,eb,(lx c0 tb0).2 (before c0 hm0)];simp
   rw[if_pos any,List.filter_cons,no];simp only[Bool.false_eq_true,if_false,List.filter_nil,List.append_nil];exact⟨h1,h2⟩
  ·have any:¬ (cY (aa t) ((aB t (aa t)).take i)).1.any (fun s=>decide (s=c))=true:=fun hq=>by
    obtain⟨s,hs1,hs2⟩:=List.any_eq_true.1 hq;have:s=c:=by simpa using hs2
    subst this;exact hs hs1
   have yes:cK (aa t) c=true:=by
    refine Classical.byContradiction fun hq=>hs ?_
    have hq:cK (aa t) c=false:=by simpa using hq
    rw[cK,List.all_eq_false]at hq;obtain⟨f,hf,hlx⟩:=hq;rw[hcl]at hlx;have tf:=(gA tb (gZ G hn hf)).tb
    have hlx:=(lx _ tf).1 (by simpa using hlx)
    obtain⟨m,hm,hmin⟩:=Ej ((aa t).map fun f=>bv c f n) (by
     intro h0
     have:=MB G hn
     rw[List.map_eq_nil_iff]at h0;rw[h0]at this;cases this)
    obtain⟨f1,hf1,rfl⟩:=List.mem_map.1 hm;have hmc:=Mw (hmin _ (List.mem_map.2 ⟨f,hf,rfl⟩)) hlx
    have hmem:=after _ (My G hn hf1 hc) hmc
    have tm:=(gA tb (gZ G hn hf1)).tb
    refine(h2 c).2 ⟨bv c f1 n,List.mem_filter.2 ⟨hmem,?_⟩,co f1,Ek G hn hf1,(El G hn hf1 tb).symm⟩
    rw[cK,List.all_eq_true];intro g hg
    have e:=Mz G hn hf1 hg tb
    have hl:(bv c f1 n).length=n:=tm.1
    rw[hl,e];have:=hmin _ (List.mem_map.2 ⟨aU f1 g,Mx G hn hf1 hg,rfl⟩)
    have tq:=(gA tb ((gZ G hn hf1).th (gZ G hn hg))).tb
    have an:=dK.anti (bv c f1 n) (bv c (aU f1 g) n)
    cases hb:bB (bv c (aU f1 g) n) (bv c f1 n)with
    |false=>rfl
    |true =>
     have:=(nP _ _ (by rw[tq.1,tm.1])).1 hb
     omega
   rw[if_neg any,List.filter_cons,yes];simp only[if_true,List.filter_nil];refine⟨by rw[h1],fun s=>?_⟩
   rw[List.mem_append,h2,List.mem_map]
   constructor
   ·rintro(⟨c0,a1,f,a2,a3⟩|⟨f,a1,a2⟩)
    ·exact⟨c0,List.mem_append_left _ a1,f,a2,a3⟩
    ·exact⟨c,by simp,f,a1,by rw[<-a2];exact CK tb (gZ G hn a1)⟩
   ·rintro⟨c0,a1,f,a2,a3⟩
    rcases List.mem_append.1 a1 with a1|a1
    ·exact .inl ⟨c0,a1,f,a2,a3⟩
    ·rw[List.mem_singleton]at a1
     subst a1;exact .inr ⟨f,a2,by rw[a3];exact CK tb (gZ G hn a2)⟩
theorem ME(G:GrpT n t)(hn:n<=7):(cY (aa t) (aX t)).2=cE t (aa t):=by
 have:=(Em G hn _ (Nat.le_refl _)).1
 rw[List.take_length]at this;rw[pK G hn];exact this
end
end Go.Sx
end
section
open Go Go.Proofs Go.RowKit Go.Shelf
namespace Go.Sx
set_option maxRecDepth 100000
end Go.Sx
end
section
open Go Go.Proofs
namespace Go.Sx
def qB(t:List (List Int)):Post:=⟨aY t,.c (.bool (ba t)),[]⟩
def wR:List AD->Option Post
 | [.agg [.rows .i64 t]]=>some (qB t)
 |_=>none
def En:List (Nat×Ctr):=[(98,⟨[],xr⟩)]
def wS(t:List (List Int)):Prop :=
 (aY t/\True)/\ba t=ba t/\True
theorem MF(t:List (List Int)):aP Tryz.prog (ai En) aj ar Tryz.f53 (aF Tryz.f53) [] [.agg [.rows .i64 t]] (qB t)=wS t:=by kernel_rfl
theorem MG(t:List (List Int))(Yh:(qB t).pre):wS t:=by
 simp only[qB,wS,aK,u1,u2,u3,u4,u5,u6,u7,u8,u9,v1,v2,v3,v4,v5,v6,v7,v8,v9,w1,w2,w3,w4,aC,ab,ae,ag,av]at Yh⊢;exact Yh
theorem MH:Fits Tryz.prog 53 ⟨[],wR⟩:=by
 refine aW (Γ:=ai En) (az ND aJ) Tryz.func53 fun ds p h hp=>?_
 unfold wR at h;split at h
 ·cases h
  exact⟨aj,ar,by rw[MF];exact MG _  hp⟩
 ·cases h
def qC(l:List (List Int))(k:Int):Post:=⟨(l.length:Int)<=9223372036854775807/\(∀r∈l,(r.length:Int)<=9223372036854775807)/\0<=k/\k<=1099511627776,.c (.int .i64 (if k<(l.length:Int)+(am l:Int)then -1 else k-(l.length:Int)-(am l:Int))),[]⟩
def wT:List AD->Option Post
 | [.agg [.rows .i64 l],.c (.int .i64 k)]=>some (qC l k)
 |_=>none
def Eo:List (Nat×Ctr):=[(49,⟨[],xM⟩)]
def wU(l:List (List Int))(k:Int):Prop :=
 (((l.length:Int)<=(9223372036854775807:Int)/\(∀(r:List Int),r∈l->(r.length:Int)<=(9223372036854775807:Int))/\(0:Int)<=k/\k<=(1099511627776:Int))/\True)/\af (decide ((if k<(l.length:Int)+(am l:Int)then(-1:Int)else k-(l.length:Int)-(am l:Int))<(0:Int))) (((-1:Int)=if k<(l.length:Int)+(am l:Int)then(-1:Int)else k-(l.length:Int)-(am l:Int))/\True) (((if k<(l.length:Int)+(am l:Int)then(-1:Int)else k-(l.length:Int)-(am l:Int))=if k<(l.length:Int)+(am l:Int)then(-1:Int)else k-(l.length:Int)-(am l:Int))/\True)
theorem MJ(l:List (List Int))(k:Int):aP Tryz.prog (ai Eo) aj ar Tryz.f9 (aF Tryz.f9) [] [.agg [.rows .i64 l],.c (.int .i64 k)] (qC l k)=wU l k:=by kernel_rfl
theorem MK(l:List (List Int))(k:Int)(Yh:(qC l k).pre):wU l k:=by
 simp only[qC,wU,aK,u1,u2,u3,u4,u5,u6,u7,u8,u9,v1,v2,v3,v4,v5,v6,v7,v8,v9,w1,w2,w3,w4,aC,ab,ae,ag,av]at Yh⊢;refine⟨Yh,fun h=>?_,fun h=>trivial⟩
 split at h
 ·rename_i h1;rw[if_pos h1]
 ·omega
theorem MM:Fits Tryz.prog 9 ⟨[],wT⟩:=by
 refine aW (Γ:=ai Eo) (az N8 aJ) Tryz.func9 fun ds p h hp=>?_
 unfold wT at h;split at h
 ·cases h
  exact⟨aj,ar,by rw[MJ];exact MK _ _  hp⟩
 ·cases h
def qD(l:List (List Int)):Post:=⟨aY l,.agg [.rows 62 2 .i64 l],[]⟩
def wV:List AD->Option Post
 | [.agg [.rows .i64 l]]=>some (qD l)
 |_=>none
def Ep:List (Nat×Ctr):=[(52,⟨[],xO⟩)]
def wW(l:List (List Int)):Prop :=
 (aY l/\True)/\(l=l/\True)/\True
theorem MN(l:List (List Int)):aP Tryz.prog (ai Ep) aj ar Tryz.f11 (aF Tryz.f11) [] [.agg [.rows .i64 l]] (qD l)=wW l:=by kernel_rfl
theorem MP(l:List (List Int))(Yh:(qD l).pre):wW l:=by
 simp only[qD,wW,aK,u1,u2,u3,u4,u5,u6,u7,u8,u9,v1,v2,v3,v4,v5,v6,v7,v8,v9,w1,w2,w3,w4,aC,ab,ae,ag,av]at Yh⊢;exact Yh
theorem MQ:Fits Tryz.prog 11 ⟨[],wV⟩:=by
 refine aW (Γ:=ai Ep) (az Oc aJ) Tryz.func11 fun ds p h hp=>?_
 unfold wV at h;split at h
 ·cases h
  exact⟨aj,ar,by rw[MN];exact MP _  hp⟩
 ·cases h
def qE(a:List (List Int))(b:List (List Int)):Post:=⟨aY a,.c (.bool (decide (a=b))),[]⟩
def wX:List AD->Option Post
 | [.agg [.rows .i64 a],.agg [.rows .i64 b]]=>some (qE a b)
 |_=>none
def Eq:List (Nat×Ctr):=[(55,⟨[],rJ⟩)]
def wY(a:List (List Int))(b:List (List Int)):Prop :=
 (aY a/\True)/\af (!decide (a=b)) (false=decide (a=b)/\True) (true=decide (a=b)/\True)
theorem MT(a:List (List Int))(b:List (List Int)):aP Tryz.prog (ai Eq) aj ar Tryz.f14 (aF Tryz.f14) [] [.agg [.rows .i64 a],.agg [.rows .i64 b]] (qE a b)=wY a b:=by kernel_rfl
theorem MU(a:List (List Int))(b:List (List Int))(Yh:(qE a b).pre):wY a b:=by
 simp only[qE,wY,aK,u1,u2,u3,u4,u5,u6,u7,u8,u9,v1,v2,v3,v4,v5,v6,v7,v8,v9,w1,w2,w3,w4,aC,ab,ae,ag,av]at Yh⊢;exact⟨Yh,fun h=>(decide_eq_false h).symm,fun h=>(decide_eq_true h).symm⟩
theorem MV:Fits Tryz.prog 14 ⟨[],wX⟩:=by
 refine aW (Γ:=ai Eq) (az Ft aJ) Tryz.func14 fun ds p h hp=>?_
 unfold wX at h;split at h
 ·cases h
  exact⟨aj,ar,by rw[MT];exact MU _ _  hp⟩
 ·cases h
def qF(l:List (List Int))(k:Int):Post:=⟨l.length<=1048576/\am l<=1048576/\0<=k/\k<=1073741824,.c (.int .i64 (k+(am l:Int))),[.rows 62 2 .i64 (a8 l k)]⟩
def wZ:List AD->Option Post
 | [.agg [.rows .i64 l],.c (.int .i64 k)]=>some (qF l k)
 |_=>none
def Er:List (Nat×Ctr):=[(56,⟨[(0,0)],xU⟩)]
def w5(l:List (List Int))(k:Int):Prop :=
 ((l.length<=(1048576:Nat)/\am l<=(1048576:Nat)/\(0:Int)<=k/\k<=(1073741824:Int))/\List.map List.length (a8 l k)=List.map List.length l/\True)/\k+(am l:Int)=k+(am l:Int)/\a8 l k=a8 l k/\True
theorem MY(l:List (List Int))(k:Int):aP Tryz.prog (ai Er) aj ar Tryz.f15 (aF Tryz.f15) [(0,0)] [.agg [.rows .i64 l],.c (.int .i64 k)] (qF l k)=w5 l k:=by kernel_rfl
theorem MZ(l:List (List Int))(k:Int)(Yh:(qF l k).pre):w5 l k:=by
 simp only[qF,w5,aK,u1,u2,u3,u4,u5,u6,u7,u8,u9,v1,v2,v3,v4,v5,v6,v7,v8,v9,w1,w2,w3,w4,aC,ab,ae,ag,av]at Yh⊢;exact⟨Yh,xR l k⟩
theorem M0:Fits Tryz.prog 15 ⟨[(0,0)],wZ⟩:=by
 refine aW (Γ:=ai Er) (az Oi aJ) Tryz.func15 fun ds p h hp=>?_
 unfold wZ at h;split at h
 ·cases h
  exact⟨aj,ar,by rw[MY];exact MZ _ _  hp⟩
 ·cases h
theorem Es(k:Nat):∀l:List (List Int),(∀r∈l,r.length<=k)->am l<=l.length*k
 | [],_=>by simp[am]
 |r::l,h=>by
  have h1:=h r List.mem_cons_self
  have h2:=Es k l fun x hx=>h x (List.mem_cons_of_mem _ hx)
  simp only[am,List.map_cons,List.sum_cons,List.length_cons,Nat.add_mul]at *;omega
def de{α:Type}(c:α->Nat)(l:List α):Nat:=(l.map c).sum
theorem Et{α:Type}(c:α->Nat)(l:List α)(z:α)(i:Nat)(h:i<l.length):de c (l.take (i+1))=de c (l.take i)+c (l.getD i z):=by
 rw[<-da l z i h];simp[de]
theorem Eu{α:Type}(c:α->Nat)(l:List α)(i:Nat):de c (l.take i)<=de c l:=by
 have h:de c l=de c (l.take i)+de c (l.drop i):=by
  rw[de,de,de,<-List.sum_append,<-List.map_append,List.take_append_drop]
 omega
def dn{α:Type}(f:α->Int->α)(c:α->Nat):List α->Int->List α
 | [],_=>[]
 |x::l,k=>f x k::dn f c l (k+(c x:Int))
section
variable {α:Type} {f:α->Int->α} {c:α->Nat}
theorem qG:∀(l:List α) (k:Int),(dn f c l k).length=l.length
 | [],_=>rfl
 |r::l,k=>by simp[dn,qG l]
theorem w6:∀(a b:List α) (k:Int),dn f c (a++b) k=dn f c a k++dn f c b (k+(de c a:Int))
 | [],b,k=>by simp[dn,de]
 |r::a,b,k=>by
  simp only[List.cons_append,dn,w6 a b,de,List.map_cons,List.sum_cons];rw[show k+((c r+(a.map c).sum:Nat):Int)=k+(c r:Int)+((a.map c).sum:Int) by omega]
theorem w7(l:List α)(z:α)(k:Int)(i:Nat)(h:i<l.length):dn f c (l.take (i+1)) k=dn f c (l.take i) k++[f (l.getD i z) (k+(de c (l.take i):Int))]:=by
 rw[<-da l z i h,w6];rfl
theorem M1(l:List α)(z:α)(k:Int)(i:Nat)(h:i<l.length):(dn f c l k).getD i z=f (l.getD i z) (k+(de c (l.take i):Int)):=by
 have hl:(dn f c (l.take i) k).length=i:=by rw[qG,List.length_take];omega
 conv=>lhs;rw[<-List.take_append_drop (i+1) l]
 rw[w6,w7 l z k i h,List.append_assoc,getD_append_right' _ _ _ _ (by omega),hl,Nat.sub_self]
 rfl
theorem Ev(hc:∀x k,c (f x k)=c x):∀(l:List α) (k:Int),de c (dn f c l k)=de c l
 | [],_=>rfl
 |r::l,k=>by
  have:=Ev hc l (k+(c r:Int))
  simp only[de,dn,List.map_cons,List.sum_cons,hc]at this⊢;rw[this]
theorem Ew(hf:∀x k,f (f x k) k=f x k)(hc:∀x k,c (f x k)=c x):∀(l:List α) (k:Int),dn f c (dn f c l k) k=dn f c l k
 | [],_=>rfl
 |r::l,k=>by simp only[dn,hf,hc,Ew hf hc l]
theorem Ex(l:List α)(z:α)(k:Int)(i:Nat)(h:i<l.length) :
  (dn f c (l.take i) k++l.drop i).getD i z=l.getD i z /\
  (dn f c (l.take i) k++l.drop i).set i (f (l.getD i z) (k+(de c (l.take i):Int)))=dn f c (l.take (i+1)) k++l.drop (i+1):=by
 have hlen:(dn f c (l.take i) k).length=i:=by rw[qG,List.length_take];omega
 constructor
 ·rw[getD_append_right' _ _ _ _ (by omega),hlen,pu];simp
 ·rw[w7 l z k i h,List.set_append_right _ _ (by omega),hlen,Nat.sub_self,drop_cons' l z i h,List.set_cons_zero]
  simp
end
theorem M2{α:Type}{f:α->Int->α}{c:α->Nat}{l:List α}{k:Int}{y:α}(h:y∈dn f c l k):∃x∈l,∃j,y=f x j:=by
 induction l generalizing k with
 |nil=>simp[dn]at h
 |cons x l ih =>
  rcases List.mem_cons.1 h with rfl|h
  ·exact⟨x,by simp,k,rfl⟩
  ·obtain⟨z,h1,h2⟩:=ih h
   exact⟨z,by simp[h1],h2⟩
def qH(l:List Int)(k:Int):Post:=⟨ag l.length/\0<=k/\k<=1099511627776,.c (.int .i64 (k+(l.length:Int))),[.tr [2] (.ints .i64 (bU k l.length))]⟩
def w8:List AD->Option Post
 | [.c (.ints .i64 l),.c (.int .i64 k)]=>some (qH l k)
 |_=>none
def Ey(l:List Int)(k:Int):Nat->Option Ann
 |0=>some (Ann.mk ((Nat)) (fun i=>⟨[(0,.c (.own 700)),(1,.c (.int .i64 (k+(i:Int)))),(5,.c (.int .i64 ((i:Int))))],[(700,some (.tr 0 [2] (.ints .i64 ((bU k l.length).take i++l.drop i))))]⟩) (fun i=>i<=l.length) (fun i=>l.length-i) (fun _=>ar))
 |_=>none
def Ez:List (Nat×Ctr):=[]
def w9(l:List Int)(k:Int):Prop :=
 (∃x0:Nat,x0<=l.length/\k=k+(x0:Int)/\(0:Int)=(x0:Int)/\l=List.take x0 (bU k l.length)++List.drop x0 l)/\∀x1:Nat,x1<=l.length->af (decide ((x1:Int)<(↑(FC.len (FC.ints IntKind.i64 (List.take x1 (bU k l.length)++List.drop x1 l))):Int))) (ab (x1:Int) (FC.len (FC.ints IntKind.i64 (List.take x1 (bU k l.length)++List.drop x1 l)))/\ae (k+(x1:Int)+(1:Int))/\ae ((x1:Int)+(1:Int))/\∃x2:Nat,x2<=l.length/\l.length-x2<l.length-x1/\k+(x1:Int)+(1:Int)=k+(x2:Int)/\(x1:Int)+(1:Int)=(x2:Int)/\List.set (List.take x1 (bU k l.length)++List.drop x1 l) (x1:Int).toNat (k+(x1:Int))=List.take x2 (bU k l.length)++List.drop x2 l) (k+(x1:Int)=k+(l.length:Int)/\List.take x1 (bU k l.length)++List.drop x1 l=bU k l.length/\True)
theorem M3(l:List Int)(k:Int):aP Tryz.prog (ai Ez) aj (Ey l k) Tryz.f105 (aF Tryz.f105) [(0,0)] [.c (.ints .i64 l),.c (.int .i64 k)] (qH l k)=w9 l k:=by kernel_rfl
theorem M4(l:List Int)(k:Int)(Yh:(qH l k).pre):w9 l k:=by
 simp only[qH,w9,aK,true_and,and_true,decide_eq_true_eq,decide_eq_false_iff_not,bne_iff_ne,beq_iff_eq,bne_eq_false_iff_eq,beq_eq_false_iff_ne,Bool.not_eq_true,Bool.not_eq_false,Bool.not_true,Bool.not_false,Bool.not_eq_eq_eq_not,Int.toNat_natCast,List.length_append,List.length_take,List.length_replicate,List.length_set,List.length_map,List.length_drop,List.length_nil,List.length_cons,aC,ab,ae,ag,av,FC.len]at Yh⊢;obtain⟨h1,h2,h3⟩:=Yh;refine⟨⟨0,by omega,by simp⟩,fun i hi=>⟨fun h=>⟨by omega,by omega,by omega,i+1,by omega,by omega,by omega,by omega,?_⟩,fun h=>⟨?_,?_⟩⟩⟩
 ·rw[<-Kc (bU k l.length) l 0 i (aC _ _) (by omega),uU _ _ _ (by omega)]
 ·omega
 ·rw[List.take_of_length_le (by rw[aC];omega),List.drop_of_length_le (by omega),List.append_nil]
theorem M5:Fits Tryz.prog 105 ⟨[(0,0)],w8⟩:=by
 refine aW (Γ:=ai Ez) aJ Tryz.func105 fun ds p h hp=>?_
 unfold w8 at h;split at h
 ·cases h
  exact⟨aj,Ey _ _ ,by rw[M3];exact M4 _ _  hp⟩
 ·cases h
def qI(l:List (List Int))(k:Int):Post:=⟨l.length<=1048576/\am l<=1048576/\0<=k/\k<=1073741824,.c (.int .i64 (k+(am l:Int))),[.tr [62,2] (.rows .i64 (a8 l k))]⟩
def xa:List AD->Option Post
 | [.c (.rows .i64 l),.c (.int .i64 k)]=>some (qI l k)
 |_=>none
def EA(l:List (List Int))(k:Int):Nat->Option Ann
 |0=>some (Ann.mk ((Nat)) (fun i=>⟨[(0,.c (.own 700)),(1,.c (.int .i64 (k+(am (l.take i):Int)))),(5,.c (.int .i64 ((i:Int))))],[(700,some (.tr 0 [62,2] (.rows .i64 (a8 (l.take i) k++l.drop i))))]⟩) (fun i=>i<=l.length) (fun i=>l.length-i) (fun _=>ar))
 |_=>none
def EB:List (Nat×Ctr):=[(105,⟨[(0,0)],w8⟩)]
def mq(l:List (List Int))(k:Int)(x0:Nat):=((a8 (List.take x0 l) k++List.drop x0 l).getD (↑x0:Int).toNat [])
def xb(l:List (List Int))(k:Int):Prop :=
 (∃x0:Nat,x0<=l.length/\k=k+(↑(am (List.take x0 l)):Int)/\(0:Int)=(x0:Int)/\l=a8 (List.take x0 l) k++List.drop x0 l)/\∀x1:Nat,x1<=l.length->af (decide ((x1:Int)<(↑(FC.len (FC.rows IntKind.i64 (a8 (List.take x1 l) k++List.drop x1 l))):Int))) (ab (x1:Int) (FC.len (FC.rows IntKind.i64 (a8 (List.take x1 l) k++List.drop x1 l)))/\((ag (mq l k x1).length/\(0:Int)<=k+(↑(am (List.take x1 l)):Int)/\k+(↑(am (List.take x1 l)):Int)<=(1099511627776:Int))/\FC.len (FC.ints IntKind.i64 (bU (k+(↑(am (List.take x1 l)):Int)) (mq l k x1).length))=FC.len (FC.ints IntKind.i64 (mq l k x1)))/\ae ((x1:Int)+(1:Int))/\∃x2:Nat,x2<=l.length/\l.length-x2<l.length-x1/\k+(↑(am (List.take x1 l)):Int)+(↑((mq l k x1).length):Int)=k+(↑(am (List.take x2 l)):Int)/\(x1:Int)+(1:Int)=(x2:Int)/\List.set (a8 (List.take x1 l) k++List.drop x1 l) (x1:Int).toNat (bU (k+(↑(am (List.take x1 l)):Int)) (mq l k x1).length)=a8 (List.take x2 l) k++List.drop x2 l) (k+(↑(am (List.take x1 l)):Int)=k+(am l:Int)/\a8 (List.take x1 l) k++List.drop x1 l=a8 l k/\True)
theorem M6(l:List (List Int))(k:Int):aP Tryz.prog (ai EB) aj (EA l k) Tryz.f56 (aF Tryz.f56) [(0,0)] [.c (.rows .i64 l),.c (.int .i64 k)] (qI l k)=xb l k:=by kernel_rfl
theorem M7(l:List (List Int))(k:Int)(Yh:(qI l k).pre):xb l k:=by
 simp only[qI,xb,mq,aK,true_and,and_true,decide_eq_true_eq,decide_eq_false_iff_not,bne_iff_ne,beq_iff_eq,bne_eq_false_iff_eq,beq_eq_false_iff_ne,Bool.not_eq_true,Bool.not_eq_false,Bool.not_true,Bool.not_false,Bool.not_eq_eq_eq_not,Int.toNat_natCast,List.length_append,List.length_take,List.length_replicate,List.length_set,List.length_map,List.length_drop,List.length_nil,List.length_cons,aC,ab,ae,ag,av,FC.len]at Yh⊢;obtain⟨h1,h2,h3,h4⟩:=Yh;refine⟨⟨0,by omega,by simp[am],rfl,by simp[a8]⟩,fun i hi=>?_⟩
 have hlen:(a8 (l.take i) k).length=i:=by rw[kL,List.length_take];omega
 rw[hlen];refine⟨fun h=>?_,fun h=>?_⟩
 ·have q1:=rD l i (by omega)
  have q2:=rE l (i+1)
  have hg:(a8 (l.take i) k++l.drop i).getD i []=l.getD i []:=by
   rw[getD_append_right' _ _ _ _ (by omega),hlen,pu];simp
  have q3:=rF (bE l [] i (by omega))
  rw[hg];refine⟨by omega,by omega,by omega,i+1,by omega,by omega,by omega,by omega,?_⟩
  rw[rK l k i (by omega),List.set_append_right _ _ (by omega),hlen,Nat.sub_self,drop_cons' l [] i (by omega),List.set_cons_zero]
  simp
 ·rw[List.take_of_length_le (by omega),List.drop_of_length_le (by omega),List.append_nil]
  exact⟨rfl,rfl⟩
theorem M8:Fits Tryz.prog 56 ⟨[(0,0)],xa⟩:=by
 refine aW (Γ:=ai EB) (az M5 aJ) Tryz.func56 fun ds p h hp=>?_
 unfold xa at h;split at h
 ·cases h
  exact⟨aj,EA _ _ ,by rw[M6];exact M7 _ _  hp⟩
 ·cases h
end Go.Sx
end
