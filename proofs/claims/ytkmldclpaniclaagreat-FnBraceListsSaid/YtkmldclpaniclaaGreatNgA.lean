/- NgA -/
import Derived.Test.YtkmldclpaniclaaGreatBrs
import Derived.Test.YtkmldclpaniclaaGreatCmp
import Derived.Shelf.SlSortCmp.NoneTotal
import Derived.Lib.OwnBridge
import Derived.Test.YtkmldclpaniclaaGreatMpgE
import Derived.Test.YtkmldclpaniclaaGreatActP
import Derived.Test.YtkmldclpaniclaaGreatTable
import Derived.Test.YtkmldclpaniclaaGreatEqt
import Derived.Test.YtkmldclpaniclaaGreatCirC
import Derived.Test.YtkmldclpaniclaaGreatCirM
set_option linter.unusedSimpArgs false
set_option linter.unusedVariables false
set_option linter.defProp false
section
open Go Go.Proofs
namespace Go.Sx
def dt(A:D7)(c:D7):Bool:=A.all λf=>!bO (bt c f c.length) c
def bL(t A:D7):D8:=(aF t A).filter (dt A)
def ac2{a b c:D7}(h:fx a b<=0)(k:fx b c<0):fx a c<0:=by
 have h1:=eE.le a b c h (by omega)
 refine Ax λhn=>?_
 have e:fx a c=0:=by omega
 have:=(eE.zero a c).1 e
 subst this;have:=eE.anti a b
 omega
def QG:∀(l:D8),l≠[]->∃m∈l,∀x∈l,fx m x<=0
 | [],h=>absurd rfl h
 | [a],_=>⟨a,by simp,λx hx=>by
  rw[Ar]at hx;subst hx;have:=(eE.zero x x).2 rfl
  omega⟩
 |a::b::l,_=>by
  obtain⟨m,hm,h⟩:=QG (b::l) (by simp)
  by_cases hc:fx a m<=0
  ·refine⟨a,by simp,λx hx=>?_⟩
   rcases AG.1 hx with rfl|hx
   ·have:=(eE.zero x x).2 rfl
    omega
   ·exact eE.le _ _ _ hc (h x hx)
  ·refine⟨m,AQ _ hm,λx hx=>?_⟩
   rcases AG.1 hx with rfl|hx
   ·have:=eE.anti x m
    omega
   ·exact h x hx
section
variable {n:Nat} {t:D7}
def jp(G:GrpT n t)(hn:n<=7){f:D6}(hf:f∈aa t):IsP n f:=((g3 G hn).1 hf).p
def QH(G:GrpT n t)(hn:n<=7){f:D6}(hf:f∈aa t):cG f∈aa t:=(g3 G hn).2 (ze G ((g3 G hn).1 hf))
def ac3(G:GrpT n t)(hn:n<=7){f g:D6}(hf:f∈aa t)(hg:g∈aa t):aR f g∈aa t:=(g3 G hn).2 (lP G.tb ((g3 G hn).1 hf) ((g3 G hn).1 hg))
def po(G:GrpT n t)(hn:n<=7){c:D7}(hc:c∈aF t (aa t)):am n c:=by rw[<-uh G hn]at hc;exact MK G hn hc
def ac4(G:GrpT n t)(hn:n<=7){f:D6}(hf:f∈aa t){c:D7}(hc:c∈aF t (aa t)):bt c f n∈aF t (aa t) :=
 UG G hn hf hc (iF (po G hn hc) (jp G hn hf))
def QI(G:GrpT n t)(hn:n<=7){f:D6}(hf:f∈aa t){c:D7}(hc:am n c):bt (bt c f n) (cG f) n=c:=by
 have P:=jp G hn hf
 have h:=iF hc P
 exact(iF h.tb P.bk).uniq P.bk (h.back P hc)
def ac5(G:GrpT n t)(hn:n<=7){f g:D6}(hf:f∈aa t)(hg:g∈aa t){c:D7}(hc:am n c):bt (bt c f n) g n=bt c (aR f g) n:=by
 have P:=jp G hn hf
 have Q:=jp G hn hg
 have h:=iF hc P
 exact(h.th P Q hc (iF h.tb Q)).uniq (P.th Q) (iF hc (P.th Q))
def ac6(G:GrpT n t)(hn:n<=7):dK n∈aa t:=(g3 G hn).2 (Og G.tb)
def QJ(G:GrpT n t)(hn:n<=7):∀i,i<=(aF t (aa t)).length->(dF (aa t) ((aF t (aa t)).take i)).2=((aF t (aa t)).take i).filter (dt (aa t)) /\
  ∀s,s∈(dF (aa t) ((aF t (aa t)).take i)).1↔∃c∈((aF t (aa t)).take i).filter (dt (aa t)),∃f∈aa t,s=bt c f n
 |0,_=>by simp[dF]
 |i+1,hi=>by
  obtain⟨h1,h2⟩:=QJ G hn i (by omega)
  have hil:i<(aF t (aa t)).length:=by omega
  have hc:=bN (aF t (aa t)) [] i hil
  have ψ:=bM (aF t (aa t)) [] i hil
  have srt:=Bf.1 (UF G hn)
  have nd:=Bf.1 (UE G hn)
  have tk:(aF t (aa t)).take (i+1)=(aF t (aa t)).take i++[(aF t (aa t)).getD i []]:=(dZ _ [] i hil).symm
  have tb:=po G hn hc
  have before:∀m∈(aF t (aa t)).take i,fx m ((aF t (aa t)).getD i [])<0:=λm hm=>by
   obtain⟨k,hk,rfl⟩:=BS.1 hm;have hk':k<i:=by rw[AP]at hk;omega
   rw[Da,ψ];have a:=srt k i (by omega) hil hk'
   have b:=nd k i (by omega) hil hk'
   have:=eE.zero (aF t (aa t))[k] (aF t (aa t))[i]
   refine Ax λhq=>b (this.1 (by omega))
  have after:∀m∈aF t (aa t),fx m ((aF t (aa t)).getD i [])<0->m∈(aF t (aa t)).take i:=λm hm hlt2=>by
   obtain⟨k,hk,rfl⟩:=BS.1 hm;rw[ψ]at hlt2;by_cases hki:k<i
   ·exact BS.2 ⟨k,by rw[AP];omega,by rw[Da]⟩
   ·exfalso
    by_cases e:k=i
    ·subst e
     have:=(eE.zero (aF t (aa t))[k] (aF t (aa t))[k]).2 rfl
     omega
    ·have a:=srt i k hil hk (by omega)
     have:=eE.anti (aF t (aa t))[i] (aF t (aa t))[k]
     omega
  generalize hC:(aF t (aa t)).getD i []=c at *
  have lx:∀m,am n m->(bO m c=true↔fx m c<0):=λm hm=>qi m c (by rw[hm.1,tb.1])
  have hcl:c.length=n:=tb.1
  rw[ug hil,hC,kI,tk,List.filter_append];by_cases hs:c∈(dF (aa t) ((aF t (aa t)).take i)).1
  ·have any:(dF (aa t) ((aF t (aa t)).take i)).1.any (λs=>decide (s=c))=true:=List.any_eq_true.2 ⟨c,hs,by simp⟩
   obtain⟨c0,hc0,f,hf,e⟩:=(h2 c).1 hs;have hm0:=(Bc.1 hc0).1
   have tb0:=po G hn (CP hm0)
   have no:dt (aa t) c=false:=by
    rw[dt,List.all_eq_false];refine⟨cG f,QH G hn hf,?_⟩
    have eb:bt c (cG f) n=c0:=by rw[e];exact QI G hn hf tb0
    rw[hcl,eb,(lx c0 tb0).2 (before c0 hm0)];simp
   rw[AA any,Df,no];simp only[Bw,Al,Dg,AV];exact⟨h1,h2⟩
  ·have any:¬ (dF (aa t) ((aF t (aa t)).take i)).1.any (λs=>decide (s=c))=true:=λhq=>by
    obtain⟨s,hs1,hs2⟩:=List.any_eq_true.1 hq;have:s=c:=by simpa using hs2
    subst this;exact hs hs1
   have yes:dt (aa t) c=true:=by
    refine Ax λhq=>hs ?_
    have hq:dt (aa t) c=false:=by simpa using hq
    rw[dt,List.all_eq_false]at hq;obtain⟨f,hf,hlx⟩:=hq;rw[hcl]at hlx;have tf:=(iF tb (jp G hn hf)).tb
    have hlx:=(lx _ tf).1 (by simpa using hlx)
    obtain⟨m,hm,hmin⟩:=QG ((aa t).map λf=>bt c f n) (by
     intro h0
     have:=ac6 G hn
     rw[List.map_eq_nil_iff]at h0;rw[h0]at this;cases this)
    obtain⟨f1,hf1,rfl⟩:=AJ.1 hm;have hmc:=ac2 (hmin _ (AJ.2 ⟨f,hf,rfl⟩)) hlx
    have hmem:=after _ (ac4 G hn hf1 hc) hmc
    have tm:=(iF tb (jp G hn hf1)).tb
    refine(h2 c).2 ⟨bt c f1 n,Bc.2 ⟨hmem,?_⟩,cG f1,QH G hn hf1,(QI G hn hf1 tb).symm⟩
    rw[dt,Ac];intro g hg
    have e:=ac5 G hn hf1 hg tb
    have hl:(bt c f1 n).length=n:=tm.1
    rw[hl,e];have:=hmin _ (AJ.2 ⟨aR f1 g,ac3 G hn hf1 hg,rfl⟩)
    have tq:=(iF tb ((jp G hn hf1).th (jp G hn hg))).tb
    have an:=eE.anti (bt c f1 n) (bt c (aR f1 g) n)
    cases hb:bO (bt c (aR f1 g) n) (bt c f1 n)with
    |false=>rfl
    |true =>
     have:=(qi _ _ (by rw[tq.1,tm.1])).1 hb
     omega
   rw[AB any,Df,yes];simp only[AX,Dg];refine⟨by rw[h1],λs=>?_⟩
   rw[AH,h2,AJ]
   constructor
   ·rintro(⟨c0,a1,f,a2,a3⟩|⟨f,a1,a2⟩)
    ·exact⟨c0,BI _ a1,f,a2,a3⟩
    ·exact⟨c,by simp,f,a1,by rw[<-a2];exact K5 tb (jp G hn a1)⟩
   ·rintro⟨c0,a1,f,a2,a3⟩
    rcases AH.1 a1 with a1|a1
    ·exact .inl ⟨c0,a1,f,a2,a3⟩
    ·rw[Ar]at a1
     subst a1;exact .inr ⟨f,a2,by rw[a3];exact K5 tb (jp G hn a2)⟩
def ac7(G:GrpT n t)(hn:n<=7):(dF (aa t) (bn t)).2=bL t (aa t):=by
 have:=(QJ G hn _ (AE _)).1
 rw[Bs]at this;rw[uh G hn];exact this
end
end Go.Sx
end
section
open Go Go.Proofs Go.RowKit Go.Shelf
namespace Go.Sx
set_option maxRecDepth 100000
end Go.Sx
end
section
open Go Go.Proofs
namespace Go.Sx
section
variable {α:Type} {f:α->Int->α} {c:α->Nat}
end
def kT{n:Nat}{c:D7}(h:am n c)(hn:n<=12):aJ c:=⟨by rw[h.1];omega,λr hr=>by
 obtain⟨i,hi,rfl⟩:=A7 hr;have:=(h.2 i (by rw[<-h.1];exact hi)).1
 rw[bM c [] i hi]at this;omega⟩
def ac8{n:Nat}{t:D7}(h:am n t):gp (n:Int) t:=⟨by rw[h.1],λi hi=>by
 have hi':i<n:=by rw[<-h.1];exact hi
 obtain⟨a,b⟩:=h.2 i hi';exact⟨by rw[a],λj hj=>by
  have:=b j (by rw[<-h.1];exact hj)
  have e:en t i j=(t.getD i []).getD j 0:=rfl
  omega⟩⟩
def Hj:List AD->Option Post
 | [.c (.rows .i64 t)]=>some ⟨bo t=true/\t.length<=7,.c (.ro (.r3 .i64 (bL t (aa t)))),[]⟩
 |_=>none
def QK(t:D7):Nat->Option Ann
 |0=>T' (λi=>⟨⟨[(0,G' t),(3,I' (aF t (aa t))),(4,G' (aa t)),(5,J' 600),(6,A' i)],[(600,some (.lst 0 22 (.r3 .i64 (((aF t (aa t)).take i).filter (dt (aa t))))))]⟩,i<=(aF t (aa t)).length,(aF t (aa t)).length-i⟩) (λi b_=>match b_ with|2=>Q' λk=>⟨⟨[(0,G' t),(3,I' (aF t (aa t))),(4,G' (aa t)),(5,J' 600),(6,A' i),(7,.c (.bool ((((aa t).take k).all λf=>!bO (bt ((aF t (aa t)).getD i []) f ((aF t (aa t)).getD i []).length) ((aF t (aa t)).getD i []))))),(8,A' k)],[(600,some (.lst 0 22 (.r3 .i64 (((aF t (aa t)).take i).filter (dt (aa t))))))]⟩,i<(aF t (aa t)).length/\k<=(aa t).length,(aa t).length-k⟩|_=>none)
 |_=>none
def QL(t:Nat):Bool:=[2000037].contains t
def f5(t:D7)(x0:Nat):=((aF t (aa t)).getD (↑x0:Int).toNat ([]:D7))
def jZ(t:D7)(x0:Nat):=((aF t (aa t)).getD x0 ([]:D7))
def ad1:Fits Tryz.prog 95 ⟨[],Hj⟩:=by
 refine ffv (Γ:=ah [(86,⟨[],EC⟩),(137,⟨[],qI⟩),(143,⟨[],qB⟩),(142,⟨[],qH⟩)]) (aq W7 (aq FW (aq FK (aq FT aN)))) Tryz.func95 λds p h ξ=>?_
 unfold Hj at h;split at h<;>cases h
 rename_i t
 refine⟨QL,QK t,((bX t=true/\AuOk t.length (aa t)/\(aa t).length<=(100:Nat)/\t.length<=(7:Nat))/\True)/\(bX t=true/\True)/\(∃x0:Nat,x0<=(aF t (aa t)).length/\t=t/\aF t (aa t)=aF t (aa t)/\aa t=aa t/\(0:Int)=(x0:Int)/\([]:D8)=List.filter (dt (aa t)) (List.take x0 (aF t (aa t))))/\∀x1:Nat,x1<=(aF t (aa t)).length->ab (decide ((x1:Int)<(↑((aF t (aa t)).length):Int))) ((∃x2:Nat,(x1<(aF t (aa t)).length/\x2<=(aa t).length)/\t=t/\aF t (aa t)=aF t (aa t)/\aa t=aa t/\(x1:Int)=(x1:Int)/\(true=List.all (List.take x2 (aa t)) λ(f:D6)=>!bO (bt (jZ t x1) f (jZ t x1).length) (jZ t x1))/\(0:Int)=(x2:Int)/\List.filter (dt (aa t)) (List.take x1 (aF t (aa t)))=List.filter (dt (aa t)) (List.take x1 (aF t (aa t))))/\∀x3:Nat,x1<(aF t (aa t)).length/\x3<=(aa t).length->ab (decide ((x3:Int)<(↑((aa t).length):Int))) (ab (List.all (List.take x3 (aa t)) λ(f:D6)=>!bO (bt ((aF t (aa t)).getD x1 ([]:D7)) f (((aF t (aa t)).getD x1 ([]:D7)).length)) ((aF t (aa t)).getD x1 ([]:D7))) (ac (x1:Int) ((aF t (aa t)).length)/\ac (x3:Int) (aa t).length/\((aJ (f5 t x1)/\(f5 t x1).length<=(144:Nat)/\gp (↑((f5 t x1).length):Int) (f5 t x1)/\((aa t).getD (x3:Int).toNat []).length=(f5 t x1).length/\∀(i:Nat),i<((aa t).getD (x3:Int).toNat []).length->(0:Int)<=(List.getD (aa t) (x3:Int).toNat []).getD i (0:Int)/\(List.getD (aa t) (x3:Int).toNat []).getD i (0:Int)<=(↑((f5 t x1).length):Int)-(1:Int))/\True)/\ac (x1:Int) ((aF t (aa t)).length)/\((aJ (bt (f5 t x1) ((aa t).getD (x3:Int).toNat []) (f5 t x1).length)/\aJ (f5 t x1)/\(bt (f5 t x1) ((aa t).getD (x3:Int).toNat []) (f5 t x1).length).length=(f5 t x1).length)/\True)/\ae ((x3:Int)+(1:Int))/\∃x4:Nat,(x1<(aF t (aa t)).length/\x4<=(aa t).length)/\(aa t).length-x4<(aa t).length-x3/\t=t/\aF t (aa t)=aF t (aa t)/\aa t=aa t/\(x1:Int)=(x1:Int)/\((!bO (bt (f5 t x1) ((aa t).getD (x3:Int).toNat []) (f5 t x1).length) (f5 t x1))=List.all (List.take x4 (aa t)) λ(f:D6)=>!bO (bt (jZ t x1) f (jZ t x1).length) (jZ t x1))/\(x3:Int)+(1:Int)=(x4:Int)/\List.filter (dt (aa t)) (List.take x1 (aF t (aa t)))=List.filter (dt (aa t)) (List.take x1 (aF t (aa t)))) (ae ((x3:Int)+(1:Int))/\∃x5:Nat,(x1<(aF t (aa t)).length/\x5<=(aa t).length)/\(aa t).length-x5<(aa t).length-x3/\t=t/\aF t (aa t)=aF t (aa t)/\aa t=aa t/\(x1:Int)=(x1:Int)/\(false=List.all (List.take x5 (aa t)) λ(f:D6)=>!bO (bt (jZ t x1) f (jZ t x1).length) (jZ t x1))/\(x3:Int)+(1:Int)=(x5:Int)/\List.filter (dt (aa t)) (List.take x1 (aF t (aa t)))=List.filter (dt (aa t)) (List.take x1 (aF t (aa t))))) (ab (List.all (List.take x3 (aa t)) λ(f:D6)=>!bO (bt ((aF t (aa t)).getD x1 ([]:D7)) f (((aF t (aa t)).getD x1 ([]:D7)).length)) ((aF t (aa t)).getD x1 ([]:D7))) (ac (x1:Int) ((aF t (aa t)).length)/\au (FC.len (FC.r3 IntKind.i64 (List.filter (dt (aa t)) (List.take x1 (aF t (aa t)))))+FC.len (FC.r3 IntKind.i64 ((aF t (aa t)).getD (x1:Int).toNat ([]:D7)::([]:D8))))/\ae ((x1:Int)+(1:Int))/\∃x6:Nat,x6<=(aF t (aa t)).length/\(aF t (aa t)).length-x6<(aF t (aa t)).length-x1/\t=t/\aF t (aa t)=aF t (aa t)/\aa t=aa t/\(x1:Int)+(1:Int)=(x6:Int)/\List.filter (dt (aa t)) (List.take x1 (aF t (aa t)))++(aF t (aa t)).getD (x1:Int).toNat ([]:D7)::([]:D8)=List.filter (dt (aa t)) (List.take x6 (aF t (aa t)))) (ae ((x1:Int)+(1:Int))/\∃x7:Nat,x7<=(aF t (aa t)).length/\(aF t (aa t)).length-x7<(aF t (aa t)).length-x1/\t=t/\aF t (aa t)=aF t (aa t)/\aa t=aa t/\(x1:Int)+(1:Int)=(x7:Int)/\List.filter (dt (aa t)) (List.take x1 (aF t (aa t)))=List.filter (dt (aa t)) (List.take x7 (aF t (aa t)))))) (List.filter (dt (aa t)) (List.take x1 (aF t (aa t)))=bL t (aa t)/\True),by kernel_rfl,?_⟩
 simp only[f5,jZ,aO]at ξ⊢;obtain⟨hg,h7⟩:=ξ;have G:=kK hg
 have hA:=mJ G h7
 have hC:=sS G h7
 have ct:=λi hi=>po G h7 (bN (aF t (aa t)) [] i hi)
 have ap:=λi hi=>jp G h7 (bN (aa t) [] i hi)
 refine⟨⟨jV hg,(mX G.tb G.pos (by omega)).1,by omega,by omega⟩,jV hg,⟨0,by omega,by omega,rfl⟩,λi hi=>⟨fun ψ=>⟨⟨0,⟨by omega,by omega⟩,by simp,by omega⟩,λk ⟨_,hk⟩=>?_⟩,λhge=>?_⟩⟩
 ·have hi1:i<(aF t (aa t)).length:=by omega
  have C:=ct i hi1
  have FS:((aF t (aa t)).take (i+1)).filter (dt (aa t))=((aF t (aa t)).take i).filter (dt (aa t))++(if dt (aa t) ((aF t (aa t)).getD i [])=true then [(aF t (aa t)).getD i []]else []):=by
   rw[<-dZ _ [] i hi1,List.filter_append];simp only[Df,Dg]
  generalize (aF t (aa t)).getD i []=c at *
  have lc:=C.1
  have AS:∀k,k<(aa t).length->((aa t).take (k+1)).all (λf=>!bO (bt c f c.length) c)=(((aa t).take k).all (λf=>!bO (bt c f c.length) c)&&!bO (bt c ((aa t).getD k []) c.length) c):=λk hk=>by
   rw[<-dZ _ [] k hk,List.all_append];simp
  refine⟨λhkl=>?_,λhkl=>?_⟩
  ·have hk1:k<(aa t).length:=by omega
   have P:=ap k hk1
   have lp:=P.len
   refine⟨λhb=>⟨by omega,by omega,⟨kT C (by omega),by omega,by rw[lc];exact ac8 C,by omega,λj hj=>?_⟩,by omega,⟨?_,kT C (by omega),?_⟩,by omega,k+1,⟨hi1,by omega⟩,by omega,?_,by omega⟩,λhb=>⟨by omega,k+1,⟨hi1,by omega⟩,by omega,?_,by omega⟩⟩
   ·have:=P.rng j (by omega);rw[lc];omega
   ·rw[lc];exact kT (iF C P).tb (by omega)
   ·rw[lc];exact(iF C P).tb.1
   ·rw[AS k hk1,hb];simp
   ·rw[AS k hk1,hb];simp
  ·have ek:k=(aa t).length:=by omega
   rw[ek,Bs];refine⟨λhb=>⟨by omega,?_,by omega,i+1,by omega,by omega,by omega,?_⟩,λhb=>⟨by omega,i+1,by omega,by omega,by omega,?_⟩⟩
   ·have:=Dh (dt (aa t)) ((aF t (aa t)).take i)
    rw[AP]at this;simp only[FC.len,Bh];omega
   ·rw[FS,AA (show dt (aa t) c=true from hb)]
   ·rw[FS,AB (show ¬ dt (aa t) c=true by rw[show dt (aa t) c=false from hb];simp),AV]
 ·rw[AU (by omega)];rfl
def Hl:List AD->Option Post
 | [.c (.rows .i64 t)]=>some ⟨bo t=true/\t.length<=7,.c (.ro (.p3 .i64 (bG t (bL t (aa t))))),[]⟩
 |_=>none
def QN(t:D7):Nat->Option Ann
 |0=>Q' λi=>⟨⟨[(0,G' t),(3,I' (bL t (aa t))),(4,J' 600),(5,A' i)],[(600,some (.lst 0 39 (.p3 .i64 (bG t ((bL t (aa t)).take i)))))]⟩,i<=(bL t (aa t)).length,(bL t (aa t)).length-i⟩
 |_=>none
def QO(t:Nat):Bool:=[5000008,5000023,1000023].contains t
def ad4:Fits Tryz.prog 51 ⟨[],Hl⟩:=by
 refine ffv (Γ:=ah [(95,⟨[],Hj⟩),(96,⟨[],ry⟩)]) (aq ad1 (aq HN aN)) Tryz.func51 λds p h ξ=>?_
 unfold Hl at h;split at h<;>cases h
 rename_i t
 refine⟨QO,QN t,((bo t=true/\t.length<=(7:Nat))/\True)/\(∃x0:Nat,x0<=(bL t (aa t)).length/\t=t/\bL t (aa t)=bL t (aa t)/\(0:Int)=(x0:Int)/\[]=bG t (List.take x0 (bL t (aa t))))/\∀x1:Nat,x1<=(bL t (aa t)).length->ab (decide ((x1:Int)<(↑((bL t (aa t)).length):Int))) ((aJ t/\True)/\ac (x1:Int) ((bL t (aa t)).length)/\au (FC.len (FC.p3 IntKind.i64 (bG t (List.take x1 (bL t (aa t)))))+FC.len (FC.p3 IntKind.i64 [(t,(bL t (aa t)).getD (x1:Int).toNat ([]:D7))]))/\ae ((x1:Int)+(1:Int))/\∃x2:Nat,x2<=(bL t (aa t)).length/\(bL t (aa t)).length-x2<(bL t (aa t)).length-x1/\t=t/\bL t (aa t)=bL t (aa t)/\(x1:Int)+(1:Int)=(x2:Int)/\bG t (List.take x1 (bL t (aa t)))++[(t,(bL t (aa t)).getD (x1:Int).toNat ([]:D7))]=bG t (List.take x2 (bL t (aa t)))) (bG t (List.take x1 (bL t (aa t)))=bG t (bL t (aa t))/\True),by kernel_rfl,?_⟩
 simp only[aO]at ξ⊢;obtain⟨hg,h7⟩:=ξ;have G:=kK hg
 have hC:=sS G h7
 have hL:(bL t (aa t)).length<=2401:=Ao (Dh _ _) hC
 refine⟨⟨hg,h7⟩,⟨0,by omega,by omega,rfl⟩,λi hi=>⟨fun ψ=>⟨kT G.tb (by omega),by omega,?_⟩,λhge=>?_⟩⟩
 ·have hi1:i<(bL t (aa t)).length:=by omega
  refine⟨?_,by omega,i+1,by omega,by omega,by omega,?_⟩
  ·simp only[FC.len,bG,AW,AP,Bh];omega
  ·rw[<-dZ _ [] i hi1,bG,bG,Be];rfl
 ·rw[AU (by omega)]
def re:List AD->Option Post
 | [.c (.int .i64 x),.c (.int .i64 y),.box [.int .i64 n]]=>some ⟨1<=n/\n<=12/\0<=x/\x<n/\0<=y/\y<n,.c (.int .i64 (d9 n x.toNat y.toNat)),[]⟩
 |_=>none
def ad7:Fits Tryz.prog 217 ⟨[],re⟩:=by
 refine ffv (Γ:=ah []) aN Tryz.func217 λds p h ξ=>?_
 unfold re at h;split at h<;>cases h
 rename_i x y n
 refine⟨aj,ar,ae (x+y)/\n≠(0:Int)/\Int.tmod (x+y) n=d9 n x.toNat y.toNat/\True,by kernel_rfl,?_⟩
 simp only[aO]at ξ⊢;obtain⟨h1,h2,h3,h4,h5,h6⟩:=ξ;rw[d9,Bj h3,Bj h5];exact⟨⟨by omega,by omega⟩,by omega,rfl⟩
def Ho:List AD->Option Post
 | [.c (.int .i64 n)]=>some ⟨1<=n/\n<=12,.agg [.rows 62 2 .i64 (af n)],[]⟩
 |_=>none
def ae0:Fits Tryz.prog 173 ⟨[],Ho⟩:=by
 refine ffv (Γ:=ah [(124,⟨[],ow⟩),(217,⟨[],re⟩)]) (aq sK (aq ad7 aN)) Tryz.func173 λds p h ξ=>?_
 unfold Ho at h;split at h<;>cases h
 rename_i n
 refine⟨aj,ar,(((0:Int)<=n/\n<=(144:Int)/\∀(x y:Int),(0:Int)<=x->x<n->(0:Int)<=y->y<n->jy (re [AD.c (FC.int IntKind.i64 x),AD.c (FC.int IntKind.i64 y),AD.box [FC.int IntKind.i64 n]]))/\True)/\((cb n.toNat λ(x y:Nat)=>jx (re [AD.c (FC.int IntKind.i64 (x:Int)),AD.c (FC.int IntKind.i64 (y:Int)),AD.box [FC.int IntKind.i64 n]]))=af n/\True)/\True,by kernel_rfl,?_⟩
 simp only[aO]at ξ⊢;obtain⟨h1,h2⟩:=ξ;refine⟨⟨by omega,by omega,λx y x1 x2 y1 y2=>⟨h1,h2,x1,x2,y1,y2⟩⟩,?_⟩
 exact y8 λx y hx hy=>rfl
def rh:List AD->Option Post
 | [.c (.int .i64 x),.c (.int .i64 y),.box [.int .i64 n],.box [.int .i64 s]]=>some ⟨1<=n/\n<=12/\0<=s/\s<=12/\0<=x/\x<2*n/\0<=y/\y<2*n,.c (.int .i64 (bE n s x.toNat y.toNat)),[]⟩
 |_=>none
def Hq(x:Int)(y:Int)(n:Int)(s:Int):Prop :=
 ab (decide (x<n)) (ae (Int.tmod x n+Int.tmod y n)/\n≠(0:Int)/\ae (n+Int.tmod (Int.tmod x n+Int.tmod y n) n)/\n+Int.tmod (Int.tmod x n+Int.tmod y n) n=bE n s x.toNat y.toNat/\True) (ab (decide (y<n)) (ae (Int.tmod x n-Int.tmod y n)/\ae (Int.tmod x n-Int.tmod y n+n)/\n≠(0:Int)/\ae (n+Int.tmod (Int.tmod x n-Int.tmod y n+n) n)/\n+Int.tmod (Int.tmod x n-Int.tmod y n+n) n=bE n s x.toNat y.toNat/\True) (ae (Int.tmod x n-Int.tmod y n)/\ae (Int.tmod x n-Int.tmod y n+n)/\ae (Int.tmod x n-Int.tmod y n+n+s)/\n≠(0:Int)/\Int.tmod (Int.tmod x n-Int.tmod y n+n+s) n=bE n s x.toNat y.toNat/\True))
def ae3:Fits Tryz.prog 218 ⟨[],rh⟩:=by
 refine ffv (Γ:=ah []) aN Tryz.func218 λds p h ξ=>?_
 unfold rh at h;split at h<;>cases h
 rename_i x y n s
 refine⟨aj,ar,n≠(0:Int)/\n≠(0:Int)/\ab (decide (x<n)) (ab (decide (y<n)) (ae (Int.tmod x n+Int.tmod y n)/\n≠(0:Int)/\Int.tmod (Int.tmod x n+Int.tmod y n) n=bE n s x.toNat y.toNat/\True) (Hq x y n s)) (Hq x y n s),by kernel_rfl,?_⟩
 simp only[Hq,aO]at ξ⊢;obtain⟨h1,h2,h3,h4,x1,x2,y1,y2⟩:=ξ;have a:0<=x.tmod n/\x.tmod n<n:=nn x1 h1
 have b:0<=y.tmod n/\y.tmod n<n:=nn y1 h1
 have c:=nn (x:=x.tmod n+y.tmod n) (by omega) h1
 have d:=nn (x:=x.tmod n-y.tmod n+n) (by omega) h1
 have e:=nn (x:=x.tmod n-y.tmod n+n+s) (by omega) h1
 rw[bE,Bj x1,Bj y1];by_cases q:x<n<;>by_cases r:y<n<;>simp[q,r]<;>omega
def Hs:List AD->Option Post
 | [.c (.int .i64 n),.c (.int .i64 s)]=>some ⟨1<=n/\n<=12/\0<=s/\s<=12,.agg [.rows 62 2 .i64 (cj n s)],[]⟩
 |_=>none
def ae6:Fits Tryz.prog 174 ⟨[],Hs⟩:=by
 refine ffv (Γ:=ah [(124,⟨[],ow⟩),(218,⟨[],rh⟩)]) (aq sK (aq ae3 aN)) Tryz.func174 λds p h ξ=>?_
 unfold Hs at h;split at h<;>cases h
 rename_i n s
 refine⟨aj,ar,ae ((2:Int)*n)/\(((0:Int)<=(2:Int)*n/\(2:Int)*n<=(144:Int)/\∀(x y:Int),(0:Int)<=x->x<(2:Int)*n->(0:Int)<=y->y<(2:Int)*n->jy (rh [AD.c (FC.int IntKind.i64 x),AD.c (FC.int IntKind.i64 y),AD.box [FC.int IntKind.i64 n],AD.box [FC.int IntKind.i64 s]]))/\True)/\((cb (((2:Int)*n).toNat) λ(x y:Nat)=>jx (rh [AD.c (FC.int IntKind.i64 (x:Int)),AD.c (FC.int IntKind.i64 (y:Int)),AD.box [FC.int IntKind.i64 n],AD.box [FC.int IntKind.i64 s]]))=cj n s/\True)/\True,by kernel_rfl,?_⟩
 simp only[aO]at ξ⊢;obtain⟨h1,h2,h3,h4⟩:=ξ;refine⟨by omega,⟨by omega,by omega,λx y x1 x2 y1 y2=>⟨h1,h2,h3,h4,x1,x2,y1,y2⟩⟩,?_⟩
 exact y8 λx y hx hy=>rfl
def rn:List AD->Option Post
 | [.c (.int .i64 x),.c (.int .i64 y),.box [.rows .i64 a],.box [.int .i64 m],.box [.rows .i64 b]]=>some ⟨am a.length a/\am b.length b/\1<=b.length/\a.length*b.length<=144/\m=(b.length:Int)/\0<=x/\x<((a.length*b.length:Nat):Int)/\0<=y/\y<((a.length*b.length:Nat):Int),.c (.int .i64 (dh a b x.toNat y.toNat)),[]⟩
 |_=>none
def ae9:Fits Tryz.prog 216 ⟨[],rn⟩:=by
 refine ffv (Γ:=ah []) aN Tryz.func216 λds p h ξ=>?_
 unfold rn at h;split at h<;>cases h
 rename_i x y a m b
 refine⟨aj,ar,(m≠(0:Int)/\ae (Int.tdiv x m))/\ac (Int.tdiv x m) a.length/\(m≠(0:Int)/\ae (Int.tdiv y m))/\ac (Int.tdiv y m) ((a.getD (Int.tdiv x m).toNat []).length)/\ae ((List.getD a (Int.tdiv x m).toNat []).getD (Int.tdiv y m).toNat (0:Int)*m)/\m≠(0:Int)/\ac (Int.tmod x m) b.length/\m≠(0:Int)/\ac (Int.tmod y m) ((b.getD (Int.tmod x m).toNat []).length)/\ae ((List.getD a (Int.tdiv x m).toNat []).getD (Int.tdiv y m).toNat (0:Int)*m+(List.getD b (Int.tmod x m).toNat []).getD (Int.tmod y m).toNat (0:Int))/\(List.getD a (Int.tdiv x m).toNat []).getD (Int.tdiv y m).toNat (0:Int)*m+(List.getD b (Int.tmod x m).toNat []).getD (Int.tmod y m).toNat (0:Int)=dh a b x.toNat y.toNat/\True,by kernel_rfl,?_⟩
 simp only[aO]at ξ⊢;obtain⟨h1,h2,h3,h4,rfl,a1,a2,b1,b2⟩:=ξ;obtain⟨x1,x2,x3,x4⟩:=pn (x:=x.toNat) (a:=a.length) (m:=b.length) (by omega) h3
 obtain⟨y1,y2,y3,y4⟩:=pn (x:=y.toNat) (a:=a.length) (m:=b.length) (by omega) h3
 have P:=Hf h1 h2 h3 (x:=x.toNat) (y:=y.toNat) (by omega) (by omega)
 have A:=(h1.2 _ x3)
 have B:=(h2.2 _ x4)
 have A2:=A.2 _ y3
 have B2:=B.2 _ y4
 have E:dh a b x.toNat y.toNat=dh a b x.toNat y.toNat:=rfl
 conv at E=>rhs;rw[dh]
 rw[Bj a1]at x1 x2 E;rw[Bj b1]at y1 y2 E;rw[x1,x2,y1,y2]at E;rw[E]at P⊢;rw[x1,x2,y1,y2];simp only[An]at P⊢;have A3:((a.getD (x.toNat / b.length) []).getD (y.toNat / b.length) 0)=en a (x.toNat / b.length) (y.toNat / b.length):=rfl
 have B3:((b.getD (x.toNat % b.length) []).getD (y.toNat % b.length) 0)=en b (x.toNat % b.length) (y.toNat % b.length):=rfl
 rw[A3,B3];have u0:0<=en a (x.toNat / b.length) (y.toNat / b.length)*(b.length:Int):=CA A2.1 (by omega)
 have eb:=h2.1
 have xl:x.toNat / b.length<=x.toNat:=Nat.div_le_self _ _
 have yl:y.toNat / b.length<=y.toNat:=Nat.div_le_self _ _
 clear x1 x2 y1 y2 E;generalize x.toNat / b.length=u1 at *
 generalize y.toNat / b.length=u2 at *
 generalize x.toNat % b.length=v1 at *
 generalize y.toNat % b.length=v2 at *
 generalize a.length*b.length=N at *
 generalize en a u1 u2*(b.length:Int)=W at *
 refine⟨⟨by omega,by omega⟩,by omega,⟨by omega,by omega⟩,by omega,by omega,by omega,by omega,by omega,by omega,by omega⟩
def Hv:List AD->Option Post
 | [.c (.rows .i64 a),.c (.rows .i64 b)]=>some ⟨am a.length a/\am b.length b/\1<=b.length/\a.length*b.length<=144,.c (.rows 62 2 .i64 (bj a b)),[]⟩
 |_=>none
def af2:Fits Tryz.prog 172 ⟨[],Hv⟩:=by
 refine ffv (Γ:=ah [(124,⟨[],ow⟩),(216,⟨[],rn⟩)]) (aq sK (aq ae9 aN)) Tryz.func172 λds p h ξ=>?_
 unfold Hv at h;split at h<;>cases h
 rename_i a b
 refine⟨aj,ar,ae ((a.length:Int)*(b.length:Int))/\(((0:Int)<=(a.length:Int)*(b.length:Int)/\(a.length:Int)*(b.length:Int)<=(144:Int)/\∀(x y:Int),(0:Int)<=x->x<(a.length:Int)*(b.length:Int)->(0:Int)<=y->y<(a.length:Int)*(b.length:Int)->jy (rn [AD.c (FC.int IntKind.i64 x),AD.c (FC.int IntKind.i64 y),AD.box [FC.rows IntKind.i64 a],AD.box [FC.int IntKind.i64 (b.length:Int)],AD.box [FC.rows IntKind.i64 b]]))/\True)/\(cb (((a.length:Int)*(b.length:Int)).toNat) λ(x y:Nat)=>jx (rn [AD.c (FC.int IntKind.i64 (x:Int)),AD.c (FC.int IntKind.i64 (y:Int)),AD.box [FC.rows IntKind.i64 a],AD.box [FC.int IntKind.i64 (b.length:Int)],AD.box [FC.rows IntKind.i64 b]]))=bj a b/\True,by kernel_rfl,?_⟩
 simp only[aO]at ξ⊢;obtain⟨h1,h2,h3,h4⟩:=ξ;have hc:(a.length:Int)*(b.length:Int)=((a.length*b.length:Nat):Int):=by rw[DF]
 rw[hc];refine⟨by omega,⟨by omega,by omega,λx y x1 x2 y1 y2=>⟨h1,h2,h3,h4,rfl,x1,x2,y1,y2⟩⟩,?_⟩
 rw[An];exact y8 λx y hx hy=>rfl
def Hx:List AD->Option Post
 | [.agg [.rows .i64 a],.agg [.rows .i64 b]]=>some ⟨am a.length a/\am b.length b/\1<=b.length/\a.length*b.length<=144,.agg [.rows 62 2 .i64 (bj a b)],[]⟩
 |_=>none
def af5:Fits Tryz.prog 171 ⟨[],Hx⟩:=by
 refine ffv (Γ:=ah [(172,⟨[],Hv⟩)]) (aq af2 aN) Tryz.func171 λds p h ξ=>?_
 unfold Hx at h;split at h<;>cases h
 rename_i a b
 refine⟨aj,ar,((am a.length a/\am b.length b/\(1:Nat)<=b.length/\a.length*b.length<=(144:Nat))/\True)/\(bj a b=bj a b/\True)/\True,by kernel_rfl,?_⟩
 simp only[aO]at ξ⊢;exact ξ
def Hz:List AD->Option Post
 | [.c (.int .i64 n)]=>some ⟨1<=n/\n<=7,.c (.tr [29,62,2] (.r3 .i64 (aE n))),[]⟩
 |_=>none
def QX(t:Nat):Bool:=[6000009,6000018,6000027].contains t
def HA(n:Int):Prop :=
 ab (n == (8:Int)) (((((1:Int)<=(2:Int))/\((2:Int)<=(12:Int)))/\True)/\(((((1:Int)<=(4:Int))/\((4:Int)<=(12:Int)))/\True)/\((((am ((af (2:Int)).length) (af (2:Int)))/\((am ((af (4:Int)).length) (af (4:Int)))/\(((1:Nat)<=(af (4:Int)).length)/\((af (2:Int)).length*(af (4:Int)).length<=(144:Nat)))))/\True)/\(((((1:Int)<=(2:Int))/\((2:Int)<=(12:Int)))/\True)/\(((((1:Int)<=(2:Int))/\((2:Int)<=(12:Int)))/\True)/\(((((1:Int)<=(2:Int))/\((2:Int)<=(12:Int)))/\True)/\((((am ((af (2:Int)).length) (af (2:Int)))/\((am ((af (2:Int)).length) (af (2:Int)))/\(((1:Nat)<=(af (2:Int)).length)/\((af (2:Int)).length*(af (2:Int)).length<=(144:Nat)))))/\True)/\((((am ((af (2:Int)).length) (af (2:Int)))/\((am ((bj (af (2:Int)) (af (2:Int))).length) (bj (af (2:Int)) (af (2:Int))))/\(((1:Nat)<=(bj (af (2:Int)) (af (2:Int))).length)/\((af (2:Int)).length*(bj (af (2:Int)) (af (2:Int))).length<=(144:Nat)))))/\True)/\(((((1:Int)<=(4:Int))/\(((4:Int)<=(12:Int))/\(((0:Int)<=(0:Int))/\((0:Int)<=(12:Int)))))/\True)/\(((((1:Int)<=(4:Int))/\(((4:Int)<=(12:Int))/\(((0:Int)<=(2:Int))/\((2:Int)<=(12:Int)))))/\True)/\(False))))))))))) (ab (n == (9:Int)) (((((1:Int)<=(3:Int))/\((3:Int)<=(12:Int)))/\True)/\(((((1:Int)<=(3:Int))/\((3:Int)<=(12:Int)))/\True)/\((((am ((af (3:Int)).length) (af (3:Int)))/\((am ((af (3:Int)).length) (af (3:Int)))/\(((1:Nat)<=(af (3:Int)).length)/\((af (3:Int)).length*(af (3:Int)).length<=(144:Nat)))))/\True)/\(False)))) (ab (n == (12:Int)) False
 ((af n::([]:D8)=aE n)/\True)))
def af8:Fits Tryz.prog 127 ⟨[],Hz⟩:=by
 refine ffv (Γ:=ah [(173,⟨[],Ho⟩),(174,⟨[],Hs⟩),(171,⟨[],Hx⟩)]) (aq ae0 (aq ae6 (aq af5 aN))) Tryz.func127 λds p h ξ=>?_
 unfold Hz at h;split at h<;>cases h
 rename_i n
 refine⟨QX,ar,(((1:Int)<=n/\n<=(12:Int))/\True)/\ab (n == (4:Int)) ((((1:Int)<=(2:Int)/\(2:Int)<=(12:Int))/\True)/\(((1:Int)<=(2:Int)/\(2:Int)<=(12:Int))/\True)/\((am ((af (2:Int)).length) (af (2:Int))/\am ((af (2:Int)).length) (af (2:Int))/\(1:Nat)<=(af (2:Int)).length/\(af (2:Int)).length*(af (2:Int)).length<=(144:Nat))/\True)/\au (FC.len (FC.r3 IntKind.i64 (af n::([]:D8)))+FC.len (FC.r3 IntKind.i64 (bj (af (2:Int)) (af (2:Int))::([]:D8))))/\af n::([]:D8)++bj (af (2:Int)) (af (2:Int))::([]:D8)=aE n/\True) (ab (n == (6:Int)) (ab (n == (6:Int)) (((2:Int)≠(0:Int)/\ae (Int.tdiv n (2:Int)))/\(((1:Int)<=Int.tdiv n (2:Int)/\Int.tdiv n (2:Int)<=(12:Int)/\(0:Int)<=(0:Int)/\(0:Int)<=(12:Int))/\True)/\au (FC.len (FC.r3 IntKind.i64 (af n::([]:D8)))+FC.len (FC.r3 IntKind.i64 (cj (Int.tdiv n (2:Int)) (0:Int)::([]:D8))))/\af n::([]:D8)++cj (Int.tdiv n (2:Int)) (0:Int)::([]:D8)=aE n/\True) (HA n)) (ab (n == (10:Int)) (((2:Int)≠(0:Int)/\ae (Int.tdiv n (2:Int)))/\(((1:Int)<=Int.tdiv n (2:Int)/\Int.tdiv n (2:Int)<=(12:Int)/\(0:Int)<=(0:Int)/\(0:Int)<=(12:Int))/\True)/\au (FC.len (FC.r3 IntKind.i64 (af n::([]:D8)))+FC.len (FC.r3 IntKind.i64 (cj (Int.tdiv n (2:Int)) (0:Int)::([]:D8))))/\af n::([]:D8)++cj (Int.tdiv n (2:Int)) (0:Int)::([]:D8)=aE n/\True) (HA n))),by kernel_rfl,?_⟩
 simp only[HA,aO]at ξ⊢;obtain⟨h1,h2⟩:=ξ;have l2:(af 2).length=2:=by have:=mS (n:=2) (by omega);omega
 have t2:=qt (n:=2) (by omega)
 rw[l2]at t2;have:n=1\/n=2\/n=3\/n=4\/n=5\/n=6\/n=7:=by omega
 rcases this with rfl|rfl|rfl|rfl|rfl|rfl|rfl<;>simp[l2,t2,aE,FC.len]
def aH(n:Int):EA:=(aE n).flatMap λt=>bG t (bL t (aa t))
def rp{n:Int}(h1:1<=n)(h2:n<=7):(aE n).length<=2/\∀t∈aE n,(t.length:Int)=n/\bo t=true:=by
 have:n=1\/n=2\/n=3\/n=4\/n=5\/n=6\/n=7:=by omega
 rcases this with rfl|rfl|rfl|rfl|rfl|rfl|rfl<;>decide +kernel
def rq{n:Int}(h1:1<=n)(h2:n<=7){t:D7}(ht:t∈aE n):(bG t (bL t (aa t))).length<=2401/\∀q∈bG t (bL t (aa t)),am t.length q.1/\am t.length q.2:=by
 obtain⟨e,g⟩:=(rp h1 h2).2 t ht;have G:=kK g
 refine⟨by rw[bG,AW];exact Ao (Dh _ _) (sS G (by omega)),λq hq=>?_⟩
 obtain⟨c,hc,rfl⟩:=AJ.1 hq;exact⟨G.tb,po G (by omega) (Bc.1 hc).1⟩
def wD{α β:Type}(f:α->List β)(k:Nat):∀l:List α,(∀x∈l,(f x).length<=k)->(l.flatMap f).length<=l.length*k
 | [],_=>by simp
 |x::l,h=>by
  have h1:=h x AZ
  have h2:=wD f k l λy hy=>h y (AQ _ hy)
  rw[Av,Ag,AR,Bu];omega
def wI:List AD->Option Post
 | [.c (.int .i64 n)]=>some ⟨1<=n/\n<=7,.c (.tr [39,62,2] (.p3 .i64 (aH n))),[]⟩
 |_=>none
def QZ(n:Int):Nat->Option Ann
 |0=>Q' λi=>⟨⟨[(0,A' n),(3,J' 600),(7,I' (aE n)),(8,A' ((((aE n).length:Int)))),(9,A' i)],[(600,some (.tr 0 [39,62,2] (.p3 .i64 (((aE n).take i).flatMap λt=>bG t (bL t (aa t))))))]⟩,i<=(aE n).length,(aE n).length-i⟩
 |_=>none
def kU(n:Int)(x0:Nat):=((aE n).getD (↑x0:Int).toNat ([]:D7))
def Q1:Fits Tryz.prog 74 ⟨[],wI⟩:=by
 refine ffv (Γ:=ah [(127,⟨[],Hz⟩),(54,⟨[],Ex⟩)]) (aq af8 (aq WU aN)) Tryz.func74 λds p h ξ=>?_
 unfold wI at h;split at h<;>cases h
 rename_i n
 refine⟨aj,QZ n,(((1:Int)<=n/\n<=(7:Int))/\True)/\(∃x0:Nat,x0<=(aE n).length/\n=n/\aE n=aE n/\(↑(FC.len (FC.r3 IntKind.i64 (aE n))):Int)=(↑((aE n).length):Int)/\(0:Int)=(x0:Int)/\FC.len (FC.p3 IntKind.i64 (List.flatMap (λ(t:D7)=>bG t (bL t (aa t))) (List.take x0 (aE n))))=(0:Nat))/\∀x1:Nat,x1<=(aE n).length->ab (decide ((x1:Int)<(↑((aE n).length):Int))) (ac (x1:Int) (aE n).length/\((bo (kU n x1)=true/\(kU n x1).length<=(7:Nat))/\True)/\au (FC.len (FC.p3 IntKind.i64 (List.flatMap (λ(t:D7)=>bG t (bL t (aa t))) (List.take x1 (aE n))))+FC.len (FC.p3 IntKind.i64 (bG (kU n x1) ((dF (aa (kU n x1)) (bn (kU n x1))).2))))/\ae ((x1:Int)+(1:Int))/\∃x2:Nat,x2<=(aE n).length/\(aE n).length-x2<(aE n).length-x1/\n=n/\aE n=aE n/\(↑((aE n).length):Int)=(↑((aE n).length):Int)/\(x1:Int)+(1:Int)=(x2:Int)/\List.flatMap (λ(t:D7)=>bG t (bL t (aa t))) (List.take x1 (aE n))++bG (kU n x1) ((dF (aa (kU n x1)) (bn (kU n x1))).2)=List.flatMap (λ(t:D7)=>bG t (bL t (aa t))) (List.take x2 (aE n))) (List.flatMap (λ(t:D7)=>bG t (bL t (aa t))) (List.take x1 (aE n))=aH n/\True),by kernel_rfl,?_⟩
 simp only[kU,aO]at ξ⊢;obtain⟨h1,h2⟩:=ξ;obtain⟨n2,ng⟩:=rp h1 h2;refine⟨⟨h1,h2⟩,⟨0,by omega,rfl,by omega,rfl⟩,λi hi=>⟨fun ψ=>?_,λhge=>?_⟩⟩
 ·have hi1:i<(aE n).length:=by omega
  have m:=bN (aE n) [] i hi1
  obtain⟨e,g⟩:=ng _ m;have G:=kK g
  have E:=ac7 G (by omega)
  rw[E];refine⟨by omega,⟨g,by omega⟩,?_,by omega,i+1,by omega,by omega,by omega,?_⟩
  ·have a:=wD (λt=>bG t (bL t (aa t))) 2401 ((aE n).take i) λx hx=>(rq h1 h2 (CP hx)).1
   have b:=(rq h1 h2 m).1
   rw[AP]at a;have:min i (aE n).length*2401<=2*2401:=Bp _ (by omega)
   simp only[FC.len];omega
  ·rw[<-dZ _ [] i hi1,Bz];simp
 ·rw[AU (by omega)];rfl
def wK:List AD->Option Post
 | [.c (.int .i64 n)]=>some ⟨1<=n/\n<=7,.c (.ro (.p3 .i64 (aH n))),[]⟩
 |_=>none
def Q2(n:Int):Nat->Option Ann
 |0=>Q' λi=>⟨⟨[(0,A' n),(3,I' (aE n)),(4,J' 600),(5,A' i)],[(600,some (.lst 0 39 (.p3 .i64 (((aE n).take i).flatMap λt=>bG t (bL t (aa t))))))]⟩,i<=(aE n).length,(aE n).length-i⟩
 |_=>none
def Q3(t:Nat):Bool:=[5000008].contains t
def kV(n:Int)(x0:Nat):=((aE n).getD (↑x0:Int).toNat ([]:D7))
def Q5:Fits Tryz.prog 72 ⟨[],wK⟩:=by
 refine ffv (Γ:=ah [(126,⟨[],qv⟩),(51,⟨[],Hl⟩)]) (aq E6 (aq ad4 aN)) Tryz.func72 λds p h ξ=>?_
 unfold wK at h;split at h<;>cases h
 rename_i n
 refine⟨Q3,Q2 n,(((1:Int)<=n/\n<=(8:Int))/\True)/\(∃x0:Nat,x0<=(aE n).length/\n=n/\aE n=aE n/\(0:Int)=(x0:Int)/\[]=List.flatMap (λ(t:D7)=>bG t (bL t (aa t))) (List.take x0 (aE n)))/\∀x1:Nat,x1<=(aE n).length->ab (decide ((x1:Int)<(↑((aE n).length):Int))) (ac (x1:Int) (aE n).length/\((bo (kV n x1)=true/\(kV n x1).length<=(7:Nat))/\True)/\au (FC.len (FC.p3 IntKind.i64 (List.flatMap (λ(t:D7)=>bG t (bL t (aa t))) (List.take x1 (aE n))))+FC.len (FC.p3 IntKind.i64 (bG (kV n x1) (bL (kV n x1) (aa (kV n x1))))))/\ae ((x1:Int)+(1:Int))/\∃x2:Nat,x2<=(aE n).length/\(aE n).length-x2<(aE n).length-x1/\n=n/\aE n=aE n/\(x1:Int)+(1:Int)=(x2:Int)/\List.flatMap (λ(t:D7)=>bG t (bL t (aa t))) (List.take x1 (aE n))++bG (kV n x1) (bL (kV n x1) (aa (kV n x1)))=List.flatMap (λ(t:D7)=>bG t (bL t (aa t))) (List.take x2 (aE n))) (List.flatMap (λ(t:D7)=>bG t (bL t (aa t))) (List.take x1 (aE n))=aH n/\True),by kernel_rfl,?_⟩
 simp only[kV,aO]at ξ⊢;obtain⟨h1,h2⟩:=ξ;obtain⟨n2,ng⟩:=rp h1 h2;refine⟨⟨h1,by omega⟩,⟨0,by omega,by omega,rfl⟩,λi hi=>⟨fun ψ=>?_,λhge=>?_⟩⟩
 ·have hi1:i<(aE n).length:=by omega
  have m:=bN (aE n) [] i hi1
  obtain⟨e,g⟩:=ng _ m;refine⟨by omega,⟨g,by omega⟩,?_,by omega,i+1,by omega,by omega,by omega,?_⟩
  ·have a:=wD (λt=>bG t (bL t (aa t))) 2401 ((aE n).take i) λx hx=>(rq h1 h2 (CP hx)).1
   have b:=(rq h1 h2 m).1
   rw[AP]at a;have:min i (aE n).length*2401<=2*2401:=Bp _ (by omega)
   simp only[FC.len];omega
  ·rw[<-dZ _ [] i hi1,Bz];simp
 ·rw[AU (by omega)];rfl
def bA(n:Int):EA×Int:=if 1<=n/\n<=7 then(aH n,0)else([],2)
def HE:List AD->Option Post
 | [.c (.int .i64 n)]=>some ⟨True,.tup [.inl (.tr [39,62,2] (.p3 .i64 (bA n).1)),.inl (.int .i64 (bA n).2)],[]⟩
 |_=>none
def ag5:Fits Tryz.prog 29 ⟨[],HE⟩:=by
 refine ffv (Γ:=ah [(73,⟨[],qh⟩),(74,⟨[],wI⟩)]) (aq yP (aq Q1 aN)) Tryz.func29 λds p h ξ=>?_
 unfold HE at h;split at h<;>cases h
 rename_i n
 refine⟨aj,ar,(True/\True)/\ab (!decide ((1:Int)<=n/\n<=(7:Int))) ((FC.len (FC.p3 IntKind.i64 (bA n).1)=(0:Nat)/\(2:Int)=(bA n).2/\True)/\True) ((((1:Int)<=n/\n<=(7:Int))/\True)/\(aH n=(bA n).1/\(0:Int)=(bA n).2/\True)/\True),by kernel_rfl,?_⟩
 simp only[aO]at ξ⊢;refine⟨λh=>?_,λh=>⟨h,?_⟩⟩
 ·rw[bA,AB h];exact⟨rfl,rfl⟩
 ·rw[bA,AA h];exact⟨rfl,rfl⟩
def HG:List AD->Option Post
 | [.c (.int .i64 n)]=>some ⟨True,.tup [.inl (.ro (.p3 .i64 (bA n).1)),.inl (.int .i64 (bA n).2)],[]⟩
 |_=>none
def ag8:Fits Tryz.prog 28 ⟨[],HG⟩:=by
 refine ffv (Γ:=ah [(71,⟨[],sJ⟩),(72,⟨[],wK⟩)]) (aq Kx (aq Q5 aN)) Tryz.func28 λds p h ξ=>?_
 unfold HG at h;split at h<;>cases h
 rename_i n
 refine⟨aj,ar,(True/\True)/\ab (!decide ((1:Int)<=n/\n<=(7:Int))) ((FC.len (FC.p3 IntKind.i64 (bA n).1)=(0:Nat)/\(2:Int)=(bA n).2/\True)/\True) ((((1:Int)<=n/\n<=(7:Int))/\True)/\(aH n=(bA n).1/\(0:Int)=(bA n).2/\True)/\True),by kernel_rfl,?_⟩
 simp only[aO]at ξ⊢;refine⟨λh=>?_,λh=>⟨h,?_⟩⟩
 ·rw[bA,AB h];exact⟨rfl,rfl⟩
 ·rw[bA,AA h];exact⟨rfl,rfl⟩
end Go.Sx
end
