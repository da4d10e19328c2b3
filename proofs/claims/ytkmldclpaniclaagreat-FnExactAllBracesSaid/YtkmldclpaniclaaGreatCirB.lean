/- CirB -/
import Derived.Test.YtkmldclpaniclaaGreatBrs
import Derived.Test.YtkmldclpaniclaaGreatCmp
import Derived.Shelf.SlSortCmp.NoneTotal
import Derived.Lib.OwnBridge
import Derived.Test.YtkmldclpaniclaaGreatMpgE
import Derived.Test.YtkmldclpaniclaaGreatCrcR
import Derived.Test.YtkmldclpaniclaaGreatRack
import Derived.Test.YtkmldclpaniclaaGreatEqt
set_option linter.unusedSimpArgs false
set_option linter.unusedVariables false
section
open Go Go.Proofs
namespace Go.Sx
def cL(A:List (List Int))(c:List (List Int)):Bool:=A.all fun f=>!bE (bz c f c.length) c
def bH(t A:List (List Int)):List (List (List Int)):=(aC t A).filter (cL A)
theorem KK{a b c:List (List Int)}(h:em a b<=0)(k:em b c<0):em a c<0:=by
 have h1:=dL.le a b c h (by omega)
 refine Classical.byContradiction fun hn=>?_
 have e:em a c=0:=by omega
 have:=(dL.zero a c).1 e
 subst this;have:=dL.anti a b
 omega
theorem Df:∀(l:List (List (List Int))),l≠[]->∃m∈l,∀x∈l,em m x<=0
 | [],h=>absurd rfl h
 | [a],_=>⟨a,by simp,fun x hx=>by
  rw[List.mem_singleton]at hx;subst hx;have:=(dL.zero x x).2 rfl
  omega⟩
 |a::b::l,_=>by
  obtain⟨m,hm,h⟩:=Df (b::l) (by simp)
  by_cases hc:em a m<=0
  ·refine⟨a,by simp,fun x hx=>?_⟩
   rcases List.mem_cons.1 hx with rfl|hx
   ·have:=(dL.zero x x).2 rfl
    omega
   ·exact dL.le _ _ _ hc (h x hx)
  ·refine⟨m,List.mem_cons_of_mem _ hm,fun x hx=>?_⟩
   rcases List.mem_cons.1 hx with rfl|hx
   ·have:=dL.anti x m
    omega
   ·exact h x hx
section
variable {n:Nat} {t:List (List Int)}
theorem gX(G:GrpT n t)(hn:n<=7){f:List Int}(hf:f∈aa t):IsP n f:=((fW G hn).1 hf).p
theorem Dg(G:GrpT n t)(hn:n<=7){f:List Int}(hf:f∈aa t):cu f∈aa t:=(fW G hn).2 (uF G ((fW G hn).1 hf))
theorem KM(G:GrpT n t)(hn:n<=7){f g:List Int}(hf:f∈aa t)(hg:g∈aa t):aT f g∈aa t:=(fW G hn).2 (jP G.tb ((fW G hn).1 hf) ((fW G hn).1 hg))
theorem nP(G:GrpT n t)(hn:n<=7){c:List (List Int)}(hc:c∈aC t (aa t)):aB n c:=by rw[<-pS G hn]at hc;exact CU G hn hc
theorem KN(G:GrpT n t)(hn:n<=7){f:List Int}(hf:f∈aa t){c:List (List Int)}(hc:c∈aC t (aa t)):bz c f n∈aC t (aa t) :=
 JZ G hn hf hc (gy (nP G hn hc) (gX G hn hf))
theorem Dh(G:GrpT n t)(hn:n<=7){f:List Int}(hf:f∈aa t){c:List (List Int)}(hc:aB n c):bz (bz c f n) (cu f) n=c:=by
 have P:=gX G hn hf
 have h:=gy hc P
 exact(gy h.tb P.bk).uniq P.bk (h.back P hc)
theorem KO(G:GrpT n t)(hn:n<=7){f g:List Int}(hf:f∈aa t)(hg:g∈aa t){c:List (List Int)}(hc:aB n c):bz (bz c f n) g n=bz c (aT f g) n:=by
 have P:=gX G hn hf
 have Q:=gX G hn hg
 have h:=gy hc P
 exact(h.th P Q hc (gy h.tb Q)).uniq (P.th Q) (gy hc (P.th Q))
theorem KP(G:GrpT n t)(hn:n<=7):c8 n∈aa t:=(fW G hn).2 (Eu G.tb)
theorem Di(G:GrpT n t)(hn:n<=7):∀i,i<=(aC t (aa t)).length->(cW (aa t) ((aC t (aa t)).take i)).2=((aC t (aa t)).take i).filter (cL (aa t)) /\
  ∀s,s∈(cW (aa t) ((aC t (aa t)).take i)).1↔∃c∈((aC t (aa t)).take i).filter (cL (aa t)),∃f∈aa t,s=bz c f n
 |0,_=>by simp[cW]
 |i+1,hi=>by
  obtain⟨h1,h2⟩:=Di G hn i (by omega)
  have hil:i<(aC t (aa t)).length:=by omega
  have hc:=bO (aC t (aa t)) [] i hil
  have hlt:=bG (aC t (aa t)) [] i hil
  have srt:=List.pairwise_iff_getElem.1 (JY G hn)
  have nd:=List.pairwise_iff_getElem.1 (JX G hn)
  have tk:(aC t (aa t)).take (i+1)=(aC t (aa t)).take i++[(aC t (aa t)).getD i []]:=(du _ [] i hil).symm
  have tb:=nP G hn hc
  have before:∀m∈(aC t (aa t)).take i,em m ((aC t (aa t)).getD i [])<0:=fun m hm=>by
   obtain⟨k,hk,rfl⟩:=List.mem_iff_getElem.1 hm;have hk':k<i:=by rw[List.length_take]at hk;omega
   rw[List.getElem_take,hlt];have a:=srt k i (by omega) hil hk'
   have b:=nd k i (by omega) hil hk'
   have:=dL.zero (aC t (aa t))[k] (aC t (aa t))[i]
   refine Classical.byContradiction fun hq=>b (this.1 (by omega))
  have after:∀m∈aC t (aa t),em m ((aC t (aa t)).getD i [])<0->m∈(aC t (aa t)).take i:=fun m hm hlt2=>by
   obtain⟨k,hk,rfl⟩:=List.mem_iff_getElem.1 hm;rw[hlt]at hlt2;by_cases hki:k<i
   ·exact List.mem_iff_getElem.2 ⟨k,by rw[List.length_take];omega,by rw[List.getElem_take]⟩
   ·exfalso
    by_cases e:k=i
    ·subst e
     have:=(dL.zero (aC t (aa t))[k] (aC t (aa t))[k]).2 rfl
     omega
    ·have a:=srt i k hil hk (by omega)
     have:=dL.anti (aC t (aa t))[i] (aC t (aa t))[k]
     omega
  generalize hC:(aC t (aa t)).getD i []=c at *
  have lx:∀m,aB n m->(bE m c=true↔em m c<0):=fun m hm=>nV m c (by rw[hm.1,tb.1])
  have hcl:c.length=n:=tb.1
  rw[pR hil,hC,je,tk,List.filter_append];by_cases hs:c∈(cW (aa t) ((aC t (aa t)).take i)).1
  ·have any:(cW (aa t) ((aC t (aa t)).take i)).1.any (fun s=>decide (s=c))=true:=List.any_eq_true.2 ⟨c,hs,by simp⟩
   obtain⟨c0,hc0,f,hf,e⟩:=(h2 c).1 hs;have hm0:=(List.mem_filter.1 hc0).1
   have tb0:=nP G hn (List.mem_of_mem_take hm0)
   have no:cL (aa t) c=false:=by
    rw[cL,List.all_eq_false];refine⟨cu f,Dg G hn hf,?_⟩
    have eb:bz c (cu f) n=c0:=by rw[e];exact Dh G hn hf tb0
    rw[hcl,eb,(lx c0 tb0).2 (before c0 hm0)];simp
   rw[if_pos any,List.filter_cons,no];simp only[Bool.false_eq_true,if_false,List.filter_nil,List.append_nil];exact⟨h1,h2⟩
  ·have any:¬ (cW (aa t) ((aC t (aa t)).take i)).1.any (fun s=>decide (s=c))=true:=fun hq=>by
    obtain⟨s,hs1,hs2⟩:=List.any_eq_true.1 hq;have:s=c:=by simpa using hs2
    subst this;exact hs hs1
   have yes:cL (aa t) c=true:=by
    refine Classical.byContradiction fun hq=>hs ?_
    have hq:cL (aa t) c=false:=by simpa using hq
    rw[cL,List.all_eq_false]at hq;obtain⟨f,hf,hlx⟩:=hq;rw[hcl]at hlx;have tf:=(gy tb (gX G hn hf)).tb
    have hlx:=(lx _ tf).1 (by simpa using hlx)
    obtain⟨m,hm,hmin⟩:=Df ((aa t).map fun f=>bz c f n) (by
     intro h0
     have:=KP G hn
     rw[List.map_eq_nil_iff]at h0;rw[h0]at this;cases this)
    obtain⟨f1,hf1,rfl⟩:=List.mem_map.1 hm;have hmc:=KK (hmin _ (List.mem_map.2 ⟨f,hf,rfl⟩)) hlx
    have hmem:=after _ (KN G hn hf1 hc) hmc
    have tm:=(gy tb (gX G hn hf1)).tb
    refine(h2 c).2 ⟨bz c f1 n,List.mem_filter.2 ⟨hmem,?_⟩,cu f1,Dg G hn hf1,(Dh G hn hf1 tb).symm⟩
    rw[cL,List.all_eq_true];intro g hg
    have e:=KO G hn hf1 hg tb
    have hl:(bz c f1 n).length=n:=tm.1
    rw[hl,e];have:=hmin _ (List.mem_map.2 ⟨aT f1 g,KM G hn hf1 hg,rfl⟩)
    have tq:=(gy tb ((gX G hn hf1).th (gX G hn hg))).tb
    have an:=dL.anti (bz c f1 n) (bz c (aT f1 g) n)
    cases hb:bE (bz c (aT f1 g) n) (bz c f1 n)with
    |false=>rfl
    |true =>
     have:=(nV _ _ (by rw[tq.1,tm.1])).1 hb
     omega
   rw[if_neg any,List.filter_cons,yes];simp only[if_true,List.filter_nil];refine⟨by rw[h1],fun s=>?_⟩
   rw[List.mem_append,h2,List.mem_map]
   constructor
   ·rintro(⟨c0,a1,f,a2,a3⟩|⟨f,a1,a2⟩)
    ·exact⟨c0,List.mem_append_left _ a1,f,a2,a3⟩
    ·exact⟨c,by simp,f,a1,by rw[<-a2];exact CC tb (gX G hn a1)⟩
   ·rintro⟨c0,a1,f,a2,a3⟩
    rcases List.mem_append.1 a1 with a1|a1
    ·exact .inl ⟨c0,a1,f,a2,a3⟩
    ·rw[List.mem_singleton]at a1
     subst a1;exact .inr ⟨f,a2,by rw[a3];exact CC tb (gX G hn a2)⟩
theorem KQ(G:GrpT n t)(hn:n<=7):(cW (aa t) (aU t)).2=bH t (aa t):=by
 have:=(Di G hn _ (Nat.le_refl _)).1
 rw[List.take_length]at this;rw[pS G hn];exact this
end
end Go.Sx
end
section
open Go Go.Proofs Go.RowKit Go.Shelf
namespace Go.Sx
set_option maxRecDepth 100000
end Go.Sx
end
section
open Go Go.Proofs
namespace Go.Sx
theorem Dj(k:Nat):∀l:List (List Int),(∀r∈l,r.length<=k)->aV l<=l.length*k
 | [],_=>by simp[aV]
 |r::l,h=>by
  have h1:=h r List.mem_cons_self
  have h2:=Dj k l fun x hx=>h x (List.mem_cons_of_mem _ hx)
  simp only[aV,List.map_cons,List.sum_cons,List.length_cons,Nat.add_mul]at *;omega
def de{α:Type}(c:α->Nat)(l:List α):Nat:=(l.map c).sum
theorem Dk{α:Type}(c:α->Nat)(l:List α)(z:α)(i:Nat)(h:i<l.length):de c (l.take (i+1))=de c (l.take i)+c (l.getD i z):=by
 rw[<-du l z i h];simp[de]
theorem Dl{α:Type}(c:α->Nat)(l:List α)(i:Nat):de c (l.take i)<=de c l:=by
 have h:de c l=de c (l.take i)+de c (l.drop i):=by
  rw[de,de,de,<-List.sum_append,<-List.map_append,List.take_append_drop]
 omega
def dq{α:Type}(f:α->Int->α)(c:α->Nat):List α->Int->List α
 | [],_=>[]
 |x::l,k=>f x k::dq f c l (k+(c x:Int))
section
variable {α:Type} {f:α->Int->α} {c:α->Nat}
theorem pX:∀(l:List α) (k:Int),(dq f c l k).length=l.length
 | [],_=>rfl
 |r::l,k=>by simp[dq,pX l]
theorem vh:∀(a b:List α) (k:Int),dq f c (a++b) k=dq f c a k++dq f c b (k+(de c a:Int))
 | [],b,k=>by simp[dq,de]
 |r::a,b,k=>by
  simp only[List.cons_append,dq,vh a b,de,List.map_cons,List.sum_cons];rw[show k+((c r+(a.map c).sum:Nat):Int)=k+(c r:Int)+((a.map c).sum:Int) by omega]
theorem vj(l:List α)(z:α)(k:Int)(i:Nat)(h:i<l.length):dq f c (l.take (i+1)) k=dq f c (l.take i) k++[f (l.getD i z) (k+(de c (l.take i):Int))]:=by
 rw[<-du l z i h,vh];rfl
theorem KT(l:List α)(z:α)(k:Int)(i:Nat)(h:i<l.length):(dq f c l k).getD i z=f (l.getD i z) (k+(de c (l.take i):Int)):=by
 have hl:(dq f c (l.take i) k).length=i:=by rw[pX,List.length_take];omega
 conv=>lhs;rw[<-List.take_append_drop (i+1) l]
 rw[vh,vj l z k i h,List.append_assoc,getD_append_right' _ _ _ _ (by omega),hl,Nat.sub_self]
 rfl
theorem Dm(hc:∀x k,c (f x k)=c x):∀(l:List α) (k:Int),de c (dq f c l k)=de c l
 | [],_=>rfl
 |r::l,k=>by
  have:=Dm hc l (k+(c r:Int))
  simp only[de,dq,List.map_cons,List.sum_cons,hc]at this⊢;rw[this]
theorem Dn(hf:∀x k,f (f x k) k=f x k)(hc:∀x k,c (f x k)=c x):∀(l:List α) (k:Int),dq f c (dq f c l k) k=dq f c l k
 | [],_=>rfl
 |r::l,k=>by simp only[dq,hf,hc,Dn hf hc l]
theorem Do(l:List α)(z:α)(k:Int)(i:Nat)(h:i<l.length) :
  (dq f c (l.take i) k++l.drop i).getD i z=l.getD i z /\
  (dq f c (l.take i) k++l.drop i).set i (f (l.getD i z) (k+(de c (l.take i):Int)))=dq f c (l.take (i+1)) k++l.drop (i+1):=by
 have hlen:(dq f c (l.take i) k).length=i:=by rw[pX,List.length_take];omega
 constructor
 ·rw[getD_append_right' _ _ _ _ (by omega),hlen,uC];simp
 ·rw[vj l z k i h,List.set_append_right _ _ (by omega),hlen,Nat.sub_self,drop_cons' l z i h,List.set_cons_zero]
  simp
end
theorem KU{α:Type}{f:α->Int->α}{c:α->Nat}{l:List α}{k:Int}{y:α}(h:y∈dq f c l k):∃x∈l,∃j,y=f x j:=by
 induction l generalizing k with
 |nil=>simp[dq]at h
 |cons x l ih =>
  rcases List.mem_cons.1 h with rfl|h
  ·exact⟨x,by simp,k,rfl⟩
  ·obtain⟨z,h1,h2⟩:=ih h
   exact⟨z,by simp[h1],h2⟩
def pY(l:List Int)(k:Int):Post:=⟨ah l.length/\0<=k/\k<=1099511627776,.c (.int .i64 (k+(l.length:Int))),[.tr [2] (.ints .i64 (c7 k l.length))]⟩
def vn:List AD->Option Post
 | [.c (.ints .i64 l),.c (.int .i64 k)]=>some (pY l k)
 |_=>none
def Dp(l:List Int)(k:Int):Nat->Option Ann
 |0=>some (Ann.mk ((Nat)) (fun i=>⟨[(0,.c (.own 700)),(1,.c (.int .i64 (k+(i:Int)))),(5,.c (.int .i64 ((i:Int))))],[(700,some (.tr 0 [2] (.ints .i64 ((c7 k l.length).take i++l.drop i))))]⟩) (fun i=>i<=l.length) (fun i=>l.length-i) (fun _=>av))
 |_=>none
def Dq:List (Nat×Ctr):=[]
def vo(l:List Int)(k:Int):Prop :=
 (∃x0:Nat,x0<=l.length/\k=k+(x0:Int)/\(0:Int)=(x0:Int)/\l=List.take x0 (c7 k l.length)++List.drop x0 l)/\∀x1:Nat,x1<=l.length->ae (decide ((x1:Int)<(↑(FC.len (FC.ints IntKind.i64 (List.take x1 (c7 k l.length)++List.drop x1 l))):Int))) (ab (x1:Int) (FC.len (FC.ints IntKind.i64 (List.take x1 (c7 k l.length)++List.drop x1 l)))/\ac (k+(x1:Int)+(1:Int))/\ac ((x1:Int)+(1:Int))/\∃x2:Nat,x2<=l.length/\l.length-x2<l.length-x1/\k+(x1:Int)+(1:Int)=k+(x2:Int)/\(x1:Int)+(1:Int)=(x2:Int)/\List.set (List.take x1 (c7 k l.length)++List.drop x1 l) (x1:Int).toNat (k+(x1:Int))=List.take x2 (c7 k l.length)++List.drop x2 l) (k+(x1:Int)=k+(l.length:Int)/\List.take x1 (c7 k l.length)++List.drop x1 l=c7 k l.length/\True)
theorem KW(l:List Int)(k:Int):aY Tryz.prog (aj Dq) am (Dp l k) Tryz.f105 (aP Tryz.f105) [(0,0)] [.c (.ints .i64 l),.c (.int .i64 k)] (pY l k)=vo l k:=by kernel_rfl
theorem KX(l:List Int)(k:Int)(Yh:(pY l k).pre):vo l k:=by
 simp only[pY,vo,aX,true_and,and_true,decide_eq_true_eq,decide_eq_false_iff_not,bne_iff_ne,beq_iff_eq,bne_eq_false_iff_eq,beq_eq_false_iff_ne,Bool.not_eq_true,Bool.not_eq_false,Bool.not_true,Bool.not_false,Bool.not_eq_eq_eq_not,Int.toNat_natCast,List.length_append,List.length_take,List.length_replicate,List.length_set,List.length_map,List.length_drop,List.length_nil,List.length_cons,aN,ab,ac,ah,ax,FC.len]at Yh⊢;obtain⟨h1,h2,h3⟩:=Yh;refine⟨⟨0,by omega,by simp⟩,fun i hi=>⟨fun h=>⟨by omega,by omega,by omega,i+1,by omega,by omega,by omega,by omega,?_⟩,fun h=>⟨?_,?_⟩⟩⟩
 ·rw[<-Td (c7 k l.length) l 0 i (aN _ _) (by omega),Cq _ _ _ (by omega)]
 ·omega
 ·rw[List.take_of_length_le (by rw[aN];omega),List.drop_of_length_le (by omega),List.append_nil]
theorem KY:Fits Tryz.prog 105 ⟨[(0,0)],vn⟩:=by
 refine bf (Γ:=aj Dq) aW Tryz.func105 fun ds p h hp=>?_
 unfold vn at h;split at h
 ·cases h
  exact⟨am,Dp _ _ ,by rw[KW];exact KX _ _  hp⟩
 ·cases h
def pZ(l:List (List Int))(k:Int):Post:=⟨l.length<=1048576/\aV l<=1048576/\0<=k/\k<=1073741824,.c (.int .i64 (k+(aV l:Int))),[.tr [62,2] (.rows .i64 (bt l k))]⟩
def vp:List AD->Option Post
 | [.c (.rows .i64 l),.c (.int .i64 k)]=>some (pZ l k)
 |_=>none
def Dr(l:List (List Int))(k:Int):Nat->Option Ann
 |0=>some (Ann.mk ((Nat)) (fun i=>⟨[(0,.c (.own 700)),(1,.c (.int .i64 (k+(aV (l.take i):Int)))),(5,.c (.int .i64 ((i:Int))))],[(700,some (.tr 0 [62,2] (.rows .i64 (bt (l.take i) k++l.drop i))))]⟩) (fun i=>i<=l.length) (fun i=>l.length-i) (fun _=>av))
 |_=>none
def Ds:List (Nat×Ctr):=[(105,⟨[(0,0)],vn⟩)]
def mj(l:List (List Int))(k:Int)(x0:Nat):=((bt (List.take x0 l) k++List.drop x0 l).getD (↑x0:Int).toNat [])
def vq(l:List (List Int))(k:Int):Prop :=
 (∃x0:Nat,x0<=l.length/\k=k+(↑(aV (List.take x0 l)):Int)/\(0:Int)=(x0:Int)/\l=bt (List.take x0 l) k++List.drop x0 l)/\∀x1:Nat,x1<=l.length->ae (decide ((x1:Int)<(↑(FC.len (FC.rows IntKind.i64 (bt (List.take x1 l) k++List.drop x1 l))):Int))) (ab (x1:Int) (FC.len (FC.rows IntKind.i64 (bt (List.take x1 l) k++List.drop x1 l)))/\((ah (mj l k x1).length/\(0:Int)<=k+(↑(aV (List.take x1 l)):Int)/\k+(↑(aV (List.take x1 l)):Int)<=(1099511627776:Int))/\FC.len (FC.ints IntKind.i64 (c7 (k+(↑(aV (List.take x1 l)):Int)) (mj l k x1).length))=FC.len (FC.ints IntKind.i64 (mj l k x1)))/\ac ((x1:Int)+(1:Int))/\∃x2:Nat,x2<=l.length/\l.length-x2<l.length-x1/\k+(↑(aV (List.take x1 l)):Int)+(↑((mj l k x1).length):Int)=k+(↑(aV (List.take x2 l)):Int)/\(x1:Int)+(1:Int)=(x2:Int)/\List.set (bt (List.take x1 l) k++List.drop x1 l) (x1:Int).toNat (c7 (k+(↑(aV (List.take x1 l)):Int)) (mj l k x1).length)=bt (List.take x2 l) k++List.drop x2 l) (k+(↑(aV (List.take x1 l)):Int)=k+(aV l:Int)/\bt (List.take x1 l) k++List.drop x1 l=bt l k/\True)
theorem KZ(l:List (List Int))(k:Int):aY Tryz.prog (aj Ds) am (Dr l k) Tryz.f56 (aP Tryz.f56) [(0,0)] [.c (.rows .i64 l),.c (.int .i64 k)] (pZ l k)=vq l k:=by kernel_rfl
theorem K0(l:List (List Int))(k:Int)(Yh:(pZ l k).pre):vq l k:=by
 simp only[pZ,vq,mj,aX,true_and,and_true,decide_eq_true_eq,decide_eq_false_iff_not,bne_iff_ne,beq_iff_eq,bne_eq_false_iff_eq,beq_eq_false_iff_ne,Bool.not_eq_true,Bool.not_eq_false,Bool.not_true,Bool.not_false,Bool.not_eq_eq_eq_not,Int.toNat_natCast,List.length_append,List.length_take,List.length_replicate,List.length_set,List.length_map,List.length_drop,List.length_nil,List.length_cons,aN,ab,ac,ah,ax,FC.len]at Yh⊢;obtain⟨h1,h2,h3,h4⟩:=Yh;refine⟨⟨0,by omega,by simp[aV],rfl,by simp[bt]⟩,fun i hi=>?_⟩
 have hlen:(bt (l.take i) k).length=i:=by rw[ou,List.length_take];omega
 rw[hlen];refine⟨fun h=>?_,fun h=>?_⟩
 ·have q1:=GV l i (by omega)
  have q2:=GW l (i+1)
  have hg:(bt (l.take i) k++l.drop i).getD i []=l.getD i []:=by
   rw[getD_append_right' _ _ _ _ (by omega),hlen,uC];simp
  have q3:=GX (bO l [] i (by omega))
  rw[hg];refine⟨by omega,by omega,by omega,i+1,by omega,by omega,by omega,by omega,?_⟩
  rw[yM l k i (by omega),List.set_append_right _ _ (by omega),hlen,Nat.sub_self,drop_cons' l [] i (by omega),List.set_cons_zero]
  simp
 ·rw[List.take_of_length_le (by omega),List.drop_of_length_le (by omega),List.append_nil]
  exact⟨rfl,rfl⟩
theorem K3:Fits Tryz.prog 56 ⟨[(0,0)],vp⟩:=by
 refine bf (Γ:=aj Ds) (aD KY aW) Tryz.func56 fun ds p h hp=>?_
 unfold vp at h;split at h
 ·cases h
  exact⟨am,Dr _ _ ,by rw[KZ];exact K0 _ _  hp⟩
 ·cases h
def dK(t A:List (List Int))(K:List Int):List Int×Bool :=
 match cR t A K with
 |none=>([],false)
 |some o=>(o,true)
theorem Dt{t A:List (List Int)}{o:List Int}{x y:Nat}(h:dv t A o x y=none):∀k,dv t A o x (y+k)=none
 |0=>h
 |k+1=>by rw[<-Nat.add_assoc,dv,Dt h k];rfl
theorem Du{t A:List (List Int)}{o:List Int}{x:Nat}(h:eg t A o x=none):∀k,eg t A o (x+k)=none
 |0=>h
 |k+1=>by rw[<-Nat.add_assoc,eg,Du h k];rfl
theorem K4{t A:List (List Int)}{K o c e:List Int}{fu i j:Nat}(hr:cR t A K=eO t A (fu+1) o)(hx:eg t A o i=some c)(hy:dv t A c i j=some e)(hi:i<t.length)(hj:j<t.length)(h:fN t A e i j=none):dK t A K=([],false):=by
 have h1:dv t A c i (j+1)=none:=by rw[dv,hy];exact h
 have h2:=Dt h1 (t.length-(j+1))
 rw[show j+1+(t.length-(j+1))=t.length by omega]at h2
 have h3:eg t A o (i+1)=none:=by rw[eg,hx];exact h2
 have h4:=Du h3 (t.length-(i+1))
 rw[show i+1+(t.length-(i+1))=t.length by omega]at h4
 rw[dK,hr,eO,h4]
def p9(t:List (List Int))(A:List (List Int))(K:List Int):Post:=⟨t.length<=12/\aB t.length t/\AuOk t.length A/\A.length<=1000000/\KOk t.length A.length K,.tup [.inl (.ints 2 .i64 (dK t A K).1),.inl (.bool (dK t A K).2)],[]⟩
def vr:List AD->Option Post
 | [.c (.rows .i64 t),.c (.rows .i64 A),.c (.ints .i64 K)]=>some (p9 t A K)
 |_=>none
def Dv(t:List (List Int))(A:List (List Int))(K:List Int):Nat->Option Ann
 |0=>some (Ann.mk ((Nat)×(List Int)×(Bool)) (fun x=>match x with|(fu,o,g)=>⟨[(0,.c (.ro (.rows .i64 t))),(1,.c (.ro (.rows .i64 A))),(8,.c (.own 8)),(9,.c (.bool g))],[(8,some (.ints 2 .i64 o))]⟩) (fun x=>match x with|(fu,o,g)=>KOk t.length A.length o/\(g=true->ay o<fu/\cR t A K=eO t A fu o)/\(g=false->cR t A K=some o)) (fun x=>match x with|(fu,o,g)=>2*fu+(if g=true then 1 else 0)) (fun x=>match x with|(fu,o,g)=>fun b_=>match b_ with|2=>some (Ann.mk ((Nat)×(List Int)) (fun x=>match x with|(i,c)=>⟨[(0,.c (.ro (.rows .i64 t))),(1,.c (.ro (.rows .i64 A))),(8,.c (.own 8)),(9,.c (.bool (decide (ay c<ay o)))),(10,.c (.int .i64 ((i:Int))))],[(8,some (.ints 2 .i64 c))]⟩) (fun x=>match x with|(i,c)=>i<=t.length/\g=true/\KOk t.length A.length c/\eg t A o i=some c/\ay c<=ay o) (fun x=>match x with|(i,c)=>t.length-i) (fun x=>match x with|(i,c)=>fun b_=>match b_ with|4=>some (Ann.mk ((Nat)×(List Int)) (fun x=>match x with|(j,e)=>⟨[(0,.c (.ro (.rows .i64 t))),(1,.c (.ro (.rows .i64 A))),(8,.c (.own 8)),(9,.c (.bool (decide (ay e<ay o)))),(10,.c (.int .i64 ((i:Int)))),(11,.c (.int .i64 ((j:Int))))],[(8,some (.ints 2 .i64 e))]⟩) (fun x=>match x with|(j,e)=>i<t.length/\j<=t.length/\KOk t.length A.length e/\dv t A c i j=some e/\ay e<=ay c) (fun x=>match x with|(j,e)=>t.length-j) (fun _=>av))|_=>none))|_=>none))
 |_=>none
def Dw:List (Nat×Ctr):=[(144,⟨[],mE⟩),(189,⟨[],qe⟩),(232,⟨[],wu⟩)]
def kF(t:List (List Int))(A:List (List Int))(x0:Nat×List Int)(x1:Nat×List Int):=((List.getD t (↑x0.1:Int).toNat []).getD (((List.getD A ((List.getD x1.2 (↑x0.1:Int).toNat (0:Int)).toNat) []).getD (↑x1.1:Int).toNat (0:Int)).toNat) (0:Int))
def vt(t:List (List Int))(A:List (List Int))(K:List Int):Prop :=
 ((ah K.length/\True)/\((∃x0:Nat×List Int×Bool,(KOk t.length A.length x0.2.1/\(x0.2.2=true->ay x0.2.1<x0.1/\cR t A K=eO t A x0.1 x0.2.1)/\(x0.2.2=false->cR t A K=Option.some x0.2.1))/\t=t/\A=A/\true=x0.2.2/\K=x0.2.1)/\(∀x1:Nat×List Int×Bool,(KOk t.length A.length x1.2.1/\(x1.2.2=true->ay x1.2.1<x1.1/\cR t A K=eO t A x1.1 x1.2.1)/\(x1.2.2=false->cR t A K=Option.some x1.2.1)->(ae x1.2.2 ((∃x2:Nat×List Int,(x2.1<=t.length/\x1.2.2=true/\KOk t.length A.length x2.2/\eg t A x1.2.1 x2.1=Option.some x2.2/\ay x2.2<=ay x1.2.1)/\t=t/\A=A/\false=decide (ay x2.2<ay x1.2.1)/\(0:Int)=(↑x2.1:Int)/\x1.2.1=x2.2)/\(∀x3:Nat×List Int,(x3.1<=t.length/\x1.2.2=true/\KOk t.length A.length x3.2/\eg t A x1.2.1 x3.1=Option.some x3.2/\ay x3.2<=ay x1.2.1->(ae (decide ((↑x3.1:Int)<(t.length:Int))) ((∃x4:Nat×List Int,(x3.1<t.length/\x4.1<=t.length/\KOk t.length A.length x4.2/\dv t A x3.2 x3.1 x4.1=Option.some x4.2/\ay x4.2<=ay x3.2)/\t=t/\A=A/\decide (ay x3.2<ay x1.2.1)=decide (ay x4.2<ay x1.2.1)/\(↑x3.1:Int)=(↑x3.1:Int)/\(0:Int)=(↑x4.1:Int)/\x3.2=x4.2)/\(∀x5:Nat×List Int,((x3.1<t.length/\(x5.1<=t.length/\(KOk t.length A.length x5.2/\((dv t A x3.2 x3.1 x5.1=Option.some x5.2) /\
 (ay x5.2<=ay x3.2)))))->(ae (decide ((↑x5.1:Int)<(t.length:Int))) ((ab (↑x3.1:Int) x5.2.length)/\(ae (decide (x5.2.getD (↑x3.1:Int).toNat (0:Int)<(0:Int))) ((ac ((↑x5.1:Int)+(1:Int)))/\(∃x6:Nat×List Int,(((x3.1<t.length)/\((x6.1<=t.length)/\((KOk t.length A.length x6.2)/\((dv t A x3.2 x3.1 x6.1=Option.some x6.2)/\(ay x6.2<=ay x3.2)))))/\((t.length-x6.1<t.length-x5.1)/\((t=t)/\((A=A)/\((decide (ay x5.2<ay x1.2.1)=decide (ay x6.2<ay x1.2.1))/\(((↑x3.1:Int)=(↑x3.1:Int))/\(((↑x5.1:Int)+(1:Int)=(↑x6.1:Int))/\(x5.2=x6.2)))))))))) ((ab (↑x5.1:Int) x5.2.length)/\(ae (decide (x5.2.getD (↑x5.1:Int).toNat (0:Int)<(0:Int))) ((ac ((↑x5.1:Int)+(1:Int)))/\(∃x7:Nat×List Int,(((x3.1<t.length)/\((x7.1<=t.length)/\((KOk t.length A.length x7.2)/\((dv t A x3.2 x3.1 x7.1=Option.some x7.2)/\(ay x7.2<=ay x3.2)))))/\((t.length-x7.1<t.length-x5.1)/\((t=t)/\((A=A)/\((decide (ay x5.2<ay x1.2.1)=decide (ay x7.2<ay x1.2.1))/\(((↑x3.1:Int)=(↑x3.1:Int))/\(((↑x5.1:Int)+(1:Int)=(↑x7.1:Int))/\(x5.2=x7.2)))))))))) ((ab (↑x3.1:Int) t.length)/\((ab (↑x3.1:Int) x5.2.length)/\((ab (x5.2.getD (↑x3.1:Int).toNat (0:Int)) A.length)/\((ab (↑x5.1:Int) ((A.getD ((x5.2.getD (↑x3.1:Int).toNat (0:Int)).toNat) []).length))/\((ab ((List.getD A ((List.getD x5.2 (↑x3.1:Int).toNat (0:Int)).toNat) []).getD (↑x5.1:Int).toNat (0:Int)) ((t.getD (↑x3.1:Int).toNat []).length)) /\
 (ab (↑x5.1:Int) x5.2.length/\(ab (x5.2.getD (↑x5.1:Int).toNat (0:Int)) A.length/\(ab (↑x3.1:Int) x5.2.length/\(ab (x5.2.getD (↑x3.1:Int).toNat (0:Int)) A.length/\(((ah ((A.getD ((x5.2.getD (↑x5.1:Int).toNat (0:Int)).toNat) []).length)/\iJ ((A.getD ((x5.2.getD (↑x3.1:Int).toNat (0:Int)).toNat) []).length) (A.getD ((x5.2.getD (↑x5.1:Int).toNat (0:Int)).toNat) []))/\True)/\((bK A/\True)/\(ab (kF t A x3 x5) x5.2.length/\(ae (decide (x5.2.getD (((List.getD t (↑x3.1:Int).toNat []).getD (((List.getD A ((List.getD x5.2 (↑x3.1:Int).toNat (0:Int)).toNat) []).getD (↑x5.1:Int).toNat (0:Int)).toNat) (0:Int)).toNat) (0:Int)<(0:Int))) (ab (kF t A x3 x5) x5.2.length/\((ab (kF t A x3 x5) ((List.set x5.2 (kF t A x3 x5).toNat (gA A (aT (A.getD ((x5.2.getD (↑x5.1:Int).toNat (0:Int)).toNat) []) (A.getD ((x5.2.getD (↑x3.1:Int).toNat (0:Int)).toNat) [])))).length)) /\
 (ae ((List.set x5.2 ((List.getD (List.getD t (↑x3.1:Int).toNat []) ((List.getD (List.getD A ((List.getD x5.2 (↑x3.1:Int).toNat (0:Int)).toNat) []) (↑x5.1:Int).toNat (0:Int)).toNat) (0:Int)).toNat) (gA A (aT (List.getD A ((List.getD x5.2 (↑x5.1:Int).toNat (0:Int)).toNat) []) (List.getD A ((List.getD x5.2 (↑x3.1:Int).toNat (0:Int)).toNat) [])))).getD (((List.getD t (↑x3.1:Int).toNat []).getD (((List.getD A ((List.getD x5.2 (↑x3.1:Int).toNat (0:Int)).toNat) []).getD (↑x5.1:Int).toNat (0:Int)).toNat) (0:Int)).toNat) (0:Int) != gA A (aT (A.getD ((x5.2.getD (↑x5.1:Int).toNat (0:Int)).toNat) []) (A.getD ((x5.2.getD (↑x3.1:Int).toNat (0:Int)).toNat) []))) ((([]=(dK t A K).1)/\((false=(dK t A K).2)/\True))/\True) ((ac ((↑x5.1:Int)+(1:Int)))/\(∃x8:Nat×List Int,(((x3.1<t.length)/\((x8.1<=t.length)/\((KOk t.length A.length x8.2)/\((dv t A x3.2 x3.1 x8.1=Option.some x8.2)/\(ay x8.2<=ay x3.2)))))/\((t.length-x8.1<t.length-x5.1)/\((t=t)/\((A=A)/\((true=decide (ay x8.2<ay x1.2.1))/\(((↑x3.1:Int)=(↑x3.1:Int))/\(((↑x5.1:Int)+(1:Int)=(↑x8.1:Int))/\(List.set x5.2 (kF t A x3 x5).toNat (gA A (aT (A.getD ((x5.2.getD (↑x5.1:Int).toNat (0:Int)).toNat) []) (A.getD ((x5.2.getD (↑x3.1:Int).toNat (0:Int)).toNat) [])))=x8.2))))))))))))) ((ab (kF t A x3 x5) x5.2.length) /\
 (ae (x5.2.getD (((List.getD t (↑x3.1:Int).toNat []).getD (((List.getD A ((List.getD x5.2 (↑x3.1:Int).toNat (0:Int)).toNat) []).getD (↑x5.1:Int).toNat (0:Int)).toNat) (0:Int)).toNat) (0:Int) != gA A (aT (A.getD ((x5.2.getD (↑x5.1:Int).toNat (0:Int)).toNat) []) (A.getD ((x5.2.getD (↑x3.1:Int).toNat (0:Int)).toNat) []))) ((([]=(dK t A K).1)/\((false=(dK t A K).2)/\True))/\True) ((ac ((↑x5.1:Int)+(1:Int)))/\(∃x9:Nat×List Int,(((x3.1<t.length)/\((x9.1<=t.length)/\((KOk t.length A.length x9.2)/\((dv t A x3.2 x3.1 x9.1=Option.some x9.2)/\(ay x9.2<=ay x3.2)))))/\((t.length-x9.1<t.length-x5.1)/\((t=t)/\((A=A)/\((decide (ay x5.2<ay x1.2.1)=decide (ay x9.2<ay x1.2.1))/\(((↑x3.1:Int)=(↑x3.1:Int))/\(((↑x5.1:Int)+(1:Int)=(↑x9.1:Int))/\(x5.2=x9.2))))))))))))))))))))))))))))) ((ac ((↑x3.1:Int)+(1:Int)))/\(∃x10:Nat×List Int,(((x10.1<=t.length)/\((x1.2.2=true)/\((KOk t.length A.length x10.2)/\((eg t A x1.2.1 x10.1=Option.some x10.2)/\(ay x10.2<=ay x1.2.1)))))/\((t.length-x10.1<t.length-x3.1)/\((t=t)/\((A=A)/\((decide (ay x5.2<ay x1.2.1)=decide (ay x10.2<ay x1.2.1))/\(((↑x3.1:Int)+(1:Int)=(↑x10.1:Int))/\(x5.2=x10.2))))))))))))) (∃x11:Nat×List Int×Bool,(((KOk t.length A.length x11.2.1)/\((x11.2.2=true->ay x11.2.1<x11.1/\cR t A K=eO t A x11.1 x11.2.1)/\(x11.2.2=false->cR t A K=Option.some x11.2.1))) /\
 ((((2:Nat)*x11.1+if x11.2.2=true then(1:Nat)else(0:Nat))<(2:Nat)*x1.1+if x1.2.2=true then(1:Nat)else(0:Nat))/\((t=t)/\((A=A)/\((decide (ay x3.2<ay x1.2.1)=x11.2.2)/\(x3.2=x11.2.1))))))))))) (((x1.2.1=(dK t A K).1)/\((true=(dK t A K).2)/\True))/\True))))))
theorem K5(t:List (List Int))(A:List (List Int))(K:List Int):aY Tryz.prog (aj Dw) am (Dv t A K) Tryz.f190 (aP Tryz.f190) [] [.c (.rows .i64 t),.c (.rows .i64 A),.c (.ints .i64 K)] (p9 t A K)=vt t A K:=by kernel_rfl
theorem K6(t:List (List Int))(A:List (List Int))(K:List Int)(Yh:(p9 t A K).pre):vt t A K:=by
 simp only[p9,vt,kF,aX,u1,u2,u3,u4,u5,u6,u7,u8,u9,v1,v2,v3,v4,v5,v6,v7,v8,v9,w1,w2,w3,w4,aN,ab,ac,ah,ax]at Yh⊢;obtain⟨h1,h2,h3,h4,h5⟩:=Yh;have kl:=h5.len
 have ng:=vC K
 refine⟨by omega,⟨⟨t.length+1,K,true⟩,⟨h5,fun _=>⟨by dsimp only;omega,rfl⟩,fun h=>by cases h⟩,rfl,rfl⟩,fun⟨fu,o,g⟩ ⟨o1,o2,o3⟩=>?_⟩
 dsimp only at o1 o2 o3⊢;refine⟨fun hg=>?_,fun hg=>?_⟩
 ·subst hg
  obtain⟨o2,o4⟩:=o2 rfl;obtain⟨fu,rfl⟩:∃m,fu=m+1:=⟨fu-1,by omega⟩
  refine⟨⟨⟨0,o⟩,⟨Nat.zero_le _,rfl,o1,rfl,Nat.le_refl _⟩,(decide_eq_false (Nat.lt_irrefl _)).symm,rfl,rfl⟩,fun⟨i,c⟩ ⟨c1,_,c2,c3,c4⟩=>?_⟩
  dsimp only at c1 c2 c3 c4⊢;refine⟨fun hi=>⟨⟨⟨0,c⟩,⟨by omega,Nat.zero_le _,c2,rfl,Nat.le_refl _⟩,rfl,rfl,rfl⟩,fun⟨j,e⟩ ⟨_,e1,e2,e3,e4⟩=>?_⟩,fun hi=>?_⟩
  ·dsimp only at e1 e2 e3 e4⊢
   refine⟨fun hj=>?_,fun hj=>?_⟩
   ·have el:=e2.len
    have ri:=e2.rng i (by omega)
    have rj:=e2.rng j (by omega)
    have same:fN t A e i j=some e->dv t A c i (j+1)=some e:=fun h=>by rw[dv,e3];exact h
    refine⟨by omega,fun q=>⟨by omega,⟨j+1,e⟩,⟨by omega,by dsimp only;omega,e2,same (by unfold fN;rw[if_pos (.inl q)]),e4⟩,by dsimp only;omega,rfl,by dsimp only;omega,rfl⟩,fun q=>⟨by omega,fun q2=>⟨by omega,⟨j+1,e⟩,⟨by omega,by dsimp only;omega,e2,same (by unfold fN;rw[if_pos (.inr q2)]),e4⟩,by dsimp only;omega,rfl,by dsimp only;omega,rfl⟩,fun q2=>?_⟩⟩
    have W:=mm h3 e2 (x:=i) (y:=j) (by omega) (by omega) (by omega) (by omega)
    have Z:=kH h2 h3 e2 (x:=i) (y:=j) (by omega) (by omega) (by omega)
    have Lt:(t.getD i []).length=t.length:=(h2.2 i (by omega)).1
    have La:=h3.len (e.getD i 0).toNat (by omega)
    have Lb:=h3.len (e.getD j 0).toNat (by omega)
    have hw:gA A (aT (A.getD (e.getD j 0).toNat []) (A.getD (e.getD i 0).toNat []))=dI A e i j:=by rw[gA,if_pos W.1];rfl
    have hz:((t.getD i []).getD ((A.getD (e.getD i 0).toNat []).getD j 0).toNat 0).toNat=bJ t A e i j:=rfl
    have hq:iJ (A.getD (e.getD i 0).toNat []).length (A.getD (e.getD j 0).toNat []):=fun x hx=>by
     have:=h3.rng (e.getD j 0).toNat x (by omega) (by omega)
     rw[La];exact this
    have hA:bK A:=⟨by omega,fun r hr=>by
     obtain⟨x,hx,rfl⟩:=List.getElem_of_mem hr;have:=h3.len x hx
     rw[bG A [] x hx]at this;omega⟩
    have Z1:0<=(A.getD (e.getD i 0).toNat []).getD j 0/\(A.getD (e.getD i 0).toNat []).getD j 0<(t.length:Int):=Z.1
    have Z2:0<=(t.getD i []).getD ((A.getD (e.getD i 0).toNat []).getD j 0).toNat 0/\(t.getD i []).getD ((A.getD (e.getD i 0).toNat []).getD j 0).toNat 0<(t.length:Int):=Z.2.1
    rw[hw,hz];have SS:fN t A e i j=if e.getD (bJ t A e i j) 0<0 then some (e.set (bJ t A e i j) (dI A e i j))else if e.getD (bJ t A e i j) 0=dI A e i j then some e else none:=by
     conv=>lhs;unfold fN
     rw[if_neg (by omega)]
    have gs:e.getD (bJ t A e i j) 0<0->(e.set (bJ t A e i j) (dI A e i j)).getD (bJ t A e i j) 0=dI A e i j:=fun _=>by
     rw[gW _ _ _ _ (by rw[el];exact Z.2.2),if_pos rfl]
    refine⟨by omega,by omega,by omega,by omega,by omega,by omega,by omega,by omega,by omega,⟨by omega,hq⟩,hA,by omega,fun z=>⟨by omega,by omega,fun y=>absurd (gs z) y,fun y=>?_⟩,fun z=>⟨by omega,fun y=>?_,fun y=>?_⟩⟩
    ·have N:=nQ (K:=e) (z:=bJ t A e i j) (w:=dI A e i j) (by rw[el];exact Z.2.2) z W.2.1
     refine⟨by omega,⟨j+1,e.set (bJ t A e i j) (dI A e i j)⟩,⟨by omega,by dsimp only;omega,e2.set _ ⟨by omega,W.2.2⟩,?_,by dsimp only;omega⟩,by dsimp only;omega,?_,by dsimp only;omega,rfl⟩
     ·dsimp only;rw[dv,e3];show fN t A e i j=_;rw[SS,if_pos z]
     ·exact(decide_eq_true (by dsimp only;omega)).symm
    ·rw[K4 o4 c3 e3 (by omega) (by omega) (by rw[SS,if_neg z,if_neg y])];exact⟨rfl,rfl⟩
    ·refine⟨by omega,⟨j+1,e⟩,⟨by omega,by dsimp only;omega,e2,same (by rw[SS,if_neg z,if_pos y]),e4⟩,by dsimp only;omega,rfl,by dsimp only;omega,rfl⟩
   ·refine⟨by omega,⟨i+1,e⟩,⟨by dsimp only;omega,rfl,e2,?_,by dsimp only;omega⟩,by dsimp only;omega,rfl,by dsimp only;omega,rfl⟩
    dsimp only;rw[eg,c3]
    show dv t A c i t.length=_
    rw[show t.length=j by omega];exact e3
  ·have ei:i=t.length:=by omega
   rw[ei]at c3;by_cases q:ay c<ay o
   ·refine⟨⟨fu,c,true⟩,⟨c2,fun _=>⟨by dsimp only;omega,?_⟩,fun h=>by cases h⟩,?_,decide_eq_true q,rfl⟩
    ·dsimp only;rw[o4,eO,c3];simp only;rw[if_pos q]
    ·dsimp only;first|omega|(simp;done)|(simp;omega)
   ·refine⟨⟨fu,c,false⟩,⟨c2,fun h=>(by cases h),fun _=>?_⟩,?_,decide_eq_false q,rfl⟩
    ·dsimp only;rw[o4,eO,c3];simp only;rw[if_neg q]
    ·dsimp only;first|omega|(simp;done)|(simp;omega)
 ·rw[dK,o3 hg];exact⟨rfl,rfl⟩
theorem K7:Fits Tryz.prog 190 ⟨[],vr⟩:=by
 refine bf (Γ:=aj Dw) (aD rp (aD DF (aD Me aW))) Tryz.func190 fun ds p h hp=>?_
 unfold vr at h;split at h
 ·cases h
  exact⟨am,Dv _ _ _ ,by rw[K5];exact K6 _ _ _  hp⟩
 ·cases h
end Go.Sx
end
