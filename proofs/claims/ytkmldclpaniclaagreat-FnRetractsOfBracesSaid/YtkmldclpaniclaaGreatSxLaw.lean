/- SxLaw -/
import Derived.Test.YtkmldclpaniclaaGreatRetP
import Derived.Test.YtkmldclpaniclaaGreatRetB
import Derived.Test.YtkmldclpaniclaaGreatNamD
import Derived.Test.YtkmldclpaniclaaGreatSxZ
import Derived.ProofKit
import Derived.OpenShut
import Derived.Lib.SmallJoins
import Derived.Deep.Matrix
set_option linter.unusedSimpArgs false
set_option linter.unusedVariables false
set_option linter.defProp false
set_option linter.unusedSectionVars false
section
open Go Go.Proofs
namespace Go.Sx
theorem qX{n:Nat}{f:Nat->Nat->Int}{x y:Nat}(hx:x<n)(hy:y<n):en (bq n f) x y=f x y:=by
 unfold en;rw[fG _ _ _ hx,cj _ _ _ hy]
theorem ZT{n:Nat}{f:Nat->Nat->Int}:bq n f=bq n fun x y=>en (bq n f) x y:=iZ fun x y hx hy=>(qX hx hy).symm
theorem PA(t:Dc)(cl:Db):quo t cl=bq (aV cl cl.length).length fun x y=>en (quo t cl) x y:=ZT
def kT(a c:Dc)(x y:Nat):Nat:=(gD a c x y).toNat
def qY(a c:Dc)(x y:Nat):Nat:=(vB a c x y).toNat
theorem nq{a c:Dc}(B:dK a c):BrV a.length (tA a) (tA c) (fun x=>(bk a x).toNat) (fun x=>(bk c x).toNat) (kT a c) (qY a c):=by
 obtain⟨g1,g2,e,_⟩:=jc (uA B);exact⟨B.2.2.2,(lE g1).2.2.2,by rw[e];exact(lE g2).2.2.2,fun x y hx hy=>rfl,fun x y hx hy=>rfl⟩
section
variable {a c:Dc} (B:dK a c)
include B
theorem ka{x y:Nat}(hx:x<a.length)(hy:y<a.length):en (aS a c) x y=(kT a c x y:Int)/\kT a c x y<a.length:=by
 have V:=nq B
 have l:=V.sl hx hy
 obtain⟨g1,_⟩:=jc (uA B);have i:=((lE g1).2.2.2 x hx).1
 have C:=V.b.cin x y hx hy
 have h:=(gL B.1 (x:=(bk a x).toNat) (y:=tA c x y) i C).2
 refine⟨?_,l⟩
 rw[aS,qX hx hy]
 show en a (bk a x).toNat (tA c x y)=_
 rw[h];rfl
theorem ju{x y:Nat}(hx:x<a.length)(hy:y<a.length):en (bz a c) x y=(qY a c x y:Int)/\qY a c x y<a.length:=by
 have V:=nq B
 have k:=V.sl hx hy
 have i:=(V.m1 _ k).1
 have C:=V.b.cin x y hx hy
 have hl:=B.2.2.1
 have h:=(gL B.2.1 (x:=(bk c (kT a c x y)).toNat) (y:=tA c x y) (by omega) (by omega)).2
 refine⟨?_,V.rl hx hy⟩
 rw[bz,qX hx hy]
 show en c (bk c (kT a c x y)).toNat (tA c x y)=_
 rw[h];rfl
theorem nr:(aS a c).length=a.length:=fb _ _
theorem xe:(bz a c).length=a.length:=fb _ _
theorem xf:ba a.length (aS a c):=⟨fb _ _,fun x hx=>⟨by rw[aS,fG _ _ _ hx,bK],fun y hy=>by have:=ka B hx hy;omega⟩⟩
theorem PB:ba a.length (bz a c):=⟨fb _ _,fun x hx=>⟨by rw[bz,fG _ _ _ hx,bK],fun y hy=>by have:=ju B hx hy;omega⟩⟩
theorem PD:SoOk (aS a c) (bz a c):=by
 have V:=nq B
 obtain⟨n1,n2,_⟩:=bT B.1;have l1:=nr B
 have l2:=xe B
 have E:=fun {x y:Nat} (hx:x<a.length) (hy:y<a.length)=>(ka B hx hy).1
 have S:=fun {x y:Nat} (hx:x<a.length) (hy:y<a.length)=>(ju B hx hy).1
 refine⟨?_,fun x y u v hx hy hu hv e k=>?_,fun x y z hx hy hz=>?_⟩
 ·rw[eC,uy (xf B) n1 n2,uy (PB B) n1 n2,AY (by rw[l1,l2])];rfl
 ·rw[l1]at hx hy hu hv
  rw[E hx hy,E hu hv]at e;rw[S hx hy,S hu hv]at k;exact V.inj hx hy hu hv (by omega) (by omega)
 ·rw[l1]at hx hy hz
  have k:=V.sl hx hy
  have l:=V.rl hx hy
  have m:=V.sl l hz
  have p:=V.sl hy hz
  have q:=V.rl hy hz
  have e:=V.rl hx p
  rw[E hx hy,S hx hy,E hy hz,S hy hz];simp only[AP];rw[E l hz,E hx p,S hx p,S l hz];simp only[AP];rw[E k m,S k m,E e q,S e q,V.e1 hx hy hz,V.e2 hx hy hz,V.e3 hx hy hz];exact⟨rfl,rfl,rfl⟩
theorem ZU:RegP (aS a c) (bz a c):=by
 have V:=nq B
 have l2:=xe B
 refine⟨PD B,?_,?_⟩
 ·rw[og,AM]
  intro x hx
  have hx:x<a.length:=by rw[<-nr B];simpa using hx
  have tb:=(xf B).2 x hx
  refine EB tb.1 tb.2 fun y z hy hz e=>?_
  have e1:=(ka B hx hy).1
  have e2:=(ka B hx hz).1
  unfold en at e1 e2;exact V.sinj hx hy hz (by omega)
 ·rw[og,AM]
  intro y hy
  have hy:y<a.length:=by rw[aT,fb,l2]at hy;simpa using hy
  have row:(aT (bz a c)).getD y []=ap a.length fun x=>en (bz a c) x y:=by rw[aT,fG _ _ _ (by omega),l2]
  rw[row];refine EB (bK _ _) (fun x hx=>?_) fun x u hx hu e=>?_
  ·rw[cj _ _ _ hx];have:=ju B hx hy;omega
  ·rw[cj _ _ _ hx,cj _ _ _ hu,(ju B hx hy).1,(ju B hu hy).1]at e
   exact V.rinj hx hu hy (by omega)
theorem PE{x y:Nat}(hx:x<a.length)(hy:y<a.length):eY (aS a c) (aT (bz a c)) x y=true↔eD a.length (tA a) (tA c) x y:=by
 have V:=nq B
 have l2:=xe B
 have r1:=fun x hx=>((xf B).2 x hx).1
 have row:∀y,y<a.length->(aT (bz a c)).getD y []=ap a.length fun x=>en (bz a c) x y:=fun y hy=>by rw[aT,fG _ _ _ (by omega),l2]
 rw[mH,<-V.alk_iff hx hy,row x hx,row y hy]
 constructor
 ·rintro⟨h,k⟩
  refine⟨fun z hz=>?_,fun z hz=>?_⟩
  ·have e1:=(ka B hx hz).1
   have e2:=(ka B hy hz).1
   unfold en at e1 e2;rw[h]at e1;omega
  ·have e:=A8 (fun l:Db=>l.getD z 0) k
   simp only[cj _ _ _ hz]at e;rw[(ju B hz hx).1,(ju B hz hy).1]at e;omega
 ·rintro⟨h,k⟩
  refine⟨lA (by rw[r1 x hx,r1 y hy]) fun z hz=>?_,lA (by rw[bK,bK]) fun z hz=>?_⟩
  ·rw[r1 x hx]at hz
   have e1:=(ka B hx hz).1
   have e2:=(ka B hy hz).1
   unfold en at e1 e2;rw[e1,e2,h z hz]
  ·rw[bK]at hz
   rw[cj _ _ _ hz,cj _ _ _ hz,(ju B hz hx).1,(ju B hz hy).1,k z hz]
theorem ZV{x:Nat}(hx:x<a.length):cC (aS a c) (aT (bz a c)) x=lb a (am a c) x:=by
 obtain⟨_,f2,f3,f4⟩:=wc B hx;have hle:=Fv (aS a c) (aT (bz a c)) x
 have ge:lb a (am a c) x<=cC (aS a c) (aT (bz a c)) x:=by
  by_cases h:cC (aS a c) (aT (bz a c)) x<x
  ·have hl:(List.range x).findIdx (eY (aS a c) (aT (bz a c)) x)<(List.range x).length:=by rw[Bj];exact h
   have q:=Cd (p:=eY (aS a c) (aT (bz a c)) x) (xs:=List.range x) (w:=hl)
   rw[Bw]at q;exact f4 _ ((PE B hx (by omega)).1 q)
  ·omega
 by_cases h:lb a (am a c) x<x
 ·exact(Fw h ge).1 ((PE B hx (by omega)).2 f3)
 ·omega
theorem PF:ce (aS a c) (bz a c)=av a (am a c):=by
 rw[ce,av]
 congr 1
 have l1:=nr B
 refine lA (by rw[g6,EY,l1]) fun x hx=>?_
 rw[g6,l1]at hx;rw[mI (by omega),AA (by omega),ZV B hx,qp B hx]
theorem ZW{x y:Nat}(hx:x<a.length)(hy:y<a.length):tA (quo a (av a (am a c))) (cn a c x) (cn a c y)=cn a c (tA a x y):=by
 have hB:=B.2.2.2
 have ix:=(gM B hx).2
 have iy:=(gM B hy).2
 obtain⟨fx,ex,_⟩:=fw B ix;obtain⟨fy,ey,_⟩:=fw B iy;rw[tA,mN B B.1 rfl ix iy,AP];exact(g8 B (hB.ain _ _ fx fy) (hB.ain x y hx hy)).2 (Ou hB fx fy ((g8 B fx hx).1 ex) ((g8 B fy hy).1 ey))
theorem PG{x y:Nat}(hx:x<a.length)(hy:y<a.length):tA (quo c (av a (am a c))) (cn a c x) (cn a c y)=cn a c (tA c x y):=by
 have hB:=B.2.2.2
 have ix:=(gM B hx).2
 have iy:=(gM B hy).2
 obtain⟨fx,ex,_⟩:=fw B ix;obtain⟨fy,ey,_⟩:=fw B iy;rw[tA,mN B B.2.1 B.2.2.1 ix iy,AP];exact(g8 B (hB.cin _ _ fx fy) (hB.cin x y hx hy)).2 (Ov hB fx fy ((g8 B fx hx).1 ex) ((g8 B fy hy).1 ey))
theorem PH{X Y:Nat}(hX:X<cm a c)(hY:Y<cm a c):kT (quo a (av a (am a c))) (quo c (av a (am a c))) X Y=cn a c (kT a c (cf a c X) (cf a c Y))/\qY (quo a (av a (am a c))) (quo c (av a (am a c))) X Y=cn a c (qY a c (cf a c X) (cf a c Y)):=by
 have V:=nq B
 have W:=nq (jM B)
 rw[(iM B B.1 rfl).2]at W;obtain⟨fx,ex,_⟩:=fw B hX;obtain⟨fy,ey,_⟩:=fw B hY;have k:=V.sl fx fy
 have l:=V.rl fx fy
 have ik:=(gM B k).2
 have il:=(gM B l).2
 have p1:=ZW B fx k
 have p2:=PG B fx fy
 have p3:=PG B k l
 rw[V.xs fx fy,ex]at p1;rw[ex,ey]at p2;rw[V.pr fx fy]at p3;have h:kT (quo a (av a (am a c))) (quo c (av a (am a c))) X Y=cn a c (kT a c (cf a c X) (cf a c Y)):=W.canA hX (W.sl hX hY) ik (by rw[W.xs hX hY,p2,p1])
 refine⟨h,W.canC ik (W.rl hX hY) il ?_⟩
 have q:=W.pr hX hY
 rw[h]at q;rw[q,p2,p3]
theorem PI:quo (aS a c) (av a (am a c))=aS (quo a (av a (am a c))) (quo c (av a (am a c))):=by
 have l:=(iM B B.1 rfl).2
 have ht:=uy (xf B) B.2.2.2.pos (bT B.1).2.1
 have e:quo (aS a c) (av a (am a c))=bq (cm a c) fun X Y=>en (quo (aS a c) (av a (am a c))) X Y:=PA _ _
 rw[e]
 conv=>rhs;unfold aS
 rw[l];refine iZ fun X Y hX hY=>?_
 have q:=(ka (jM B) (x:=X) (y:=Y) (by omega) (by omega)).1
 rw[aS,qX (by omega) (by omega)]at q
 obtain⟨fx,_⟩:=fw B hX;obtain⟨fy,_⟩:=fw B hY;rw[q,(PH B hX hY).1,mN B ht (nr B) hX hY,tA,(ka B fx fy).1,AP]
theorem PJ:quo (bz a c) (av a (am a c))=bz (quo a (av a (am a c))) (quo c (av a (am a c))):=by
 have l:=(iM B B.1 rfl).2
 have ht:=uy (PB B) B.2.2.2.pos (bT B.1).2.1
 have e:quo (bz a c) (av a (am a c))=bq (cm a c) fun X Y=>en (quo (bz a c) (av a (am a c))) X Y:=PA _ _
 rw[e]
 conv=>rhs;unfold bz
 rw[l];refine iZ fun X Y hX hY=>?_
 have q:=(ju (jM B) (x:=X) (y:=Y) (by omega) (by omega)).1
 rw[bz,qX (by omega) (by omega)]at q
 obtain⟨fx,_⟩:=fw B hX;obtain⟨fy,_⟩:=fw B hY;rw[q,(PH B hX hY).2,mN B ht (xe B) hX hY,tA,(ju B fx fy).1,AP]
theorem H1:jK (aS a c,bz a c)=(aS (quo a (av a (am a c))) (quo c (av a (am a c))),bz (quo a (av a (am a c))) (quo c (av a (am a c)))):=by
 rw[jK,PF B,PI B,PJ B]
theorem xg:cm a c<=a.length:=by
 have:=kA (av a (am a c)) (av a (am a c)).length
 rw[jJ]at this;unfold cm;rw[jJ];exact this
theorem ZX(h:am a c=1):cm a c=a.length:=by
 have hB:=B.2.2.2
 have nd:((List.range a.length).map (cn a c)).Nodup:=Cn.2 (List.Pairwise.imp_of_mem (fun {x y} hx hy hne e=>hne (by
  have hx:=AW.1 hx
  have hy:=AW.1 hy
  obtain⟨t,ht,q⟩:=(g8 B hx hy).1 e;have b:=(oE B t).2 ht
  rw[h]at b;cases t with
  |zero=>rw[<-q,hB.a0r x hx]
  |succ t=>simp[bitB,Nat.testBit_succ]at b)) Bt)
 have:=pY (b:=List.range (cm a c)) nd fun X hX=>by
  obtain⟨x,hx,rfl⟩:=AT.1 hX;exact AW.2 (gM B (AW.1 hx)).2
 rw[Ae,Bj,Bj]at this;exact Nat.le_antisymm (xg B) this
end
theorem PK:∀(k:Nat) {a c:Dc},dK a c->a.length<k->jL k (aS a c,bz a c)
 |0,a,c,B,h=>by omega
 |k+1,a,c,B,h=>by
  refine⟨(PD B).pm,?_⟩
  rw[H1 B];have l:=(iM B B.1 rfl).2
  have l2:(aS (quo a (av a (am a c))) (quo c (av a (am a c)))).length=cm a c:=by rw[aS,fb,l]
  have l3:=nr B
  have le:=xg B
  by_cases e:cm a c=a.length
  ·exact .inl (by show(aS _ _).length=(aS a c).length;rw[l2,l3,e])
  ·exact .inr (PK k (jM B) (by omega))
def o8(L:Df)(v:Int):Int×Int:=if 1<((L.getD (L.length-1) ([],[])).1.length:Int)then(0,4)else(v+(L.length:Int)-1,0)
theorem PM:∀(m k:Nat) {a c:Dc} (v:Int),dK a c->a.length<m->a.length<k->dH k a c v=o8 (cp m (aS a c,bz a c)) v
 |0,_,a,c,v,B,h,_=>by omega
 |m+1,0,a,c,v,B,_,h=>by omega
 |m+1,k+1,a,c,v,B,hm,hk=>by
  have l:=(iM B B.1 rfl).2
  have l2:(aS (quo a (av a (am a c))) (quo c (av a (am a c)))).length=cm a c:=by rw[aS,fb,l]
  have l3:=nr B
  have le:=xg B
  have pos:=we B
  have stop:cm a c=a.length->cp (m+1) (aS a c,bz a c)=[(aS a c,bz a c)]:=fun e=>by
   rw[cp,H1 B,AA (by show(aS _ _).length=(aS a c).length;rw[l2,l3,e])]
  rw[dH];by_cases h1:1<a.length
  ·rw[AA h1]
   by_cases hs:am a c=1
   ·rw[AA hs,stop (ZX B hs),o8];exact(AA (show(1:Int)<((aS a c).length:Int) by omega)).symm
   ·have lt:=qq B h1 hs
    rw[AB hs,PM m k (v+1) (jM B) (by omega) (by omega)]
    have e:cp (m+1) (aS a c,bz a c)=(aS a c,bz a c)::cp m (aS (quo a (av a (am a c))) (quo c (av a (am a c))),bz (quo a (av a (am a c))) (quo c (av a (am a c)))):=by
     rw[cp,H1 B,AB (by show ¬ (aS _ _).length=(aS a c).length;rw[l2,l3];omega)]
    rw[e];generalize aS (quo a (av a (am a c))) (quo c (av a (am a c)))=F
    generalize bz (quo a (av a (am a c))) (quo c (av a (am a c)))=S
    have sl:=FO m (F,S)
    generalize cp m (F,S)=L at sl⊢
    have q:((aS a c,bz a c)::L).getD (((aS a c,bz a c)::L).length-1) ([],[])=L.getD (L.length-1) ([],[]):=by
     rw[AR,show L.length+1-1=(L.length-1)+1 by omega];rfl
    rw[o8,o8,q,AR];split
    ·rfl
    ·congr 1;omega
  ·rw[AB h1,stop (by omega),o8]
   refine Eq.trans ?_ (AB (show ¬ (1:Int)<((aS a c).length:Int) by omega)).symm
   congr 1
   show v=v+((1:Nat):Int)-1
   omega
theorem ZY{a c:Dc}(h:bM a c=true):iJ (cp 13 (aS a c,bz a c))=bR a c:=by
 have B:=oD h
 have n2:=(bT B.1).2.1
 rw[bR,AA h,PM 13 (a.length+1) 0 B (by omega) (by omega)]
 generalize cp 13 (aS a c,bz a c)=L
 rw[iJ,o8];split
 ·rfl
 ·congr 1;omega
def PN(η:Db):Bd:=dW η 0 (fK η η.length) 12
def bg(η:Db):Dc:=(PN η).1
def bh(η:Db):Dc:=(PN η).2.1
def H2:List AD->Option Post
 | [.c (.ints .u8 η)]=>some ⟨bG η/\η.length<=4096,.agg [.rows 62 2 .i64 (bg η),.ro (.rows .i64 (bh η))],[]⟩
 |_=>none
theorem Z4:Fits Tryz.prog 58 ⟨[],H2⟩:=by
 refine ffv (Γ:=af [(78,⟨[],zb⟩),(107,⟨[(0,0)],FX⟩)]) (aj SP (aj XI aG)) Tryz.func58 fun ds p h ξ=>?_
 unfold H2 at h;split at h<;>cases h
 rename_i η
 refine⟨ah,ak,((bG η/\η.length<=(4096:Nat))/\True)/\((bG η/\η.length<=(4096:Nat)/\(0:Int)<=(0:Int)/\(0:Int)<=(η.length:Int)/\(1:Int)<=(12:Int)/\(12:Int)<=(12:Int))/\η=η/\True)/\((dW η (0:Int) (fK η η.length) (12:Int)).1=bg η/\((dW η (0:Int) (fK η η.length) (12:Int)).2).1=bh η/\True)/\True,by kernel_rfl,?_⟩
 simp only[aH]at ξ⊢;obtain⟨hb,hc⟩:=ξ;exact⟨⟨hb,hc⟩,⟨hb,hc,by omega,by omega,by omega,by omega⟩,rfl,rfl⟩
def H4:List AD->Option Post
 | [.c (.ints .u8 η)]=>some ⟨bG η/\η.length<=4096,.agg [.rows 62 2 .i64 (bg η),.ro (.rows .i64 (bh η))],[]⟩
 |_=>none
theorem Z7:Fits Tryz.prog 19 ⟨[],H4⟩:=by
 refine ffv (Γ:=af [(58,⟨[],H2⟩)]) (aj Z4 aG) Tryz.func19 fun ds p h ξ=>?_
 unfold H4 at h;split at h<;>cases h
 rename_i η
 refine⟨ah,ak,((bG η/\η.length<=(4096:Nat))/\True)/\(bg η=bg η/\bh η=bh η/\True)/\True,by kernel_rfl,?_⟩
 simp only[aH]at ξ⊢;exact ξ
theorem Z8{η:Db}(hb:bG η):aD (bg η)/\aD (bh η):=by
 have A:=XF hb (JM hb (h:=fK η η.length) (a:=0) (ζ:=12) (by omega) (by omega) (by omega) (by omega)) (by decide)
 exact⟨A.1,A.2.1⟩
def H6:List AD->Option Post
 | [.agg [.rows .i64 a,.rows .i64 c],.agg [.rows .i64 b,.rows .i64 d]]=>some ⟨aD a/\aD c,.c (.bool (decide (a=b)&&decide (c=d))),[]⟩
 |_=>none
theorem aa1:Fits Tryz.prog 27 ⟨[],H6⟩:=by
 refine ffv (Γ:=af [(39,⟨[],F3⟩)]) (aj XO aG) Tryz.func27 fun ds p h ξ=>?_
 unfold H6 at h;split at h<;>cases h
 rename_i a c b d
 refine⟨ah,ak,(aD a/\True)/\ab (decide (a=b)) ((aD c/\True)/\decide (c=d)=(decide (a=b)&&decide (c=d))/\True) (false=(decide (a=b)&&decide (c=d))/\True),by kernel_rfl,?_⟩
 simp only[aH]at ξ⊢;obtain⟨ra,rc⟩:=ξ;exact⟨ra,fun e=>⟨rc,by rw[AY e,Ac]⟩,fun e=>by rw[AZ e,Bq]⟩
theorem aa2{a c:Dc}(h:(bR a c).2≠1):bM a c=true:=by
 cases hb:bM a c with
 |true=>rfl
 |false=>exact absurd (by rw[bR,AB (by rw[hb];decide)]) h
theorem aa3{a c:Dc}(h:bM a c=true):dJ a c (am a c)=((quo a (av a (am a c)),quo c (av a (am a c))),0):=by
 have B:=oD h
 have S:=oC B.1 c
 have pn:(1*(2:Int) ^ a.length)=((2 ^ a.length:Nat):Int):=by rw[B8,Bv];rfl
 have st:gg a c (am a c)=0:=by
  rw[gg,AA h,AA];have s1:=S.2.1
  have s2:=S.2.2
  rw[pn];omega
 have i:=(XV B (XY B)).2.1
 rw[dJ,AA st,AA i]
def xk(η:Db):Post:=⟨bG η,.c (.bool true),[]⟩
def H8:List AD->Option Post
 | [.c (.ints .u8 η)]=>some (xk η)
 |_=>none
def PR:List (Nat×Ctr):=[(18,⟨[],FR⟩),(19,⟨[],H4⟩),(20,⟨[],Dt⟩),(21,⟨[],Dv⟩),(22,⟨[],FG⟩),(23,⟨[],FK⟩),(24,⟨[],FZ⟩),(25,⟨[],Gb⟩),(26,⟨[],FP⟩),(27,⟨[],H6⟩)]
def H9(η:Db):Prop :=
 ((True/\True)/\(ab (decide ((4096:Int)<(↑(η.length):Int))) ((true=true)/\True) ((((bG η)/\(η.length<=(4096:Nat)))/\True)/\((((aD (bg η))/\(aD (bh η)))/\True)/\((((aD (bg η))/\(aD (bh η)))/\True)/\(ab ((bR (bg η) (bh η)).2 != (bR (bg η) (bh η)).2) ((false=true)/\True) (ab ((bR (bg η) (bh η)).1 != (bR (bg η) (bh η)).1) ((false=true)/\True) (ab ((bR (bg η) (bh η)).2 == (1:Int)) ((true=true)/\True) ((((aD (bg η))/\((aD (bh η))/\(bM (bg η) (bh η)=true)))/\True)/\((((aD (aS (bg η) (bh η)))/\((aD (bz (bg η) (bh η)))/\(RegP (aS (bg η) (bh η)) (bz (bg η) (bh η)))))/\True)/\((((aD (bg η))/\(aD (bh η)))/\True)/\((((aD (bg η))/\(aD (bh η)))/\True)/\((((aD (((dJ (bg η) (bh η) (if bM (bg η) (bh η)=true then am (bg η) (bh η)else(0:Int))).1).1))/\((aD (((dJ (bg η) (bh η) (if bM (bg η) (bh η)=true then am (bg η) (bh η)else(0:Int))).1).2))/\(bM (((dJ (bg η) (bh η) (if bM (bg η) (bh η)=true then am (bg η) (bh η)else(0:Int))).1).1) (((dJ (bg η) (bh η) (if bM (bg η) (bh η)=true then am (bg η) (bh η)else(0:Int))).1).2)=true)))/\True)/\((((aD (aS (bg η) (bh η)))/\((aD (bz (bg η) (bh η)))/\((RegP (aS (bg η) (bh η)) (bz (bg η) (bh η))) /\
 (jL (13:Nat) (aS (bg η) (bh η),bz (bg η) (bh η))))))/\True)/\(ab ((if bM (bg η) (bh η)=true then(0:Int)else(1:Int)) == (0:Int)) (ab ((dJ (bg η) (bh η) (if bM (bg η) (bh η)=true then am (bg η) (bh η)else(0:Int))).2 == (0:Int)) (ab (decide ((0:Int)<(↑((aS (bg η) (bh η)).length):Int))) ((((aD (quo (aS (bg η) (bh η)) (ce (aS (bg η) (bh η)) (bz (bg η) (bh η)))))/\(aD (quo (bz (bg η) (bh η)) (ce (aS (bg η) (bh η)) (bz (bg η) (bh η))))))/\True)/\(ab (decide (quo (aS (bg η) (bh η)) (ce (aS (bg η) (bh η)) (bz (bg η) (bh η)))=aS (((dJ (bg η) (bh η) (if bM (bg η) (bh η)=true then am (bg η) (bh η)else(0:Int))).1).1) (((dJ (bg η) (bh η) (if bM (bg η) (bh η)=true then am (bg η) (bh η)else(0:Int))).1).2))&&decide (quo (bz (bg η) (bh η)) (ce (aS (bg η) (bh η)) (bz (bg η) (bh η)))=bz (((dJ (bg η) (bh η) (if bM (bg η) (bh η)=true then am (bg η) (bh η)else(0:Int))).1).1) (((dJ (bg η) (bh η) (if bM (bg η) (bh η)=true then am (bg η) (bh η)else(0:Int))).1).2))) (ab ((iJ (cp (13:Nat) (aS (bg η) (bh η),bz (bg η) (bh η)))).2 == (bR (bg η) (bh η)).2)
 ((((iJ (cp (13:Nat) (aS (bg η) (bh η),bz (bg η) (bh η)))).1 == (bR (bg η) (bh η)).1)=true)/\True) ((false=true)/\True)) ((false=true)/\True))) ((false=true)/\True)) ((false=true)/\True)) ((false=true)/\True))))))))))))))))
theorem aa4(η:Db):aE Tryz.prog (af PR) ah ak Tryz.f4 (aF Tryz.f4) [] [.c (.ints .u8 η)] (xk η)=H9 η:=by kernel_rfl
theorem aa5(η:Db)(ξ:(xk η).pre):H9 η:=by
 simp only[xk,H9,aH]at ξ⊢;obtain⟨ra,rc⟩:=Z8 ξ;refine⟨fun _=>trivial,fun hlen=>⟨⟨ξ,by omega⟩,⟨ra,rc⟩,⟨ra,rc⟩,fun h=>absurd rfl h,fun _=>⟨fun h=>absurd rfl h,fun _=>⟨fun _=>trivial,fun h1=>?_⟩⟩⟩⟩
 generalize bg η=a at *
 generalize bh η=c at *
 have hb:=aa2 h1
 have B:=oD hb
 have n2:=(bT B.1).2.1
 have pos:=B.2.2.2.pos
 have l:=nr B
 have K:=ZU B
 have r1:aD (aS a c):=pC _ _ (by omega)
 have r2:aD (bz a c):=pC _ _ (by omega)
 have q1:=(Oo a (av a (am a c)) (by rw[jJ];exact n2)).1
 have q2:=(Oo c (av a (am a c)) (by rw[jJ];exact n2)).1
 have le:=xg B
 have ql:=(iM B B.1 rfl).2
 have s1:aD (aS (quo a (av a (am a c))) (quo c (av a (am a c)))):=pC _ _ (by omega)
 have s2:aD (bz (quo a (av a (am a c))) (quo c (av a (am a c)))):=pC _ _ (by omega)
 simp only[AA hb];rw[aa3 hb,ZY hb,PF B,PI B,PJ B];refine⟨⟨ra,rc,hb⟩,⟨r1,r2,K⟩,⟨ra,rc⟩,⟨ra,rc⟩,⟨q1,q2,uA (jM B)⟩,⟨r1,r2,K,PK 13 B (by omega)⟩,fun _=>⟨fun _=>⟨fun _=>⟨⟨s1,s2⟩,fun _=>⟨fun _=>rfl,fun h=>absurd rfl h⟩,fun h=>?_⟩,fun h=>?_⟩,fun h=>absurd rfl h⟩,fun h=>absurd rfl h⟩
 ·simp at h
 ·omega
theorem aa6:Fits Tryz.prog 4 ⟨[],H8⟩:=by
 refine aI (Γ:=af PR) (aj XB (aj Z7 (aj UK (aj UN (aj Xi (aj Xr (aj XL (aj Ym (aj Xy (aj aa1 aG)))))))))) Tryz.func4 fun ds p h hp=>?_
 unfold H8 at h;split at h
 ·cases h
  exact⟨ah,ak,by rw[aa4];exact aa5 _  hp⟩
 ·cases h
end Go.Sx
end
section
namespace Go.Sx
open Go.ChangeShapes Go.WideShapes Go.ChangeAt Go.RowKit Go.ChangeMaps Go.Deep
section
variable {H:Type} {enc:TypeId×Value->H} {P:Program} {W:World}
def PS(P:Program)(W:World)(t:TypeId)(v:Value)(d:FC):Prop:=v.oneCell'=true/\bp W v d
theorem wf_u8'{n:Int}(h:(Lit.int .u8 n).wf=true):0<=n/\n<=255:=by
 simp only[Lit.wf,AG,AQ]at h;exact h
theorem aa7{t e:TypeId}{fuel:Nat}{v:Value}{x:DataW H×List MemPlace}(ht:P.underlying t=some (.slice e))(he:P.underlying e=some (.int .u8))(hc:P.cellsOf e=1)
  (h:DataW.trod enc P W 0 (fun _=>true) true fuel t [v]=some x):∃l:Db,l.length<=maxLen/\(∀n∈l,0<=n/\n<=255)/\PS P W t v (.ints .u8 l):=by
 rcases open_ints ht he hc h with⟨h1,_⟩|⟨a,len,cap,zs,h1,_,hl,hm,hz,_,hcell,hw⟩
 ·simp only[List.cons.injEq,Be]at h1
  subst h1;exact⟨[],Ad _,by simp,rfl,none,0,rfl,AE _,fun h=>by simp at h⟩
 ·simp only[List.cons.injEq,Be]at h1
  subst h1;simp only[AV]at hz;have hlen:(zs.take len).length=len:=by simp;omega
  refine⟨zs.take len,by rw[hlen];omega,fun n hn=>wf_u8' (hw n (List.mem_of_mem_take hn)),rfl,some a,cap,by rw[hlen],by rw[hlen];exact hl,fun hpos=>?_⟩
  rw[hlen]at hpos;obtain⟨b,off,spot⟩:=a;have hs:spot=none:=by simpa[Addr.add]using World.cell?_spot (hcell 0 (by omega))
  subst hs;refine⟨b,off,rfl,fun i hi=>?_⟩
  rw[hlen]at hi;refine⟨_,by rw[<-add_plain];exact hcell i (by omega),?_⟩
  simp[AN,Au,hi]
theorem aa8{t:TypeId}{v:Value}{d:FC}(h:PS P W t v d)(i:Nat):dh P W [] [] [] i (.c d) v:=⟨h.1,h.2⟩
theorem aa9{t:TypeId}{v:Value}{d:DataW H}{p:List MemPlace}(h1:v.cells.toList=[v])(h:DataW.Trod enc P W 0 (fun _=>true) true t v d p):∃n,DataW.trod enc P W 0 (fun _=>true) true n t [v]=some (d,p):=by
 obtain⟨n,hn⟩:=h;exact⟨n,by rw[<-h1];exact hn⟩
theorem PT(hl:laidOutB P=true){W':World}(hb:Below W.heap.size W W'):∀{ts:List TypeId} {vs:List Value} {ds:List (DataW H)} {p:List MemPlace},(∀t∈ts,P.readableRec t=true/\t<P.types.size) ->
  DataW.TrodAll enc P W 0 (fun _=>true) true ts vs ds p->(∀x∈p,x.block<W.heap.size)->DataW.TrodAll enc P W' 0 (fun b=>decide (b<W.heap.size)) true ts vs ds p
 | [],[],[],p,_,h,_=>h
 |t::ts,v::vs,d::ds,p,ht,h,ψ=>by
  obtain⟨p1,p2,h1,h2,rfl⟩:=h;exact⟨p1,p2,Below.trod hl (ht t (by simp)).1 (ht t (by simp)).2 h1 hb (fun x hx=>ψ x (by simp[hx])),PT hl hb (fun t' h'=>ht t' (by simp[h'])) h2 (fun x hx=>ψ x (by simp[hx])),rfl⟩
 | [],[],_::_,_,_,h,_=>h.elim
 | [],_::_,[],_,_,h,_=>h.elim
 | [],_::_,_::_,_,_,h,_=>h.elim
 |_::_,[],[],_,_,h,_=>h.elim
 |_::_,[],_::_,_,_,h,_=>h.elim
 |_::_,_::_,[],_,_,h,_=>h.elim
theorem PU{W:World}{base:Nat}{sp:Nat->Bool}{hd:Bool}:∀{ts:List TypeId} {vs:List Value} {ds:List (DataW H)} {p:List MemPlace},DataW.TrodAll enc P W base sp hd ts vs ds p->vs.length=ts.length/\ds.length=ts.length
 | [],[],[],_,_=>⟨rfl,rfl⟩
 |t::ts,v::vs,d::ds,p,h=>by
  obtain⟨p1,p2,_,h2,_⟩:=h;have:=PU h2
  simp[this.1,this.2]
 | [],[],_::_,_,h=>h.elim
 | [],_::_,[],_,h=>h.elim
 | [],_::_,_::_,_,h=>h.elim
 |_::_,[],[],_,h=>h.elim
 |_::_,[],_::_,_,h=>h.elim
 |_::_,_::_,[],_,h=>h.elim
end
theorem ab0{C:Checked}{os:Os}{H:Type}{enc:TypeId×Value->H}{f:FuncId}{fn:Func}{s:ChangeSpec}{conds:List PathCond}{l7 handsOn:Bool}{tb:TypeId}
  (own:ownKnob C.prog.godebug=none)(started:os.Started)(noInit:C.prog.inits.idxOf? f=none)(hfn:C.prog.funcs[f]?=some fn)(hlaid:laidOutB C.prog=true)
  (hvars:s.vars=[])(hrd:∀t∈fn.params.toList,C.prog.readableRec t=true/\t<C.prog.types.size)(hres:fn.resultTypes=#[tb])(htb:C.prog.underlying tb=some .bool)
  (hspec:∀ds:List (DataW H),ds.length=fn.params.toList.length->s.fn H ds={ results:=[.lit (.bool true)],args:=ds,vars:=[] })
  (witness:∃(w:World) (tape:Tape) (i:Input),w.os=os/\(w.forCall tape i).Shaped C.prog/\i.vars=[]/\Input.okWide C.prog (w.forCall tape i) .any w.heap.size f i /\
   s.pre6 enc C.prog fn conds false (w.forCall tape i).memory i.args/\({}:Assume).holds C.prog (lone (Frame.enter C.prog f i.args .normal) [] (w.forCall tape i)))
  {ct:List AD->Option Post}(fits:Fits C.prog f ⟨[],ct⟩)
  (hopen:∀(W:World) (base:Nat) (vs:List Value) (ds:List (DataW H)) (p:List MemPlace),DataW.TrodAll enc C.prog W 0 (fun _=>true) true fn.params.toList vs ds p ->
   (∀(j:Nat) t v,fn.params[j]?=some t->vs[j]?=some v->Value.okWide C.prog W .any base t v) ->
   ∃(ads:List AD) (pre:Prop),ct ads=some ⟨pre,.c (.bool true),[]⟩/\pre/\vs.length=ads.length/\∀(i:Nat) (d:AD),ads[i]?=some d->∃v,vs[i]?=some v/\dh C.prog W [] [] [] i d v) :
  ReturnsInHanded {} C os f .any (s.pre6 enc C.prog fn conds false) (s.post enc C.prog fn false l7 handsOn false):=by
 refine returnsInHanded_of_change own started noInit hfn witness ?_
 intro W base args ds gs before hval hW _ _
 have hW':=hW
 obtain⟨p,q,hA,hV,rfl,hfz,hnd⟩:=hW;rw[hvars]at hV;obtain⟨rfl,rfl⟩:=trodVars_none hV;obtain⟨ads,pre,h1,h2,h3,h4⟩:=hopen W base args.toList ds p hA (fun j t v ht hv=>hval j t v ht (by simpa using hv))
 have ω:=fits.run W W args.toList ads _ [] [] h1 h2 h3 rfl rfl rfl (by simp) (by simp) (by simp) (fun q u hq=>⟨hq,by simp⟩) h4
 refine ω.mono fun e W' ⟨v,ms',img,wG,he,haft,hms,_,_,hret⟩=>?_
 subst he;have hv:v=.bool true:=hret.val
 subst hv;have hB:Below W.heap.size W W':=haft.below
 have ψ:∀x∈p,x.block<W.heap.size:=fun x hx=>by simpa using hW'.lt x (by simp[hx])
 have hsp:=hspec ds (PU hA).2
 refine⟨_,rfl,ds,[],p++[],[],p,[],hW',?_,?_,?_,hB.frame _,fun h=>by cases h⟩
 ·rw[Af,hsp,hres]
  exact trodAll_cons_mk (shut_bool htb _) trodAll_mk0
 ·rw[Af,hsp]
  exact PT hlaid hB hrd hA ψ
 ·rw[Af,hsp,hvars]
  rfl
end Go.Sx
end
