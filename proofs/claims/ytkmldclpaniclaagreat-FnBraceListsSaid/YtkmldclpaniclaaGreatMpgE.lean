/- MpgE -/
import Derived.Test.YtkmldclpaniclaaGreatGrpC
import Derived.Test.YtkmldclpaniclaaGreatMpgL
import Derived.Test.YtkmldclpaniclaaGreatTable
set_option linter.unusedSimpArgs false
set_option linter.unusedVariables false
set_option linter.defProp false
open Go Go.Proofs
namespace Go.Sx
def GW(n:Nat)(fr tt:D8)(s:MS):Prop:=qM n fr tt s/\MI n s
def PQ(d:Nat)(fr:D8)(tt:D8)(im:D6)(us:List Bool)(st:D6)(Y:YJ)(pre:D7):SV:=.c (.bool ((bh Y.go pre (bR fr tt d (im,us,st))).2))
def PR(d:Nat)(fr:D8)(tt:D8)(im:D6)(us:List Bool)(st:D6)(Y:YJ)(pre:D7):List MA:=[.box [.c (.r3 .i64 fr),.c (.r3 .i64 tt),.ob (.ints 2 .i64 im),.ob (.bools 4 us),.ob (.ints 2 .i64 st)],.m (.ob (.yd ((bh Y.go pre (bR fr tt d (im,us,st))).1.length-pre.length) Y (bh Y.go pre (bR fr tt d (im,us,st))).1 (bh Y.go pre (bR fr tt d (im,us,st))).2))]
def PS(d:Nat)(fr:D8)(tt:D8)(im:D6)(us:List Bool)(st:D6)(Y:YJ)(pre:D7):List (Nat×Ob):=[]
def pf(d:Nat)(fr:D8)(tt:D8)(im:D6)(us:List Bool)(st:D6)(Y:YJ)(pre:D7):Post:=⟨GW im.length fr tt (im,us,st)/\cJ im<d/\Y.P=Tryz.prog/\Y.e=2/\eJ Y.ok Y.go pre (bR fr tt d (im,us,st)),.st (PQ d fr tt im us st Y pre) (PS d fr tt im us st Y pre) (PR d fr tt im us st Y pre),[]⟩
def pg(d:Nat):List AD->Option Post
 | [.ma (.box [.c (.r3 .i64 fr),.c (.r3 .i64 tt),.ob (.ints 2 .i64 im),.ob (.bools 4 us),.ob (.ints 2 .i64 st)]),.ma (.m (.ob (.yd 0 Y pre true)))]=>some (pf d fr tt im us st Y pre)
 |_=>none
def PT(d:Nat)(fr:D8)(tt:D8)(im:D6)(us:List Bool)(st:D6)(Y:YJ)(pre:D7):Nat->Option Ann
 |0=>some (Ann.mk ((Nat)×(Nat)×(D7)) (λx=>match x with|(v,k,pr)=>⟨[(0,M' 7000),(1,J' 7100),(5,A' (bm (-1) im 0)),(6,A' st.length),(31,A' im.length),(32,A' v)],[(7000,P' [.ro (.r3 .i64 fr),.ro (.r3 .i64 tt),.own 7003,.own 7004,.own 7005]),(7003,O' im),(7004,some (.bools 4 us)),(7005,O' st),(7100,some (.yd k Y pr true))]⟩) (λx=>match x with|(v,k,pr)=>v<=im.length/\k+pre.length=pr.length/\bh Y.go pr (gv fr tt (bR fr tt (d-1)) (im,us,st) (bm (-1) im 0) (im.length-v) v)=bh Y.go pre (bR fr tt d (im,us,st))/\eJ Y.ok Y.go pr (gv fr tt (bR fr tt (d-1)) (im,us,st) (bm (-1) im 0) (im.length-v) v)) (λx=>match x with|(v,k,pr)=>im.length-v) (λ_=>ar))
 |_=>none
def PU(d:Nat):List (Nat×Ctr):=[(179,⟨[],vr⟩),(180,⟨[(0,93),(0,93)],o6 101⟩),(181,⟨[(0,93),(0,93)],vo⟩),(130,⟨[(0,93),(0,93)],pg d⟩)]
def eI(fr:D8)(tt:D8)(im:D6)(us:List Bool)(st:D6)(x0:Nat×Nat×D7):=((aU fr tt (101:Nat) (bm (-1:Int) im (0:Int)) (↑x0.1:Int) (im,us,st)).2)
def jm(d:Nat)(fr:D8)(tt:D8)(im:D6)(us:List Bool)(st:D6)(x0:Nat×Nat×D7):=(gv fr tt (bR fr tt (d+(1:Nat)-(1:Nat))) (im,us,st) (bm (-1:Int) im (0:Int)) (im.length-x0.1) x0.1)
def nj(fr:D8)(tt:D8)(im:D6)(us:List Bool)(st:D6)(x0:Nat×Nat×D7):=(dU (List.drop ((↑(st.length):Int).toNat) (((eI fr tt im us st x0).2).2)) (eI fr tt im us st x0).1 (((eI fr tt im us st x0).2).1))
def kS(fr:D8)(tt:D8)(im:D6)(us:List Bool)(st:D6)(x0:Nat×Nat×D7):=((eI fr tt im us st x0).1,((eI fr tt im us st x0).2).1,((eI fr tt im us st x0).2).2)
def GX(d:Nat)(fr:D8)(tt:D8)(im:D6)(us:List Bool)(st:D6)(Y:YJ)(pre:D7):Prop :=
 (im.length<=(1099511627776:Nat)/\True)/\ab (decide (bm (-1:Int) im (0:Int)<(0:Int))) ((YJ.P Y=Go.Proofs.Tryz.prog/\YJ.e Y=(2:Nat)/\true=true/\YJ.ok Y pre im)/\YJ.go Y pre im=(bh (YJ.go Y) pre (bR fr tt (d+(1:Nat)) (im,us,st))).2/\fr=fr/\tt=tt/\im=im/\us=us/\st=st/\(1:Nat)=((bh (YJ.go Y) pre (bR fr tt (d+(1:Nat)) (im,us,st))).1).length-pre.length/\Y=Y/\pre++im::([]:D7)=(bh (YJ.go Y) pre (bR fr tt (d+(1:Nat)) (im,us,st))).1/\YJ.go Y pre im=(bh (YJ.go Y) pre (bR fr tt (d+(1:Nat)) (im,us,st))).2) ((∃x0:Nat×Nat×D7,(x0.1<=im.length/\x0.2.1+pre.length=(x0.2.2).length/\bh (YJ.go Y) x0.2.2 (jm d fr tt im us st x0)=bh (YJ.go Y) pre (bR fr tt (d+(1:Nat)) (im,us,st))/\eJ (YJ.ok Y) (YJ.go Y) x0.2.2 (jm d fr tt im us st x0))/\bm (-1:Int) im (0:Int)=bm (-1:Int) im (0:Int)/\(st.length:Int)=(st.length:Int)/\(im.length:Int)=(im.length:Int)/\(0:Int)=(↑x0.1:Int)/\fr=fr/\tt=tt/\im=im/\us=us/\st=st/\(0:Nat)=x0.2.1/\Y=Y/\pre=x0.2.2/\true=true)/\∀x1:Nat×Nat×D7,x1.1<=im.length/\x1.2.1+pre.length=(x1.2.2).length/\bh (YJ.go Y) x1.2.2 (jm d fr tt im us st x1)=bh (YJ.go Y) pre (bR fr tt (d+(1:Nat)) (im,us,st))/\eJ (YJ.ok Y) (YJ.go Y) x1.2.2 (jm d fr tt im us st x1)->ab (decide ((↑x1.1:Int)<(im.length:Int))) (ac (↑x1.1:Int) us.length/\ab (us.getD (↑x1.1:Int).toNat false) (ae ((↑x1.1:Int)+(1:Int))/\∃x2:Nat×Nat×D7,(x2.1<=im.length/\x2.2.1+pre.length=(x2.2.2).length/\bh (YJ.go Y) x2.2.2 (jm d fr tt im us st x2)=bh (YJ.go Y) pre (bR fr tt (d+(1:Nat)) (im,us,st))/\eJ (YJ.ok Y) (YJ.go Y) x2.2.2 (jm d fr tt im us st x2))/\im.length-x2.1<im.length-x1.1/\bm (-1:Int) im (0:Int)=bm (-1:Int) im (0:Int)/\(st.length:Int)=(st.length:Int)/\(im.length:Int)=(im.length:Int)/\(↑x1.1:Int)+(1:Int)=(↑x2.1:Int)/\fr=fr/\tt=tt/\im=im/\us=us/\st=st/\x1.2.1=x2.2.1/\Y=Y/\x1.2.2=x2.2.2/\true=true) ((qM im.length fr tt (im,us,st)/\cJ im<(101:Nat)/\(0:Int)<=bm (-1:Int) im (0:Int)/\bm (-1:Int) im (0:Int)<(im.length:Int)/\(0:Int)<=(↑x1.1:Int)/\(↑x1.1:Int)<(im.length:Int))/\ab ((aU fr tt (101:Nat) (bm (-1:Int) im (0:Int)) (↑x1.1:Int) (im,us,st)).1) ((GW (((eI fr tt im us st x1).1).length) fr tt (kS fr tt im us st x1)/\cJ (eI fr tt im us st x1).1<d/\YJ.P Y=Go.Proofs.Tryz.prog/\YJ.e Y=(2:Go.TypeId)/\eJ (YJ.ok Y) (YJ.go Y) x1.2.2 (bR fr tt d (kS fr tt im us st x1)))/\((0:Int)<=(st.length:Int)/\(st.length:Int)<=(↑((((eI fr tt im us st x1).2).2).length):Int)/\(((eI fr tt im us st x1).2).2).length<=(1000:Nat)/\jS (List.drop ((st.length:Int).toNat) (((eI fr tt im us st x1).2).2)) (eI fr tt im us st x1).1 (((eI fr tt im us st x1).2).1))/\ab (!(bh (YJ.go Y) x1.2.2 (bR fr tt d (((aU fr tt (101:Nat) (bm (-1:Int) im (0:Int)) (↑x1.1:Int) (im,us,st)).2).1,(((aU fr tt (101:Nat) (bm (-1:Int) im (0:Int)) (↑x1.1:Int) (im,us,st)).2).2).1,(((aU fr tt (101:Nat) (bm (-1:Int) im (0:Int)) (↑x1.1:Int) (im,us,st)).2).2).2))).2) (false=(bh (YJ.go Y) pre (bR fr tt (d+(1:Nat)) (im,us,st))).2/\fr=fr/\tt=tt/\(nj fr tt im us st x1).1=im/\(nj fr tt im us st x1).2=us/\List.take ((st.length:Int).toNat) (((eI fr tt im us st x1).2).2)=st/\x1.2.1+(((bh (YJ.go Y) x1.2.2 (bR fr tt d (kS fr tt im us st x1))).1).length-x1.2.2.length)=((bh (YJ.go Y) pre (bR fr tt (d+(1:Nat)) (im,us,st))).1).length-pre.length/\Y=Y/\(bh (YJ.go Y) x1.2.2 (bR fr tt d (kS fr tt im us st x1))).1=(bh (YJ.go Y) pre (bR fr tt (d+(1:Nat)) (im,us,st))).1/\(bh (YJ.go Y) x1.2.2 (bR fr tt d (kS fr tt im us st x1))).2=(bh (YJ.go Y) pre (bR fr tt (d+(1:Nat)) (im,us,st))).2) (ae ((↑x1.1:Int)+(1:Int))/\∃x3:Nat×Nat×D7,(x3.1<=im.length/\x3.2.1+pre.length=(x3.2.2).length/\bh (YJ.go Y) x3.2.2 (jm d fr tt im us st x3)=bh (YJ.go Y) pre (bR fr tt (d+(1:Nat)) (im,us,st))/\eJ (YJ.ok Y) (YJ.go Y) x3.2.2 (jm d fr tt im us st x3))/\im.length-x3.1<im.length-x1.1/\bm (-1:Int) im (0:Int)=bm (-1:Int) im (0:Int)/\(st.length:Int)=(st.length:Int)/\(im.length:Int)=(im.length:Int)/\(↑x1.1:Int)+(1:Int)=(↑x3.1:Int)/\fr=fr/\tt=tt/\(nj fr tt im us st x1).1=im/\(nj fr tt im us st x1).2=us/\List.take ((st.length:Int).toNat) (((eI fr tt im us st x1).2).2)=st/\x1.2.1+(((bh (YJ.go Y) x1.2.2 (bR fr tt d (kS fr tt im us st x1))).1).length-x1.2.2.length)=x3.2.1/\Y=Y/\(bh (YJ.go Y) x1.2.2 (bR fr tt d (kS fr tt im us st x1))).1=x3.2.2/\(bh (YJ.go Y) x1.2.2 (bR fr tt d (kS fr tt im us st x1))).2=true)) (((0:Int)<=(st.length:Int)/\(st.length:Int)<=(↑((((eI fr tt im us st x1).2).2).length):Int)/\(((eI fr tt im us st x1).2).2).length<=(1000:Nat)/\jS (List.drop ((st.length:Int).toNat) (((eI fr tt im us st x1).2).2)) (eI fr tt im us st x1).1 (((eI fr tt im us st x1).2).1))/\ae ((↑x1.1:Int)+(1:Int))/\∃x4:Nat×Nat×D7,(x4.1<=im.length/\x4.2.1+pre.length=(x4.2.2).length/\bh (YJ.go Y) x4.2.2 (jm d fr tt im us st x4)=bh (YJ.go Y) pre (bR fr tt (d+(1:Nat)) (im,us,st))/\eJ (YJ.ok Y) (YJ.go Y) x4.2.2 (jm d fr tt im us st x4))/\im.length-x4.1<im.length-x1.1/\bm (-1:Int) im (0:Int)=bm (-1:Int) im (0:Int)/\(st.length:Int)=(st.length:Int)/\(im.length:Int)=(im.length:Int)/\(↑x1.1:Int)+(1:Int)=(↑x4.1:Int)/\fr=fr/\tt=tt/\(nj fr tt im us st x1).1=im/\(nj fr tt im us st x1).2=us/\List.take ((st.length:Int).toNat) (((eI fr tt im us st x1).2).2)=st/\x1.2.1=x4.2.1/\Y=Y/\x1.2.2=x4.2.2/\true=true))) (true=(bh (YJ.go Y) pre (bR fr tt (d+(1:Nat)) (im,us,st))).2/\fr=fr/\tt=tt/\im=im/\us=us/\st=st/\x1.2.1=((bh (YJ.go Y) pre (bR fr tt (d+(1:Nat)) (im,us,st))).1).length-pre.length/\Y=Y/\x1.2.2=(bh (YJ.go Y) pre (bR fr tt (d+(1:Nat)) (im,us,st))).1/\true=(bh (YJ.go Y) pre (bR fr tt (d+(1:Nat)) (im,us,st))).2))
def ZY(d:Nat)(fr:D8)(tt:D8)(im:D6)(us:List Bool)(st:D6)(Y:YJ)(pre:D7):mH Tryz.prog (ah (PU d)) aj (PT (d+1) fr tt im us st Y pre) Tryz.f130 (aI Tryz.f130) [.box [.c (.r3 .i64 fr),.c (.r3 .i64 tt),.ob (.ints 2 .i64 im),.ob (.bools 4 us),.ob (.ints 2 .i64 st)],.m (.ob (.yd 0 Y pre true))] (PQ (d+1) fr tt im us st Y pre) (iv 0 (PR (d+1) fr tt im us st Y pre)++iU (PS (d+1) fr tt im us st Y pre))=GX d fr tt im us st Y pre:=by kernel_rfl
def ZZ(d:Nat)(fr:D8)(tt:D8)(im:D6)(us:List Bool)(st:D6)(Y:YJ)(pre:D7)(ξ:(pf (d+1) fr tt im us st Y pre).pre):GX d fr tt im us st Y pre:=by
 simp only[pf,GX,eI,jm,nj,kS,aO]at ξ⊢;obtain⟨⟨⟨hn,hlen,hf100,hfr,htt,hw⟩,hi⟩,hfd,hP,he,hok⟩:=ξ;have eL:bR fr tt (d+1) (im,us,st)=if bm (-1) im 0<0 then [im]else gv fr tt (bR fr tt d) (im,us,st) (bm (-1) im 0) im.length 0:=rfl
 refine⟨by omega,λh0=>?_,λh0=>?_⟩
 ·rw[eL,AA h0]at hok⊢
  have hv:bh Y.go pre [im]=(pre++[im],Y.go pre im):=by
   rw[bh];cases h:Y.go pre im with
   |true=>rfl
   |false=>rfl
  rw[hv];exact⟨⟨hP,he,hok.1⟩,rfl,by simp,rfl,rfl⟩
 ·rw[eL,AB h0]at hok⊢
  have hx:0<=bm (-1) im 0/\bm (-1) im 0<(im.length:Int)/\gi im (bm (-1) im 0)=-1:=by
   rcases Ha (-1) im 0 (DE _)with h|⟨h1,h2,h3⟩
   ·exact absurd h.1 h0
   ·exact⟨h1,by omega,by simpa[gi]using h3⟩
  simp only[DR];generalize bm (-1) im 0=x at *
  obtain⟨hx0,hxn,hxg⟩:=hx;have hus:us.length=im.length:=hw.us
  have hcn:st.length+cJ im=im.length:=hw.cnt
  generalize hR:bh Y.go pre (gv fr tt (bR fr tt d) (im,us,st) x im.length 0)=R
  refine⟨⟨(0,0,pre),⟨AT _,by simp,hR,hok⟩,rfl,rfl,rfl⟩,?_⟩
  rintro⟨v,k,pr⟩ ⟨hv,hk,hvis,hvo⟩
  simp only at hv hk hvis hvo⊢;refine⟨fun ψ=>?_,λhge=>?_⟩
  ·have hlt':v<im.length:=by omega
   have hE:im.length-v=(im.length-(v+1))+1:=by omega
   rw[hE,gv]at hvis hvo;simp only at hvis hvo;refine⟨⟨by omega,by omega⟩,λhu=>⟨⟨by omega,by omega⟩,?_⟩,λhu=>?_⟩
   ·rw[AA hu,BT]at hvis hvo
    exact⟨(v+1,k,pr),⟨hlt',hk,hvis,hvo⟩,by simp only;omega,by simp only;omega,rfl,rfl⟩
   ·rw[AB (by rw[hu];simp)]at hvis hvo
    have hv0:(0:Int)<=(v:Int):=by omega
    have hM:=nm hfr htt 101 x (v:Int) (im,us,st) hx0 hxn hv0 ψ hw
    have hL:=Qp hfr htt (d:=100) (v:=(v:Int)) hx0 hxn hv0 ψ hw (by show gi im x<0;omega) (by simpa using hu)
    have hU:=aa6 hw hi hM
    have hW:=hM.wf
    have hi':=hM.hon hi
    generalize aU fr tt 101 x (v:Int) (im,us,st)=r at *
    obtain⟨rb,a,b,c⟩:=r;simp only at hM hL hU hW hi' hvis hvo⊢;obtain⟨u1,u2,u3,u4⟩:=hU;have ha:a.length=im.length:=hW.im
    have hcn2:c.length+cJ a=im.length:=hW.cnt
    rw[u2,u3];refine⟨⟨⟨hn,hlen,hf100,hfr,htt,hw⟩,by omega,hx0,hxn,hv0,ψ⟩,λhq=>?_,λhq=>?_⟩
    ·rw[AA hq]at hvis hvo
     rw[Qm]at hvis;rw[Qn]at hvo;have hvl:=Qo (go:=Y.go) (bR fr tt d (a,b,c)) pr
     refine⟨⟨⟨by rw[ha];exact⟨hn,hlen,hf100,hfr,htt,hW⟩,by rw[ha];exact hi'⟩,by omega,hP,he,hvo.1⟩,⟨by omega,by omega,by omega,u1⟩,λhz=>?_,λhz=>⟨⟨by omega,by omega⟩,?_⟩⟩
     ·rw[AB (by rw[hz];simp)]at hvis
      rw[hvis]at hz hvl⊢;exact⟨hz.symm,rfl,rfl,rfl,by omega,rfl,rfl⟩
     ·rw[AA hz]at hvis
      exact⟨(v+1,k+((bh Y.go pr (bR fr tt d (a,b,c))).1.length-pr.length),(bh Y.go pr (bR fr tt d (a,b,c))).1),⟨hlt',by simp only;omega,hvis,hvo.2 hz⟩,by simp only;omega,by simp only;omega,rfl,rfl,rfl,rfl,rfl,hz⟩
    ·rw[AB (by rw[hq];simp),BT]at hvis hvo
     exact⟨⟨by omega,by omega,by omega,u1⟩,⟨by omega,by omega⟩,(v+1,k,pr),⟨hlt',hk,hvis,hvo⟩,by simp only;omega,by simp only;omega,rfl,rfl,rfl,rfl,rfl⟩
  ·have hz:im.length-v=0:=by omega
   rw[hz,gv]at hvis;rw[<-hvis];exact⟨rfl,by simp only[bh];omega,rfl,rfl⟩
def Z3(fr:D8)(tt:D8)(im:D6)(us:List Bool)(st:D6)(Y:YJ)(pre:D7)(h:(pf 0 fr tt im us st Y pre).pre):False:=by
 simp only[pf]at h;omega
def Z4(d:Nat):Fits Tryz.prog 130 ⟨[(0,93),(0,93)],pg d⟩:=by
 induction d with
 |zero =>
  refine Kt ⟨Tryz.f130,Tryz.func130,by kernel_rfl,by kernel_rfl⟩ λds p h hp=>?_
  unfold pg at h;split at h
  ·cases h
   exact Z3 _ _ _ _ _ _ _  hp
  ·cases h
 |succ d ih =>
  refine qf (Γ:=ah (PU d)) (aq OH (aq (YK 101) (aq YB (aq ih aN)))) Tryz.func130 (by kernel_rfl) (by kernel_rfl) (λads p h=>?_) λmas q sv ex outs h hq=>?_
  ·unfold pg at h
   split at h
   ·cases h;rfl
   ·cases h
  ·unfold pg at h
   split at h
   ·rename_i heq
    have heq:=oq (l:=[_,_]) heq
    subst heq;unfold pf at h;cases h;exact⟨aj,PT _ _ _ _ _ _ _ _ ,by rw[ZY];exact ZZ _ _ _ _ _ _ _ _  hq⟩
   ·cases h
def bI(fr:D8):Nat:=(fr.getD 0 []).length
def fF(n:Nat):MS:=(List.replicate n (-1),List.replicate n false,[])
def cd(fr tt:D8):D7:=if bI tt=bI fr then bR fr tt 101 (fF (bI fr))else []
def jn(fr tt:D8):Prop:=1<=fr.length/\fr.length=tt.length/\fr.length<=100/\bI fr<=100/\dn (bI fr) fr/\(bI tt=bI fr->dn (bI fr) tt)
def GY(n:Nat):cJ (List.replicate n (-1))=n:=by
 induction n with
 |zero=>rfl
 |succ n ih=>rw[De,cJ,CC];rw[cJ]at ih;rw[ih];simp
def ph{n:Nat}{x:Int}(h:0<=x)(k:x<n):gi (List.replicate n (-1)) x=-1:=by
 have:x.toNat<n:=by omega
 simp[gi,List.getD,this]
def PV(n:Nat):MW n (fF n):=⟨by simp[fF],by simp[fF],λx hx=>by simp[fF]at hx,λz h0 h1=>by rw[fF,ph h0 h1];omega,by simp[fF,GY]⟩
def PW(n:Nat):MI n (fF n):=⟨by simp[fF],λx h0 h1=>by simp only[fF];rw[ph h0 h1];simp,λx h0 h1 _=>by rw[fF,ph h0 h1],λx y h0 h1 _ _ h=>by simp only[fF]at h;rw[ph h0 h1]at h;omega,λv h0 h1=>by
 simp only[fF]
 constructor
 ·intro h
  have:v.toNat<n:=by omega
  simp[List.getD,this]at h
 ·rintro⟨x,x0,x1,e⟩
  rw[ph x0 x1]at e;omega⟩
def PX(Y:YJ)(fr:D8)(tt:D8):SV:=.tup []
def PY(Y:YJ)(fr:D8)(tt:D8):List MA:=[.m (.ob (.yd (bh Y.go [] (cd fr tt)).1.length Y (bh Y.go [] (cd fr tt)).1 (bh Y.go [] (cd fr tt)).2)),.box [.c (.r3 .i64 fr)],.box [.c (.r3 .i64 tt)]]
def PZ(Y:YJ)(fr:D8)(tt:D8):List (Nat×Ob):=[]
def vZ(Y:YJ)(fr:D8)(tt:D8):Post:=⟨jn fr tt/\Y.P=Tryz.prog/\Y.e=2/\eJ Y.ok Y.go [] (cd fr tt),.st (PX Y fr tt) (PZ Y fr tt) (PY Y fr tt),[]⟩
def pi:List AD->Option Post
 | [.ma (.m (.ob (.yd 0 Y [] true))),.ma (.box [.c (.r3 .i64 fr)]),.ma (.box [.c (.r3 .i64 tt)])]=>some (vZ Y fr tt)
 |_=>none
def P0(Y:YJ)(fr:D8)(tt:D8):Nat->Option Ann
 |0=>Q' λi=>⟨⟨[(0,J' 7000),(1,M' 7100),(2,M' 7200),(5,M' 500),(26,A' (bI fr:Int)),(27,A' i)],[(7000,some (.yd 0 Y [] true)),(7100,P' [.ro (.r3 .i64 fr)]),(7200,P' [.ro (.r3 .i64 tt)]),(500,P' [.ro (.r3 .i64 fr),.ro (.r3 .i64 tt),.own 501,.own 502,.nil]),(501,O' (List.replicate i (-1)++List.replicate (bI fr-i) 0)),(502,some (.bools 4 ((List.replicate (bI fr) false))))]⟩,i<=bI fr,bI fr-i⟩
 |_=>none
def P1:List (Nat×Ctr):=[(130,⟨[(0,93),(0,93)],pg 101⟩)]
def iQ(fr:D8):=(↑((fr.getD (0:Nat) ([]:D7)).length):Int)
def pj(fr:D8)(x0:Nat):=(List.replicate x0 (-1:Int)++List.replicate (bI fr-x0) (0:Int),List.replicate (bI fr) false,([]:D6))
def GZ(Y:YJ)(fr:D8)(tt:D8):Prop :=
 ac (0:Int) fr.length/\ac (0:Int) tt.length/\ab ((↑((tt.getD (0:Nat) ([]:D7)).length):Int) != (↑((fr.getD (0:Nat) ([]:D7)).length):Int)) ((0:Nat)=((bh (YJ.go Y) ([]:D7) (cd fr tt)).1).length/\Y=Y/\([]:D7)=(bh (YJ.go Y) ([]:D7) (cd fr tt)).1/\true=(bh (YJ.go Y) ([]:D7) (cd fr tt)).2/\fr=fr/\tt=tt) (((0:Int)<=(iQ fr)/\(iQ fr)<=(iQ fr)/\au (iQ fr).toNat)/\((0:Int)<=(iQ fr)/\(iQ fr)<=(iQ fr)/\au (iQ fr).toNat)/\(∃x0:Nat,x0<=bI fr/\(↑((List.replicate (iQ fr).toNat (0:Int)).length):Int)=(bI fr:Int)/\(0:Int)=(x0:Int)/\(0:Nat)=(0:Nat)/\Y=Y/\([]:D7)=([]:D7)/\true=true/\fr=fr/\tt=tt/\fr=fr/\tt=tt/\List.replicate (iQ fr).toNat (0:Int)=List.replicate x0 (-1:Int)++List.replicate (bI fr-x0) (0:Int)/\List.replicate (iQ fr).toNat false=List.replicate (bI fr) false)/\∀x1:Nat,x1<=bI fr->ab (decide ((x1:Int)<(bI fr:Int))) (ac (x1:Int) ((List.replicate x1 (-1:Int)++List.replicate (bI fr-x1) (0:Int)).length)/\ae ((x1:Int)+(1:Int))/\∃x2:Nat,x2<=bI fr/\bI fr-x2<bI fr-x1/\(bI fr:Int)=(bI fr:Int)/\(x1:Int)+(1:Int)=(x2:Int)/\(0:Nat)=(0:Nat)/\Y=Y/\([]:D7)=([]:D7)/\true=true/\fr=fr/\tt=tt/\fr=fr/\tt=tt/\List.set (List.replicate x1 (-1:Int)++List.replicate (bI fr-x1) (0:Int)) (x1:Int).toNat (-1:Int)=List.replicate x2 (-1:Int)++List.replicate (bI fr-x2) (0:Int)/\List.replicate (bI fr) false=List.replicate (bI fr) false) ((GW ((List.replicate x1 (-1:Int)++List.replicate (bI fr-x1) (0:Int)).length) fr tt (pj fr x1)/\cJ (List.replicate x1 (-1:Int)++List.replicate (bI fr-x1) (0:Int))<(101:Nat)/\YJ.P Y=Go.Proofs.Tryz.prog/\YJ.e Y=(2:Go.TypeId)/\eJ (YJ.ok Y) (YJ.go Y) ([]:D7) (bR fr tt (101:Nat) (pj fr x1)))/\(0:Nat)+(((bh (YJ.go Y) ([]:D7) (bR fr tt (101:Nat) (pj fr x1))).1).length-([]:D7).length)=((bh (YJ.go Y) ([]:D7) (cd fr tt)).1).length/\Y=Y/\(bh (YJ.go Y) ([]:D7) (bR fr tt (101:Nat) (pj fr x1))).1=(bh (YJ.go Y) ([]:D7) (cd fr tt)).1/\(bh (YJ.go Y) ([]:D7) (bR fr tt (101:Nat) (pj fr x1))).2=(bh (YJ.go Y) ([]:D7) (cd fr tt)).2/\fr=fr/\tt=tt))
def Z5(Y:YJ)(fr:D8)(tt:D8):mH Tryz.prog (ah P1) aj (P0 Y fr tt) Tryz.f129 (aI Tryz.f129) [.m (.ob (.yd 0 Y [] true)),.box [.c (.r3 .i64 fr)],.box [.c (.r3 .i64 tt)]] (PX Y fr tt) (iv 0 (PY Y fr tt)++iU (PZ Y fr tt))=GZ Y fr tt:=by kernel_rfl
def Z6(Y:YJ)(fr:D8)(tt:D8)(ξ:(vZ Y fr tt).pre):GZ Y fr tt:=by
 simp only[vZ,GZ,iQ,pj,aO]at ξ⊢;obtain⟨⟨h1,h2,h3,h4,hf,ht⟩,hP,he,hok⟩:=ξ;refine⟨⟨by omega,by omega⟩,⟨by omega,by omega⟩,λhne=>?_,λheq=>⟨⟨by omega,by omega,?_⟩,⟨by omega,by omega,?_⟩,⟨0,AT _,rfl,rfl,by simp[bI],rfl⟩,λi hi=>⟨fun ψ=>?_,λhge=>?_⟩⟩⟩
 ·have e:cd fr tt=[]:=AB (λe=>hne (by simp only[bI]at e;omega))
  rw[e];exact⟨rfl,rfl,rfl⟩
 ·simp only[bI]at h4;omega
 ·simp only[bI]at h4;omega
 ·refine⟨by omega,by omega,i+1,by omega,by omega,by omega,?_⟩
  have:bI fr-i=(bI fr-(i+1))+1:=by omega
  rw[this,De,List.set_append_right _ _ (by simp)]
  simp[C0]
 ·have ei:i=bI fr:=by omega
  subst ei;have en:bI tt=bI fr:=by simp only[bI];omega
  have e:cd fr tt=bR fr tt 101 (fF (bI fr)):=AA en
  simp only[Nat.sub_self,List.replicate_zero,AV,Bg,CB,AI];rw[e]at hok⊢;exact⟨⟨⟨⟨h4,h2,h3,hf,ht en,PV _⟩,PW _⟩,by rw[GY];omega,hP,he,hok⟩,rfl,rfl,rfl⟩
def G0:Fits Tryz.prog 129 ⟨[(0,93),(0,93)],pi⟩:=by
 refine qf (Γ:=ah P1) (aq (Z4 101) aN) Tryz.func129 (by kernel_rfl) (by kernel_rfl) (λads p h=>?_) λmas q sv ex outs h hq=>?_
 ·unfold pi at h
  split at h
  ·cases h;rfl
  ·cases h
 ·unfold pi at h
  split at h
  ·rename_i heq
   have heq:=oq (l:=[_,_,_]) heq
   subst heq;unfold vZ at h;cases h;exact⟨aj,P0 _ _ _ ,by rw[Z5];exact Z6 _ _ _  hq⟩
  ·cases h
def P2(x:Int):∀(l:D6) (k:Int),0<=k->∀j:Nat,(j:Int)+k<bm x l k->l.getD j 0≠x
 | [],k,hk,j,h=>by simp[bm]at h;omega
 |y::l,k,hk,j,h=>by
  rw[bm]at h;by_cases e:y=x
  ·rw[AA e]at h;omega
  ·rw[AB e]at h
   cases j with
   |zero=>simpa using e
   |succ j =>
    rw[Ch];exact P2 x l (k+1) (by omega) j (by push_cast at h;omega)
def P3:∀(a b:D6) (i:Nat),i<a.length->a.length=b.length->(∀j,j<i->a.getD j 0=b.getD j 0)->a.getD i 0<b.getD i 0->bw a b=true
 | [],_,i,h,_,_,_=>by simp at h
 |_::_,[],_,_,h,_,_=>by simp at h
 |x::a,y::b,i,hi,hl,hj,ψ=>by
  rw[bw];cases i with
  |zero =>
   simp only[CR]at ψ;rw[AB (by omega)];simpa using ψ
  |succ i =>
   have h0:=hj 0 (by omega)
   simp only[CR]at h0;rw[AA h0];refine P3 a b i (by simpa using hi) (by simpa using hl) (λj hj'=>?_) (by simpa using ψ)
   have:=hj (j+1) (by omega)
   simpa using this
def Z7{a b:D7}(ha:fO a)(hb:fO b)(h:∀g,g∈a↔g∈b):a=b:=by
 have hp:a.Perm b:=(DN (qR ha) (qR hb)).2 h
 exact DL (le:=λx y=>bw x y=true) (λx y _ _ h1 h2=>by have:=GK _ _ _ h1 h2;rw[GJ]at this;cases this) ha hb hp
def qW{n:Nat}{a:D8}(h:bK n a):dn n a:=λt ht=>by
 obtain⟨k,hk,e⟩:=BS.1 ht;have:=h k hk
 rw[List.getD,AF hk,CE,e]at this;refine⟨this.1,λx y hx hxn=>?_⟩
 obtain⟨h1,h2⟩:=this.2 x.toNat (by omega)
 exact⟨h1,λhy hyn=>h2 y.toNat (by omega)⟩
def Z8{n:Nat}{a b:D8}(ha:dn n a)(hab:a.length=b.length){p:D6}(hl:p.length=n)(hr:∀i,i<n->0<=p.getD i 0/\p.getD i 0<(n:Int)):m8 a b p↔TT (wh n p) a b:=by
 rw[TT.iff hab]
 constructor
 ·intro h k hk x y hx hxn hy hyn
  have t0:=((ha (a.getD k []) (by rw[List.getD,AF hk];exact A5 hk)).2 x y hx hxn).2 hy hyn
  exact h k x.toNat y.toNat hk (by omega) (by omega) (by rw[hl];exact t0.2)
 ·intro h k x y hk hx hy _
  exact h k hk (x:Int) (y:Int) (by omega) (by omega) (by omega) (by omega)
section
variable {n:Nat} {F T:D8}
def G1{E:MS->D7}{s:MS}{x:Int}{p:D6}:∀(e v:Nat),p∈gv F T E s x e v↔∃w:Nat,v<=w/\w<v+e/\¬ s.2.1.getD w false=true/\(aU F T 101 x w s).1=true/\p∈E (aU F T 101 x w s).2
 |0,v=>by simp[gv];intro w h1 h2;omega
 |e+1,v=>by
  rw[gv,AH,G1 e (v+1)]
  constructor
  ·rintro(h|⟨w,h1,h2,h3⟩)
   ·split at h
    ·cases h
    ·split at h
     ·rename_i h1 h2;exact⟨v,AE _,by omega,h1,h2,h⟩
     ·cases h
   ·exact⟨w,by omega,by omega,h3⟩
  ·rintro⟨w,h1,h2,h3,h4,h5⟩
   by_cases e2:w=v
   ·subst e2;left;rw[AB h3,AA h4];exact h5
   ·exact .inr ⟨w,by omega,by omega,h3,h4,h5⟩
def P4{E:MS->D7}{s:MS}{x:Int}:∀(e v:Nat),(∀w:Nat,v<=w->w<v+e->¬ s.2.1.getD w false=true->(aU F T 101 x w s).1=true->fO (E (aU F T 101 x w s).2))->(∀w w':Nat,v<=w->w<w'->w'<v+e->¬ s.2.1.getD w false=true->¬ s.2.1.getD w' false=true->(aU F T 101 x w s).1=true->(aU F T 101 x w' s).1=true->∀p∈E (aU F T 101 x w s).2,∀q∈E (aU F T 101 x w' s).2,bw p q=true) ->
  fO (gv F T E s x e v)
 |0,v,_,_=>by rw[gv];exact List.Pairwise.nil
 |e+1,v,h1,h2=>by
  rw[gv];refine Cq.2 ⟨?_,P4 e (v+1) (λw a b=>h1 w (by omega) (by omega)) (λw w' a b c=>h2 w w' (by omega) b (by omega)),λp hp q hq=>?_⟩
  ·split
   ·exact List.Pairwise.nil
   ·split
    ·rename_i a b;exact h1 v (AE _) (by omega) a b
    ·exact List.Pairwise.nil
  ·obtain⟨w,a1,a2,a3,a4,a5⟩:=(G1 e (v+1)).1 hq
   split at hp
   ·cases hp
   ·split at hp
    ·rename_i b1 b2;exact h2 v w (AE _) (by omega) (by omega) b1 a3 b2 a4 p hp q a5
    ·cases hp
def P5(hn:n<=100)(hFT:F.length=T.length)(hf:dn n F)(ht:dn n T):∀(d:Nat) (s:MS),MW n s->MI n s->cJ s.1<d->Cl F T [] s->(∀p,p∈bR F T d s↔isoL n F T p/\io n p s)/\fO (bR F T d s)
 |0,s,_,_,h,_=>by omega
 |d+1,s,w,q,hd,hc=>by
  have iso:=fun {p:D6} hl hr=>Z8 (n:=n) (b:=T) hf hFT (p:=p) hl hr
  have hcn:=w.cnt
  rw[bR];rcases Ha (-1) s.1 0 (DE _)with⟨h1,h2⟩|⟨h1,h2,h3⟩
  ·rw[AA h1]
   have all:∀x:Int,0<=x->x<n->0<=gi s.1 x:=λx x0 x1=>Ax λhh=>by
    have:=q.neg x x0 x1 hh
    refine h2 ?_
    rw[<-this];have hxl:x.toNat<s.1.length:=by rw[w.im];omega
    rw[gi,List.getD,AF hxl,CE];exact A5 hxl
   have hrng:∀i,i<n->0<=s.1.getD i 0/\s.1.getD i 0<(n:Int):=λi hi=>⟨all (i:Int) (by omega) (by omega),w.rg (i:Int) (by omega) (by omega)⟩
   have hmem:∀x:Int,0<=x->x<n->x∈s.2.2:=λx x0 x1=>(q.mem x x0 x1).2 (all x x0 x1)
   refine⟨λp=>?_,by simp[fO]⟩
   rw[Ar]
   constructor
   ·rintro rfl
    refine⟨⟨w.im,hrng,?_,(iso w.im hrng).2 ?_⟩,λ_ _ _ _=>rfl⟩
    ·refine Bf.2 λi j hi hj hij e=>?_
     have hl:=w.im
     have:=q.inj (i:Int) (j:Int) (by omega) (by omega) (by omega) (by omega) (all _ (by omega) (by omega)) (by simp[gi,List.getD,hi,hj,e])
     omega
    ·rw[TT.iff hFT]
     intro k hk x y x0 x1 y0 y1
     exact(TT.iff hFT).1 (hc x (hmem x x0 x1) y (hmem y y0 y1) (by simp) (by simp)) k hk
   ·rintro⟨hi,he⟩
    exact Ql hi.len w.im λz z0 z1=>he z z0 z1 (all z z0 z1)
  ·have hx0:=h1
   rw[AB (by omega)]
   have hxg:gi s.1 (bm (-1) s.1 0)=-1:=by simpa[gi]using h3
   have hxn:bm (-1) s.1 0<(n:Int):=by rw[w.im]at h2;omega
   have hfst:∀j:Nat,(j:Int)<bm (-1) s.1 0->0<=gi s.1 (j:Int):=λj hj=>Ax λhh=>by
    have:=q.neg (j:Int) (by omega) (by omega) hh
    exact P2 (-1) s.1 0 (DE _) j (by omega) (by simpa[gi]using this)
   generalize bm (-1) s.1 0=x at *
   have step:∀v:Nat,v<n->¬ s.2.1.getD v false=true->(aU F T 101 x v s).1=true->(∀p,p∈bR F T d (aU F T 101 x v s).2↔isoL n F T p/\io n p (aU F T 101 x v s).2)/\fO (bR F T d (aU F T 101 x v s).2)/\(∀p,io n p (aU F T 101 x v s).2->io n p s/\gi p x=v):=λv hv hu ha=>by
    have m1:=nm hf ht 101 x (v:Int) s hx0 hxn (by omega) (by omega) w
    have hl:cJ (aU F T 101 x (v:Int) s).2.1+1<=cJ s.1:=Qp hf ht (d:=100) (v:=(v:Int)) hx0 hxn (by omega) (by omega) w (by omega) (by simpa using hu)
    obtain⟨c1,c2⟩:=Qv hf ht 101 [] x (v:Int) s hx0 hxn (by omega) (by omega) w hc ha
    obtain⟨i1,i2⟩:=P5 hn hFT hf ht d _ m1.wf (m1.hon q) (by omega) c1
    exact⟨i1,i2,λp hp=>⟨λz z0 z1 hz=>by rw[<-m1.keep z z0 z1 hz];exact hp z z0 z1 (by rw[m1.keep z z0 z1 hz];exact hz),by rw[<-c2];exact hp x hx0 hxn (by rw[c2];omega)⟩⟩
   refine⟨λp=>?_,?_⟩
   ·rw[G1]
    constructor
    ·rintro⟨v,_,h5,h6,h7,h8⟩
     have h5:v<n:=by rw[w.im]at h5;omega
     obtain⟨i1,_,i3⟩:=step v h5 h6 h7;obtain⟨j1,j2⟩:=(i1 p).1 h8;exact⟨j1,(i3 p j2).1⟩
    ·rintro⟨hi,he⟩
     have hr:=hi.rng x.toNat (by omega)
     have hpx:gi p x=((gi p x).toNat:Int):=by simp only[gi];omega
     have hv:(gi p x).toNat<n:=by simp only[gi];omega
     obtain⟨c1,c2⟩:=Qt hi.len hi.nd hf ht ((iso hi.len hi.rng).1 hi.ok) 101 x ((gi p x).toNat:Int) s hx0 hxn (by omega) (by omega) w q (by omega) he hpx
     have hu:¬ s.2.1.getD (gi p x).toNat false=true:=λhu=>by
      obtain⟨z,z0,z1,hz⟩:=(q.us ((gi p x).toNat:Int) (by omega) (by omega)).1 (by rw[An];exact hu)
      have e:=he z z0 z1 (by omega)
      have:=Qs hi.len hi.nd ⟨z0,z1⟩ ⟨hx0,hxn⟩ (by rw[e,hz];exact hpx.symm)
      subst this;omega
     obtain⟨i1,_,_⟩:=step _ hv hu c1;exact⟨(gi p x).toNat,AT _,by rw[w.im];omega,hu,c1,(i1 p).2 ⟨hi,c2⟩⟩
   ·refine P4 _ _ (λv _ h5 h6 h7=>(step v (by rw[w.im]at h5;omega) h6 h7).2.1) (λv v' _ hvv h5 h6 h6' h7 h7' p hp r hr=>?_)
    have h5':v'<n:=by rw[w.im]at h5;omega
    obtain⟨i1,_,i3⟩:=step v (by omega) h6 h7
    obtain⟨j1,_,j3⟩:=step v' h5' h6' h7';obtain⟨a1,a2⟩:=(i1 p).1 hp;obtain⟨b1,b2⟩:=(j1 r).1 hr;obtain⟨e1,e2⟩:=i3 p a2;obtain⟨f1,f2⟩:=j3 r b2;refine P3 p r x.toNat (by rw[a1.len];omega) (by rw[a1.len,b1.len]) (λj hj=>?_) ?_
    ·have hz:=hfst j (by omega)
     have q1:=e1 (j:Int) (by omega) (by omega) hz
     have q2:=f1 (j:Int) (by omega) (by omega) hz
     simpa[gi]using q1.trans q2.symm
    ·show gi p x<gi r x
     rw[e2,f2];omega
def jY{fr tt:D8}(h:jn fr tt):(∀p,p∈cd fr tt↔bI tt=bI fr/\isoL (bI fr) fr tt p)/\fO (cd fr tt):=by
 obtain⟨h1,h2,h3,h4,hf,ht⟩:=h;rw[cd];split
 ·rename_i e
  obtain⟨a,b⟩:=P5 h4 h2 hf (ht e) 101 (fF (bI fr)) (PV _) (PW _) (by rw[fF,GY];omega) (λa ha=>by simp[fF]at ha)
  refine⟨λp=>?_,b⟩
  rw[a p];exact⟨λk=>⟨e,k.1⟩,λk=>⟨k.2,λz z0 z1 hz=>by simp only[fF]at hz;rw[ph z0 z1]at hz;omega⟩⟩
 ·rename_i e
  exact⟨λp=>⟨λk=>(by cases k),λk=>absurd k.1 e⟩,List.Pairwise.nil⟩
end
def qX:List AD->Option Post
 | [.c (.ints .i64 l)]=>some ⟨l.length≠0/\au l.length,.c (.ints 2 .i64 l),[]⟩
 |_=>none
def G3:Fits Tryz.prog 82 ⟨[],qX⟩:=by
 refine ffv (Γ:=ah []) aN Tryz.func82 λds p h ξ=>?_
 unfold qX at h;split at h<;>cases h
 rename_i l
 refine⟨aj,ar,FC.len (FC.ints IntKind.i64 l)≠(0:Nat)/\au (([]:D6).length+l.length)/\[]++l=l/\True,by kernel_rfl,?_⟩
 simp only[aO]at ξ⊢;obtain⟨a,b⟩:=ξ;exact⟨a,by omega,rfl⟩
def P7(fr:D8)(tt:D8):SV:=.fn 129 [.ptr 400 0,.ptr 401 0]
def P8(fr:D8)(tt:D8):List MA:=[]
def P9(fr:D8)(tt:D8):List (Nat×Ob):=[(400,(.box [.own 402])),(401,(.box [.own 403])),(402,(.lst 0 22 (.r3 .i64 fr))),(403,(.lst 0 22 (.r3 .i64 tt)))]
def wb(fr:D8)(tt:D8):Post:=⟨True,.st (P7 fr tt) (P9 fr tt) (P8 fr tt),[]⟩
def pk:List AD->Option Post
 | [.ma (.m (.ob (.lst 0 22 (.r3 .i64 fr)))),.ma (.m (.ob (.lst 0 22 (.r3 .i64 tt))))]=>some (wb fr tt)
 |_=>none
def Qa:List (Nat×Ctr):=[]
def G4(fr:D8)(tt:D8):Prop :=
 fr=fr/\tt=tt
def aa1(fr:D8)(tt:D8):mH Tryz.prog (ah Qa) aj ar Tryz.f76 (aI Tryz.f76) [.m (.ob (.lst 0 22 (.r3 .i64 fr))),.m (.ob (.lst 0 22 (.r3 .i64 tt)))] (P7 fr tt) (iv 0 (P8 fr tt)++iU (P9 fr tt))=G4 fr tt:=by kernel_rfl
def aa2(fr:D8)(tt:D8)(ξ:(wb fr tt).pre):G4 fr tt:=by
 simp only[wb,G4,aO]at ξ⊢
def G5:Fits Tryz.prog 76 ⟨[(0,93),(0,93)],pk⟩:=by
 refine qf (Γ:=ah Qa) aN Tryz.func76 (by kernel_rfl) (by kernel_rfl) (λads p h=>?_) λmas q sv ex outs h hq=>?_
 ·unfold pk at h
  split at h
  ·cases h;rfl
  ·cases h
 ·unfold pk at h
  split at h
  ·rename_i heq
   have heq:=oq (l:=[_,_]) heq
   subst heq;unfold wb at h;cases h;exact⟨aj,ar,by rw[aa1];exact aa2 _ _  hq⟩
  ·cases h
def Qb:∀(l pre:D7),bh (λ_ _=>true) pre l=(pre++l,true)
 | [],pre=>by simp[bh]
 |x::l,pre=>by rw[bh,AA rfl,Qb l];simp
def Qc{ok:D7->D6->Prop}(M:Nat):∀(l pre:D7),(∀pre' x,x∈l->pre'.length<M->ok pre' x)->pre.length+l.length<=M->eJ ok (λ_ _=>true) pre l
 | [],pre,_,_=>trivial
 |x::l,pre,h,hM=>by
  simp only[AR]at hM;exact⟨h pre x AZ (by omega),λ_=>Qc M l (pre++[x]) (λpre' y hy=>h pre' y (AQ _ hy)) (by simp;omega)⟩
def we:List AD->Option Post
 | [.c (.rows .i64 t)]=>some ⟨1<=t.length/\jn [t] [t]/\(cd [t] [t]).length<=1000000000,.c (.rows 62 2 .i64 (cd [t] [t])),[]⟩
 |_=>none
def Qd(t:D7):Nat->Option Ann
 |0=>some (Ann.rf 2 (λ_ _=>true) (λpre x=>pre.length<1000000000/\1<=x.length/\x.length<=100) [600] [(3,.c (.ptr 600 0))] (λpre=>[(600,some (.box [.own 601])),(601,some (.rows 0 62 2 .i64 pre))]) (λpre=>[(600,some (.box [.own 601])),(601,some (.rows 0 62 2 .i64 pre))]))
 |_=>none
def il(t:D7):=(t::([]:D8))
def Qf:Fits Tryz.prog 87 ⟨[],we⟩:=by
 refine ffv (Γ:=ah [(76,⟨[(0,93),(0,93)],pk⟩),(129,⟨[(0,93),(0,93)],pi⟩),(82,⟨[],qX⟩)]) (aq G5 (aq G0 (aq G3 aN))) Tryz.func87 λds p h ξ=>?_
 unfold we at h;split at h<;>cases h
 rename_i t
 refine⟨aj,Qd t,True/\(∀p:D7,true=true/\true=true)/\(([]:D7)=([]:D7)/\t::([]:D8)=t::([]:D8)/\t::([]:D8)=t::([]:D8))/\(∀p0:D7,∀x1:D6,p0.length<(1000000000:Nat)/\(1:Nat)<=x1.length/\x1.length<=(100:Nat)->((x1.length≠(0:Nat)/\au x1.length)/\True)/\au (p0.length+(x1::([]:D7)).length)/\true=true/\x1=x1/\p0++x1::([]:D7)=p0++x1::([]:D7))/\∀Y2:YJ,YJ.P Y2=Go.Proofs.Tryz.prog->YJ.e Y2=(2:Go.TypeId)->(YJ.go Y2=λ(x:D7) (x_1:D6)=>true)->(YJ.ok Y2=λ(pre:D7) (x:D6)=>pre.length<(1000000000:Nat)/\(1:Nat)<=x.length/\x.length<=(100:Nat))->(jn (il t) (il t)/\YJ.P Y2=Go.Proofs.Tryz.prog/\YJ.e Y2=(2:Go.TypeId)/\eJ (YJ.ok Y2) (YJ.go Y2) ([]:D7) (cd (il t) (il t)))/\Y2=Y2/\((bh (YJ.go Y2) ([]:D7) (cd (il t) (il t))).2=true->(bh (YJ.go Y2) ([]:D7) (cd (il t) (il t))).1=cd (il t) (il t)/\True)/\((bh (YJ.go Y2) ([]:D7) (cd (il t) (il t))).2=false->False),by kernel_rfl,?_⟩
 simp only[il,aO]at ξ⊢;obtain⟨h1,h2,h3⟩:=ξ;refine⟨λ_=>trivial,λp x h=>⟨⟨by omega,by omega⟩,by omega⟩,λY q1 q2 q3 q4=>?_⟩
 rw[q3,q4,Qb];have hn:bI [t]=t.length:=rfl
 have h100:=h2.2.2.2.1
 exact⟨⟨h2,q1,q2,Qc 1000000000 _ [] (λpre' x hx hp=>⟨hp,by
  have:=(((jY h2).1 x).1 hx).2.len;omega,by
  have:=(((jY h2).1 x).1 hx).2.len;omega⟩) (by simpa using h3)⟩,λ_=>by simp,λh=>by cases h⟩
end Go.Sx
