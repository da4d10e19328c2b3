/- MpgD -/
import Derived.Test.YtkmldclpaniclaaGreatGrpC
import Derived.Test.YtkmldclpaniclaaGreatMpgL
set_option linter.unusedSimpArgs false
set_option linter.unusedVariables false
set_option linter.defProp false
open Go Go.Proofs
namespace Go.Sx
def ES(n:Nat)(fr tt:D3)(s:MS):Prop:=pK n fr tt s/\MI n s
def M3(d:Nat)(fr:D3)(tt:D3)(im:D1)(us:List Bool)(st:D1)(Y:YJ)(pre:D2):SV:=.c (.bool ((ba Y.go pre (bJ fr tt d (im,us,st))).2))
def M4(d:Nat)(fr:D3)(tt:D3)(im:D1)(us:List Bool)(st:D1)(Y:YJ)(pre:D2):List MA:=[.box [.c (.r3 .i64 fr),.c (.r3 .i64 tt),.ob (.ints 2 .i64 im),.ob (.bools 4 us),.ob (.ints 2 .i64 st)],.m (.ob (.yd ((ba Y.go pre (bJ fr tt d (im,us,st))).1.length-pre.length) Y (ba Y.go pre (bJ fr tt d (im,us,st))).1 (ba Y.go pre (bJ fr tt d (im,us,st))).2))]
def M5(d:Nat)(fr:D3)(tt:D3)(im:D1)(us:List Bool)(st:D1)(Y:YJ)(pre:D2):List (Nat×Ob):=[]
def oh(d:Nat)(fr:D3)(tt:D3)(im:D1)(us:List Bool)(st:D1)(Y:YJ)(pre:D2):Post:=⟨ES im.length fr tt (im,us,st)/\cq im<d/\Y.P=Tryz.prog/\Y.e=2/\eI Y.ok Y.go pre (bJ fr tt d (im,us,st)),.st (M3 d fr tt im us st Y pre) (M5 d fr tt im us st Y pre) (M4 d fr tt im us st Y pre),[]⟩
def ol(d:Nat):List AD->Option Post
 | [.ma (.box [.c (.r3 .i64 fr),.c (.r3 .i64 tt),.ob (.ints 2 .i64 im),.ob (.bools 4 us),.ob (.ints 2 .i64 st)]),.ma (.m (.ob (.yd 0 Y pre true)))]=>some (oh d fr tt im us st Y pre)
 |_=>none
def M6(d:Nat)(fr:D3)(tt:D3)(im:D1)(us:List Bool)(st:D1)(Y:YJ)(pre:D2):Nat->Option Ann
 |0=>some (Ann.mk ((Nat)×(Nat)×(D2)) (fun x=>match x with|(v,k,pr)=>⟨[(0,M' 7000),(1,J' 7100),(5,A' (aY (-1) im 0)),(6,A' st.length),(31,A' im.length),(32,A' v)],[(7000,P' [.ro (.r3 .i64 fr),.ro (.r3 .i64 tt),.own 7003,.own 7004,.own 7005]),(7003,O' im),(7004,some (.bools 4 us)),(7005,O' st),(7100,some (.yd k Y pr true))]⟩) (fun x=>match x with|(v,k,pr)=>v<=im.length/\k+pre.length=pr.length/\ba Y.go pr (f7 fr tt (bJ fr tt (d-1)) (im,us,st) (aY (-1) im 0) (im.length-v) v)=ba Y.go pre (bJ fr tt d (im,us,st))/\eI Y.ok Y.go pr (f7 fr tt (bJ fr tt (d-1)) (im,us,st) (aY (-1) im 0) (im.length-v) v)) (fun x=>match x with|(v,k,pr)=>im.length-v) (fun _=>ar))
 |_=>none
def M7(d:Nat):List (Nat×Ctr):=[(179,⟨[],tw⟩),(180,⟨[(0,93),(0,93)],nZ 101⟩),(181,⟨[(0,93),(0,93)],tu⟩),(130,⟨[(0,93),(0,93)],ol d⟩)]
def d7(fr:D3)(tt:D3)(im:D1)(us:List Bool)(st:D1)(x0:Nat×Nat×D2):=((aH fr tt (101:Nat) (aY (-1:Int) im (0:Int)) (↑x0.1:Int) (im,us,st)).2)
def iX(d:Nat)(fr:D3)(tt:D3)(im:D1)(us:List Bool)(st:D1)(x0:Nat×Nat×D2):=(f7 fr tt (bJ fr tt (d+(1:Nat)-(1:Nat))) (im,us,st) (aY (-1:Int) im (0:Int)) (im.length-x0.1) x0.1)
def mD(fr:D3)(tt:D3)(im:D1)(us:List Bool)(st:D1)(x0:Nat×Nat×D2):=(dA (List.drop ((↑(st.length):Int).toNat) (((d7 fr tt im us st x0).2).2)) (d7 fr tt im us st x0).1 (((d7 fr tt im us st x0).2).1))
def ke(fr:D3)(tt:D3)(im:D1)(us:List Bool)(st:D1)(x0:Nat×Nat×D2):=((d7 fr tt im us st x0).1,((d7 fr tt im us st x0).2).1,((d7 fr tt im us st x0).2).2)
def ET(d:Nat)(fr:D3)(tt:D3)(im:D1)(us:List Bool)(st:D1)(Y:YJ)(pre:D2):Prop :=
 (im.length<=(1099511627776:Nat)/\True)/\ab (decide (aY (-1:Int) im (0:Int)<(0:Int))) ((YJ.P Y=Go.Proofs.Tryz.prog/\YJ.e Y=(2:Nat)/\true=true/\YJ.ok Y pre im)/\YJ.go Y pre im=(ba (YJ.go Y) pre (bJ fr tt (d+(1:Nat)) (im,us,st))).2/\fr=fr/\tt=tt/\im=im/\us=us/\st=st/\(1:Nat)=((ba (YJ.go Y) pre (bJ fr tt (d+(1:Nat)) (im,us,st))).1).length-pre.length/\Y=Y/\pre++im::([]:D2)=(ba (YJ.go Y) pre (bJ fr tt (d+(1:Nat)) (im,us,st))).1/\YJ.go Y pre im=(ba (YJ.go Y) pre (bJ fr tt (d+(1:Nat)) (im,us,st))).2) ((∃x0:Nat×Nat×D2,(x0.1<=im.length/\x0.2.1+pre.length=(x0.2.2).length/\ba (YJ.go Y) x0.2.2 (iX d fr tt im us st x0)=ba (YJ.go Y) pre (bJ fr tt (d+(1:Nat)) (im,us,st))/\eI (YJ.ok Y) (YJ.go Y) x0.2.2 (iX d fr tt im us st x0))/\aY (-1:Int) im (0:Int)=aY (-1:Int) im (0:Int)/\(st.length:Int)=(st.length:Int)/\(im.length:Int)=(im.length:Int)/\(0:Int)=(↑x0.1:Int)/\fr=fr/\tt=tt/\im=im/\us=us/\st=st/\(0:Nat)=x0.2.1/\Y=Y/\pre=x0.2.2/\true=true)/\∀x1:Nat×Nat×D2,x1.1<=im.length/\x1.2.1+pre.length=(x1.2.2).length/\ba (YJ.go Y) x1.2.2 (iX d fr tt im us st x1)=ba (YJ.go Y) pre (bJ fr tt (d+(1:Nat)) (im,us,st))/\eI (YJ.ok Y) (YJ.go Y) x1.2.2 (iX d fr tt im us st x1)->ab (decide ((↑x1.1:Int)<(im.length:Int))) (ac (↑x1.1:Int) us.length/\ab (us.getD (↑x1.1:Int).toNat false) (af ((↑x1.1:Int)+(1:Int))/\∃x2:Nat×Nat×D2,(x2.1<=im.length/\x2.2.1+pre.length=(x2.2.2).length/\ba (YJ.go Y) x2.2.2 (iX d fr tt im us st x2)=ba (YJ.go Y) pre (bJ fr tt (d+(1:Nat)) (im,us,st))/\eI (YJ.ok Y) (YJ.go Y) x2.2.2 (iX d fr tt im us st x2))/\im.length-x2.1<im.length-x1.1/\aY (-1:Int) im (0:Int)=aY (-1:Int) im (0:Int)/\(st.length:Int)=(st.length:Int)/\(im.length:Int)=(im.length:Int)/\(↑x1.1:Int)+(1:Int)=(↑x2.1:Int)/\fr=fr/\tt=tt/\im=im/\us=us/\st=st/\x1.2.1=x2.2.1/\Y=Y/\x1.2.2=x2.2.2/\true=true) ((pK im.length fr tt (im,us,st)/\cq im<(101:Nat)/\(0:Int)<=aY (-1:Int) im (0:Int)/\aY (-1:Int) im (0:Int)<(im.length:Int)/\(0:Int)<=(↑x1.1:Int)/\(↑x1.1:Int)<(im.length:Int))/\ab ((aH fr tt (101:Nat) (aY (-1:Int) im (0:Int)) (↑x1.1:Int) (im,us,st)).1) ((ES (((d7 fr tt im us st x1).1).length) fr tt (ke fr tt im us st x1)/\cq (d7 fr tt im us st x1).1<d/\YJ.P Y=Go.Proofs.Tryz.prog/\YJ.e Y=(2:Go.TypeId)/\eI (YJ.ok Y) (YJ.go Y) x1.2.2 (bJ fr tt d (ke fr tt im us st x1)))/\((0:Int)<=(st.length:Int)/\(st.length:Int)<=(↑((((d7 fr tt im us st x1).2).2).length):Int)/\(((d7 fr tt im us st x1).2).2).length<=(1000:Nat)/\jx (List.drop ((st.length:Int).toNat) (((d7 fr tt im us st x1).2).2)) (d7 fr tt im us st x1).1 (((d7 fr tt im us st x1).2).1))/\ab (!(ba (YJ.go Y) x1.2.2 (bJ fr tt d (((aH fr tt (101:Nat) (aY (-1:Int) im (0:Int)) (↑x1.1:Int) (im,us,st)).2).1,(((aH fr tt (101:Nat) (aY (-1:Int) im (0:Int)) (↑x1.1:Int) (im,us,st)).2).2).1,(((aH fr tt (101:Nat) (aY (-1:Int) im (0:Int)) (↑x1.1:Int) (im,us,st)).2).2).2))).2) (false=(ba (YJ.go Y) pre (bJ fr tt (d+(1:Nat)) (im,us,st))).2/\fr=fr/\tt=tt/\(mD fr tt im us st x1).1=im/\(mD fr tt im us st x1).2=us/\List.take ((st.length:Int).toNat) (((d7 fr tt im us st x1).2).2)=st/\x1.2.1+(((ba (YJ.go Y) x1.2.2 (bJ fr tt d (ke fr tt im us st x1))).1).length-x1.2.2.length)=((ba (YJ.go Y) pre (bJ fr tt (d+(1:Nat)) (im,us,st))).1).length-pre.length/\Y=Y/\(ba (YJ.go Y) x1.2.2 (bJ fr tt d (ke fr tt im us st x1))).1=(ba (YJ.go Y) pre (bJ fr tt (d+(1:Nat)) (im,us,st))).1/\(ba (YJ.go Y) x1.2.2 (bJ fr tt d (ke fr tt im us st x1))).2=(ba (YJ.go Y) pre (bJ fr tt (d+(1:Nat)) (im,us,st))).2) (af ((↑x1.1:Int)+(1:Int))/\∃x3:Nat×Nat×D2,(x3.1<=im.length/\x3.2.1+pre.length=(x3.2.2).length/\ba (YJ.go Y) x3.2.2 (iX d fr tt im us st x3)=ba (YJ.go Y) pre (bJ fr tt (d+(1:Nat)) (im,us,st))/\eI (YJ.ok Y) (YJ.go Y) x3.2.2 (iX d fr tt im us st x3))/\im.length-x3.1<im.length-x1.1/\aY (-1:Int) im (0:Int)=aY (-1:Int) im (0:Int)/\(st.length:Int)=(st.length:Int)/\(im.length:Int)=(im.length:Int)/\(↑x1.1:Int)+(1:Int)=(↑x3.1:Int)/\fr=fr/\tt=tt/\(mD fr tt im us st x1).1=im/\(mD fr tt im us st x1).2=us/\List.take ((st.length:Int).toNat) (((d7 fr tt im us st x1).2).2)=st/\x1.2.1+(((ba (YJ.go Y) x1.2.2 (bJ fr tt d (ke fr tt im us st x1))).1).length-x1.2.2.length)=x3.2.1/\Y=Y/\(ba (YJ.go Y) x1.2.2 (bJ fr tt d (ke fr tt im us st x1))).1=x3.2.2/\(ba (YJ.go Y) x1.2.2 (bJ fr tt d (ke fr tt im us st x1))).2=true)) (((0:Int)<=(st.length:Int)/\(st.length:Int)<=(↑((((d7 fr tt im us st x1).2).2).length):Int)/\(((d7 fr tt im us st x1).2).2).length<=(1000:Nat)/\jx (List.drop ((st.length:Int).toNat) (((d7 fr tt im us st x1).2).2)) (d7 fr tt im us st x1).1 (((d7 fr tt im us st x1).2).1))/\af ((↑x1.1:Int)+(1:Int))/\∃x4:Nat×Nat×D2,(x4.1<=im.length/\x4.2.1+pre.length=(x4.2.2).length/\ba (YJ.go Y) x4.2.2 (iX d fr tt im us st x4)=ba (YJ.go Y) pre (bJ fr tt (d+(1:Nat)) (im,us,st))/\eI (YJ.ok Y) (YJ.go Y) x4.2.2 (iX d fr tt im us st x4))/\im.length-x4.1<im.length-x1.1/\aY (-1:Int) im (0:Int)=aY (-1:Int) im (0:Int)/\(st.length:Int)=(st.length:Int)/\(im.length:Int)=(im.length:Int)/\(↑x1.1:Int)+(1:Int)=(↑x4.1:Int)/\fr=fr/\tt=tt/\(mD fr tt im us st x1).1=im/\(mD fr tt im us st x1).2=us/\List.take ((st.length:Int).toNat) (((d7 fr tt im us st x1).2).2)=st/\x1.2.1=x4.2.1/\Y=Y/\x1.2.2=x4.2.2/\true=true))) (true=(ba (YJ.go Y) pre (bJ fr tt (d+(1:Nat)) (im,us,st))).2/\fr=fr/\tt=tt/\im=im/\us=us/\st=st/\x1.2.1=((ba (YJ.go Y) pre (bJ fr tt (d+(1:Nat)) (im,us,st))).1).length-pre.length/\Y=Y/\x1.2.2=(ba (YJ.go Y) pre (bJ fr tt (d+(1:Nat)) (im,us,st))).1/\true=(ba (YJ.go Y) pre (bJ fr tt (d+(1:Nat)) (im,us,st))).2))
theorem VZ(d:Nat)(fr:D3)(tt:D3)(im:D1)(us:List Bool)(st:D1)(Y:YJ)(pre:D2):kN Tryz.prog (ah (M7 d)) aj (M6 (d+1) fr tt im us st Y pre) Tryz.f130 (aF Tryz.f130) [.box [.c (.r3 .i64 fr),.c (.r3 .i64 tt),.ob (.ints 2 .i64 im),.ob (.bools 4 us),.ob (.ints 2 .i64 st)],.m (.ob (.yd 0 Y pre true))] (M3 (d+1) fr tt im us st Y pre) (gD 0 (M4 (d+1) fr tt im us st Y pre)++g4 (M5 (d+1) fr tt im us st Y pre))=ET d fr tt im us st Y pre:=by kernel_rfl
theorem V0(d:Nat)(fr:D3)(tt:D3)(im:D1)(us:List Bool)(st:D1)(Y:YJ)(pre:D2)(ξ:(oh (d+1) fr tt im us st Y pre).pre):ET d fr tt im us st Y pre:=by
 simp only[oh,ET,d7,iX,mD,ke,aJ]at ξ⊢;obtain⟨⟨⟨hn,hlen,hf100,hfr,htt,hw⟩,hi⟩,hfd,hP,he,hok⟩:=ξ;have eL:bJ fr tt (d+1) (im,us,st)=if aY (-1) im 0<0 then [im]else f7 fr tt (bJ fr tt d) (im,us,st) (aY (-1) im 0) im.length 0:=rfl
 refine⟨by omega,fun h0=>?_,fun h0=>?_⟩
 ·rw[eL,AA h0]at hok⊢
  have hv:ba Y.go pre [im]=(pre++[im],Y.go pre im):=by
   rw[ba];cases h:Y.go pre im with
   |true=>rfl
   |false=>rfl
  rw[hv];exact⟨⟨hP,he,hok.1⟩,rfl,by simp,rfl,rfl⟩
 ·rw[eL,AB h0]at hok⊢
  have hx:0<=aY (-1) im 0/\aY (-1) im 0<(im.length:Int)/\gi im (aY (-1) im 0)=-1:=by
   rcases E3 (-1) im 0 (Ct _)with h|⟨h1,h2,h3⟩
   ·exact absurd h.1 h0
   ·exact⟨h1,by omega,by simpa[gi]using h3⟩
  simp only[DP];generalize aY (-1) im 0=x at *
  obtain⟨hx0,hxn,hxg⟩:=hx;have hus:us.length=im.length:=hw.us
  have hcn:st.length+cq im=im.length:=hw.cnt
  generalize hR:ba Y.go pre (f7 fr tt (bJ fr tt d) (im,us,st) x im.length 0)=R
  refine⟨⟨(0,0,pre),⟨AQ _,by simp,hR,hok⟩,rfl,rfl,rfl⟩,?_⟩
  rintro⟨v,k,pr⟩ ⟨hv,hk,hvis,hvo⟩
  simp only at hv hk hvis hvo⊢;refine⟨fun ψ=>?_,fun hge=>?_⟩
  ·have hlt':v<im.length:=by omega
   have hE:im.length-v=(im.length-(v+1))+1:=by omega
   rw[hE,f7]at hvis hvo;simp only at hvis hvo;refine⟨⟨by omega,by omega⟩,fun hu=>⟨⟨by omega,by omega⟩,?_⟩,fun hu=>?_⟩
   ·rw[AA hu,Ba]at hvis hvo
    exact⟨(v+1,k,pr),⟨hlt',hk,hvis,hvo⟩,by simp only;omega,by simp only;omega,rfl,rfl⟩
   ·rw[AB (by rw[hu];simp)]at hvis hvo
    have hv0:(0:Int)<=(v:Int):=by omega
    have hM:=mF hfr htt 101 x (v:Int) (im,us,st) hx0 hxn hv0 ψ hw
    have hL:=Nq hfr htt (d:=100) (v:=(v:Int)) hx0 hxn hv0 ψ hw (by show gi im x<0;omega) (by simpa using hu)
    have hU:=V6 hw hi hM
    have hW:=hM.wf
    have hi':=hM.hon hi
    generalize aH fr tt 101 x (v:Int) (im,us,st)=r at *
    obtain⟨rb,a,b,c⟩:=r;simp only at hM hL hU hW hi' hvis hvo⊢;obtain⟨u1,u2,u3,u4⟩:=hU;have ha:a.length=im.length:=hW.im
    have hcn2:c.length+cq a=im.length:=hW.cnt
    rw[u2,u3];refine⟨⟨⟨hn,hlen,hf100,hfr,htt,hw⟩,by omega,hx0,hxn,hv0,ψ⟩,fun hq=>?_,fun hq=>?_⟩
    ·rw[AA hq]at hvis hvo
     rw[Nn]at hvis;rw[No]at hvo;have hvl:=Np (go:=Y.go) (bJ fr tt d (a,b,c)) pr
     refine⟨⟨⟨by rw[ha];exact⟨hn,hlen,hf100,hfr,htt,hW⟩,by rw[ha];exact hi'⟩,by omega,hP,he,hvo.1⟩,⟨by omega,by omega,by omega,u1⟩,fun hz=>?_,fun hz=>⟨⟨by omega,by omega⟩,?_⟩⟩
     ·rw[AB (by rw[hz];simp)]at hvis
      rw[hvis]at hz hvl⊢;exact⟨hz.symm,rfl,rfl,rfl,by omega,rfl,rfl⟩
     ·rw[AA hz]at hvis
      exact⟨(v+1,k+((ba Y.go pr (bJ fr tt d (a,b,c))).1.length-pr.length),(ba Y.go pr (bJ fr tt d (a,b,c))).1),⟨hlt',by simp only;omega,hvis,hvo.2 hz⟩,by simp only;omega,by simp only;omega,rfl,rfl,rfl,rfl,rfl,hz⟩
    ·rw[AB (by rw[hq];simp),Ba]at hvis hvo
     exact⟨⟨by omega,by omega,by omega,u1⟩,⟨by omega,by omega⟩,(v+1,k,pr),⟨hlt',hk,hvis,hvo⟩,by simp only;omega,by simp only;omega,rfl,rfl,rfl,rfl,rfl⟩
  ·have hz:im.length-v=0:=by omega
   rw[hz,f7]at hvis;rw[<-hvis];exact⟨rfl,by simp only[ba];omega,rfl,rfl⟩
theorem V1(fr:D3)(tt:D3)(im:D1)(us:List Bool)(st:D1)(Y:YJ)(pre:D2)(h:(oh 0 fr tt im us st Y pre).pre):False:=by
 simp only[oh]at h;omega
theorem V2(d:Nat):Fits Tryz.prog 130 ⟨[(0,93),(0,93)],ol d⟩:=by
 induction d with
 |zero =>
  refine Iq ⟨Tryz.f130,Tryz.func130,by kernel_rfl,by kernel_rfl⟩ fun ds p h hp=>?_
  unfold ol at h;split at h
  ·cases h
   exact V1 _ _ _ _ _ _ _  hp
  ·cases h
 |succ d ih =>
  refine nA (Γ:=ah (M7 d)) (aw LG (aw (UK 101) (aw UC (aw ih aI)))) Tryz.func130 (by kernel_rfl) (by kernel_rfl) (fun ads p h=>?_) fun mas q sv ex outs h hq=>?_
  ·unfold ol at h
   split at h
   ·cases h;rfl
   ·cases h
  ·unfold ol at h
   split at h
   ·rename_i heq
    have heq:=lY (l:=[_,_]) heq
    subst heq;unfold oh at h;cases h;exact⟨aj,M6 _ _ _ _ _ _ _ _ ,by rw[VZ];exact V0 _ _ _ _ _ _ _ _  hq⟩
   ·cases h
def bC(fr:D3):Nat:=(fr.getD 0 []).length
def fk(n:Nat):MS:=(List.replicate n (-1),List.replicate n false,[])
def bF(fr tt:D3):D2:=if bC tt=bC fr then bJ fr tt 101 (fk (bC fr))else []
def iY(fr tt:D3):Prop:=1<=fr.length/\fr.length=tt.length/\fr.length<=100/\bC fr<=100/\c6 (bC fr) fr/\(bC tt=bC fr->c6 (bC fr) tt)
theorem EU(n:Nat):cq (List.replicate n (-1))=n:=by
 induction n with
 |zero=>rfl
 |succ n ih=>rw[Dc,cq,B6];rw[cq]at ih;rw[ih];simp
theorem om{n:Nat}{x:Int}(h:0<=x)(k:x<n):gi (List.replicate n (-1)) x=-1:=by
 have:x.toNat<n:=by omega
 simp[gi,List.getD,this]
theorem M8(n:Nat):MW n (fk n):=⟨by simp[fk],by simp[fk],fun x hx=>by simp[fk]at hx,fun z h0 h1=>by rw[fk,om h0 h1];omega,by simp[fk,EU]⟩
theorem M9(n:Nat):MI n (fk n):=⟨by simp[fk],fun x h0 h1=>by simp only[fk];rw[om h0 h1];simp,fun x h0 h1 _=>by rw[fk,om h0 h1],fun x y h0 h1 _ _ h=>by simp only[fk]at h;rw[om h0 h1]at h;omega,fun v h0 h1=>by
 simp only[fk]
 constructor
 ·intro h
  have:v.toNat<n:=by omega
  simp[List.getD,this]at h
 ·rintro⟨x,x0,x1,e⟩
  rw[om x0 x1]at e;omega⟩
def Na(Y:YJ)(fr:D3)(tt:D3):SV:=.tup []
def Nb(Y:YJ)(fr:D3)(tt:D3):List MA:=[.m (.ob (.yd (ba Y.go [] (bF fr tt)).1.length Y (ba Y.go [] (bF fr tt)).1 (ba Y.go [] (bF fr tt)).2)),.box [.c (.r3 .i64 fr)],.box [.c (.r3 .i64 tt)]]
def Nc(Y:YJ)(fr:D3)(tt:D3):List (Nat×Ob):=[]
def ug(Y:YJ)(fr:D3)(tt:D3):Post:=⟨iY fr tt/\Y.P=Tryz.prog/\Y.e=2/\eI Y.ok Y.go [] (bF fr tt),.st (Na Y fr tt) (Nc Y fr tt) (Nb Y fr tt),[]⟩
def pU:List AD->Option Post
 | [.ma (.m (.ob (.yd 0 Y [] true))),.ma (.box [.c (.r3 .i64 fr)]),.ma (.box [.c (.r3 .i64 tt)])]=>some (ug Y fr tt)
 |_=>none
def Nd(Y:YJ)(fr:D3)(tt:D3):Nat->Option Ann
 |0=>Q' fun i=>⟨⟨[(0,J' 7000),(1,M' 7100),(2,M' 7200),(5,M' 500),(26,A' (bC fr:Int)),(27,A' i)],[(7000,some (.yd 0 Y [] true)),(7100,P' [.ro (.r3 .i64 fr)]),(7200,P' [.ro (.r3 .i64 tt)]),(500,P' [.ro (.r3 .i64 fr),.ro (.r3 .i64 tt),.own 501,.own 502,.nil]),(501,O' (List.replicate i (-1)++List.replicate (bC fr-i) 0)),(502,some (.bools 4 ((List.replicate (bC fr) false))))]⟩,i<=bC fr,bC fr-i⟩
 |_=>none
def Nf:List (Nat×Ctr):=[(130,⟨[(0,93),(0,93)],ol 101⟩)]
def iv(fr:D3):=(↑((fr.getD (0:Nat) ([]:D2)).length):Int)
def oo(fr:D3)(x0:Nat):=(List.replicate x0 (-1:Int)++List.replicate (bC fr-x0) (0:Int),List.replicate (bC fr) false,([]:D1))
def EW(Y:YJ)(fr:D3)(tt:D3):Prop :=
 ac (0:Int) fr.length/\ac (0:Int) tt.length/\ab ((↑((tt.getD (0:Nat) ([]:D2)).length):Int) != (↑((fr.getD (0:Nat) ([]:D2)).length):Int)) ((0:Nat)=((ba (YJ.go Y) ([]:D2) (bF fr tt)).1).length/\Y=Y/\([]:D2)=(ba (YJ.go Y) ([]:D2) (bF fr tt)).1/\true=(ba (YJ.go Y) ([]:D2) (bF fr tt)).2/\fr=fr/\tt=tt) (((0:Int)<=(iv fr)/\(iv fr)<=(iv fr)/\am (iv fr).toNat)/\((0:Int)<=(iv fr)/\(iv fr)<=(iv fr)/\am (iv fr).toNat)/\(∃x0:Nat,x0<=bC fr/\(↑((List.replicate (iv fr).toNat (0:Int)).length):Int)=(bC fr:Int)/\(0:Int)=(x0:Int)/\(0:Nat)=(0:Nat)/\Y=Y/\([]:D2)=([]:D2)/\true=true/\fr=fr/\tt=tt/\fr=fr/\tt=tt/\List.replicate (iv fr).toNat (0:Int)=List.replicate x0 (-1:Int)++List.replicate (bC fr-x0) (0:Int)/\List.replicate (iv fr).toNat false=List.replicate (bC fr) false)/\∀x1:Nat,x1<=bC fr->ab (decide ((x1:Int)<(bC fr:Int))) (ac (x1:Int) ((List.replicate x1 (-1:Int)++List.replicate (bC fr-x1) (0:Int)).length)/\af ((x1:Int)+(1:Int))/\∃x2:Nat,x2<=bC fr/\bC fr-x2<bC fr-x1/\(bC fr:Int)=(bC fr:Int)/\(x1:Int)+(1:Int)=(x2:Int)/\(0:Nat)=(0:Nat)/\Y=Y/\([]:D2)=([]:D2)/\true=true/\fr=fr/\tt=tt/\fr=fr/\tt=tt/\List.set (List.replicate x1 (-1:Int)++List.replicate (bC fr-x1) (0:Int)) (x1:Int).toNat (-1:Int)=List.replicate x2 (-1:Int)++List.replicate (bC fr-x2) (0:Int)/\List.replicate (bC fr) false=List.replicate (bC fr) false) ((ES ((List.replicate x1 (-1:Int)++List.replicate (bC fr-x1) (0:Int)).length) fr tt (oo fr x1)/\cq (List.replicate x1 (-1:Int)++List.replicate (bC fr-x1) (0:Int))<(101:Nat)/\YJ.P Y=Go.Proofs.Tryz.prog/\YJ.e Y=(2:Go.TypeId)/\eI (YJ.ok Y) (YJ.go Y) ([]:D2) (bJ fr tt (101:Nat) (oo fr x1)))/\(0:Nat)+(((ba (YJ.go Y) ([]:D2) (bJ fr tt (101:Nat) (oo fr x1))).1).length-([]:D2).length)=((ba (YJ.go Y) ([]:D2) (bF fr tt)).1).length/\Y=Y/\(ba (YJ.go Y) ([]:D2) (bJ fr tt (101:Nat) (oo fr x1))).1=(ba (YJ.go Y) ([]:D2) (bF fr tt)).1/\(ba (YJ.go Y) ([]:D2) (bJ fr tt (101:Nat) (oo fr x1))).2=(ba (YJ.go Y) ([]:D2) (bF fr tt)).2/\fr=fr/\tt=tt))
theorem V3(Y:YJ)(fr:D3)(tt:D3):kN Tryz.prog (ah Nf) aj (Nd Y fr tt) Tryz.f129 (aF Tryz.f129) [.m (.ob (.yd 0 Y [] true)),.box [.c (.r3 .i64 fr)],.box [.c (.r3 .i64 tt)]] (Na Y fr tt) (gD 0 (Nb Y fr tt)++g4 (Nc Y fr tt))=EW Y fr tt:=by kernel_rfl
theorem V4(Y:YJ)(fr:D3)(tt:D3)(ξ:(ug Y fr tt).pre):EW Y fr tt:=by
 simp only[ug,EW,iv,oo,aJ]at ξ⊢;obtain⟨⟨h1,h2,h3,h4,hf,ht⟩,hP,he,hok⟩:=ξ;refine⟨⟨by omega,by omega⟩,⟨by omega,by omega⟩,fun hne=>?_,fun heq=>⟨⟨by omega,by omega,?_⟩,⟨by omega,by omega,?_⟩,⟨0,AQ _,rfl,rfl,by simp[bC],rfl⟩,fun i hi=>⟨fun ψ=>?_,fun hge=>?_⟩⟩⟩
 ·have e:bF fr tt=[]:=AB (fun e=>hne (by simp only[bC]at e;omega))
  rw[e];exact⟨rfl,rfl,rfl⟩
 ·simp only[bC]at h4;omega
 ·simp only[bC]at h4;omega
 ·refine⟨by omega,by omega,i+1,by omega,by omega,by omega,?_⟩
  have:bC fr-i=(bC fr-(i+1))+1:=by omega
  rw[this,Dc,List.set_append_right _ _ (by simp)]
  simp[List.replicate_succ']
 ·have ei:i=bC fr:=by omega
  subst ei;have en:bC tt=bC fr:=by simp only[bC];omega
  have e:bF fr tt=bJ fr tt 101 (fk (bC fr)):=AA en
  simp only[Nat.sub_self,List.replicate_zero,Ac,Bc,B5,AJ];rw[e]at hok⊢;exact⟨⟨⟨⟨h4,h2,h3,hf,ht en,M8 _⟩,M9 _⟩,by rw[EU];omega,hP,he,hok⟩,rfl,rfl,rfl⟩
theorem Ng:Fits Tryz.prog 129 ⟨[(0,93),(0,93)],pU⟩:=by
 refine nA (Γ:=ah Nf) (aw (V2 101) aI) Tryz.func129 (by kernel_rfl) (by kernel_rfl) (fun ads p h=>?_) fun mas q sv ex outs h hq=>?_
 ·unfold pU at h
  split at h
  ·cases h;rfl
  ·cases h
 ·unfold pU at h
  split at h
  ·rename_i heq
   have heq:=lY (l:=[_,_,_]) heq
   subst heq;unfold ug at h;cases h;exact⟨aj,Nd _ _ _ ,by rw[V3];exact V4 _ _ _  hq⟩
  ·cases h
end Go.Sx
