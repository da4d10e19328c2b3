/- MpgE -/
import Derived.Test.YtkmldclpaniclaaGreatMpgB
import Derived.Test.YtkmldclpaniclaaGreatMpgL
import Derived.Test.YtkmldclpaniclaaGreatGrpC
import Derived.Test.YtkmldclpaniclaaGreatLists
set_option linter.unusedSimpArgs false
set_option linter.unusedVariables false
open Go Go.Proofs
namespace Go.Sx
def yJ(n:Nat)(fr tt:List (List (List Int)))(s:MS):Prop:=oe n fr tt s/\MI n s
def Gv(d:Nat)(fr:List (List (List Int)))(tt:List (List (List Int)))(im:List Int)(us:List Bool)(st:List Int)(Y:YJ)(pre:List (List Int)):SV:=.c (.bool ((bd Y.go pre (bz fr tt d (im,us,st))).2))
def Gw(d:Nat)(fr:List (List (List Int)))(tt:List (List (List Int)))(im:List Int)(us:List Bool)(st:List Int)(Y:YJ)(pre:List (List Int)):List MA:=[.box [.c (.r3 .i64 fr),.c (.r3 .i64 tt),.ob (.ints 2 .i64 im),.ob (.bools 4 us),.ob (.ints 2 .i64 st)],.m (.ob (.yd ((bd Y.go pre (bz fr tt d (im,us,st))).1.length-pre.length) Y (bd Y.go pre (bz fr tt d (im,us,st))).1 (bd Y.go pre (bz fr tt d (im,us,st))).2))]
def Gx(d:Nat)(fr:List (List (List Int)))(tt:List (List (List Int)))(im:List Int)(us:List Bool)(st:List Int)(Y:YJ)(pre:List (List Int)):List (Nat×Ob):=[]
def mK(d:Nat)(fr:List (List (List Int)))(tt:List (List (List Int)))(im:List Int)(us:List Bool)(st:List Int)(Y:YJ)(pre:List (List Int)):Post:=⟨yJ im.length fr tt (im,us,st)/\bY im<d/\Y.P=Tryz.prog/\Y.e=2/\eh Y.ok Y.go pre (bz fr tt d (im,us,st)),.st (Gv d fr tt im us st Y pre) (Gx d fr tt im us st Y pre) (Gw d fr tt im us st Y pre),[]⟩
def mL(d:Nat):List AD->Option Post
 | [.ma (.box [.c (.r3 .i64 fr),.c (.r3 .i64 tt),.ob (.ints 2 .i64 im),.ob (.bools 4 us),.ob (.ints 2 .i64 st)]),.ma (.m (.ob (.yd 0 Y pre true)))]=>some (mK d fr tt im us st Y pre)
 |_=>none
def Gy(d:Nat)(fr:List (List (List Int)))(tt:List (List (List Int)))(im:List Int)(us:List Bool)(st:List Int)(Y:YJ)(pre:List (List Int)):Nat->Option Ann
 |0=>some (Ann.mk ((Nat)×(Nat)×(List (List Int))) (fun x=>match x with|(v,k,pr)=>⟨[(0,.c (.ptr 7000 0)),(1,.c (.own 7100)),(5,.c (.int .i64 ((bf (-1) im 0)))),(6,.c (.int .i64 ((st.length:Int)))),(31,.c (.int .i64 ((im.length:Int)))),(32,.c (.int .i64 ((v:Int))))],[(7000,some (.box [.ro (.r3 .i64 fr),.ro (.r3 .i64 tt),.own 7003,.own 7004,.own 7005])),(7003,some (.ints 2 .i64 im)),(7004,some (.bools 4 us)),(7005,some (.ints 2 .i64 st)),(7100,some (.yd k Y pr true))]⟩) (fun x=>match x with|(v,k,pr)=>v<=im.length/\k+pre.length=pr.length/\bd Y.go pr (fB fr tt (bz fr tt (d-1)) (im,us,st) (bf (-1) im 0) (im.length-v) v)=bd Y.go pre (bz fr tt d (im,us,st))/\eh Y.ok Y.go pr (fB fr tt (bz fr tt (d-1)) (im,us,st) (bf (-1) im 0) (im.length-v) v)) (fun x=>match x with|(v,k,pr)=>im.length-v) (fun _=>ar))
 |_=>none
def Gz(d:Nat):List (Nat×Ctr):=[(179,⟨[],xp⟩),(180,⟨[(0,93),(0,93)],mJ 101⟩),(181,⟨[(0,93),(0,93)],qU⟩),(130,⟨[(0,93),(0,93)],mL d⟩)]
def dN(fr:List (List (List Int)))(tt:List (List (List Int)))(im:List Int)(us:List Bool)(st:List Int)(x0:Nat×Nat×List (List Int)):=((aE fr tt (101:Nat) (bf (-1:Int) im (0:Int)) (↑x0.1:Int) (im,us,st)).2)
def g7(d:Nat)(fr:List (List (List Int)))(tt:List (List (List Int)))(im:List Int)(us:List Bool)(st:List Int)(x0:Nat×Nat×List (List Int)):=(fB fr tt (bz fr tt (d+(1:Nat)-(1:Nat))) (im,us,st) (bf (-1:Int) im (0:Int)) (im.length-x0.1) x0.1)
def kU(fr:List (List (List Int)))(tt:List (List (List Int)))(im:List Int)(us:List Bool)(st:List Int)(x0:Nat×Nat×List (List Int)):=(dg (List.drop ((↑(st.length):Int).toNat) (((dN fr tt im us st x0).2).2)) (dN fr tt im us st x0).1 (((dN fr tt im us st x0).2).1))
def jn(fr:List (List (List Int)))(tt:List (List (List Int)))(im:List Int)(us:List Bool)(st:List Int)(x0:Nat×Nat×List (List Int)):=((dN fr tt im us st x0).1,((dN fr tt im us st x0).2).1,((dN fr tt im us st x0).2).2)
def yK(d:Nat)(fr:List (List (List Int)))(tt:List (List (List Int)))(im:List Int)(us:List Bool)(st:List Int)(Y:YJ)(pre:List (List Int)):Prop :=
 ((im.length<=(1099511627776:Nat)/\True)/\(af (decide (bf (-1:Int) im (0:Int)<(0:Int))) ((YJ.P Y=Go.Proofs.Tryz.prog/\YJ.e Y=(2:Nat)/\true=true/\YJ.ok Y pre im)/\YJ.go Y pre im=(bd (YJ.go Y) pre (bz fr tt (d+(1:Nat)) (im,us,st))).2/\fr=fr/\tt=tt/\im=im/\us=us/\st=st/\(1:Nat)=((bd (YJ.go Y) pre (bz fr tt (d+(1:Nat)) (im,us,st))).1).length-pre.length/\Y=Y/\pre++im::([]:List (List Int))=(bd (YJ.go Y) pre (bz fr tt (d+(1:Nat)) (im,us,st))).1/\YJ.go Y pre im=(bd (YJ.go Y) pre (bz fr tt (d+(1:Nat)) (im,us,st))).2) ((∃x0:Nat×Nat×List (List Int),((x0.1<=im.length/\x0.2.1+pre.length=(x0.2.2).length/\bd (YJ.go Y) x0.2.2 (g7 d fr tt im us st x0)=bd (YJ.go Y) pre (bz fr tt (d+(1:Nat)) (im,us,st))/\eh (YJ.ok Y) (YJ.go Y) x0.2.2 (g7 d fr tt im us st x0))/\bf (-1:Int) im (0:Int)=bf (-1:Int) im (0:Int)/\(st.length:Int)=(st.length:Int)/\(im.length:Int)=(im.length:Int)/\(0:Int)=(↑x0.1:Int)/\fr=fr/\tt=tt/\im=im/\us=us/\st=st/\(0:Nat)=x0.2.1/\Y=Y/\pre=x0.2.2/\true=true))/\(∀x1:Nat×Nat×List (List Int),((x1.1<=im.length/\(x1.2.1+pre.length=(x1.2.2).length/\((bd (YJ.go Y) x1.2.2 (g7 d fr tt im us st x1)=bd (YJ.go Y) pre (bz fr tt (d+(1:Nat)) (im,us,st))) /\
 (eh (YJ.ok Y) (YJ.go Y) x1.2.2 (g7 d fr tt im us st x1)))))->(af (decide ((↑x1.1:Int)<(im.length:Int))) ((ab (↑x1.1:Int) us.length)/\(af (us.getD (↑x1.1:Int).toNat false) ((ae ((↑x1.1:Int)+(1:Int)))/\(∃x2:Nat×Nat×List (List Int),(((x2.1<=im.length)/\((x2.2.1+pre.length=(x2.2.2).length)/\((bd (YJ.go Y) x2.2.2 (g7 d fr tt im us st x2)=bd (YJ.go Y) pre (bz fr tt (d+(1:Nat)) (im,us,st)))/\(eh (YJ.ok Y) (YJ.go Y) x2.2.2 (g7 d fr tt im us st x2)))))/\((im.length-x2.1<im.length-x1.1)/\((bf (-1:Int) im (0:Int)=bf (-1:Int) im (0:Int))/\(((st.length:Int)=(st.length:Int))/\(((im.length:Int)=(im.length:Int))/\(((↑x1.1:Int)+(1:Int)=(↑x2.1:Int))/\((fr=fr)/\((tt=tt)/\((im=im)/\((us=us)/\((st=st)/\((x1.2.1=x2.2.1)/\((Y=Y)/\((x1.2.2=x2.2.2)/\(true=true))))))))))))))))) (((oe im.length fr tt (im,us,st))/\((bY im<(101:Nat))/\(((0:Int)<=bf (-1:Int) im (0:Int))/\((bf (-1:Int) im (0:Int)<(im.length:Int))/\(((0:Int)<=(↑x1.1:Int))/\((↑x1.1:Int)<(im.length:Int)))))))/\(af ((aE fr tt (101:Nat) (bf (-1:Int) im (0:Int)) (↑x1.1:Int) (im,us,st)).1) (((yJ (((dN fr tt im us st x1).1).length) fr tt (jn fr tt im us st x1))/\((bY (dN fr tt im us st x1).1<d)/\((YJ.P Y=Go.Proofs.Tryz.prog)/\((YJ.e Y=(2:Go.TypeId))/\(eh (YJ.ok Y) (YJ.go Y) x1.2.2 (bz fr tt d (jn fr tt im us st x1)))))))/\((((0:Int)<=(st.length:Int)) /\
 (((st.length:Int)<=(↑((((dN fr tt im us st x1).2).2).length):Int))/\(((((dN fr tt im us st x1).2).2).length<=(1000:Nat))/\(iK (List.drop ((st.length:Int).toNat) (((dN fr tt im us st x1).2).2)) (dN fr tt im us st x1).1 (((dN fr tt im us st x1).2).1)))))/\(af (!(bd (YJ.go Y) x1.2.2 (bz fr tt d (((aE fr tt (101:Nat) (bf (-1:Int) im (0:Int)) (↑x1.1:Int) (im,us,st)).2).1,(((aE fr tt (101:Nat) (bf (-1:Int) im (0:Int)) (↑x1.1:Int) (im,us,st)).2).2).1,(((aE fr tt (101:Nat) (bf (-1:Int) im (0:Int)) (↑x1.1:Int) (im,us,st)).2).2).2))).2) ((false=(bd (YJ.go Y) pre (bz fr tt (d+(1:Nat)) (im,us,st))).2)/\((fr=fr)/\((tt=tt)/\(((kU fr tt im us st x1).1=im)/\(((kU fr tt im us st x1).2=us)/\((List.take ((st.length:Int).toNat) (((dN fr tt im us st x1).2).2)=st)/\((x1.2.1+(((bd (YJ.go Y) x1.2.2 (bz fr tt d (jn fr tt im us st x1))).1).length-x1.2.2.length)=((bd (YJ.go Y) pre (bz fr tt (d+(1:Nat)) (im,us,st))).1).length-pre.length)/\((Y=Y)/\(((bd (YJ.go Y) x1.2.2 (bz fr tt d (jn fr tt im us st x1))).1=(bd (YJ.go Y) pre (bz fr tt (d+(1:Nat)) (im,us,st))).1)/\((bd (YJ.go Y) x1.2.2 (bz fr tt d (jn fr tt im us st x1))).2=(bd (YJ.go Y) pre (bz fr tt (d+(1:Nat)) (im,us,st))).2)))))))))) ((ae ((↑x1.1:Int)+(1:Int)))/\(∃x3:Nat×Nat×List (List Int),(((x3.1<=im.length)/\((x3.2.1+pre.length=(x3.2.2).length) /\
 ((bd (YJ.go Y) x3.2.2 (g7 d fr tt im us st x3)=bd (YJ.go Y) pre (bz fr tt (d+(1:Nat)) (im,us,st)))/\(eh (YJ.ok Y) (YJ.go Y) x3.2.2 (g7 d fr tt im us st x3)))))/\((im.length-x3.1<im.length-x1.1)/\((bf (-1:Int) im (0:Int)=bf (-1:Int) im (0:Int))/\(((st.length:Int)=(st.length:Int))/\(((im.length:Int)=(im.length:Int))/\(((↑x1.1:Int)+(1:Int)=(↑x3.1:Int))/\((fr=fr)/\((tt=tt)/\(((kU fr tt im us st x1).1=im)/\(((kU fr tt im us st x1).2=us)/\((List.take ((st.length:Int).toNat) (((dN fr tt im us st x1).2).2)=st)/\((x1.2.1+(((bd (YJ.go Y) x1.2.2 (bz fr tt d (jn fr tt im us st x1))).1).length-x1.2.2.length)=x3.2.1)/\((Y=Y)/\(((bd (YJ.go Y) x1.2.2 (bz fr tt d (jn fr tt im us st x1))).1=x3.2.2)/\((bd (YJ.go Y) x1.2.2 (bz fr tt d (jn fr tt im us st x1))).2=true)))))))))))))))))))) ((((0:Int)<=(st.length:Int))/\(((st.length:Int)<=(↑((((dN fr tt im us st x1).2).2).length):Int))/\(((((dN fr tt im us st x1).2).2).length<=(1000:Nat))/\(iK (List.drop ((st.length:Int).toNat) (((dN fr tt im us st x1).2).2)) (dN fr tt im us st x1).1 (((dN fr tt im us st x1).2).1)))))/\((ae ((↑x1.1:Int)+(1:Int)))/\(∃x4:Nat×Nat×List (List Int),(((x4.1<=im.length)/\((x4.2.1+pre.length=(x4.2.2).length)/\((bd (YJ.go Y) x4.2.2 (g7 d fr tt im us st x4)=bd (YJ.go Y) pre (bz fr tt (d+(1:Nat)) (im,us,st))) /\
 (eh (YJ.ok Y) (YJ.go Y) x4.2.2 (g7 d fr tt im us st x4)))))/\((im.length-x4.1<im.length-x1.1)/\((bf (-1:Int) im (0:Int)=bf (-1:Int) im (0:Int))/\(((st.length:Int)=(st.length:Int))/\(((im.length:Int)=(im.length:Int))/\(((↑x1.1:Int)+(1:Int)=(↑x4.1:Int))/\((fr=fr)/\((tt=tt)/\(((kU fr tt im us st x1).1=im)/\(((kU fr tt im us st x1).2=us)/\((List.take ((st.length:Int).toNat) (((dN fr tt im us st x1).2).2)=st)/\((x1.2.1=x4.2.1)/\((Y=Y)/\((x1.2.2=x4.2.2)/\(true=true)))))))))))))))))))))) ((true=(bd (YJ.go Y) pre (bz fr tt (d+(1:Nat)) (im,us,st))).2)/\((fr=fr)/\((tt=tt)/\((im=im)/\((us=us)/\((st=st)/\((x1.2.1=((bd (YJ.go Y) pre (bz fr tt (d+(1:Nat)) (im,us,st))).1).length-pre.length)/\((Y=Y)/\((x1.2.2=(bd (YJ.go Y) pre (bz fr tt (d+(1:Nat)) (im,us,st))).1)/\(true=(bd (YJ.go Y) pre (bz fr tt (d+(1:Nat)) (im,us,st))).2))))))))))))))))
theorem Pj(d:Nat)(fr:List (List (List Int)))(tt:List (List (List Int)))(im:List Int)(us:List Bool)(st:List Int)(Y:YJ)(pre:List (List Int)):kC Tryz.prog (ai (Gz d)) aj (Gy (d+1) fr tt im us st Y pre) Tryz.f130 (aF Tryz.f130) [.box [.c (.r3 .i64 fr),.c (.r3 .i64 tt),.ob (.ints 2 .i64 im),.ob (.bools 4 us),.ob (.ints 2 .i64 st)],.m (.ob (.yd 0 Y pre true))] (Gv (d+1) fr tt im us st Y pre) (gq 0 (Gw (d+1) fr tt im us st Y pre)++gN (Gx (d+1) fr tt im us st Y pre))=yK d fr tt im us st Y pre:=by kernel_rfl
theorem Pk(d:Nat)(fr:List (List (List Int)))(tt:List (List (List Int)))(im:List Int)(us:List Bool)(st:List Int)(Y:YJ)(pre:List (List Int))(Yh:(mK (d+1) fr tt im us st Y pre).pre):yK d fr tt im us st Y pre:=by
 simp only[mK,yK,dN,g7,kU,jn,aK,u1,u2,u3,u4,u5,u6,u7,u8,u9,v1,v2,v3,v4,v5,v6,v7,v8,v9,w1,w2,w3,w4,aC,ab,ae,ag,av]at Yh⊢;obtain⟨⟨⟨hn,hlen,hf100,hfr,htt,hw⟩,hi⟩,hfd,hP,he,hok⟩:=Yh;have eL:bz fr tt (d+1) (im,us,st)=if bf (-1) im 0<0 then [im]else fB fr tt (bz fr tt d) (im,us,st) (bf (-1) im 0) im.length 0:=rfl
 refine⟨by omega,fun h0=>?_,fun h0=>?_⟩
 ·rw[eL,if_pos h0]at hok⊢
  have hv:bd Y.go pre [im]=(pre++[im],Y.go pre im):=by
   rw[bd];cases h:Y.go pre im with
   |true=>rfl
   |false=>rfl
  rw[hv];exact⟨⟨hP,he,hok.1⟩,rfl,by simp,rfl,rfl⟩
 ·rw[eL,if_neg h0]at hok⊢
  have hx:0<=bf (-1) im 0/\bf (-1) im 0<(im.length:Int)/\gi im (bf (-1) im 0)=-1:=by
   rcases yU (-1) im 0 (Int.le_refl _)with h|⟨h1,h2,h3⟩
   ·exact absurd h.1 h0
   ·exact⟨h1,by omega,by simpa[gi]using h3⟩
  simp only[Nat.add_sub_cancel];generalize bf (-1) im 0=x at *
  obtain⟨hx0,hxn,hxg⟩:=hx;have hus:us.length=im.length:=hw.us
  have hcn:st.length+bY im=im.length:=hw.cnt
  generalize hR:bd Y.go pre (fB fr tt (bz fr tt d) (im,us,st) x im.length 0)=R
  refine⟨⟨(0,0,pre),⟨Nat.zero_le _,by simp,hR,hok⟩,rfl,rfl,rfl⟩,?_⟩
  rintro⟨v,k,pr⟩ ⟨hv,hk,hvis,hvo⟩
  simp only at hv hk hvis hvo⊢;refine⟨fun hlt=>?_,fun hge=>?_⟩
  ·have hlt':v<im.length:=by omega
   have hE:im.length-v=(im.length-(v+1))+1:=by omega
   rw[hE,fB]at hvis hvo;simp only at hvis hvo;refine⟨⟨by omega,by omega⟩,fun hu=>⟨⟨by omega,by omega⟩,?_⟩,fun hu=>?_⟩
   ·rw[if_pos hu,List.nil_append]at hvis hvo
    exact⟨(v+1,k,pr),⟨hlt',hk,hvis,hvo⟩,by simp only;omega,by simp only;omega,rfl,rfl⟩
   ·rw[if_neg (by rw[hu];simp)]at hvis hvo
    have hv0:(0:Int)<=(v:Int):=by omega
    have hM:=kY hfr htt 101 x (v:Int) (im,us,st) hx0 hxn hv0 hlt hw
    have hL:=G5 hfr htt (d:=100) (v:=(v:Int)) hx0 hxn hv0 hlt hw (by show gi im x<0;omega) (by simpa using hu)
    have hU:=PB hw hi hM
    have hW:=hM.wf
    have hi':=hM.hon hi
    generalize aE fr tt 101 x (v:Int) (im,us,st)=r at *
    obtain⟨rb,a,b,c⟩:=r;simp only at hM hL hU hW hi' hvis hvo⊢;obtain⟨u1,u2,u3,u4⟩:=hU;have ha:a.length=im.length:=hW.im
    have hcn2:c.length+bY a=im.length:=hW.cnt
    rw[u2,u3];refine⟨⟨⟨hn,hlen,hf100,hfr,htt,hw⟩,by omega,hx0,hxn,hv0,hlt⟩,fun hq=>?_,fun hq=>?_⟩
    ·rw[if_pos hq]at hvis hvo
     rw[G2]at hvis;rw[G3]at hvo;have hvl:=G4 (go:=Y.go) (bz fr tt d (a,b,c)) pr
     refine⟨⟨⟨by rw[ha];exact⟨hn,hlen,hf100,hfr,htt,hW⟩,by rw[ha];exact hi'⟩,by omega,hP,he,hvo.1⟩,⟨by omega,by omega,by omega,u1⟩,fun hz=>?_,fun hz=>⟨⟨by omega,by omega⟩,?_⟩⟩
     ·rw[if_neg (by rw[hz];simp)]at hvis
      rw[hvis]at hz hvl⊢;exact⟨hz.symm,rfl,rfl,rfl,by omega,rfl,rfl⟩
     ·rw[if_pos hz]at hvis
      exact⟨(v+1,k+((bd Y.go pr (bz fr tt d (a,b,c))).1.length-pr.length),(bd Y.go pr (bz fr tt d (a,b,c))).1),⟨hlt',by simp only;omega,hvis,hvo.2 hz⟩,by simp only;omega,by simp only;omega,rfl,rfl,rfl,rfl,rfl,hz⟩
    ·rw[if_neg (by rw[hq];simp),List.nil_append]at hvis hvo
     exact⟨⟨by omega,by omega,by omega,u1⟩,⟨by omega,by omega⟩,(v+1,k,pr),⟨hlt',hk,hvis,hvo⟩,by simp only;omega,by simp only;omega,rfl,rfl,rfl,rfl,rfl⟩
  ·have hz:im.length-v=0:=by omega
   rw[hz,fB]at hvis;rw[<-hvis];exact⟨rfl,by simp only[bd];omega,rfl,rfl⟩
theorem Pl(fr:List (List (List Int)))(tt:List (List (List Int)))(im:List Int)(us:List Bool)(st:List Int)(Y:YJ)(pre:List (List Int))(h:(mK 0 fr tt im us st Y pre).pre):False:=by
 simp only[mK]at h;omega
theorem Pm(d:Nat):Fits Tryz.prog 130 ⟨[(0,93),(0,93)],mL d⟩:=by
 induction d with
 |zero =>
  refine Cy ⟨Tryz.f130,Tryz.func130,by kernel_rfl,by kernel_rfl⟩ fun ds p h hp=>?_
  unfold mL at h;split at h
  ·cases h
   exact Pl _ _ _ _ _ _ _  hp
  ·cases h
 |succ d ih =>
  refine nH (Γ:=ai (Gz d)) (az NA (az (Pi 101) (az Nu (az ih aJ)))) Tryz.func130 (by kernel_rfl) (by kernel_rfl) (fun ads p h=>?_) fun mas q sv ex outs h hq=>?_
  ·unfold mL at h
   split at h
   ·cases h;rfl
   ·cases h
  ·unfold mL at h
   split at h
   ·rename_i heq
    have heq:=l7 (l:=[_,_]) heq
    subst heq;unfold mK at h;cases h;exact⟨aj,Gy _ _ _ _ _ _ _ _ ,by rw[Pj];exact Pk _ _ _ _ _ _ _ _  hq⟩
   ·cases h
def bt(fr:List (List (List Int))):Nat:=(fr.getD 0 []).length
def eE(n:Nat):MS:=(List.replicate n (-1),List.replicate n false,[])
def cV(fr tt:List (List (List Int))):List (List Int):=if bt tt=bt fr then bz fr tt 101 (eE (bt fr))else []
def kV(fr tt:List (List (List Int))):Prop:=1<=fr.length/\fr.length=tt.length/\fr.length<=100/\bt fr<=100/\cG (bt fr) fr/\(bt tt=bt fr->cG (bt fr) tt)
theorem yL(n:Nat):bY (List.replicate n (-1))=n:=by
 induction n with
 |zero=>rfl
 |succ n ih=>rw[List.replicate_succ,bY,List.countP_cons];rw[bY]at ih;rw[ih];simp
theorem mM{n:Nat}{x:Int}(h:0<=x)(k:x<n):gi (List.replicate n (-1)) x=-1:=by
 have:x.toNat<n:=by omega
 simp[gi,List.getD,this]
theorem GA(n:Nat):MW n (eE n):=⟨by simp[eE],by simp[eE],fun x hx=>by simp[eE]at hx,fun z h0 h1=>by rw[eE,mM h0 h1];omega,by simp[eE,yL]⟩
theorem GB(n:Nat):MI n (eE n):=⟨by simp[eE],fun x h0 h1=>by simp only[eE];rw[mM h0 h1];simp,fun x h0 h1 _=>by rw[eE,mM h0 h1],fun x y h0 h1 _ _ h=>by simp only[eE]at h;rw[mM h0 h1]at h;omega,fun v h0 h1=>by
 simp only[eE]
 constructor
 ·intro h
  have:v.toNat<n:=by omega
  simp[List.getD,this]at h
 ·rintro⟨x,x0,x1,e⟩
  rw[mM x0 x1]at e;omega⟩
def GC(Y:YJ)(fr:List (List (List Int)))(tt:List (List (List Int))):SV:=.tup []
def GD(Y:YJ)(fr:List (List (List Int)))(tt:List (List (List Int))):List MA:=[.m (.ob (.yd (bd Y.go [] (cV fr tt)).1.length Y (bd Y.go [] (cV fr tt)).1 (bd Y.go [] (cV fr tt)).2)),.box [.c (.r3 .i64 fr)],.box [.c (.r3 .i64 tt)]]
def GE(Y:YJ)(fr:List (List (List Int)))(tt:List (List (List Int))):List (Nat×Ob):=[]
def sc(Y:YJ)(fr:List (List (List Int)))(tt:List (List (List Int))):Post:=⟨kV fr tt/\Y.P=Tryz.prog/\Y.e=2/\eh Y.ok Y.go [] (cV fr tt),.st (GC Y fr tt) (GE Y fr tt) (GD Y fr tt),[]⟩
def sd:List AD->Option Post
 | [.ma (.m (.ob (.yd 0 Y [] true))),.ma (.box [.c (.r3 .i64 fr)]),.ma (.box [.c (.r3 .i64 tt)])]=>some (sc Y fr tt)
 |_=>none
def GF(Y:YJ)(fr:List (List (List Int)))(tt:List (List (List Int))):Nat->Option Ann
 |0=>some (Ann.mk ((Nat)) (fun i=>⟨[(0,.c (.own 7000)),(1,.c (.ptr 7100 0)),(2,.c (.ptr 7200 0)),(5,.c (.ptr 500 0)),(26,.c (.int .i64 ((bt fr:Int)))),(27,.c (.int .i64 ((i:Int))))],[(7000,some (.yd 0 Y [] true)),(7100,some (.box [.ro (.r3 .i64 fr)])),(7200,some (.box [.ro (.r3 .i64 tt)])),(500,some (.box [.ro (.r3 .i64 fr),.ro (.r3 .i64 tt),.own 501,.own 502,.nil])),(501,some (.ints 2 .i64 ((List.replicate i (-1)++List.replicate (bt fr-i) 0)))),(502,some (.bools 4 ((List.replicate (bt fr) false))))]⟩) (fun i=>i<=bt fr) (fun i=>bt fr-i) (fun _=>ar))
 |_=>none
def GG:List (Nat×Ctr):=[(130,⟨[(0,93),(0,93)],mL 101⟩)]
def gH(fr:List (List (List Int))):=(↑((fr.getD (0:Nat) ([]:List (List Int))).length):Int)
def mN(fr:List (List (List Int)))(x0:Nat):=(List.replicate x0 (-1:Int)++List.replicate (bt fr-x0) (0:Int),List.replicate (bt fr) false,([]:List Int))
def yM(Y:YJ)(fr:List (List (List Int)))(tt:List (List (List Int))):Prop :=
 (ab (0:Int) fr.length/\(ab (0:Int) tt.length/\(af ((↑((tt.getD (0:Nat) ([]:List (List Int))).length):Int) != (↑((fr.getD (0:Nat) ([]:List (List Int))).length):Int)) ((0:Nat)=((bd (YJ.go Y) ([]:List (List Int)) (cV fr tt)).1).length/\Y=Y/\([]:List (List Int))=(bd (YJ.go Y) ([]:List (List Int)) (cV fr tt)).1/\true=(bd (YJ.go Y) ([]:List (List Int)) (cV fr tt)).2/\fr=fr/\tt=tt) (((0:Int)<=(gH fr)/\(gH fr)<=(gH fr)/\ag (gH fr).toNat)/\(((0:Int)<=(gH fr)/\(gH fr)<=(gH fr)/\ag (gH fr).toNat)/\((∃x0:Nat,x0<=bt fr/\(↑((List.replicate (gH fr).toNat (0:Int)).length):Int)=(bt fr:Int)/\(0:Int)=(x0:Int)/\(0:Nat)=(0:Nat)/\Y=Y/\([]:List (List Int))=([]:List (List Int))/\true=true/\fr=fr/\tt=tt/\fr=fr/\tt=tt/\List.replicate (gH fr).toNat (0:Int)=List.replicate x0 (-1:Int)++List.replicate (bt fr-x0) (0:Int)/\List.replicate (gH fr).toNat false=List.replicate (bt fr) false)/\(∀x1:Nat,(x1<=bt fr->(af (decide ((x1:Int)<(bt fr:Int))) (ab (x1:Int) ((List.replicate x1 (-1:Int)++List.replicate (bt fr-x1) (0:Int)).length)/\(ae ((x1:Int)+(1:Int))/\(∃x2:Nat,(x2<=bt fr/\(bt fr-x2<bt fr-x1/\((bt fr:Int)=(bt fr:Int)/\((x1:Int)+(1:Int)=(x2:Int)/\((0:Nat)=(0:Nat)/\((Y=Y) /\
 ((([]:List (List Int))=([]:List (List Int)))/\((true=true)/\((fr=fr)/\((tt=tt)/\((fr=fr)/\((tt=tt)/\((List.set (List.replicate x1 (-1:Int)++List.replicate (bt fr-x1) (0:Int)) (x1:Int).toNat (-1:Int)=List.replicate x2 (-1:Int)++List.replicate (bt fr-x2) (0:Int))/\(List.replicate (bt fr) false=List.replicate (bt fr) false))))))))))))))))) (((yJ ((List.replicate x1 (-1:Int)++List.replicate (bt fr-x1) (0:Int)).length) fr tt (mN fr x1))/\((bY (List.replicate x1 (-1:Int)++List.replicate (bt fr-x1) (0:Int))<(101:Nat))/\((YJ.P Y=Go.Proofs.Tryz.prog)/\((YJ.e Y=(2:Go.TypeId))/\(eh (YJ.ok Y) (YJ.go Y) ([]:List (List Int)) (bz fr tt (101:Nat) (mN fr x1)))))))/\(((0:Nat)+(((bd (YJ.go Y) ([]:List (List Int)) (bz fr tt (101:Nat) (mN fr x1))).1).length-([]:List (List Int)).length)=((bd (YJ.go Y) ([]:List (List Int)) (cV fr tt)).1).length)/\((Y=Y)/\(((bd (YJ.go Y) ([]:List (List Int)) (bz fr tt (101:Nat) (mN fr x1))).1=(bd (YJ.go Y) ([]:List (List Int)) (cV fr tt)).1)/\(((bd (YJ.go Y) ([]:List (List Int)) (bz fr tt (101:Nat) (mN fr x1))).2=(bd (YJ.go Y) ([]:List (List Int)) (cV fr tt)).2)/\((fr=fr)/\(tt=tt))))))))))))))))
theorem Pn(Y:YJ)(fr:List (List (List Int)))(tt:List (List (List Int))):kC Tryz.prog (ai GG) aj (GF Y fr tt) Tryz.f129 (aF Tryz.f129) [.m (.ob (.yd 0 Y [] true)),.box [.c (.r3 .i64 fr)],.box [.c (.r3 .i64 tt)]] (GC Y fr tt) (gq 0 (GD Y fr tt)++gN (GE Y fr tt))=yM Y fr tt:=by kernel_rfl
theorem Po(Y:YJ)(fr:List (List (List Int)))(tt:List (List (List Int)))(Yh:(sc Y fr tt).pre):yM Y fr tt:=by
 simp only[sc,yM,gH,mN,aK,u1,u2,u3,u4,u5,u6,u7,u8,u9,v1,v2,v3,v4,v5,v6,v7,v8,v9,w1,w2,w3,w4,aC,ab,ae,ag,av]at Yh⊢;obtain⟨⟨h1,h2,h3,h4,hf,ht⟩,hP,he,hok⟩:=Yh;refine⟨⟨by omega,by omega⟩,⟨by omega,by omega⟩,fun hne=>?_,fun heq=>⟨⟨by omega,by omega,?_⟩,⟨by omega,by omega,?_⟩,⟨0,Nat.zero_le _,rfl,rfl,by simp[bt],rfl⟩,fun i hi=>⟨fun hlt=>?_,fun hge=>?_⟩⟩⟩
 ·have e:cV fr tt=[]:=if_neg (fun e=>hne (by simp only[bt]at e;omega))
  rw[e];exact⟨rfl,rfl,rfl⟩
 ·simp only[bt]at h4;omega
 ·simp only[bt]at h4;omega
 ·refine⟨by omega,by omega,i+1,by omega,by omega,by omega,?_⟩
  have:bt fr-i=(bt fr-(i+1))+1:=by omega
  rw[this,List.replicate_succ,List.set_append_right _ _ (by simp)]
  simp[List.replicate_succ']
 ·have ei:i=bt fr:=by omega
  subst ei;have en:bt tt=bt fr:=by simp only[bt];omega
  have e:cV fr tt=bz fr tt 101 (eE (bt fr)):=if_pos en
  simp only[Nat.sub_self,List.replicate_zero,List.append_nil,Nat.add_zero,Nat.sub_zero,Nat.zero_add];rw[e]at hok⊢;exact⟨⟨⟨⟨h4,h2,h3,hf,ht en,GA _⟩,GB _⟩,by rw[yL];omega,hP,he,hok⟩,rfl,rfl,rfl⟩
theorem Pp:Fits Tryz.prog 129 ⟨[(0,93),(0,93)],sd⟩:=by
 refine nH (Γ:=ai GG) (az (Pm 101) aJ) Tryz.func129 (by kernel_rfl) (by kernel_rfl) (fun ads p h=>?_) fun mas q sv ex outs h hq=>?_
 ·unfold sd at h
  split at h
  ·cases h;rfl
  ·cases h
 ·unfold sd at h
  split at h
  ·rename_i heq
   have heq:=l7 (l:=[_,_,_]) heq
   subst heq;unfold sc at h;cases h;exact⟨aj,GF _ _ _ ,by rw[Pn];exact Po _ _ _  hq⟩
  ·cases h
theorem GH(x:Int):∀(l:List Int) (k:Int),0<=k->∀j:Nat,(j:Int)+k<bf x l k->l.getD j 0≠x
 | [],k,hk,j,h=>by simp[bf]at h;omega
 |y::l,k,hk,j,h=>by
  rw[bf]at h;by_cases e:y=x
  ·rw[if_pos e]at h;omega
  ·rw[if_neg e]at h
   cases j with
   |zero=>simpa using e
   |succ j =>
    rw[List.getD_cons_succ];exact GH x l (k+1) (by omega) j (by push_cast at h;omega)
theorem GI:∀(a b:List Int) (i:Nat),i<a.length->a.length=b.length->(∀j,j<i->a.getD j 0=b.getD j 0)->a.getD i 0<b.getD i 0->bh a b=true
 | [],_,i,h,_,_,_=>by simp at h
 |_::_,[],_,_,h,_,_=>by simp at h
 |x::a,y::b,i,hi,hl,hj,hlt=>by
  rw[bh];cases i with
  |zero =>
   simp only[List.getD_cons_zero]at hlt;rw[if_neg (by omega)];simpa using hlt
  |succ i =>
   have h0:=hj 0 (by omega)
   simp only[List.getD_cons_zero]at h0;rw[if_pos h0];refine GI a b i (by simpa using hi) (by simpa using hl) (fun j hj'=>?_) (by simpa using hlt)
   have:=hj (j+1) (by omega)
   simpa using this
theorem Pq{a b:List (List Int)}(ha:eP a)(hb:eP b)(h:∀g,g∈a↔g∈b):a=b:=by
 have hp:a.Perm b:=(List.perm_ext_iff_of_nodup (n7 ha) (n7 hb)).2 h
 exact List.Perm.eq_of_pairwise (le:=fun x y=>bh x y=true) (fun x y _ _ h1 h2=>by have:=yw _ _ _ h1 h2;rw[yu]at this;cases this) ha hb hp
theorem Pr{n:Nat}{a:List (List (List Int))}(h:bw n a):cG n a:=fun t ht=>by
 obtain⟨k,hk,e⟩:=List.mem_iff_getElem.1 ht;have:=h k hk
 rw[List.getD,List.getElem?_eq_getElem hk,Option.getD_some,e]at this;refine⟨this.1,fun x y hx hxn=>?_⟩
 obtain⟨h1,h2⟩:=this.2 x.toNat (by omega)
 exact⟨h1,fun hy hyn=>h2 y.toNat (by omega)⟩
theorem Ps{n:Nat}{a b:List (List (List Int))}(ha:cG n a)(hab:a.length=b.length){p:List Int}(hl:p.length=n)(hr:∀i,i<n->0<=p.getD i 0/\p.getD i 0<(n:Int)):kO a b p↔TT (sm n p) a b:=by
 rw[TT.iff hab]
 constructor
 ·intro h k hk x y hx hxn hy hyn
  have t0:=((ha (a.getD k []) (by rw[List.getD,List.getElem?_eq_getElem hk];exact List.getElem_mem hk)).2 x y hx hxn).2 hy hyn
  exact h k x.toNat y.toNat hk (by omega) (by omega) (by rw[hl];exact t0.2)
 ·intro h k x y hk hx hy _
  exact h k hk (x:Int) (y:Int) (by omega) (by omega) (by omega) (by omega)
section
variable {n:Nat} {F T:List (List (List Int))}
theorem yN{E:MS->List (List Int)}{s:MS}{x:Int}{p:List Int}:∀(e v:Nat),p∈fB F T E s x e v↔∃w:Nat,v<=w/\w<v+e/\¬ s.2.1.getD w false=true/\(aE F T 101 x w s).1=true/\p∈E (aE F T 101 x w s).2
 |0,v=>by simp[fB];intro w h1 h2;omega
 |e+1,v=>by
  rw[fB,List.mem_append,yN e (v+1)]
  constructor
  ·rintro(h|⟨w,h1,h2,h3⟩)
   ·split at h
    ·cases h
    ·split at h
     ·rename_i h1 h2;exact⟨v,Nat.le_refl _,by omega,h1,h2,h⟩
     ·cases h
   ·exact⟨w,by omega,by omega,h3⟩
  ·rintro⟨w,h1,h2,h3,h4,h5⟩
   by_cases e2:w=v
   ·subst e2;left;rw[if_neg h3,if_pos h4];exact h5
   ·exact .inr ⟨w,by omega,by omega,h3,h4,h5⟩
theorem GJ{E:MS->List (List Int)}{s:MS}{x:Int}:∀(e v:Nat),(∀w:Nat,v<=w->w<v+e->¬ s.2.1.getD w false=true->(aE F T 101 x w s).1=true->eP (E (aE F T 101 x w s).2))->(∀w w':Nat,v<=w->w<w'->w'<v+e->¬ s.2.1.getD w false=true->¬ s.2.1.getD w' false=true->(aE F T 101 x w s).1=true->(aE F T 101 x w' s).1=true->∀p∈E (aE F T 101 x w s).2,∀q∈E (aE F T 101 x w' s).2,bh p q=true) ->
  eP (fB F T E s x e v)
 |0,v,_,_=>by rw[fB];exact List.Pairwise.nil
 |e+1,v,h1,h2=>by
  rw[fB];refine List.pairwise_append.2 ⟨?_,GJ e (v+1) (fun w a b=>h1 w (by omega) (by omega)) (fun w w' a b c=>h2 w w' (by omega) b (by omega)),fun p hp q hq=>?_⟩
  ·split
   ·exact List.Pairwise.nil
   ·split
    ·rename_i a b;exact h1 v (Nat.le_refl _) (by omega) a b
    ·exact List.Pairwise.nil
  ·obtain⟨w,a1,a2,a3,a4,a5⟩:=(yN e (v+1)).1 hq
   split at hp
   ·cases hp
   ·split at hp
    ·rename_i b1 b2;exact h2 v w (Nat.le_refl _) (by omega) (by omega) b1 a3 b2 a4 p hp q a5
    ·cases hp
theorem GK(hn:n<=100)(hFT:F.length=T.length)(hf:cG n F)(ht:cG n T):∀(d:Nat) (s:MS),MW n s->MI n s->bY s.1<d->Cl F T [] s->(∀p,p∈bz F T d s↔isoL n F T p/\gk n p s)/\eP (bz F T d s)
 |0,s,_,_,h,_=>by omega
 |d+1,s,w,q,hd,hc=>by
  have iso:=fun {p:List Int} hl hr=>Ps (n:=n) (b:=T) hf hFT (p:=p) hl hr
  have hcn:=w.cnt
  rw[bz];rcases yU (-1) s.1 0 (Int.le_refl _)with⟨h1,h2⟩|⟨h1,h2,h3⟩
  ·rw[if_pos h1]
   have all:∀x:Int,0<=x->x<n->0<=gi s.1 x:=fun x x0 x1=>Classical.byContradiction fun hh=>by
    have:=q.neg x x0 x1 hh
    refine h2 ?_
    rw[<-this];have hxl:x.toNat<s.1.length:=by rw[w.im];omega
    rw[gi,List.getD,List.getElem?_eq_getElem hxl,Option.getD_some];exact List.getElem_mem hxl
   have hrng:∀i,i<n->0<=s.1.getD i 0/\s.1.getD i 0<(n:Int):=fun i hi=>⟨all (i:Int) (by omega) (by omega),w.rg (i:Int) (by omega) (by omega)⟩
   have hmem:∀x:Int,0<=x->x<n->x∈s.2.2:=fun x x0 x1=>(q.mem x x0 x1).2 (all x x0 x1)
   refine⟨fun p=>?_,by simp[eP]⟩
   rw[List.mem_singleton]
   constructor
   ·rintro rfl
    refine⟨⟨w.im,hrng,?_,(iso w.im hrng).2 ?_⟩,fun _ _ _ _=>rfl⟩
    ·refine List.pairwise_iff_getElem.2 fun i j hi hj hij e=>?_
     have hl:=w.im
     have:=q.inj (i:Int) (j:Int) (by omega) (by omega) (by omega) (by omega) (all _ (by omega) (by omega)) (by simp[gi,List.getD,hi,hj,e])
     omega
    ·rw[TT.iff hFT]
     intro k hk x y x0 x1 y0 y1
     exact(TT.iff hFT).1 (hc x (hmem x x0 x1) y (hmem y y0 y1) (by simp) (by simp)) k hk
   ·rintro⟨hi,he⟩
    exact G1 hi.len w.im fun z z0 z1=>he z z0 z1 (all z z0 z1)
  ·have hx0:=h1
   rw[if_neg (by omega)]
   have hxg:gi s.1 (bf (-1) s.1 0)=-1:=by simpa[gi]using h3
   have hxn:bf (-1) s.1 0<(n:Int):=by rw[w.im]at h2;omega
   have hfst:∀j:Nat,(j:Int)<bf (-1) s.1 0->0<=gi s.1 (j:Int):=fun j hj=>Classical.byContradiction fun hh=>by
    have:=q.neg (j:Int) (by omega) (by omega) hh
    exact GH (-1) s.1 0 (Int.le_refl _) j (by omega) (by simpa[gi]using this)
   generalize bf (-1) s.1 0=x at *
   have step:∀v:Nat,v<n->¬ s.2.1.getD v false=true->(aE F T 101 x v s).1=true->(∀p,p∈bz F T d (aE F T 101 x v s).2↔isoL n F T p/\gk n p (aE F T 101 x v s).2)/\eP (bz F T d (aE F T 101 x v s).2)/\(∀p,gk n p (aE F T 101 x v s).2->gk n p s/\gi p x=v):=fun v hv hu ha=>by
    have m1:=kY hf ht 101 x (v:Int) s hx0 hxn (by omega) (by omega) w
    have hl:bY (aE F T 101 x (v:Int) s).2.1+1<=bY s.1:=G5 hf ht (d:=100) (v:=(v:Int)) hx0 hxn (by omega) (by omega) w (by omega) (by simpa using hu)
    obtain⟨c1,c2⟩:=Hb hf ht 101 [] x (v:Int) s hx0 hxn (by omega) (by omega) w hc ha
    obtain⟨i1,i2⟩:=GK hn hFT hf ht d _ m1.wf (m1.hon q) (by omega) c1
    exact⟨i1,i2,fun p hp=>⟨fun z z0 z1 hz=>by rw[<-m1.keep z z0 z1 hz];exact hp z z0 z1 (by rw[m1.keep z z0 z1 hz];exact hz),by rw[<-c2];exact hp x hx0 hxn (by rw[c2];omega)⟩⟩
   refine⟨fun p=>?_,?_⟩
   ·rw[yN]
    constructor
    ·rintro⟨v,_,h5,h6,h7,h8⟩
     have h5:v<n:=by rw[w.im]at h5;omega
     obtain⟨i1,_,i3⟩:=step v h5 h6 h7;obtain⟨j1,j2⟩:=(i1 p).1 h8;exact⟨j1,(i3 p j2).1⟩
    ·rintro⟨hi,he⟩
     have hr:=hi.rng x.toNat (by omega)
     have hpx:gi p x=((gi p x).toNat:Int):=by simp only[gi];omega
     have hv:(gi p x).toNat<n:=by simp only[gi];omega
     obtain⟨c1,c2⟩:=G9 hi.len hi.nd hf ht ((iso hi.len hi.rng).1 hi.ok) 101 x ((gi p x).toNat:Int) s hx0 hxn (by omega) (by omega) w q (by omega) he hpx
     have hu:¬ s.2.1.getD (gi p x).toNat false=true:=fun hu=>by
      obtain⟨z,z0,z1,hz⟩:=(q.us ((gi p x).toNat:Int) (by omega) (by omega)).1 (by rw[Int.toNat_natCast];exact hu)
      have e:=he z z0 z1 (by omega)
      have:=G8 hi.len hi.nd ⟨z0,z1⟩ ⟨hx0,hxn⟩ (by rw[e,hz];exact hpx.symm)
      subst this;omega
     obtain⟨i1,_,_⟩:=step _ hv hu c1;exact⟨(gi p x).toNat,Nat.zero_le _,by rw[w.im];omega,hu,c1,(i1 p).2 ⟨hi,c2⟩⟩
   ·refine GJ _ _ (fun v _ h5 h6 h7=>(step v (by rw[w.im]at h5;omega) h6 h7).2.1) (fun v v' _ hvv h5 h6 h6' h7 h7' p hp r hr=>?_)
    have h5':v'<n:=by rw[w.im]at h5;omega
    obtain⟨i1,_,i3⟩:=step v (by omega) h6 h7
    obtain⟨j1,_,j3⟩:=step v' h5' h6' h7';obtain⟨a1,a2⟩:=(i1 p).1 hp;obtain⟨b1,b2⟩:=(j1 r).1 hr;obtain⟨e1,e2⟩:=i3 p a2;obtain⟨f1,f2⟩:=j3 r b2;refine GI p r x.toNat (by rw[a1.len];omega) (by rw[a1.len,b1.len]) (fun j hj=>?_) ?_
    ·have hz:=hfst j (by omega)
     have q1:=e1 (j:Int) (by omega) (by omega) hz
     have q2:=f1 (j:Int) (by omega) (by omega) hz
     simpa[gi]using q1.trans q2.symm
    ·show gi p x<gi r x
     rw[e2,f2];omega
theorem kW{fr tt:List (List (List Int))}(h:kV fr tt):(∀p,p∈cV fr tt↔bt tt=bt fr/\isoL (bt fr) fr tt p)/\eP (cV fr tt):=by
 obtain⟨h1,h2,h3,h4,hf,ht⟩:=h;rw[cV];split
 ·rename_i e
  obtain⟨a,b⟩:=GK h4 h2 hf (ht e) 101 (eE (bt fr)) (GA _) (GB _) (by rw[eE,yL];omega) (fun a ha=>by simp[eE]at ha)
  refine⟨fun p=>?_,b⟩
  rw[a p];exact⟨fun k=>⟨e,k.1⟩,fun k=>⟨k.2,fun z z0 z1 hz=>by simp only[eE]at hz;rw[mM z0 z1]at hz;omega⟩⟩
 ·rename_i e
  exact⟨fun p=>⟨fun k=>(by cases k),fun k=>absurd k.1 e⟩,List.Pairwise.nil⟩
end
def se(l:List Int):Post:=⟨l.length≠0/\ag l.length,.c (.ints 2 .i64 l),[]⟩
def sf:List AD->Option Post
 | [.c (.ints .i64 l)]=>some (se l)
 |_=>none
def GL:List (Nat×Ctr):=[]
def yO(l:List Int):Prop :=
 FC.len (FC.ints IntKind.i64 l)≠(0:Nat)/\ag (([]:List Int).length+l.length)/\[]++l=l/\True
theorem Pt(l:List Int):aP Tryz.prog (ai GL) aj ar Tryz.f82 (aF Tryz.f82) [] [.c (.ints .i64 l)] (se l)=yO l:=by kernel_rfl
theorem Pu(l:List Int)(Yh:(se l).pre):yO l:=by
 simp only[se,yO,aK,u1,u2,u3,u4,u5,u6,u7,u8,u9,v1,v2,v3,v4,v5,v6,v7,v8,v9,w1,w2,w3,w4,aC,ab,ae,ag,av]at Yh⊢;obtain⟨a,b⟩:=Yh;exact⟨a,by omega,rfl⟩
theorem GM:Fits Tryz.prog 82 ⟨[],sf⟩:=by
 refine aW (Γ:=ai GL) aJ Tryz.func82 fun ds p h hp=>?_
 unfold sf at h;split at h
 ·cases h
  exact⟨aj,ar,by rw[Pt];exact Pu _  hp⟩
 ·cases h
def GN(fr:List (List (List Int)))(tt:List (List (List Int))):SV:=.fn 129 [.ptr 400 0,.ptr 401 0]
def GO(fr:List (List (List Int)))(tt:List (List (List Int))):List MA:=[]
def GP(fr:List (List (List Int)))(tt:List (List (List Int))):List (Nat×Ob):=[(400,(.box [.own 402])),(401,(.box [.own 403])),(402,(.lst 0 22 (.r3 .i64 fr))),(403,(.lst 0 22 (.r3 .i64 tt)))]
def sg(fr:List (List (List Int)))(tt:List (List (List Int))):Post:=⟨True,.st (GN fr tt) (GP fr tt) (GO fr tt),[]⟩
def sh:List AD->Option Post
 | [.ma (.m (.ob (.lst 0 22 (.r3 .i64 fr)))),.ma (.m (.ob (.lst 0 22 (.r3 .i64 tt))))]=>some (sg fr tt)
 |_=>none
def GQ:List (Nat×Ctr):=[]
def yP(fr:List (List (List Int)))(tt:List (List (List Int))):Prop :=
 fr=fr/\tt=tt
theorem Pv(fr:List (List (List Int)))(tt:List (List (List Int))):kC Tryz.prog (ai GQ) aj ar Tryz.f76 (aF Tryz.f76) [.m (.ob (.lst 0 22 (.r3 .i64 fr))),.m (.ob (.lst 0 22 (.r3 .i64 tt)))] (GN fr tt) (gq 0 (GO fr tt)++gN (GP fr tt))=yP fr tt:=by kernel_rfl
theorem Pw(fr:List (List (List Int)))(tt:List (List (List Int)))(Yh:(sg fr tt).pre):yP fr tt:=by
 simp only[sg,yP,aK,u1,u2,u3,u4,u5,u6,u7,u8,u9,v1,v2,v3,v4,v5,v6,v7,v8,v9,w1,w2,w3,w4,aC,ab,ae,ag,av]at Yh⊢
theorem Px:Fits Tryz.prog 76 ⟨[(0,93),(0,93)],sh⟩:=by
 refine nH (Γ:=ai GQ) aJ Tryz.func76 (by kernel_rfl) (by kernel_rfl) (fun ads p h=>?_) fun mas q sv ex outs h hq=>?_
 ·unfold sh at h
  split at h
  ·cases h;rfl
  ·cases h
 ·unfold sh at h
  split at h
  ·rename_i heq
   have heq:=l7 (l:=[_,_]) heq
   subst heq;unfold sg at h;cases h;exact⟨aj,ar,by rw[Pv];exact Pw _ _  hq⟩
  ·cases h
theorem GR:∀(l pre:List (List Int)),bd (fun _ _=>true) pre l=(pre++l,true)
 | [],pre=>by simp[bd]
 |x::l,pre=>by rw[bd,if_pos rfl,GR l];simp
theorem GS{ok:List (List Int)->List Int->Prop}(M:Nat):∀(l pre:List (List Int)),(∀pre' x,x∈l->pre'.length<M->ok pre' x)->pre.length+l.length<=M->eh ok (fun _ _=>true) pre l
 | [],pre,_,_=>trivial
 |x::l,pre,h,hM=>by
  simp only[List.length_cons]at hM;exact⟨h pre x List.mem_cons_self (by omega),fun _=>GS M l (pre++[x]) (fun pre' y hy=>h pre' y (List.mem_cons_of_mem _ hy)) (by simp;omega)⟩
def si(t:List (List Int)):Post:=⟨1<=t.length/\kV [t] [t]/\(cV [t] [t]).length<=1000000000,.c (.rows 62 2 .i64 (cV [t] [t])),[]⟩
def sj:List AD->Option Post
 | [.c (.rows .i64 t)]=>some (si t)
 |_=>none
def GT(t:List (List Int)):Nat->Option Ann
 |0=>some (Ann.rf 2 (fun _ _=>true) (fun pre x=>pre.length<1000000000/\1<=x.length/\x.length<=100) [600] [(3,.c (.ptr 600 0))] (fun pre=>[(600,some (.box [.own 601])),(601,some (.rows 0 62 2 .i64 pre))]) (fun pre=>[(600,some (.box [.own 601])),(601,some (.rows 0 62 2 .i64 pre))]))
 |_=>none
def GU:List (Nat×Ctr):=[(76,⟨[(0,93),(0,93)],sh⟩),(129,⟨[(0,93),(0,93)],sd⟩),(82,⟨[],sf⟩)]
def gj(t:List (List Int)):=(t::([]:List (List (List Int))))
def yQ(t:List (List Int)):Prop :=
 True/\(∀p:List (List Int),(true=true/\true=true))/\(([]:List (List Int))=([]:List (List Int))/\t::([]:List (List (List Int)))=t::([]:List (List (List Int)))/\t::([]:List (List (List Int)))=t::([]:List (List (List Int))))/\(∀p0:List (List Int),(∀x1:List Int,p0.length<(1000000000:Nat)/\(1:Nat)<=x1.length/\x1.length<=(100:Nat)->((x1.length≠(0:Nat)/\ag x1.length)/\True)/\ag (p0.length+(x1::([]:List (List Int))).length)/\true=true/\x1=x1/\p0++x1::([]:List (List Int))=p0++x1::([]:List (List Int))))/\∀Y2:YJ,YJ.P Y2=Go.Proofs.Tryz.prog->YJ.e Y2=(2:Go.TypeId)->(YJ.go Y2=fun(x:List (List Int)) (x_1:List Int)=>true)->(YJ.ok Y2=fun(pre:List (List Int)) (x:List Int)=>pre.length<(1000000000:Nat)/\(1:Nat)<=x.length/\x.length<=(100:Nat))->(kV (gj t) (gj t)/\YJ.P Y2=Go.Proofs.Tryz.prog/\YJ.e Y2=(2:Go.TypeId)/\eh (YJ.ok Y2) (YJ.go Y2) ([]:List (List Int)) (cV (gj t) (gj t)))/\Y2=Y2/\((bd (YJ.go Y2) ([]:List (List Int)) (cV (gj t) (gj t))).2=true->(bd (YJ.go Y2) ([]:List (List Int)) (cV (gj t) (gj t))).1=cV (gj t) (gj t)/\True)/\((bd (YJ.go Y2) ([]:List (List Int)) (cV (gj t) (gj t))).2=false->False)
theorem Py(t:List (List Int)):aP Tryz.prog (ai GU) aj (GT t) Tryz.f87 (aF Tryz.f87) [] [.c (.rows .i64 t)] (si t)=yQ t:=by kernel_rfl
theorem Pz(t:List (List Int))(Yh:(si t).pre):yQ t:=by
 simp only[si,yQ,gj,aK,u1,u2,u3,u4,u5,u6,u7,u8,u9,v1,v2,v3,v4,v5,v6,v7,v8,v9,w1,w2,w3,w4,aC,ab,ae,ag,av]at Yh⊢;obtain⟨h1,h2,h3⟩:=Yh;refine⟨fun _=>trivial,fun p x h=>⟨⟨by omega,by omega⟩,by omega⟩,fun Y q1 q2 q3 q4=>?_⟩
 rw[q3,q4,GR];have hn:bt [t]=t.length:=rfl
 have h100:=h2.2.2.2.1
 exact⟨⟨h2,q1,q2,GS 1000000000 _ [] (fun pre' x hx hp=>⟨hp,by
  have:=(((kW h2).1 x).1 hx).2.len;omega,by
  have:=(((kW h2).1 x).1 hx).2.len;omega⟩) (by simpa using h3)⟩,fun _=>by simp,fun h=>by cases h⟩
theorem GV:Fits Tryz.prog 87 ⟨[],sj⟩:=by
 refine aW (Γ:=ai GU) (az Px (az Pp (az GM aJ))) Tryz.func87 fun ds p h hp=>?_
 unfold sj at h;split at h
 ·cases h
  exact⟨aj,GT _ ,by rw[Py];exact Pz _  hp⟩
 ·cases h
end Go.Sx
