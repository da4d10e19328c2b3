/- MpgE -/
import Derived.Test.YtkmldclpaniclaaGreatMpgB
import Derived.Test.YtkmldclpaniclaaGreatMpgL
import Derived.Test.YtkmldclpaniclaaGreatGrpC
import Derived.Test.YtkmldclpaniclaaGreatLists
set_option linter.unusedSimpArgs false
set_option linter.unusedVariables false
open Go Go.Proofs
namespace Go.Sx
def zi(n:Nat)(fr tt:V9)(s:MS):Prop:=oO n fr tt s/\MI n s
def HH(d:Nat)(fr:V9)(tt:V9)(im:V7)(us:List Bool)(st:V7)(Y:YJ)(pre:V8):SV:=.c (.bool ((bd Y.go pre (bA fr tt d (im,us,st))).2))
def HI(d:Nat)(fr:V9)(tt:V9)(im:V7)(us:List Bool)(st:V7)(Y:YJ)(pre:V8):List MA:=[.box [.c (.r3 .i64 fr),.c (.r3 .i64 tt),.ob (.ints 2 .i64 im),.ob (.bools 4 us),.ob (.ints 2 .i64 st)],.m (.ob (.yd ((bd Y.go pre (bA fr tt d (im,us,st))).1.length-pre.length) Y (bd Y.go pre (bA fr tt d (im,us,st))).1 (bd Y.go pre (bA fr tt d (im,us,st))).2))]
def HJ(d:Nat)(fr:V9)(tt:V9)(im:V7)(us:List Bool)(st:V7)(Y:YJ)(pre:V8):List (Nat×Ob):=[]
def ni(d:Nat)(fr:V9)(tt:V9)(im:V7)(us:List Bool)(st:V7)(Y:YJ)(pre:V8):Post:=⟨zi im.length fr tt (im,us,st)/\b8 im<d/\Y.P=Tryz.prog/\Y.e=2/\d5 Y.ok Y.go pre (bA fr tt d (im,us,st)),.st (HH d fr tt im us st Y pre) (HJ d fr tt im us st Y pre) (HI d fr tt im us st Y pre),[]⟩
def nj(d:Nat):List AD->Option Post
 | [.ma (.box [.c (.r3 .i64 fr),.c (.r3 .i64 tt),.ob (.ints 2 .i64 im),.ob (.bools 4 us),.ob (.ints 2 .i64 st)]),.ma (.m (.ob (.yd 0 Y pre true)))]=>some (ni d fr tt im us st Y pre)
 |_=>none
def HK(d:Nat)(fr:V9)(tt:V9)(im:V7)(us:List Bool)(st:V7)(Y:YJ)(pre:V8):Nat->Option Ann
 |0=>some (Ann.mk ((Nat)×(Nat)×(V8)) (fun x=>match x with|(v,k,pr)=>⟨[(0,.c (.ptr 7000 0)),(1,.c (.own 7100)),(5,.c (.int .i64 ((aZ (-1) im 0)))),(6,.c (.int .i64 ((st.length:Int)))),(31,.c (.int .i64 ((im.length:Int)))),(32,.c (.int .i64 ((v:Int))))],[(7000,some (.box [.ro (.r3 .i64 fr),.ro (.r3 .i64 tt),.own 7003,.own 7004,.own 7005])),(7003,some (.ints 2 .i64 im)),(7004,some (.bools 4 us)),(7005,some (.ints 2 .i64 st)),(7100,some (.yd k Y pr true))]⟩) (fun x=>match x with|(v,k,pr)=>v<=im.length/\k+pre.length=pr.length/\bd Y.go pr (fJ fr tt (bA fr tt (d-1)) (im,us,st) (aZ (-1) im 0) (im.length-v) v)=bd Y.go pre (bA fr tt d (im,us,st))/\d5 Y.ok Y.go pr (fJ fr tt (bA fr tt (d-1)) (im,us,st) (aZ (-1) im 0) (im.length-v) v)) (fun x=>match x with|(v,k,pr)=>im.length-v) (fun _=>am))
 |_=>none
def HL(d:Nat):List (Nat×Ctr):=[(179,⟨[],rK⟩),(180,⟨[(0,93),(0,93)],nh 101⟩),(181,⟨[(0,93),(0,93)],rH⟩),(130,⟨[(0,93),(0,93)],nj d⟩)]
def dT(fr:V9)(tt:V9)(im:V7)(us:List Bool)(st:V7)(x0:Nat×Nat×V8):=((aK fr tt (101:Nat) (aZ (-1:Int) im (0:Int)) (↑x0.1:Int) (im,us,st)).2)
def ip(d:Nat)(fr:V9)(tt:V9)(im:V7)(us:List Bool)(st:V7)(x0:Nat×Nat×V8):=(fJ fr tt (bA fr tt (d+(1:Nat)-(1:Nat))) (im,us,st) (aZ (-1:Int) im (0:Int)) (im.length-x0.1) x0.1)
def lF(fr:V9)(tt:V9)(im:V7)(us:List Bool)(st:V7)(x0:Nat×Nat×V8):=(dl (List.drop ((↑(st.length):Int).toNat) (((dT fr tt im us st x0).2).2)) (dT fr tt im us st x0).1 (((dT fr tt im us st x0).2).1))
def jA(fr:V9)(tt:V9)(im:V7)(us:List Bool)(st:V7)(x0:Nat×Nat×V8):=((dT fr tt im us st x0).1,((dT fr tt im us st x0).2).1,((dT fr tt im us st x0).2).2)
def zj(d:Nat)(fr:V9)(tt:V9)(im:V7)(us:List Bool)(st:V7)(Y:YJ)(pre:V8):Prop :=
 ((im.length<=(1099511627776:Nat)/\True)/\(ae (decide (aZ (-1:Int) im (0:Int)<(0:Int))) ((YJ.P Y=Go.Proofs.Tryz.prog/\YJ.e Y=(2:Nat)/\true=true/\YJ.ok Y pre im)/\YJ.go Y pre im=(bd (YJ.go Y) pre (bA fr tt (d+(1:Nat)) (im,us,st))).2/\fr=fr/\tt=tt/\im=im/\us=us/\st=st/\(1:Nat)=((bd (YJ.go Y) pre (bA fr tt (d+(1:Nat)) (im,us,st))).1).length-pre.length/\Y=Y/\pre++im::([]:V8)=(bd (YJ.go Y) pre (bA fr tt (d+(1:Nat)) (im,us,st))).1/\YJ.go Y pre im=(bd (YJ.go Y) pre (bA fr tt (d+(1:Nat)) (im,us,st))).2) ((∃x0:Nat×Nat×V8,(x0.1<=im.length/\x0.2.1+pre.length=(x0.2.2).length/\bd (YJ.go Y) x0.2.2 (ip d fr tt im us st x0)=bd (YJ.go Y) pre (bA fr tt (d+(1:Nat)) (im,us,st))/\d5 (YJ.ok Y) (YJ.go Y) x0.2.2 (ip d fr tt im us st x0))/\aZ (-1:Int) im (0:Int)=aZ (-1:Int) im (0:Int)/\(st.length:Int)=(st.length:Int)/\(im.length:Int)=(im.length:Int)/\(0:Int)=(↑x0.1:Int)/\fr=fr/\tt=tt/\im=im/\us=us/\st=st/\(0:Nat)=x0.2.1/\Y=Y/\pre=x0.2.2/\true=true)/\(∀x1:Nat×Nat×V8,((x1.1<=im.length/\(x1.2.1+pre.length=(x1.2.2).length/\((bd (YJ.go Y) x1.2.2 (ip d fr tt im us st x1)=bd (YJ.go Y) pre (bA fr tt (d+(1:Nat)) (im,us,st))) /\
 (d5 (YJ.ok Y) (YJ.go Y) x1.2.2 (ip d fr tt im us st x1)))))->(ae (decide ((↑x1.1:Int)<(im.length:Int))) ((aa (↑x1.1:Int) us.length)/\(ae (us.getD (↑x1.1:Int).toNat false) ((ac ((↑x1.1:Int)+(1:Int)))/\(∃x2:Nat×Nat×V8,(((x2.1<=im.length)/\((x2.2.1+pre.length=(x2.2.2).length)/\((bd (YJ.go Y) x2.2.2 (ip d fr tt im us st x2)=bd (YJ.go Y) pre (bA fr tt (d+(1:Nat)) (im,us,st)))/\(d5 (YJ.ok Y) (YJ.go Y) x2.2.2 (ip d fr tt im us st x2)))))/\((im.length-x2.1<im.length-x1.1)/\((aZ (-1:Int) im (0:Int)=aZ (-1:Int) im (0:Int))/\(((st.length:Int)=(st.length:Int))/\(((im.length:Int)=(im.length:Int))/\(((↑x1.1:Int)+(1:Int)=(↑x2.1:Int))/\((fr=fr)/\((tt=tt)/\((im=im)/\((us=us)/\((st=st)/\((x1.2.1=x2.2.1)/\((Y=Y)/\((x1.2.2=x2.2.2)/\(true=true))))))))))))))))) (((oO im.length fr tt (im,us,st))/\((b8 im<(101:Nat))/\(((0:Int)<=aZ (-1:Int) im (0:Int))/\((aZ (-1:Int) im (0:Int)<(im.length:Int))/\(((0:Int)<=(↑x1.1:Int))/\((↑x1.1:Int)<(im.length:Int)))))))/\(ae ((aK fr tt (101:Nat) (aZ (-1:Int) im (0:Int)) (↑x1.1:Int) (im,us,st)).1) (((zi (((dT fr tt im us st x1).1).length) fr tt (jA fr tt im us st x1))/\((b8 (dT fr tt im us st x1).1<d)/\((YJ.P Y=Go.Proofs.Tryz.prog)/\((YJ.e Y=(2:Go.TypeId))/\(d5 (YJ.ok Y) (YJ.go Y) x1.2.2 (bA fr tt d (jA fr tt im us st x1)))))))/\((((0:Int)<=(st.length:Int)) /\
 (((st.length:Int)<=(↑((((dT fr tt im us st x1).2).2).length):Int))/\(((((dT fr tt im us st x1).2).2).length<=(1000:Nat))/\(iV (List.drop (st.length:Int).toNat (((dT fr tt im us st x1).2).2)) (dT fr tt im us st x1).1 (((dT fr tt im us st x1).2).1)))))/\(ae (!(bd (YJ.go Y) x1.2.2 (bA fr tt d (((aK fr tt (101:Nat) (aZ (-1:Int) im (0:Int)) (↑x1.1:Int) (im,us,st)).2).1,(((aK fr tt (101:Nat) (aZ (-1:Int) im (0:Int)) (↑x1.1:Int) (im,us,st)).2).2).1,(((aK fr tt (101:Nat) (aZ (-1:Int) im (0:Int)) (↑x1.1:Int) (im,us,st)).2).2).2))).2) ((false=(bd (YJ.go Y) pre (bA fr tt (d+(1:Nat)) (im,us,st))).2)/\((fr=fr)/\((tt=tt)/\(((lF fr tt im us st x1).1=im)/\(((lF fr tt im us st x1).2=us)/\((List.take (st.length:Int).toNat (((dT fr tt im us st x1).2).2)=st)/\((x1.2.1+(((bd (YJ.go Y) x1.2.2 (bA fr tt d (jA fr tt im us st x1))).1).length-x1.2.2.length)=((bd (YJ.go Y) pre (bA fr tt (d+(1:Nat)) (im,us,st))).1).length-pre.length)/\((Y=Y)/\(((bd (YJ.go Y) x1.2.2 (bA fr tt d (jA fr tt im us st x1))).1=(bd (YJ.go Y) pre (bA fr tt (d+(1:Nat)) (im,us,st))).1)/\((bd (YJ.go Y) x1.2.2 (bA fr tt d (jA fr tt im us st x1))).2=(bd (YJ.go Y) pre (bA fr tt (d+(1:Nat)) (im,us,st))).2)))))))))) ((ac ((↑x1.1:Int)+(1:Int)))/\(∃x3:Nat×Nat×V8,(((x3.1<=im.length)/\((x3.2.1+pre.length=(x3.2.2).length) /\
 ((bd (YJ.go Y) x3.2.2 (ip d fr tt im us st x3)=bd (YJ.go Y) pre (bA fr tt (d+(1:Nat)) (im,us,st)))/\(d5 (YJ.ok Y) (YJ.go Y) x3.2.2 (ip d fr tt im us st x3)))))/\((im.length-x3.1<im.length-x1.1)/\((aZ (-1:Int) im (0:Int)=aZ (-1:Int) im (0:Int))/\(((st.length:Int)=(st.length:Int))/\(((im.length:Int)=(im.length:Int))/\(((↑x1.1:Int)+(1:Int)=(↑x3.1:Int))/\((fr=fr)/\((tt=tt)/\(((lF fr tt im us st x1).1=im)/\(((lF fr tt im us st x1).2=us)/\((List.take (st.length:Int).toNat (((dT fr tt im us st x1).2).2)=st)/\((x1.2.1+(((bd (YJ.go Y) x1.2.2 (bA fr tt d (jA fr tt im us st x1))).1).length-x1.2.2.length)=x3.2.1)/\((Y=Y)/\(((bd (YJ.go Y) x1.2.2 (bA fr tt d (jA fr tt im us st x1))).1=x3.2.2)/\((bd (YJ.go Y) x1.2.2 (bA fr tt d (jA fr tt im us st x1))).2=true)))))))))))))))))))) ((((0:Int)<=(st.length:Int))/\(((st.length:Int)<=(↑((((dT fr tt im us st x1).2).2).length):Int))/\(((((dT fr tt im us st x1).2).2).length<=(1000:Nat))/\(iV (List.drop (st.length:Int).toNat (((dT fr tt im us st x1).2).2)) (dT fr tt im us st x1).1 (((dT fr tt im us st x1).2).1)))))/\((ac ((↑x1.1:Int)+(1:Int)))/\(∃x4:Nat×Nat×V8,(((x4.1<=im.length)/\((x4.2.1+pre.length=(x4.2.2).length)/\((bd (YJ.go Y) x4.2.2 (ip d fr tt im us st x4)=bd (YJ.go Y) pre (bA fr tt (d+(1:Nat)) (im,us,st))) /\
 (d5 (YJ.ok Y) (YJ.go Y) x4.2.2 (ip d fr tt im us st x4)))))/\((im.length-x4.1<im.length-x1.1)/\((aZ (-1:Int) im (0:Int)=aZ (-1:Int) im (0:Int))/\(((st.length:Int)=(st.length:Int))/\(((im.length:Int)=(im.length:Int))/\(((↑x1.1:Int)+(1:Int)=(↑x4.1:Int))/\((fr=fr)/\((tt=tt)/\(((lF fr tt im us st x1).1=im)/\(((lF fr tt im us st x1).2=us)/\((List.take (st.length:Int).toNat (((dT fr tt im us st x1).2).2)=st)/\((x1.2.1=x4.2.1)/\((Y=Y)/\((x1.2.2=x4.2.2)/\(true=true)))))))))))))))))))))) ((true=(bd (YJ.go Y) pre (bA fr tt (d+(1:Nat)) (im,us,st))).2)/\((fr=fr)/\((tt=tt)/\((im=im)/\((us=us)/\((st=st)/\((x1.2.1=((bd (YJ.go Y) pre (bA fr tt (d+(1:Nat)) (im,us,st))).1).length-pre.length)/\((Y=Y)/\((x1.2.2=(bd (YJ.go Y) pre (bA fr tt (d+(1:Nat)) (im,us,st))).1)/\(true=(bd (YJ.go Y) pre (bA fr tt (d+(1:Nat)) (im,us,st))).2))))))))))))))))
theorem Q5(d:Nat)(fr:V9)(tt:V9)(im:V7)(us:List Bool)(st:V7)(Y:YJ)(pre:V8):kW Tryz.prog (ai (HL d)) ak (HK (d+1) fr tt im us st Y pre) Tryz.f130 (aE Tryz.f130) [.box [.c (.r3 .i64 fr),.c (.r3 .i64 tt),.ob (.ints 2 .i64 im),.ob (.bools 4 us),.ob (.ints 2 .i64 st)],.m (.ob (.yd 0 Y pre true))] (HH (d+1) fr tt im us st Y pre) (gy 0 (HI (d+1) fr tt im us st Y pre)++gV (HJ (d+1) fr tt im us st Y pre))=zj d fr tt im us st Y pre:=by kernel_rfl
theorem Q6(d:Nat)(fr:V9)(tt:V9)(im:V7)(us:List Bool)(st:V7)(Y:YJ)(pre:V8)(Yh:(ni (d+1) fr tt im us st Y pre).pre):zj d fr tt im us st Y pre:=by
 simp only[ni,zj,dT,ip,lF,jA,aG,u1,u2,u3,u4,u5,u6,u7,u8,u9,v1,v2,v3,v4,v5,v6,v7,v8,v9,w1,w2,w3,w4,aH,aa,ac,af,ar]at Yh⊢;obtain⟨⟨⟨hn,hlen,hf100,hfr,htt,hw⟩,hi⟩,hfd,hP,he,hok⟩:=Yh;have eL:bA fr tt (d+1) (im,us,st)=if aZ (-1) im 0<0 then [im]else fJ fr tt (bA fr tt d) (im,us,st) (aZ (-1) im 0) im.length 0:=rfl
 refine⟨by omega,fun h0=>?_,fun h0=>?_⟩
 ·rw[eL,if_pos h0]at hok⊢
  have hv:bd Y.go pre [im]=(pre++[im],Y.go pre im):=by
   rw[bd];cases h:Y.go pre im with
   |true=>rfl
   |false=>rfl
  rw[hv];exact⟨⟨hP,he,hok.1⟩,rfl,by simp,rfl,rfl⟩
 ·rw[eL,if_neg h0]at hok⊢
  have hx:0<=aZ (-1) im 0/\aZ (-1) im 0<(im.length:Int)/\gi im (aZ (-1) im 0)=-1:=by
   rcases zv (-1) im 0 (Int.le_refl _)with h|⟨h1,h2,h3⟩
   ·exact absurd h.1 h0
   ·exact⟨h1,by omega,by simpa[gi]using h3⟩
  simp only[Nat.add_sub_cancel];generalize aZ (-1) im 0=x at *
  obtain⟨hx0,hxn,hxg⟩:=hx;have hus:us.length=im.length:=hw.us
  have hcn:st.length+b8 im=im.length:=hw.cnt
  generalize hR:bd Y.go pre (fJ fr tt (bA fr tt d) (im,us,st) x im.length 0)=R
  refine⟨⟨(0,0,pre),⟨Nat.zero_le _,by simp,hR,hok⟩,rfl,rfl,rfl⟩,?_⟩
  rintro⟨v,k,pr⟩ ⟨hv,hk,hvis,hvo⟩
  simp only at hv hk hvis hvo⊢;refine⟨fun hlt=>?_,fun hge=>?_⟩
  ·have hlt':v<im.length:=by omega
   have hE:im.length-v=(im.length-(v+1))+1:=by omega
   rw[hE,fJ]at hvis hvo;simp only at hvis hvo;refine⟨⟨by omega,by omega⟩,fun hu=>⟨⟨by omega,by omega⟩,?_⟩,fun hu=>?_⟩
   ·rw[if_pos hu,List.nil_append]at hvis hvo
    exact⟨(v+1,k,pr),⟨hlt',hk,hvis,hvo⟩,by simp only;omega,by simp only;omega,rfl,rfl⟩
   ·rw[if_neg (by rw[hu];simp)]at hvis hvo
    have hv0:(0:Int)<=(v:Int):=by omega
    have hM:=lH hfr htt 101 x (v:Int) (im,us,st) hx0 hxn hv0 hlt hw
    have hL:=Ij hfr htt (d:=100) (v:=(v:Int)) hx0 hxn hv0 hlt hw (by show gi im x<0;omega) (by simpa using hu)
    have hU:=Rl hw hi hM
    have hW:=hM.wf
    have hi':=hM.hon hi
    generalize aK fr tt 101 x (v:Int) (im,us,st)=r at *
    obtain⟨rb,a,b,c⟩:=r;simp only at hM hL hU hW hi' hvis hvo⊢;obtain⟨u1,u2,u3,u4⟩:=hU;have ha:a.length=im.length:=hW.im
    have hcn2:c.length+b8 a=im.length:=hW.cnt
    rw[u2,u3];refine⟨⟨⟨hn,hlen,hf100,hfr,htt,hw⟩,by omega,hx0,hxn,hv0,hlt⟩,fun hq=>?_,fun hq=>?_⟩
    ·rw[if_pos hq]at hvis hvo
     rw[Ig]at hvis;rw[Ih]at hvo;have hvl:=Ii (go:=Y.go) (bA fr tt d (a,b,c)) pr
     refine⟨⟨⟨by rw[ha];exact⟨hn,hlen,hf100,hfr,htt,hW⟩,by rw[ha];exact hi'⟩,by omega,hP,he,hvo.1⟩,⟨by omega,by omega,by omega,u1⟩,fun hz=>?_,fun hz=>⟨⟨by omega,by omega⟩,?_⟩⟩
     ·rw[if_neg (by rw[hz];simp)]at hvis
      rw[hvis]at hz hvl⊢;exact⟨hz.symm,rfl,rfl,rfl,by omega,rfl,rfl⟩
     ·rw[if_pos hz]at hvis
      exact⟨(v+1,k+((bd Y.go pr (bA fr tt d (a,b,c))).1.length-pr.length),(bd Y.go pr (bA fr tt d (a,b,c))).1),⟨hlt',by simp only;omega,hvis,hvo.2 hz⟩,by simp only;omega,by simp only;omega,rfl,rfl,rfl,rfl,rfl,hz⟩
    ·rw[if_neg (by rw[hq];simp),List.nil_append]at hvis hvo
     exact⟨⟨by omega,by omega,by omega,u1⟩,⟨by omega,by omega⟩,(v+1,k,pr),⟨hlt',hk,hvis,hvo⟩,by simp only;omega,by simp only;omega,rfl,rfl,rfl,rfl,rfl⟩
  ·have hz:im.length-v=0:=by omega
   rw[hz,fJ]at hvis;rw[<-hvis];exact⟨rfl,by simp only[bd];omega,rfl,rfl⟩
theorem Q7(fr:V9)(tt:V9)(im:V7)(us:List Bool)(st:V7)(Y:YJ)(pre:V8)(h:(ni 0 fr tt im us st Y pre).pre):False:=by
 simp only[ni]at h;omega
theorem Q8(d:Nat):Fits Tryz.prog 130 ⟨[(0,93),(0,93)],nj d⟩:=by
 induction d with
 |zero =>
  refine D0 ⟨Tryz.f130,Tryz.func130,by kernel_rfl,by kernel_rfl⟩ fun ds p h hp=>?_
  unfold nj at h;split at h
  ·cases h
   exact Q7 _ _ _ _ _ _ _  hp
  ·cases h
 |succ d ih =>
  refine om (Γ:=ai (HL d)) (aw F6 (aw (Q4 101) (aw OG (aw ih aF)))) Tryz.func130 (by kernel_rfl) (by kernel_rfl) (fun ads p h=>?_) fun mas q sv ex outs h hq=>?_
  ·unfold nj at h
   split at h
   ·cases h;rfl
   ·cases h
  ·unfold nj at h
   split at h
   ·rename_i heq
    have heq:=mE (l:=[_,_]) heq
    subst heq;unfold ni at h;cases h;exact⟨ak,HK _ _ _ _ _ _ _ _ ,by rw[Q5];exact Q6 _ _ _ _ _ _ _ _  hq⟩
   ·cases h
def bu(fr:V9):Nat:=(fr.getD 0 []).length
def eO(n:Nat):MS:=(List.replicate n (-1),List.replicate n false,[])
def cz(fr tt:V9):V8:=if bu tt=bu fr then bA fr tt 101 (eO (bu fr))else []
def jB(fr tt:V9):Prop:=1<=fr.length/\fr.length=tt.length/\fr.length<=100/\bu fr<=100/\cP (bu fr) fr/\(bu tt=bu fr->cP (bu fr) tt)
theorem zk(n:Nat):b8 (List.replicate n (-1))=n:=by
 induction n with
 |zero=>rfl
 |succ n ih=>rw[List.replicate_succ,b8,List.countP_cons];rw[b8]at ih;rw[ih];simp
theorem nk{n:Nat}{x:Int}(h:0<=x)(k:x<n):gi (List.replicate n (-1)) x=-1:=by
 have:x.toNat<n:=by omega
 simp[gi,List.getD,this]
theorem HM(n:Nat):MW n (eO n):=⟨by simp[eO],by simp[eO],fun x hx=>by simp[eO]at hx,fun z h0 h1=>by rw[eO,nk h0 h1];omega,by simp[eO,zk]⟩
theorem HN(n:Nat):MI n (eO n):=⟨by simp[eO],fun x h0 h1=>by simp only[eO];rw[nk h0 h1];simp,fun x h0 h1 _=>by rw[eO,nk h0 h1],fun x y h0 h1 _ _ h=>by simp only[eO]at h;rw[nk h0 h1]at h;omega,fun v h0 h1=>by
 simp only[eO]
 constructor
 ·intro h
  have:v.toNat<n:=by omega
  simp[List.getD,this]at h
 ·rintro⟨x,x0,x1,e⟩
  rw[nk x0 x1]at e;omega⟩
def HO(Y:YJ)(fr:V9)(tt:V9):SV:=.tup []
def HP(Y:YJ)(fr:V9)(tt:V9):List MA:=[.m (.ob (.yd (bd Y.go [] (cz fr tt)).1.length Y (bd Y.go [] (cz fr tt)).1 (bd Y.go [] (cz fr tt)).2)),.box [.c (.r3 .i64 fr)],.box [.c (.r3 .i64 tt)]]
def HQ(Y:YJ)(fr:V9)(tt:V9):List (Nat×Ob):=[]
def sJ(Y:YJ)(fr:V9)(tt:V9):Post:=⟨jB fr tt/\Y.P=Tryz.prog/\Y.e=2/\d5 Y.ok Y.go [] (cz fr tt),.st (HO Y fr tt) (HQ Y fr tt) (HP Y fr tt),[]⟩
def oQ:List AD->Option Post
 | [.ma (.m (.ob (.yd 0 Y [] true))),.ma (.box [.c (.r3 .i64 fr)]),.ma (.box [.c (.r3 .i64 tt)])]=>some (sJ Y fr tt)
 |_=>none
def HR(Y:YJ)(fr:V9)(tt:V9):Nat->Option Ann
 |0=>some (Ann.mk ((Nat)) (fun i=>⟨[(0,.c (.own 7000)),(1,.c (.ptr 7100 0)),(2,.c (.ptr 7200 0)),(5,.c (.ptr 500 0)),(26,.c (.int .i64 ((bu fr:Int)))),(27,.c (.int .i64 ((i:Int))))],[(7000,some (.yd 0 Y [] true)),(7100,some (.box [.ro (.r3 .i64 fr)])),(7200,some (.box [.ro (.r3 .i64 tt)])),(500,some (.box [.ro (.r3 .i64 fr),.ro (.r3 .i64 tt),.own 501,.own 502,.nil])),(501,some (.ints 2 .i64 ((List.replicate i (-1)++List.replicate (bu fr-i) 0)))),(502,some (.bools 4 ((List.replicate (bu fr) false))))]⟩) (fun i=>i<=bu fr) (fun i=>bu fr-i) (fun _=>am))
 |_=>none
def HS:List (Nat×Ctr):=[(130,⟨[(0,93),(0,93)],nj 101⟩)]
def gP(fr:V9):=(↑((fr.getD (0:Nat) ([]:V8)).length):Int)
def nm(fr:V9)(x0:Nat):=(List.replicate x0 (-1:Int)++List.replicate (bu fr-x0) (0:Int),List.replicate (bu fr) false,([]:V7))
def zm(Y:YJ)(fr:V9)(tt:V9):Prop :=
 (aa (0:Int) fr.length/\(aa (0:Int) tt.length/\(ae ((↑((tt.getD (0:Nat) ([]:V8)).length):Int) != (↑((fr.getD (0:Nat) ([]:V8)).length):Int)) ((0:Nat)=((bd (YJ.go Y) ([]:V8) (cz fr tt)).1).length/\Y=Y/\([]:V8)=(bd (YJ.go Y) ([]:V8) (cz fr tt)).1/\true=(bd (YJ.go Y) ([]:V8) (cz fr tt)).2/\fr=fr/\tt=tt) (((0:Int)<=(gP fr)/\(gP fr)<=(gP fr)/\af (gP fr).toNat)/\(((0:Int)<=(gP fr)/\(gP fr)<=(gP fr)/\af (gP fr).toNat)/\((∃x0:Nat,x0<=bu fr/\(↑((List.replicate (gP fr).toNat (0:Int)).length):Int)=(bu fr:Int)/\(0:Int)=(x0:Int)/\(0:Nat)=(0:Nat)/\Y=Y/\([]:V8)=([]:V8)/\true=true/\fr=fr/\tt=tt/\fr=fr/\tt=tt/\List.replicate (gP fr).toNat (0:Int)=List.replicate x0 (-1:Int)++List.replicate (bu fr-x0) (0:Int)/\List.replicate (gP fr).toNat false=List.replicate (bu fr) false)/\(∀x1:Nat,(x1<=bu fr->(ae (decide ((x1:Int)<(bu fr:Int))) (aa (x1:Int) ((List.replicate x1 (-1:Int)++List.replicate (bu fr-x1) (0:Int)).length)/\(ac ((x1:Int)+(1:Int))/\(∃x2:Nat,(x2<=bu fr/\(bu fr-x2<bu fr-x1/\((bu fr:Int)=(bu fr:Int)/\((x1:Int)+(1:Int)=(x2:Int)/\((0:Nat)=(0:Nat)/\((Y=Y) /\
 ((([]:V8)=([]:V8))/\((true=true)/\((fr=fr)/\((tt=tt)/\((fr=fr)/\((tt=tt)/\((List.set (List.replicate x1 (-1:Int)++List.replicate (bu fr-x1) (0:Int)) (x1:Int).toNat (-1:Int)=List.replicate x2 (-1:Int)++List.replicate (bu fr-x2) (0:Int))/\(List.replicate (bu fr) false=List.replicate (bu fr) false))))))))))))))))) (((zi ((List.replicate x1 (-1:Int)++List.replicate (bu fr-x1) (0:Int)).length) fr tt (nm fr x1))/\((b8 (List.replicate x1 (-1:Int)++List.replicate (bu fr-x1) (0:Int))<(101:Nat))/\((YJ.P Y=Go.Proofs.Tryz.prog)/\((YJ.e Y=(2:Go.TypeId))/\(d5 (YJ.ok Y) (YJ.go Y) ([]:V8) (bA fr tt (101:Nat) (nm fr x1)))))))/\(((0:Nat)+(((bd (YJ.go Y) ([]:V8) (bA fr tt (101:Nat) (nm fr x1))).1).length-([]:V8).length)=((bd (YJ.go Y) ([]:V8) (cz fr tt)).1).length)/\((Y=Y)/\(((bd (YJ.go Y) ([]:V8) (bA fr tt (101:Nat) (nm fr x1))).1=(bd (YJ.go Y) ([]:V8) (cz fr tt)).1)/\(((bd (YJ.go Y) ([]:V8) (bA fr tt (101:Nat) (nm fr x1))).2=(bd (YJ.go Y) ([]:V8) (cz fr tt)).2)/\((fr=fr)/\(tt=tt))))))))))))))))
theorem Q9(Y:YJ)(fr:V9)(tt:V9):kW Tryz.prog (ai HS) ak (HR Y fr tt) Tryz.f129 (aE Tryz.f129) [.m (.ob (.yd 0 Y [] true)),.box [.c (.r3 .i64 fr)],.box [.c (.r3 .i64 tt)]] (HO Y fr tt) (gy 0 (HP Y fr tt)++gV (HQ Y fr tt))=zm Y fr tt:=by kernel_rfl
theorem Ra(Y:YJ)(fr:V9)(tt:V9)(Yh:(sJ Y fr tt).pre):zm Y fr tt:=by
 simp only[sJ,zm,gP,nm,aG,u1,u2,u3,u4,u5,u6,u7,u8,u9,v1,v2,v3,v4,v5,v6,v7,v8,v9,w1,w2,w3,w4,aH,aa,ac,af,ar]at Yh⊢;obtain⟨⟨h1,h2,h3,h4,hf,ht⟩,hP,he,hok⟩:=Yh;refine⟨⟨by omega,by omega⟩,⟨by omega,by omega⟩,fun hne=>?_,fun heq=>⟨⟨by omega,by omega,?_⟩,⟨by omega,by omega,?_⟩,⟨0,Nat.zero_le _,rfl,rfl,by simp[bu],rfl⟩,fun i hi=>⟨fun hlt=>?_,fun hge=>?_⟩⟩⟩
 ·have e:cz fr tt=[]:=if_neg (fun e=>hne (by simp only[bu]at e;omega))
  rw[e];exact⟨rfl,rfl,rfl⟩
 ·simp only[bu]at h4;omega
 ·simp only[bu]at h4;omega
 ·refine⟨by omega,by omega,i+1,by omega,by omega,by omega,?_⟩
  have:bu fr-i=(bu fr-(i+1))+1:=by omega
  rw[this,List.replicate_succ,List.set_append_right _ _ (by simp)]
  simp[List.replicate_succ']
 ·have ei:i=bu fr:=by omega
  subst ei;have en:bu tt=bu fr:=by simp only[bu];omega
  have e:cz fr tt=bA fr tt 101 (eO (bu fr)):=if_pos en
  simp only[Nat.sub_self,List.replicate_zero,List.append_nil,Nat.add_zero,Nat.sub_zero,Nat.zero_add];rw[e]at hok⊢;exact⟨⟨⟨⟨h4,h2,h3,hf,ht en,HM _⟩,HN _⟩,by rw[zk];omega,hP,he,hok⟩,rfl,rfl,rfl⟩
theorem HT:Fits Tryz.prog 129 ⟨[(0,93),(0,93)],oQ⟩:=by
 refine om (Γ:=ai HS) (aw (Q8 101) aF) Tryz.func129 (by kernel_rfl) (by kernel_rfl) (fun ads p h=>?_) fun mas q sv ex outs h hq=>?_
 ·unfold oQ at h
  split at h
  ·cases h;rfl
  ·cases h
 ·unfold oQ at h
  split at h
  ·rename_i heq
   have heq:=mE (l:=[_,_,_]) heq
   subst heq;unfold sJ at h;cases h;exact⟨ak,HR _ _ _ ,by rw[Q9];exact Ra _ _ _  hq⟩
  ·cases h
theorem HU(x:Int):∀(l:V7) (k:Int),0<=k->∀j:Nat,(j:Int)+k<aZ x l k->l.getD j 0≠x
 | [],k,hk,j,h=>by simp[aZ]at h;omega
 |y::l,k,hk,j,h=>by
  rw[aZ]at h;by_cases e:y=x
  ·rw[if_pos e]at h;omega
  ·rw[if_neg e]at h
   cases j with
   |zero=>simpa using e
   |succ j =>
    rw[List.getD_cons_succ];exact HU x l (k+1) (by omega) j (by push_cast at h;omega)
theorem HV:∀(a b:V7) (i:Nat),i<a.length->a.length=b.length->(∀j,j<i->a.getD j 0=b.getD j 0)->a.getD i 0<b.getD i 0->bj a b=true
 | [],_,i,h,_,_,_=>by simp at h
 |_::_,[],_,_,h,_,_=>by simp at h
 |x::a,y::b,i,hi,hl,hj,hlt=>by
  rw[bj];cases i with
  |zero =>
   simp only[List.getD_cons_zero]at hlt;rw[if_neg (by omega)];simpa using hlt
  |succ i =>
   have h0:=hj 0 (by omega)
   simp only[List.getD_cons_zero]at h0;rw[if_pos h0];refine HV a b i (by simpa using hi) (by simpa using hl) (fun j hj'=>?_) (by simpa using hlt)
   have:=hj (j+1) (by omega)
   simpa using this
theorem Rb{a b:V8}(ha:eY a)(hb:eY b)(h:∀g,g∈a↔g∈b):a=b:=by
 have hp:a.Perm b:=(List.perm_ext_iff_of_nodup (oJ ha) (oJ hb)).2 h
 exact List.Perm.eq_of_pairwise (le:=fun x y=>bj x y=true) (fun x y _ _ h1 h2=>by have:=yZ _ _ _ h1 h2;rw[yY]at this;cases this) ha hb hp
theorem zn{n:Nat}{a:V9}(h:bt n a):cP n a:=fun t ht=>by
 obtain⟨k,hk,e⟩:=List.mem_iff_getElem.1 ht;have:=h k hk
 rw[List.getD,List.getElem?_eq_getElem hk,Option.getD_some,e]at this;refine⟨this.1,fun x y hx hxn=>?_⟩
 obtain⟨h1,h2⟩:=this.2 x.toNat (by omega)
 exact⟨h1,fun hy hyn=>h2 y.toNat (by omega)⟩
theorem Rc{n:Nat}{a b:V9}(ha:cP n a)(hab:a.length=b.length){p:V7}(hl:p.length=n)(hr:∀i,i<n->0<=p.getD i 0/\p.getD i 0<(n:Int)):lw a b p↔TT (sQ n p) a b:=by
 rw[TT.iff hab]
 constructor
 ·intro h k hk x y hx hxn hy hyn
  have t0:=((ha (a.getD k []) (by rw[List.getD,List.getElem?_eq_getElem hk];exact List.getElem_mem hk)).2 x y hx hxn).2 hy hyn
  exact h k x.toNat y.toNat hk (by omega) (by omega) (by rw[hl];exact t0.2)
 ·intro h k x y hk hx hy _
  exact h k hk (x:Int) (y:Int) (by omega) (by omega) (by omega) (by omega)
section
variable {n:Nat} {F T:V9}
theorem zo{E:MS->V8}{s:MS}{x:Int}{p:V7}:∀(e v:Nat),p∈fJ F T E s x e v↔∃w:Nat,v<=w/\w<v+e/\¬ s.2.1.getD w false=true/\(aK F T 101 x w s).1=true/\p∈E (aK F T 101 x w s).2
 |0,v=>by simp[fJ];intro w h1 h2;omega
 |e+1,v=>by
  rw[fJ,List.mem_append,zo e (v+1)]
  constructor
  ·rintro(h|⟨w,h1,h2,h3⟩)
   ·split at h
    ·cases h
    ·split at h
     ·rename_i h1 h2;exact⟨v,Nat.le_refl _,by omega,h1,h2,h⟩
     ·cases h
   ·exact⟨w,by omega,by omega,h3⟩
  ·rintro⟨w,h1,h2,h3,h4,h5⟩
   by_cases e2:w=v
   ·subst e2;left;rw[if_neg h3,if_pos h4];exact h5
   ·exact .inr ⟨w,by omega,by omega,h3,h4,h5⟩
theorem HW{E:MS->V8}{s:MS}{x:Int}:∀(e v:Nat),(∀w:Nat,v<=w->w<v+e->¬ s.2.1.getD w false=true->(aK F T 101 x w s).1=true->eY (E (aK F T 101 x w s).2))->(∀w w':Nat,v<=w->w<w'->w'<v+e->¬ s.2.1.getD w false=true->¬ s.2.1.getD w' false=true->(aK F T 101 x w s).1=true->(aK F T 101 x w' s).1=true->∀p∈E (aK F T 101 x w s).2,∀q∈E (aK F T 101 x w' s).2,bj p q=true) ->
  eY (fJ F T E s x e v)
 |0,v,_,_=>by rw[fJ];exact List.Pairwise.nil
 |e+1,v,h1,h2=>by
  rw[fJ];refine List.pairwise_append.2 ⟨?_,HW e (v+1) (fun w a b=>h1 w (by omega) (by omega)) (fun w w' a b c=>h2 w w' (by omega) b (by omega)),fun p hp q hq=>?_⟩
  ·split
   ·exact List.Pairwise.nil
   ·split
    ·rename_i a b;exact h1 v (Nat.le_refl _) (by omega) a b
    ·exact List.Pairwise.nil
  ·obtain⟨w,a1,a2,a3,a4,a5⟩:=(zo e (v+1)).1 hq
   split at hp
   ·cases hp
   ·split at hp
    ·rename_i b1 b2;exact h2 v w (Nat.le_refl _) (by omega) (by omega) b1 a3 b2 a4 p hp q a5
    ·cases hp
theorem HX(hn:n<=100)(hFT:F.length=T.length)(hf:cP n F)(ht:cP n T):∀(d:Nat) (s:MS),MW n s->MI n s->b8 s.1<d->Cl F T [] s->(∀p,p∈bA F T d s↔isoL n F T p/\gt n p s)/\eY (bA F T d s)
 |0,s,_,_,h,_=>by omega
 |d+1,s,w,q,hd,hc=>by
  have iso:=fun {p:V7} hl hr=>Rc (n:=n) (b:=T) hf hFT (p:=p) hl hr
  have hcn:=w.cnt
  rw[bA];rcases zv (-1) s.1 0 (Int.le_refl _)with⟨h1,h2⟩|⟨h1,h2,h3⟩
  ·rw[if_pos h1]
   have all:∀x:Int,0<=x->x<n->0<=gi s.1 x:=fun x x0 x1=>Classical.byContradiction fun hh=>by
    have:=q.neg x x0 x1 hh
    refine h2 ?_
    rw[<-this];have hxl:x.toNat<s.1.length:=by rw[w.im];omega
    rw[gi,List.getD,List.getElem?_eq_getElem hxl,Option.getD_some];exact List.getElem_mem hxl
   have hrng:∀i,i<n->0<=s.1.getD i 0/\s.1.getD i 0<(n:Int):=fun i hi=>⟨all (i:Int) (by omega) (by omega),w.rg (i:Int) (by omega) (by omega)⟩
   have hmem:∀x:Int,0<=x->x<n->x∈s.2.2:=fun x x0 x1=>(q.mem x x0 x1).2 (all x x0 x1)
   refine⟨fun p=>?_,by simp[eY]⟩
   rw[List.mem_singleton]
   constructor
   ·rintro rfl
    refine⟨⟨w.im,hrng,?_,(iso w.im hrng).2 ?_⟩,fun _ _ _ _=>rfl⟩
    ·refine List.pairwise_iff_getElem.2 fun i j hi hj hij e=>?_
     have hl:=w.im
     have:=q.inj (i:Int) (j:Int) (by omega) (by omega) (by omega) (by omega) (all _ (by omega) (by omega)) (by simp[gi,List.getD,hi,hj,e])
     omega
    ·rw[TT.iff hFT]
     intro k hk x y x0 x1 y0 y1
     exact(TT.iff hFT).1 (hc x (hmem x x0 x1) y (hmem y y0 y1) (by simp) (by simp)) k hk
   ·rintro⟨hi,he⟩
    exact If hi.len w.im fun z z0 z1=>he z z0 z1 (all z z0 z1)
  ·have hx0:=h1
   rw[if_neg (by omega)]
   have hxg:gi s.1 (aZ (-1) s.1 0)=-1:=by simpa[gi]using h3
   have hxn:aZ (-1) s.1 0<(n:Int):=by rw[w.im]at h2;omega
   have hfst:∀j:Nat,(j:Int)<aZ (-1) s.1 0->0<=gi s.1 (j:Int):=fun j hj=>Classical.byContradiction fun hh=>by
    have:=q.neg (j:Int) (by omega) (by omega) hh
    exact HU (-1) s.1 0 (Int.le_refl _) j (by omega) (by simpa[gi]using this)
   generalize aZ (-1) s.1 0=x at *
   have step:∀v:Nat,v<n->¬ s.2.1.getD v false=true->(aK F T 101 x v s).1=true->(∀p,p∈bA F T d (aK F T 101 x v s).2↔isoL n F T p/\gt n p (aK F T 101 x v s).2)/\eY (bA F T d (aK F T 101 x v s).2)/\(∀p,gt n p (aK F T 101 x v s).2->gt n p s/\gi p x=v):=fun v hv hu ha=>by
    have m1:=lH hf ht 101 x (v:Int) s hx0 hxn (by omega) (by omega) w
    have hl:b8 (aK F T 101 x (v:Int) s).2.1+1<=b8 s.1:=Ij hf ht (d:=100) (v:=(v:Int)) hx0 hxn (by omega) (by omega) w (by omega) (by simpa using hu)
    obtain⟨c1,c2⟩:=Ip hf ht 101 [] x (v:Int) s hx0 hxn (by omega) (by omega) w hc ha
    obtain⟨i1,i2⟩:=HX hn hFT hf ht d _ m1.wf (m1.hon q) (by omega) c1
    exact⟨i1,i2,fun p hp=>⟨fun z z0 z1 hz=>by rw[<-m1.keep z z0 z1 hz];exact hp z z0 z1 (by rw[m1.keep z z0 z1 hz];exact hz),by rw[<-c2];exact hp x hx0 hxn (by rw[c2];omega)⟩⟩
   refine⟨fun p=>?_,?_⟩
   ·rw[zo]
    constructor
    ·rintro⟨v,_,h5,h6,h7,h8⟩
     have h5:v<n:=by rw[w.im]at h5;omega
     obtain⟨i1,_,i3⟩:=step v h5 h6 h7;obtain⟨j1,j2⟩:=(i1 p).1 h8;exact⟨j1,(i3 p j2).1⟩
    ·rintro⟨hi,he⟩
     have hr:=hi.rng x.toNat (by omega)
     have hpx:gi p x=((gi p x).toNat:Int):=by simp only[gi];omega
     have hv:(gi p x).toNat<n:=by simp only[gi];omega
     obtain⟨c1,c2⟩:=In hi.len hi.nd hf ht ((iso hi.len hi.rng).1 hi.ok) 101 x ((gi p x).toNat:Int) s hx0 hxn (by omega) (by omega) w q (by omega) he hpx
     have hu:¬ s.2.1.getD (gi p x).toNat false=true:=fun hu=>by
      obtain⟨z,z0,z1,hz⟩:=(q.us ((gi p x).toNat:Int) (by omega) (by omega)).1 (by rw[Int.toNat_natCast];exact hu)
      have e:=he z z0 z1 (by omega)
      have:=Im hi.len hi.nd ⟨z0,z1⟩ ⟨hx0,hxn⟩ (by rw[e,hz];exact hpx.symm)
      subst this;omega
     obtain⟨i1,_,_⟩:=step _ hv hu c1;exact⟨(gi p x).toNat,Nat.zero_le _,by rw[w.im];omega,hu,c1,(i1 p).2 ⟨hi,c2⟩⟩
   ·refine HW _ _ (fun v _ h5 h6 h7=>(step v (by rw[w.im]at h5;omega) h6 h7).2.1) (fun v v' _ hvv h5 h6 h6' h7 h7' p hp r hr=>?_)
    have h5':v'<n:=by rw[w.im]at h5;omega
    obtain⟨i1,_,i3⟩:=step v (by omega) h6 h7
    obtain⟨j1,_,j3⟩:=step v' h5' h6' h7';obtain⟨a1,a2⟩:=(i1 p).1 hp;obtain⟨b1,b2⟩:=(j1 r).1 hr;obtain⟨e1,e2⟩:=i3 p a2;obtain⟨f1,f2⟩:=j3 r b2;refine HV p r x.toNat (by rw[a1.len];omega) (by rw[a1.len,b1.len]) (fun j hj=>?_) ?_
    ·have hz:=hfst j (by omega)
     have q1:=e1 (j:Int) (by omega) (by omega) hz
     have q2:=f1 (j:Int) (by omega) (by omega) hz
     simpa[gi]using q1.trans q2.symm
    ·show gi p x<gi r x
     rw[e2,f2];omega
theorem kh{fr tt:V9}(h:jB fr tt):(∀p,p∈cz fr tt↔bu tt=bu fr/\isoL (bu fr) fr tt p)/\eY (cz fr tt):=by
 obtain⟨h1,h2,h3,h4,hf,ht⟩:=h;rw[cz];split
 ·rename_i e
  obtain⟨a,b⟩:=HX h4 h2 hf (ht e) 101 (eO (bu fr)) (HM _) (HN _) (by rw[eO,zk];omega) (fun a ha=>by simp[eO]at ha)
  refine⟨fun p=>?_,b⟩
  rw[a p];exact⟨fun k=>⟨e,k.1⟩,fun k=>⟨k.2,fun z z0 z1 hz=>by simp only[eO]at hz;rw[nk z0 z1]at hz;omega⟩⟩
 ·rename_i e
  exact⟨fun p=>⟨fun k=>(by cases k),fun k=>absurd k.1 e⟩,List.Pairwise.nil⟩
end
def sK(l:V7):Post:=⟨l.length≠0/\af l.length,.c (.ints 2 .i64 l),[]⟩
def sL:List AD->Option Post
 | [.c (.ints .i64 l)]=>some (sK l)
 |_=>none
def HY:List (Nat×Ctr):=[]
def zp(l:V7):Prop :=
 FC.len (FC.ints IntKind.i64 l)≠(0:Nat)/\af (([]:V7).length+l.length)/\[]++l=l/\True
theorem Re(l:V7):aJ Tryz.prog (ai HY) ak am Tryz.f82 (aE Tryz.f82) [] [.c (.ints .i64 l)] (sK l)=zp l:=by kernel_rfl
theorem Rf(l:V7)(Yh:(sK l).pre):zp l:=by
 simp only[sK,zp,aG,u1,u2,u3,u4,u5,u6,u7,u8,u9,v1,v2,v3,v4,v5,v6,v7,v8,v9,w1,w2,w3,w4,aH,aa,ac,af,ar]at Yh⊢;obtain⟨a,b⟩:=Yh;exact⟨a,by omega,rfl⟩
theorem HZ:Fits Tryz.prog 82 ⟨[],sL⟩:=by
 refine aO (Γ:=ai HY) aF Tryz.func82 fun ds p h hp=>?_
 unfold sL at h;split at h
 ·cases h
  exact⟨ak,am,by rw[Re];exact Rf _  hp⟩
 ·cases h
def H0(fr:V9)(tt:V9):SV:=.fn 129 [.ptr 400 0,.ptr 401 0]
def H1(fr:V9)(tt:V9):List MA:=[]
def H2(fr:V9)(tt:V9):List (Nat×Ob):=[(400,(.box [.own 402])),(401,(.box [.own 403])),(402,(.lst 0 22 (.r3 .i64 fr))),(403,(.lst 0 22 (.r3 .i64 tt)))]
def sM(fr:V9)(tt:V9):Post:=⟨True,.st (H0 fr tt) (H2 fr tt) (H1 fr tt),[]⟩
def oR:List AD->Option Post
 | [.ma (.m (.ob (.lst 0 22 (.r3 .i64 fr)))),.ma (.m (.ob (.lst 0 22 (.r3 .i64 tt))))]=>some (sM fr tt)
 |_=>none
def H3:List (Nat×Ctr):=[]
def zq(fr:V9)(tt:V9):Prop :=
 fr=fr/\tt=tt
theorem Rg(fr:V9)(tt:V9):kW Tryz.prog (ai H3) ak am Tryz.f76 (aE Tryz.f76) [.m (.ob (.lst 0 22 (.r3 .i64 fr))),.m (.ob (.lst 0 22 (.r3 .i64 tt)))] (H0 fr tt) (gy 0 (H1 fr tt)++gV (H2 fr tt))=zq fr tt:=by kernel_rfl
theorem Rh(fr:V9)(tt:V9)(Yh:(sM fr tt).pre):zq fr tt:=by
 simp only[sM,zq,aG,u1,u2,u3,u4,u5,u6,u7,u8,u9,v1,v2,v3,v4,v5,v6,v7,v8,v9,w1,w2,w3,w4,aH,aa,ac,af,ar]at Yh⊢
theorem H4:Fits Tryz.prog 76 ⟨[(0,93),(0,93)],oR⟩:=by
 refine om (Γ:=ai H3) aF Tryz.func76 (by kernel_rfl) (by kernel_rfl) (fun ads p h=>?_) fun mas q sv ex outs h hq=>?_
 ·unfold oR at h
  split at h
  ·cases h;rfl
  ·cases h
 ·unfold oR at h
  split at h
  ·rename_i heq
   have heq:=mE (l:=[_,_]) heq
   subst heq;unfold sM at h;cases h;exact⟨ak,am,by rw[Rg];exact Rh _ _  hq⟩
  ·cases h
theorem H5:∀(l pre:V8),bd (fun _ _=>true) pre l=(pre++l,true)
 | [],pre=>by simp[bd]
 |x::l,pre=>by rw[bd,if_pos rfl,H5 l];simp
theorem H6{ok:V8->V7->Prop}(M:Nat):∀(l pre:V8),(∀pre' x,x∈l->pre'.length<M->ok pre' x)->pre.length+l.length<=M->d5 ok (fun _ _=>true) pre l
 | [],pre,_,_=>trivial
 |x::l,pre,h,hM=>by
  simp only[List.length_cons]at hM;exact⟨h pre x List.mem_cons_self (by omega),fun _=>H6 M l (pre++[x]) (fun pre' y hy=>h pre' y (List.mem_cons_of_mem _ hy)) (by simp;omega)⟩
def sN(t:V8):Post:=⟨1<=t.length/\jB [t] [t]/\(cz [t] [t]).length<=1000000000,.c (.rows 62 2 .i64 (cz [t] [t])),[]⟩
def sO:List AD->Option Post
 | [.c (.rows .i64 t)]=>some (sN t)
 |_=>none
def H7(t:V8):Nat->Option Ann
 |0=>some (Ann.rf 2 (fun _ _=>true) (fun pre x=>pre.length<1000000000/\1<=x.length/\x.length<=100) [600] [(3,.c (.ptr 600 0))] (fun pre=>[(600,some (.box [.own 601])),(601,some (.rows 0 62 2 .i64 pre))]) (fun pre=>[(600,some (.box [.own 601])),(601,some (.rows 0 62 2 .i64 pre))]))
 |_=>none
def H8:List (Nat×Ctr):=[(76,⟨[(0,93),(0,93)],oR⟩),(129,⟨[(0,93),(0,93)],oQ⟩),(82,⟨[],sL⟩)]
def gq(t:V8):=(t::([]:V9))
def zr(t:V8):Prop :=
 True/\(∀p:V8,true=true/\true=true)/\(([]:V8)=([]:V8)/\t::([]:V9)=t::([]:V9)/\t::([]:V9)=t::([]:V9))/\(∀p0:V8,∀x1:V7,p0.length<(1000000000:Nat)/\(1:Nat)<=x1.length/\x1.length<=(100:Nat)->((x1.length≠(0:Nat)/\af x1.length)/\True)/\af (p0.length+(x1::([]:V8)).length)/\true=true/\x1=x1/\p0++x1::([]:V8)=p0++x1::([]:V8))/\∀Y2:YJ,YJ.P Y2=Go.Proofs.Tryz.prog->YJ.e Y2=(2:Go.TypeId)->(YJ.go Y2=fun(x:V8) (x_1:V7)=>true)->(YJ.ok Y2=fun(pre:V8) (x:V7)=>pre.length<(1000000000:Nat)/\(1:Nat)<=x.length/\x.length<=(100:Nat))->(jB (gq t) (gq t)/\YJ.P Y2=Go.Proofs.Tryz.prog/\YJ.e Y2=(2:Go.TypeId)/\d5 (YJ.ok Y2) (YJ.go Y2) ([]:V8) (cz (gq t) (gq t)))/\Y2=Y2/\((bd (YJ.go Y2) ([]:V8) (cz (gq t) (gq t))).2=true->(bd (YJ.go Y2) ([]:V8) (cz (gq t) (gq t))).1=cz (gq t) (gq t)/\True)/\((bd (YJ.go Y2) ([]:V8) (cz (gq t) (gq t))).2=false->False)
theorem Ri(t:V8):aJ Tryz.prog (ai H8) ak (H7 t) Tryz.f87 (aE Tryz.f87) [] [.c (.rows .i64 t)] (sN t)=zr t:=by kernel_rfl
theorem Rj(t:V8)(Yh:(sN t).pre):zr t:=by
 simp only[sN,zr,gq,aG,u1,u2,u3,u4,u5,u6,u7,u8,u9,v1,v2,v3,v4,v5,v6,v7,v8,v9,w1,w2,w3,w4,aH,aa,ac,af,ar]at Yh⊢;obtain⟨h1,h2,h3⟩:=Yh;refine⟨fun _=>trivial,fun p x h=>⟨⟨by omega,by omega⟩,by omega⟩,fun Y q1 q2 q3 q4=>?_⟩
 rw[q3,q4,H5];have hn:bu [t]=t.length:=rfl
 have h100:=h2.2.2.2.1
 exact⟨⟨h2,q1,q2,H6 1000000000 _ [] (fun pre' x hx hp=>⟨hp,by
  have:=(((kh h2).1 x).1 hx).2.len;omega,by
  have:=(((kh h2).1 x).1 hx).2.len;omega⟩) (by simpa using h3)⟩,fun _=>by simp,fun h=>by cases h⟩
theorem H9:Fits Tryz.prog 87 ⟨[],sO⟩:=by
 refine aO (Γ:=ai H8) (aw H4 (aw HT (aw HZ aF))) Tryz.func87 fun ds p h hp=>?_
 unfold sO at h;split at h
 ·cases h
  exact⟨ak,H7 _ ,by rw[Ri];exact Rj _  hp⟩
 ·cases h
end Go.Sx
