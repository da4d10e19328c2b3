/- MpgM -/
import Derived.Test.YtkmldclpaniclaaMpgB
import Derived.Test.YtkmldclpaniclaaMpgL
import Derived.Test.YtkmldclpaniclaaGrpC
open Go Go.Proofs
namespace Go.Sx
set_option linter.unusedSimpArgs false
set_option linter.unusedVariables false
def xa (n:Nat) (fr tt:List (List (List Int))) (s:MS):Prop:=nm n fr tt s∧MI n s
def Eo (d:Nat) (fr:List (List (List Int))) (tt:List (List (List Int))) (im:List Int) (us:List Bool) (st:List Int) (Y:YJ) (pre:List (List Int)):SV:=.c (.bool ((aT Y.go pre (bo fr tt d (im,us,st))).2))
def Ep (d:Nat) (fr:List (List (List Int))) (tt:List (List (List Int))) (im:List Int) (us:List Bool) (st:List Int) (Y:YJ) (pre:List (List Int)):List MA:=[.box [.c (.r3 .i64 (fr)),.c (.r3 .i64 (tt)),.ob (.ints 2 .i64 (im)),.ob (.bools 4 (us)),.ob (.ints 2 .i64 (st))],.m (.ob (.yd ((aT Y.go pre (bo fr tt d (im,us,st))).1.length - pre.length) Y (aT Y.go pre (bo fr tt d (im,us,st))).1 (aT Y.go pre (bo fr tt d (im,us,st))).2))]
def Eq (d:Nat) (fr:List (List (List Int))) (tt:List (List (List Int))) (im:List Int) (us:List Bool) (st:List Int) (Y:YJ) (pre:List (List Int)):List (Nat×Ob):=[]
def lQ (d:Nat) (fr:List (List (List Int))) (tt:List (List (List Int))) (im:List Int) (us:List Bool) (st:List Int) (Y:YJ) (pre:List (List Int)):Post:=⟨xa im.length fr tt (im,us,st)∧bQ im<d∧Y.P=Try.prog∧Y.e=2∧dS Y.ok Y.go pre (bo fr tt d (im,us,st)),.st (Eo d fr tt im us st Y pre) (Eq d fr tt im us st Y pre) (Ep d fr tt im us st Y pre),[]⟩
def lR (d:Nat):List AD→Option Post
 | [.ma (.box [.c (.r3 .i64 (fr)),.c (.r3 .i64 (tt)),.ob (.ints 2 .i64 (im)),.ob (.bools 4 (us)),.ob (.ints 2 .i64 (st))]),.ma (.m (.ob (.yd 0 Y pre true)))]=>some (lQ d fr tt im us st Y pre)
 | _=>none
def Er (d:Nat) (fr:List (List (List Int))) (tt:List (List (List Int))) (im:List Int) (us:List Bool) (st:List Int) (Y:YJ) (pre:List (List Int)):Nat→Option Ann
 | 0=>some (Ann.mk ((Nat)×(Nat)×(List (List Int))) (fun x=>match x with | (v,k,pr)=>⟨[(0,.c (.ptr 7000 0)),(1,.c (.own (7100))),(5,.c (.int .i64 ((aV (-1) im 0)))),(6,.c (.int .i64 ((st.length:Int)))),(31,.c (.int .i64 ((im.length:Int)))),(32,.c (.int .i64 ((v:Int))))],[(7000,some (.box [.ro (.r3 .i64 (fr)),.ro (.r3 .i64 (tt)),.own (7003),.own (7004),.own (7005)])),(7003,some (.ints 2 .i64 (im))),(7004,some (.bools 4 (us))),(7005,some (.ints 2 .i64 (st))),(7100,some (.yd k Y pr true))]⟩) (fun x=>match x with | (v,k,pr)=>v≤im.length∧k+pre.length=pr.length∧aT Y.go pr (eU fr tt (bo fr tt (d - 1)) (im,us,st) (aV (-1) im 0) (im.length - v) v)=aT Y.go pre (bo fr tt d (im,us,st))∧dS Y.ok Y.go pr (eU fr tt (bo fr tt (d - 1)) (im,us,st) (aV (-1) im 0) (im.length - v) v)) (fun x=>match x with | (v,k,pr)=>im.length - v) (fun _=>ax))
 | _=>none
def Es (d:Nat):List (Nat×Ctr):=[(92,⟨[],uP⟩),(93,⟨[(0,93),(0,93)],lP 101⟩),(94,⟨[(0,93),(0,93)],qz⟩),(62,⟨[(0,93),(0,93)],lR d⟩)]
def dv (fr:List (List (List Int))) (tt:List (List (List Int))) (im:List Int) (us:List Bool) (st:List Int) (x0:Nat×Nat×List (List Int)):=((aB fr tt (101:Nat) (aV (-1:Int) im (0:Int)) (↑x0.1:Int) (im,us,st)).2)
def gG (d:Nat) (fr:List (List (List Int))) (tt:List (List (List Int))) (im:List Int) (us:List Bool) (st:List Int) (x0:Nat×Nat×List (List Int)):=(eU fr tt (bo fr tt (d+(1:Nat) - (1:Nat))) (im,us,st) (aV (-1:Int) im (0:Int)) (im.length - x0.1) (x0.1))
def ke (fr:List (List (List Int))) (tt:List (List (List Int))) (im:List Int) (us:List Bool) (st:List Int) (x0:Nat×Nat×List (List Int)):=(cV (List.drop ((↑(st.length):Int).toNat) (((dv fr tt im us st x0).2).2)) ((dv fr tt im us st x0).1) (((dv fr tt im us st x0).2).1))
def iO (fr:List (List (List Int))) (tt:List (List (List Int))) (im:List Int) (us:List Bool) (st:List Int) (x0:Nat×Nat×List (List Int)):=((dv fr tt im us st x0).1,((dv fr tt im us st x0).2).1,((dv fr tt im us st x0).2).2)
def xb (d:Nat) (fr:List (List (List Int))) (tt:List (List (List Int))) (im:List Int) (us:List Bool) (st:List Int) (Y:YJ) (pre:List (List Int)):Prop :=
 (((im.length≤(1099511627776:Nat))∧True)∧(ae (decide (aV (-1:Int) im (0:Int)<(0:Int))) (((YJ.P Y=Go.Proofs.Try.prog)∧((YJ.e Y=(2:Nat))∧((true=true)∧(YJ.ok Y pre im))))∧((YJ.go Y pre im=(aT (YJ.go Y) pre (bo fr tt (d+(1:Nat)) (im,us,st))).2)∧((fr=fr)∧((tt=tt)∧((im=im)∧((us=us)∧((st=st)∧(((1:Nat)=((aT (YJ.go Y) pre (bo fr tt (d+(1:Nat)) (im,us,st))).1).length - pre.length)∧((Y=Y)∧((pre++im::([]:List (List Int))=(aT (YJ.go Y) pre (bo fr tt (d+(1:Nat)) (im,us,st))).1)∧(YJ.go Y pre im=(aT (YJ.go Y) pre (bo fr tt (d+(1:Nat)) (im,us,st))).2))))))))))) ((∃x0:Nat×Nat×List (List Int),(((x0.1≤im.length)∧((x0.2.1+pre.length=(x0.2.2).length)∧((aT (YJ.go Y) (x0.2.2) (gG d fr tt im us st x0)=aT (YJ.go Y) pre (bo fr tt (d+(1:Nat)) (im,us,st)))∧(dS (YJ.ok Y) (YJ.go Y) (x0.2.2) (gG d fr tt im us st x0)))))∧((aV (-1:Int) im (0:Int)=aV (-1:Int) im (0:Int))∧(((↑(st.length):Int)=(↑(st.length):Int))∧(((↑(im.length):Int)=(↑(im.length):Int))∧(((0:Int)=(↑x0.1:Int))∧((fr=fr)∧((tt=tt)∧((im=im)∧((us=us)∧((st=st)∧(((0:Nat)=x0.2.1)∧((Y=Y)∧((pre=x0.2.2)∧(true=true)))))))))))))))∧(∀x1:Nat×Nat×List (List Int),(((x1.1≤im.length)∧((x1.2.1+pre.length=(x1.2.2).length)∧((aT (YJ.go Y) (x1.2.2) (gG d fr tt im us st x1)=aT (YJ.go Y) pre (bo fr tt (d+(1:Nat)) (im,us,st))) ∧
 (dS (YJ.ok Y) (YJ.go Y) (x1.2.2) (gG d fr tt im us st x1)))))→(ae (decide ((↑x1.1:Int)<(↑(im.length):Int))) ((aa (↑x1.1:Int) (us.length))∧(ae (us.getD ((↑x1.1:Int).toNat) false) ((af ((↑x1.1:Int)+(1:Int)))∧(∃x2:Nat×Nat×List (List Int),(((x2.1≤im.length)∧((x2.2.1+pre.length=(x2.2.2).length)∧((aT (YJ.go Y) (x2.2.2) (gG d fr tt im us st x2)=aT (YJ.go Y) pre (bo fr tt (d+(1:Nat)) (im,us,st)))∧(dS (YJ.ok Y) (YJ.go Y) (x2.2.2) (gG d fr tt im us st x2)))))∧((im.length - x2.1<im.length - x1.1)∧((aV (-1:Int) im (0:Int)=aV (-1:Int) im (0:Int))∧(((↑(st.length):Int)=(↑(st.length):Int))∧(((↑(im.length):Int)=(↑(im.length):Int))∧(((↑x1.1:Int)+(1:Int)=(↑x2.1:Int))∧((fr=fr)∧((tt=tt)∧((im=im)∧((us=us)∧((st=st)∧((x1.2.1=x2.2.1)∧((Y=Y)∧((x1.2.2=x2.2.2)∧(true=true))))))))))))))))) (((nm (im.length) fr tt (im,us,st))∧((bQ im<(101:Nat))∧(((0:Int)≤aV (-1:Int) im (0:Int))∧((aV (-1:Int) im (0:Int)<(↑(im.length):Int))∧(((0:Int)≤(↑x1.1:Int))∧((↑x1.1:Int)<(↑(im.length):Int)))))))∧(ae ((aB fr tt (101:Nat) (aV (-1:Int) im (0:Int)) (↑x1.1:Int) (im,us,st)).1) (((xa (((dv fr tt im us st x1).1).length) fr tt (iO fr tt im us st x1))∧((bQ ((dv fr tt im us st x1).1)<d)∧((YJ.P Y=Go.Proofs.Try.prog)∧((YJ.e Y=(2:Go.TypeId))∧(dS (YJ.ok Y) (YJ.go Y) x1.2.2 (bo fr tt d (iO fr tt im us st x1)))))))∧((((0:Int)≤(↑(st.length):Int)) ∧
 (((↑(st.length):Int)≤(↑((((dv fr tt im us st x1).2).2).length):Int))∧(((((dv fr tt im us st x1).2).2).length≤(1000:Nat))∧(g6 (List.drop ((↑(st.length):Int).toNat) (((dv fr tt im us st x1).2).2)) ((dv fr tt im us st x1).1) (((dv fr tt im us st x1).2).1)))))∧(ae (!(aT (YJ.go Y) x1.2.2 (bo fr tt d (((aB fr tt (101:Nat) (aV (-1:Int) im (0:Int)) (↑x1.1:Int) (im,us,st)).2).1,(((aB fr tt (101:Nat) (aV (-1:Int) im (0:Int)) (↑x1.1:Int) (im,us,st)).2).2).1,(((aB fr tt (101:Nat) (aV (-1:Int) im (0:Int)) (↑x1.1:Int) (im,us,st)).2).2).2))).2) ((false=(aT (YJ.go Y) pre (bo fr tt (d+(1:Nat)) (im,us,st))).2)∧((fr=fr)∧((tt=tt)∧(((ke fr tt im us st x1).1=im)∧(((ke fr tt im us st x1).2=us)∧((List.take ((↑(st.length):Int).toNat) (((dv fr tt im us st x1).2).2)=st)∧((x1.2.1+(((aT (YJ.go Y) x1.2.2 (bo fr tt d (iO fr tt im us st x1))).1).length - x1.2.2.length)=((aT (YJ.go Y) pre (bo fr tt (d+(1:Nat)) (im,us,st))).1).length - pre.length)∧((Y=Y)∧(((aT (YJ.go Y) x1.2.2 (bo fr tt d (iO fr tt im us st x1))).1=(aT (YJ.go Y) pre (bo fr tt (d+(1:Nat)) (im,us,st))).1)∧((aT (YJ.go Y) x1.2.2 (bo fr tt d (iO fr tt im us st x1))).2=(aT (YJ.go Y) pre (bo fr tt (d+(1:Nat)) (im,us,st))).2)))))))))) ((af ((↑x1.1:Int)+(1:Int)))∧(∃x3:Nat×Nat×List (List Int),(((x3.1≤im.length)∧((x3.2.1+pre.length=(x3.2.2).length) ∧
 ((aT (YJ.go Y) (x3.2.2) (gG d fr tt im us st x3)=aT (YJ.go Y) pre (bo fr tt (d+(1:Nat)) (im,us,st)))∧(dS (YJ.ok Y) (YJ.go Y) (x3.2.2) (gG d fr tt im us st x3)))))∧((im.length - x3.1<im.length - x1.1)∧((aV (-1:Int) im (0:Int)=aV (-1:Int) im (0:Int))∧(((↑(st.length):Int)=(↑(st.length):Int))∧(((↑(im.length):Int)=(↑(im.length):Int))∧(((↑x1.1:Int)+(1:Int)=(↑x3.1:Int))∧((fr=fr)∧((tt=tt)∧(((ke fr tt im us st x1).1=im)∧(((ke fr tt im us st x1).2=us)∧((List.take ((↑(st.length):Int).toNat) (((dv fr tt im us st x1).2).2)=st)∧((x1.2.1+(((aT (YJ.go Y) x1.2.2 (bo fr tt d (iO fr tt im us st x1))).1).length - x1.2.2.length)=x3.2.1)∧((Y=Y)∧(((aT (YJ.go Y) x1.2.2 (bo fr tt d (iO fr tt im us st x1))).1=x3.2.2)∧((aT (YJ.go Y) x1.2.2 (bo fr tt d (iO fr tt im us st x1))).2=true)))))))))))))))))))) ((((0:Int)≤(↑(st.length):Int))∧(((↑(st.length):Int)≤(↑((((dv fr tt im us st x1).2).2).length):Int))∧(((((dv fr tt im us st x1).2).2).length≤(1000:Nat))∧(g6 (List.drop ((↑(st.length):Int).toNat) (((dv fr tt im us st x1).2).2)) ((dv fr tt im us st x1).1) (((dv fr tt im us st x1).2).1)))))∧((af ((↑x1.1:Int)+(1:Int)))∧(∃x4:Nat×Nat×List (List Int),(((x4.1≤im.length)∧((x4.2.1+pre.length=(x4.2.2).length)∧((aT (YJ.go Y) (x4.2.2) (gG d fr tt im us st x4)=aT (YJ.go Y) pre (bo fr tt (d+(1:Nat)) (im,us,st))) ∧
 (dS (YJ.ok Y) (YJ.go Y) (x4.2.2) (gG d fr tt im us st x4)))))∧((im.length - x4.1<im.length - x1.1)∧((aV (-1:Int) im (0:Int)=aV (-1:Int) im (0:Int))∧(((↑(st.length):Int)=(↑(st.length):Int))∧(((↑(im.length):Int)=(↑(im.length):Int))∧(((↑x1.1:Int)+(1:Int)=(↑x4.1:Int))∧((fr=fr)∧((tt=tt)∧(((ke fr tt im us st x1).1=im)∧(((ke fr tt im us st x1).2=us)∧((List.take ((↑(st.length):Int).toNat) (((dv fr tt im us st x1).2).2)=st)∧((x1.2.1=x4.2.1)∧((Y=Y)∧((x1.2.2=x4.2.2)∧(true=true)))))))))))))))))))))) ((true=(aT (YJ.go Y) pre (bo fr tt (d+(1:Nat)) (im,us,st))).2)∧((fr=fr)∧((tt=tt)∧((im=im)∧((us=us)∧((st=st)∧((x1.2.1=((aT (YJ.go Y) pre (bo fr tt (d+(1:Nat)) (im,us,st))).1).length - pre.length)∧((Y=Y)∧((x1.2.2=(aT (YJ.go Y) pre (bo fr tt (d+(1:Nat)) (im,us,st))).1)∧(true=(aT (YJ.go Y) pre (bo fr tt (d+(1:Nat)) (im,us,st))).2))))))))))))))))
theorem LP (d:Nat) (fr:List (List (List Int))) (tt:List (List (List Int))) (im:List Int) (us:List Bool) (st:List Int) (Y:YJ) (pre:List (List Int)):jN Try.prog (ai (Es d)) aj (Er (d+1) fr tt im us st Y pre) Try.f62 (aM Try.f62) [.box [.c (.r3 .i64 (fr)),.c (.r3 .i64 (tt)),.ob (.ints 2 .i64 (im)),.ob (.bools 4 (us)),.ob (.ints 2 .i64 (st))],.m (.ob (.yd 0 Y pre true))] (Eo (d+1) fr tt im us st Y pre) (fM 0 (Ep (d+1) fr tt im us st Y pre)++gk (Eq (d+1) fr tt im us st Y pre))=xb d fr tt im us st Y pre:=by kernel_rfl
theorem LQ (d:Nat) (fr:List (List (List Int))) (tt:List (List (List Int))) (im:List Int) (us:List Bool) (st:List Int) (Y:YJ) (pre:List (List Int)) (Yh:(lQ (d+1) fr tt im us st Y pre).pre):xb d fr tt im us st Y pre:=by
 simp only [lQ,xb,dv,gG,ke,iO,aR,u1,u2,u3,u4,u5,u6,u7,u8,u9,v1,v2,v3,v4,v5,v6,v7,v8,v9,w1,w2,w3,w4,aI,aa,af,ag,aw] at Yh ⊢;obtain ⟨⟨⟨hn,hlen,hf100,hfr,htt,hw⟩,hi⟩,hfd,hP,he,hok⟩:=Yh;have eL:bo fr tt (d+1) (im,us,st)=if aV (-1) im 0<0 then [im] else eU fr tt (bo fr tt d) (im,us,st) (aV (-1) im 0) im.length 0:=rfl
 refine ⟨by omega,fun h0=>?_,fun h0=>?_⟩
 ·rw [eL,if_pos h0] at hok ⊢
  have hv:aT Y.go pre [im]=(pre++[im],Y.go pre im):=by
   rw [aT];cases h:Y.go pre im with
   | true=>rfl
   | false=>rfl
  rw [hv];exact ⟨⟨hP,he,hok.1⟩,rfl,by simp,rfl,rfl⟩
 ·rw [eL,if_neg h0] at hok ⊢
  have hx:0≤aV (-1) im 0∧aV (-1) im 0<(im.length:Int)∧gi im (aV (-1) im 0)=-1:=by
   rcases w6 (-1) im 0 (Int.le_refl _) with h | ⟨h1,h2,h3⟩
   ·exact absurd h.1 h0
   ·exact ⟨h1,by omega,by simpa [gi] using h3⟩
  simp only [Nat.add_sub_cancel];generalize aV (-1) im 0=x at *
  obtain ⟨hx0,hxn,hxg⟩:=hx;have hus:us.length=im.length:=hw.us
  have hcn:st.length+bQ im=im.length:=hw.cnt
  generalize hR:aT Y.go pre (eU fr tt (bo fr tt d) (im,us,st) x im.length 0)=R
  refine ⟨⟨(0,0,pre),⟨Nat.zero_le _,by simp,hR,hok⟩,rfl,rfl,rfl⟩,?_⟩
  rintro ⟨v,k,pr⟩ ⟨hv,hk,hvis,hvo⟩
  simp only at hv hk hvis hvo ⊢;refine ⟨fun hlt=>?_,fun hge=>?_⟩
  ·have hlt':v<im.length:=by omega
   have hE:im.length - v=(im.length - (v+1))+1:=by omega
   rw [hE,eU] at hvis hvo;simp only at hvis hvo;refine ⟨⟨by omega,by omega⟩,fun hu=>⟨⟨by omega,by omega⟩,?_⟩,fun hu=>?_⟩
   ·rw [if_pos hu,List.nil_append] at hvis hvo
    exact ⟨(v+1,k,pr),⟨hlt',hk,hvis,hvo⟩,by simp only;omega,by simp only;omega,rfl,rfl⟩
   ·rw [if_neg (by rw [hu];simp)] at hvis hvo
    have hv0:(0:Int)≤(v:Int):=by omega
    have hM:=kb hfr htt 101 x (v:Int) (im,us,st) hx0 hxn hv0 hlt hw
    have hL:=Eh hfr htt (d:=100) (v:=(v:Int)) hx0 hxn hv0 hlt hw (by show gi im x<0;omega) (by simpa using hu)
    have hU:=LN hw hi hM
    have hW:=hM.wf
    have hi':=hM.hon hi
    generalize aB fr tt 101 x (v:Int) (im,us,st)=r at *
    obtain ⟨rb,a,b,c⟩:=r;simp only at hM hL hU hW hi' hvis hvo ⊢;obtain ⟨u1,u2,u3,u4⟩:=hU;have ha:a.length=im.length:=hW.im
    have hcn2:c.length+bQ a=im.length:=hW.cnt
    rw [u2,u3];refine ⟨⟨⟨hn,hlen,hf100,hfr,htt,hw⟩,by omega,hx0,hxn,hv0,hlt⟩,fun hq=>?_,fun hq=>?_⟩
    ·rw [if_pos hq] at hvis hvo
     rw [Ee] at hvis;rw [Ef] at hvo;have hvl:=Eg (go:=Y.go) (bo fr tt d (a,b,c)) pr
     refine ⟨⟨⟨by rw [ha];exact ⟨hn,hlen,hf100,hfr,htt,hW⟩,by rw [ha];exact hi'⟩,by omega,hP,he,hvo.1⟩,⟨by omega,by omega,by omega,u1⟩,fun hz=>?_,fun hz=>⟨⟨by omega,by omega⟩,?_⟩⟩
     ·rw [if_neg (by rw [hz];simp)] at hvis
      rw [hvis] at hz hvl ⊢;exact ⟨hz.symm,rfl,rfl,rfl,by omega,rfl,rfl⟩
     ·rw [if_pos hz] at hvis
      exact ⟨(v+1,k+((aT Y.go pr (bo fr tt d (a,b,c))).1.length - pr.length),(aT Y.go pr (bo fr tt d (a,b,c))).1),⟨hlt',by simp only;omega,hvis,hvo.2 hz⟩,by simp only;omega,by simp only;omega,rfl,rfl,rfl,rfl,rfl,hz⟩
    ·rw [if_neg (by rw [hq];simp),List.nil_append] at hvis hvo
     exact ⟨⟨by omega,by omega,by omega,u1⟩,⟨by omega,by omega⟩,(v+1,k,pr),⟨hlt',hk,hvis,hvo⟩,by simp only;omega,by simp only;omega,rfl,rfl,rfl,rfl,rfl⟩
  ·have hz:im.length - v=0:=by omega
   rw [hz,eU] at hvis;rw [←hvis];exact ⟨rfl,by simp only [aT];omega,rfl,rfl⟩
theorem LR (fr:List (List (List Int))) (tt:List (List (List Int))) (im:List Int) (us:List Bool) (st:List Int) (Y:YJ) (pre:List (List Int)) (h:(lQ 0 fr tt im us st Y pre).pre):False:=by
 simp only [lQ] at h;omega
theorem LS (d:Nat):Fits Try.prog 62 ⟨[(0,93),(0,93)],lR d⟩:=by
 induction d with
 | zero =>
  refine Aq ⟨Try.f62,Try.func62,by kernel_rfl,by kernel_rfl⟩ fun ds p h hp=>?_
  unfold lR at h;split at h
  ·cases h
   exact LR _ _ _ _ _ _ _  hp
  ·cases h
 | succ d ih =>
  refine mN (Γ:=ai (Es d)) (aC Je (aC (LL 101) (aC LH (aC ih aQ)))) Try.func62 (by kernel_rfl) (by kernel_rfl) (fun ads p h=>?_) fun mas q sv ex outs h hq=>?_
  ·unfold lR at h
   split at h
   ·cases h;rfl
   ·cases h
  ·unfold lR at h
   split at h
   ·rename_i heq
    have heq:=lg (l:=[_,_]) heq
    subst heq;unfold lQ at h;cases h;exact ⟨aj,Er _ _ _ _ _ _ _ _ ,by rw [LP];exact LQ _ _ _ _ _ _ _ _  hq⟩
   ·cases h
def bj (fr:List (List (List Int))):Nat:=(fr.getD 0 []).length
def dY (n:Nat):MS:=(List.replicate n (-1),List.replicate n false,[])
def cW (fr tt:List (List (List Int))):List (List Int):=if bj tt=bj fr then bo fr tt 101 (dY (bj fr)) else []
def lS (fr tt:List (List (List Int))):Prop:=1≤fr.length∧fr.length=tt.length∧fr.length≤100∧bj fr≤100∧cr (bj fr) fr∧(bj tt=bj fr→cr (bj fr) tt)
theorem xc (n:Nat):bQ (List.replicate n (-1))=n:=by
 induction n with
 | zero=>rfl
 | succ n ih=>rw [List.replicate_succ,bQ,List.countP_cons];rw [bQ] at ih;rw [ih];simp
theorem lT {n:Nat} {x:Int} (h:0≤x) (k:x<n):gi (List.replicate n (-1)) x=-1:=by
 have:x.toNat<n:=by omega
 simp [gi,List.getD,this]
theorem Et (n:Nat):MW n (dY n):=⟨by simp [dY],by simp [dY],fun x hx=>by simp [dY] at hx,fun z h0 h1=>by rw [dY,lT h0 h1];omega,by simp [dY,xc]⟩
theorem Eu (n:Nat):MI n (dY n):=⟨by simp [dY],fun x h0 h1=>by simp only [dY];rw [lT h0 h1];simp,fun x h0 h1 _=>by rw [dY,lT h0 h1],fun x y h0 h1 _ _ h=>by simp only [dY] at h;rw [lT h0 h1] at h;omega,fun v h0 h1=>by
 simp only [dY]
 constructor
 ·intro h
  have:v.toNat<n:=by omega
  simp [List.getD,this] at h
 ·rintro ⟨x,x0,x1,e⟩
  rw [lT x0 x1] at e;omega⟩
def Ev (Y:YJ) (fr:List (List (List Int))) (tt:List (List (List Int))):SV:=.tup []
def Ew (Y:YJ) (fr:List (List (List Int))) (tt:List (List (List Int))):List MA:=[.m (.ob (.yd (aT Y.go [] (cW fr tt)).1.length Y (aT Y.go [] (cW fr tt)).1 (aT Y.go [] (cW fr tt)).2)),.box [.c (.r3 .i64 (fr))],.box [.c (.r3 .i64 (tt))]]
def Ex (Y:YJ) (fr:List (List (List Int))) (tt:List (List (List Int))):List (Nat×Ob):=[]
def qC (Y:YJ) (fr:List (List (List Int))) (tt:List (List (List Int))):Post:=⟨lS fr tt∧Y.P=Try.prog∧Y.e=2∧dS Y.ok Y.go [] (cW fr tt),.st (Ev Y fr tt) (Ex Y fr tt) (Ew Y fr tt),[]⟩
def qD:List AD→Option Post
 | [.ma (.m (.ob (.yd 0 Y [] true))),.ma (.box [.c (.r3 .i64 (fr))]),.ma (.box [.c (.r3 .i64 (tt))])]=>some (qC Y fr tt)
 | _=>none
def Ey (Y:YJ) (fr:List (List (List Int))) (tt:List (List (List Int))):Nat→Option Ann
 | 0=>some (Ann.mk ((Nat)) (fun i=>⟨[(0,.c (.own (7000))),(1,.c (.ptr 7100 0)),(2,.c (.ptr 7200 0)),(5,.c (.ptr 500 0)),(26,.c (.int .i64 ((bj fr:Int)))),(27,.c (.int .i64 ((i:Int))))],[(7000,some (.yd 0 Y [] true)),(7100,some (.box [.ro (.r3 .i64 (fr))])),(7200,some (.box [.ro (.r3 .i64 (tt))])),(500,some (.box [.ro (.r3 .i64 (fr)),.ro (.r3 .i64 (tt)),.own (501),.own (502),.nil])),(501,some (.ints 2 .i64 ((List.replicate i (-1)++List.replicate (bj fr - i) 0)))),(502,some (.bools 4 ((List.replicate (bj fr) false))))]⟩) (fun i=>i≤bj fr) (fun i=>bj fr - i) (fun _=>ax))
 | _=>none
def Ez:List (Nat×Ctr):=[(62,⟨[(0,93),(0,93)],lR 101⟩)]
def ga (fr:List (List (List Int))):=(↑((fr.getD (0:Nat) ([]:List (List Int))).length):Int)
def lU (fr:List (List (List Int))) (x0:Nat):=(List.replicate x0 (-1:Int)++List.replicate (bj fr - x0) (0:Int),List.replicate (bj fr) false,([]:List Int))
def xd (Y:YJ) (fr:List (List (List Int))) (tt:List (List (List Int))):Prop :=
 ((aa (0:Int) (fr.length))∧((aa (0:Int) (tt.length))∧(ae ((↑((tt.getD (0:Nat) ([]:List (List Int))).length):Int) != (↑((fr.getD (0:Nat) ([]:List (List Int))).length):Int)) (((0:Nat)=((aT (YJ.go Y) ([]:List (List Int)) (cW fr tt)).1).length)∧((Y=Y)∧((([]:List (List Int))=(aT (YJ.go Y) ([]:List (List Int)) (cW fr tt)).1)∧((true=(aT (YJ.go Y) ([]:List (List Int)) (cW fr tt)).2)∧((fr=fr)∧(tt=tt)))))) ((((0:Int)≤(ga fr))∧(((ga fr)≤(ga fr))∧(ag ((ga fr).toNat))))∧((((0:Int)≤(ga fr))∧(((ga fr)≤(ga fr))∧(ag ((ga fr).toNat))))∧((∃x0:Nat,((x0≤bj fr)∧(((↑((List.replicate ((ga fr).toNat) (0:Int)).length):Int)=(↑(bj fr):Int))∧(((0:Int)=(↑x0:Int))∧(((0:Nat)=(0:Nat))∧((Y=Y)∧((([]:List (List Int))=([]:List (List Int)))∧((true=true)∧((fr=fr)∧((tt=tt)∧((fr=fr)∧((tt=tt)∧((List.replicate ((ga fr).toNat) (0:Int)=List.replicate x0 (-1:Int)++List.replicate (bj fr - x0) (0:Int))∧(List.replicate ((ga fr).toNat) false=List.replicate (bj fr) false))))))))))))))∧(∀x1:Nat,((x1≤bj fr)→(ae (decide ((↑x1:Int)<(↑(bj fr):Int))) ((aa (↑x1:Int) ((List.replicate x1 (-1:Int)++List.replicate (bj fr - x1) (0:Int)).length))∧((af ((↑x1:Int)+(1:Int)))∧(∃x2:Nat,((x2≤bj fr)∧((bj fr - x2<bj fr - x1)∧(((↑(bj fr):Int)=(↑(bj fr):Int))∧(((↑x1:Int)+(1:Int)=(↑x2:Int))∧(((0:Nat)=(0:Nat))∧((Y=Y) ∧
 ((([]:List (List Int))=([]:List (List Int)))∧((true=true)∧((fr=fr)∧((tt=tt)∧((fr=fr)∧((tt=tt)∧((List.set (List.replicate x1 (-1:Int)++List.replicate (bj fr - x1) (0:Int)) ((↑x1:Int).toNat) (-1:Int)=List.replicate x2 (-1:Int)++List.replicate (bj fr - x2) (0:Int))∧(List.replicate (bj fr) false=List.replicate (bj fr) false))))))))))))))))) (((xa ((List.replicate x1 (-1:Int)++List.replicate (bj fr - x1) (0:Int)).length) fr tt (lU fr x1))∧((bQ (List.replicate x1 (-1:Int)++List.replicate (bj fr - x1) (0:Int))<(101:Nat))∧((YJ.P Y=Go.Proofs.Try.prog)∧((YJ.e Y=(2:Go.TypeId))∧(dS (YJ.ok Y) (YJ.go Y) ([]:List (List Int)) (bo fr tt (101:Nat) (lU fr x1)))))))∧(((0:Nat)+(((aT (YJ.go Y) ([]:List (List Int)) (bo fr tt (101:Nat) (lU fr x1))).1).length - ([]:List (List Int)).length)=((aT (YJ.go Y) ([]:List (List Int)) (cW fr tt)).1).length)∧((Y=Y)∧(((aT (YJ.go Y) ([]:List (List Int)) (bo fr tt (101:Nat) (lU fr x1))).1=(aT (YJ.go Y) ([]:List (List Int)) (cW fr tt)).1)∧(((aT (YJ.go Y) ([]:List (List Int)) (bo fr tt (101:Nat) (lU fr x1))).2=(aT (YJ.go Y) ([]:List (List Int)) (cW fr tt)).2)∧((fr=fr)∧(tt=tt))))))))))))))))
theorem LT (Y:YJ) (fr:List (List (List Int))) (tt:List (List (List Int))):jN Try.prog (ai Ez) aj (Ey Y fr tt) Try.f61 (aM Try.f61) [.m (.ob (.yd 0 Y [] true)),.box [.c (.r3 .i64 (fr))],.box [.c (.r3 .i64 (tt))]] (Ev Y fr tt) (fM 0 (Ew Y fr tt)++gk (Ex Y fr tt))=xd Y fr tt:=by kernel_rfl
theorem LU (Y:YJ) (fr:List (List (List Int))) (tt:List (List (List Int))) (Yh:(qC Y fr tt).pre):xd Y fr tt:=by
 simp only [qC,xd,ga,lU,aR,u1,u2,u3,u4,u5,u6,u7,u8,u9,v1,v2,v3,v4,v5,v6,v7,v8,v9,w1,w2,w3,w4,aI,aa,af,ag,aw] at Yh ⊢;obtain ⟨⟨h1,h2,h3,h4,hf,ht⟩,hP,he,hok⟩:=Yh;refine ⟨⟨by omega,by omega⟩,⟨by omega,by omega⟩,fun hne=>?_,fun heq=>⟨⟨by omega,by omega,?_⟩,⟨by omega,by omega,?_⟩,⟨0,Nat.zero_le _,rfl,rfl,by simp [bj],rfl⟩,fun i hi=>⟨fun hlt=>?_,fun hge=>?_⟩⟩⟩
 ·have e:cW fr tt=[]:=if_neg (fun e=>hne (by simp only [bj] at e;omega))
  rw [e];exact ⟨rfl,rfl,rfl⟩
 ·simp only [bj] at h4;omega
 ·simp only [bj] at h4;omega
 ·refine ⟨by omega,by omega,i+1,by omega,by omega,by omega,?_⟩
  have:bj fr - i=(bj fr - (i+1))+1:=by omega
  rw [this,List.replicate_succ,List.set_append_right _ _ (by simp)]
  simp [List.replicate_succ']
 ·have ei:i=bj fr:=by omega
  subst ei;have en:bj tt=bj fr:=by simp only [bj];omega
  have e:cW fr tt=bo fr tt 101 (dY (bj fr)):=if_pos en
  simp only [Nat.sub_self,List.replicate_zero,List.append_nil,Nat.add_zero,Nat.sub_zero,Nat.zero_add];rw [e] at hok ⊢;exact ⟨⟨⟨⟨h4,h2,h3,hf,ht en,Et _⟩,Eu _⟩,by rw [xc];omega,hP,he,hok⟩,rfl,rfl,rfl⟩
theorem LV:Fits Try.prog 61 ⟨[(0,93),(0,93)],qD⟩:=by
 refine mN (Γ:=ai Ez) (aC (LS 101) aQ) Try.func61 (by kernel_rfl) (by kernel_rfl) (fun ads p h=>?_) fun mas q sv ex outs h hq=>?_
 ·unfold qD at h
  split at h
  ·cases h;rfl
  ·cases h
 ·unfold qD at h
  split at h
  ·rename_i heq
   have heq:=lg (l:=[_,_,_]) heq
   subst heq;unfold qC at h;cases h;exact ⟨aj,Ey _ _ _ ,by rw [LT];exact LU _ _ _  hq⟩
  ·cases h
theorem EA (x:Int):∀(l:List Int) (k:Int),0≤k→∀j:Nat,(j:Int)+k<aV x l k→l.getD j 0≠x
 | [],k,hk,j,h=>by simp [aV] at h;omega
 | y::l,k,hk,j,h=>by
  rw [aV] at h;by_cases e:y=x
  ·rw [if_pos e] at h;omega
  ·rw [if_neg e] at h
   cases j with
   | zero=>simpa using e
   | succ j =>
    rw [List.getD_cons_succ];exact EA x l (k+1) (by omega) j (by push_cast at h;omega)
theorem EB:∀(a b:List Int) (i:Nat),i<a.length→a.length=b.length→(∀j,j<i→a.getD j 0=b.getD j 0)→a.getD i 0<b.getD i 0→aW a b=true
 | [],_,i,h,_,_,_=>by simp at h
 | _::_,[],_,_,h,_,_=>by simp at h
 | x::a,y::b,i,hi,hl,hj,hlt=>by
  rw [aW];cases i with
  | zero =>
   simp only [List.getD_cons_zero] at hlt;rw [if_neg (by omega)];simpa using hlt
  | succ i =>
   have h0:=hj 0 (by omega)
   simp only [List.getD_cons_zero] at h0;rw [if_pos h0];refine EB a b i (by simpa using hi) (by simpa using hl) (fun j hj'=>?_) (by simpa using hlt)
   have:=hj (j+1) (by omega)
   simpa using this
theorem LW {a b:List (List Int)} (ha:ec a) (hb:ec b) (h:∀g,g∈a↔g∈b):a=b:=by
 have hp:a.Perm b:=(List.perm_ext_iff_of_nodup (na ha) (na hb)).2 h
 exact List.Perm.eq_of_pairwise (le:=fun x y=>aW x y=true) (fun x y _ _ h1 h2=>by have:=wB _ _ _ h1 h2;rw [wA] at this;cases this) ha hb hp
theorem LX {n:Nat} {a:List (List (List Int))} (h:bn n a):cr n a:=fun t ht=>by
 obtain ⟨k,hk,e⟩:=List.mem_iff_getElem.1 ht;have:=h k hk
 rw [List.getD,List.getElem?_eq_getElem hk,Option.getD_some,e] at this;refine ⟨this.1,fun x y hx hxn=>?_⟩
 obtain ⟨h1,h2⟩:=this.2 x.toNat (by omega)
 exact ⟨h1,fun hy hyn=>h2 y.toNat (by omega)⟩
theorem LY {n:Nat} {a b:List (List (List Int))} (ha:cr n a) (hab:a.length=b.length) {p:List Int} (hl:p.length=n) (hr:∀i,i<n→0≤p.getD i 0∧p.getD i 0<(n:Int)):jW a b p↔TT (qB n p) a b:=by
 rw [TT.iff hab]
 constructor
 ·intro h k hk x y hx hxn hy hyn
  have t0:=((ha (a.getD k []) (by rw [List.getD,List.getElem?_eq_getElem hk];exact List.getElem_mem hk)).2 x y hx hxn).2 hy hyn
  exact h k x.toNat y.toNat hk (by omega) (by omega) (by rw [hl];exact t0.2)
 ·intro h k x y hk hx hy _
  exact h k hk (x:Int) (y:Int) (by omega) (by omega) (by omega) (by omega)
section
variable {n:Nat} {F T:List (List (List Int))}
theorem xe {E:MS→List (List Int)} {s:MS} {x:Int} {p:List Int}:∀(e v:Nat),p∈eU F T E s x e v↔∃w:Nat,v≤w∧w<v+e∧¬ s.2.1.getD w false=true∧(aB F T 101 x w s).1=true∧p∈E (aB F T 101 x w s).2
 | 0,v=>by simp [eU];intro w h1 h2;omega
 | e+1,v=>by
  rw [eU,List.mem_append,xe e (v+1)]
  constructor
  ·rintro (h | ⟨w,h1,h2,h3⟩)
   ·split at h
    ·cases h
    ·split at h
     ·rename_i h1 h2;exact ⟨v,Nat.le_refl _,by omega,h1,h2,h⟩
     ·cases h
   ·exact ⟨w,by omega,by omega,h3⟩
  ·rintro ⟨w,h1,h2,h3,h4,h5⟩
   by_cases e2:w=v
   ·subst e2;left;rw [if_neg h3,if_pos h4];exact h5
   ·exact .inr ⟨w,by omega,by omega,h3,h4,h5⟩
theorem EC {E:MS→List (List Int)} {s:MS} {x:Int}:∀(e v:Nat),(∀w:Nat,v≤w→w<v+e→¬ s.2.1.getD w false=true→(aB F T 101 x w s).1=true→ec (E (aB F T 101 x w s).2))→(∀w w':Nat,v≤w→w<w'→w'<v+e→¬ s.2.1.getD w false=true→¬ s.2.1.getD w' false=true→(aB F T 101 x w s).1=true→(aB F T 101 x w' s).1=true→∀p∈E (aB F T 101 x w s).2,∀q∈E (aB F T 101 x w' s).2,aW p q=true) →
  ec (eU F T E s x e v)
 | 0,v,_,_=>by rw [eU];exact List.Pairwise.nil
 | e+1,v,h1,h2=>by
  rw [eU];refine List.pairwise_append.2 ⟨?_,EC e (v+1) (fun w a b=>h1 w (by omega) (by omega)) (fun w w' a b c=>h2 w w' (by omega) b (by omega)),fun p hp q hq=>?_⟩
  ·split
   ·exact List.Pairwise.nil
   ·split
    ·rename_i a b;exact h1 v (Nat.le_refl _) (by omega) a b
    ·exact List.Pairwise.nil
  ·obtain ⟨w,a1,a2,a3,a4,a5⟩:=(xe e (v+1)).1 hq
   split at hp
   ·cases hp
   ·split at hp
    ·rename_i b1 b2;exact h2 v w (Nat.le_refl _) (by omega) (by omega) b1 a3 b2 a4 p hp q a5
    ·cases hp
theorem ED (hn:n≤100) (hFT:F.length=T.length) (hf:cr n F) (ht:cr n T):∀(d:Nat) (s:MS),MW n s→MI n s→bQ s.1<d→Cl F T [] s→(∀p,p∈bo F T d s↔isoL n F T p∧fI n p s)∧ec (bo F T d s)
 | 0,s,_,_,h,_=>by omega
 | d+1,s,w,q,hd,hc=>by
  have iso:=fun {p:List Int} hl hr=>LY (n:=n) (b:=T) hf hFT (p:=p) hl hr
  have hcn:=w.cnt
  rw [bo];rcases w6 (-1) s.1 0 (Int.le_refl _) with ⟨h1,h2⟩ | ⟨h1,h2,h3⟩
  ·rw [if_pos h1]
   have all:∀x:Int,0≤x→x<n→0≤gi s.1 x:=fun x x0 x1=>Classical.byContradiction fun hh=>by
    have:=q.neg x x0 x1 hh
    refine h2 ?_
    rw [←this];have hxl:x.toNat<s.1.length:=by rw [w.im];omega
    rw [gi,List.getD,List.getElem?_eq_getElem hxl,Option.getD_some];exact List.getElem_mem hxl
   have hrng:∀i,i<n→0≤s.1.getD i 0∧s.1.getD i 0<(n:Int):=fun i hi=>⟨all (i:Int) (by omega) (by omega),w.rg (i:Int) (by omega) (by omega)⟩
   have hmem:∀x:Int,0≤x→x<n→x∈s.2.2:=fun x x0 x1=>(q.mem x x0 x1).2 (all x x0 x1)
   refine ⟨fun p=>?_,by simp [ec]⟩
   rw [List.mem_singleton]
   constructor
   ·rintro rfl
    refine ⟨⟨w.im,hrng,?_,(iso w.im hrng).2 ?_⟩,fun _ _ _ _=>rfl⟩
    ·refine List.pairwise_iff_getElem.2 fun i j hi hj hij e=>?_
     have hl:=w.im
     have:=q.inj (i:Int) (j:Int) (by omega) (by omega) (by omega) (by omega) (all _ (by omega) (by omega)) (by simp [gi,List.getD,hi,hj,e])
     omega
    ·rw [TT.iff hFT]
     intro k hk x y x0 x1 y0 y1
     exact (TT.iff hFT).1 (hc x (hmem x x0 x1) y (hmem y y0 y1) (by simp) (by simp)) k hk
   ·rintro ⟨hi,he⟩
    exact Ed hi.len w.im fun z z0 z1=>he z z0 z1 (all z z0 z1)
  ·have hx0:=h1
   rw [if_neg (by omega)]
   have hxg:gi s.1 (aV (-1) s.1 0)=-1:=by simpa [gi] using h3
   have hxn:aV (-1) s.1 0<(n:Int):=by rw [w.im] at h2;omega
   have hfst:∀j:Nat,(j:Int)<aV (-1) s.1 0→0≤gi s.1 (j:Int):=fun j hj=>Classical.byContradiction fun hh=>by
    have:=q.neg (j:Int) (by omega) (by omega) hh
    exact EA (-1) s.1 0 (Int.le_refl _) j (by omega) (by simpa [gi] using this)
   generalize aV (-1) s.1 0=x at *
   have step:∀v:Nat,v<n→¬ s.2.1.getD v false=true→(aB F T 101 x v s).1=true→(∀p,p∈bo F T d (aB F T 101 x v s).2↔isoL n F T p∧fI n p (aB F T 101 x v s).2)∧ec (bo F T d (aB F T 101 x v s).2)∧(∀p,fI n p (aB F T 101 x v s).2→fI n p s∧gi p x=v):=fun v hv hu ha=>by
    have m1:=kb hf ht 101 x (v:Int) s hx0 hxn (by omega) (by omega) w
    have hl:bQ (aB F T 101 x (v:Int) s).2.1+1≤bQ s.1:=Eh hf ht (d:=100) (v:=(v:Int)) hx0 hxn (by omega) (by omega) w (by omega) (by simpa using hu)
    obtain ⟨c1,c2⟩:=En hf ht 101 [] x (v:Int) s hx0 hxn (by omega) (by omega) w hc ha
    obtain ⟨i1,i2⟩:=ED hn hFT hf ht d _ m1.wf (m1.hon q) (by omega) c1
    exact ⟨i1,i2,fun p hp=>⟨fun z z0 z1 hz=>by rw [←m1.keep z z0 z1 hz];exact hp z z0 z1 (by rw [m1.keep z z0 z1 hz];exact hz),by rw [←c2];exact hp x hx0 hxn (by rw [c2];omega)⟩⟩
   refine ⟨fun p=>?_,?_⟩
   ·rw [xe]
    constructor
    ·rintro ⟨v,_,h5,h6,h7,h8⟩
     have h5:v<n:=by rw [w.im] at h5;omega
     obtain ⟨i1,_,i3⟩:=step v h5 h6 h7;obtain ⟨j1,j2⟩:=(i1 p).1 h8;exact ⟨j1,(i3 p j2).1⟩
    ·rintro ⟨hi,he⟩
     have hr:=hi.rng x.toNat (by omega)
     have hpx:gi p x=((gi p x).toNat:Int):=by simp only [gi];omega
     have hv:(gi p x).toNat<n:=by simp only [gi];omega
     obtain ⟨c1,c2⟩:=El hi.len hi.nd hf ht ((iso hi.len hi.rng).1 hi.ok) 101 x ((gi p x).toNat:Int) s hx0 hxn (by omega) (by omega) w q (by omega) he hpx
     have hu:¬ s.2.1.getD (gi p x).toNat false=true:=fun hu=>by
      obtain ⟨z,z0,z1,hz⟩:=(q.us ((gi p x).toNat:Int) (by omega) (by omega)).1 (by rw [Int.toNat_natCast];exact hu)
      have e:=he z z0 z1 (by omega)
      have:=Ek hi.len hi.nd ⟨z0,z1⟩ ⟨hx0,hxn⟩ (by rw [e,hz];exact hpx.symm)
      subst this;omega
     obtain ⟨i1,_,_⟩:=step _ hv hu c1;exact ⟨(gi p x).toNat,Nat.zero_le _,by rw [w.im];omega,hu,c1,(i1 p).2 ⟨hi,c2⟩⟩
   ·refine EC _ _ (fun v _ h5 h6 h7=>(step v (by rw [w.im] at h5;omega) h6 h7).2.1) (fun v v' _ hvv h5 h6 h6' h7 h7' p hp r hr=>?_)
    have h5':v'<n:=by rw [w.im] at h5;omega
    obtain ⟨i1,_,i3⟩:=step v (by omega) h6 h7
    obtain ⟨j1,_,j3⟩:=step v' h5' h6' h7';obtain ⟨a1,a2⟩:=(i1 p).1 hp;obtain ⟨b1,b2⟩:=(j1 r).1 hr;obtain ⟨e1,e2⟩:=i3 p a2;obtain ⟨f1,f2⟩:=j3 r b2;refine EB p r x.toNat (by rw [a1.len];omega) (by rw [a1.len,b1.len]) (fun j hj=>?_) ?_
    ·have hz:=hfst j (by omega)
     have q1:=e1 (j:Int) (by omega) (by omega) hz
     have q2:=f1 (j:Int) (by omega) (by omega) hz
     simpa [gi] using q1.trans q2.symm
    ·show gi p x<gi r x
     rw [e2,f2];omega
theorem kf {fr tt:List (List (List Int))} (h:lS fr tt):(∀p,p∈cW fr tt↔bj tt=bj fr∧isoL (bj fr) fr tt p)∧ec (cW fr tt):=by
 obtain ⟨h1,h2,h3,h4,hf,ht⟩:=h;rw [cW];split
 ·rename_i e
  obtain ⟨a,b⟩:=ED h4 h2 hf (ht e) 101 (dY (bj fr)) (Et _) (Eu _) (by rw [dY,xc];omega) (fun a ha=>by simp [dY] at ha)
  refine ⟨fun p=>?_,b⟩
  rw [a p];exact ⟨fun k=>⟨e,k.1⟩,fun k=>⟨k.2,fun z z0 z1 hz=>by simp only [dY] at hz;rw [lT z0 z1] at hz;omega⟩⟩
 ·rename_i e
  exact ⟨fun p=>⟨fun k=>(by cases k),fun k=>absurd k.1 e⟩,List.Pairwise.nil⟩
end
end Go.Sx
