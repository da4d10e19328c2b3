/- MpgC -/
import Derived.Test.YtkmldclpaniclaaMpgB
import Derived.Test.YtkmldclpaniclaaMpgL
import Derived.Test.YtkmldclpaniclaaGrpC
open Go Go.Proofs
namespace Go.Sx
set_option linter.unusedSimpArgs false
set_option linter.unusedVariables false
def ExtPre (n:Nat) (fr tt:List (List (List Int))) (s:MS):Prop:=AsgPre n fr tt s∧MI n s
def extend_sv (d:Nat) (fr:List (List (List Int))) (tt:List (List (List Int))) (im:List Int) (us:List Bool) (st:List Int) (Y:YJ) (pre:List (List Int)):SV:=.c (.bool ((visit Y.go pre (extL fr tt d (im,us,st))).2))
def extend_outs (d:Nat) (fr:List (List (List Int))) (tt:List (List (List Int))) (im:List Int) (us:List Bool) (st:List Int) (Y:YJ) (pre:List (List Int)):List MA:=[.box [.c (.r3 .i64 (fr)),.c (.r3 .i64 (tt)),.ob (.ints 2 .i64 (im)),.ob (.bools 4 (us)),.ob (.ints 2 .i64 (st))],.m (.ob (.yd ((visit Y.go pre (extL fr tt d (im,us,st))).1.length - pre.length) Y (visit Y.go pre (extL fr tt d (im,us,st))).1 (visit Y.go pre (extL fr tt d (im,us,st))).2))]
def extend_ex (d:Nat) (fr:List (List (List Int))) (tt:List (List (List Int))) (im:List Int) (us:List Bool) (st:List Int) (Y:YJ) (pre:List (List Int)):List (Nat×Ob):=[]
def extend_p (d:Nat) (fr:List (List (List Int))) (tt:List (List (List Int))) (im:List Int) (us:List Bool) (st:List Int) (Y:YJ) (pre:List (List Int)):Post:=⟨ExtPre im.length fr tt (im,us,st)∧frees im<d∧Y.P=Try.prog∧Y.e=2∧visOk Y.ok Y.go pre (extL fr tt d (im,us,st)),.st (extend_sv d fr tt im us st Y pre) (extend_ex d fr tt im us st Y pre) (extend_outs d fr tt im us st Y pre),[]⟩
def extend_ct (d:Nat):List AD→Option Post
 | [.ma (.box [.c (.r3 .i64 (fr)),.c (.r3 .i64 (tt)),.ob (.ints 2 .i64 (im)),.ob (.bools 4 (us)),.ob (.ints 2 .i64 (st))]),.ma (.m (.ob (.yd 0 Y pre true)))]=>some (extend_p d fr tt im us st Y pre)
 | _=>none
def extend_ann (d:Nat) (fr:List (List (List Int))) (tt:List (List (List Int))) (im:List Int) (us:List Bool) (st:List Int) (Y:YJ) (pre:List (List Int)):Nat→Option Ann
 | 0=>some (Ann.mk ((Nat)×(Nat)×(List (List Int))) (fun x=>match x with | (v,k,pr)=>⟨[(0,.c (.ptr 7000 0)),(1,.c (.own (7100))),(5,.c (.int .i64 ((idxL (-1) im 0)))),(6,.c (.int .i64 ((st.length:Int)))),(31,.c (.int .i64 ((im.length:Int)))),(32,.c (.int .i64 ((v:Int))))],[(7000,some (.box [.ro (.r3 .i64 (fr)),.ro (.r3 .i64 (tt)),.own (7003),.own (7004),.own (7005)])),(7003,some (.ints 2 .i64 (im))),(7004,some (.bools 4 (us))),(7005,some (.ints 2 .i64 (st))),(7100,some (.yd k Y pr true))]⟩) (fun x=>match x with | (v,k,pr)=>v≤im.length∧k+pre.length=pr.length∧visit Y.go pr (extR fr tt (extL fr tt (d - 1)) (im,us,st) (idxL (-1) im 0) (im.length - v) v)=visit Y.go pre (extL fr tt d (im,us,st))∧visOk Y.ok Y.go pr (extR fr tt (extL fr tt (d - 1)) (im,us,st) (idxL (-1) im 0) (im.length - v) v)) (fun x=>match x with | (v,k,pr)=>im.length - v) (fun _=>noAnn))
 | _=>none
def extend_G (d:Nat):List (Nat×Ctr):=[(92,⟨[],Index_ct⟩),(93,⟨[(0,93),(0,93)],assign_ct 101⟩),(94,⟨[(0,93),(0,93)],undo_ct⟩),(62,⟨[(0,93),(0,93)],extend_ct d⟩)]
def extend_c1 (fr:List (List (List Int))) (tt:List (List (List Int))) (im:List Int) (us:List Bool) (st:List Int) (x0:Nat×Nat×List (List Int)):=((asg fr tt (101:Nat) (idxL (-1:Int) im (0:Int)) (↑x0.1:Int) (im,us,st)).2)
def extend_c2 (d:Nat) (fr:List (List (List Int))) (tt:List (List (List Int))) (im:List Int) (us:List Bool) (st:List Int) (x0:Nat×Nat×List (List Int)):=(extR fr tt (extL fr tt (d+(1:Nat) - (1:Nat))) (im,us,st) (idxL (-1:Int) im (0:Int)) (im.length - x0.1) (x0.1))
def extend_c3 (fr:List (List (List Int))) (tt:List (List (List Int))) (im:List Int) (us:List Bool) (st:List Int) (x0:Nat×Nat×List (List Int)):=(unF (List.drop ((↑(st.length):Int).toNat) (((extend_c1 fr tt im us st x0).2).2)) ((extend_c1 fr tt im us st x0).1) (((extend_c1 fr tt im us st x0).2).1))
def extend_c4 (fr:List (List (List Int))) (tt:List (List (List Int))) (im:List Int) (us:List Bool) (st:List Int) (x0:Nat×Nat×List (List Int)):=((extend_c1 fr tt im us st x0).1,((extend_c1 fr tt im us st x0).2).1,((extend_c1 fr tt im us st x0).2).2)
def extend_V (d:Nat) (fr:List (List (List Int))) (tt:List (List (List Int))) (im:List Int) (us:List Bool) (st:List Int) (Y:YJ) (pre:List (List Int)):Prop :=
 (((im.length≤(1099511627776:Nat))∧True)∧(BrP (decide (idxL (-1:Int) im (0:Int)<(0:Int))) (((YJ.P Y=Go.Proofs.Try.prog)∧((YJ.e Y=(2:Nat))∧((true=true)∧(YJ.ok Y pre im))))∧((YJ.go Y pre im=(visit (YJ.go Y) pre (extL fr tt (d+(1:Nat)) (im,us,st))).2)∧((fr=fr)∧((tt=tt)∧((im=im)∧((us=us)∧((st=st)∧(((1:Nat)=((visit (YJ.go Y) pre (extL fr tt (d+(1:Nat)) (im,us,st))).1).length - pre.length)∧((Y=Y)∧((pre++im::([]:List (List Int))=(visit (YJ.go Y) pre (extL fr tt (d+(1:Nat)) (im,us,st))).1)∧(YJ.go Y pre im=(visit (YJ.go Y) pre (extL fr tt (d+(1:Nat)) (im,us,st))).2))))))))))) ((∃x0:Nat×Nat×List (List Int),(((x0.1≤im.length)∧((x0.2.1+pre.length=(x0.2.2).length)∧((visit (YJ.go Y) (x0.2.2) (extend_c2 d fr tt im us st x0)=visit (YJ.go Y) pre (extL fr tt (d+(1:Nat)) (im,us,st)))∧(visOk (YJ.ok Y) (YJ.go Y) (x0.2.2) (extend_c2 d fr tt im us st x0)))))∧((idxL (-1:Int) im (0:Int)=idxL (-1:Int) im (0:Int))∧(((↑(st.length):Int)=(↑(st.length):Int))∧(((↑(im.length):Int)=(↑(im.length):Int))∧(((0:Int)=(↑x0.1:Int))∧((fr=fr)∧((tt=tt)∧((im=im)∧((us=us)∧((st=st)∧(((0:Nat)=x0.2.1)∧((Y=Y)∧((pre=x0.2.2)∧(true=true)))))))))))))))∧(∀x1:Nat×Nat×List (List Int),(((x1.1≤im.length)∧((x1.2.1+pre.length=(x1.2.2).length)∧((visit (YJ.go Y) (x1.2.2) (extend_c2 d fr tt im us st x1)=visit (YJ.go Y) pre (extL fr tt (d+(1:Nat)) (im,us,st))) ∧
 (visOk (YJ.ok Y) (YJ.go Y) (x1.2.2) (extend_c2 d fr tt im us st x1)))))→(BrP (decide ((↑x1.1:Int)<(↑(im.length):Int))) ((inB (↑x1.1:Int) (us.length))∧(BrP (us.getD ((↑x1.1:Int).toNat) false) ((InR ((↑x1.1:Int)+(1:Int)))∧(∃x2:Nat×Nat×List (List Int),(((x2.1≤im.length)∧((x2.2.1+pre.length=(x2.2.2).length)∧((visit (YJ.go Y) (x2.2.2) (extend_c2 d fr tt im us st x2)=visit (YJ.go Y) pre (extL fr tt (d+(1:Nat)) (im,us,st)))∧(visOk (YJ.ok Y) (YJ.go Y) (x2.2.2) (extend_c2 d fr tt im us st x2)))))∧((im.length - x2.1<im.length - x1.1)∧((idxL (-1:Int) im (0:Int)=idxL (-1:Int) im (0:Int))∧(((↑(st.length):Int)=(↑(st.length):Int))∧(((↑(im.length):Int)=(↑(im.length):Int))∧(((↑x1.1:Int)+(1:Int)=(↑x2.1:Int))∧((fr=fr)∧((tt=tt)∧((im=im)∧((us=us)∧((st=st)∧((x1.2.1=x2.2.1)∧((Y=Y)∧((x1.2.2=x2.2.2)∧(true=true))))))))))))))))) (((AsgPre (im.length) fr tt (im,us,st))∧((frees im<(101:Nat))∧(((0:Int)≤idxL (-1:Int) im (0:Int))∧((idxL (-1:Int) im (0:Int)<(↑(im.length):Int))∧(((0:Int)≤(↑x1.1:Int))∧((↑x1.1:Int)<(↑(im.length):Int)))))))∧(BrP ((asg fr tt (101:Nat) (idxL (-1:Int) im (0:Int)) (↑x1.1:Int) (im,us,st)).1) (((ExtPre (((extend_c1 fr tt im us st x1).1).length) fr tt (extend_c4 fr tt im us st x1))∧((frees ((extend_c1 fr tt im us st x1).1)<d)∧((YJ.P Y=Go.Proofs.Try.prog)∧((YJ.e Y=(2:Go.TypeId))∧(visOk (YJ.ok Y) (YJ.go Y) x1.2.2 (extL fr tt d (extend_c4 fr tt im us st x1)))))))∧((((0:Int)≤(↑(st.length):Int)) ∧
 (((↑(st.length):Int)≤(↑((((extend_c1 fr tt im us st x1).2).2).length):Int))∧(((((extend_c1 fr tt im us st x1).2).2).length≤(1000:Nat))∧(unOk (List.drop ((↑(st.length):Int).toNat) (((extend_c1 fr tt im us st x1).2).2)) ((extend_c1 fr tt im us st x1).1) (((extend_c1 fr tt im us st x1).2).1)))))∧(BrP (!(visit (YJ.go Y) x1.2.2 (extL fr tt d (((asg fr tt (101:Nat) (idxL (-1:Int) im (0:Int)) (↑x1.1:Int) (im,us,st)).2).1,(((asg fr tt (101:Nat) (idxL (-1:Int) im (0:Int)) (↑x1.1:Int) (im,us,st)).2).2).1,(((asg fr tt (101:Nat) (idxL (-1:Int) im (0:Int)) (↑x1.1:Int) (im,us,st)).2).2).2))).2) ((false=(visit (YJ.go Y) pre (extL fr tt (d+(1:Nat)) (im,us,st))).2)∧((fr=fr)∧((tt=tt)∧(((extend_c3 fr tt im us st x1).1=im)∧(((extend_c3 fr tt im us st x1).2=us)∧((List.take ((↑(st.length):Int).toNat) (((extend_c1 fr tt im us st x1).2).2)=st)∧((x1.2.1+(((visit (YJ.go Y) x1.2.2 (extL fr tt d (extend_c4 fr tt im us st x1))).1).length - x1.2.2.length)=((visit (YJ.go Y) pre (extL fr tt (d+(1:Nat)) (im,us,st))).1).length - pre.length)∧((Y=Y)∧(((visit (YJ.go Y) x1.2.2 (extL fr tt d (extend_c4 fr tt im us st x1))).1=(visit (YJ.go Y) pre (extL fr tt (d+(1:Nat)) (im,us,st))).1)∧((visit (YJ.go Y) x1.2.2 (extL fr tt d (extend_c4 fr tt im us st x1))).2=(visit (YJ.go Y) pre (extL fr tt (d+(1:Nat)) (im,us,st))).2)))))))))) ((InR ((↑x1.1:Int)+(1:Int)))∧(∃x3:Nat×Nat×List (List Int),(((x3.1≤im.length)∧((x3.2.1+pre.length=(x3.2.2).length) ∧
 ((visit (YJ.go Y) (x3.2.2) (extend_c2 d fr tt im us st x3)=visit (YJ.go Y) pre (extL fr tt (d+(1:Nat)) (im,us,st)))∧(visOk (YJ.ok Y) (YJ.go Y) (x3.2.2) (extend_c2 d fr tt im us st x3)))))∧((im.length - x3.1<im.length - x1.1)∧((idxL (-1:Int) im (0:Int)=idxL (-1:Int) im (0:Int))∧(((↑(st.length):Int)=(↑(st.length):Int))∧(((↑(im.length):Int)=(↑(im.length):Int))∧(((↑x1.1:Int)+(1:Int)=(↑x3.1:Int))∧((fr=fr)∧((tt=tt)∧(((extend_c3 fr tt im us st x1).1=im)∧(((extend_c3 fr tt im us st x1).2=us)∧((List.take ((↑(st.length):Int).toNat) (((extend_c1 fr tt im us st x1).2).2)=st)∧((x1.2.1+(((visit (YJ.go Y) x1.2.2 (extL fr tt d (extend_c4 fr tt im us st x1))).1).length - x1.2.2.length)=x3.2.1)∧((Y=Y)∧(((visit (YJ.go Y) x1.2.2 (extL fr tt d (extend_c4 fr tt im us st x1))).1=x3.2.2)∧((visit (YJ.go Y) x1.2.2 (extL fr tt d (extend_c4 fr tt im us st x1))).2=true)))))))))))))))))))) ((((0:Int)≤(↑(st.length):Int))∧(((↑(st.length):Int)≤(↑((((extend_c1 fr tt im us st x1).2).2).length):Int))∧(((((extend_c1 fr tt im us st x1).2).2).length≤(1000:Nat))∧(unOk (List.drop ((↑(st.length):Int).toNat) (((extend_c1 fr tt im us st x1).2).2)) ((extend_c1 fr tt im us st x1).1) (((extend_c1 fr tt im us st x1).2).1)))))∧((InR ((↑x1.1:Int)+(1:Int)))∧(∃x4:Nat×Nat×List (List Int),(((x4.1≤im.length)∧((x4.2.1+pre.length=(x4.2.2).length)∧((visit (YJ.go Y) (x4.2.2) (extend_c2 d fr tt im us st x4)=visit (YJ.go Y) pre (extL fr tt (d+(1:Nat)) (im,us,st))) ∧
 (visOk (YJ.ok Y) (YJ.go Y) (x4.2.2) (extend_c2 d fr tt im us st x4)))))∧((im.length - x4.1<im.length - x1.1)∧((idxL (-1:Int) im (0:Int)=idxL (-1:Int) im (0:Int))∧(((↑(st.length):Int)=(↑(st.length):Int))∧(((↑(im.length):Int)=(↑(im.length):Int))∧(((↑x1.1:Int)+(1:Int)=(↑x4.1:Int))∧((fr=fr)∧((tt=tt)∧(((extend_c3 fr tt im us st x1).1=im)∧(((extend_c3 fr tt im us st x1).2=us)∧((List.take ((↑(st.length):Int).toNat) (((extend_c1 fr tt im us st x1).2).2)=st)∧((x1.2.1=x4.2.1)∧((Y=Y)∧((x1.2.2=x4.2.2)∧(true=true)))))))))))))))))))))) ((true=(visit (YJ.go Y) pre (extL fr tt (d+(1:Nat)) (im,us,st))).2)∧((fr=fr)∧((tt=tt)∧((im=im)∧((us=us)∧((st=st)∧((x1.2.1=((visit (YJ.go Y) pre (extL fr tt (d+(1:Nat)) (im,us,st))).1).length - pre.length)∧((Y=Y)∧((x1.2.2=(visit (YJ.go Y) pre (extL fr tt (d+(1:Nat)) (im,us,st))).1)∧(true=(visit (YJ.go Y) pre (extL fr tt (d+(1:Nat)) (im,us,st))).2))))))))))))))))
theorem extend_vc (d:Nat) (fr:List (List (List Int))) (tt:List (List (List Int))) (im:List Int) (us:List Bool) (st:List Int) (Y:YJ) (pre:List (List Int)):runS Try.prog (gam (extend_G d)) noWr (extend_ann (d+1) fr tt im us st Y pre) Try.f62 (bodyOf Try.f62) [.box [.c (.r3 .i64 (fr)),.c (.r3 .i64 (tt)),.ob (.ints 2 .i64 (im)),.ob (.bools 4 (us)),.ob (.ints 2 .i64 (st))],.m (.ob (.yd 0 Y pre true))] (extend_sv (d+1) fr tt im us st Y pre) (masO 0 (extend_outs (d+1) fr tt im us st Y pre)++exO (extend_ex (d+1) fr tt im us st Y pre))=extend_V d fr tt im us st Y pre:=by kernel_rfl
theorem extend_ok (d:Nat) (fr:List (List (List Int))) (tt:List (List (List Int))) (im:List Int) (us:List Bool) (st:List Int) (Y:YJ) (pre:List (List Int)) (hpre:(extend_p (d+1) fr tt im us st Y pre).pre):extend_V d fr tt im us st Y pre:=by
 simp only [extend_p,extend_V,extend_c1,extend_c2,extend_c3,extend_c4,BrP_iff,u1,u2,u3,u4,u5,u6,u7,u8,u9,v1,v2,v3,v4,v5,v6,v7,v8,v9,w1,w2,w3,w4,markL_length,inB,InR,room,bdsOk] at hpre ⊢
 obtain ⟨⟨⟨hn,hlen,hf100,hfr,htt,hw⟩,hi⟩,hfd,hP,he,hok⟩:=hpre
 have eL:extL fr tt (d+1) (im,us,st)=if idxL (-1) im 0<0 then [im] else extR fr tt (extL fr tt d) (im,us,st) (idxL (-1) im 0) im.length 0:=rfl
 refine ⟨by omega,fun h0=>?_,fun h0=>?_⟩
 ·rw [eL,if_pos h0] at hok ⊢
  have hv:visit Y.go pre [im]=(pre++[im],Y.go pre im):=by
   rw [visit]
   cases h:Y.go pre im with
   | true=>rfl
   | false=>rfl
  rw [hv]
  exact ⟨⟨hP,he,hok.1⟩,rfl,by simp,rfl,rfl⟩
 ·rw [eL,if_neg h0] at hok ⊢
  have hx:0≤idxL (-1) im 0∧idxL (-1) im 0<(im.length:Int)∧gi im (idxL (-1) im 0)=-1:=by
   rcases idxL_at (-1) im 0 (Int.le_refl _) with h | ⟨h1,h2,h3⟩
   ·exact absurd h.1 h0
   ·exact ⟨h1,by omega,by simpa [gi] using h3⟩
  simp only [Nat.add_sub_cancel]
  generalize idxL (-1) im 0=x at *
  obtain ⟨hx0,hxn,hxg⟩:=hx
  have hus:us.length=im.length:=hw.us
  have hcn:st.length+frees im=im.length:=hw.cnt
  generalize hR:visit Y.go pre (extR fr tt (extL fr tt d) (im,us,st) x im.length 0)=R
  refine ⟨⟨(0,0,pre),⟨Nat.zero_le _,by simp,hR,hok⟩,rfl,rfl,rfl⟩,?_⟩
  rintro ⟨v,k,pr⟩ ⟨hv,hk,hvis,hvo⟩
  simp only at hv hk hvis hvo ⊢
  refine ⟨fun hlt=>?_,fun hge=>?_⟩
  ·have hlt':v<im.length:=by omega
   have hE:im.length - v=(im.length - (v+1))+1:=by omega
   rw [hE,extR] at hvis hvo
   simp only at hvis hvo
   refine ⟨⟨by omega,by omega⟩,fun hu=>⟨⟨by omega,by omega⟩,?_⟩,fun hu=>?_⟩
   ·rw [if_pos hu,List.nil_append] at hvis hvo
    exact ⟨(v+1,k,pr),⟨hlt',hk,hvis,hvo⟩,by simp only;omega,by simp only;omega,rfl,rfl⟩
   ·rw [if_neg (by rw [hu];simp)] at hvis hvo
    have hv0:(0:Int)≤(v:Int):=by omega
    have hM:=asg_ok hfr htt 101 x (v:Int) (im,us,st) hx0 hxn hv0 hlt hw
    have hL:=asg_less hfr htt (d:=100) (v:=(v:Int)) hx0 hxn hv0 hlt hw (by show gi im x<0;omega) (by simpa using hu)
    have hU:=undone_ok hw hi hM
    have hW:=hM.wf
    have hi':=hM.hon hi
    generalize asg fr tt 101 x (v:Int) (im,us,st)=r at *
    obtain ⟨rb,a,b,c⟩:=r
    simp only at hM hL hU hW hi' hvis hvo ⊢
    obtain ⟨u1,u2,u3,u4⟩:=hU
    have ha:a.length=im.length:=hW.im
    have hcn2:c.length+frees a=im.length:=hW.cnt
    rw [u2,u3]
    refine ⟨⟨⟨hn,hlen,hf100,hfr,htt,hw⟩,by omega,hx0,hxn,hv0,hlt⟩,fun hq=>?_,fun hq=>?_⟩
    ·rw [if_pos hq] at hvis hvo
     rw [visit_app] at hvis
     rw [visOk_app] at hvo
     have hvl:=visit_len (go:=Y.go) (extL fr tt d (a,b,c)) pr
     refine ⟨⟨⟨by rw [ha];exact ⟨hn,hlen,hf100,hfr,htt,hW⟩,by rw [ha];exact hi'⟩,by omega,hP,he,hvo.1⟩,⟨by omega,by omega,by omega,u1⟩,fun hz=>?_,fun hz=>⟨⟨by omega,by omega⟩,?_⟩⟩
     ·rw [if_neg (by rw [hz];simp)] at hvis
      rw [hvis] at hz hvl ⊢
      exact ⟨hz.symm,rfl,rfl,rfl,by omega,rfl,rfl⟩
     ·rw [if_pos hz] at hvis
      exact ⟨(v+1,k+((visit Y.go pr (extL fr tt d (a,b,c))).1.length - pr.length),(visit Y.go pr (extL fr tt d (a,b,c))).1),⟨hlt',by simp only;omega,hvis,hvo.2 hz⟩,by simp only;omega,by simp only;omega,rfl,rfl,rfl,rfl,rfl,hz⟩
    ·rw [if_neg (by rw [hq];simp),List.nil_append] at hvis hvo
     exact ⟨⟨by omega,by omega,by omega,u1⟩,⟨by omega,by omega⟩,(v+1,k,pr),⟨hlt',hk,hvis,hvo⟩,by simp only;omega,by simp only;omega,rfl,rfl,rfl,rfl,rfl⟩
  ·have hz:im.length - v=0:=by omega
   rw [hz,extR] at hvis
   rw [←hvis]
   exact ⟨rfl,by simp only [visit];omega,rfl,rfl⟩
theorem extend_no (fr:List (List (List Int))) (tt:List (List (List Int))) (im:List Int) (us:List Bool) (st:List Int) (Y:YJ) (pre:List (List Int)) (h:(extend_p 0 fr tt im us st Y pre).pre):False:=by
 simp only [extend_p] at h
 omega
theorem extend_fits (d:Nat):Fits Try.prog 62 ⟨[(0,93),(0,93)],extend_ct d⟩:=by
 induction d with
 | zero =>
  refine fits_sno ⟨Try.f62,Try.func62,by kernel_rfl,by kernel_rfl⟩ fun ds p h hp=>?_
  unfold extend_ct at h
  split at h
  ·cases h
   exact extend_no _ _ _ _ _ _ _  hp
  ·cases h
 | succ d ih =>
  refine fits_sfn (Γ:=gam (extend_G d)) (gok_cons Index_fits (gok_cons (assign_fits 101) (gok_cons undo_fits (gok_cons ih gok_nil)))) Try.func62 (by kernel_rfl) (by kernel_rfl) (fun ads p h=>?_) fun mas q sv ex outs h hq=>?_
  ·unfold extend_ct at h
   split at h
   ·cases h;rfl
   ·cases h
  ·unfold extend_ct at h
   split at h
   ·rename_i heq
    have heq:=ma_inj (l:=[_,_]) heq
    subst heq
    unfold extend_p at h
    cases h
    exact ⟨noWr,extend_ann _ _ _ _ _ _ _ _ ,by rw [extend_vc];exact extend_ok _ _ _ _ _ _ _ _  hq⟩
   ·cases h
end Go.Sx
