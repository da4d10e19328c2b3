/- MpgB -/
import Derived.Test.YtkmldclpaniclaaGreatMpgL
open Go Go.Proofs
namespace Go.Sx
set_option linter.unusedSimpArgs false
set_option linter.unusedVariables false
def oO(n:Nat)(fr tt:V9)(s:MS):Prop:=n<=100/\fr.length=tt.length/\fr.length<=100/\cP n fr/\cP n tt/\MW n s
def HB(d:Nat)(fr:V9)(tt:V9)(im:V7)(us:List Bool)(st:V7)(p:Int)(v:Int):SV:=.c (.bool ((aK fr tt d p v (im,us,st)).1))
def HC(d:Nat)(fr:V9)(tt:V9)(im:V7)(us:List Bool)(st:V7)(p:Int)(v:Int):List MA:=[.box [.c (.r3 .i64 fr),.c (.r3 .i64 tt),.ob (.ints 2 .i64 ((aK fr tt d p v (im,us,st)).2.1)),.ob (.bools 4 ((aK fr tt d p v (im,us,st)).2.2.1)),.ob (.ints 2 .i64 ((aK fr tt d p v (im,us,st)).2.2.2))],.m (.c (.int .i64 p)),.m (.c (.int .i64 v))]
def HD(d:Nat)(fr:V9)(tt:V9)(im:V7)(us:List Bool)(st:V7)(p:Int)(v:Int):List (Nat×Ob):=[]
def nf(d:Nat)(fr:V9)(tt:V9)(im:V7)(us:List Bool)(st:V7)(p:Int)(v:Int):Post:=⟨oO im.length fr tt (im,us,st)/\b8 im<d/\0<=p/\p<(im.length:Int)/\0<=v/\v<(im.length:Int),.st (HB d fr tt im us st p v) (HD d fr tt im us st p v) (HC d fr tt im us st p v),[]⟩
def nh(d:Nat):List AD->Option Post
 | [.ma (.box [.c (.r3 .i64 fr),.c (.r3 .i64 tt),.ob (.ints 2 .i64 im),.ob (.bools 4 us),.ob (.ints 2 .i64 st)]),.ma (.m (.c (.int .i64 p))),.ma (.m (.c (.int .i64 v)))]=>some (nf d fr tt im us st p v)
 |_=>none
def HE(d:Nat)(fr:V9)(tt:V9)(im:V7)(us:List Bool)(st:V7)(p:Int)(v:Int):Nat->Option Ann
 |0=>some (Ann.mk ((Nat)×(V7)×(List Bool)×(V7)) (fun x=>match x with|(i,a,b,c)=>⟨[(0,.c (.ptr 7000 0)),(1,.c (.int .i64 p)),(2,.c (.int .i64 v)),(7,.c (.int .i64 ((i:Int))))],[(7000,some (.box [.ro (.r3 .i64 fr),.ro (.r3 .i64 tt),.own 7003,.own 7004,.own 7005])),(7003,some (.ints 2 .i64 a)),(7004,some (.bools 4 b)),(7005,some (.ints 2 .i64 c))]⟩) (fun x=>match x with|(i,a,b,c)=>MW im.length (a,b,c)/\b8 a+1<d/\dC (aK fr tt (d-1)) fr tt p v (im.length+1-i) i (a,b,c)=aK fr tt d p v (im,us,st)) (fun x=>match x with|(i,a,b,c)=>im.length+1-i) (fun x=>match x with|(i,a,b,c)=>fun b_=>match b_ with|2=>some (Ann.mk ((Nat)×(V7)×(List Bool)×(V7)) (fun x=>match x with|(k,a2,b2,c2)=>⟨[(0,.c (.ptr 7000 0)),(1,.c (.int .i64 p)),(2,.c (.int .i64 v)),(7,.c (.int .i64 ((i:Int)))),(8,.c (.int .i64 ((c.getD i 0)))),(77,.c (.ro (.r3 .i64 fr))),(78,.c (.int .i64 ((fr.length:Int)))),(79,.c (.int .i64 ((k:Int))))],[(7000,some (.box [.ro (.r3 .i64 fr),.ro (.r3 .i64 tt),.own 7003,.own 7004,.own 7005])),(7003,some (.ints 2 .i64 a2)),(7004,some (.bools 4 b2)),(7005,some (.ints 2 .i64 c2))]⟩) (fun x=>match x with|(k,a2,b2,c2)=>k<=fr.length/\MX im.length (a,b,c) (a2,b2,c2)/\bO (aK fr tt (d-1)) p v (c.getD i 0) (fr.drop k) (tt.drop k) (a2,b2,c2)=bO (aK fr tt (d-1)) p v (c.getD i 0) fr tt (a,b,c)) (fun x=>match x with|(k,a2,b2,c2)=>fr.length-k) (fun _=>am))|_=>none))
 |_=>none
def HF(d:Nat):List (Nat×Ctr):=[(180,⟨[(0,93),(0,93)],nh d⟩)]
def HG(tt:V9)(v:Int)(x0:Nat×V7×List Bool×V7)(x1:Nat×V7×List Bool×V7):=((List.getD (List.getD tt (↑x0.1:Int).toNat ([]:V8)) v.toNat []).getD ((x0.2.1.getD ((x1.2.2.2.getD x1.1 (0:Int)).toNat) (0:Int)).toNat) (0:Int))
def eZ(d:Nat)(fr:V9)(tt:V9)(p:Int)(v:Int)(x0:Nat×V7×List Bool×V7)(x1:Nat×V7×List Bool×V7):=((aK fr tt d ((List.getD (List.getD fr (↑x0.1:Int).toNat ([]:V8)) p.toNat []).getD ((x1.2.2.2.getD x1.1 (0:Int)).toNat) (0:Int)) (HG tt v x0 x1) (x0.2.1,x0.2.2.1,x0.2.2.2)).2)
def oP(d:Nat)(fr:V9)(tt:V9)(p:Int)(v:Int)(x0:Nat×V7×List Bool×V7)(x1:Nat×V7×List Bool×V7):=((List.getD tt (↑x0.1:Int).toNat ([]:V8)).getD ((((eZ d fr tt p v x0 x1).1).getD ((x1.2.2.2.getD x1.1 (0:Int)).toNat) (0:Int)).toNat) [])
def lE(d:Nat)(fr:V9)(tt:V9)(p:Int)(v:Int)(x0:Nat×V7×List Bool×V7)(x1:Nat×V7×List Bool×V7):=((aK fr tt d ((List.getD (List.getD fr (↑x0.1:Int).toNat ([]:V8)) ((List.getD x1.2.2.2 x1.1 (0:Int)).toNat) []).getD p.toNat (0:Int)) ((oP d fr tt p v x0 x1).getD v.toNat (0:Int)) ((eZ d fr tt p v x0 x1).1,((eZ d fr tt p v x0 x1).2).1,((eZ d fr tt p v x0 x1).2).2)).2)
def fp(d:Nat)(fr:V9)(tt:V9)(im:V7)(us:List Bool)(st:V7)(p:Int)(v:Int):=((aK fr tt (d+(1:Nat)) p v (im,us,st)).2)
def zh(d:Nat)(fr:V9)(tt:V9)(im:V7)(us:List Bool)(st:V7)(p:Int)(v:Int):Prop :=
 (aa p im.length/\(ae (decide ((0:Int)<=im.getD p.toNat (0:Int))) (aa p im.length/\(im.getD p.toNat (0:Int) == v)=(aK fr tt (d+(1:Nat)) p v (im,us,st)).1/\fr=fr/\tt=tt/\im=(fp d fr tt im us st p v).1/\us=((fp d fr tt im us st p v).2).1/\st=((fp d fr tt im us st p v).2).2) (aa v us.length/\(ae (us.getD v.toNat false) (false=(aK fr tt (d+(1:Nat)) p v (im,us,st)).1/\fr=fr/\tt=tt/\im=(fp d fr tt im us st p v).1/\us=((fp d fr tt im us st p v).2).1/\st=((fp d fr tt im us st p v).2).2) (aa p im.length/\(aa v us.length/\(af (st.length+[p].length)/\((∃x0:Nat×V7×List Bool×V7,(MW im.length (x0.2.1,x0.2.2.1,x0.2.2.2)/\b8 x0.2.1+(1:Nat)<d+(1:Nat)/\dC (aK fr tt (d+(1:Nat)-(1:Nat))) fr tt p v (im.length+(1:Nat)-x0.1) x0.1 (x0.2.1,x0.2.2.1,x0.2.2.2)=aK fr tt (d+(1:Nat)) p v (im,us,st))/\p=p/\v=v/\(0:Int)=(↑x0.1:Int)/\fr=fr/\tt=tt/\List.set im p.toNat v=x0.2.1/\List.set us v.toNat true=x0.2.2.1/\st++[p]=x0.2.2.2)/\(∀x1:Nat×V7×List Bool×V7,((MW im.length (x1.2.1,x1.2.2.1,x1.2.2.2)/\b8 x1.2.1+(1:Nat)<d+(1:Nat)/\dC (aK fr tt (d+(1:Nat)-(1:Nat))) fr tt p v (im.length+(1:Nat)-x1.1) x1.1 (x1.2.1,x1.2.2.1,x1.2.2.2)=aK fr tt (d+(1:Nat)) p v (im,us,st)) ->
 (ae (decide ((↑x1.1:Int)<(x1.2.2.2.length:Int))) (aa (↑x1.1:Int) x1.2.2.2.length/\((∃x2:Nat×V7×List Bool×V7,(x2.1<=fr.length/\MX im.length (x1.2.1,x1.2.2.1,x1.2.2.2) (x2.2.1,x2.2.2.1,x2.2.2.2)/\bO (aK fr tt (d+(1:Nat)-(1:Nat))) p v (x1.2.2.2.getD x1.1 (0:Int)) (List.drop x2.1 fr) (List.drop x2.1 tt) (x2.2.1,x2.2.2.1,x2.2.2.2)=bO (aK fr tt (d+(1:Nat)-(1:Nat))) p v (x1.2.2.2.getD x1.1 (0:Int)) fr tt (x1.2.1,x1.2.2.1,x1.2.2.2))/\p=p/\v=v/\(↑x1.1:Int)=(↑x1.1:Int)/\x1.2.2.2.getD (↑x1.1:Int).toNat (0:Int)=x1.2.2.2.getD x1.1 (0:Int)/\fr=fr/\(fr.length:Int)=(fr.length:Int)/\(0:Int)=(↑x2.1:Int)/\fr=fr/\tt=tt/\x1.2.1=x2.2.1/\x1.2.2.1=x2.2.2.1/\x1.2.2.2=x2.2.2.2)/\(∀x3:Nat×V7×List Bool×V7,(x3.1<=fr.length/\MX im.length (x1.2.1,x1.2.2.1,x1.2.2.2) (x3.2.1,x3.2.2.1,x3.2.2.2)/\bO (aK fr tt (d+(1:Nat)-(1:Nat))) p v (x1.2.2.2.getD x1.1 (0:Int)) (List.drop x3.1 fr) (List.drop x3.1 tt) (x3.2.1,x3.2.2.1,x3.2.2.2)=bO (aK fr tt (d+(1:Nat)-(1:Nat))) p v (x1.2.2.2.getD x1.1 (0:Int)) fr tt (x1.2.1,x1.2.2.1,x1.2.2.2)->(ae (decide ((↑x3.1:Int)<(fr.length:Int))) (aa (↑x3.1:Int) fr.length/\(aa p ((fr.getD (↑x3.1:Int).toNat ([]:V8)).length)/\((aa (x1.2.2.2.getD x1.1 (0:Int)) (((List.getD fr (↑x3.1:Int).toNat ([]:V8)).getD p.toNat []).length)) /\
 (aa (↑x3.1:Int) tt.length/\(aa v ((tt.getD (↑x3.1:Int).toNat ([]:V8)).length)/\(aa (x1.2.2.2.getD x1.1 (0:Int)) x3.2.1.length/\(aa (x3.2.1.getD ((x1.2.2.2.getD x1.1 (0:Int)).toNat) (0:Int)) (((List.getD tt (↑x3.1:Int).toNat ([]:V8)).getD v.toNat []).length)/\((oO x3.2.1.length fr tt (x3.2.1,x3.2.2.1,x3.2.2.2)/\b8 x3.2.1<d/\(0:Int)<=(List.getD (List.getD fr (↑x3.1:Int).toNat ([]:V8)) p.toNat []).getD ((x1.2.2.2.getD x1.1 (0:Int)).toNat) (0:Int)/\(List.getD (List.getD fr (↑x3.1:Int).toNat ([]:V8)) p.toNat []).getD ((x1.2.2.2.getD x1.1 (0:Int)).toNat) (0:Int)<(x3.2.1.length:Int)/\(0:Int)<=(List.getD (List.getD tt (↑x3.1:Int).toNat ([]:V8)) v.toNat []).getD ((x3.2.1.getD ((x1.2.2.2.getD x1.1 (0:Int)).toNat) (0:Int)).toNat) (0:Int)/\(List.getD (List.getD tt (↑x3.1:Int).toNat ([]:V8)) v.toNat []).getD ((x3.2.1.getD ((x1.2.2.2.getD x1.1 (0:Int)).toNat) (0:Int)).toNat) (0:Int)<(x3.2.1.length:Int))/\(ae (!(aK fr tt d ((List.getD (List.getD fr (↑x3.1:Int).toNat ([]:V8)) p.toNat []).getD ((x1.2.2.2.getD x1.1 (0:Int)).toNat) (0:Int)) ((List.getD (List.getD tt (↑x3.1:Int).toNat ([]:V8)) v.toNat []).getD ((x3.2.1.getD ((x1.2.2.2.getD x1.1 (0:Int)).toNat) (0:Int)).toNat) (0:Int)) (x3.2.1,x3.2.2.1,x3.2.2.2)).1) (false=(aK fr tt (d+(1:Nat)) p v (im,us,st)).1/\(fr=fr/\((tt=tt) /\
 (((eZ d fr tt p v x3 x1).1=(fp d fr tt im us st p v).1)/\((((eZ d fr tt p v x3 x1).2).1=((fp d fr tt im us st p v).2).1)/\(((eZ d fr tt p v x3 x1).2).2=((fp d fr tt im us st p v).2).2)))))) ((aa (x1.2.2.2.getD x1.1 (0:Int)) ((fr.getD (↑x3.1:Int).toNat ([]:V8)).length))/\((aa p (((List.getD fr (↑x3.1:Int).toNat ([]:V8)).getD ((x1.2.2.2.getD x1.1 (0:Int)).toNat) []).length))/\((aa (↑x3.1:Int) tt.length)/\((aa (x1.2.2.2.getD x1.1 (0:Int)) (((eZ d fr tt p v x3 x1).1).length))/\((aa (((eZ d fr tt p v x3 x1).1).getD ((x1.2.2.2.getD x1.1 (0:Int)).toNat) (0:Int)) ((tt.getD (↑x3.1:Int).toNat ([]:V8)).length))/\((aa v (oP d fr tt p v x3 x1).length)/\(((oO (((eZ d fr tt p v x3 x1).1).length) fr tt ((eZ d fr tt p v x3 x1).1,((eZ d fr tt p v x3 x1).2).1,((eZ d fr tt p v x3 x1).2).2))/\((b8 (eZ d fr tt p v x3 x1).1<d)/\(((0:Int)<=(List.getD (List.getD fr (↑x3.1:Int).toNat ([]:V8)) ((List.getD x1.2.2.2 x1.1 (0:Int)).toNat) []).getD p.toNat (0:Int))/\(((List.getD (List.getD fr (↑x3.1:Int).toNat ([]:V8)) ((List.getD x1.2.2.2 x1.1 (0:Int)).toNat) []).getD p.toNat (0:Int)<(↑(((eZ d fr tt p v x3 x1).1).length):Int))/\(((0:Int)<=(oP d fr tt p v x3 x1).getD v.toNat (0:Int)) /\
 ((oP d fr tt p v x3 x1).getD v.toNat (0:Int)<(↑(((eZ d fr tt p v x3 x1).1).length):Int))))))) /\
 (ae (!(aK fr tt d ((List.getD (List.getD fr (↑x3.1:Int).toNat ([]:V8)) ((List.getD x1.2.2.2 x1.1 (0:Int)).toNat) []).getD p.toNat (0:Int)) ((List.getD (List.getD tt (↑x3.1:Int).toNat ([]:V8)) ((List.getD (((aK fr tt d (List.getD (List.getD (List.getD fr (↑x3.1:Int).toNat ([]:V8)) p.toNat []) ((List.getD x1.2.2.2 x1.1 (0:Int)).toNat) (0:Int)) (List.getD (List.getD (List.getD tt (↑x3.1:Int).toNat ([]:V8)) v.toNat []) ((List.getD x3.2.1 ((List.getD x1.2.2.2 x1.1 (0:Int)).toNat) (0:Int)).toNat) (0:Int)) (x3.2.1,x3.2.2.1,x3.2.2.2)).2).1) ((List.getD x1.2.2.2 x1.1 (0:Int)).toNat) (0:Int)).toNat) []).getD v.toNat (0:Int)) (((aK fr tt d ((List.getD (List.getD fr (↑x3.1:Int).toNat ([]:V8)) p.toNat []).getD ((x1.2.2.2.getD x1.1 (0:Int)).toNat) (0:Int)) ((List.getD (List.getD tt (↑x3.1:Int).toNat ([]:V8)) v.toNat []).getD ((x3.2.1.getD ((x1.2.2.2.getD x1.1 (0:Int)).toNat) (0:Int)).toNat) (0:Int)) (x3.2.1,x3.2.2.1,x3.2.2.2)).2).1,(((aK fr tt d ((List.getD (List.getD fr (↑x3.1:Int).toNat ([]:V8)) p.toNat []).getD ((x1.2.2.2.getD x1.1 (0:Int)).toNat) (0:Int)) ((List.getD (List.getD tt (↑x3.1:Int).toNat ([]:V8)) v.toNat []).getD ((x3.2.1.getD ((x1.2.2.2.getD x1.1 (0:Int)).toNat) (0:Int)).toNat) (0:Int)) (x3.2.1,x3.2.2.1,x3.2.2.2)).2).2).1,(((aK fr tt d ((List.getD (List.getD fr (↑x3.1:Int).toNat ([]:V8)) p.toNat []).getD ((x1.2.2.2.getD x1.1 (0:Int)).toNat) (0:Int)) ((List.getD (List.getD tt (↑x3.1:Int).toNat ([]:V8)) v.toNat []).getD ((x3.2.1.getD ((x1.2.2.2.getD x1.1 (0:Int)).toNat) (0:Int)).toNat) (0:Int)) (x3.2.1,x3.2.2.1,x3.2.2.2)).2).2).2)).1)
 ((false=(aK fr tt (d+(1:Nat)) p v (im,us,st)).1)/\((fr=fr)/\((tt=tt)/\(((lE d fr tt p v x3 x1).1=(fp d fr tt im us st p v).1)/\((((lE d fr tt p v x3 x1).2).1=((fp d fr tt im us st p v).2).1)/\(((lE d fr tt p v x3 x1).2).2=((fp d fr tt im us st p v).2).2)))))) ((ac ((↑x3.1:Int)+(1:Int)))/\(∃x4:Nat×V7×List Bool×V7,(((x4.1<=fr.length)/\((MX im.length (x1.2.1,x1.2.2.1,x1.2.2.2) (x4.2.1,x4.2.2.1,x4.2.2.2))/\(bO (aK fr tt (d+(1:Nat)-(1:Nat))) p v (x1.2.2.2.getD x1.1 (0:Int)) (List.drop x4.1 fr) (List.drop x4.1 tt) (x4.2.1,x4.2.2.1,x4.2.2.2)=bO (aK fr tt (d+(1:Nat)-(1:Nat))) p v (x1.2.2.2.getD x1.1 (0:Int)) fr tt (x1.2.1,x1.2.2.1,x1.2.2.2))))/\((fr.length-x4.1<fr.length-x3.1)/\((p=p)/\((v=v)/\(((↑x1.1:Int)=(↑x1.1:Int))/\((x1.2.2.2.getD x1.1 (0:Int)=x1.2.2.2.getD x1.1 (0:Int))/\((fr=fr)/\(((fr.length:Int)=(fr.length:Int))/\(((↑x3.1:Int)+(1:Int)=(↑x4.1:Int))/\((fr=fr)/\((tt=tt)/\(((lE d fr tt p v x3 x1).1=x4.2.1)/\((((lE d fr tt p v x3 x1).2).1=x4.2.2.1)/\(((lE d fr tt p v x3 x1).2).2=x4.2.2.2))))))))))))))))))))))))))))))))) ((ac ((↑x1.1:Int)+(1:Int)))/\(∃x5:Nat×V7×List Bool×V7,(((MW im.length (x5.2.1,x5.2.2.1,x5.2.2.2))/\((b8 x5.2.1+(1:Nat)<d+(1:Nat)) /\
 (dC (aK fr tt (d+(1:Nat)-(1:Nat))) fr tt p v (im.length+(1:Nat)-x5.1) x5.1 (x5.2.1,x5.2.2.1,x5.2.2.2)=aK fr tt (d+(1:Nat)) p v (im,us,st))))/\((im.length+(1:Nat)-x5.1<im.length+(1:Nat)-x1.1)/\((p=p)/\((v=v)/\(((↑x1.1:Int)+(1:Int)=(↑x5.1:Int))/\((fr=fr)/\((tt=tt)/\((x3.2.1=x5.2.1)/\((x3.2.2.1=x5.2.2.1)/\(x3.2.2.2=x5.2.2.2))))))))))))))))) ((true=(aK fr tt (d+(1:Nat)) p v (im,us,st)).1)/\((fr=fr)/\((tt=tt)/\((x1.2.1=(fp d fr tt im us st p v).1)/\((x1.2.2.1=((fp d fr tt im us st p v).2).1)/\(x1.2.2.2=((fp d fr tt im us st p v).2).2)))))))))))))))))
theorem Q1(d:Nat)(fr:V9)(tt:V9)(im:V7)(us:List Bool)(st:V7)(p:Int)(v:Int):kW Tryz.prog (ai (HF d)) ak (HE (d+1) fr tt im us st p v) Tryz.f180 (aE Tryz.f180) [.box [.c (.r3 .i64 fr),.c (.r3 .i64 tt),.ob (.ints 2 .i64 im),.ob (.bools 4 us),.ob (.ints 2 .i64 st)],.m (.c (.int .i64 p)),.m (.c (.int .i64 v))] (HB (d+1) fr tt im us st p v) (gy 0 (HC (d+1) fr tt im us st p v)++gV (HD (d+1) fr tt im us st p v))=zh d fr tt im us st p v:=by kernel_rfl
theorem Q2(d:Nat)(fr:V9)(tt:V9)(im:V7)(us:List Bool)(st:V7)(p:Int)(v:Int)(Yh:(nf (d+1) fr tt im us st p v).pre):zh d fr tt im us st p v:=by
 simp only[nf,zh,HG,eZ,oP,lE,fp,aG,u1,u2,u3,u4,u5,u6,u7,u8,u9,v1,v2,v3,v4,v5,v6,v7,v8,v9,w1,w2,w3,w4,aH,aa,ac,af,ar]at Yh⊢;obtain⟨⟨hn,hlen,hf100,hfr,htt,hw⟩,hfd,hp0,hpn,hv0,hvn⟩:=Yh;have hus:us.length=im.length:=hw.us
 refine⟨⟨hp0,hpn⟩,fun h0=>⟨⟨hp0,hpn⟩,?_⟩,fun h0=>⟨⟨hv0,by omega⟩,fun h1=>?_,fun h1=>⟨⟨hp0,hpn⟩,⟨hv0,by omega⟩,?_,?_,?_⟩⟩⟩
 ·have e:aK fr tt (d+1) p v (im,us,st)=(decide (gi im p=v),im,us,st):=by rw[aK];exact if_pos h0
  rw[e];exact⟨rfl,rfl,rfl,rfl⟩
 ·have e:aK fr tt (d+1) p v (im,us,st)=(false,im,us,st):=by rw[aK];exact(if_neg h0).trans (if_pos h1)
  rw[e];exact⟨rfl,rfl,rfl,rfl⟩
 ·have:=hw.cnt;simp only at this;omega
 ·have e:aK fr tt (d+1) p v (im,us,st)=dC (aK fr tt d) fr tt p v (im.length+1) 0 (im.set p.toNat v,us.set v.toNat true,st++[p]):=by
   rw[aK];exact(if_neg h0).trans (if_neg (by simp only;rw[h1];simp))
  have hput:=hw.put hp0 hpn hv0 hvn (by simp only[gi];omega) h1
  have hfs:=sP (l:=im) (i:=p.toNat) (v:=v) (by omega) (by omega) hv0
  exact⟨(0,im.set p.toNat v,us.set v.toNat true,st++[p]),⟨hput.wf,by simp only;omega,e.symm⟩,rfl,rfl,rfl,rfl⟩
 ·rintro⟨i,a,b,c⟩ ⟨hmw,hfa,hI⟩
  simp only[Nat.add_sub_cancel]at hmw hfa hI⊢;have hA:=lH hfr htt d
  have hcn:=hmw.cnt
  simp only at hcn;refine⟨fun hi=>?_,?_⟩
  ·have hi':i<c.length:=by omega
   have hE:im.length+1-i=(im.length-i)+1:=by omega
   rw[hE]at hI;have hmem:c.getD i 0∈c:=by rw[List.getD,List.getElem?_eq_getElem hi'];exact List.getElem_mem hi'
   obtain⟨hy0,hyn,hyg⟩:=hmw.st _ hmem;refine⟨⟨by omega,hi⟩,⟨(0,a,b,c),⟨Nat.zero_le _,.refl hmw,rfl⟩,rfl,rfl,rfl,rfl⟩,?_⟩
   generalize hyd:c.getD i 0=y at *
   have eF:(bO (aK fr tt d) p v y fr tt (a,b,c)).1=false->aK fr tt (d+1) p v (im,us,st)=bO (aK fr tt d) p v y fr tt (a,b,c):=fun h=>by
    have:=Id (A:=aK fr tt d) (fr:=fr) (tt:=tt) (x:=p) (v:=v) (e:=im.length-i) (i:=i) (s:=(a,b,c)) hi' (by simp only[hyd];exact h)
    simp only[hyd]at this;exact hI.symm.trans this
   have eT:(bO (aK fr tt d) p v y fr tt (a,b,c)).1=true->aK fr tt (d+1) p v (im,us,st)=dC (aK fr tt d) fr tt p v (im.length-i) (i+1) (bO (aK fr tt d) p v y fr tt (a,b,c)).2:=fun h=>by
    have:=zu (A:=aK fr tt d) (fr:=fr) (tt:=tt) (x:=p) (v:=v) (e:=im.length-i) (i:=i) (s:=(a,b,c)) hi' (by simp only[hyd];exact h)
    simp only[hyd]at this;exact hI.symm.trans this
   rintro⟨k,a2,b2,c2⟩ ⟨hk,hx,hK⟩
   simp only at hk hx hK⊢;have hlen2:a2.length=im.length:=hx.wf.im
   have hy2:gi a2 y=gi a y:=hx.keep y hy0 hyn hyg
   have hy2g:0<=gi a2 y:=by rw[hy2];exact hyg
   have hy2n:gi a2 y<(im.length:Int):=hx.wf.rg y hy0 hyn
   have hfa2:b8 a2<=b8 a:=hx.fre
   refine⟨fun hk1=>?_,fun hk1=>?_⟩
   ·have hkl:k<fr.length:=by omega
    have hkt:k<tt.length:=by omega
    have hdf:fr.drop k=fr.getD k []::fr.drop (k+1):=by rw[List.drop_eq_getElem_cons hkl,List.getD,List.getElem?_eq_getElem hkl];rfl
    have hdt:tt.drop k=tt.getD k []::tt.drop (k+1):=by rw[List.drop_eq_getElem_cons hkt,List.getD,List.getElem?_eq_getElem hkt];rfl
    have t1:=hfr (fr.getD k []) (by rw[List.getD,List.getElem?_eq_getElem hkl];exact List.getElem_mem hkl)
    have u1:=htt (tt.getD k []) (by rw[List.getD,List.getElem?_eq_getElem hkt];exact List.getElem_mem hkt)
    rw[hdf,hdt]at hK;generalize fr.getD k []=t at *
    generalize tt.getD k []=u at *
    obtain⟨g10,g11⟩:=(t1.2 p y hp0 hpn).2 hy0 hyn;obtain⟨g20,g21⟩:=(u1.2 v _ hv0 hvn).2 hy2g hy2n;obtain⟨g30,g31⟩:=(t1.2 y p hy0 hyn).2 hp0 hpn;have hr:=hA (g2 t p y) (g2 u v (gi a2 y)) (a2,b2,c2) g10 g11 g20 g21 hx.wf
    refine⟨⟨by omega,hk1⟩,⟨hp0,by omega⟩,⟨hy0,by rw[(t1.2 p 0 hp0 hpn).1];exact hyn⟩,⟨by omega,by omega⟩,⟨hv0,by omega⟩,⟨hy0,by omega⟩,⟨hy2g,by rw[(u1.2 v 0 hv0 hvn).1];exact hy2n⟩,⟨by rw[hlen2];exact⟨hn,hlen,hf100,hfr,htt,hx.wf⟩,by omega,g10,by rw[hlen2];exact g11,g20,by rw[hlen2];exact g21⟩,fun hq=>?_,fun hq=>?_⟩
    ·have e:=Ib (v:=v) (x:=p) (y:=y) (fr:=fr.drop (k+1)) (tt:=tt.drop (k+1)) hq
     rw[e]at hK;have e2:=eF (by rw[<-hK];exact hq)
     rw[e2,<-hK];exact⟨hq.symm,rfl,rfl,rfl⟩
    ·have hw1:=hr.wf
     have hy3:0<=gi (aK fr tt d (g2 t p y) (g2 u v (gi a2 y)) (a2,b2,c2)).2.1 y:=by rw[hr.keep y hy0 hyn hy2g];exact hy2g
     have hy3n:=hw1.rg y hy0 hyn
     have hl3:(aK fr tt d (g2 t p y) (g2 u v (gi a2 y)) (a2,b2,c2)).2.1.length=im.length:=hw1.im
     have hf3:b8 (aK fr tt d (g2 t p y) (g2 u v (gi a2 y)) (a2,b2,c2)).2.1<=b8 a2:=hr.fre
     have eTF:=Ic (v:=v) (x:=p) (y:=y) (fr:=fr.drop (k+1)) (tt:=tt.drop (k+1)) hq
     have eTT:=zt (v:=v) (x:=p) (y:=y) (fr:=fr.drop (k+1)) (tt:=tt.drop (k+1)) hq
     have h3:(aK fr tt d ((t.getD p.toNat []).getD y.toNat 0) ((u.getD v.toNat []).getD (a2.getD y.toNat 0).toNat 0) (a2,b2,c2))=aK fr tt d (g2 t p y) (g2 u v (gi a2 y)) (a2,b2,c2):=rfl
     rw[h3]at⊢;have hx13:MX im.length (a,b,c) (aK fr tt d (g2 t p y) (g2 u v (gi a2 y)) (a2,b2,c2)).2:=hx.trans hr
     have e30:aK fr tt d (g2 t p y) (g2 u v (gi (a2,b2,c2).1 y)) (a2,b2,c2)=aK fr tt d (g2 t p y) (g2 u v (gi a2 y)) (a2,b2,c2):=rfl
     rw[e30]at eTF eTT;generalize aK fr tt d (g2 t p y) (g2 u v (gi a2 y)) (a2,b2,c2)=r at *
     obtain⟨rb,a3,b3,c3⟩:=r;simp only at hw1 hy3 hy3n hl3 hf3 eTF eTT hx13⊢;obtain⟨g40,g41⟩:=(u1.2 _ v hy3 hy3n).2 hv0 hvn;have hr4:=hA (g2 t y p) (g2 u (gi a3 y) v) (a3,b3,c3) g30 g31 g40 g41 hw1
     refine⟨⟨hy0,by omega⟩,⟨hp0,by rw[(t1.2 y 0 hy0 hyn).1];exact hpn⟩,⟨by omega,by omega⟩,⟨hy0,by omega⟩,⟨hy3,by rw[u1.1];exact hy3n⟩,⟨hv0,?_⟩,⟨by rw[hl3];exact⟨hn,hlen,hf100,hfr,htt,hw1⟩,by omega,g30,by rw[hl3];exact g31,g40,by rw[hl3];exact g41⟩,fun hq2=>?_,fun hq2=>?_⟩
     ·have:=(u1.2 (gi a3 y) 0 hy3 hy3n).1
      show v<((u.getD (gi a3 y).toNat []).length:Int)
      rw[this];exact hvn
     ·rw[eTF hq2]at hK
      have e2:=eF (by rw[<-hK];exact hq2)
      rw[e2,<-hK];exact⟨hq2.symm,rfl,rfl,rfl⟩
     ·rw[eTT hq2]at hK
      refine⟨⟨by omega,by omega⟩,?_⟩
      exact⟨(k+1,(aK fr tt d (g2 t y p) (g2 u (gi a3 y) v) (a3,b3,c3)).2),⟨by simp only;omega,hx13.trans hr4,hK⟩,by simp only;omega,by simp only;omega,rfl,rfl,rfl⟩
   ·have hkf:k=fr.length:=by omega
    rw[hkf,List.drop_length,hlen,List.drop_length]at hK;have hK2:(true,((a2,b2,c2):MS))=bO (aK fr tt d) p v y fr tt (a,b,c):=hK
    have e2:=eT (by rw[<-hK2])
    rw[<-hK2]at e2;refine⟨⟨by omega,by omega⟩,(i+1,a2,b2,c2),⟨hx.wf,by simp only;omega,?_⟩,by simp only;omega,by simp only;omega,rfl,rfl,rfl⟩
    rw[e2]
    show dC _ fr tt p v (im.length+1-(i+1)) _ _=_
    rw[show im.length+1-(i+1)=im.length-i by omega]
  ·intro hi
   have e2:aK fr tt (d+1) p v (im,us,st)=(true,a,b,c):=by
    rw[<-hI];cases im.length+1-i with
    |zero=>rfl
    |succ e=>rw[dC];exact if_neg (by simp only;omega)
   rw[e2];exact⟨rfl,rfl,rfl,rfl⟩
theorem Q3(fr:V9)(tt:V9)(im:V7)(us:List Bool)(st:V7)(p:Int)(v:Int)(h:(nf 0 fr tt im us st p v).pre):False:=by
 simp only[nf]at h;omega
theorem Q4(d:Nat):Fits Tryz.prog 180 ⟨[(0,93),(0,93)],nh d⟩:=by
 induction d with
 |zero =>
  refine D0 ⟨Tryz.f180,Tryz.func180,by kernel_rfl,by kernel_rfl⟩ fun ds p h hp=>?_
  unfold nh at h;split at h
  ·cases h
   exact Q3 _ _ _ _ _ _ _  hp
  ·cases h
 |succ d ih =>
  refine om (Γ:=ai (HF d)) (aw ih aF) Tryz.func180 (by kernel_rfl) (by kernel_rfl) (fun ads p h=>?_) fun mas q sv ex outs h hq=>?_
  ·unfold nh at h
   split at h
   ·cases h;rfl
   ·cases h
  ·unfold nh at h
   split at h
   ·rename_i heq
    have heq:=mE (l:=[_,_,_]) heq
    subst heq;unfold nf at h;cases h;exact⟨ak,HE _ _ _ _ _ _ _ _ ,by rw[Q1];exact Q2 _ _ _ _ _ _ _ _  hq⟩
   ·cases h
end Go.Sx
