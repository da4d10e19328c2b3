/- GrpC -/
import Derived.Test.YtkmldclpaniclaaGreatMpgL
import Derived.Test.YtkmldclpaniclaaGreatGrp
set_option linter.unusedSimpArgs false
set_option linter.unusedVariables false
set_option linter.defProp false
open Go Go.Proofs
namespace Go.Sx
def pK(n:Nat)(fr tt:D3)(s:MS):Prop:=n<=100/\fr.length=tt.length/\fr.length<=100/\c6 n fr/\c6 n tt/\MW n s
def Ly(d:Nat)(fr:D3)(tt:D3)(im:D1)(us:List Bool)(st:D1)(p:Int)(v:Int):SV:=.c (.bool ((aH fr tt d p v (im,us,st)).1))
def Lz(d:Nat)(fr:D3)(tt:D3)(im:D1)(us:List Bool)(st:D1)(p:Int)(v:Int):List MA:=[.box [.c (.r3 .i64 fr),.c (.r3 .i64 tt),.ob (.ints 2 .i64 ((aH fr tt d p v (im,us,st)).2.1)),.ob (.bools 4 ((aH fr tt d p v (im,us,st)).2.2.1)),.ob (.ints 2 .i64 ((aH fr tt d p v (im,us,st)).2.2.2))],.m (.c (.int .i64 p)),.m (.c (.int .i64 v))]
def LA(d:Nat)(fr:D3)(tt:D3)(im:D1)(us:List Bool)(st:D1)(p:Int)(v:Int):List (Nat×Ob):=[]
def nY(d:Nat)(fr:D3)(tt:D3)(im:D1)(us:List Bool)(st:D1)(p:Int)(v:Int):Post:=⟨pK im.length fr tt (im,us,st)/\cq im<d/\0<=p/\p<(im.length:Int)/\0<=v/\v<(im.length:Int),.st (Ly d fr tt im us st p v) (LA d fr tt im us st p v) (Lz d fr tt im us st p v),[]⟩
def nZ(d:Nat):List AD->Option Post
 | [.ma (.box [.c (.r3 .i64 fr),.c (.r3 .i64 tt),.ob (.ints 2 .i64 im),.ob (.bools 4 us),.ob (.ints 2 .i64 st)]),.ma (.m (.c (.int .i64 p))),.ma (.m (.c (.int .i64 v)))]=>some (nY d fr tt im us st p v)
 |_=>none
def LB(d:Nat)(fr:D3)(tt:D3)(im:D1)(us:List Bool)(st:D1)(p:Int)(v:Int):Nat->Option Ann
 |0=>some (Ann.mk ((Nat)×(D1)×(List Bool)×(D1)) (fun x=>match x with|(i,a,b,c)=>⟨[(0,M' 7000),(1,A' p),(2,A' v),(7,A' i)],[(7000,P' [.ro (.r3 .i64 fr),.ro (.r3 .i64 tt),.own 7003,.own 7004,.own 7005]),(7003,O' a),(7004,some (.bools 4 b)),(7005,O' c)]⟩) (fun x=>match x with|(i,a,b,c)=>MW im.length (a,b,c)/\cq a+1<d/\dQ (aH fr tt (d-1)) fr tt p v (im.length+1-i) i (a,b,c)=aH fr tt d p v (im,us,st)) (fun x=>match x with|(i,a,b,c)=>im.length+1-i) (fun x=>match x with|(i,a,b,c)=>fun b_=>match b_ with|2=>some (Ann.mk ((Nat)×(D1)×(List Bool)×(D1)) (fun x=>match x with|(k,a2,b2,c2)=>⟨[(0,M' 7000),(1,A' p),(2,A' v),(7,A' i),(8,A' (c.getD i 0)),(77,I' fr),(78,A' fr.length),(79,A' k)],[(7000,P' [.ro (.r3 .i64 fr),.ro (.r3 .i64 tt),.own 7003,.own 7004,.own 7005]),(7003,O' a2),(7004,some (.bools 4 b2)),(7005,O' c2)]⟩) (fun x=>match x with|(k,a2,b2,c2)=>k<=fr.length/\MX im.length (a,b,c) (a2,b2,c2)/\bV (aH fr tt (d-1)) p v (c.getD i 0) (fr.drop k) (tt.drop k) (a2,b2,c2)=bV (aH fr tt (d-1)) p v (c.getD i 0) fr tt (a,b,c)) (fun x=>match x with|(k,a2,b2,c2)=>fr.length-k) (fun _=>ar))|_=>none))
 |_=>none
def LC(d:Nat):List (Nat×Ctr):=[(180,⟨[(0,93),(0,93)],nZ d⟩)]
def LD(tt:D3)(v:Int)(x0:Nat×D1×List Bool×D1)(x1:Nat×D1×List Bool×D1):=((List.getD (List.getD tt (↑x0.1:Int).toNat ([]:D2)) v.toNat []).getD ((x0.2.1.getD ((x1.2.2.2.getD x1.1 (0:Int)).toNat) (0:Int)).toNat) (0:Int))
def fw(d:Nat)(fr:D3)(tt:D3)(p:Int)(v:Int)(x0:Nat×D1×List Bool×D1)(x1:Nat×D1×List Bool×D1):=((aH fr tt d ((List.getD (List.getD fr (↑x0.1:Int).toNat ([]:D2)) p.toNat []).getD ((x1.2.2.2.getD x1.1 (0:Int)).toNat) (0:Int)) (LD tt v x0 x1) (x0.2.1,x0.2.2.1,x0.2.2.2)).2)
def pL(d:Nat)(fr:D3)(tt:D3)(p:Int)(v:Int)(x0:Nat×D1×List Bool×D1)(x1:Nat×D1×List Bool×D1):=((List.getD tt (↑x0.1:Int).toNat ([]:D2)).getD ((((fw d fr tt p v x0 x1).1).getD ((x1.2.2.2.getD x1.1 (0:Int)).toNat) (0:Int)).toNat) [])
def mo(d:Nat)(fr:D3)(tt:D3)(p:Int)(v:Int)(x0:Nat×D1×List Bool×D1)(x1:Nat×D1×List Bool×D1):=((aH fr tt d ((List.getD (List.getD fr (↑x0.1:Int).toNat ([]:D2)) ((List.getD x1.2.2.2 x1.1 (0:Int)).toNat) []).getD p.toNat (0:Int)) ((pL d fr tt p v x0 x1).getD v.toNat (0:Int)) ((fw d fr tt p v x0 x1).1,((fw d fr tt p v x0 x1).2).1,((fw d fr tt p v x0 x1).2).2)).2)
def fM(d:Nat)(fr:D3)(tt:D3)(im:D1)(us:List Bool)(st:D1)(p:Int)(v:Int):=((aH fr tt (d+(1:Nat)) p v (im,us,st)).2)
def zV(d:Nat)(fr:D3)(tt:D3)(im:D1)(us:List Bool)(st:D1)(p:Int)(v:Int):Prop :=
 ((ac p im.length)/\(ab (decide ((0:Int)<=im.getD p.toNat (0:Int))) ((ac p im.length)/\(((im.getD p.toNat (0:Int) == v)=(aH fr tt (d+(1:Nat)) p v (im,us,st)).1)/\((fr=fr)/\((tt=tt)/\((im=(fM d fr tt im us st p v).1)/\((us=((fM d fr tt im us st p v).2).1)/\(st=((fM d fr tt im us st p v).2).2))))))) ((ac v us.length)/\(ab (us.getD v.toNat false) ((false=(aH fr tt (d+(1:Nat)) p v (im,us,st)).1)/\((fr=fr)/\((tt=tt)/\((im=(fM d fr tt im us st p v).1)/\((us=((fM d fr tt im us st p v).2).1)/\(st=((fM d fr tt im us st p v).2).2)))))) ((ac p im.length)/\((ac v us.length)/\((am (st.length+[p].length))/\((∃x0:Nat×D1×List Bool×D1,(((MW im.length (x0.2.1,x0.2.2.1,x0.2.2.2))/\((cq x0.2.1+(1:Nat)<d+(1:Nat))/\(dQ (aH fr tt (d+(1:Nat)-(1:Nat))) fr tt p v (im.length+(1:Nat)-x0.1) x0.1 (x0.2.1,x0.2.2.1,x0.2.2.2)=aH fr tt (d+(1:Nat)) p v (im,us,st))))/\((p=p)/\((v=v)/\(((0:Int)=(↑x0.1:Int))/\((fr=fr)/\((tt=tt)/\((List.set im p.toNat v=x0.2.1)/\((List.set us v.toNat true=x0.2.2.1)/\(st++[p]=x0.2.2.2))))))))))/\(∀x1:Nat×D1×List Bool×D1,(((MW im.length (x1.2.1,x1.2.2.1,x1.2.2.2))/\((cq x1.2.1+(1:Nat)<d+(1:Nat))/\(dQ (aH fr tt (d+(1:Nat)-(1:Nat))) fr tt p v (im.length+(1:Nat)-x1.1) x1.1 (x1.2.1,x1.2.2.1,x1.2.2.2)=aH fr tt (d+(1:Nat)) p v (im,us,st)))) ->
 (ab (decide ((↑x1.1:Int)<(↑(x1.2.2.2.length):Int))) ((ac (↑x1.1:Int) x1.2.2.2.length)/\((∃x2:Nat×D1×List Bool×D1,(((x2.1<=fr.length)/\((MX im.length (x1.2.1,x1.2.2.1,x1.2.2.2) (x2.2.1,x2.2.2.1,x2.2.2.2))/\(bV (aH fr tt (d+(1:Nat)-(1:Nat))) p v (x1.2.2.2.getD x1.1 (0:Int)) (List.drop x2.1 fr) (List.drop x2.1 tt) (x2.2.1,x2.2.2.1,x2.2.2.2)=bV (aH fr tt (d+(1:Nat)-(1:Nat))) p v (x1.2.2.2.getD x1.1 (0:Int)) fr tt (x1.2.1,x1.2.2.1,x1.2.2.2))))/\((p=p)/\((v=v)/\(((↑x1.1:Int)=(↑x1.1:Int))/\((x1.2.2.2.getD (↑x1.1:Int).toNat (0:Int)=x1.2.2.2.getD x1.1 (0:Int))/\((fr=fr)/\(((↑(fr.length):Int)=(↑(fr.length):Int))/\(((0:Int)=(↑x2.1:Int))/\((fr=fr)/\((tt=tt)/\((x1.2.1=x2.2.1)/\((x1.2.2.1=x2.2.2.1)/\(x1.2.2.2=x2.2.2.2))))))))))))))/\(∀x3:Nat×D1×List Bool×D1,(((x3.1<=fr.length)/\((MX im.length (x1.2.1,x1.2.2.1,x1.2.2.2) (x3.2.1,x3.2.2.1,x3.2.2.2))/\(bV (aH fr tt (d+(1:Nat)-(1:Nat))) p v (x1.2.2.2.getD x1.1 (0:Int)) (List.drop x3.1 fr) (List.drop x3.1 tt) (x3.2.1,x3.2.2.1,x3.2.2.2)=bV (aH fr tt (d+(1:Nat)-(1:Nat))) p v (x1.2.2.2.getD x1.1 (0:Int)) fr tt (x1.2.1,x1.2.2.1,x1.2.2.2))))->(ab (decide ((↑x3.1:Int)<(↑(fr.length):Int))) ((ac (↑x3.1:Int) fr.length)/\((ac p ((fr.getD (↑x3.1:Int).toNat ([]:D2)).length))/\((ac (x1.2.2.2.getD x1.1 (0:Int)) (((List.getD fr (↑x3.1:Int).toNat ([]:D2)).getD p.toNat []).length)) /\
 ((ac (↑x3.1:Int) tt.length)/\((ac v ((tt.getD (↑x3.1:Int).toNat ([]:D2)).length))/\((ac (x1.2.2.2.getD x1.1 (0:Int)) x3.2.1.length)/\((ac (x3.2.1.getD ((x1.2.2.2.getD x1.1 (0:Int)).toNat) (0:Int)) (((List.getD tt (↑x3.1:Int).toNat ([]:D2)).getD v.toNat []).length))/\(((pK x3.2.1.length fr tt (x3.2.1,x3.2.2.1,x3.2.2.2))/\((cq x3.2.1<d)/\(((0:Int)<=(List.getD (List.getD fr (↑x3.1:Int).toNat ([]:D2)) p.toNat []).getD ((x1.2.2.2.getD x1.1 (0:Int)).toNat) (0:Int))/\(((List.getD (List.getD fr (↑x3.1:Int).toNat ([]:D2)) p.toNat []).getD ((x1.2.2.2.getD x1.1 (0:Int)).toNat) (0:Int)<(↑(x3.2.1.length):Int))/\(((0:Int)<=(List.getD (List.getD tt (↑x3.1:Int).toNat ([]:D2)) v.toNat []).getD ((x3.2.1.getD ((x1.2.2.2.getD x1.1 (0:Int)).toNat) (0:Int)).toNat) (0:Int))/\((List.getD (List.getD tt (↑x3.1:Int).toNat ([]:D2)) v.toNat []).getD ((x3.2.1.getD ((x1.2.2.2.getD x1.1 (0:Int)).toNat) (0:Int)).toNat) (0:Int)<(↑(x3.2.1.length):Int)))))))/\(ab (!(aH fr tt d ((List.getD (List.getD fr (↑x3.1:Int).toNat ([]:D2)) p.toNat []).getD ((x1.2.2.2.getD x1.1 (0:Int)).toNat) (0:Int)) ((List.getD (List.getD tt (↑x3.1:Int).toNat ([]:D2)) v.toNat []).getD ((x3.2.1.getD ((x1.2.2.2.getD x1.1 (0:Int)).toNat) (0:Int)).toNat) (0:Int)) (x3.2.1,x3.2.2.1,x3.2.2.2)).1) ((false=(aH fr tt (d+(1:Nat)) p v (im,us,st)).1)/\((fr=fr)/\((tt=tt) /\
 (((fw d fr tt p v x3 x1).1=(fM d fr tt im us st p v).1)/\((((fw d fr tt p v x3 x1).2).1=((fM d fr tt im us st p v).2).1)/\(((fw d fr tt p v x3 x1).2).2=((fM d fr tt im us st p v).2).2)))))) ((ac (x1.2.2.2.getD x1.1 (0:Int)) ((fr.getD (↑x3.1:Int).toNat ([]:D2)).length))/\((ac p (((List.getD fr (↑x3.1:Int).toNat ([]:D2)).getD ((x1.2.2.2.getD x1.1 (0:Int)).toNat) []).length))/\((ac (↑x3.1:Int) tt.length)/\((ac (x1.2.2.2.getD x1.1 (0:Int)) (((fw d fr tt p v x3 x1).1).length))/\((ac (((fw d fr tt p v x3 x1).1).getD ((x1.2.2.2.getD x1.1 (0:Int)).toNat) (0:Int)) ((tt.getD (↑x3.1:Int).toNat ([]:D2)).length))/\((ac v (pL d fr tt p v x3 x1).length)/\(((pK (((fw d fr tt p v x3 x1).1).length) fr tt ((fw d fr tt p v x3 x1).1,((fw d fr tt p v x3 x1).2).1,((fw d fr tt p v x3 x1).2).2))/\((cq (fw d fr tt p v x3 x1).1<d)/\(((0:Int)<=(List.getD (List.getD fr (↑x3.1:Int).toNat ([]:D2)) ((List.getD x1.2.2.2 x1.1 (0:Int)).toNat) []).getD p.toNat (0:Int))/\(((List.getD (List.getD fr (↑x3.1:Int).toNat ([]:D2)) ((List.getD x1.2.2.2 x1.1 (0:Int)).toNat) []).getD p.toNat (0:Int)<(↑(((fw d fr tt p v x3 x1).1).length):Int))/\(((0:Int)<=(pL d fr tt p v x3 x1).getD v.toNat (0:Int)) /\
 ((pL d fr tt p v x3 x1).getD v.toNat (0:Int)<(↑(((fw d fr tt p v x3 x1).1).length):Int))))))) /\
 (ab (!(aH fr tt d ((List.getD (List.getD fr (↑x3.1:Int).toNat ([]:D2)) ((List.getD x1.2.2.2 x1.1 (0:Int)).toNat) []).getD p.toNat (0:Int)) ((List.getD (List.getD tt (↑x3.1:Int).toNat ([]:D2)) ((List.getD (((aH fr tt d (List.getD (List.getD (List.getD fr (↑x3.1:Int).toNat ([]:D2)) p.toNat []) ((List.getD x1.2.2.2 x1.1 (0:Int)).toNat) (0:Int)) (List.getD (List.getD (List.getD tt (↑x3.1:Int).toNat ([]:D2)) v.toNat []) ((List.getD x3.2.1 ((List.getD x1.2.2.2 x1.1 (0:Int)).toNat) (0:Int)).toNat) (0:Int)) (x3.2.1,x3.2.2.1,x3.2.2.2)).2).1) ((List.getD x1.2.2.2 x1.1 (0:Int)).toNat) (0:Int)).toNat) []).getD v.toNat (0:Int)) (((aH fr tt d ((List.getD (List.getD fr (↑x3.1:Int).toNat ([]:D2)) p.toNat []).getD ((x1.2.2.2.getD x1.1 (0:Int)).toNat) (0:Int)) ((List.getD (List.getD tt (↑x3.1:Int).toNat ([]:D2)) v.toNat []).getD ((x3.2.1.getD ((x1.2.2.2.getD x1.1 (0:Int)).toNat) (0:Int)).toNat) (0:Int)) (x3.2.1,x3.2.2.1,x3.2.2.2)).2).1,(((aH fr tt d ((List.getD (List.getD fr (↑x3.1:Int).toNat ([]:D2)) p.toNat []).getD ((x1.2.2.2.getD x1.1 (0:Int)).toNat) (0:Int)) ((List.getD (List.getD tt (↑x3.1:Int).toNat ([]:D2)) v.toNat []).getD ((x3.2.1.getD ((x1.2.2.2.getD x1.1 (0:Int)).toNat) (0:Int)).toNat) (0:Int)) (x3.2.1,x3.2.2.1,x3.2.2.2)).2).2).1,(((aH fr tt d ((List.getD (List.getD fr (↑x3.1:Int).toNat ([]:D2)) p.toNat []).getD ((x1.2.2.2.getD x1.1 (0:Int)).toNat) (0:Int)) ((List.getD (List.getD tt (↑x3.1:Int).toNat ([]:D2)) v.toNat []).getD ((x3.2.1.getD ((x1.2.2.2.getD x1.1 (0:Int)).toNat) (0:Int)).toNat) (0:Int)) (x3.2.1,x3.2.2.1,x3.2.2.2)).2).2).2)).1)
 ((false=(aH fr tt (d+(1:Nat)) p v (im,us,st)).1)/\((fr=fr)/\((tt=tt)/\(((mo d fr tt p v x3 x1).1=(fM d fr tt im us st p v).1)/\((((mo d fr tt p v x3 x1).2).1=((fM d fr tt im us st p v).2).1)/\(((mo d fr tt p v x3 x1).2).2=((fM d fr tt im us st p v).2).2)))))) ((af ((↑x3.1:Int)+(1:Int)))/\(∃x4:Nat×D1×List Bool×D1,(((x4.1<=fr.length)/\((MX im.length (x1.2.1,x1.2.2.1,x1.2.2.2) (x4.2.1,x4.2.2.1,x4.2.2.2))/\(bV (aH fr tt (d+(1:Nat)-(1:Nat))) p v (x1.2.2.2.getD x1.1 (0:Int)) (List.drop x4.1 fr) (List.drop x4.1 tt) (x4.2.1,x4.2.2.1,x4.2.2.2)=bV (aH fr tt (d+(1:Nat)-(1:Nat))) p v (x1.2.2.2.getD x1.1 (0:Int)) fr tt (x1.2.1,x1.2.2.1,x1.2.2.2))))/\((fr.length-x4.1<fr.length-x3.1)/\((p=p)/\((v=v)/\(((↑x1.1:Int)=(↑x1.1:Int))/\((x1.2.2.2.getD x1.1 (0:Int)=x1.2.2.2.getD x1.1 (0:Int))/\((fr=fr)/\(((↑(fr.length):Int)=(↑(fr.length):Int))/\(((↑x3.1:Int)+(1:Int)=(↑x4.1:Int))/\((fr=fr)/\((tt=tt)/\(((mo d fr tt p v x3 x1).1=x4.2.1)/\((((mo d fr tt p v x3 x1).2).1=x4.2.2.1)/\(((mo d fr tt p v x3 x1).2).2=x4.2.2.2))))))))))))))))))))))))))))))))) ((af ((↑x1.1:Int)+(1:Int)))/\(∃x5:Nat×D1×List Bool×D1,(((MW im.length (x5.2.1,x5.2.2.1,x5.2.2.2))/\((cq x5.2.1+(1:Nat)<d+(1:Nat)) /\
 (dQ (aH fr tt (d+(1:Nat)-(1:Nat))) fr tt p v (im.length+(1:Nat)-x5.1) x5.1 (x5.2.1,x5.2.2.1,x5.2.2.2)=aH fr tt (d+(1:Nat)) p v (im,us,st))))/\((im.length+(1:Nat)-x5.1<im.length+(1:Nat)-x1.1)/\((p=p)/\((v=v)/\(((↑x1.1:Int)+(1:Int)=(↑x5.1:Int))/\((fr=fr)/\((tt=tt)/\((x3.2.1=x5.2.1)/\((x3.2.2.1=x5.2.2.1)/\(x3.2.2.2=x5.2.2.2))))))))))))))))) ((true=(aH fr tt (d+(1:Nat)) p v (im,us,st)).1)/\((fr=fr)/\((tt=tt)/\((x1.2.1=(fM d fr tt im us st p v).1)/\((x1.2.2.1=((fM d fr tt im us st p v).2).1)/\(x1.2.2.2=((fM d fr tt im us st p v).2).2)))))))))))))))))
theorem UH(d:Nat)(fr:D3)(tt:D3)(im:D1)(us:List Bool)(st:D1)(p:Int)(v:Int):kN Tryz.prog (ah (LC d)) aj (LB (d+1) fr tt im us st p v) Tryz.f180 (aF Tryz.f180) [.box [.c (.r3 .i64 fr),.c (.r3 .i64 tt),.ob (.ints 2 .i64 im),.ob (.bools 4 us),.ob (.ints 2 .i64 st)],.m (.c (.int .i64 p)),.m (.c (.int .i64 v))] (Ly (d+1) fr tt im us st p v) (gD 0 (Lz (d+1) fr tt im us st p v)++g4 (LA (d+1) fr tt im us st p v))=zV d fr tt im us st p v:=by kernel_rfl
theorem UI(d:Nat)(fr:D3)(tt:D3)(im:D1)(us:List Bool)(st:D1)(p:Int)(v:Int)(ξ:(nY (d+1) fr tt im us st p v).pre):zV d fr tt im us st p v:=by
 simp only[nY,zV,LD,fw,pL,mo,fM,aJ]at ξ⊢;obtain⟨⟨hn,hlen,hf100,hfr,htt,hw⟩,hfd,hp0,hpn,hv0,hvn⟩:=ξ;have hus:us.length=im.length:=hw.us
 refine⟨⟨hp0,hpn⟩,fun h0=>⟨⟨hp0,hpn⟩,?_⟩,fun h0=>⟨⟨hv0,by omega⟩,fun h1=>?_,fun h1=>⟨⟨hp0,hpn⟩,⟨hv0,by omega⟩,?_,?_,?_⟩⟩⟩
 ·have e:aH fr tt (d+1) p v (im,us,st)=(decide (gi im p=v),im,us,st):=by rw[aH];exact AA h0
  rw[e];exact⟨rfl,rfl,rfl,rfl⟩
 ·have e:aH fr tt (d+1) p v (im,us,st)=(false,im,us,st):=by rw[aH];exact(AB h0).trans (AA h1)
  rw[e];exact⟨rfl,rfl,rfl,rfl⟩
 ·have:=hw.cnt;simp only at this;omega
 ·have e:aH fr tt (d+1) p v (im,us,st)=dQ (aH fr tt d) fr tt p v (im.length+1) 0 (im.set p.toNat v,us.set v.toNat true,st++[p]):=by
   rw[aH];exact(AB h0).trans (AB (by simp only;rw[h1];simp))
  have hput:=hw.put hp0 hpn hv0 hvn (by simp only[gi];omega) h1
  have hfs:=uh (l:=im) (i:=p.toNat) (v:=v) (by omega) (by omega) hv0
  exact⟨(0,im.set p.toNat v,us.set v.toNat true,st++[p]),⟨hput.wf,by simp only;omega,e.symm⟩,rfl,rfl,rfl,rfl⟩
 ·rintro⟨i,a,b,c⟩ ⟨hmw,hfa,hI⟩
  simp only[DP]at hmw hfa hI⊢;have hA:=mF hfr htt d
  have hcn:=hmw.cnt
  simp only at hcn;refine⟨fun hi=>?_,?_⟩
  ·have hi':i<c.length:=by omega
   have hE:im.length+1-i=(im.length-i)+1:=by omega
   rw[hE]at hI;have hmem:c.getD i 0∈c:=by rw[List.getD,AF hi'];exact A7 hi'
   obtain⟨hy0,hyn,hyg⟩:=hmw.st _ hmem;refine⟨⟨by omega,hi⟩,⟨(0,a,b,c),⟨AQ _,.refl hmw,rfl⟩,rfl,rfl,rfl,rfl⟩,?_⟩
   generalize hyd:c.getD i 0=y at *
   have eF:(bV (aH fr tt d) p v y fr tt (a,b,c)).1=false->aH fr tt (d+1) p v (im,us,st)=bV (aH fr tt d) p v y fr tt (a,b,c):=fun h=>by
    have:=Nk (A:=aH fr tt d) (fr:=fr) (tt:=tt) (x:=p) (v:=v) (e:=im.length-i) (i:=i) (s:=(a,b,c)) hi' (by simp only[hyd];exact h)
    simp only[hyd]at this;exact hI.symm.trans this
   have eT:(bV (aH fr tt d) p v y fr tt (a,b,c)).1=true->aH fr tt (d+1) p v (im,us,st)=dQ (aH fr tt d) fr tt p v (im.length-i) (i+1) (bV (aH fr tt d) p v y fr tt (a,b,c)).2:=fun h=>by
    have:=EZ (A:=aH fr tt d) (fr:=fr) (tt:=tt) (x:=p) (v:=v) (e:=im.length-i) (i:=i) (s:=(a,b,c)) hi' (by simp only[hyd];exact h)
    simp only[hyd]at this;exact hI.symm.trans this
   rintro⟨k,a2,b2,c2⟩ ⟨hk,hx,hK⟩
   simp only at hk hx hK⊢;have hlen2:a2.length=im.length:=hx.wf.im
   have hy2:gi a2 y=gi a y:=hx.keep y hy0 hyn hyg
   have hy2g:0<=gi a2 y:=by rw[hy2];exact hyg
   have hy2n:gi a2 y<(im.length:Int):=hx.wf.rg y hy0 hyn
   have hfa2:cq a2<=cq a:=hx.fre
   refine⟨fun hk1=>?_,fun hk1=>?_⟩
   ·have hkl:k<fr.length:=by omega
    have hkt:k<tt.length:=by omega
    have hdf:fr.drop k=fr.getD k []::fr.drop (k+1):=by rw[Cm hkl,List.getD,AF hkl];rfl
    have hdt:tt.drop k=tt.getD k []::tt.drop (k+1):=by rw[Cm hkt,List.getD,AF hkt];rfl
    have t1:=hfr (fr.getD k []) (by rw[List.getD,AF hkl];exact A7 hkl)
    have u1:=htt (tt.getD k []) (by rw[List.getD,AF hkt];exact A7 hkt)
    rw[hdf,hdt]at hK;generalize fr.getD k []=t at *
    generalize tt.getD k []=u at *
    obtain⟨bN,g11⟩:=(t1.2 p y hp0 hpn).2 hy0 hyn;obtain⟨g20,g21⟩:=(u1.2 v _ hv0 hvn).2 hy2g hy2n;obtain⟨g30,g31⟩:=(t1.2 y p hy0 hyn).2 hp0 hpn;have hr:=hA (g2 t p y) (g2 u v (gi a2 y)) (a2,b2,c2) bN g11 g20 g21 hx.wf
    refine⟨⟨by omega,hk1⟩,⟨hp0,by omega⟩,⟨hy0,by rw[(t1.2 p 0 hp0 hpn).1];exact hyn⟩,⟨by omega,by omega⟩,⟨hv0,by omega⟩,⟨hy0,by omega⟩,⟨hy2g,by rw[(u1.2 v 0 hv0 hvn).1];exact hy2n⟩,⟨by rw[hlen2];exact⟨hn,hlen,hf100,hfr,htt,hx.wf⟩,by omega,bN,by rw[hlen2];exact g11,g20,by rw[hlen2];exact g21⟩,fun hq=>?_,fun hq=>?_⟩
    ·have e:=Ni (v:=v) (x:=p) (y:=y) (fr:=fr.drop (k+1)) (tt:=tt.drop (k+1)) hq
     rw[e]at hK;have e2:=eF (by rw[<-hK];exact hq)
     rw[e2,<-hK];exact⟨hq.symm,rfl,rfl,rfl⟩
    ·have hw1:=hr.wf
     have hy3:0<=gi (aH fr tt d (g2 t p y) (g2 u v (gi a2 y)) (a2,b2,c2)).2.1 y:=by rw[hr.keep y hy0 hyn hy2g];exact hy2g
     have hy3n:=hw1.rg y hy0 hyn
     have hl3:(aH fr tt d (g2 t p y) (g2 u v (gi a2 y)) (a2,b2,c2)).2.1.length=im.length:=hw1.im
     have hf3:cq (aH fr tt d (g2 t p y) (g2 u v (gi a2 y)) (a2,b2,c2)).2.1<=cq a2:=hr.fre
     have eTF:=Nj (v:=v) (x:=p) (y:=y) (fr:=fr.drop (k+1)) (tt:=tt.drop (k+1)) hq
     have eTT:=EY (v:=v) (x:=p) (y:=y) (fr:=fr.drop (k+1)) (tt:=tt.drop (k+1)) hq
     have h3:(aH fr tt d ((t.getD p.toNat []).getD y.toNat 0) ((u.getD v.toNat []).getD (a2.getD y.toNat 0).toNat 0) (a2,b2,c2))=aH fr tt d (g2 t p y) (g2 u v (gi a2 y)) (a2,b2,c2):=rfl
     rw[h3]at⊢;have hx13:MX im.length (a,b,c) (aH fr tt d (g2 t p y) (g2 u v (gi a2 y)) (a2,b2,c2)).2:=hx.trans hr
     have e30:aH fr tt d (g2 t p y) (g2 u v (gi (a2,b2,c2).1 y)) (a2,b2,c2)=aH fr tt d (g2 t p y) (g2 u v (gi a2 y)) (a2,b2,c2):=rfl
     rw[e30]at eTF eTT;generalize aH fr tt d (g2 t p y) (g2 u v (gi a2 y)) (a2,b2,c2)=r at *
     obtain⟨rb,a3,b3,c3⟩:=r;simp only at hw1 hy3 hy3n hl3 hf3 eTF eTT hx13⊢;obtain⟨g40,g41⟩:=(u1.2 _ v hy3 hy3n).2 hv0 hvn;have hr4:=hA (g2 t y p) (g2 u (gi a3 y) v) (a3,b3,c3) g30 g31 g40 g41 hw1
     refine⟨⟨hy0,by omega⟩,⟨hp0,by rw[(t1.2 y 0 hy0 hyn).1];exact hpn⟩,⟨by omega,by omega⟩,⟨hy0,by omega⟩,⟨hy3,by rw[u1.1];exact hy3n⟩,⟨hv0,?_⟩,⟨by rw[hl3];exact⟨hn,hlen,hf100,hfr,htt,hw1⟩,by omega,g30,by rw[hl3];exact g31,g40,by rw[hl3];exact g41⟩,fun hq2=>?_,fun hq2=>?_⟩
     ·have:=(u1.2 (gi a3 y) 0 hy3 hy3n).1
      show v<((u.getD (gi a3 y).toNat []).length:Int)
      rw[this];exact hvn
     ·rw[eTF hq2]at hK
      have e2:=eF (by rw[<-hK];exact hq2)
      rw[e2,<-hK];exact⟨hq2.symm,rfl,rfl,rfl⟩
     ·rw[eTT hq2]at hK
      refine⟨⟨by omega,by omega⟩,?_⟩
      exact⟨(k+1,(aH fr tt d (g2 t y p) (g2 u (gi a3 y) v) (a3,b3,c3)).2),⟨by simp only;omega,hx13.trans hr4,hK⟩,by simp only;omega,by simp only;omega,rfl,rfl,rfl⟩
   ·have hkf:k=fr.length:=by omega
    rw[hkf,DU,hlen,DU]at hK;have hK2:(true,((a2,b2,c2):MS))=bV (aH fr tt d) p v y fr tt (a,b,c):=hK
    have e2:=eT (by rw[<-hK2])
    rw[<-hK2]at e2;refine⟨⟨by omega,by omega⟩,(i+1,a2,b2,c2),⟨hx.wf,by simp only;omega,?_⟩,by simp only;omega,by simp only;omega,rfl,rfl,rfl⟩
    rw[e2]
    show dQ _ fr tt p v (im.length+1-(i+1)) _ _=_
    rw[show im.length+1-(i+1)=im.length-i by omega]
  ·intro hi
   have e2:aH fr tt (d+1) p v (im,us,st)=(true,a,b,c):=by
    rw[<-hI];cases im.length+1-i with
    |zero=>rfl
    |succ e=>rw[dQ];exact AB (by simp only;omega)
   rw[e2];exact⟨rfl,rfl,rfl,rfl⟩
theorem UJ(fr:D3)(tt:D3)(im:D1)(us:List Bool)(st:D1)(p:Int)(v:Int)(h:(nY 0 fr tt im us st p v).pre):False:=by
 simp only[nY]at h;omega
theorem UK(d:Nat):Fits Tryz.prog 180 ⟨[(0,93),(0,93)],nZ d⟩:=by
 induction d with
 |zero =>
  refine Iq ⟨Tryz.f180,Tryz.func180,by kernel_rfl,by kernel_rfl⟩ fun ds p h hp=>?_
  unfold nZ at h;split at h
  ·cases h
   exact UJ _ _ _ _ _ _ _  hp
  ·cases h
 |succ d ih =>
  refine nA (Γ:=ah (LC d)) (aw ih aI) Tryz.func180 (by kernel_rfl) (by kernel_rfl) (fun ads p h=>?_) fun mas q sv ex outs h hq=>?_
  ·unfold nZ at h
   split at h
   ·cases h;rfl
   ·cases h
  ·unfold nZ at h
   split at h
   ·rename_i heq
    have heq:=lY (l:=[_,_,_]) heq
    subst heq;unfold nY at h;cases h;exact⟨aj,LB _ _ _ _ _ _ _ _ ,by rw[UH];exact UI _ _ _ _ _ _ _ _  hq⟩
   ·cases h
def tw:List AD->Option Post
 | [.c (.ints .i64 l),.c (.int .i64 x)]=>some ⟨l.length<=1099511627776,.c (.int .i64 (aY x l 0)),[]⟩
 |_=>none
def LE(l:D1)(x:Int):Nat->Option Ann
 |0=>Q' fun i=>⟨⟨[(0,D' l),(1,A' x),(6,D' l),(7,A' l.length),(8,A' i)],[]⟩,i<=l.length/\aY x l 0=aY x (l.drop i) (i:Int),l.length-i⟩
 |_=>none
theorem LG:Fits Tryz.prog 179 ⟨[],tw⟩:=by
 refine ffv (Γ:=ah []) aI Tryz.func179 fun ds p h ξ=>?_
 unfold tw at h;split at h<;>cases h
 rename_i l x
 refine⟨aj,LE l x,(∃x0:Nat,(x0<=l.length/\aY x l (0:Int)=aY x (List.drop x0 l) (x0:Int))/\l=l/\x=x/\l=l/\(l.length:Int)=(l.length:Int)/\(0:Int)=(x0:Int))/\∀x1:Nat,x1<=l.length/\aY x l (0:Int)=aY x (List.drop x1 l) (x1:Int)->ab (decide ((x1:Int)<(l.length:Int))) (ac (x1:Int) l.length/\ab (x == l.getD (x1:Int).toNat (0:Int)) ((x1:Int)=aY x l (0:Int)/\True) (af ((x1:Int)+(1:Int))/\∃x2:Nat,(x2<=l.length/\aY x l (0:Int)=aY x (List.drop x2 l) (x2:Int))/\l.length-x2<l.length-x1/\l=l/\x=x/\l=l/\(l.length:Int)=(l.length:Int)/\(x1:Int)+(1:Int)=(x2:Int))) ((-1:Int)=aY x l (0:Int)/\True),by kernel_rfl,?_⟩
 simp only[aJ]at ξ⊢;refine⟨⟨0,⟨by omega,rfl⟩,rfl⟩,fun i ⟨hi,he⟩=>⟨fun h=>?_,fun h=>?_⟩⟩
 ·rw[drop_cons' l 0 i (by omega)]at he
  simp only[aY]at he;refine⟨by omega,fun h2=>?_,fun h2=>⟨by omega,i+1,⟨by omega,?_⟩,by omega,by omega⟩⟩
  ·rw[he,AA h2.symm]
  ·rw[he,AB fun e=>h2 e.symm];simp
 ·rw[he,BF (by omega)];rfl
def zX:List AD->Option Post
 | [.c (.ints .i64 l),.c (.int .i64 x)]=>some ⟨l.length<=1099511627776,.c (.int .i64 (aY x l 0)),[]⟩
 |_=>none
theorem UP:Fits Tryz.prog 158 ⟨[],zX⟩:=by
 refine ffv (Γ:=ah [(179,⟨[],tw⟩)]) (aw LG aI) Tryz.func158 fun ds p h ξ=>?_
 unfold zX at h;split at h<;>cases h
 rename_i l x
 refine⟨aj,ar,(l.length<=(1099511627776:Nat)/\True)/\aY x l (0:Int)=aY x l (0:Int)/\True,by kernel_rfl,?_⟩
 simp only[aJ]at ξ⊢;exact ξ
def zZ:List AD->Option Post
 | [.c (.rows .i64 t)]=>some ⟨cj t=true,.c (.ints 2 .i64 (cC t)),[]⟩
 |_=>none
def LI(t:D2):Nat->Option Ann
 |0=>Q' fun i=>⟨⟨[(0,G' t),(3,J' 8),(9,G' t),(10,A' t.length),(11,A' i)],[(8,O' (((cC t).take i++List.replicate ((cC t).length-i) 0)))]⟩,i<=t.length,t.length-i⟩
 |_=>none
theorem US:Fits Tryz.prog 114 ⟨[],zZ⟩:=by
 refine ffv (Γ:=ah [(158,⟨[],zX⟩)]) (aw UP aI) Tryz.func114 fun ds p h ξ=>?_
 unfold zZ at h;split at h<;>cases h
 rename_i t
 refine⟨aj,LI t,((0:Int)<=(t.length:Int)/\(t.length:Int)<=(t.length:Int)/\am ((t.length:Int).toNat))/\(∃x0:Nat,x0<=t.length/\t=t/\t=t/\(t.length:Int)=(t.length:Int)/\(0:Int)=(x0:Int)/\List.replicate ((t.length:Int).toNat) (0:Int)=List.take x0 (cC t)++List.replicate ((cC t).length-x0) (0:Int))/\∀x1:Nat,x1<=t.length->ab (decide ((x1:Int)<(t.length:Int))) (ac (x1:Int) t.length/\((t.getD (x1:Int).toNat []).length<=(1099511627776:Nat)/\True)/\ac (x1:Int) ((List.take x1 (cC t)++List.replicate ((cC t).length-x1) (0:Int)).length)/\af ((x1:Int)+(1:Int))/\∃x2:Nat,x2<=t.length/\t.length-x2<t.length-x1/\t=t/\t=t/\(t.length:Int)=(t.length:Int)/\(x1:Int)+(1:Int)=(x2:Int)/\List.set (List.take x1 (cC t)++List.replicate ((cC t).length-x1) (0:Int)) (x1:Int).toNat (aY (0:Int) (t.getD (x1:Int).toNat []) (0:Int))=List.take x2 (cC t)++List.replicate ((cC t).length-x2) (0:Int)) (List.take x1 (cC t)++List.replicate ((cC t).length-x1) (0:Int)=cC t/\True),by kernel_rfl,?_⟩
 simp only[aJ]at ξ⊢;obtain⟨n1,n2,ht⟩:=iN ξ;have hl:=Lw t
 rw[hl];refine⟨by omega,⟨0,by omega,rfl,by simp⟩,fun i hi=>⟨fun h=>?_,fun h=>?_⟩⟩
 ·have r:=ht i (by omega)
  have e:=Lx t i (by omega)
  refine⟨by omega,by omega,by omega,by omega,i+1,by omega,by omega,by omega,?_⟩
  have:=wU (cC t) 0 0 i (by omega)
  rw[hl,e]at this;exact this
 ·rw[AU (by omega),show t.length-i=0 by omega];simp
def tB(t:D2):Post:=⟨aS t,.c (.bool (aC t)),[]⟩
def tC:List AD->Option Post
 | [.c (.rows .i64 t)]=>some (tB t)
 |_=>none
def LK(t:D2):Nat->Option Ann
 |0=>T' (fun i=>⟨⟨[(0,G' t),(15,A' t.length),(16,A' i)],[]⟩,i<=t.length/\cj t=true/\aC t=(List.range' i (t.length-i)).all (fZ t),t.length-i⟩) (fun i b_=>match b_ with|2=>T' (fun j=>⟨⟨[(0,G' t),(15,A' t.length),(16,A' i),(3,A' i),(38,A' t.length),(39,A' j)],[]⟩,j<=t.length/\i<t.length/\aC t=((List.range' j (t.length-j)).all (gR t i)&&(List.range' (i+1) (t.length-(i+1))).all (fZ t)),t.length-j⟩) (fun j b_=>match b_ with|4=>Q' fun k=>⟨⟨[(0,G' t),(15,A' t.length),(16,A' i),(3,A' i),(38,A' t.length),(39,A' j),(4,A' j),(43,A' t.length),(44,A' k)],[]⟩,k<=t.length/\j<t.length/\aC t=((List.range' k (t.length-k)).all (iR t i j)&&((List.range' (j+1) (t.length-(j+1))).all (gR t i)&&(List.range' (i+1) (t.length-(i+1))).all (fZ t))),t.length-k⟩|_=>none)|_=>none)
 |_=>none
def LL:List (Nat×Ctr):=[(145,⟨[],IF⟩),(146,⟨[],EC⟩)]
def tD(t:D2)(x0:Nat)(x1:Nat)(x2:Nat):=(List.all (List.range' x0 (t.length-x0)) (iR t x1 x2)&&(List.all (List.range' (x2+(1:Nat)) (t.length-(x2+(1:Nat)))) (gR t x1)&&List.all (List.range' (x1+(1:Nat)) (t.length-(x1+(1:Nat)))) (fZ t)))
def tE(t:D2)(x0:Nat)(x1:Nat):=(List.all (List.range' x0 (t.length-x0)) (gR t x1)&&List.all (List.range' (x1+(1:Nat)) (t.length-(x1+(1:Nat)))) (fZ t))
def z8(t:D2):Prop :=
 (((aS t)/\True)/\(ab (!cj t) ((false=aC t)/\True) (((aS t)/\True)/\(ab (!List.all t cP) ((false=aC t)/\True) ((∃x0:Nat,(((x0<=t.length)/\((cj t=true)/\(aC t=List.all (List.range' x0 (t.length-x0)) (fZ t))))/\((t=t)/\(((↑(t.length):Int)=(↑(t.length):Int))/\((0:Int)=(↑x0:Int))))))/\(∀x1:Nat,(((x1<=t.length)/\((cj t=true)/\(aC t=List.all (List.range' x1 (t.length-x1)) (fZ t))))->(ab (decide ((↑x1:Int)<(↑(t.length):Int))) ((ac (0:Int) t.length)/\((ac (↑x1:Int) ((t.getD (0:Nat) []).length))/\(ab ((List.getD t (0:Nat) []).getD (↑x1:Int).toNat (0:Int) != (↑x1:Int)) ((false=aC t)/\True) ((ac (↑x1:Int) t.length)/\((ac (0:Int) ((t.getD (↑x1:Int).toNat []).length))/\(ab ((List.getD t (↑x1:Int).toNat []).getD (0:Nat) (0:Int) != (↑x1:Int)) ((false=aC t)/\True) ((∃x2:Nat,(((x2<=t.length)/\((x1<t.length)/\(aC t=(tE t x2 x1))))/\((t=t)/\(((↑(t.length):Int)=(↑(t.length):Int))/\(((↑x1:Int)=(↑x1:Int))/\(((↑x1:Int)=(↑x1:Int))/\(((↑(t.length):Int)=(↑(t.length):Int))/\((0:Int)=(↑x2:Int)))))))))/\(∀x3:Nat,(((x3<=t.length)/\((x1<t.length)/\(aC t=(tE t x3 x1))))->(ab (decide ((↑x3:Int)<(↑(t.length):Int))) ((∃x4:Nat,(((x4<=t.length)/\((x3<t.length)/\(aC t=(tD t x4 x1 x3))))/\((t=t)/\(((↑(t.length):Int)=(↑(t.length):Int))/\(((↑x1:Int)=(↑x1:Int))/\(((↑x1:Int)=(↑x1:Int))/\(((↑(t.length):Int)=(↑(t.length):Int))/\(((↑x3:Int)=(↑x3:Int)) /\
 (((↑x3:Int)=(↑x3:Int))/\(((↑(t.length):Int)=(↑(t.length):Int))/\((0:Int)=(↑x4:Int))))))))))))/\(∀x5:Nat,(((x5<=t.length)/\((x3<t.length)/\(aC t=(tD t x5 x1 x3))))->(ab (decide ((↑x5:Int)<(↑(t.length):Int))) ((ac (↑x1:Int) t.length)/\((ac (↑x3:Int) ((t.getD (↑x1:Int).toNat []).length))/\((ac ((List.getD t (↑x1:Int).toNat []).getD (↑x3:Int).toNat (0:Int)) t.length)/\((ac (↑x5:Int) ((t.getD (((List.getD t (↑x1:Int).toNat []).getD (↑x3:Int).toNat (0:Int)).toNat) []).length))/\((ac (↑x1:Int) t.length)/\((ac (↑x3:Int) t.length)/\((ac (↑x5:Int) ((t.getD (↑x3:Int).toNat []).length))/\((ac ((List.getD t (↑x3:Int).toNat []).getD (↑x5:Int).toNat (0:Int)) ((t.getD (↑x1:Int).toNat []).length))/\(ab ((List.getD t ((List.getD (List.getD t (↑x1:Int).toNat []) (↑x3:Int).toNat (0:Int)).toNat) []).getD (↑x5:Int).toNat (0:Int) != (List.getD t (↑x1:Int).toNat []).getD (((List.getD t (↑x3:Int).toNat []).getD (↑x5:Int).toNat (0:Int)).toNat) (0:Int)) ((false=aC t)/\True) ((af ((↑x5:Int)+(1:Int)))/\(∃x6:Nat,(((x6<=t.length)/\((x3<t.length)/\(aC t=(tD t x6 x1 x3))))/\((t.length-x6<t.length-x5)/\((t=t)/\(((↑(t.length):Int)=(↑(t.length):Int))/\(((↑x1:Int)=(↑x1:Int))/\(((↑x1:Int)=(↑x1:Int))/\(((↑(t.length):Int)=(↑(t.length):Int))/\(((↑x3:Int)=(↑x3:Int))/\(((↑x3:Int)=(↑x3:Int))/\(((↑(t.length):Int)=(↑(t.length):Int))/\((↑x5:Int)+(1:Int)=(↑x6:Int)))))))))))))))))))))))
 ((af ((↑x3:Int)+(1:Int)))/\(∃x7:Nat,(((x7<=t.length)/\((x1<t.length)/\(aC t=(tE t x7 x1))))/\((t.length-x7<t.length-x3)/\((t=t)/\(((↑(t.length):Int)=(↑(t.length):Int))/\(((↑x1:Int)=(↑x1:Int))/\(((↑x1:Int)=(↑x1:Int))/\(((↑(t.length):Int)=(↑(t.length):Int))/\((↑x3:Int)+(1:Int)=(↑x7:Int))))))))))))))) ((af ((↑x1:Int)+(1:Int)))/\(∃x8:Nat,(((x8<=t.length)/\((cj t=true)/\(aC t=List.all (List.range' x8 (t.length-x8)) (fZ t))))/\((t.length-x8<t.length-x1)/\((t=t)/\(((↑(t.length):Int)=(↑(t.length):Int))/\((↑x1:Int)+(1:Int)=(↑x8:Int)))))))))))))))))) ((true=aC t)/\True)))))))))
theorem UT(t:D2):aM Tryz.prog (ah LL) aj (LK t) Tryz.f98 (aF Tryz.f98) [] [.c (.rows .i64 t)] (tB t)=z8 t:=by kernel_rfl
theorem UU(t:D2)(ξ:(tB t).pre):z8 t:=by
 simp only[tB,z8,tD,tE,aJ]at ξ⊢;refine⟨ξ,fun h=>by simp[aC,h],fun h1=>⟨ξ,fun h2=>by simp[aC,h2],fun h2=>⟨⟨0,⟨by omega,h1,by rw[aC,h1,h2,A9,A9,nV]⟩,rfl⟩,fun i ⟨hi,_,he⟩=>?_⟩⟩⟩
 obtain⟨n1,n2,ht⟩:=iN h1;refine⟨fun h3=>?_,fun h3=>by rw[he,nU _ (by omega)]⟩
 ·have r0:=ht 0 (by omega)
  have ri:=ht i (by omega)
  rw[nS _ (by omega)]at he
  refine⟨by omega,by omega,fun h4=>?_,fun h4=>⟨by omega,by omega,fun h5=>?_,fun h5=>⟨⟨0,⟨by omega,by omega,?_⟩,rfl⟩,fun j ⟨hj,_,hy⟩=>⟨fun h6=>⟨⟨0,⟨by omega,by omega,?_⟩,rfl⟩,fun k ⟨hk,_,hz⟩=>⟨fun h7=>?_,fun h7=>?_⟩⟩,fun h6=>?_⟩⟩⟩⟩
  ·rw[he,fZ,iS,show decide (en t 0 i=(i:Int))=false from Ae h4];rfl
  ·rw[he,fZ,iS,show decide (en t i 0=(i:Int))=false from Ae h5];simp
  ·rw[he,fZ,iS,show decide (en t 0 i=(i:Int))=true from Aa h4,show decide (en t i 0=(i:Int))=true from Aa h5,nW,nV];rfl
  ·rw[hy,nS _ (by omega),gR,nV,Bool.and_assoc]
  ·have rj:=ht j (by omega)
   have a:=ri.2 j (by omega)
   have b:=rj.2 k (by omega)
   have rr:=ht ((t.getD i []).getD j 0).toNat (by omega)
   rw[nS _ (by omega)]at hz
   refine⟨by omega,by omega,by omega,by omega,by omega,by omega,by omega,by omega,fun h8=>?_,fun h8=>⟨by omega,k+1,⟨by omega,by omega,?_⟩,by omega,by omega⟩⟩
   ·rw[hz,show iR t i j k=false from Ae h8];rfl
   ·rw[hz,show iR t i j k=true from Aa h8];rfl
  ·refine⟨by omega,j+1,⟨by omega,by omega,?_⟩,by omega,by omega⟩
   rw[hz,nU _ (by omega),A9]
  ·refine⟨by omega,i+1,⟨by omega,h1,?_⟩,by omega,by omega⟩
   rw[hy,nU _ (by omega),A9]
theorem LM:Fits Tryz.prog 98 ⟨[],tC⟩:=by
 refine aU (Γ:=ah LL) (aw ag1 (aw VM aI)) Tryz.func98 fun ds p h hp=>?_
 unfold tC at h;split at h
 ·cases h
  exact⟨aj,LK _ ,by rw[UT];exact UU _  hp⟩
 ·cases h
def tF(t:D2):Post:=⟨aS t,.c (.bool (aC t)),[]⟩
def D6:List AD->Option Post
 | [.c (.rows .i64 t)]=>some (tF t)
 |_=>none
def LN(t:D2):Nat->Option Ann
 |0=>T' (fun i=>⟨⟨[(0,G' t),(3,A' i)],[]⟩,i<=t.length/\cj t=true/\aC t=(List.range' i (t.length-i)).all (gw t),t.length-i⟩) (fun i b_=>match b_ with|2=>T' (fun j=>⟨⟨[(0,G' t),(3,A' i),(4,A' j)],[]⟩,j<=t.length/\i<t.length/\aC t=((List.range' j (t.length-j)).all (gR t i)&&(List.range' (i+1) (t.length-(i+1))).all (gw t)),t.length-j⟩) (fun j b_=>match b_ with|4=>Q' fun k=>⟨⟨[(0,G' t),(3,A' i),(4,A' j),(5,A' k)],[]⟩,k<=t.length/\j<t.length/\aC t=((List.range' k (t.length-k)).all (iR t i j)&&((List.range' (j+1) (t.length-(j+1))).all (gR t i)&&(List.range' (i+1) (t.length-(i+1))).all (gw t))),t.length-k⟩|_=>none)|_=>none)
 |_=>none
def LO:List (Nat×Ctr):=[(141,⟨[],Ix⟩),(131,⟨[],Ew⟩)]
def tG(t:D2)(x0:Nat)(x1:Nat)(x2:Nat):=(List.all (List.range' x0 (t.length-x0)) (iR t x1 x2)&&(List.all (List.range' (x2+(1:Nat)) (t.length-(x2+(1:Nat)))) (gR t x1)&&List.all (List.range' (x1+(1:Nat)) (t.length-(x1+(1:Nat)))) (gw t)))
def tH(t:D2)(x0:Nat)(x1:Nat):=(List.all (List.range' x0 (t.length-x0)) (gR t x1)&&List.all (List.range' (x1+(1:Nat)) (t.length-(x1+(1:Nat)))) (gw t))
def j8(t:D2)(x0:Nat):=(t.getD (↑x0:Int).toNat [])
def D7(t:D2):Prop :=
 (((aS t)/\True)/\(ab (!cj t) ((false=aC t)/\True) ((∃x0:Nat,(((x0<=t.length)/\((cj t=true)/\(aC t=List.all (List.range' x0 (t.length-x0)) (gw t))))/\((t=t)/\((0:Int)=(↑x0:Int)))))/\(∀x1:Nat,(((x1<=t.length)/\((cj t=true)/\(aC t=List.all (List.range' x1 (t.length-x1)) (gw t))))->(ab (decide ((↑x1:Int)<(↑(t.length):Int))) ((ac (0:Int) t.length)/\((ac (↑x1:Int) ((t.getD (0:Nat) []).length))/\(ab ((List.getD t (0:Nat) []).getD (↑x1:Int).toNat (0:Int) != (↑x1:Int)) ((false=aC t)/\True) ((ac (↑x1:Int) t.length)/\((ac (0:Int) (j8 t x1).length)/\(ab ((List.getD t (↑x1:Int).toNat []).getD (0:Nat) (0:Int) != (↑x1:Int)) ((false=aC t)/\True) ((ac (↑x1:Int) t.length)/\((((j8 t x1).length<=(1099511627776:Nat))/\True)/\(ab (!(decide ((1:Int)<=(↑((t.getD (↑x1:Int).toNat []).length):Int)/\(↑((t.getD (↑x1:Int).toNat []).length):Int)<=(12:Int))&&cP (t.getD (↑x1:Int).toNat []))) ((false=aC t)/\True) ((∃x2:Nat,(((x2<=t.length)/\((x1<t.length)/\(aC t=(tH t x2 x1))))/\((t=t)/\(((↑x1:Int)=(↑x1:Int))/\((0:Int)=(↑x2:Int))))))/\(∀x3:Nat,(((x3<=t.length)/\((x1<t.length)/\(aC t=(tH t x3 x1))))->(ab (decide ((↑x3:Int)<(↑(t.length):Int))) ((∃x4:Nat,(((x4<=t.length)/\((x3<t.length)/\(aC t=(tG t x4 x1 x3))))/\((t=t)/\(((↑x1:Int)=(↑x1:Int))/\(((↑x3:Int)=(↑x3:Int))/\((0:Int)=(↑x4:Int)))))))/\(∀x5:Nat,(((x5<=t.length)/\((x3<t.length) /\
 (aC t=(tG t x5 x1 x3))))->(ab (decide ((↑x5:Int)<(↑(t.length):Int))) ((ac (↑x1:Int) t.length)/\((ac (↑x3:Int) (j8 t x1).length)/\((ac ((j8 t x1).getD (↑x3:Int).toNat (0:Int)) t.length)/\((ac (↑x5:Int) ((t.getD (((j8 t x1).getD (↑x3:Int).toNat (0:Int)).toNat) []).length))/\((ac (↑x1:Int) t.length)/\((ac (↑x3:Int) t.length)/\((ac (↑x5:Int) (j8 t x3).length)/\((ac ((j8 t x3).getD (↑x5:Int).toNat (0:Int)) (j8 t x1).length)/\(ab ((List.getD t ((List.getD (List.getD t (↑x1:Int).toNat []) (↑x3:Int).toNat (0:Int)).toNat) []).getD (↑x5:Int).toNat (0:Int) != (List.getD t (↑x1:Int).toNat []).getD (((List.getD t (↑x3:Int).toNat []).getD (↑x5:Int).toNat (0:Int)).toNat) (0:Int)) ((false=aC t)/\True) ((af ((↑x5:Int)+(1:Int)))/\(∃x6:Nat,(((x6<=t.length)/\((x3<t.length)/\(aC t=(tG t x6 x1 x3))))/\((t.length-x6<t.length-x5)/\((t=t)/\(((↑x1:Int)=(↑x1:Int))/\(((↑x3:Int)=(↑x3:Int))/\((↑x5:Int)+(1:Int)=(↑x6:Int)))))))))))))))))) ((af ((↑x3:Int)+(1:Int)))/\(∃x7:Nat,(((x7<=t.length)/\((x1<t.length)/\(aC t=(tH t x7 x1))))/\((t.length-x7<t.length-x3)/\((t=t)/\(((↑x1:Int)=(↑x1:Int))/\((↑x3:Int)+(1:Int)=(↑x7:Int)))))))))))) ((af ((↑x1:Int)+(1:Int)))/\(∃x8:Nat,(((x8<=t.length)/\((cj t=true)/\(aC t=List.all (List.range' x8 (t.length-x8)) (gw t))))/\((t.length-x8<t.length-x1)/\((t=t)/\((↑x1:Int)+(1:Int)=(↑x8:Int))))))))))))))))))))
 ((true=aC t)/\True)))))))
theorem UV(t:D2):aM Tryz.prog (ah LO) aj (LN t) Tryz.f94 (aF Tryz.f94) [] [.c (.rows .i64 t)] (tF t)=D7 t:=by kernel_rfl
theorem UW(t:D2)(ξ:(tF t).pre):D7 t:=by
 simp only[tF,D7,tG,tH,j8,aJ]at ξ⊢;refine⟨ξ,fun h=>by simp[aC,h],fun h1=>⟨⟨0,⟨by omega,h1,by rw[UE,h1,A9,nV]⟩,rfl⟩,fun i ⟨hi,_,he⟩=>?_⟩⟩
 obtain⟨n1,n2,ht⟩:=iN h1;refine⟨fun h3=>?_,fun h3=>by rw[he,nU _ (by omega)]⟩
 have hr:=(ht i (by omega)).1
 have hd:decide (1<=((t.getD i []).length:Int)/\((t.getD i []).length:Int)<=12)=true:=Aa (by omega)
 have np:(decide (1<=((t.getD i []).length:Int)/\((t.getD i []).length:Int)<=12)&&cP (t.getD i []))=false->cP (t.getD i [])=false:=fun h=>by rwa[hd,A9]at h
 have yp:(decide (1<=((t.getD i []).length:Int)/\((t.getD i []).length:Int)<=12)&&cP (t.getD i []))=true->cP (t.getD i [])=true:=fun h=>by rwa[hd,A9]at h
 ·have r0:=ht 0 (by omega)
  have ri:=ht i (by omega)
  rw[nS _ (by omega)]at he
  refine⟨by omega,by omega,fun h4=>?_,fun h4=>⟨by omega,by omega,fun h5=>?_,fun h5=>⟨by omega,by omega,fun hp=>?_,fun hp=>⟨⟨0,⟨by omega,by omega,?_⟩,rfl⟩,fun j ⟨hj,_,hy⟩=>⟨fun h6=>⟨⟨0,⟨by omega,by omega,?_⟩,rfl⟩,fun k ⟨hk,_,hz⟩=>⟨fun h7=>?_,fun h7=>?_⟩⟩,fun h6=>?_⟩⟩⟩⟩⟩
  ·rw[he,gw,iS,show decide (en t 0 i=(i:Int))=false from Ae h4];rfl
  ·rw[he,gw,iS,show decide (en t i 0=(i:Int))=false from Ae h5];simp
  ·rw[he,gw,show cP (t.getD i [])=false from np hp];simp
  ·rw[he,gw,iS,show decide (en t 0 i=(i:Int))=true from Aa h4,show decide (en t i 0=(i:Int))=true from Aa h5,show cP (t.getD i [])=true from yp hp,nW,nV];rfl
  ·rw[hy,nS _ (by omega),gR,nV,Bool.and_assoc]
  ·have rj:=ht j (by omega)
   have a:=ri.2 j (by omega)
   have b:=rj.2 k (by omega)
   have rr:=ht ((t.getD i []).getD j 0).toNat (by omega)
   rw[nS _ (by omega)]at hz
   refine⟨by omega,by omega,by omega,by omega,by omega,by omega,by omega,by omega,fun h8=>?_,fun h8=>⟨by omega,k+1,⟨by omega,by omega,?_⟩,by omega,by omega⟩⟩
   ·rw[hz,show iR t i j k=false from Ae h8];rfl
   ·rw[hz,show iR t i j k=true from Aa h8];rfl
  ·refine⟨by omega,j+1,⟨by omega,by omega,?_⟩,by omega,by omega⟩
   rw[hz,nU _ (by omega),A9]
  ·refine⟨by omega,i+1,⟨by omega,h1,?_⟩,by omega,by omega⟩
   rw[hy,nU _ (by omega),A9]
theorem UX:Fits Tryz.prog 94 ⟨[],D6⟩:=by
 refine aU (Γ:=ah LO) (aw af0 (aw VB aI)) Tryz.func94 fun ds p h hp=>?_
 unfold D6 at h;split at h
 ·cases h
  exact⟨aj,LN _ ,by rw[UV];exact UW _  hp⟩
 ·cases h
end Go.Sx
