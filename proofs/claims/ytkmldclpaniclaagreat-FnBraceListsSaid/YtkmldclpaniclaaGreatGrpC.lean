/- GrpC -/
import Derived.Test.YtkmldclpaniclaaGreatMpgL
import Derived.Test.YtkmldclpaniclaaGreatGrp
set_option linter.unusedSimpArgs false
set_option linter.unusedVariables false
set_option linter.defProp false
open Go Go.Proofs
namespace Go.Sx
def qM(n:Nat)(fr tt:D8)(s:MS):Prop:=n<=100/\fr.length=tt.length/\fr.length<=100/\dn n fr/\dn n tt/\MW n s
def Oz(d:Nat)(fr:D8)(tt:D8)(im:D6)(us:List Bool)(st:D6)(p:Int)(v:Int):SV:=.c (.bool ((aU fr tt d p v (im,us,st)).1))
def OA(d:Nat)(fr:D8)(tt:D8)(im:D6)(us:List Bool)(st:D6)(p:Int)(v:Int):List MA:=[.box [.c (.r3 .i64 fr),.c (.r3 .i64 tt),.ob (.ints 2 .i64 ((aU fr tt d p v (im,us,st)).2.1)),.ob (.bools 4 ((aU fr tt d p v (im,us,st)).2.2.1)),.ob (.ints 2 .i64 ((aU fr tt d p v (im,us,st)).2.2.2))],.m (.c (.int .i64 p)),.m (.c (.int .i64 v))]
def OB(d:Nat)(fr:D8)(tt:D8)(im:D6)(us:List Bool)(st:D6)(p:Int)(v:Int):List (Nat×Ob):=[]
def o5(d:Nat)(fr:D8)(tt:D8)(im:D6)(us:List Bool)(st:D6)(p:Int)(v:Int):Post:=⟨qM im.length fr tt (im,us,st)/\cJ im<d/\0<=p/\p<(im.length:Int)/\0<=v/\v<(im.length:Int),.st (Oz d fr tt im us st p v) (OB d fr tt im us st p v) (OA d fr tt im us st p v),[]⟩
def o6(d:Nat):List AD->Option Post
 | [.ma (.box [.c (.r3 .i64 fr),.c (.r3 .i64 tt),.ob (.ints 2 .i64 im),.ob (.bools 4 us),.ob (.ints 2 .i64 st)]),.ma (.m (.c (.int .i64 p))),.ma (.m (.c (.int .i64 v)))]=>some (o5 d fr tt im us st p v)
 |_=>none
def OC(d:Nat)(fr:D8)(tt:D8)(im:D6)(us:List Bool)(st:D6)(p:Int)(v:Int):Nat->Option Ann
 |0=>some (Ann.mk ((Nat)×(D6)×(List Bool)×(D6)) (λx=>match x with|(i,a,b,c)=>⟨[(0,M' 7000),(1,A' p),(2,A' v),(7,A' i)],[(7000,P' [.ro (.r3 .i64 fr),.ro (.r3 .i64 tt),.own 7003,.own 7004,.own 7005]),(7003,O' a),(7004,some (.bools 4 b)),(7005,O' c)]⟩) (λx=>match x with|(i,a,b,c)=>MW im.length (a,b,c)/\cJ a+1<d/\d8 (aU fr tt (d-1)) fr tt p v (im.length+1-i) i (a,b,c)=aU fr tt d p v (im,us,st)) (λx=>match x with|(i,a,b,c)=>im.length+1-i) (λx=>match x with|(i,a,b,c)=>λb_=>match b_ with|2=>some (Ann.mk ((Nat)×(D6)×(List Bool)×(D6)) (λx=>match x with|(k,a2,b2,c2)=>⟨[(0,M' 7000),(1,A' p),(2,A' v),(7,A' i),(8,A' (c.getD i 0)),(77,I' fr),(78,A' fr.length),(79,A' k)],[(7000,P' [.ro (.r3 .i64 fr),.ro (.r3 .i64 tt),.own 7003,.own 7004,.own 7005]),(7003,O' a2),(7004,some (.bools 4 b2)),(7005,O' c2)]⟩) (λx=>match x with|(k,a2,b2,c2)=>k<=fr.length/\MX im.length (a,b,c) (a2,b2,c2)/\ce (aU fr tt (d-1)) p v (c.getD i 0) (fr.drop k) (tt.drop k) (a2,b2,c2)=ce (aU fr tt (d-1)) p v (c.getD i 0) fr tt (a,b,c)) (λx=>match x with|(k,a2,b2,c2)=>fr.length-k) (λ_=>ar))|_=>none))
 |_=>none
def OD(d:Nat):List (Nat×Ctr):=[(180,⟨[(0,93),(0,93)],o6 d⟩)]
def OE(tt:D8)(v:Int)(x0:Nat×D6×List Bool×D6)(x1:Nat×D6×List Bool×D6):=((List.getD (List.getD tt (↑x0.1:Int).toNat ([]:D7)) v.toNat []).getD ((x0.2.1.getD ((x1.2.2.2.getD x1.1 (0:Int)).toNat) (0:Int)).toNat) (0:Int))
def fM(d:Nat)(fr:D8)(tt:D8)(p:Int)(v:Int)(x0:Nat×D6×List Bool×D6)(x1:Nat×D6×List Bool×D6):=((aU fr tt d ((List.getD (List.getD fr (↑x0.1:Int).toNat ([]:D7)) p.toNat []).getD ((x1.2.2.2.getD x1.1 (0:Int)).toNat) (0:Int)) (OE tt v x0 x1) (x0.2.1,x0.2.2.1,x0.2.2.2)).2)
def qN(d:Nat)(fr:D8)(tt:D8)(p:Int)(v:Int)(x0:Nat×D6×List Bool×D6)(x1:Nat×D6×List Bool×D6):=((List.getD tt (↑x0.1:Int).toNat ([]:D7)).getD ((((fM d fr tt p v x0 x1).1).getD ((x1.2.2.2.getD x1.1 (0:Int)).toNat) (0:Int)).toNat) [])
def mY(d:Nat)(fr:D8)(tt:D8)(p:Int)(v:Int)(x0:Nat×D6×List Bool×D6)(x1:Nat×D6×List Bool×D6):=((aU fr tt d ((List.getD (List.getD fr (↑x0.1:Int).toNat ([]:D7)) ((List.getD x1.2.2.2 x1.1 (0:Int)).toNat) []).getD p.toNat (0:Int)) ((qN d fr tt p v x0 x1).getD v.toNat (0:Int)) ((fM d fr tt p v x0 x1).1,((fM d fr tt p v x0 x1).2).1,((fM d fr tt p v x0 x1).2).2)).2)
def fZ(d:Nat)(fr:D8)(tt:D8)(im:D6)(us:List Bool)(st:D6)(p:Int)(v:Int):=((aU fr tt (d+(1:Nat)) p v (im,us,st)).2)
def F8(d:Nat)(fr:D8)(tt:D8)(im:D6)(us:List Bool)(st:D6)(p:Int)(v:Int):Prop :=
 ((ac p im.length)/\(ab (decide ((0:Int)<=im.getD p.toNat (0:Int))) ((ac p im.length)/\(((im.getD p.toNat (0:Int) == v)=(aU fr tt (d+(1:Nat)) p v (im,us,st)).1)/\((fr=fr)/\((tt=tt)/\((im=(fZ d fr tt im us st p v).1)/\((us=((fZ d fr tt im us st p v).2).1)/\(st=((fZ d fr tt im us st p v).2).2))))))) ((ac v us.length)/\(ab (us.getD v.toNat false) ((false=(aU fr tt (d+(1:Nat)) p v (im,us,st)).1)/\((fr=fr)/\((tt=tt)/\((im=(fZ d fr tt im us st p v).1)/\((us=((fZ d fr tt im us st p v).2).1)/\(st=((fZ d fr tt im us st p v).2).2)))))) ((ac p im.length)/\((ac v us.length)/\((au (st.length+[p].length))/\((∃x0:Nat×D6×List Bool×D6,(((MW im.length (x0.2.1,x0.2.2.1,x0.2.2.2))/\((cJ x0.2.1+(1:Nat)<d+(1:Nat))/\(d8 (aU fr tt (d+(1:Nat)-(1:Nat))) fr tt p v (im.length+(1:Nat)-x0.1) x0.1 (x0.2.1,x0.2.2.1,x0.2.2.2)=aU fr tt (d+(1:Nat)) p v (im,us,st))))/\((p=p)/\((v=v)/\(((0:Int)=(↑x0.1:Int))/\((fr=fr)/\((tt=tt)/\((List.set im p.toNat v=x0.2.1)/\((List.set us v.toNat true=x0.2.2.1)/\(st++[p]=x0.2.2.2))))))))))/\(∀x1:Nat×D6×List Bool×D6,(((MW im.length (x1.2.1,x1.2.2.1,x1.2.2.2))/\((cJ x1.2.1+(1:Nat)<d+(1:Nat))/\(d8 (aU fr tt (d+(1:Nat)-(1:Nat))) fr tt p v (im.length+(1:Nat)-x1.1) x1.1 (x1.2.1,x1.2.2.1,x1.2.2.2)=aU fr tt (d+(1:Nat)) p v (im,us,st)))) ->
 (ab (decide ((↑x1.1:Int)<(↑(x1.2.2.2.length):Int))) ((ac (↑x1.1:Int) x1.2.2.2.length)/\((∃x2:Nat×D6×List Bool×D6,(((x2.1<=fr.length)/\((MX im.length (x1.2.1,x1.2.2.1,x1.2.2.2) (x2.2.1,x2.2.2.1,x2.2.2.2))/\(ce (aU fr tt (d+(1:Nat)-(1:Nat))) p v (x1.2.2.2.getD x1.1 (0:Int)) (List.drop x2.1 fr) (List.drop x2.1 tt) (x2.2.1,x2.2.2.1,x2.2.2.2)=ce (aU fr tt (d+(1:Nat)-(1:Nat))) p v (x1.2.2.2.getD x1.1 (0:Int)) fr tt (x1.2.1,x1.2.2.1,x1.2.2.2))))/\((p=p)/\((v=v)/\(((↑x1.1:Int)=(↑x1.1:Int))/\((x1.2.2.2.getD (↑x1.1:Int).toNat (0:Int)=x1.2.2.2.getD x1.1 (0:Int))/\((fr=fr)/\(((↑(fr.length):Int)=(↑(fr.length):Int))/\(((0:Int)=(↑x2.1:Int))/\((fr=fr)/\((tt=tt)/\((x1.2.1=x2.2.1)/\((x1.2.2.1=x2.2.2.1)/\(x1.2.2.2=x2.2.2.2))))))))))))))/\(∀x3:Nat×D6×List Bool×D6,(((x3.1<=fr.length)/\((MX im.length (x1.2.1,x1.2.2.1,x1.2.2.2) (x3.2.1,x3.2.2.1,x3.2.2.2))/\(ce (aU fr tt (d+(1:Nat)-(1:Nat))) p v (x1.2.2.2.getD x1.1 (0:Int)) (List.drop x3.1 fr) (List.drop x3.1 tt) (x3.2.1,x3.2.2.1,x3.2.2.2)=ce (aU fr tt (d+(1:Nat)-(1:Nat))) p v (x1.2.2.2.getD x1.1 (0:Int)) fr tt (x1.2.1,x1.2.2.1,x1.2.2.2))))->(ab (decide ((↑x3.1:Int)<(↑(fr.length):Int))) ((ac (↑x3.1:Int) fr.length)/\((ac p ((fr.getD (↑x3.1:Int).toNat ([]:D7)).length))/\((ac (x1.2.2.2.getD x1.1 (0:Int)) (((List.getD fr (↑x3.1:Int).toNat ([]:D7)).getD p.toNat []).length)) /\
 ((ac (↑x3.1:Int) tt.length)/\((ac v ((tt.getD (↑x3.1:Int).toNat ([]:D7)).length))/\((ac (x1.2.2.2.getD x1.1 (0:Int)) x3.2.1.length)/\((ac (x3.2.1.getD ((x1.2.2.2.getD x1.1 (0:Int)).toNat) (0:Int)) (((List.getD tt (↑x3.1:Int).toNat ([]:D7)).getD v.toNat []).length))/\(((qM x3.2.1.length fr tt (x3.2.1,x3.2.2.1,x3.2.2.2))/\((cJ x3.2.1<d)/\(((0:Int)<=(List.getD (List.getD fr (↑x3.1:Int).toNat ([]:D7)) p.toNat []).getD ((x1.2.2.2.getD x1.1 (0:Int)).toNat) (0:Int))/\(((List.getD (List.getD fr (↑x3.1:Int).toNat ([]:D7)) p.toNat []).getD ((x1.2.2.2.getD x1.1 (0:Int)).toNat) (0:Int)<(↑(x3.2.1.length):Int))/\(((0:Int)<=(List.getD (List.getD tt (↑x3.1:Int).toNat ([]:D7)) v.toNat []).getD ((x3.2.1.getD ((x1.2.2.2.getD x1.1 (0:Int)).toNat) (0:Int)).toNat) (0:Int))/\((List.getD (List.getD tt (↑x3.1:Int).toNat ([]:D7)) v.toNat []).getD ((x3.2.1.getD ((x1.2.2.2.getD x1.1 (0:Int)).toNat) (0:Int)).toNat) (0:Int)<(↑(x3.2.1.length):Int)))))))/\(ab (!(aU fr tt d ((List.getD (List.getD fr (↑x3.1:Int).toNat ([]:D7)) p.toNat []).getD ((x1.2.2.2.getD x1.1 (0:Int)).toNat) (0:Int)) ((List.getD (List.getD tt (↑x3.1:Int).toNat ([]:D7)) v.toNat []).getD ((x3.2.1.getD ((x1.2.2.2.getD x1.1 (0:Int)).toNat) (0:Int)).toNat) (0:Int)) (x3.2.1,x3.2.2.1,x3.2.2.2)).1) ((false=(aU fr tt (d+(1:Nat)) p v (im,us,st)).1)/\((fr=fr)/\((tt=tt) /\
 (((fM d fr tt p v x3 x1).1=(fZ d fr tt im us st p v).1)/\((((fM d fr tt p v x3 x1).2).1=((fZ d fr tt im us st p v).2).1)/\(((fM d fr tt p v x3 x1).2).2=((fZ d fr tt im us st p v).2).2)))))) ((ac (x1.2.2.2.getD x1.1 (0:Int)) ((fr.getD (↑x3.1:Int).toNat ([]:D7)).length))/\((ac p (((List.getD fr (↑x3.1:Int).toNat ([]:D7)).getD ((x1.2.2.2.getD x1.1 (0:Int)).toNat) []).length))/\((ac (↑x3.1:Int) tt.length)/\((ac (x1.2.2.2.getD x1.1 (0:Int)) (((fM d fr tt p v x3 x1).1).length))/\((ac (((fM d fr tt p v x3 x1).1).getD ((x1.2.2.2.getD x1.1 (0:Int)).toNat) (0:Int)) ((tt.getD (↑x3.1:Int).toNat ([]:D7)).length))/\((ac v (qN d fr tt p v x3 x1).length)/\(((qM (((fM d fr tt p v x3 x1).1).length) fr tt ((fM d fr tt p v x3 x1).1,((fM d fr tt p v x3 x1).2).1,((fM d fr tt p v x3 x1).2).2))/\((cJ (fM d fr tt p v x3 x1).1<d)/\(((0:Int)<=(List.getD (List.getD fr (↑x3.1:Int).toNat ([]:D7)) ((List.getD x1.2.2.2 x1.1 (0:Int)).toNat) []).getD p.toNat (0:Int))/\(((List.getD (List.getD fr (↑x3.1:Int).toNat ([]:D7)) ((List.getD x1.2.2.2 x1.1 (0:Int)).toNat) []).getD p.toNat (0:Int)<(↑(((fM d fr tt p v x3 x1).1).length):Int))/\(((0:Int)<=(qN d fr tt p v x3 x1).getD v.toNat (0:Int)) /\
 ((qN d fr tt p v x3 x1).getD v.toNat (0:Int)<(↑(((fM d fr tt p v x3 x1).1).length):Int))))))) /\
 (ab (!(aU fr tt d ((List.getD (List.getD fr (↑x3.1:Int).toNat ([]:D7)) ((List.getD x1.2.2.2 x1.1 (0:Int)).toNat) []).getD p.toNat (0:Int)) ((List.getD (List.getD tt (↑x3.1:Int).toNat ([]:D7)) ((List.getD (((aU fr tt d (List.getD (List.getD (List.getD fr (↑x3.1:Int).toNat ([]:D7)) p.toNat []) ((List.getD x1.2.2.2 x1.1 (0:Int)).toNat) (0:Int)) (List.getD (List.getD (List.getD tt (↑x3.1:Int).toNat ([]:D7)) v.toNat []) ((List.getD x3.2.1 ((List.getD x1.2.2.2 x1.1 (0:Int)).toNat) (0:Int)).toNat) (0:Int)) (x3.2.1,x3.2.2.1,x3.2.2.2)).2).1) ((List.getD x1.2.2.2 x1.1 (0:Int)).toNat) (0:Int)).toNat) []).getD v.toNat (0:Int)) (((aU fr tt d ((List.getD (List.getD fr (↑x3.1:Int).toNat ([]:D7)) p.toNat []).getD ((x1.2.2.2.getD x1.1 (0:Int)).toNat) (0:Int)) ((List.getD (List.getD tt (↑x3.1:Int).toNat ([]:D7)) v.toNat []).getD ((x3.2.1.getD ((x1.2.2.2.getD x1.1 (0:Int)).toNat) (0:Int)).toNat) (0:Int)) (x3.2.1,x3.2.2.1,x3.2.2.2)).2).1,(((aU fr tt d ((List.getD (List.getD fr (↑x3.1:Int).toNat ([]:D7)) p.toNat []).getD ((x1.2.2.2.getD x1.1 (0:Int)).toNat) (0:Int)) ((List.getD (List.getD tt (↑x3.1:Int).toNat ([]:D7)) v.toNat []).getD ((x3.2.1.getD ((x1.2.2.2.getD x1.1 (0:Int)).toNat) (0:Int)).toNat) (0:Int)) (x3.2.1,x3.2.2.1,x3.2.2.2)).2).2).1,(((aU fr tt d ((List.getD (List.getD fr (↑x3.1:Int).toNat ([]:D7)) p.toNat []).getD ((x1.2.2.2.getD x1.1 (0:Int)).toNat) (0:Int)) ((List.getD (List.getD tt (↑x3.1:Int).toNat ([]:D7)) v.toNat []).getD ((x3.2.1.getD ((x1.2.2.2.getD x1.1 (0:Int)).toNat) (0:Int)).toNat) (0:Int)) (x3.2.1,x3.2.2.1,x3.2.2.2)).2).2).2)).1)
 ((false=(aU fr tt (d+(1:Nat)) p v (im,us,st)).1)/\((fr=fr)/\((tt=tt)/\(((mY d fr tt p v x3 x1).1=(fZ d fr tt im us st p v).1)/\((((mY d fr tt p v x3 x1).2).1=((fZ d fr tt im us st p v).2).1)/\(((mY d fr tt p v x3 x1).2).2=((fZ d fr tt im us st p v).2).2)))))) ((ae ((↑x3.1:Int)+(1:Int)))/\(∃x4:Nat×D6×List Bool×D6,(((x4.1<=fr.length)/\((MX im.length (x1.2.1,x1.2.2.1,x1.2.2.2) (x4.2.1,x4.2.2.1,x4.2.2.2))/\(ce (aU fr tt (d+(1:Nat)-(1:Nat))) p v (x1.2.2.2.getD x1.1 (0:Int)) (List.drop x4.1 fr) (List.drop x4.1 tt) (x4.2.1,x4.2.2.1,x4.2.2.2)=ce (aU fr tt (d+(1:Nat)-(1:Nat))) p v (x1.2.2.2.getD x1.1 (0:Int)) fr tt (x1.2.1,x1.2.2.1,x1.2.2.2))))/\((fr.length-x4.1<fr.length-x3.1)/\((p=p)/\((v=v)/\(((↑x1.1:Int)=(↑x1.1:Int))/\((x1.2.2.2.getD x1.1 (0:Int)=x1.2.2.2.getD x1.1 (0:Int))/\((fr=fr)/\(((↑(fr.length):Int)=(↑(fr.length):Int))/\(((↑x3.1:Int)+(1:Int)=(↑x4.1:Int))/\((fr=fr)/\((tt=tt)/\(((mY d fr tt p v x3 x1).1=x4.2.1)/\((((mY d fr tt p v x3 x1).2).1=x4.2.2.1)/\(((mY d fr tt p v x3 x1).2).2=x4.2.2.2))))))))))))))))))))))))))))))))) ((ae ((↑x1.1:Int)+(1:Int)))/\(∃x5:Nat×D6×List Bool×D6,(((MW im.length (x5.2.1,x5.2.2.1,x5.2.2.2))/\((cJ x5.2.1+(1:Nat)<d+(1:Nat)) /\
 (d8 (aU fr tt (d+(1:Nat)-(1:Nat))) fr tt p v (im.length+(1:Nat)-x5.1) x5.1 (x5.2.1,x5.2.2.1,x5.2.2.2)=aU fr tt (d+(1:Nat)) p v (im,us,st))))/\((im.length+(1:Nat)-x5.1<im.length+(1:Nat)-x1.1)/\((p=p)/\((v=v)/\(((↑x1.1:Int)+(1:Int)=(↑x5.1:Int))/\((fr=fr)/\((tt=tt)/\((x3.2.1=x5.2.1)/\((x3.2.2.1=x5.2.2.1)/\(x3.2.2.2=x5.2.2.2))))))))))))))))) ((true=(aU fr tt (d+(1:Nat)) p v (im,us,st)).1)/\((fr=fr)/\((tt=tt)/\((x1.2.1=(fZ d fr tt im us st p v).1)/\((x1.2.2.1=((fZ d fr tt im us st p v).2).1)/\(x1.2.2.2=((fZ d fr tt im us st p v).2).2)))))))))))))))))
def YG(d:Nat)(fr:D8)(tt:D8)(im:D6)(us:List Bool)(st:D6)(p:Int)(v:Int):mH Tryz.prog (ah (OD d)) aj (OC (d+1) fr tt im us st p v) Tryz.f180 (aI Tryz.f180) [.box [.c (.r3 .i64 fr),.c (.r3 .i64 tt),.ob (.ints 2 .i64 im),.ob (.bools 4 us),.ob (.ints 2 .i64 st)],.m (.c (.int .i64 p)),.m (.c (.int .i64 v))] (Oz (d+1) fr tt im us st p v) (iv 0 (OA (d+1) fr tt im us st p v)++iU (OB (d+1) fr tt im us st p v))=F8 d fr tt im us st p v:=by kernel_rfl
def YH(d:Nat)(fr:D8)(tt:D8)(im:D6)(us:List Bool)(st:D6)(p:Int)(v:Int)(ξ:(o5 (d+1) fr tt im us st p v).pre):F8 d fr tt im us st p v:=by
 simp only[o5,F8,OE,fM,qN,mY,fZ,aO]at ξ⊢;obtain⟨⟨hn,hlen,hf100,hfr,htt,hw⟩,hfd,hp0,hpn,hv0,hvn⟩:=ξ;have hus:us.length=im.length:=hw.us
 refine⟨⟨hp0,hpn⟩,λh0=>⟨⟨hp0,hpn⟩,?_⟩,λh0=>⟨⟨hv0,by omega⟩,λh1=>?_,λh1=>⟨⟨hp0,hpn⟩,⟨hv0,by omega⟩,?_,?_,?_⟩⟩⟩
 ·have e:aU fr tt (d+1) p v (im,us,st)=(decide (gi im p=v),im,us,st):=by rw[aU];exact AA h0
  rw[e];exact⟨rfl,rfl,rfl,rfl⟩
 ·have e:aU fr tt (d+1) p v (im,us,st)=(false,im,us,st):=by rw[aU];exact(AB h0).trans (AA h1)
  rw[e];exact⟨rfl,rfl,rfl,rfl⟩
 ·have:=hw.cnt;simp only at this;omega
 ·have e:aU fr tt (d+1) p v (im,us,st)=d8 (aU fr tt d) fr tt p v (im.length+1) 0 (im.set p.toNat v,us.set v.toNat true,st++[p]):=by
   rw[aU];exact(AB h0).trans (AB (by simp only;rw[h1];simp))
  have hput:=hw.put hp0 hpn hv0 hvn (by simp only[gi];omega) h1
  have hfs:=wg (l:=im) (i:=p.toNat) (v:=v) (by omega) (by omega) hv0
  exact⟨(0,im.set p.toNat v,us.set v.toNat true,st++[p]),⟨hput.wf,by simp only;omega,e.symm⟩,rfl,rfl,rfl,rfl⟩
 ·rintro⟨i,a,b,c⟩ ⟨hmw,hfa,hI⟩
  simp only[DR]at hmw hfa hI⊢;have hA:=nm hfr htt d
  have hcn:=hmw.cnt
  simp only at hcn;refine⟨λhi=>?_,?_⟩
  ·have hi':i<c.length:=by omega
   have hE:im.length+1-i=(im.length-i)+1:=by omega
   rw[hE]at hI;have hmem:c.getD i 0∈c:=by rw[List.getD,AF hi'];exact A5 hi'
   obtain⟨hy0,hyn,hyg⟩:=hmw.st _ hmem;refine⟨⟨by omega,hi⟩,⟨(0,a,b,c),⟨AT _,.refl hmw,rfl⟩,rfl,rfl,rfl,rfl⟩,?_⟩
   generalize hyd:c.getD i 0=y at *
   have eF:(ce (aU fr tt d) p v y fr tt (a,b,c)).1=false->aU fr tt (d+1) p v (im,us,st)=ce (aU fr tt d) p v y fr tt (a,b,c):=λh=>by
    have:=Qj (A:=aU fr tt d) (fr:=fr) (tt:=tt) (x:=p) (v:=v) (e:=im.length-i) (i:=i) (s:=(a,b,c)) hi' (by simp only[hyd];exact h)
    simp only[hyd]at this;exact hI.symm.trans this
   have eT:(ce (aU fr tt d) p v y fr tt (a,b,c)).1=true->aU fr tt (d+1) p v (im,us,st)=d8 (aU fr tt d) fr tt p v (im.length-i) (i+1) (ce (aU fr tt d) p v y fr tt (a,b,c)).2:=λh=>by
    have:=G9 (A:=aU fr tt d) (fr:=fr) (tt:=tt) (x:=p) (v:=v) (e:=im.length-i) (i:=i) (s:=(a,b,c)) hi' (by simp only[hyd];exact h)
    simp only[hyd]at this;exact hI.symm.trans this
   rintro⟨k,a2,b2,c2⟩ ⟨hk,hx,hK⟩
   simp only at hk hx hK⊢;have hlen2:a2.length=im.length:=hx.wf.im
   have hy2:gi a2 y=gi a y:=hx.keep y hy0 hyn hyg
   have hy2g:0<=gi a2 y:=by rw[hy2];exact hyg
   have hy2n:gi a2 y<(im.length:Int):=hx.wf.rg y hy0 hyn
   have hfa2:cJ a2<=cJ a:=hx.fre
   refine⟨λhk1=>?_,λhk1=>?_⟩
   ·have hkl:k<fr.length:=by omega
    have hkt:k<tt.length:=by omega
    have hdf:fr.drop k=fr.getD k []::fr.drop (k+1):=by rw[Cr hkl,List.getD,AF hkl];rfl
    have hdt:tt.drop k=tt.getD k []::tt.drop (k+1):=by rw[Cr hkt,List.getD,AF hkt];rfl
    have t1:=hfr (fr.getD k []) (by rw[List.getD,AF hkl];exact A5 hkl)
    have u1:=htt (tt.getD k []) (by rw[List.getD,AF hkt];exact A5 hkt)
    rw[hdf,hdt]at hK;generalize fr.getD k []=t at *
    generalize tt.getD k []=u at *
    obtain⟨dw,g11⟩:=(t1.2 p y hp0 hpn).2 hy0 hyn;obtain⟨g20,g21⟩:=(u1.2 v _ hv0 hvn).2 hy2g hy2n;obtain⟨g30,g31⟩:=(t1.2 y p hy0 hyn).2 hp0 hpn;have hr:=hA (g2 t p y) (g2 u v (gi a2 y)) (a2,b2,c2) dw g11 g20 g21 hx.wf
    refine⟨⟨by omega,hk1⟩,⟨hp0,by omega⟩,⟨hy0,by rw[(t1.2 p 0 hp0 hpn).1];exact hyn⟩,⟨by omega,by omega⟩,⟨hv0,by omega⟩,⟨hy0,by omega⟩,⟨hy2g,by rw[(u1.2 v 0 hv0 hvn).1];exact hy2n⟩,⟨by rw[hlen2];exact⟨hn,hlen,hf100,hfr,htt,hx.wf⟩,by omega,dw,by rw[hlen2];exact g11,g20,by rw[hlen2];exact g21⟩,λhq=>?_,λhq=>?_⟩
    ·have e:=Qh (v:=v) (x:=p) (y:=y) (fr:=fr.drop (k+1)) (tt:=tt.drop (k+1)) hq
     rw[e]at hK;have e2:=eF (by rw[<-hK];exact hq)
     rw[e2,<-hK];exact⟨hq.symm,rfl,rfl,rfl⟩
    ·have hw1:=hr.wf
     have hy3:0<=gi (aU fr tt d (g2 t p y) (g2 u v (gi a2 y)) (a2,b2,c2)).2.1 y:=by rw[hr.keep y hy0 hyn hy2g];exact hy2g
     have hy3n:=hw1.rg y hy0 hyn
     have hl3:(aU fr tt d (g2 t p y) (g2 u v (gi a2 y)) (a2,b2,c2)).2.1.length=im.length:=hw1.im
     have hf3:cJ (aU fr tt d (g2 t p y) (g2 u v (gi a2 y)) (a2,b2,c2)).2.1<=cJ a2:=hr.fre
     have eTF:=Qi (v:=v) (x:=p) (y:=y) (fr:=fr.drop (k+1)) (tt:=tt.drop (k+1)) hq
     have eTT:=G8 (v:=v) (x:=p) (y:=y) (fr:=fr.drop (k+1)) (tt:=tt.drop (k+1)) hq
     have h3:(aU fr tt d ((t.getD p.toNat []).getD y.toNat 0) ((u.getD v.toNat []).getD (a2.getD y.toNat 0).toNat 0) (a2,b2,c2))=aU fr tt d (g2 t p y) (g2 u v (gi a2 y)) (a2,b2,c2):=rfl
     rw[h3]at⊢;have hx13:MX im.length (a,b,c) (aU fr tt d (g2 t p y) (g2 u v (gi a2 y)) (a2,b2,c2)).2:=hx.trans hr
     have e30:aU fr tt d (g2 t p y) (g2 u v (gi (a2,b2,c2).1 y)) (a2,b2,c2)=aU fr tt d (g2 t p y) (g2 u v (gi a2 y)) (a2,b2,c2):=rfl
     rw[e30]at eTF eTT;generalize aU fr tt d (g2 t p y) (g2 u v (gi a2 y)) (a2,b2,c2)=r at *
     obtain⟨rb,a3,b3,c3⟩:=r;simp only at hw1 hy3 hy3n hl3 hf3 eTF eTT hx13⊢;obtain⟨g40,g41⟩:=(u1.2 _ v hy3 hy3n).2 hv0 hvn;have hr4:=hA (g2 t y p) (g2 u (gi a3 y) v) (a3,b3,c3) g30 g31 g40 g41 hw1
     refine⟨⟨hy0,by omega⟩,⟨hp0,by rw[(t1.2 y 0 hy0 hyn).1];exact hpn⟩,⟨by omega,by omega⟩,⟨hy0,by omega⟩,⟨hy3,by rw[u1.1];exact hy3n⟩,⟨hv0,?_⟩,⟨by rw[hl3];exact⟨hn,hlen,hf100,hfr,htt,hw1⟩,by omega,g30,by rw[hl3];exact g31,g40,by rw[hl3];exact g41⟩,λhq2=>?_,λhq2=>?_⟩
     ·have:=(u1.2 (gi a3 y) 0 hy3 hy3n).1
      show v<((u.getD (gi a3 y).toNat []).length:Int)
      rw[this];exact hvn
     ·rw[eTF hq2]at hK
      have e2:=eF (by rw[<-hK];exact hq2)
      rw[e2,<-hK];exact⟨hq2.symm,rfl,rfl,rfl⟩
     ·rw[eTT hq2]at hK
      refine⟨⟨by omega,by omega⟩,?_⟩
      exact⟨(k+1,(aU fr tt d (g2 t y p) (g2 u (gi a3 y) v) (a3,b3,c3)).2),⟨by simp only;omega,hx13.trans hr4,hK⟩,by simp only;omega,by simp only;omega,rfl,rfl,rfl⟩
   ·have hkf:k=fr.length:=by omega
    rw[hkf,DW,hlen,DW]at hK;have hK2:(true,((a2,b2,c2):MS))=ce (aU fr tt d) p v y fr tt (a,b,c):=hK
    have e2:=eT (by rw[<-hK2])
    rw[<-hK2]at e2;refine⟨⟨by omega,by omega⟩,(i+1,a2,b2,c2),⟨hx.wf,by simp only;omega,?_⟩,by simp only;omega,by simp only;omega,rfl,rfl,rfl⟩
    rw[e2]
    show d8 _ fr tt p v (im.length+1-(i+1)) _ _=_
    rw[show im.length+1-(i+1)=im.length-i by omega]
  ·intro hi
   have e2:aU fr tt (d+1) p v (im,us,st)=(true,a,b,c):=by
    rw[<-hI];cases im.length+1-i with
    |zero=>rfl
    |succ e=>rw[d8];exact AB (by simp only;omega)
   rw[e2];exact⟨rfl,rfl,rfl,rfl⟩
def YI(fr:D8)(tt:D8)(im:D6)(us:List Bool)(st:D6)(p:Int)(v:Int)(h:(o5 0 fr tt im us st p v).pre):False:=by
 simp only[o5]at h;omega
def YK(d:Nat):Fits Tryz.prog 180 ⟨[(0,93),(0,93)],o6 d⟩:=by
 induction d with
 |zero =>
  refine Kt ⟨Tryz.f180,Tryz.func180,by kernel_rfl,by kernel_rfl⟩ λds p h hp=>?_
  unfold o6 at h;split at h
  ·cases h
   exact YI _ _ _ _ _ _ _  hp
  ·cases h
 |succ d ih =>
  refine qf (Γ:=ah (OD d)) (aq ih aN) Tryz.func180 (by kernel_rfl) (by kernel_rfl) (λads p h=>?_) λmas q sv ex outs h hq=>?_
  ·unfold o6 at h
   split at h
   ·cases h;rfl
   ·cases h
  ·unfold o6 at h
   split at h
   ·rename_i heq
    have heq:=oq (l:=[_,_,_]) heq
    subst heq;unfold o5 at h;cases h;exact⟨aj,OC _ _ _ _ _ _ _ _ ,by rw[YG];exact YH _ _ _ _ _ _ _ _  hq⟩
   ·cases h
def vr:List AD->Option Post
 | [.c (.ints .i64 l),.c (.int .i64 x)]=>some ⟨l.length<=1099511627776,.c (.int .i64 (bm x l 0)),[]⟩
 |_=>none
def OF(l:D6)(x:Int):Nat->Option Ann
 |0=>Q' λi=>⟨⟨[(0,D' l),(1,A' x),(6,D' l),(7,A' l.length),(8,A' i)],[]⟩,i<=l.length/\bm x l 0=bm x (l.drop i) (i:Int),l.length-i⟩
 |_=>none
def OH:Fits Tryz.prog 179 ⟨[],vr⟩:=by
 refine ffv (Γ:=ah []) aN Tryz.func179 λds p h ξ=>?_
 unfold vr at h;split at h<;>cases h
 rename_i l x
 refine⟨aj,OF l x,(∃x0:Nat,(x0<=l.length/\bm x l (0:Int)=bm x (List.drop x0 l) (x0:Int))/\l=l/\x=x/\l=l/\(l.length:Int)=(l.length:Int)/\(0:Int)=(x0:Int))/\∀x1:Nat,x1<=l.length/\bm x l (0:Int)=bm x (List.drop x1 l) (x1:Int)->ab (decide ((x1:Int)<(l.length:Int))) (ac (x1:Int) l.length/\ab (x == l.getD (x1:Int).toNat (0:Int)) ((x1:Int)=bm x l (0:Int)/\True) (ae ((x1:Int)+(1:Int))/\∃x2:Nat,(x2<=l.length/\bm x l (0:Int)=bm x (List.drop x2 l) (x2:Int))/\l.length-x2<l.length-x1/\l=l/\x=x/\l=l/\(l.length:Int)=(l.length:Int)/\(x1:Int)+(1:Int)=(x2:Int))) ((-1:Int)=bm x l (0:Int)/\True),by kernel_rfl,?_⟩
 simp only[aO]at ξ⊢;refine⟨⟨0,⟨by omega,rfl⟩,rfl⟩,λi ⟨hi,he⟩=>⟨λh=>?_,λh=>?_⟩⟩
 ·rw[drop_cons' l 0 i (by omega)]at he
  simp only[bm]at he;refine⟨by omega,λh2=>?_,λh2=>⟨by omega,i+1,⟨by omega,?_⟩,by omega,by omega⟩⟩
  ·rw[he,AA h2.symm]
  ·rw[he,AB λe=>h2 e.symm];simp
 ·rw[he,BE (by omega)];rfl
def Ga:List AD->Option Post
 | [.c (.ints .i64 l),.c (.int .i64 x)]=>some ⟨l.length<=1099511627776,.c (.int .i64 (bm x l 0)),[]⟩
 |_=>none
def YP:Fits Tryz.prog 158 ⟨[],Ga⟩:=by
 refine ffv (Γ:=ah [(179,⟨[],vr⟩)]) (aq OH aN) Tryz.func158 λds p h ξ=>?_
 unfold Ga at h;split at h<;>cases h
 rename_i l x
 refine⟨aj,ar,(l.length<=(1099511627776:Nat)/\True)/\bm x l (0:Int)=bm x l (0:Int)/\True,by kernel_rfl,?_⟩
 simp only[aO]at ξ⊢;exact ξ
def Gc:List AD->Option Post
 | [.c (.rows .i64 t)]=>some ⟨bX t=true,.c (.ints 2 .i64 (cN t)),[]⟩
 |_=>none
def OJ(t:D7):Nat->Option Ann
 |0=>Q' λi=>⟨⟨[(0,G' t),(3,J' 8),(9,G' t),(10,A' t.length),(11,A' i)],[(8,O' (((cN t).take i++List.replicate ((cN t).length-i) 0)))]⟩,i<=t.length,t.length-i⟩
 |_=>none
def YS:Fits Tryz.prog 114 ⟨[],Gc⟩:=by
 refine ffv (Γ:=ah [(158,⟨[],Ga⟩)]) (aq YP aN) Tryz.func114 λds p h ξ=>?_
 unfold Gc at h;split at h<;>cases h
 rename_i t
 refine⟨aj,OJ t,((0:Int)<=(t.length:Int)/\(t.length:Int)<=(t.length:Int)/\au ((t.length:Int).toNat))/\(∃x0:Nat,x0<=t.length/\t=t/\t=t/\(t.length:Int)=(t.length:Int)/\(0:Int)=(x0:Int)/\List.replicate ((t.length:Int).toNat) (0:Int)=List.take x0 (cN t)++List.replicate ((cN t).length-x0) (0:Int))/\∀x1:Nat,x1<=t.length->ab (decide ((x1:Int)<(t.length:Int))) (ac (x1:Int) t.length/\((t.getD (x1:Int).toNat []).length<=(1099511627776:Nat)/\True)/\ac (x1:Int) ((List.take x1 (cN t)++List.replicate ((cN t).length-x1) (0:Int)).length)/\ae ((x1:Int)+(1:Int))/\∃x2:Nat,x2<=t.length/\t.length-x2<t.length-x1/\t=t/\t=t/\(t.length:Int)=(t.length:Int)/\(x1:Int)+(1:Int)=(x2:Int)/\List.set (List.take x1 (cN t)++List.replicate ((cN t).length-x1) (0:Int)) (x1:Int).toNat (bm (0:Int) (t.getD (x1:Int).toNat []) (0:Int))=List.take x2 (cN t)++List.replicate ((cN t).length-x2) (0:Int)) (List.take x1 (cN t)++List.replicate ((cN t).length-x1) (0:Int)=cN t/\True),by kernel_rfl,?_⟩
 simp only[aO]at ξ⊢;obtain⟨n1,n2,ht⟩:=gH ξ;have hl:=Ow t
 rw[hl];refine⟨by omega,⟨0,by omega,rfl,by simp⟩,λi hi=>⟨λh=>?_,λh=>?_⟩⟩
 ·have r:=ht i (by omega)
  have e:=Ox t i (by omega)
  refine⟨by omega,by omega,by omega,by omega,i+1,by omega,by omega,by omega,?_⟩
  have:=yN (cN t) 0 0 i (by omega)
  rw[hl,e]at this;exact this
 ·rw[AU (by omega),show t.length-i=0 by omega];simp
def Ge:List AD->Option Post
 | [.c (.rows .i64 t),.c (.int .i64 x)]=>some ⟨bX t=true/\0<=x/\x<=(t.length:Int)-1,.c (.int .i64 (bk t x.toNat)),[]⟩
 |_=>none
def YV:Fits Tryz.prog 156 ⟨[],Ge⟩:=by
 refine ffv (Γ:=ah [(211,⟨[],vO⟩)]) (aq Pj aN) Tryz.func156 λds p h ξ=>?_
 unfold Ge at h;split at h<;>cases h
 rename_i t x
 refine⟨aj,ar,ac x t.length/\((t.getD x.toNat []).length<=(1099511627776:Nat)/\True)/\bm (0:Int) (t.getD x.toNat []) (0:Int)=bk t x.toNat/\True,by kernel_rfl,?_⟩
 simp only[aO]at ξ⊢;obtain⟨h1,h2,h3⟩:=ξ;have r:=(gH h1).2.2 x.toNat (by omega)
 have:=(gH h1).2.1
 exact⟨by omega,by omega,rfl⟩
def vz(t:D7):Post:=⟨aJ t,.c (.bool (bo t)),[]⟩
def Gg:List AD->Option Post
 | [.c (.rows .i64 t)]=>some (vz t)
 |_=>none
def OM(t:D7):Nat->Option Ann
 |0=>T' (λi=>⟨⟨[(0,G' t),(15,A' t.length),(16,A' i)],[]⟩,i<=t.length/\bX t=true/\bo t=(List.range' i (t.length-i)).all (gP t),t.length-i⟩) (λi b_=>match b_ with|2=>T' (λj=>⟨⟨[(0,G' t),(15,A' t.length),(16,A' i),(3,A' i),(38,A' t.length),(39,A' j)],[]⟩,j<=t.length/\i<t.length/\bo t=((List.range' j (t.length-j)).all (iN t i)&&(List.range' (i+1) (t.length-(i+1))).all (gP t)),t.length-j⟩) (λj b_=>match b_ with|4=>Q' λk=>⟨⟨[(0,G' t),(15,A' t.length),(16,A' i),(3,A' i),(38,A' t.length),(39,A' j),(4,A' j),(43,A' t.length),(44,A' k)],[]⟩,k<=t.length/\j<t.length/\bo t=((List.range' k (t.length-k)).all (jT t i j)&&((List.range' (j+1) (t.length-(j+1))).all (iN t i)&&(List.range' (i+1) (t.length-(i+1))).all (gP t))),t.length-k⟩|_=>none)|_=>none)
 |_=>none
def ON:List (Nat×Ctr):=[(145,⟨[],KJ⟩),(146,⟨[],GH⟩)]
def vA(t:D7)(x0:Nat)(x1:Nat)(x2:Nat):=(List.all (List.range' x0 (t.length-x0)) (jT t x1 x2)&&(List.all (List.range' (x2+(1:Nat)) (t.length-(x2+(1:Nat)))) (iN t x1)&&List.all (List.range' (x1+(1:Nat)) (t.length-(x1+(1:Nat)))) (gP t)))
def vB(t:D7)(x0:Nat)(x1:Nat):=(List.all (List.range' x0 (t.length-x0)) (iN t x1)&&List.all (List.range' (x1+(1:Nat)) (t.length-(x1+(1:Nat)))) (gP t))
def Gh(t:D7):Prop :=
 (((aJ t)/\True)/\(ab (!bX t) ((false=bo t)/\True) (((aJ t)/\True)/\(ab (!List.all t cH) ((false=bo t)/\True) ((∃x0:Nat,(((x0<=t.length)/\((bX t=true)/\(bo t=List.all (List.range' x0 (t.length-x0)) (gP t))))/\((t=t)/\(((↑(t.length):Int)=(↑(t.length):Int))/\((0:Int)=(↑x0:Int))))))/\(∀x1:Nat,(((x1<=t.length)/\((bX t=true)/\(bo t=List.all (List.range' x1 (t.length-x1)) (gP t))))->(ab (decide ((↑x1:Int)<(↑(t.length):Int))) ((ac (0:Int) t.length)/\((ac (↑x1:Int) ((t.getD (0:Nat) []).length))/\(ab ((List.getD t (0:Nat) []).getD (↑x1:Int).toNat (0:Int) != (↑x1:Int)) ((false=bo t)/\True) ((ac (↑x1:Int) t.length)/\((ac (0:Int) ((t.getD (↑x1:Int).toNat []).length))/\(ab ((List.getD t (↑x1:Int).toNat []).getD (0:Nat) (0:Int) != (↑x1:Int)) ((false=bo t)/\True) ((∃x2:Nat,(((x2<=t.length)/\((x1<t.length)/\(bo t=(vB t x2 x1))))/\((t=t)/\(((↑(t.length):Int)=(↑(t.length):Int))/\(((↑x1:Int)=(↑x1:Int))/\(((↑x1:Int)=(↑x1:Int))/\(((↑(t.length):Int)=(↑(t.length):Int))/\((0:Int)=(↑x2:Int)))))))))/\(∀x3:Nat,(((x3<=t.length)/\((x1<t.length)/\(bo t=(vB t x3 x1))))->(ab (decide ((↑x3:Int)<(↑(t.length):Int))) ((∃x4:Nat,(((x4<=t.length)/\((x3<t.length)/\(bo t=(vA t x4 x1 x3))))/\((t=t)/\(((↑(t.length):Int)=(↑(t.length):Int))/\(((↑x1:Int)=(↑x1:Int))/\(((↑x1:Int)=(↑x1:Int))/\(((↑(t.length):Int)=(↑(t.length):Int))/\(((↑x3:Int)=(↑x3:Int)) /\
 (((↑x3:Int)=(↑x3:Int))/\(((↑(t.length):Int)=(↑(t.length):Int))/\((0:Int)=(↑x4:Int))))))))))))/\(∀x5:Nat,(((x5<=t.length)/\((x3<t.length)/\(bo t=(vA t x5 x1 x3))))->(ab (decide ((↑x5:Int)<(↑(t.length):Int))) ((ac (↑x1:Int) t.length)/\((ac (↑x3:Int) ((t.getD (↑x1:Int).toNat []).length))/\((ac ((List.getD t (↑x1:Int).toNat []).getD (↑x3:Int).toNat (0:Int)) t.length)/\((ac (↑x5:Int) ((t.getD (((List.getD t (↑x1:Int).toNat []).getD (↑x3:Int).toNat (0:Int)).toNat) []).length))/\((ac (↑x1:Int) t.length)/\((ac (↑x3:Int) t.length)/\((ac (↑x5:Int) ((t.getD (↑x3:Int).toNat []).length))/\((ac ((List.getD t (↑x3:Int).toNat []).getD (↑x5:Int).toNat (0:Int)) ((t.getD (↑x1:Int).toNat []).length))/\(ab ((List.getD t ((List.getD (List.getD t (↑x1:Int).toNat []) (↑x3:Int).toNat (0:Int)).toNat) []).getD (↑x5:Int).toNat (0:Int) != (List.getD t (↑x1:Int).toNat []).getD (((List.getD t (↑x3:Int).toNat []).getD (↑x5:Int).toNat (0:Int)).toNat) (0:Int)) ((false=bo t)/\True) ((ae ((↑x5:Int)+(1:Int)))/\(∃x6:Nat,(((x6<=t.length)/\((x3<t.length)/\(bo t=(vA t x6 x1 x3))))/\((t.length-x6<t.length-x5)/\((t=t)/\(((↑(t.length):Int)=(↑(t.length):Int))/\(((↑x1:Int)=(↑x1:Int))/\(((↑x1:Int)=(↑x1:Int))/\(((↑(t.length):Int)=(↑(t.length):Int))/\(((↑x3:Int)=(↑x3:Int))/\(((↑x3:Int)=(↑x3:Int))/\(((↑(t.length):Int)=(↑(t.length):Int))/\((↑x5:Int)+(1:Int)=(↑x6:Int)))))))))))))))))))))))
 ((ae ((↑x3:Int)+(1:Int)))/\(∃x7:Nat,(((x7<=t.length)/\((x1<t.length)/\(bo t=(vB t x7 x1))))/\((t.length-x7<t.length-x3)/\((t=t)/\(((↑(t.length):Int)=(↑(t.length):Int))/\(((↑x1:Int)=(↑x1:Int))/\(((↑x1:Int)=(↑x1:Int))/\(((↑(t.length):Int)=(↑(t.length):Int))/\((↑x3:Int)+(1:Int)=(↑x7:Int))))))))))))))) ((ae ((↑x1:Int)+(1:Int)))/\(∃x8:Nat,(((x8<=t.length)/\((bX t=true)/\(bo t=List.all (List.range' x8 (t.length-x8)) (gP t))))/\((t.length-x8<t.length-x1)/\((t=t)/\(((↑(t.length):Int)=(↑(t.length):Int))/\((↑x1:Int)+(1:Int)=(↑x8:Int)))))))))))))))))) ((true=bo t)/\True)))))))))
def YW(t:D7):aP Tryz.prog (ah ON) aj (OM t) Tryz.f98 (aI Tryz.f98) [] [.c (.rows .i64 t)] (vz t)=Gh t:=by kernel_rfl
def YX(t:D7)(ξ:(vz t).pre):Gh t:=by
 simp only[vz,Gh,vA,vB,aO]at ξ⊢;refine⟨ξ,λh=>by simp[bo,h],λh1=>⟨ξ,λh2=>by simp[bo,h2],λh2=>⟨⟨0,⟨by omega,h1,by rw[bo,h1,h2,Az,Az,oZ]⟩,rfl⟩,λi ⟨hi,_,he⟩=>?_⟩⟩⟩
 obtain⟨n1,n2,ht⟩:=gH h1;refine⟨λh3=>?_,λh3=>by rw[he,oY _ (by omega)]⟩
 ·have r0:=ht 0 (by omega)
  have ri:=ht i (by omega)
  rw[oX _ (by omega)]at he
  refine⟨by omega,by omega,λh4=>?_,λh4=>⟨by omega,by omega,λh5=>?_,λh5=>⟨⟨0,⟨by omega,by omega,?_⟩,rfl⟩,λj ⟨hj,_,hy⟩=>⟨λh6=>⟨⟨0,⟨by omega,by omega,?_⟩,rfl⟩,λk ⟨hk,_,hz⟩=>⟨λh7=>?_,λh7=>?_⟩⟩,λh6=>?_⟩⟩⟩⟩
  ·rw[he,gP,jU,show decide (en t 0 i=(i:Int))=false from Ad h4];rfl
  ·rw[he,gP,jU,show decide (en t i 0=(i:Int))=false from Ad h5];simp
  ·rw[he,gP,jU,show decide (en t 0 i=(i:Int))=true from Ab h4,show decide (en t i 0=(i:Int))=true from Ab h5,qL,oZ];rfl
  ·rw[hy,oX _ (by omega),iN,oZ,Bool.and_assoc]
  ·have rj:=ht j (by omega)
   have a:=ri.2 j (by omega)
   have b:=rj.2 k (by omega)
   have rr:=ht ((t.getD i []).getD j 0).toNat (by omega)
   rw[oX _ (by omega)]at hz
   refine⟨by omega,by omega,by omega,by omega,by omega,by omega,by omega,by omega,λh8=>?_,λh8=>⟨by omega,k+1,⟨by omega,by omega,?_⟩,by omega,by omega⟩⟩
   ·rw[hz,show jT t i j k=false from Ad h8];rfl
   ·rw[hz,show jT t i j k=true from Ab h8];rfl
  ·refine⟨by omega,j+1,⟨by omega,by omega,?_⟩,by omega,by omega⟩
   rw[hz,oY _ (by omega),Az]
  ·refine⟨by omega,i+1,⟨by omega,h1,?_⟩,by omega,by omega⟩
   rw[hy,oY _ (by omega),Az]
def YY:Fits Tryz.prog 98 ⟨[],Gg⟩:=by
 refine aQ (Γ:=ah ON) (aq aF7 (aq ZL aN)) Tryz.func98 λds p h hp=>?_
 unfold Gg at h;split at h
 ·cases h
  exact⟨aj,OM _ ,by rw[YW];exact YX _  hp⟩
 ·cases h
def vC(t:D7):Post:=⟨aJ t,.c (.bool (bo t)),[]⟩
def Gi:List AD->Option Post
 | [.c (.rows .i64 t)]=>some (vC t)
 |_=>none
def OO(t:D7):Nat->Option Ann
 |0=>T' (λi=>⟨⟨[(0,G' t),(3,A' i)],[]⟩,i<=t.length/\bX t=true/\bo t=(List.range' i (t.length-i)).all (gQ t),t.length-i⟩) (λi b_=>match b_ with|2=>T' (λj=>⟨⟨[(0,G' t),(3,A' i),(4,A' j)],[]⟩,j<=t.length/\i<t.length/\bo t=((List.range' j (t.length-j)).all (iN t i)&&(List.range' (i+1) (t.length-(i+1))).all (gQ t)),t.length-j⟩) (λj b_=>match b_ with|4=>Q' λk=>⟨⟨[(0,G' t),(3,A' i),(4,A' j),(5,A' k)],[]⟩,k<=t.length/\j<t.length/\bo t=((List.range' k (t.length-k)).all (jT t i j)&&((List.range' (j+1) (t.length-(j+1))).all (iN t i)&&(List.range' (i+1) (t.length-(i+1))).all (gQ t))),t.length-k⟩|_=>none)|_=>none)
 |_=>none
def OP:List (Nat×Ctr):=[(141,⟨[],KB⟩),(131,⟨[],vS⟩)]
def vD(t:D7)(x0:Nat)(x1:Nat)(x2:Nat):=(List.all (List.range' x0 (t.length-x0)) (jT t x1 x2)&&(List.all (List.range' (x2+(1:Nat)) (t.length-(x2+(1:Nat)))) (iN t x1)&&List.all (List.range' (x1+(1:Nat)) (t.length-(x1+(1:Nat)))) (gQ t)))
def vE(t:D7)(x0:Nat)(x1:Nat):=(List.all (List.range' x0 (t.length-x0)) (iN t x1)&&List.all (List.range' (x1+(1:Nat)) (t.length-(x1+(1:Nat)))) (gQ t))
def kO(t:D7)(x0:Nat):=(t.getD (↑x0:Int).toNat [])
def Gj(t:D7):Prop :=
 (((aJ t)/\True)/\(ab (!bX t) ((false=bo t)/\True) ((∃x0:Nat,(((x0<=t.length)/\((bX t=true)/\(bo t=List.all (List.range' x0 (t.length-x0)) (gQ t))))/\((t=t)/\((0:Int)=(↑x0:Int)))))/\(∀x1:Nat,(((x1<=t.length)/\((bX t=true)/\(bo t=List.all (List.range' x1 (t.length-x1)) (gQ t))))->(ab (decide ((↑x1:Int)<(↑(t.length):Int))) ((ac (0:Int) t.length)/\((ac (↑x1:Int) ((t.getD (0:Nat) []).length))/\(ab ((List.getD t (0:Nat) []).getD (↑x1:Int).toNat (0:Int) != (↑x1:Int)) ((false=bo t)/\True) ((ac (↑x1:Int) t.length)/\((ac (0:Int) (kO t x1).length)/\(ab ((List.getD t (↑x1:Int).toNat []).getD (0:Nat) (0:Int) != (↑x1:Int)) ((false=bo t)/\True) ((ac (↑x1:Int) t.length)/\((((kO t x1).length<=(1099511627776:Nat))/\True)/\(ab (!(decide ((1:Int)<=(↑((t.getD (↑x1:Int).toNat []).length):Int)/\(↑((t.getD (↑x1:Int).toNat []).length):Int)<=(12:Int))&&cH (t.getD (↑x1:Int).toNat []))) ((false=bo t)/\True) ((∃x2:Nat,(((x2<=t.length)/\((x1<t.length)/\(bo t=(vE t x2 x1))))/\((t=t)/\(((↑x1:Int)=(↑x1:Int))/\((0:Int)=(↑x2:Int))))))/\(∀x3:Nat,(((x3<=t.length)/\((x1<t.length)/\(bo t=(vE t x3 x1))))->(ab (decide ((↑x3:Int)<(↑(t.length):Int))) ((∃x4:Nat,(((x4<=t.length)/\((x3<t.length)/\(bo t=(vD t x4 x1 x3))))/\((t=t)/\(((↑x1:Int)=(↑x1:Int))/\(((↑x3:Int)=(↑x3:Int))/\((0:Int)=(↑x4:Int)))))))/\(∀x5:Nat,(((x5<=t.length)/\((x3<t.length) /\
 (bo t=(vD t x5 x1 x3))))->(ab (decide ((↑x5:Int)<(↑(t.length):Int))) ((ac (↑x1:Int) t.length)/\((ac (↑x3:Int) (kO t x1).length)/\((ac ((kO t x1).getD (↑x3:Int).toNat (0:Int)) t.length)/\((ac (↑x5:Int) ((t.getD (((kO t x1).getD (↑x3:Int).toNat (0:Int)).toNat) []).length))/\((ac (↑x1:Int) t.length)/\((ac (↑x3:Int) t.length)/\((ac (↑x5:Int) (kO t x3).length)/\((ac ((kO t x3).getD (↑x5:Int).toNat (0:Int)) (kO t x1).length)/\(ab ((List.getD t ((List.getD (List.getD t (↑x1:Int).toNat []) (↑x3:Int).toNat (0:Int)).toNat) []).getD (↑x5:Int).toNat (0:Int) != (List.getD t (↑x1:Int).toNat []).getD (((List.getD t (↑x3:Int).toNat []).getD (↑x5:Int).toNat (0:Int)).toNat) (0:Int)) ((false=bo t)/\True) ((ae ((↑x5:Int)+(1:Int)))/\(∃x6:Nat,(((x6<=t.length)/\((x3<t.length)/\(bo t=(vD t x6 x1 x3))))/\((t.length-x6<t.length-x5)/\((t=t)/\(((↑x1:Int)=(↑x1:Int))/\(((↑x3:Int)=(↑x3:Int))/\((↑x5:Int)+(1:Int)=(↑x6:Int)))))))))))))))))) ((ae ((↑x3:Int)+(1:Int)))/\(∃x7:Nat,(((x7<=t.length)/\((x1<t.length)/\(bo t=(vE t x7 x1))))/\((t.length-x7<t.length-x3)/\((t=t)/\(((↑x1:Int)=(↑x1:Int))/\((↑x3:Int)+(1:Int)=(↑x7:Int)))))))))))) ((ae ((↑x1:Int)+(1:Int)))/\(∃x8:Nat,(((x8<=t.length)/\((bX t=true)/\(bo t=List.all (List.range' x8 (t.length-x8)) (gQ t))))/\((t.length-x8<t.length-x1)/\((t=t)/\((↑x1:Int)+(1:Int)=(↑x8:Int))))))))))))))))))))
 ((true=bo t)/\True)))))))
def YZ(t:D7):aP Tryz.prog (ah OP) aj (OO t) Tryz.f94 (aI Tryz.f94) [] [.c (.rows .i64 t)] (vC t)=Gj t:=by kernel_rfl
def Y3(t:D7)(ξ:(vC t).pre):Gj t:=by
 simp only[vC,Gj,vD,vE,kO,aO]at ξ⊢;refine⟨ξ,λh=>by simp[bo,h],λh1=>⟨⟨0,⟨by omega,h1,by rw[YD,h1,Az,oZ]⟩,rfl⟩,λi ⟨hi,_,he⟩=>?_⟩⟩
 obtain⟨n1,n2,ht⟩:=gH h1;refine⟨λh3=>?_,λh3=>by rw[he,oY _ (by omega)]⟩
 have hr:=(ht i (by omega)).1
 have hd:decide (1<=((t.getD i []).length:Int)/\((t.getD i []).length:Int)<=12)=true:=Ab (by omega)
 have np:(decide (1<=((t.getD i []).length:Int)/\((t.getD i []).length:Int)<=12)&&cH (t.getD i []))=false->cH (t.getD i [])=false:=λh=>by rwa[hd,Az]at h
 have yp:(decide (1<=((t.getD i []).length:Int)/\((t.getD i []).length:Int)<=12)&&cH (t.getD i []))=true->cH (t.getD i [])=true:=λh=>by rwa[hd,Az]at h
 ·have r0:=ht 0 (by omega)
  have ri:=ht i (by omega)
  rw[oX _ (by omega)]at he
  refine⟨by omega,by omega,λh4=>?_,λh4=>⟨by omega,by omega,λh5=>?_,λh5=>⟨by omega,by omega,λhp=>?_,λhp=>⟨⟨0,⟨by omega,by omega,?_⟩,rfl⟩,λj ⟨hj,_,hy⟩=>⟨λh6=>⟨⟨0,⟨by omega,by omega,?_⟩,rfl⟩,λk ⟨hk,_,hz⟩=>⟨λh7=>?_,λh7=>?_⟩⟩,λh6=>?_⟩⟩⟩⟩⟩
  ·rw[he,gQ,jU,show decide (en t 0 i=(i:Int))=false from Ad h4];rfl
  ·rw[he,gQ,jU,show decide (en t i 0=(i:Int))=false from Ad h5];simp
  ·rw[he,gQ,show cH (t.getD i [])=false from np hp];simp
  ·rw[he,gQ,jU,show decide (en t 0 i=(i:Int))=true from Ab h4,show decide (en t i 0=(i:Int))=true from Ab h5,show cH (t.getD i [])=true from yp hp,qL,oZ];rfl
  ·rw[hy,oX _ (by omega),iN,oZ,Bool.and_assoc]
  ·have rj:=ht j (by omega)
   have a:=ri.2 j (by omega)
   have b:=rj.2 k (by omega)
   have rr:=ht ((t.getD i []).getD j 0).toNat (by omega)
   rw[oX _ (by omega)]at hz
   refine⟨by omega,by omega,by omega,by omega,by omega,by omega,by omega,by omega,λh8=>?_,λh8=>⟨by omega,k+1,⟨by omega,by omega,?_⟩,by omega,by omega⟩⟩
   ·rw[hz,show jT t i j k=false from Ad h8];rfl
   ·rw[hz,show jT t i j k=true from Ab h8];rfl
  ·refine⟨by omega,j+1,⟨by omega,by omega,?_⟩,by omega,by omega⟩
   rw[hz,oY _ (by omega),Az]
  ·refine⟨by omega,i+1,⟨by omega,h1,?_⟩,by omega,by omega⟩
   rw[hy,oY _ (by omega),Az]
def Y5:Fits Tryz.prog 94 ⟨[],Gi⟩:=by
 refine aQ (Γ:=ah OP) (aq aE6 (aq Po aN)) Tryz.func94 λds p h hp=>?_
 unfold Gi at h;split at h
 ·cases h
  exact⟨aj,OO _ ,by rw[YZ];exact Y3 _  hp⟩
 ·cases h
end Go.Sx
