/- MpgC -/
import Derived.Test.YtkmldclpaniclaaGreatMpgL
import Derived.Test.YtkmldclpaniclaaGreatGrp
open Go Go.Proofs
namespace Go.Sx
set_option linter.unusedSimpArgs false
set_option linter.unusedVariables false
def oh(n:Nat)(fr tt:List (List (List Int)))(s:MS):Prop:=n<=100/\fr.length=tt.length/\fr.length<=100/\cI n fr/\cI n tt/\MW n s
def FE(d:Nat)(fr:List (List (List Int)))(tt:List (List (List Int)))(im:List Int)(us:List Bool)(st:List Int)(p:Int)(v:Int):SV:=.c (.bool ((aF fr tt d p v (im,us,st)).1))
def FF(d:Nat)(fr:List (List (List Int)))(tt:List (List (List Int)))(im:List Int)(us:List Bool)(st:List Int)(p:Int)(v:Int):List MA:=[.box [.c (.r3 .i64 fr),.c (.r3 .i64 tt),.ob (.ints 2 .i64 ((aF fr tt d p v (im,us,st)).2.1)),.ob (.bools 4 ((aF fr tt d p v (im,us,st)).2.2.1)),.ob (.ints 2 .i64 ((aF fr tt d p v (im,us,st)).2.2.2))],.m (.c (.int .i64 p)),.m (.c (.int .i64 v))]
def FG(d:Nat)(fr:List (List (List Int)))(tt:List (List (List Int)))(im:List Int)(us:List Bool)(st:List Int)(p:Int)(v:Int):List (Nat×Ob):=[]
def mI(d:Nat)(fr:List (List (List Int)))(tt:List (List (List Int)))(im:List Int)(us:List Bool)(st:List Int)(p:Int)(v:Int):Post:=⟨oh im.length fr tt (im,us,st)/\b9 im<d/\0<=p/\p<(im.length:Int)/\0<=v/\v<(im.length:Int),.st (FE d fr tt im us st p v) (FG d fr tt im us st p v) (FF d fr tt im us st p v),[]⟩
def mJ(d:Nat):List AD->Option Post
 | [.ma (.box [.c (.r3 .i64 fr),.c (.r3 .i64 tt),.ob (.ints 2 .i64 im),.ob (.bools 4 us),.ob (.ints 2 .i64 st)]),.ma (.m (.c (.int .i64 p))),.ma (.m (.c (.int .i64 v)))]=>some (mI d fr tt im us st p v)
 |_=>none
def FH(d:Nat)(fr:List (List (List Int)))(tt:List (List (List Int)))(im:List Int)(us:List Bool)(st:List Int)(p:Int)(v:Int):Nat->Option Ann
 |0=>some (Ann.mk ((Nat)×(List Int)×(List Bool)×(List Int)) (fun x=>match x with|(i,a,b,c)=>⟨[(0,.c (.ptr 7000 0)),(1,.c (.int .i64 p)),(2,.c (.int .i64 v)),(7,.c (.int .i64 ((i:Int))))],[(7000,some (.box [.ro (.r3 .i64 fr),.ro (.r3 .i64 tt),.own 7003,.own 7004,.own 7005])),(7003,some (.ints 2 .i64 a)),(7004,some (.bools 4 b)),(7005,some (.ints 2 .i64 c))]⟩) (fun x=>match x with|(i,a,b,c)=>MW im.length (a,b,c)/\b9 a+1<d/\dz (aF fr tt (d-1)) fr tt p v (im.length+1-i) i (a,b,c)=aF fr tt d p v (im,us,st)) (fun x=>match x with|(i,a,b,c)=>im.length+1-i) (fun x=>match x with|(i,a,b,c)=>fun b_=>match b_ with|2=>some (Ann.mk ((Nat)×(List Int)×(List Bool)×(List Int)) (fun x=>match x with|(k,a2,b2,c2)=>⟨[(0,.c (.ptr 7000 0)),(1,.c (.int .i64 p)),(2,.c (.int .i64 v)),(7,.c (.int .i64 ((i:Int)))),(8,.c (.int .i64 ((c.getD i 0)))),(77,.c (.ro (.r3 .i64 fr))),(78,.c (.int .i64 ((fr.length:Int)))),(79,.c (.int .i64 ((k:Int))))],[(7000,some (.box [.ro (.r3 .i64 fr),.ro (.r3 .i64 tt),.own 7003,.own 7004,.own 7005])),(7003,some (.ints 2 .i64 a2)),(7004,some (.bools 4 b2)),(7005,some (.ints 2 .i64 c2))]⟩) (fun x=>match x with|(k,a2,b2,c2)=>k<=fr.length/\MX im.length (a,b,c) (a2,b2,c2)/\bP (aF fr tt (d-1)) p v (c.getD i 0) (fr.drop k) (tt.drop k) (a2,b2,c2)=bP (aF fr tt (d-1)) p v (c.getD i 0) fr tt (a,b,c)) (fun x=>match x with|(k,a2,b2,c2)=>fr.length-k) (fun _=>av))|_=>none))
 |_=>none
def FI(d:Nat):List (Nat×Ctr):=[(180,⟨[(0,93),(0,93)],mJ d⟩)]
def FJ(tt:List (List (List Int)))(v:Int)(x0:Nat×List Int×List Bool×List Int)(x1:Nat×List Int×List Bool×List Int):=((List.getD (List.getD tt (↑x0.1:Int).toNat ([]:List (List Int))) v.toNat []).getD ((x0.2.1.getD ((x1.2.2.2.getD x1.1 (0:Int)).toNat) (0:Int)).toNat) (0:Int))
def eS(d:Nat)(fr:List (List (List Int)))(tt:List (List (List Int)))(p:Int)(v:Int)(x0:Nat×List Int×List Bool×List Int)(x1:Nat×List Int×List Bool×List Int):=((aF fr tt d ((List.getD (List.getD fr (↑x0.1:Int).toNat ([]:List (List Int))) p.toNat []).getD ((x1.2.2.2.getD x1.1 (0:Int)).toNat) (0:Int)) (FJ tt v x0 x1) (x0.2.1,x0.2.2.1,x0.2.2.2)).2)
def ol(d:Nat)(fr:List (List (List Int)))(tt:List (List (List Int)))(p:Int)(v:Int)(x0:Nat×List Int×List Bool×List Int)(x1:Nat×List Int×List Bool×List Int):=((List.getD tt (↑x0.1:Int).toNat ([]:List (List Int))).getD ((((eS d fr tt p v x0 x1).1).getD ((x1.2.2.2.getD x1.1 (0:Int)).toNat) (0:Int)).toNat) [])
def kU(d:Nat)(fr:List (List (List Int)))(tt:List (List (List Int)))(p:Int)(v:Int)(x0:Nat×List Int×List Bool×List Int)(x1:Nat×List Int×List Bool×List Int):=((aF fr tt d ((List.getD (List.getD fr (↑x0.1:Int).toNat ([]:List (List Int))) ((List.getD x1.2.2.2 x1.1 (0:Int)).toNat) []).getD p.toNat (0:Int)) ((ol d fr tt p v x0 x1).getD v.toNat (0:Int)) ((eS d fr tt p v x0 x1).1,((eS d fr tt p v x0 x1).2).1,((eS d fr tt p v x0 x1).2).2)).2)
def fg(d:Nat)(fr:List (List (List Int)))(tt:List (List (List Int)))(im:List Int)(us:List Bool)(st:List Int)(p:Int)(v:Int):=((aF fr tt (d+(1:Nat)) p v (im,us,st)).2)
def xm(d:Nat)(fr:List (List (List Int)))(tt:List (List (List Int)))(im:List Int)(us:List Bool)(st:List Int)(p:Int)(v:Int):Prop :=
 (ab p im.length/\(ae (decide ((0:Int)<=im.getD p.toNat (0:Int))) (ab p im.length/\(im.getD p.toNat (0:Int) == v)=(aF fr tt (d+(1:Nat)) p v (im,us,st)).1/\fr=fr/\tt=tt/\im=(fg d fr tt im us st p v).1/\us=((fg d fr tt im us st p v).2).1/\st=((fg d fr tt im us st p v).2).2) (ab v us.length/\(ae (us.getD v.toNat false) (false=(aF fr tt (d+(1:Nat)) p v (im,us,st)).1/\fr=fr/\tt=tt/\im=(fg d fr tt im us st p v).1/\us=((fg d fr tt im us st p v).2).1/\st=((fg d fr tt im us st p v).2).2) (ab p im.length/\(ab v us.length/\(ah (st.length+[p].length)/\((∃x0:Nat×List Int×List Bool×List Int,(MW im.length (x0.2.1,x0.2.2.1,x0.2.2.2)/\b9 x0.2.1+(1:Nat)<d+(1:Nat)/\dz (aF fr tt (d+(1:Nat)-(1:Nat))) fr tt p v (im.length+(1:Nat)-x0.1) x0.1 (x0.2.1,x0.2.2.1,x0.2.2.2)=aF fr tt (d+(1:Nat)) p v (im,us,st))/\p=p/\v=v/\(0:Int)=(↑x0.1:Int)/\fr=fr/\tt=tt/\List.set im p.toNat v=x0.2.1/\List.set us v.toNat true=x0.2.2.1/\st++[p]=x0.2.2.2)/\(∀x1:Nat×List Int×List Bool×List Int,((MW im.length (x1.2.1,x1.2.2.1,x1.2.2.2)/\b9 x1.2.1+(1:Nat)<d+(1:Nat)/\dz (aF fr tt (d+(1:Nat)-(1:Nat))) fr tt p v (im.length+(1:Nat)-x1.1) x1.1 (x1.2.1,x1.2.2.1,x1.2.2.2)=aF fr tt (d+(1:Nat)) p v (im,us,st)) ->
 (ae (decide ((↑x1.1:Int)<(x1.2.2.2.length:Int))) (ab (↑x1.1:Int) x1.2.2.2.length/\((∃x2:Nat×List Int×List Bool×List Int,(x2.1<=fr.length/\MX im.length (x1.2.1,x1.2.2.1,x1.2.2.2) (x2.2.1,x2.2.2.1,x2.2.2.2)/\bP (aF fr tt (d+(1:Nat)-(1:Nat))) p v (x1.2.2.2.getD x1.1 (0:Int)) (List.drop x2.1 fr) (List.drop x2.1 tt) (x2.2.1,x2.2.2.1,x2.2.2.2)=bP (aF fr tt (d+(1:Nat)-(1:Nat))) p v (x1.2.2.2.getD x1.1 (0:Int)) fr tt (x1.2.1,x1.2.2.1,x1.2.2.2))/\p=p/\v=v/\(↑x1.1:Int)=(↑x1.1:Int)/\x1.2.2.2.getD (↑x1.1:Int).toNat (0:Int)=x1.2.2.2.getD x1.1 (0:Int)/\fr=fr/\(fr.length:Int)=(fr.length:Int)/\(0:Int)=(↑x2.1:Int)/\fr=fr/\tt=tt/\x1.2.1=x2.2.1/\x1.2.2.1=x2.2.2.1/\x1.2.2.2=x2.2.2.2)/\(∀x3:Nat×List Int×List Bool×List Int,(x3.1<=fr.length/\MX im.length (x1.2.1,x1.2.2.1,x1.2.2.2) (x3.2.1,x3.2.2.1,x3.2.2.2)/\bP (aF fr tt (d+(1:Nat)-(1:Nat))) p v (x1.2.2.2.getD x1.1 (0:Int)) (List.drop x3.1 fr) (List.drop x3.1 tt) (x3.2.1,x3.2.2.1,x3.2.2.2)=bP (aF fr tt (d+(1:Nat)-(1:Nat))) p v (x1.2.2.2.getD x1.1 (0:Int)) fr tt (x1.2.1,x1.2.2.1,x1.2.2.2)->(ae (decide ((↑x3.1:Int)<(fr.length:Int))) (ab (↑x3.1:Int) fr.length/\(ab p ((fr.getD (↑x3.1:Int).toNat ([]:List (List Int))).length)/\((ab (x1.2.2.2.getD x1.1 (0:Int)) (((List.getD fr (↑x3.1:Int).toNat ([]:List (List Int))).getD p.toNat []).length)) /\
 (ab (↑x3.1:Int) tt.length/\(ab v ((tt.getD (↑x3.1:Int).toNat ([]:List (List Int))).length)/\(ab (x1.2.2.2.getD x1.1 (0:Int)) x3.2.1.length/\(ab (x3.2.1.getD ((x1.2.2.2.getD x1.1 (0:Int)).toNat) (0:Int)) (((List.getD tt (↑x3.1:Int).toNat ([]:List (List Int))).getD v.toNat []).length)/\((oh x3.2.1.length fr tt (x3.2.1,x3.2.2.1,x3.2.2.2)/\b9 x3.2.1<d/\(0:Int)<=(List.getD (List.getD fr (↑x3.1:Int).toNat ([]:List (List Int))) p.toNat []).getD ((x1.2.2.2.getD x1.1 (0:Int)).toNat) (0:Int)/\(List.getD (List.getD fr (↑x3.1:Int).toNat ([]:List (List Int))) p.toNat []).getD ((x1.2.2.2.getD x1.1 (0:Int)).toNat) (0:Int)<(x3.2.1.length:Int)/\(0:Int)<=(List.getD (List.getD tt (↑x3.1:Int).toNat ([]:List (List Int))) v.toNat []).getD ((x3.2.1.getD ((x1.2.2.2.getD x1.1 (0:Int)).toNat) (0:Int)).toNat) (0:Int)/\(List.getD (List.getD tt (↑x3.1:Int).toNat ([]:List (List Int))) v.toNat []).getD ((x3.2.1.getD ((x1.2.2.2.getD x1.1 (0:Int)).toNat) (0:Int)).toNat) (0:Int)<(x3.2.1.length:Int))/\(ae (!(aF fr tt d ((List.getD (List.getD fr (↑x3.1:Int).toNat ([]:List (List Int))) p.toNat []).getD ((x1.2.2.2.getD x1.1 (0:Int)).toNat) (0:Int)) ((List.getD (List.getD tt (↑x3.1:Int).toNat ([]:List (List Int))) v.toNat []).getD ((x3.2.1.getD ((x1.2.2.2.getD x1.1 (0:Int)).toNat) (0:Int)).toNat) (0:Int)) (x3.2.1,x3.2.2.1,x3.2.2.2)).1) (false=(aF fr tt (d+(1:Nat)) p v (im,us,st)).1/\(fr=fr/\((tt=tt) /\
 (((eS d fr tt p v x3 x1).1=(fg d fr tt im us st p v).1)/\((((eS d fr tt p v x3 x1).2).1=((fg d fr tt im us st p v).2).1)/\(((eS d fr tt p v x3 x1).2).2=((fg d fr tt im us st p v).2).2)))))) ((ab (x1.2.2.2.getD x1.1 (0:Int)) ((fr.getD (↑x3.1:Int).toNat ([]:List (List Int))).length))/\((ab p (((List.getD fr (↑x3.1:Int).toNat ([]:List (List Int))).getD ((x1.2.2.2.getD x1.1 (0:Int)).toNat) []).length))/\((ab (↑x3.1:Int) tt.length)/\((ab (x1.2.2.2.getD x1.1 (0:Int)) (((eS d fr tt p v x3 x1).1).length))/\((ab (((eS d fr tt p v x3 x1).1).getD ((x1.2.2.2.getD x1.1 (0:Int)).toNat) (0:Int)) ((tt.getD (↑x3.1:Int).toNat ([]:List (List Int))).length))/\((ab v (ol d fr tt p v x3 x1).length)/\(((oh (((eS d fr tt p v x3 x1).1).length) fr tt ((eS d fr tt p v x3 x1).1,((eS d fr tt p v x3 x1).2).1,((eS d fr tt p v x3 x1).2).2))/\((b9 (eS d fr tt p v x3 x1).1<d)/\(((0:Int)<=(List.getD (List.getD fr (↑x3.1:Int).toNat ([]:List (List Int))) ((List.getD x1.2.2.2 x1.1 (0:Int)).toNat) []).getD p.toNat (0:Int))/\(((List.getD (List.getD fr (↑x3.1:Int).toNat ([]:List (List Int))) ((List.getD x1.2.2.2 x1.1 (0:Int)).toNat) []).getD p.toNat (0:Int)<(↑(((eS d fr tt p v x3 x1).1).length):Int))/\(((0:Int)<=(ol d fr tt p v x3 x1).getD v.toNat (0:Int)) /\
 ((ol d fr tt p v x3 x1).getD v.toNat (0:Int)<(↑(((eS d fr tt p v x3 x1).1).length):Int))))))) /\
 (ae (!(aF fr tt d ((List.getD (List.getD fr (↑x3.1:Int).toNat ([]:List (List Int))) ((List.getD x1.2.2.2 x1.1 (0:Int)).toNat) []).getD p.toNat (0:Int)) ((List.getD (List.getD tt (↑x3.1:Int).toNat ([]:List (List Int))) ((List.getD (((aF fr tt d (List.getD (List.getD (List.getD fr (↑x3.1:Int).toNat ([]:List (List Int))) p.toNat []) ((List.getD x1.2.2.2 x1.1 (0:Int)).toNat) (0:Int)) (List.getD (List.getD (List.getD tt (↑x3.1:Int).toNat ([]:List (List Int))) v.toNat []) ((List.getD x3.2.1 ((List.getD x1.2.2.2 x1.1 (0:Int)).toNat) (0:Int)).toNat) (0:Int)) (x3.2.1,x3.2.2.1,x3.2.2.2)).2).1) ((List.getD x1.2.2.2 x1.1 (0:Int)).toNat) (0:Int)).toNat) []).getD v.toNat (0:Int)) (((aF fr tt d ((List.getD (List.getD fr (↑x3.1:Int).toNat ([]:List (List Int))) p.toNat []).getD ((x1.2.2.2.getD x1.1 (0:Int)).toNat) (0:Int)) ((List.getD (List.getD tt (↑x3.1:Int).toNat ([]:List (List Int))) v.toNat []).getD ((x3.2.1.getD ((x1.2.2.2.getD x1.1 (0:Int)).toNat) (0:Int)).toNat) (0:Int)) (x3.2.1,x3.2.2.1,x3.2.2.2)).2).1,(((aF fr tt d ((List.getD (List.getD fr (↑x3.1:Int).toNat ([]:List (List Int))) p.toNat []).getD ((x1.2.2.2.getD x1.1 (0:Int)).toNat) (0:Int)) ((List.getD (List.getD tt (↑x3.1:Int).toNat ([]:List (List Int))) v.toNat []).getD ((x3.2.1.getD ((x1.2.2.2.getD x1.1 (0:Int)).toNat) (0:Int)).toNat) (0:Int)) (x3.2.1,x3.2.2.1,x3.2.2.2)).2).2).1,(((aF fr tt d ((List.getD (List.getD fr (↑x3.1:Int).toNat ([]:List (List Int))) p.toNat []).getD ((x1.2.2.2.getD x1.1 (0:Int)).toNat) (0:Int)) ((List.getD (List.getD tt (↑x3.1:Int).toNat ([]:List (List Int))) v.toNat []).getD ((x3.2.1.getD ((x1.2.2.2.getD x1.1 (0:Int)).toNat) (0:Int)).toNat) (0:Int)) (x3.2.1,x3.2.2.1,x3.2.2.2)).2).2).2)).1)
 ((false=(aF fr tt (d+(1:Nat)) p v (im,us,st)).1)/\((fr=fr)/\((tt=tt)/\(((kU d fr tt p v x3 x1).1=(fg d fr tt im us st p v).1)/\((((kU d fr tt p v x3 x1).2).1=((fg d fr tt im us st p v).2).1)/\(((kU d fr tt p v x3 x1).2).2=((fg d fr tt im us st p v).2).2)))))) ((ac ((↑x3.1:Int)+(1:Int)))/\(∃x4:Nat×List Int×List Bool×List Int,(((x4.1<=fr.length)/\((MX im.length (x1.2.1,x1.2.2.1,x1.2.2.2) (x4.2.1,x4.2.2.1,x4.2.2.2))/\(bP (aF fr tt (d+(1:Nat)-(1:Nat))) p v (x1.2.2.2.getD x1.1 (0:Int)) (List.drop x4.1 fr) (List.drop x4.1 tt) (x4.2.1,x4.2.2.1,x4.2.2.2)=bP (aF fr tt (d+(1:Nat)-(1:Nat))) p v (x1.2.2.2.getD x1.1 (0:Int)) fr tt (x1.2.1,x1.2.2.1,x1.2.2.2))))/\((fr.length-x4.1<fr.length-x3.1)/\((p=p)/\((v=v)/\(((↑x1.1:Int)=(↑x1.1:Int))/\((x1.2.2.2.getD x1.1 (0:Int)=x1.2.2.2.getD x1.1 (0:Int))/\((fr=fr)/\(((fr.length:Int)=(fr.length:Int))/\(((↑x3.1:Int)+(1:Int)=(↑x4.1:Int))/\((fr=fr)/\((tt=tt)/\(((kU d fr tt p v x3 x1).1=x4.2.1)/\((((kU d fr tt p v x3 x1).2).1=x4.2.2.1)/\(((kU d fr tt p v x3 x1).2).2=x4.2.2.2))))))))))))))))))))))))))))))))) ((ac ((↑x1.1:Int)+(1:Int)))/\(∃x5:Nat×List Int×List Bool×List Int,(((MW im.length (x5.2.1,x5.2.2.1,x5.2.2.2))/\((b9 x5.2.1+(1:Nat)<d+(1:Nat)) /\
 (dz (aF fr tt (d+(1:Nat)-(1:Nat))) fr tt p v (im.length+(1:Nat)-x5.1) x5.1 (x5.2.1,x5.2.2.1,x5.2.2.2)=aF fr tt (d+(1:Nat)) p v (im,us,st))))/\((im.length+(1:Nat)-x5.1<im.length+(1:Nat)-x1.1)/\((p=p)/\((v=v)/\(((↑x1.1:Int)+(1:Int)=(↑x5.1:Int))/\((fr=fr)/\((tt=tt)/\((x3.2.1=x5.2.1)/\((x3.2.2.1=x5.2.2.1)/\(x3.2.2.2=x5.2.2.2))))))))))))))))) ((true=(aF fr tt (d+(1:Nat)) p v (im,us,st)).1)/\((fr=fr)/\((tt=tt)/\((x1.2.1=(fg d fr tt im us st p v).1)/\((x1.2.2.1=((fg d fr tt im us st p v).2).1)/\(x1.2.2.2=((fg d fr tt im us st p v).2).2)))))))))))))))))
theorem Nt(d:Nat)(fr:List (List (List Int)))(tt:List (List (List Int)))(im:List Int)(us:List Bool)(st:List Int)(p:Int)(v:Int):kE Tryz.prog (aj (FI d)) am (FH (d+1) fr tt im us st p v) Tryz.f180 (aP Tryz.f180) [.box [.c (.r3 .i64 fr),.c (.r3 .i64 tt),.ob (.ints 2 .i64 im),.ob (.bools 4 us),.ob (.ints 2 .i64 st)],.m (.c (.int .i64 p)),.m (.c (.int .i64 v))] (FE (d+1) fr tt im us st p v) (gn 0 (FF (d+1) fr tt im us st p v)++gK (FG (d+1) fr tt im us st p v))=xm d fr tt im us st p v:=by kernel_rfl
theorem Nu(d:Nat)(fr:List (List (List Int)))(tt:List (List (List Int)))(im:List Int)(us:List Bool)(st:List Int)(p:Int)(v:Int)(Yh:(mI (d+1) fr tt im us st p v).pre):xm d fr tt im us st p v:=by
 simp only[mI,xm,FJ,eS,ol,kU,fg,aX,u1,u2,u3,u4,u5,u6,u7,u8,u9,v1,v2,v3,v4,v5,v6,v7,v8,v9,w1,w2,w3,w4,aN,ab,ac,ah,ax]at Yh⊢;obtain⟨⟨hn,hlen,hf100,hfr,htt,hw⟩,hfd,hp0,hpn,hv0,hvn⟩:=Yh;have hus:us.length=im.length:=hw.us
 refine⟨⟨hp0,hpn⟩,fun h0=>⟨⟨hp0,hpn⟩,?_⟩,fun h0=>⟨⟨hv0,by omega⟩,fun h1=>?_,fun h1=>⟨⟨hp0,hpn⟩,⟨hv0,by omega⟩,?_,?_,?_⟩⟩⟩
 ·have e:aF fr tt (d+1) p v (im,us,st)=(decide (gi im p=v),im,us,st):=by rw[aF];exact if_pos h0
  rw[e];exact⟨rfl,rfl,rfl,rfl⟩
 ·have e:aF fr tt (d+1) p v (im,us,st)=(false,im,us,st):=by rw[aF];exact(if_neg h0).trans (if_pos h1)
  rw[e];exact⟨rfl,rfl,rfl,rfl⟩
 ·have:=hw.cnt;simp only at this;omega
 ·have e:aF fr tt (d+1) p v (im,us,st)=dz (aF fr tt d) fr tt p v (im.length+1) 0 (im.set p.toNat v,us.set v.toNat true,st++[p]):=by
   rw[aF];exact(if_neg h0).trans (if_neg (by simp only;rw[h1];simp))
  have hput:=hw.put hp0 hpn hv0 hvn (by simp only[gi];omega) h1
  have hfs:=rH (l:=im) (i:=p.toNat) (v:=v) (by omega) (by omega) hv0
  exact⟨(0,im.set p.toNat v,us.set v.toNat true,st++[p]),⟨hput.wf,by simp only;omega,e.symm⟩,rfl,rfl,rfl,rfl⟩
 ·rintro⟨i,a,b,c⟩ ⟨hmw,hfa,hI⟩
  simp only[Nat.add_sub_cancel]at hmw hfa hI⊢;have hA:=kZ hfr htt d
  have hcn:=hmw.cnt
  simp only at hcn;refine⟨fun hi=>?_,?_⟩
  ·have hi':i<c.length:=by omega
   have hE:im.length+1-i=(im.length-i)+1:=by omega
   rw[hE]at hI;have hmem:c.getD i 0∈c:=by rw[List.getD,List.getElem?_eq_getElem hi'];exact List.getElem_mem hi'
   obtain⟨hy0,hyn,hyg⟩:=hmw.st _ hmem;refine⟨⟨by omega,hi⟩,⟨(0,a,b,c),⟨Nat.zero_le _,.refl hmw,rfl⟩,rfl,rfl,rfl,rfl⟩,?_⟩
   generalize hyd:c.getD i 0=y at *
   have eF:(bP (aF fr tt d) p v y fr tt (a,b,c)).1=false->aF fr tt (d+1) p v (im,us,st)=bP (aF fr tt d) p v y fr tt (a,b,c):=fun h=>by
    have:=Gi (A:=aF fr tt d) (fr:=fr) (tt:=tt) (x:=p) (v:=v) (e:=im.length-i) (i:=i) (s:=(a,b,c)) hi' (by simp only[hyd];exact h)
    simp only[hyd]at this;exact hI.symm.trans this
   have eT:(bP (aF fr tt d) p v y fr tt (a,b,c)).1=true->aF fr tt (d+1) p v (im,us,st)=dz (aF fr tt d) fr tt p v (im.length-i) (i+1) (bP (aF fr tt d) p v y fr tt (a,b,c)).2:=fun h=>by
    have:=xA (A:=aF fr tt d) (fr:=fr) (tt:=tt) (x:=p) (v:=v) (e:=im.length-i) (i:=i) (s:=(a,b,c)) hi' (by simp only[hyd];exact h)
    simp only[hyd]at this;exact hI.symm.trans this
   rintro⟨k,a2,b2,c2⟩ ⟨hk,hx,hK⟩
   simp only at hk hx hK⊢;have hlen2:a2.length=im.length:=hx.wf.im
   have hy2:gi a2 y=gi a y:=hx.keep y hy0 hyn hyg
   have hy2g:0<=gi a2 y:=by rw[hy2];exact hyg
   have hy2n:gi a2 y<(im.length:Int):=hx.wf.rg y hy0 hyn
   have hfa2:b9 a2<=b9 a:=hx.fre
   refine⟨fun hk1=>?_,fun hk1=>?_⟩
   ·have hkl:k<fr.length:=by omega
    have hkt:k<tt.length:=by omega
    have hdf:fr.drop k=fr.getD k []::fr.drop (k+1):=by rw[List.drop_eq_getElem_cons hkl,List.getD,List.getElem?_eq_getElem hkl];rfl
    have hdt:tt.drop k=tt.getD k []::tt.drop (k+1):=by rw[List.drop_eq_getElem_cons hkt,List.getD,List.getElem?_eq_getElem hkt];rfl
    have t1:=hfr (fr.getD k []) (by rw[List.getD,List.getElem?_eq_getElem hkl];exact List.getElem_mem hkl)
    have u1:=htt (tt.getD k []) (by rw[List.getD,List.getElem?_eq_getElem hkt];exact List.getElem_mem hkt)
    rw[hdf,hdt]at hK;generalize fr.getD k []=t at *
    generalize tt.getD k []=u at *
    obtain⟨g10,g11⟩:=(t1.2 p y hp0 hpn).2 hy0 hyn;obtain⟨g20,g21⟩:=(u1.2 v _ hv0 hvn).2 hy2g hy2n;obtain⟨g30,g31⟩:=(t1.2 y p hy0 hyn).2 hp0 hpn;have hr:=hA (g2 t p y) (g2 u v (gi a2 y)) (a2,b2,c2) g10 g11 g20 g21 hx.wf
    refine⟨⟨by omega,hk1⟩,⟨hp0,by omega⟩,⟨hy0,by rw[(t1.2 p 0 hp0 hpn).1];exact hyn⟩,⟨by omega,by omega⟩,⟨hv0,by omega⟩,⟨hy0,by omega⟩,⟨hy2g,by rw[(u1.2 v 0 hv0 hvn).1];exact hy2n⟩,⟨by rw[hlen2];exact⟨hn,hlen,hf100,hfr,htt,hx.wf⟩,by omega,g10,by rw[hlen2];exact g11,g20,by rw[hlen2];exact g21⟩,fun hq=>?_,fun hq=>?_⟩
    ·have e:=Gg (v:=v) (x:=p) (y:=y) (fr:=fr.drop (k+1)) (tt:=tt.drop (k+1)) hq
     rw[e]at hK;have e2:=eF (by rw[<-hK];exact hq)
     rw[e2,<-hK];exact⟨hq.symm,rfl,rfl,rfl⟩
    ·have hw1:=hr.wf
     have hy3:0<=gi (aF fr tt d (g2 t p y) (g2 u v (gi a2 y)) (a2,b2,c2)).2.1 y:=by rw[hr.keep y hy0 hyn hy2g];exact hy2g
     have hy3n:=hw1.rg y hy0 hyn
     have hl3:(aF fr tt d (g2 t p y) (g2 u v (gi a2 y)) (a2,b2,c2)).2.1.length=im.length:=hw1.im
     have hf3:b9 (aF fr tt d (g2 t p y) (g2 u v (gi a2 y)) (a2,b2,c2)).2.1<=b9 a2:=hr.fre
     have eTF:=Gh (v:=v) (x:=p) (y:=y) (fr:=fr.drop (k+1)) (tt:=tt.drop (k+1)) hq
     have eTT:=xz (v:=v) (x:=p) (y:=y) (fr:=fr.drop (k+1)) (tt:=tt.drop (k+1)) hq
     have h3:(aF fr tt d ((t.getD p.toNat []).getD y.toNat 0) ((u.getD v.toNat []).getD (a2.getD y.toNat 0).toNat 0) (a2,b2,c2))=aF fr tt d (g2 t p y) (g2 u v (gi a2 y)) (a2,b2,c2):=rfl
     rw[h3]at⊢;have hx13:MX im.length (a,b,c) (aF fr tt d (g2 t p y) (g2 u v (gi a2 y)) (a2,b2,c2)).2:=hx.trans hr
     have e30:aF fr tt d (g2 t p y) (g2 u v (gi (a2,b2,c2).1 y)) (a2,b2,c2)=aF fr tt d (g2 t p y) (g2 u v (gi a2 y)) (a2,b2,c2):=rfl
     rw[e30]at eTF eTT;generalize aF fr tt d (g2 t p y) (g2 u v (gi a2 y)) (a2,b2,c2)=r at *
     obtain⟨rb,a3,b3,c3⟩:=r;simp only at hw1 hy3 hy3n hl3 hf3 eTF eTT hx13⊢;obtain⟨g40,g41⟩:=(u1.2 _ v hy3 hy3n).2 hv0 hvn;have hr4:=hA (g2 t y p) (g2 u (gi a3 y) v) (a3,b3,c3) g30 g31 g40 g41 hw1
     refine⟨⟨hy0,by omega⟩,⟨hp0,by rw[(t1.2 y 0 hy0 hyn).1];exact hpn⟩,⟨by omega,by omega⟩,⟨hy0,by omega⟩,⟨hy3,by rw[u1.1];exact hy3n⟩,⟨hv0,?_⟩,⟨by rw[hl3];exact⟨hn,hlen,hf100,hfr,htt,hw1⟩,by omega,g30,by rw[hl3];exact g31,g40,by rw[hl3];exact g41⟩,fun hq2=>?_,fun hq2=>?_⟩
     ·have:=(u1.2 (gi a3 y) 0 hy3 hy3n).1
      show v<((u.getD (gi a3 y).toNat []).length:Int)
      rw[this];exact hvn
     ·rw[eTF hq2]at hK
      have e2:=eF (by rw[<-hK];exact hq2)
      rw[e2,<-hK];exact⟨hq2.symm,rfl,rfl,rfl⟩
     ·rw[eTT hq2]at hK
      refine⟨⟨by omega,by omega⟩,?_⟩
      exact⟨(k+1,(aF fr tt d (g2 t y p) (g2 u (gi a3 y) v) (a3,b3,c3)).2),⟨by simp only;omega,hx13.trans hr4,hK⟩,by simp only;omega,by simp only;omega,rfl,rfl,rfl⟩
   ·have hkf:k=fr.length:=by omega
    rw[hkf,List.drop_length,hlen,List.drop_length]at hK;have hK2:(true,((a2,b2,c2):MS))=bP (aF fr tt d) p v y fr tt (a,b,c):=hK
    have e2:=eT (by rw[<-hK2])
    rw[<-hK2]at e2;refine⟨⟨by omega,by omega⟩,(i+1,a2,b2,c2),⟨hx.wf,by simp only;omega,?_⟩,by simp only;omega,by simp only;omega,rfl,rfl,rfl⟩
    rw[e2]
    show dz _ fr tt p v (im.length+1-(i+1)) _ _=_
    rw[show im.length+1-(i+1)=im.length-i by omega]
  ·intro hi
   have e2:aF fr tt (d+1) p v (im,us,st)=(true,a,b,c):=by
    rw[<-hI];cases im.length+1-i with
    |zero=>rfl
    |succ e=>rw[dz];exact if_neg (by simp only;omega)
   rw[e2];exact⟨rfl,rfl,rfl,rfl⟩
theorem Nv(fr:List (List (List Int)))(tt:List (List (List Int)))(im:List Int)(us:List Bool)(st:List Int)(p:Int)(v:Int)(h:(mI 0 fr tt im us st p v).pre):False:=by
 simp only[mI]at h;omega
theorem Nx(d:Nat):Fits Tryz.prog 180 ⟨[(0,93),(0,93)],mJ d⟩:=by
 induction d with
 |zero =>
  refine Co ⟨Tryz.f180,Tryz.func180,by kernel_rfl,by kernel_rfl⟩ fun ds p h hp=>?_
  unfold mJ at h;split at h
  ·cases h
   exact Nv _ _ _ _ _ _ _  hp
  ·cases h
 |succ d ih =>
  refine nL (Γ:=aj (FI d)) (aD ih aW) Tryz.func180 (by kernel_rfl) (by kernel_rfl) (fun ads p h=>?_) fun mas q sv ex outs h hq=>?_
  ·unfold mJ at h
   split at h
   ·cases h;rfl
   ·cases h
  ·unfold mJ at h
   split at h
   ·rename_i heq
    have heq:=md (l:=[_,_,_]) heq
    subst heq;unfold mI at h;cases h;exact⟨am,FH _ _ _ _ _ _ _ _ ,by rw[Nt];exact Nu _ _ _ _ _ _ _ _  hq⟩
   ·cases h
def ry(l:List Int)(x:Int):Post:=⟨l.length<=1099511627776,.c (.int .i64 (bd x l 0)),[]⟩
def xn:List AD->Option Post
 | [.c (.ints .i64 l),.c (.int .i64 x)]=>some (ry l x)
 |_=>none
def FK(l:List Int)(x:Int):Nat->Option Ann
 |0=>some (Ann.mk ((Nat)) (fun i=>⟨[(0,.c (.ro (.ints .i64 l))),(1,.c (.int .i64 x)),(6,.c (.ro (.ints .i64 l))),(7,.c (.int .i64 ((l.length:Int)))),(8,.c (.int .i64 ((i:Int))))],[]⟩) (fun i=>i<=l.length/\bd x l 0=bd x (l.drop i) (i:Int)) (fun i=>l.length-i) (fun _=>av))
 |_=>none
def FL:List (Nat×Ctr):=[]
def xo(l:List Int)(x:Int):Prop :=
 (∃x0:Nat,(x0<=l.length/\bd x l (0:Int)=bd x (List.drop x0 l) (x0:Int))/\l=l/\x=x/\l=l/\(l.length:Int)=(l.length:Int)/\(0:Int)=(x0:Int))/\∀x1:Nat,x1<=l.length/\bd x l (0:Int)=bd x (List.drop x1 l) (x1:Int)->ae (decide ((x1:Int)<(l.length:Int))) (ab (x1:Int) l.length/\ae (x == l.getD (x1:Int).toNat (0:Int)) ((x1:Int)=bd x l (0:Int)/\True) (ac ((x1:Int)+(1:Int))/\∃x2:Nat,(x2<=l.length/\bd x l (0:Int)=bd x (List.drop x2 l) (x2:Int))/\l.length-x2<l.length-x1/\l=l/\x=x/\l=l/\(l.length:Int)=(l.length:Int)/\(x1:Int)+(1:Int)=(x2:Int))) ((-1:Int)=bd x l (0:Int)/\True)
theorem Ny(l:List Int)(x:Int):aY Tryz.prog (aj FL) am (FK l x) Tryz.f179 (aP Tryz.f179) [] [.c (.ints .i64 l),.c (.int .i64 x)] (ry l x)=xo l x:=by kernel_rfl
theorem Nz(l:List Int)(x:Int)(Yh:(ry l x).pre):xo l x:=by
 simp only[ry,xo,aX,u1,u2,u3,u4,u5,u6,u7,u8,u9,v1,v2,v3,v4,v5,v6,v7,v8,v9,w1,w2,w3,w4,aN,ab,ac,ah,ax]at Yh⊢;refine⟨⟨0,⟨by omega,rfl⟩,rfl⟩,fun i ⟨hi,he⟩=>⟨fun h=>?_,fun h=>?_⟩⟩
 ·rw[drop_cons' l 0 i (by omega)]at he
  simp only[bd]at he;refine⟨by omega,fun h2=>?_,fun h2=>⟨by omega,i+1,⟨by omega,?_⟩,by omega,by omega⟩⟩
  ·rw[he,if_pos h2.symm]
  ·rw[he,if_neg fun e=>h2 e.symm];simp
 ·rw[he,List.drop_of_length_le (by omega)];rfl
theorem NA:Fits Tryz.prog 179 ⟨[],xn⟩:=by
 refine bf (Γ:=aj FL) aW Tryz.func179 fun ds p h hp=>?_
 unfold xn at h;split at h
 ·cases h
  exact⟨am,FK _ _ ,by rw[Ny];exact Nz _ _  hp⟩
 ·cases h
def xp(n:Nat)(fr tt:List (List (List Int)))(s:MS):Prop:=oh n fr tt s/\MI n s
def FM(d:Nat)(fr:List (List (List Int)))(tt:List (List (List Int)))(im:List Int)(us:List Bool)(st:List Int)(Y:YJ)(pre:List (List Int)):SV:=.c (.bool ((ba Y.go pre (bB fr tt d (im,us,st))).2))
def FN(d:Nat)(fr:List (List (List Int)))(tt:List (List (List Int)))(im:List Int)(us:List Bool)(st:List Int)(Y:YJ)(pre:List (List Int)):List MA:=[.box [.c (.r3 .i64 fr),.c (.r3 .i64 tt),.ob (.ints 2 .i64 im),.ob (.bools 4 us),.ob (.ints 2 .i64 st)],.m (.ob (.yd ((ba Y.go pre (bB fr tt d (im,us,st))).1.length-pre.length) Y (ba Y.go pre (bB fr tt d (im,us,st))).1 (ba Y.go pre (bB fr tt d (im,us,st))).2))]
def FO(d:Nat)(fr:List (List (List Int)))(tt:List (List (List Int)))(im:List Int)(us:List Bool)(st:List Int)(Y:YJ)(pre:List (List Int)):List (Nat×Ob):=[]
def mK(d:Nat)(fr:List (List (List Int)))(tt:List (List (List Int)))(im:List Int)(us:List Bool)(st:List Int)(Y:YJ)(pre:List (List Int)):Post:=⟨xp im.length fr tt (im,us,st)/\b9 im<d/\Y.P=Tryz.prog/\Y.e=2/\eo Y.ok Y.go pre (bB fr tt d (im,us,st)),.st (FM d fr tt im us st Y pre) (FO d fr tt im us st Y pre) (FN d fr tt im us st Y pre),[]⟩
def mL(d:Nat):List AD->Option Post
 | [.ma (.box [.c (.r3 .i64 fr),.c (.r3 .i64 tt),.ob (.ints 2 .i64 im),.ob (.bools 4 us),.ob (.ints 2 .i64 st)]),.ma (.m (.ob (.yd 0 Y pre true)))]=>some (mK d fr tt im us st Y pre)
 |_=>none
def FP(d:Nat)(fr:List (List (List Int)))(tt:List (List (List Int)))(im:List Int)(us:List Bool)(st:List Int)(Y:YJ)(pre:List (List Int)):Nat->Option Ann
 |0=>some (Ann.mk ((Nat)×(Nat)×(List (List Int))) (fun x=>match x with|(v,k,pr)=>⟨[(0,.c (.ptr 7000 0)),(1,.c (.own 7100)),(5,.c (.int .i64 ((bd (-1) im 0)))),(6,.c (.int .i64 ((st.length:Int)))),(31,.c (.int .i64 ((im.length:Int)))),(32,.c (.int .i64 ((v:Int))))],[(7000,some (.box [.ro (.r3 .i64 fr),.ro (.r3 .i64 tt),.own 7003,.own 7004,.own 7005])),(7003,some (.ints 2 .i64 im)),(7004,some (.bools 4 us)),(7005,some (.ints 2 .i64 st)),(7100,some (.yd k Y pr true))]⟩) (fun x=>match x with|(v,k,pr)=>v<=im.length/\k+pre.length=pr.length/\ba Y.go pr (fB fr tt (bB fr tt (d-1)) (im,us,st) (bd (-1) im 0) (im.length-v) v)=ba Y.go pre (bB fr tt d (im,us,st))/\eo Y.ok Y.go pr (fB fr tt (bB fr tt (d-1)) (im,us,st) (bd (-1) im 0) (im.length-v) v)) (fun x=>match x with|(v,k,pr)=>im.length-v) (fun _=>av))
 |_=>none
def FQ(d:Nat):List (Nat×Ctr):=[(179,⟨[],xn⟩),(180,⟨[(0,93),(0,93)],mJ 101⟩),(181,⟨[(0,93),(0,93)],qR⟩),(130,⟨[(0,93),(0,93)],mL d⟩)]
def dO(fr:List (List (List Int)))(tt:List (List (List Int)))(im:List Int)(us:List Bool)(st:List Int)(x0:Nat×Nat×List (List Int)):=((aF fr tt (101:Nat) (bd (-1:Int) im (0:Int)) (↑x0.1:Int) (im,us,st)).2)
def g7(d:Nat)(fr:List (List (List Int)))(tt:List (List (List Int)))(im:List Int)(us:List Bool)(st:List Int)(x0:Nat×Nat×List (List Int)):=(fB fr tt (bB fr tt (d+(1:Nat)-(1:Nat))) (im,us,st) (bd (-1:Int) im (0:Int)) (im.length-x0.1) x0.1)
def kV(fr:List (List (List Int)))(tt:List (List (List Int)))(im:List Int)(us:List Bool)(st:List Int)(x0:Nat×Nat×List (List Int)):=(dh (List.drop ((↑(st.length):Int).toNat) (((dO fr tt im us st x0).2).2)) (dO fr tt im us st x0).1 (((dO fr tt im us st x0).2).1))
def jm(fr:List (List (List Int)))(tt:List (List (List Int)))(im:List Int)(us:List Bool)(st:List Int)(x0:Nat×Nat×List (List Int)):=((dO fr tt im us st x0).1,((dO fr tt im us st x0).2).1,((dO fr tt im us st x0).2).2)
def xq(d:Nat)(fr:List (List (List Int)))(tt:List (List (List Int)))(im:List Int)(us:List Bool)(st:List Int)(Y:YJ)(pre:List (List Int)):Prop :=
 ((im.length<=(1099511627776:Nat)/\True)/\(ae (decide (bd (-1:Int) im (0:Int)<(0:Int))) ((YJ.P Y=Go.Proofs.Tryz.prog/\YJ.e Y=(2:Nat)/\true=true/\YJ.ok Y pre im)/\YJ.go Y pre im=(ba (YJ.go Y) pre (bB fr tt (d+(1:Nat)) (im,us,st))).2/\fr=fr/\tt=tt/\im=im/\us=us/\st=st/\(1:Nat)=((ba (YJ.go Y) pre (bB fr tt (d+(1:Nat)) (im,us,st))).1).length-pre.length/\Y=Y/\pre++im::([]:List (List Int))=(ba (YJ.go Y) pre (bB fr tt (d+(1:Nat)) (im,us,st))).1/\YJ.go Y pre im=(ba (YJ.go Y) pre (bB fr tt (d+(1:Nat)) (im,us,st))).2) ((∃x0:Nat×Nat×List (List Int),((x0.1<=im.length/\x0.2.1+pre.length=(x0.2.2).length/\ba (YJ.go Y) x0.2.2 (g7 d fr tt im us st x0)=ba (YJ.go Y) pre (bB fr tt (d+(1:Nat)) (im,us,st))/\eo (YJ.ok Y) (YJ.go Y) x0.2.2 (g7 d fr tt im us st x0))/\bd (-1:Int) im (0:Int)=bd (-1:Int) im (0:Int)/\(st.length:Int)=(st.length:Int)/\(im.length:Int)=(im.length:Int)/\(0:Int)=(↑x0.1:Int)/\fr=fr/\tt=tt/\im=im/\us=us/\st=st/\(0:Nat)=x0.2.1/\Y=Y/\pre=x0.2.2/\true=true))/\(∀x1:Nat×Nat×List (List Int),((x1.1<=im.length/\(x1.2.1+pre.length=(x1.2.2).length/\((ba (YJ.go Y) x1.2.2 (g7 d fr tt im us st x1)=ba (YJ.go Y) pre (bB fr tt (d+(1:Nat)) (im,us,st))) /\
 (eo (YJ.ok Y) (YJ.go Y) x1.2.2 (g7 d fr tt im us st x1)))))->(ae (decide ((↑x1.1:Int)<(im.length:Int))) ((ab (↑x1.1:Int) us.length)/\(ae (us.getD (↑x1.1:Int).toNat false) ((ac ((↑x1.1:Int)+(1:Int)))/\(∃x2:Nat×Nat×List (List Int),(((x2.1<=im.length)/\((x2.2.1+pre.length=(x2.2.2).length)/\((ba (YJ.go Y) x2.2.2 (g7 d fr tt im us st x2)=ba (YJ.go Y) pre (bB fr tt (d+(1:Nat)) (im,us,st)))/\(eo (YJ.ok Y) (YJ.go Y) x2.2.2 (g7 d fr tt im us st x2)))))/\((im.length-x2.1<im.length-x1.1)/\((bd (-1:Int) im (0:Int)=bd (-1:Int) im (0:Int))/\(((st.length:Int)=(st.length:Int))/\(((im.length:Int)=(im.length:Int))/\(((↑x1.1:Int)+(1:Int)=(↑x2.1:Int))/\((fr=fr)/\((tt=tt)/\((im=im)/\((us=us)/\((st=st)/\((x1.2.1=x2.2.1)/\((Y=Y)/\((x1.2.2=x2.2.2)/\(true=true))))))))))))))))) (((oh im.length fr tt (im,us,st))/\((b9 im<(101:Nat))/\(((0:Int)<=bd (-1:Int) im (0:Int))/\((bd (-1:Int) im (0:Int)<(im.length:Int))/\(((0:Int)<=(↑x1.1:Int))/\((↑x1.1:Int)<(im.length:Int)))))))/\(ae ((aF fr tt (101:Nat) (bd (-1:Int) im (0:Int)) (↑x1.1:Int) (im,us,st)).1) (((xp (((dO fr tt im us st x1).1).length) fr tt (jm fr tt im us st x1))/\((b9 (dO fr tt im us st x1).1<d)/\((YJ.P Y=Go.Proofs.Tryz.prog)/\((YJ.e Y=(2:Go.TypeId))/\(eo (YJ.ok Y) (YJ.go Y) x1.2.2 (bB fr tt d (jm fr tt im us st x1)))))))/\((((0:Int)<=(st.length:Int)) /\
 (((st.length:Int)<=(↑((((dO fr tt im us st x1).2).2).length):Int))/\(((((dO fr tt im us st x1).2).2).length<=(1000:Nat))/\(iN (List.drop ((st.length:Int).toNat) (((dO fr tt im us st x1).2).2)) (dO fr tt im us st x1).1 (((dO fr tt im us st x1).2).1)))))/\(ae (!(ba (YJ.go Y) x1.2.2 (bB fr tt d (((aF fr tt (101:Nat) (bd (-1:Int) im (0:Int)) (↑x1.1:Int) (im,us,st)).2).1,(((aF fr tt (101:Nat) (bd (-1:Int) im (0:Int)) (↑x1.1:Int) (im,us,st)).2).2).1,(((aF fr tt (101:Nat) (bd (-1:Int) im (0:Int)) (↑x1.1:Int) (im,us,st)).2).2).2))).2) ((false=(ba (YJ.go Y) pre (bB fr tt (d+(1:Nat)) (im,us,st))).2)/\((fr=fr)/\((tt=tt)/\(((kV fr tt im us st x1).1=im)/\(((kV fr tt im us st x1).2=us)/\((List.take ((st.length:Int).toNat) (((dO fr tt im us st x1).2).2)=st)/\((x1.2.1+(((ba (YJ.go Y) x1.2.2 (bB fr tt d (jm fr tt im us st x1))).1).length-x1.2.2.length)=((ba (YJ.go Y) pre (bB fr tt (d+(1:Nat)) (im,us,st))).1).length-pre.length)/\((Y=Y)/\(((ba (YJ.go Y) x1.2.2 (bB fr tt d (jm fr tt im us st x1))).1=(ba (YJ.go Y) pre (bB fr tt (d+(1:Nat)) (im,us,st))).1)/\((ba (YJ.go Y) x1.2.2 (bB fr tt d (jm fr tt im us st x1))).2=(ba (YJ.go Y) pre (bB fr tt (d+(1:Nat)) (im,us,st))).2)))))))))) ((ac ((↑x1.1:Int)+(1:Int)))/\(∃x3:Nat×Nat×List (List Int),(((x3.1<=im.length)/\((x3.2.1+pre.length=(x3.2.2).length) /\
 ((ba (YJ.go Y) x3.2.2 (g7 d fr tt im us st x3)=ba (YJ.go Y) pre (bB fr tt (d+(1:Nat)) (im,us,st)))/\(eo (YJ.ok Y) (YJ.go Y) x3.2.2 (g7 d fr tt im us st x3)))))/\((im.length-x3.1<im.length-x1.1)/\((bd (-1:Int) im (0:Int)=bd (-1:Int) im (0:Int))/\(((st.length:Int)=(st.length:Int))/\(((im.length:Int)=(im.length:Int))/\(((↑x1.1:Int)+(1:Int)=(↑x3.1:Int))/\((fr=fr)/\((tt=tt)/\(((kV fr tt im us st x1).1=im)/\(((kV fr tt im us st x1).2=us)/\((List.take ((st.length:Int).toNat) (((dO fr tt im us st x1).2).2)=st)/\((x1.2.1+(((ba (YJ.go Y) x1.2.2 (bB fr tt d (jm fr tt im us st x1))).1).length-x1.2.2.length)=x3.2.1)/\((Y=Y)/\(((ba (YJ.go Y) x1.2.2 (bB fr tt d (jm fr tt im us st x1))).1=x3.2.2)/\((ba (YJ.go Y) x1.2.2 (bB fr tt d (jm fr tt im us st x1))).2=true)))))))))))))))))))) ((((0:Int)<=(st.length:Int))/\(((st.length:Int)<=(↑((((dO fr tt im us st x1).2).2).length):Int))/\(((((dO fr tt im us st x1).2).2).length<=(1000:Nat))/\(iN (List.drop ((st.length:Int).toNat) (((dO fr tt im us st x1).2).2)) (dO fr tt im us st x1).1 (((dO fr tt im us st x1).2).1)))))/\((ac ((↑x1.1:Int)+(1:Int)))/\(∃x4:Nat×Nat×List (List Int),(((x4.1<=im.length)/\((x4.2.1+pre.length=(x4.2.2).length)/\((ba (YJ.go Y) x4.2.2 (g7 d fr tt im us st x4)=ba (YJ.go Y) pre (bB fr tt (d+(1:Nat)) (im,us,st))) /\
 (eo (YJ.ok Y) (YJ.go Y) x4.2.2 (g7 d fr tt im us st x4)))))/\((im.length-x4.1<im.length-x1.1)/\((bd (-1:Int) im (0:Int)=bd (-1:Int) im (0:Int))/\(((st.length:Int)=(st.length:Int))/\(((im.length:Int)=(im.length:Int))/\(((↑x1.1:Int)+(1:Int)=(↑x4.1:Int))/\((fr=fr)/\((tt=tt)/\(((kV fr tt im us st x1).1=im)/\(((kV fr tt im us st x1).2=us)/\((List.take ((st.length:Int).toNat) (((dO fr tt im us st x1).2).2)=st)/\((x1.2.1=x4.2.1)/\((Y=Y)/\((x1.2.2=x4.2.2)/\(true=true)))))))))))))))))))))) ((true=(ba (YJ.go Y) pre (bB fr tt (d+(1:Nat)) (im,us,st))).2)/\((fr=fr)/\((tt=tt)/\((im=im)/\((us=us)/\((st=st)/\((x1.2.1=((ba (YJ.go Y) pre (bB fr tt (d+(1:Nat)) (im,us,st))).1).length-pre.length)/\((Y=Y)/\((x1.2.2=(ba (YJ.go Y) pre (bB fr tt (d+(1:Nat)) (im,us,st))).1)/\(true=(ba (YJ.go Y) pre (bB fr tt (d+(1:Nat)) (im,us,st))).2))))))))))))))))
theorem NB(d:Nat)(fr:List (List (List Int)))(tt:List (List (List Int)))(im:List Int)(us:List Bool)(st:List Int)(Y:YJ)(pre:List (List Int)):kE Tryz.prog (aj (FQ d)) am (FP (d+1) fr tt im us st Y pre) Tryz.f130 (aP Tryz.f130) [.box [.c (.r3 .i64 fr),.c (.r3 .i64 tt),.ob (.ints 2 .i64 im),.ob (.bools 4 us),.ob (.ints 2 .i64 st)],.m (.ob (.yd 0 Y pre true))] (FM (d+1) fr tt im us st Y pre) (gn 0 (FN (d+1) fr tt im us st Y pre)++gK (FO (d+1) fr tt im us st Y pre))=xq d fr tt im us st Y pre:=by kernel_rfl
theorem NC(d:Nat)(fr:List (List (List Int)))(tt:List (List (List Int)))(im:List Int)(us:List Bool)(st:List Int)(Y:YJ)(pre:List (List Int))(Yh:(mK (d+1) fr tt im us st Y pre).pre):xq d fr tt im us st Y pre:=by
 simp only[mK,xq,dO,g7,kV,jm,aX,u1,u2,u3,u4,u5,u6,u7,u8,u9,v1,v2,v3,v4,v5,v6,v7,v8,v9,w1,w2,w3,w4,aN,ab,ac,ah,ax]at Yh⊢;obtain⟨⟨⟨hn,hlen,hf100,hfr,htt,hw⟩,hi⟩,hfd,hP,he,hok⟩:=Yh;have eL:bB fr tt (d+1) (im,us,st)=if bd (-1) im 0<0 then [im]else fB fr tt (bB fr tt d) (im,us,st) (bd (-1) im 0) im.length 0:=rfl
 refine⟨by omega,fun h0=>?_,fun h0=>?_⟩
 ·rw[eL,if_pos h0]at hok⊢
  have hv:ba Y.go pre [im]=(pre++[im],Y.go pre im):=by
   rw[ba];cases h:Y.go pre im with
   |true=>rfl
   |false=>rfl
  rw[hv];exact⟨⟨hP,he,hok.1⟩,rfl,by simp,rfl,rfl⟩
 ·rw[eL,if_neg h0]at hok⊢
  have hx:0<=bd (-1) im 0/\bd (-1) im 0<(im.length:Int)/\gi im (bd (-1) im 0)=-1:=by
   rcases xB (-1) im 0 (Int.le_refl _)with h|⟨h1,h2,h3⟩
   ·exact absurd h.1 h0
   ·exact⟨h1,by omega,by simpa[gi]using h3⟩
  simp only[Nat.add_sub_cancel];generalize bd (-1) im 0=x at *
  obtain⟨hx0,hxn,hxg⟩:=hx;have hus:us.length=im.length:=hw.us
  have hcn:st.length+b9 im=im.length:=hw.cnt
  generalize hR:ba Y.go pre (fB fr tt (bB fr tt d) (im,us,st) x im.length 0)=R
  refine⟨⟨(0,0,pre),⟨Nat.zero_le _,by simp,hR,hok⟩,rfl,rfl,rfl⟩,?_⟩
  rintro⟨v,k,pr⟩ ⟨hv,hk,hvis,hvo⟩
  simp only at hv hk hvis hvo⊢;refine⟨fun hlt=>?_,fun hge=>?_⟩
  ·have hlt':v<im.length:=by omega
   have hE:im.length-v=(im.length-(v+1))+1:=by omega
   rw[hE,fB]at hvis hvo;simp only at hvis hvo;refine⟨⟨by omega,by omega⟩,fun hu=>⟨⟨by omega,by omega⟩,?_⟩,fun hu=>?_⟩
   ·rw[if_pos hu,List.nil_append]at hvis hvo
    exact⟨(v+1,k,pr),⟨hlt',hk,hvis,hvo⟩,by simp only;omega,by simp only;omega,rfl,rfl⟩
   ·rw[if_neg (by rw[hu];simp)]at hvis hvo
    have hv0:(0:Int)<=(v:Int):=by omega
    have hM:=kZ hfr htt 101 x (v:Int) (im,us,st) hx0 hxn hv0 hlt hw
    have hL:=Gp hfr htt (d:=100) (v:=(v:Int)) hx0 hxn hv0 hlt hw (by show gi im x<0;omega) (by simpa using hu)
    have hU:=NV hw hi hM
    have hW:=hM.wf
    have hi':=hM.hon hi
    generalize aF fr tt 101 x (v:Int) (im,us,st)=r at *
    obtain⟨rb,a,b,c⟩:=r;simp only at hM hL hU hW hi' hvis hvo⊢;obtain⟨u1,u2,u3,u4⟩:=hU;have ha:a.length=im.length:=hW.im
    have hcn2:c.length+b9 a=im.length:=hW.cnt
    rw[u2,u3];refine⟨⟨⟨hn,hlen,hf100,hfr,htt,hw⟩,by omega,hx0,hxn,hv0,hlt⟩,fun hq=>?_,fun hq=>?_⟩
    ·rw[if_pos hq]at hvis hvo
     rw[Gl]at hvis;rw[Gm]at hvo;have hvl:=Gn (go:=Y.go) (bB fr tt d (a,b,c)) pr
     refine⟨⟨⟨by rw[ha];exact⟨hn,hlen,hf100,hfr,htt,hW⟩,by rw[ha];exact hi'⟩,by omega,hP,he,hvo.1⟩,⟨by omega,by omega,by omega,u1⟩,fun hz=>?_,fun hz=>⟨⟨by omega,by omega⟩,?_⟩⟩
     ·rw[if_neg (by rw[hz];simp)]at hvis
      rw[hvis]at hz hvl⊢;exact⟨hz.symm,rfl,rfl,rfl,by omega,rfl,rfl⟩
     ·rw[if_pos hz]at hvis
      exact⟨(v+1,k+((ba Y.go pr (bB fr tt d (a,b,c))).1.length-pr.length),(ba Y.go pr (bB fr tt d (a,b,c))).1),⟨hlt',by simp only;omega,hvis,hvo.2 hz⟩,by simp only;omega,by simp only;omega,rfl,rfl,rfl,rfl,rfl,hz⟩
    ·rw[if_neg (by rw[hq];simp),List.nil_append]at hvis hvo
     exact⟨⟨by omega,by omega,by omega,u1⟩,⟨by omega,by omega⟩,(v+1,k,pr),⟨hlt',hk,hvis,hvo⟩,by simp only;omega,by simp only;omega,rfl,rfl,rfl,rfl,rfl⟩
  ·have hz:im.length-v=0:=by omega
   rw[hz,fB]at hvis;rw[<-hvis];exact⟨rfl,by simp only[ba];omega,rfl,rfl⟩
theorem ND(fr:List (List (List Int)))(tt:List (List (List Int)))(im:List Int)(us:List Bool)(st:List Int)(Y:YJ)(pre:List (List Int))(h:(mK 0 fr tt im us st Y pre).pre):False:=by
 simp only[mK]at h;omega
theorem NE(d:Nat):Fits Tryz.prog 130 ⟨[(0,93),(0,93)],mL d⟩:=by
 induction d with
 |zero =>
  refine Co ⟨Tryz.f130,Tryz.func130,by kernel_rfl,by kernel_rfl⟩ fun ds p h hp=>?_
  unfold mL at h;split at h
  ·cases h
   exact ND _ _ _ _ _ _ _  hp
  ·cases h
 |succ d ih =>
  refine nL (Γ:=aj (FQ d)) (aD NA (aD (Nx 101) (aD Mw (aD ih aW)))) Tryz.func130 (by kernel_rfl) (by kernel_rfl) (fun ads p h=>?_) fun mas q sv ex outs h hq=>?_
  ·unfold mL at h
   split at h
   ·cases h;rfl
   ·cases h
  ·unfold mL at h
   split at h
   ·rename_i heq
    have heq:=md (l:=[_,_]) heq
    subst heq;unfold mK at h;cases h;exact⟨am,FP _ _ _ _ _ _ _ _ ,by rw[NB];exact NC _ _ _ _ _ _ _ _  hq⟩
   ·cases h
end Go.Sx
