/- NamD -/
import Derived.Test.YtkmldclpaniclaaGreatBrsS
import Derived.Test.YtkmldclpaniclaaGreatPrs
import Derived.Test.YtkmldclpaniclaaGreatRows
import Derived.JoinedOf
import Derived.KernelRfl
import Derived.Test.YtkmldclpaniclaaGreatGrp
set_option linter.unusedSimpArgs false
set_option linter.unusedVariables false
section
open Go Go.Proofs
namespace Go.Sx
end Go.Sx
end
section
namespace Go.Proofs.YtkmldclpaniclaaGreat
theorem ld{x y:Bool}(h:x=true)(k:y=true):(x&&y)=true:=by rw[h,k];rfl
set_option maxRecDepth 10000000 in
def rL:{ l:List Char // Tryz.prog.initOrder=String.ofList l }:=⟨_,rfl⟩
theorem N1:Tryz.prog.initOrder.toList=rL.1:=(congrArg String.toList rL.2).trans String.toList_ofList
theorem rM:∃rest,behindMainWord (wordsSigns Tryz.prog.initOrder.toList)=['c','u','t']::rest:=by
 rw[N1];have h:(behindMainWord (wordsSigns rL.1)).head?=some ['c','u','t']:=by kernel_rfl
 cases hb:behindMainWord (wordsSigns rL.1)with
 |nil=>rw[hb]at h;cases h
 |cons x y=>rw[hb]at h;cases h;exact⟨y,rfl⟩
theorem Gy(rest:List (List Char)):stripLifts liftWords (['c','u','t']::rest)=([],['c','u','t']::rest):=by rfl
theorem N2:Tryz.prog.headLifts=[]:=by
 obtain⟨rest,h⟩:=rM;unfold Program.headLifts;rw[h,Gy];rfl
theorem N3:Tryz.prog.laysLater=false:=by kernel_rfl
theorem N4:Tryz.prog.bearsReflect=false:=by kernel_rfl
theorem N5:Tryz.prog.doorRows=[]:=by kernel_rfl
theorem N6:Tryz.prog.doorFits []=true:=by
 unfold Program.doorFits;rw[N5];rfl
theorem N7(P:Program)(rest:List (List Char))(h:behindMainWord (wordsSigns P.initOrder.toList)=['c','u','t']::rest)(h1:P.laysLater=false)(h2:P.bearsReflect=false)(h3:P.doorFits []=true):P.mayEnter=true:=by
 unfold Program.mayEnter;rw[h];simp only[Gy,h1,h2,h3];simp
theorem N8(P:Program)(rest:List (List Char))(h:behindMainWord (wordsSigns P.initOrder.toList)=['c','u','t']::rest)(h1:P.headLifts=[]):(false == P.liftsFinal)=true:=by
 unfold Program.liftsFinal;rw[h,h1];rfl
theorem N9(P:Program)(rest:List (List Char))(h:behindMainWord (wordsSigns P.initOrder.toList)=['c','u','t']::rest):(P.make == some Make.cut)=true:=by
 have e1:(['c','u','t'] == "gc".toList)=false:=rfl
 have e2:(['c','u','t'] == "spec".toList)=false:=rfl
 have e3:(['c','u','t'] == "cut".toList)=true:=rfl
 unfold Program.make;rw[h];simp only[e1,e2,e3,Bool.or_false,Bool.true_or,Bool.false_eq_true,if_true,if_false];rfl
theorem Oa:Tryz.prog.mayEnter=true:=by
 obtain⟨rest,h⟩:=rM;exact N7 _ rest h N3 N4 N6
theorem Oc:(false == Tryz.prog.liftsFinal)=true:=by
 obtain⟨rest,h⟩:=rM;exact N8 _ rest h N2
theorem Od:(Tryz.prog.make == some Make.cut)=true:=by
 obtain⟨rest,h⟩:=rM;exact N9 _ rest h
end Go.Proofs.YtkmldclpaniclaaGreat
end
section
open Go Go.Proofs
namespace Go.Sx
def bI(n i:Nat)(f:Nat->Nat->Int):List (List Int):=(List.range i).map fun x=>ar n (f x)
theorem yg(n i:Nat)(f:Nat->Nat->Int):bI n (i+1) f=bI n i f++[ar n (f i)]:=qZ _ _
theorem yh(n i:Nat)(f:Nat->Nat->Int):(bI n i f).length=i:=by simp[bI]
theorem mQ{x a m:Nat}(h:x<a*m)(hm:1<=m):(x:Int).tdiv (m:Int)=((x / m:Nat):Int)/\(x:Int).tmod (m:Int)=((x % m:Nat):Int)/\x / m<a/\x % m<m:=by
 refine⟨?_,?_,(Nat.div_lt_iff_lt_mul (by omega)).2 h,Nat.mod_lt _ (by omega)⟩
 ·rw[Int.tdiv_eq_ediv_of_nonneg (by omega)];rfl
 ·rw[Int.tmod_eq_emod_of_nonneg (by omega)];rfl
def dA(n:Int)(x y:Nat):Int:=((x:Int)+(y:Int)).tmod n
def ag(n:Int):List (List Int):=bQ n.toNat (dA n)
def rN(n:Int):Post:=⟨1<=n/\n<=12,.c (.rows 62 2 .i64 (ag n)),[]⟩
def yi:List AD->Option Post
 | [.c (.int .i64 n)]=>some (rN n)
 |_=>none
def Gz(n:Int):Nat->Option Ann
 |0=>some (Ann.mk ((Nat)) (fun i=>⟨[(0,.c (.int .i64 n)),(3,.c (.own 3)),(4,.c (.int .i64 ((i:Int))))],[(3,some (.rows 0 62 2 .i64 (bI n.toNat i (dA n))))]⟩) (fun i=>(i:Int)<=n) (fun i=>n.toNat-i) (fun i=>fun b_=>match b_ with|2=>some (Ann.mk ((Nat)) (fun j=>⟨[(0,.c (.int .i64 n)),(3,.c (.own 3)),(4,.c (.int .i64 ((i:Int)))),(5,.c (.own 5)),(6,.c (.int .i64 ((j:Int))))],[(3,some (.rows 0 62 2 .i64 (bI n.toNat i (dA n)))),(5,some (.ints 2 .i64 (ar j (dA n i))))]⟩) (fun j=>(i:Int)<n/\(j:Int)<=n) (fun j=>n.toNat-j) (fun _=>av))|_=>none))
 |_=>none
def GA:List (Nat×Ctr):=[]
def yj(n:Int):Prop :=
 (∃x0:Nat,(x0:Int)<=n/\n=n/\(0:Int)=(x0:Int)/\([]:List (List Int))=bI n.toNat x0 (dA n))/\∀x1:Nat,(x1:Int)<=n->ae (decide ((x1:Int)<n)) ((∃x2:Nat,((x1:Int)<n/\(x2:Int)<=n)/\n=n/\(x1:Int)=(x1:Int)/\(0:Int)=(x2:Int)/\bI n.toNat x1 (dA n)=bI n.toNat x1 (dA n)/\[]=ar x2 (dA n x1))/\∀x3:Nat,(x1:Int)<n/\(x3:Int)<=n->ae (decide ((x3:Int)<n)) (ac ((x1:Int)+(x3:Int))/\n≠(0:Int)/\ah ((ar x3 (dA n x1)).length+[Int.tmod ((x1:Int)+(x3:Int)) n].length)/\ac ((x3:Int)+(1:Int))/\∃x4:Nat,((x1:Int)<n/\(x4:Int)<=n)/\n.toNat-x4<n.toNat-x3/\n=n/\(x1:Int)=(x1:Int)/\(x3:Int)+(1:Int)=(x4:Int)/\bI n.toNat x1 (dA n)=bI n.toNat x1 (dA n)/\ar x3 (dA n x1)++[Int.tmod ((x1:Int)+(x3:Int)) n]=ar x4 (dA n x1)) (ah ((bI n.toNat x1 (dA n)).length+(ar x3 (dA n x1)::([]:List (List Int))).length)/\ac ((x1:Int)+(1:Int))/\∃x5:Nat,(x5:Int)<=n/\n.toNat-x5<n.toNat-x1/\n=n/\(x1:Int)+(1:Int)=(x5:Int)/\bI n.toNat x1 (dA n)++ar x3 (dA n x1)::([]:List (List Int))=bI n.toNat x5 (dA n))) (bI n.toNat x1 (dA n)=ag n/\True)
theorem Oe(n:Int):aY Tryz.prog (aj GA) am (Gz n) Tryz.f167 (aP Tryz.f167) [] [.c (.int .i64 n)] (rN n)=yj n:=by kernel_rfl
theorem Of(n:Int)(Yh:(rN n).pre):yj n:=by
 simp only[rN,yj,aX,u1,u2,u3,u4,u5,u6,u7,u8,u9,v1,v2,v3,v4,v5,v6,v7,v8,v9,w1,w2,w3,w4,aN,ab,ac,ah,ax]at Yh⊢;refine⟨⟨0,by omega,rfl,rfl⟩,fun i hi=>⟨fun h=>⟨⟨0,⟨by omega,by omega⟩,rfl,rfl⟩,fun j ⟨_,hj⟩=>⟨fun g=>⟨by omega,by omega,by rw[eA];omega,by omega,j+1,⟨by omega,by omega⟩,by omega,by omega,?_⟩,fun g=>⟨by rw[yh];omega,by omega,i+1,by omega,by omega,by omega,?_⟩⟩⟩,fun h=>?_⟩⟩
 ·rw[tab_succ'];rfl
 ·rw[yg,show j=n.toNat by omega]
 ·rw[show i=n.toNat by omega];rfl
theorem Og:Fits Tryz.prog 167 ⟨[],yi⟩:=by
 refine bf (Γ:=aj GA) aW Tryz.func167 fun ds p h hp=>?_
 unfold yi at h;split at h
 ·cases h
  exact⟨am,Gz _ ,by rw[Oe];exact Of _  hp⟩
 ·cases h
def cM(a b:List (List Int))(x y:Nat):Int :=
 en a ((x:Int).tdiv (b.length:Int)).toNat ((y:Int).tdiv (b.length:Int)).toNat*(b.length:Int)+en b ((x:Int).tmod (b.length:Int)).toNat ((y:Int).tmod (b.length:Int)).toNat
def a8(a b:List (List Int)):List (List Int):=bQ (a.length*b.length) (cM a b)
theorem GB{a b:List (List Int)}(ha:aB a.length a)(hb:aB b.length b)(h1:1<=b.length){x y:Nat}(hx:x<a.length*b.length)(hy:y<a.length*b.length):0<=cM a b x y/\cM a b x y<((a.length*b.length:Nat):Int):=by
 obtain⟨x1,x2,x3,x4⟩:=mQ hx h1;obtain⟨y1,y2,y3,y4⟩:=mQ hy h1;have A:=(ha.2 _ x3).2 _ y3
 have B:=(hb.2 _ x4).2 _ y4
 rw[cM,x1,x2,y1,y2];simp only[Int.toNat_natCast];generalize en a (x / b.length) (y / b.length)=u at *
 generalize en b (x % b.length) (y % b.length)=v at *
 have:u*(b.length:Int)<=((a.length:Int)-1)*(b.length:Int):=Int.mul_le_mul_of_nonneg_right (by omega) (by omega)
 have h0:0<=u*(b.length:Int):=Int.mul_nonneg A.1 (by omega)
 rw[Int.sub_mul]at this;rw[Int.natCast_mul];omega
def rO(a:List (List Int))(b:List (List Int)):Post:=⟨aB a.length a/\aB b.length b/\1<=b.length/\a.length<=144/\b.length<=144,.c (.rows 62 2 .i64 (a8 a b)),[]⟩
def yk:List AD->Option Post
 | [.c (.rows .i64 a),.c (.rows .i64 b)]=>some (rO a b)
 |_=>none
def GC(a:List (List Int))(b:List (List Int)):Nat->Option Ann
 |0=>some (Ann.mk ((Nat)) (fun i=>⟨[(0,.c (.ro (.rows .i64 a))),(1,.c (.ro (.rows .i64 b))),(5,.c (.int .i64 ((a.length:Int)))),(6,.c (.int .i64 ((b.length:Int)))),(7,.c (.own 7)),(8,.c (.int .i64 ((i:Int))))],[(7,some (.rows 0 62 2 .i64 (bI (a.length*b.length) i (cM a b))))]⟩) (fun i=>i<=a.length*b.length) (fun i=>a.length*b.length-i) (fun i=>fun b_=>match b_ with|2=>some (Ann.mk ((Nat)) (fun j=>⟨[(0,.c (.ro (.rows .i64 a))),(1,.c (.ro (.rows .i64 b))),(5,.c (.int .i64 ((a.length:Int)))),(6,.c (.int .i64 ((b.length:Int)))),(7,.c (.own 7)),(8,.c (.int .i64 ((i:Int)))),(9,.c (.own 9)),(10,.c (.int .i64 ((j:Int))))],[(7,some (.rows 0 62 2 .i64 (bI (a.length*b.length) i (cM a b)))),(9,some (.ints 2 .i64 (ar j (cM a b i))))]⟩) (fun j=>i<a.length*b.length/\j<=a.length*b.length) (fun j=>a.length*b.length-j) (fun _=>av))|_=>none))
 |_=>none
def GD:List (Nat×Ctr):=[]
def fQ(b:List (List Int))(x0:Nat):=(Int.tdiv (↑x0:Int) (↑(b.length):Int))
def jT(b:List (List Int))(x0:Nat):=((Int.tmod (↑x0:Int) (↑(b.length):Int)).toNat)
def ym(a:List (List Int))(b:List (List Int)):Prop :=
 ((∃x0:Nat,x0<=a.length*b.length/\a=a/\b=b/\(a.length:Int)=(a.length:Int)/\(b.length:Int)=(b.length:Int)/\(0:Int)=(x0:Int)/\([]:List (List Int))=bI (a.length*b.length) x0 (cM a b))/\(∀x1:Nat,(x1<=a.length*b.length->(ac ((a.length:Int)*(b.length:Int))/\(ae (decide ((x1:Int)<(a.length:Int)*(b.length:Int))) ((∃x2:Nat,(x1<a.length*b.length/\x2<=a.length*b.length)/\a=a/\b=b/\(a.length:Int)=(a.length:Int)/\(b.length:Int)=(b.length:Int)/\(x1:Int)=(x1:Int)/\(0:Int)=(x2:Int)/\bI (a.length*b.length) x1 (cM a b)=bI (a.length*b.length) x1 (cM a b)/\[]=ar x2 (cM a b x1))/\(∀x3:Nat,(x1<a.length*b.length/\x3<=a.length*b.length->(ac ((a.length:Int)*(b.length:Int))/\(ae (decide ((x3:Int)<(a.length:Int)*(b.length:Int))) (((b.length:Int)≠(0:Int)/\ac (fQ b x1))/\(ab (fQ b x1) a.length/\(((b.length:Int)≠(0:Int)/\ac (fQ b x3))/\(ab (fQ b x3) ((a.getD (fQ b x1).toNat []).length)/\(ac ((List.getD a (fQ b x1).toNat []).getD (fQ b x3).toNat (0:Int)*(b.length:Int))/\((b.length:Int)≠(0:Int)/\(ab (Int.tmod (x1:Int) (b.length:Int)) b.length/\((b.length:Int)≠(0:Int)/\((ab (Int.tmod (x3:Int) (b.length:Int)) ((b.getD (jT b x1) []).length)) /\
 ((ac ((List.getD a (fQ b x1).toNat []).getD (fQ b x3).toNat (0:Int)*(b.length:Int)+(List.getD b (jT b x1) []).getD (jT b x3) (0:Int)))/\((ah ((ar x3 (cM a b x1)).length+[(List.getD a (fQ b x1).toNat []).getD (fQ b x3).toNat (0:Int)*(b.length:Int)+(List.getD b (jT b x1) []).getD (jT b x3) (0:Int)].length))/\((ac ((x3:Int)+(1:Int)))/\(∃x4:Nat,(((x1<a.length*b.length)/\(x4<=a.length*b.length))/\((a.length*b.length-x4<a.length*b.length-x3)/\((a=a)/\((b=b)/\(((a.length:Int)=(a.length:Int))/\(((b.length:Int)=(b.length:Int))/\(((x1:Int)=(x1:Int))/\(((x3:Int)+(1:Int)=(x4:Int))/\((bI (a.length*b.length) x1 (cM a b)=bI (a.length*b.length) x1 (cM a b))/\(ar x3 (cM a b x1)++[(List.getD a (fQ b x1).toNat []).getD (fQ b x3).toNat (0:Int)*(b.length:Int)+(List.getD b (jT b x1) []).getD (jT b x3) (0:Int)]=ar x4 (cM a b x1)))))))))))))))))))))))) ((ah ((bI (a.length*b.length) x1 (cM a b)).length+(ar x3 (cM a b x1)::([]:List (List Int))).length))/\((ac ((x1:Int)+(1:Int)))/\(∃x5:Nat,((x5<=a.length*b.length)/\((a.length*b.length-x5<a.length*b.length-x1)/\((a=a)/\((b=b)/\(((a.length:Int)=(a.length:Int))/\(((b.length:Int)=(b.length:Int))/\(((x1:Int)+(1:Int)=(x5:Int)) /\
 (bI (a.length*b.length) x1 (cM a b)++ar x3 (cM a b x1)::([]:List (List Int))=bI (a.length*b.length) x5 (cM a b))))))))))))))))) ((bI (a.length*b.length) x1 (cM a b)=a8 a b)/\True))))))
theorem Oh(a:List (List Int))(b:List (List Int)):aY Tryz.prog (aj GD) am (GC a b) Tryz.f168 (aP Tryz.f168) [] [.c (.rows .i64 a),.c (.rows .i64 b)] (rO a b)=ym a b:=by kernel_rfl
theorem Oi(a:List (List Int))(b:List (List Int))(Yh:(rO a b).pre):ym a b:=by
 simp only[rO,ym,fQ,jT,aX,u1,u2,u3,u4,u5,u6,u7,u8,u9,v1,v2,v3,v4,v5,v6,v7,v8,v9,w1,w2,w3,w4,aN,ab,ac,ah,ax]at Yh⊢;obtain⟨h1,h2,h3,h4,h5⟩:=Yh;have hm:a.length*b.length<=144*144:=Nat.mul_le_mul h4 h5
 have hc:(a.length:Int)*(b.length:Int)=((a.length*b.length:Nat):Int):=by rw[Int.natCast_mul]
 rw[hc];generalize hN:a.length*b.length=N at *
 refine⟨⟨0,by omega,rfl,rfl⟩,fun i hi=>⟨by omega,fun h=>⟨⟨0,⟨by omega,by omega⟩,rfl,rfl⟩,fun j ⟨_,hj⟩=>⟨by omega,fun g=>?_,fun g=>⟨by rw[yh];omega,by omega,i+1,by omega,by omega,by omega,?_⟩⟩⟩,fun h=>?_⟩⟩
 ·obtain⟨x1,x2,x3,x4⟩:=mQ (x:=i) (a:=a.length) (m:=b.length) (by omega) h3
  obtain⟨y1,y2,y3,y4⟩:=mQ (x:=j) (a:=a.length) (m:=b.length) (by omega) h3
  have A:=(h1.2 _ x3)
  have B:=(h2.2 _ x4)
  have A2:=A.2 _ y3
  have B2:=B.2 _ y4
  have P:=GB h1 h2 h3 (x:=i) (y:=j) (by omega) (by omega)
  have TS:ar (j+1) (cM a b i)=ar j (cM a b i)++[cM a b i j]:=tab_succ' _ _
  rw[cM,x1,x2,y1,y2]at P TS;rw[x1,x2,y1,y2];simp only[Int.toNat_natCast]at P TS⊢;have A3:((a.getD (i / b.length) []).getD (j / b.length) 0)=en a (i / b.length) (j / b.length):=rfl
  have B3:((b.getD (i % b.length) []).getD (j % b.length) 0)=en b (i % b.length) (j % b.length):=rfl
  rw[A3,B3];have u0:0<=en a (i / b.length) (j / b.length)*(b.length:Int):=Int.mul_nonneg A2.1 (by omega)
  have eb:=h2.1
  clear x1 x2 y1 y2;generalize i / b.length=u1 at *
  generalize j / b.length=u2 at *
  generalize i % b.length=v1 at *
  generalize j % b.length=v2 at *
  refine⟨⟨by omega,by omega⟩,by omega,⟨by omega,by omega⟩,by omega,by omega,by omega,by omega,by omega,by omega,by omega,by rw[eA];omega,by omega,j+1,⟨by omega,by omega⟩,by omega,by omega,TS.symm⟩
 ·rw[yg,show j=N by omega]
 ·rw[show i=N by omega,a8,hN];rfl
theorem Oj:Fits Tryz.prog 168 ⟨[],yk⟩:=by
 refine bf (Γ:=aj GD) aW Tryz.func168 fun ds p h hp=>?_
 unfold yk at h;split at h
 ·cases h
  exact⟨am,GC _ _ ,by rw[Oh];exact Oi _ _  hp⟩
 ·cases h
def bp(n s:Int)(x y:Nat):Int :=
 if(x:Int)<n/\(y:Int)<n then((x:Int).tmod n+(y:Int).tmod n).tmod n
 else if(x:Int)<n then n+((x:Int).tmod n+(y:Int).tmod n).tmod n
 else if(y:Int)<n then n+((x:Int).tmod n-(y:Int).tmod n+n).tmod n
 else((x:Int).tmod n-(y:Int).tmod n+n+s).tmod n
def bT(n s:Int):List (List Int):=bQ (2*n).toNat (bp n s)
theorem GE(x:Nat){n:Int}(h:1<=n):0<=(x:Int).tmod n/\(x:Int).tmod n<n:=⟨Int.tmod_nonneg _ (by omega),Int.tmod_lt_of_pos _ (by omega)⟩
theorem lf{x:Int}{n:Int}(h0:0<=x)(h:1<=n):0<=x.tmod n/\x.tmod n<n:=⟨Int.tmod_nonneg _ h0,Int.tmod_lt_of_pos _ (by omega)⟩
def rP(n:Int)(s:Int):Post:=⟨1<=n/\n<=12/\0<=s/\s<=12,.c (.rows 62 2 .i64 (bT n s)),[]⟩
def yn:List AD->Option Post
 | [.c (.int .i64 n),.c (.int .i64 s)]=>some (rP n s)
 |_=>none
def GF(n:Int)(s:Int):Nat->Option Ann
 |0=>some (Ann.mk ((Nat)) (fun i=>⟨[(0,.c (.int .i64 n)),(1,.c (.int .i64 s)),(5,.c (.own 11)),(6,.c (.int .i64 ((i:Int))))],[(11,some (.rows 0 62 2 .i64 (bI (2*n).toNat i (bp n s))))]⟩) (fun i=>(i:Int)<=2*n) (fun i=>(2*n).toNat-i) (fun i=>fun b_=>match b_ with|2=>some (Ann.mk ((Nat)) (fun j=>⟨[(0,.c (.int .i64 n)),(1,.c (.int .i64 s)),(5,.c (.own 11)),(6,.c (.int .i64 ((i:Int)))),(7,.c (.own 18)),(8,.c (.int .i64 ((j:Int))))],[(11,some (.rows 0 62 2 .i64 (bI (2*n).toNat i (bp n s)))),(18,some (.ints 2 .i64 (ar j (bp n s i))))]⟩) (fun j=>(i:Int)<2*n/\(j:Int)<=2*n) (fun j=>(2*n).toNat-j) (fun _=>av))|_=>none))
 |_=>none
def GG:List (Nat×Ctr):=[]
def g8(n:Int)(x0:Nat)(x1:Nat):=(Int.tmod (↑x0:Int) n-Int.tmod (↑x1:Int) n+n)
def gF(n:Int)(x0:Nat)(x1:Nat):=(Int.tmod (↑x0:Int) n+Int.tmod (↑x1:Int) n)
def yp(n:Int)(s:Int):Prop :=
 ((∃x0:Nat,(x0:Int)<=(2:Int)*n/\n=n/\s=s/\(0:Int)=(x0:Int)/\([]:List (List Int))=bI (((2:Int)*n).toNat) x0 (bp n s))/\(∀x1:Nat,((x1:Int)<=(2:Int)*n->(ac ((2:Int)*n)/\(ae (decide ((x1:Int)<(2:Int)*n)) ((∃x2:Nat,((x1:Int)<(2:Int)*n/\(x2:Int)<=(2:Int)*n)/\n=n/\s=s/\(x1:Int)=(x1:Int)/\(0:Int)=(x2:Int)/\bI (((2:Int)*n).toNat) x1 (bp n s)=bI (((2:Int)*n).toNat) x1 (bp n s)/\[]=ar x2 (bp n s x1))/\(∀x3:Nat,((x1:Int)<(2:Int)*n/\(x3:Int)<=(2:Int)*n->(ac ((2:Int)*n)/\(ae (decide ((x3:Int)<(2:Int)*n)) (n≠(0:Int)/\(n≠(0:Int)/\(ae (decide ((x1:Int)<n)) (ae (decide ((x3:Int)<n)) (ac (gF n x1 x3)/\n≠(0:Int)/\ah ((ar x3 (bp n s x1)).length+[Int.tmod (gF n x1 x3) n].length)/\ac ((x3:Int)+(1:Int))/\∃x4:Nat,((x1:Int)<(2:Int)*n/\(x4:Int)<=(2:Int)*n)/\((2:Int)*n).toNat-x4<((2:Int)*n).toNat-x3/\n=n/\s=s/\(x1:Int)=(x1:Int)/\(x3:Int)+(1:Int)=(x4:Int)/\bI (((2:Int)*n).toNat) x1 (bp n s)=bI (((2:Int)*n).toNat) x1 (bp n s)/\ar x3 (bp n s x1)++[Int.tmod (gF n x1 x3) n]=ar x4 (bp n s x1)) (ae (decide ((x1:Int)<n)) (ac (gF n x1 x3)/\(n≠(0:Int)/\(ac (n+Int.tmod (gF n x1 x3) n)/\((ah ((ar x3 (bp n s x1)).length+[n+Int.tmod (gF n x1 x3) n].length)) /\
 ((ac ((x3:Int)+(1:Int)))/\(∃x5:Nat,((((x1:Int)<(2:Int)*n)/\((x5:Int)<=(2:Int)*n))/\((((2:Int)*n).toNat-x5<((2:Int)*n).toNat-x3)/\((n=n)/\((s=s)/\(((x1:Int)=(x1:Int))/\(((x3:Int)+(1:Int)=(x5:Int))/\((bI (((2:Int)*n).toNat) x1 (bp n s)=bI (((2:Int)*n).toNat) x1 (bp n s))/\(ar x3 (bp n s x1)++[n+Int.tmod (gF n x1 x3) n]=ar x5 (bp n s x1))))))))))))))) (ae (decide ((x3:Int)<n)) ((ac (Int.tmod (x1:Int) n-Int.tmod (x3:Int) n))/\((ac (g8 n x1 x3))/\((n≠(0:Int))/\((ac (n+Int.tmod (g8 n x1 x3) n))/\((ah ((ar x3 (bp n s x1)).length+[n+Int.tmod (g8 n x1 x3) n].length))/\((ac ((x3:Int)+(1:Int)))/\(∃x6:Nat,((((x1:Int)<(2:Int)*n)/\((x6:Int)<=(2:Int)*n))/\((((2:Int)*n).toNat-x6<((2:Int)*n).toNat-x3)/\((n=n)/\((s=s)/\(((x1:Int)=(x1:Int))/\(((x3:Int)+(1:Int)=(x6:Int))/\((bI (((2:Int)*n).toNat) x1 (bp n s)=bI (((2:Int)*n).toNat) x1 (bp n s))/\(ar x3 (bp n s x1)++[n+Int.tmod (g8 n x1 x3) n]=ar x6 (bp n s x1)))))))))))))))) ((ac (Int.tmod (x1:Int) n-Int.tmod (x3:Int) n))/\((ac (g8 n x1 x3))/\((ac (Int.tmod (x1:Int) n-Int.tmod (x3:Int) n+n+s))/\((n≠(0:Int))/\((ah ((ar x3 (bp n s x1)).length+[Int.tmod (Int.tmod (x1:Int) n-Int.tmod (x3:Int) n+n+s) n].length))/\((ac ((x3:Int)+(1:Int)))/\(∃x7:Nat,((((x1:Int)<(2:Int)*n)/\((x7:Int)<=(2:Int)*n)) /\
 ((((2:Int)*n).toNat-x7<((2:Int)*n).toNat-x3)/\((n=n)/\((s=s)/\(((x1:Int)=(x1:Int))/\(((x3:Int)+(1:Int)=(x7:Int))/\((bI (((2:Int)*n).toNat) x1 (bp n s)=bI (((2:Int)*n).toNat) x1 (bp n s))/\(ar x3 (bp n s x1)++[Int.tmod (Int.tmod (x1:Int) n-Int.tmod (x3:Int) n+n+s) n]=ar x7 (bp n s x1))))))))))))))))))) (ae (decide ((x1:Int)<n)) ((ac (gF n x1 x3))/\((n≠(0:Int))/\((ac (n+Int.tmod (gF n x1 x3) n))/\((ah ((ar x3 (bp n s x1)).length+[n+Int.tmod (gF n x1 x3) n].length))/\((ac ((x3:Int)+(1:Int)))/\(∃x8:Nat,((((x1:Int)<(2:Int)*n)/\((x8:Int)<=(2:Int)*n))/\((((2:Int)*n).toNat-x8<((2:Int)*n).toNat-x3)/\((n=n)/\((s=s)/\(((x1:Int)=(x1:Int))/\(((x3:Int)+(1:Int)=(x8:Int))/\((bI (((2:Int)*n).toNat) x1 (bp n s)=bI (((2:Int)*n).toNat) x1 (bp n s))/\(ar x3 (bp n s x1)++[n+Int.tmod (gF n x1 x3) n]=ar x8 (bp n s x1))))))))))))))) (ae (decide ((x3:Int)<n)) ((ac (Int.tmod (x1:Int) n-Int.tmod (x3:Int) n))/\((ac (g8 n x1 x3))/\((n≠(0:Int))/\((ac (n+Int.tmod (g8 n x1 x3) n))/\((ah ((ar x3 (bp n s x1)).length+[n+Int.tmod (g8 n x1 x3) n].length))/\((ac ((x3:Int)+(1:Int)))/\(∃x9:Nat,((((x1:Int)<(2:Int)*n)/\((x9:Int)<=(2:Int)*n))/\((((2:Int)*n).toNat-x9<((2:Int)*n).toNat-x3)/\((n=n)/\((s=s)/\(((x1:Int)=(x1:Int))/\(((x3:Int)+(1:Int)=(x9:Int)) /\
 ((bI (((2:Int)*n).toNat) x1 (bp n s)=bI (((2:Int)*n).toNat) x1 (bp n s))/\(ar x3 (bp n s x1)++[n+Int.tmod (g8 n x1 x3) n]=ar x9 (bp n s x1)))))))))))))))) ((ac (Int.tmod (x1:Int) n-Int.tmod (x3:Int) n))/\((ac (g8 n x1 x3))/\((ac (Int.tmod (x1:Int) n-Int.tmod (x3:Int) n+n+s))/\((n≠(0:Int))/\((ah ((ar x3 (bp n s x1)).length+[Int.tmod (Int.tmod (x1:Int) n-Int.tmod (x3:Int) n+n+s) n].length))/\((ac ((x3:Int)+(1:Int)))/\(∃x10:Nat,((((x1:Int)<(2:Int)*n)/\((x10:Int)<=(2:Int)*n))/\((((2:Int)*n).toNat-x10<((2:Int)*n).toNat-x3)/\((n=n)/\((s=s)/\(((x1:Int)=(x1:Int))/\(((x3:Int)+(1:Int)=(x10:Int))/\((bI (((2:Int)*n).toNat) x1 (bp n s)=bI (((2:Int)*n).toNat) x1 (bp n s))/\(ar x3 (bp n s x1)++[Int.tmod (Int.tmod (x1:Int) n-Int.tmod (x3:Int) n+n+s) n]=ar x10 (bp n s x1))))))))))))))))))))) ((ah ((bI (((2:Int)*n).toNat) x1 (bp n s)).length+(ar x3 (bp n s x1)::([]:List (List Int))).length))/\((ac ((x1:Int)+(1:Int)))/\(∃x11:Nat,(((x11:Int)<=(2:Int)*n)/\((((2:Int)*n).toNat-x11<((2:Int)*n).toNat-x1)/\((n=n)/\((s=s)/\(((x1:Int)+(1:Int)=(x11:Int))/\(bI (((2:Int)*n).toNat) x1 (bp n s)++ar x3 (bp n s x1)::([]:List (List Int))=bI (((2:Int)*n).toNat) x11 (bp n s))))))))))))))) ((bI (((2:Int)*n).toNat) x1 (bp n s)=bT n s)/\True))))))
theorem Ok(n:Int)(s:Int):aY Tryz.prog (aj GG) am (GF n s) Tryz.f169 (aP Tryz.f169) [] [.c (.int .i64 n),.c (.int .i64 s)] (rP n s)=yp n s:=by kernel_rfl
theorem Ol(n:Int)(s:Int)(Yh:(rP n s).pre):yp n s:=by
 simp only[rP,yp,g8,gF,aX,u1,u2,u3,u4,u5,u6,u7,u8,u9,v1,v2,v3,v4,v5,v6,v7,v8,v9,w1,w2,w3,w4,aN,ab,ac,ah,ax]at Yh⊢;obtain⟨h1,h2,h3,h4⟩:=Yh;refine⟨⟨0,by omega,rfl,rfl⟩,fun i hi=>⟨by omega,fun h=>⟨⟨0,⟨by omega,by omega⟩,rfl,rfl⟩,fun j ⟨_,hj⟩=>⟨by omega,fun g=>?_,fun g=>⟨by rw[yh];omega,by omega,i+1,by omega,by omega,by omega,?_⟩⟩⟩,fun h=>?_⟩⟩
 ·have a:=GE i h1
  have b:=GE j h1
  have c:=lf (x:=(i:Int).tmod n+(j:Int).tmod n) (by omega) h1
  have d:=lf (x:=(i:Int).tmod n-(j:Int).tmod n+n) (by omega) h1
  have TS:ar j (bp n s i)++[bp n s i j]=ar (j+1) (bp n s i):=(tab_succ' _ _).symm
  have R:∀v:Int,v=bp n s i j->(ar j (bp n s i)).length+(0+1)<=1099511627776/\∃x:Nat,(((i:Int)<2*n/\(x:Int)<=2*n)/\(2*n).toNat-x<(2*n).toNat-j/\(j:Int)+1=(x:Int)/\ar j (bp n s i)++[v]=ar x (bp n s i)):=fun v hv=>by
   subst hv;refine⟨by rw[eA];omega,j+1,⟨by omega,by omega⟩,by omega,by omega,TS⟩
  by_cases q:(i:Int)<n<;>by_cases r:(j:Int)<n
  ·have:=R _ (if_pos ⟨q,r⟩).symm
   simp only[q,r,not_true_eq_false,not_false_eq_true,true_implies,false_implies,and_true,true_and,implies_true];exact⟨by omega,by omega,by omega,by omega,this.1,by omega,this.2⟩
  ·have:=R _ ((if_neg (by omega)).trans (if_pos q)).symm
   simp only[q,r,not_true_eq_false,not_false_eq_true,true_implies,false_implies,and_true,true_and,implies_true];exact⟨by omega,by omega,by omega,by omega,by omega,this.1,by omega,this.2⟩
  ·have:=R _ ((if_neg (by omega)).trans ((if_neg q).trans (if_pos r))).symm
   simp only[q,r,not_true_eq_false,not_false_eq_true,true_implies,false_implies,and_true,true_and,implies_true];exact⟨by omega,by omega,by omega,by omega,by omega,by omega,this.1,by omega,this.2⟩
  ·have:=R _ ((if_neg (by omega)).trans ((if_neg q).trans (if_neg r))).symm
   simp only[q,r,not_true_eq_false,not_false_eq_true,true_implies,false_implies,and_true,true_and,implies_true];exact⟨by omega,by omega,by omega,by omega,by omega,by omega,this.1,by omega,this.2⟩
 ·rw[yg,show j=(2*n).toNat by omega]
 ·rw[show i=(2*n).toNat by omega];rfl
theorem Om:Fits Tryz.prog 169 ⟨[],yn⟩:=by
 refine bf (Γ:=aj GG) aW Tryz.func169 fun ds p h hp=>?_
 unfold yn at h;split at h
 ·cases h
  exact⟨am,GF _ _ ,by rw[Ok];exact Ol _ _  hp⟩
 ·cases h
end Go.Sx
end
