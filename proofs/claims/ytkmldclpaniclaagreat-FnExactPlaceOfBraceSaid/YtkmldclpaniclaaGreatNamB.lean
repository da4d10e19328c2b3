/- NamB -/
import Derived.Test.YtkmldclpaniclaaGreatGrp
import Derived.Test.YtkmldclpaniclaaGreatJoin
import Derived.Test.YtkmldclpaniclaaGreatCrcG
open Go Go.Proofs
namespace Go.Sx
set_option linter.unusedSimpArgs false
set_option linter.unusedVariables false
def bH(n i:Nat)(f:Nat->Nat->Int):V8:=(List.range i).map fun x=>au n (f x)
theorem zA(n i:Nat)(f:Nat->Nat->Int):bH n (i+1) f=bH n i f++[au n (f i)]:=sy _ _
theorem zB(n i:Nat)(f:Nat->Nat->Int):(bH n i f).length=i:=by simp[bH]
theorem nn{x a m:Nat}(h:x<a*m)(hm:1<=m):(x:Int).tdiv (m:Int)=((x / m:Nat):Int)/\(x:Int).tmod (m:Int)=((x % m:Nat):Int)/\x / m<a/\x % m<m:=by
 refine⟨?_,?_,(Nat.div_lt_iff_lt_mul (by omega)).2 h,Nat.mod_lt _ (by omega)⟩
 ·rw[Int.tdiv_eq_ediv_of_nonneg (by omega)];rfl
 ·rw[Int.tmod_eq_emod_of_nonneg (by omega)];rfl
def dD(n:Int)(x y:Nat):Int:=((x:Int)+(y:Int)).tmod n
def ah(n:Int):V8:=bN n.toNat (dD n)
def sR(n:Int):Post:=⟨1<=n/\n<=12,.c (.rows 62 2 .i64 (ah n)),[]⟩
def zC:List AD->Option Post
 | [.c (.int .i64 n)]=>some (sR n)
 |_=>none
def Iq(n:Int):Nat->Option Ann
 |0=>some (Ann.mk ((Nat)) (fun i=>⟨[(0,.c (.int .i64 n)),(3,.c (.own 3)),(4,.c (.int .i64 ((i:Int))))],[(3,some (.rows 0 62 2 .i64 (bH n.toNat i (dD n))))]⟩) (fun i=>(i:Int)<=n) (fun i=>n.toNat-i) (fun i=>fun b_=>match b_ with|2=>some (Ann.mk ((Nat)) (fun j=>⟨[(0,.c (.int .i64 n)),(3,.c (.own 3)),(4,.c (.int .i64 ((i:Int)))),(5,.c (.own 5)),(6,.c (.int .i64 ((j:Int))))],[(3,some (.rows 0 62 2 .i64 (bH n.toNat i (dD n)))),(5,some (.ints 2 .i64 (au j (dD n i))))]⟩) (fun j=>(i:Int)<n/\(j:Int)<=n) (fun j=>n.toNat-j) (fun _=>am))|_=>none))
 |_=>none
def Ir:List (Nat×Ctr):=[]
def zD(n:Int):Prop :=
 (∃x0:Nat,(x0:Int)<=n/\n=n/\(0:Int)=(x0:Int)/\([]:V8)=bH n.toNat x0 (dD n))/\∀x1:Nat,(x1:Int)<=n->ae (decide ((x1:Int)<n)) ((∃x2:Nat,((x1:Int)<n/\(x2:Int)<=n)/\n=n/\(x1:Int)=(x1:Int)/\(0:Int)=(x2:Int)/\bH n.toNat x1 (dD n)=bH n.toNat x1 (dD n)/\[]=au x2 (dD n x1))/\∀x3:Nat,(x1:Int)<n/\(x3:Int)<=n->ae (decide ((x3:Int)<n)) (ac ((x1:Int)+(x3:Int))/\n≠(0:Int)/\af ((au x3 (dD n x1)).length+[Int.tmod ((x1:Int)+(x3:Int)) n].length)/\ac ((x3:Int)+(1:Int))/\∃x4:Nat,((x1:Int)<n/\(x4:Int)<=n)/\n.toNat-x4<n.toNat-x3/\n=n/\(x1:Int)=(x1:Int)/\(x3:Int)+(1:Int)=(x4:Int)/\bH n.toNat x1 (dD n)=bH n.toNat x1 (dD n)/\au x3 (dD n x1)++[Int.tmod ((x1:Int)+(x3:Int)) n]=au x4 (dD n x1)) (af ((bH n.toNat x1 (dD n)).length+(au x3 (dD n x1)::([]:V8)).length)/\ac ((x1:Int)+(1:Int))/\∃x5:Nat,(x5:Int)<=n/\n.toNat-x5<n.toNat-x1/\n=n/\(x1:Int)+(1:Int)=(x5:Int)/\bH n.toNat x1 (dD n)++au x3 (dD n x1)::([]:V8)=bH n.toNat x5 (dD n))) (bH n.toNat x1 (dD n)=ah n/\True)
theorem Rn(n:Int):aJ Tryz.prog (ai Ir) ak (Iq n) Tryz.f167 (aE Tryz.f167) [] [.c (.int .i64 n)] (sR n)=zD n:=by kernel_rfl
theorem Ro(n:Int)(Yh:(sR n).pre):zD n:=by
 simp only[sR,zD,aG,u1,u2,u3,u4,u5,u6,u7,u8,u9,v1,v2,v3,v4,v5,v6,v7,v8,v9,w1,w2,w3,w4,aH,aa,ac,af,ar]at Yh⊢;refine⟨⟨0,by omega,rfl,rfl⟩,fun i hi=>⟨fun h=>⟨⟨0,⟨by omega,by omega⟩,rfl,rfl⟩,fun j ⟨_,hj⟩=>⟨fun g=>⟨by omega,by omega,by rw[eu];omega,by omega,j+1,⟨by omega,by omega⟩,by omega,by omega,?_⟩,fun g=>⟨by rw[zB];omega,by omega,i+1,by omega,by omega,by omega,?_⟩⟩⟩,fun h=>?_⟩⟩
 ·rw[tab_succ'];rfl
 ·rw[zA,show j=n.toNat by omega]
 ·rw[show i=n.toNat by omega];rfl
theorem Rp:Fits Tryz.prog 167 ⟨[],zC⟩:=by
 refine aO (Γ:=ai Ir) aF Tryz.func167 fun ds p h hp=>?_
 unfold zC at h;split at h
 ·cases h
  exact⟨ak,Iq _ ,by rw[Rn];exact Ro _  hp⟩
 ·cases h
def cV(a b:V8)(x y:Nat):Int :=
 en a ((x:Int).tdiv (b.length:Int)).toNat ((y:Int).tdiv (b.length:Int)).toNat*(b.length:Int)+en b ((x:Int).tmod (b.length:Int)).toNat ((y:Int).tmod (b.length:Int)).toNat
def bf(a b:V8):V8:=bN (a.length*b.length) (cV a b)
theorem Is{a b:V8}(ha:ay a.length a)(hb:ay b.length b)(h1:1<=b.length){x y:Nat}(hx:x<a.length*b.length)(hy:y<a.length*b.length):0<=cV a b x y/\cV a b x y<((a.length*b.length:Nat):Int):=by
 obtain⟨x1,x2,x3,x4⟩:=nn hx h1;obtain⟨y1,y2,y3,y4⟩:=nn hy h1;have A:=(ha.2 _ x3).2 _ y3
 have B:=(hb.2 _ x4).2 _ y4
 rw[cV,x1,x2,y1,y2];simp only[Int.toNat_natCast];generalize en a (x / b.length) (y / b.length)=u at *
 generalize en b (x % b.length) (y % b.length)=v at *
 have:u*(b.length:Int)<=((a.length:Int)-1)*(b.length:Int):=Int.mul_le_mul_of_nonneg_right (by omega) (by omega)
 have h0:0<=u*(b.length:Int):=Int.mul_nonneg A.1 (by omega)
 rw[Int.sub_mul]at this;rw[Int.natCast_mul];omega
def sS(a:V8)(b:V8):Post:=⟨ay a.length a/\ay b.length b/\1<=b.length/\a.length<=144/\b.length<=144,.c (.rows 62 2 .i64 (bf a b)),[]⟩
def zE:List AD->Option Post
 | [.c (.rows .i64 a),.c (.rows .i64 b)]=>some (sS a b)
 |_=>none
def It(a:V8)(b:V8):Nat->Option Ann
 |0=>some (Ann.mk ((Nat)) (fun i=>⟨[(0,.c (.ro (.rows .i64 a))),(1,.c (.ro (.rows .i64 b))),(5,.c (.int .i64 ((a.length:Int)))),(6,.c (.int .i64 ((b.length:Int)))),(7,.c (.own 7)),(8,.c (.int .i64 ((i:Int))))],[(7,some (.rows 0 62 2 .i64 (bH (a.length*b.length) i (cV a b))))]⟩) (fun i=>i<=a.length*b.length) (fun i=>a.length*b.length-i) (fun i=>fun b_=>match b_ with|2=>some (Ann.mk ((Nat)) (fun j=>⟨[(0,.c (.ro (.rows .i64 a))),(1,.c (.ro (.rows .i64 b))),(5,.c (.int .i64 ((a.length:Int)))),(6,.c (.int .i64 ((b.length:Int)))),(7,.c (.own 7)),(8,.c (.int .i64 ((i:Int)))),(9,.c (.own 9)),(10,.c (.int .i64 ((j:Int))))],[(7,some (.rows 0 62 2 .i64 (bH (a.length*b.length) i (cV a b)))),(9,some (.ints 2 .i64 (au j (cV a b i))))]⟩) (fun j=>i<a.length*b.length/\j<=a.length*b.length) (fun j=>a.length*b.length-j) (fun _=>am))|_=>none))
 |_=>none
def Iu:List (Nat×Ctr):=[]
def fZ(b:V8)(x0:Nat):=(Int.tdiv (↑x0:Int) (↑(b.length):Int))
def kj(b:V8)(x0:Nat):=((Int.tmod (↑x0:Int) (↑(b.length):Int)).toNat)
def zF(a:V8)(b:V8):Prop :=
 ((∃x0:Nat,x0<=a.length*b.length/\a=a/\b=b/\(a.length:Int)=(a.length:Int)/\(b.length:Int)=(b.length:Int)/\(0:Int)=(x0:Int)/\([]:V8)=bH (a.length*b.length) x0 (cV a b))/\(∀x1:Nat,(x1<=a.length*b.length->(ac ((a.length:Int)*(b.length:Int))/\(ae (decide ((x1:Int)<(a.length:Int)*(b.length:Int))) ((∃x2:Nat,(x1<a.length*b.length/\x2<=a.length*b.length)/\a=a/\b=b/\(a.length:Int)=(a.length:Int)/\(b.length:Int)=(b.length:Int)/\(x1:Int)=(x1:Int)/\(0:Int)=(x2:Int)/\bH (a.length*b.length) x1 (cV a b)=bH (a.length*b.length) x1 (cV a b)/\[]=au x2 (cV a b x1))/\(∀x3:Nat,(x1<a.length*b.length/\x3<=a.length*b.length->(ac ((a.length:Int)*(b.length:Int))/\(ae (decide ((x3:Int)<(a.length:Int)*(b.length:Int))) (((b.length:Int)≠(0:Int)/\ac (fZ b x1))/\(aa (fZ b x1) a.length/\(((b.length:Int)≠(0:Int)/\ac (fZ b x3))/\(aa (fZ b x3) ((a.getD (fZ b x1).toNat []).length)/\(ac ((List.getD a (fZ b x1).toNat []).getD (fZ b x3).toNat (0:Int)*(b.length:Int))/\((b.length:Int)≠(0:Int)/\(aa (Int.tmod (x1:Int) (b.length:Int)) b.length/\((b.length:Int)≠(0:Int)/\((aa (Int.tmod (x3:Int) (b.length:Int)) ((b.getD (kj b x1) []).length)) /\
 ((ac ((List.getD a (fZ b x1).toNat []).getD (fZ b x3).toNat (0:Int)*(b.length:Int)+(List.getD b (kj b x1) []).getD (kj b x3) (0:Int)))/\((af ((au x3 (cV a b x1)).length+[(List.getD a (fZ b x1).toNat []).getD (fZ b x3).toNat (0:Int)*(b.length:Int)+(List.getD b (kj b x1) []).getD (kj b x3) (0:Int)].length))/\((ac ((x3:Int)+(1:Int)))/\(∃x4:Nat,(((x1<a.length*b.length)/\(x4<=a.length*b.length))/\((a.length*b.length-x4<a.length*b.length-x3)/\((a=a)/\((b=b)/\(((a.length:Int)=(a.length:Int))/\(((b.length:Int)=(b.length:Int))/\(((x1:Int)=(x1:Int))/\(((x3:Int)+(1:Int)=(x4:Int))/\((bH (a.length*b.length) x1 (cV a b)=bH (a.length*b.length) x1 (cV a b))/\(au x3 (cV a b x1)++[(List.getD a (fZ b x1).toNat []).getD (fZ b x3).toNat (0:Int)*(b.length:Int)+(List.getD b (kj b x1) []).getD (kj b x3) (0:Int)]=au x4 (cV a b x1)))))))))))))))))))))))) ((af ((bH (a.length*b.length) x1 (cV a b)).length+(au x3 (cV a b x1)::([]:V8)).length))/\((ac ((x1:Int)+(1:Int)))/\(∃x5:Nat,((x5<=a.length*b.length)/\((a.length*b.length-x5<a.length*b.length-x1)/\((a=a)/\((b=b)/\(((a.length:Int)=(a.length:Int))/\(((b.length:Int)=(b.length:Int))/\(((x1:Int)+(1:Int)=(x5:Int)) /\
 (bH (a.length*b.length) x1 (cV a b)++au x3 (cV a b x1)::([]:V8)=bH (a.length*b.length) x5 (cV a b))))))))))))))))) ((bH (a.length*b.length) x1 (cV a b)=bf a b)/\True))))))
theorem Rq(a:V8)(b:V8):aJ Tryz.prog (ai Iu) ak (It a b) Tryz.f168 (aE Tryz.f168) [] [.c (.rows .i64 a),.c (.rows .i64 b)] (sS a b)=zF a b:=by kernel_rfl
theorem Rr(a:V8)(b:V8)(Yh:(sS a b).pre):zF a b:=by
 simp only[sS,zF,fZ,kj,aG,u1,u2,u3,u4,u5,u6,u7,u8,u9,v1,v2,v3,v4,v5,v6,v7,v8,v9,w1,w2,w3,w4,aH,aa,ac,af,ar]at Yh⊢;obtain⟨h1,h2,h3,h4,h5⟩:=Yh;have hm:a.length*b.length<=144*144:=Nat.mul_le_mul h4 h5
 have hc:(a.length:Int)*(b.length:Int)=((a.length*b.length:Nat):Int):=by rw[Int.natCast_mul]
 rw[hc];generalize hN:a.length*b.length=N at *
 refine⟨⟨0,by omega,rfl,rfl⟩,fun i hi=>⟨by omega,fun h=>⟨⟨0,⟨by omega,by omega⟩,rfl,rfl⟩,fun j ⟨_,hj⟩=>⟨by omega,fun g=>?_,fun g=>⟨by rw[zB];omega,by omega,i+1,by omega,by omega,by omega,?_⟩⟩⟩,fun h=>?_⟩⟩
 ·obtain⟨x1,x2,x3,x4⟩:=nn (x:=i) (a:=a.length) (m:=b.length) (by omega) h3
  obtain⟨y1,y2,y3,y4⟩:=nn (x:=j) (a:=a.length) (m:=b.length) (by omega) h3
  have A:=(h1.2 _ x3)
  have B:=(h2.2 _ x4)
  have A2:=A.2 _ y3
  have B2:=B.2 _ y4
  have P:=Is h1 h2 h3 (x:=i) (y:=j) (by omega) (by omega)
  have TS:au (j+1) (cV a b i)=au j (cV a b i)++[cV a b i j]:=tab_succ' _ _
  rw[cV,x1,x2,y1,y2]at P TS;rw[x1,x2,y1,y2];simp only[Int.toNat_natCast]at P TS⊢;have A3:((a.getD (i / b.length) []).getD (j / b.length) 0)=en a (i / b.length) (j / b.length):=rfl
  have B3:((b.getD (i % b.length) []).getD (j % b.length) 0)=en b (i % b.length) (j % b.length):=rfl
  rw[A3,B3];have u0:0<=en a (i / b.length) (j / b.length)*(b.length:Int):=Int.mul_nonneg A2.1 (by omega)
  have eb:=h2.1
  clear x1 x2 y1 y2;generalize i / b.length=u1 at *
  generalize j / b.length=u2 at *
  generalize i % b.length=v1 at *
  generalize j % b.length=v2 at *
  refine⟨⟨by omega,by omega⟩,by omega,⟨by omega,by omega⟩,by omega,by omega,by omega,by omega,by omega,by omega,by omega,by rw[eu];omega,by omega,j+1,⟨by omega,by omega⟩,by omega,by omega,TS.symm⟩
 ·rw[zA,show j=N by omega]
 ·rw[show i=N by omega,bf,hN];rfl
theorem Rs:Fits Tryz.prog 168 ⟨[],zE⟩:=by
 refine aO (Γ:=ai Iu) aF Tryz.func168 fun ds p h hp=>?_
 unfold zE at h;split at h
 ·cases h
  exact⟨ak,It _ _ ,by rw[Rq];exact Rr _ _  hp⟩
 ·cases h
def bq(n s:Int)(x y:Nat):Int :=
 if(x:Int)<n/\(y:Int)<n then((x:Int).tmod n+(y:Int).tmod n).tmod n
 else if(x:Int)<n then n+((x:Int).tmod n+(y:Int).tmod n).tmod n
 else if(y:Int)<n then n+((x:Int).tmod n-(y:Int).tmod n+n).tmod n
 else((x:Int).tmod n-(y:Int).tmod n+n+s).tmod n
def bR(n s:Int):V8:=bN (2*n).toNat (bq n s)
theorem Iv(x:Nat){n:Int}(h:1<=n):0<=(x:Int).tmod n/\(x:Int).tmod n<n:=⟨Int.tmod_nonneg _ (by omega),Int.tmod_lt_of_pos _ (by omega)⟩
theorem lI{x:Int}{n:Int}(h0:0<=x)(h:1<=n):0<=x.tmod n/\x.tmod n<n:=⟨Int.tmod_nonneg _ h0,Int.tmod_lt_of_pos _ (by omega)⟩
def sT(n:Int)(s:Int):Post:=⟨1<=n/\n<=12/\0<=s/\s<=12,.c (.rows 62 2 .i64 (bR n s)),[]⟩
def zG:List AD->Option Post
 | [.c (.int .i64 n),.c (.int .i64 s)]=>some (sT n s)
 |_=>none
def Iw(n:Int)(s:Int):Nat->Option Ann
 |0=>some (Ann.mk ((Nat)) (fun i=>⟨[(0,.c (.int .i64 n)),(1,.c (.int .i64 s)),(5,.c (.own 11)),(6,.c (.int .i64 ((i:Int))))],[(11,some (.rows 0 62 2 .i64 (bH (2*n).toNat i (bq n s))))]⟩) (fun i=>(i:Int)<=2*n) (fun i=>(2*n).toNat-i) (fun i=>fun b_=>match b_ with|2=>some (Ann.mk ((Nat)) (fun j=>⟨[(0,.c (.int .i64 n)),(1,.c (.int .i64 s)),(5,.c (.own 11)),(6,.c (.int .i64 ((i:Int)))),(7,.c (.own 18)),(8,.c (.int .i64 ((j:Int))))],[(11,some (.rows 0 62 2 .i64 (bH (2*n).toNat i (bq n s)))),(18,some (.ints 2 .i64 (au j (bq n s i))))]⟩) (fun j=>(i:Int)<2*n/\(j:Int)<=2*n) (fun j=>(2*n).toNat-j) (fun _=>am))|_=>none))
 |_=>none
def Ix:List (Nat×Ctr):=[]
def iq(n:Int)(x0:Nat)(x1:Nat):=(Int.tmod (↑x0:Int) n-Int.tmod (↑x1:Int) n+n)
def gQ(n:Int)(x0:Nat)(x1:Nat):=(Int.tmod (↑x0:Int) n+Int.tmod (↑x1:Int) n)
def zH(n:Int)(s:Int):Prop :=
 ((∃x0:Nat,(x0:Int)<=(2:Int)*n/\n=n/\s=s/\(0:Int)=(x0:Int)/\([]:V8)=bH (((2:Int)*n).toNat) x0 (bq n s))/\(∀x1:Nat,((x1:Int)<=(2:Int)*n->(ac ((2:Int)*n)/\(ae (decide ((x1:Int)<(2:Int)*n)) ((∃x2:Nat,((x1:Int)<(2:Int)*n/\(x2:Int)<=(2:Int)*n)/\n=n/\s=s/\(x1:Int)=(x1:Int)/\(0:Int)=(x2:Int)/\bH (((2:Int)*n).toNat) x1 (bq n s)=bH (((2:Int)*n).toNat) x1 (bq n s)/\[]=au x2 (bq n s x1))/\(∀x3:Nat,((x1:Int)<(2:Int)*n/\(x3:Int)<=(2:Int)*n->(ac ((2:Int)*n)/\(ae (decide ((x3:Int)<(2:Int)*n)) (n≠(0:Int)/\(n≠(0:Int)/\(ae (decide ((x1:Int)<n)) (ae (decide ((x3:Int)<n)) (ac (gQ n x1 x3)/\n≠(0:Int)/\af ((au x3 (bq n s x1)).length+[Int.tmod (gQ n x1 x3) n].length)/\ac ((x3:Int)+(1:Int))/\∃x4:Nat,((x1:Int)<(2:Int)*n/\(x4:Int)<=(2:Int)*n)/\((2:Int)*n).toNat-x4<((2:Int)*n).toNat-x3/\n=n/\s=s/\(x1:Int)=(x1:Int)/\(x3:Int)+(1:Int)=(x4:Int)/\bH (((2:Int)*n).toNat) x1 (bq n s)=bH (((2:Int)*n).toNat) x1 (bq n s)/\au x3 (bq n s x1)++[Int.tmod (gQ n x1 x3) n]=au x4 (bq n s x1)) (ae (decide ((x1:Int)<n)) (ac (gQ n x1 x3)/\(n≠(0:Int)/\(ac (n+Int.tmod (gQ n x1 x3) n)/\((af ((au x3 (bq n s x1)).length+[n+Int.tmod (gQ n x1 x3) n].length)) /\
 ((ac ((x3:Int)+(1:Int)))/\(∃x5:Nat,((((x1:Int)<(2:Int)*n)/\((x5:Int)<=(2:Int)*n))/\((((2:Int)*n).toNat-x5<((2:Int)*n).toNat-x3)/\((n=n)/\((s=s)/\(((x1:Int)=(x1:Int))/\(((x3:Int)+(1:Int)=(x5:Int))/\((bH (((2:Int)*n).toNat) x1 (bq n s)=bH (((2:Int)*n).toNat) x1 (bq n s))/\(au x3 (bq n s x1)++[n+Int.tmod (gQ n x1 x3) n]=au x5 (bq n s x1))))))))))))))) (ae (decide ((x3:Int)<n)) ((ac (Int.tmod (x1:Int) n-Int.tmod (x3:Int) n))/\((ac (iq n x1 x3))/\((n≠(0:Int))/\((ac (n+Int.tmod (iq n x1 x3) n))/\((af ((au x3 (bq n s x1)).length+[n+Int.tmod (iq n x1 x3) n].length))/\((ac ((x3:Int)+(1:Int)))/\(∃x6:Nat,((((x1:Int)<(2:Int)*n)/\((x6:Int)<=(2:Int)*n))/\((((2:Int)*n).toNat-x6<((2:Int)*n).toNat-x3)/\((n=n)/\((s=s)/\(((x1:Int)=(x1:Int))/\(((x3:Int)+(1:Int)=(x6:Int))/\((bH (((2:Int)*n).toNat) x1 (bq n s)=bH (((2:Int)*n).toNat) x1 (bq n s))/\(au x3 (bq n s x1)++[n+Int.tmod (iq n x1 x3) n]=au x6 (bq n s x1)))))))))))))))) ((ac (Int.tmod (x1:Int) n-Int.tmod (x3:Int) n))/\((ac (iq n x1 x3))/\((ac (Int.tmod (x1:Int) n-Int.tmod (x3:Int) n+n+s))/\((n≠(0:Int))/\((af ((au x3 (bq n s x1)).length+[Int.tmod (Int.tmod (x1:Int) n-Int.tmod (x3:Int) n+n+s) n].length))/\((ac ((x3:Int)+(1:Int)))/\(∃x7:Nat,((((x1:Int)<(2:Int)*n)/\((x7:Int)<=(2:Int)*n)) /\
 ((((2:Int)*n).toNat-x7<((2:Int)*n).toNat-x3)/\((n=n)/\((s=s)/\(((x1:Int)=(x1:Int))/\(((x3:Int)+(1:Int)=(x7:Int))/\((bH (((2:Int)*n).toNat) x1 (bq n s)=bH (((2:Int)*n).toNat) x1 (bq n s))/\(au x3 (bq n s x1)++[Int.tmod (Int.tmod (x1:Int) n-Int.tmod (x3:Int) n+n+s) n]=au x7 (bq n s x1))))))))))))))))))) (ae (decide ((x1:Int)<n)) ((ac (gQ n x1 x3))/\((n≠(0:Int))/\((ac (n+Int.tmod (gQ n x1 x3) n))/\((af ((au x3 (bq n s x1)).length+[n+Int.tmod (gQ n x1 x3) n].length))/\((ac ((x3:Int)+(1:Int)))/\(∃x8:Nat,((((x1:Int)<(2:Int)*n)/\((x8:Int)<=(2:Int)*n))/\((((2:Int)*n).toNat-x8<((2:Int)*n).toNat-x3)/\((n=n)/\((s=s)/\(((x1:Int)=(x1:Int))/\(((x3:Int)+(1:Int)=(x8:Int))/\((bH (((2:Int)*n).toNat) x1 (bq n s)=bH (((2:Int)*n).toNat) x1 (bq n s))/\(au x3 (bq n s x1)++[n+Int.tmod (gQ n x1 x3) n]=au x8 (bq n s x1))))))))))))))) (ae (decide ((x3:Int)<n)) ((ac (Int.tmod (x1:Int) n-Int.tmod (x3:Int) n))/\((ac (iq n x1 x3))/\((n≠(0:Int))/\((ac (n+Int.tmod (iq n x1 x3) n))/\((af ((au x3 (bq n s x1)).length+[n+Int.tmod (iq n x1 x3) n].length))/\((ac ((x3:Int)+(1:Int)))/\(∃x9:Nat,((((x1:Int)<(2:Int)*n)/\((x9:Int)<=(2:Int)*n))/\((((2:Int)*n).toNat-x9<((2:Int)*n).toNat-x3)/\((n=n)/\((s=s)/\(((x1:Int)=(x1:Int))/\(((x3:Int)+(1:Int)=(x9:Int)) /\
 ((bH (((2:Int)*n).toNat) x1 (bq n s)=bH (((2:Int)*n).toNat) x1 (bq n s))/\(au x3 (bq n s x1)++[n+Int.tmod (iq n x1 x3) n]=au x9 (bq n s x1)))))))))))))))) ((ac (Int.tmod (x1:Int) n-Int.tmod (x3:Int) n))/\((ac (iq n x1 x3))/\((ac (Int.tmod (x1:Int) n-Int.tmod (x3:Int) n+n+s))/\((n≠(0:Int))/\((af ((au x3 (bq n s x1)).length+[Int.tmod (Int.tmod (x1:Int) n-Int.tmod (x3:Int) n+n+s) n].length))/\((ac ((x3:Int)+(1:Int)))/\(∃x10:Nat,((((x1:Int)<(2:Int)*n)/\((x10:Int)<=(2:Int)*n))/\((((2:Int)*n).toNat-x10<((2:Int)*n).toNat-x3)/\((n=n)/\((s=s)/\(((x1:Int)=(x1:Int))/\(((x3:Int)+(1:Int)=(x10:Int))/\((bH (((2:Int)*n).toNat) x1 (bq n s)=bH (((2:Int)*n).toNat) x1 (bq n s))/\(au x3 (bq n s x1)++[Int.tmod (Int.tmod (x1:Int) n-Int.tmod (x3:Int) n+n+s) n]=au x10 (bq n s x1))))))))))))))))))))) ((af ((bH (((2:Int)*n).toNat) x1 (bq n s)).length+(au x3 (bq n s x1)::([]:V8)).length))/\((ac ((x1:Int)+(1:Int)))/\(∃x11:Nat,(((x11:Int)<=(2:Int)*n)/\((((2:Int)*n).toNat-x11<((2:Int)*n).toNat-x1)/\((n=n)/\((s=s)/\(((x1:Int)+(1:Int)=(x11:Int))/\(bH (((2:Int)*n).toNat) x1 (bq n s)++au x3 (bq n s x1)::([]:V8)=bH (((2:Int)*n).toNat) x11 (bq n s))))))))))))))) ((bH (((2:Int)*n).toNat) x1 (bq n s)=bR n s)/\True))))))
theorem Rt(n:Int)(s:Int):aJ Tryz.prog (ai Ix) ak (Iw n s) Tryz.f169 (aE Tryz.f169) [] [.c (.int .i64 n),.c (.int .i64 s)] (sT n s)=zH n s:=by kernel_rfl
theorem Ru(n:Int)(s:Int)(Yh:(sT n s).pre):zH n s:=by
 simp only[sT,zH,iq,gQ,aG,u1,u2,u3,u4,u5,u6,u7,u8,u9,v1,v2,v3,v4,v5,v6,v7,v8,v9,w1,w2,w3,w4,aH,aa,ac,af,ar]at Yh⊢;obtain⟨h1,h2,h3,h4⟩:=Yh;refine⟨⟨0,by omega,rfl,rfl⟩,fun i hi=>⟨by omega,fun h=>⟨⟨0,⟨by omega,by omega⟩,rfl,rfl⟩,fun j ⟨_,hj⟩=>⟨by omega,fun g=>?_,fun g=>⟨by rw[zB];omega,by omega,i+1,by omega,by omega,by omega,?_⟩⟩⟩,fun h=>?_⟩⟩
 ·have a:=Iv i h1
  have b:=Iv j h1
  have c:=lI (x:=(i:Int).tmod n+(j:Int).tmod n) (by omega) h1
  have d:=lI (x:=(i:Int).tmod n-(j:Int).tmod n+n) (by omega) h1
  have TS:au j (bq n s i)++[bq n s i j]=au (j+1) (bq n s i):=(tab_succ' _ _).symm
  have R:∀v:Int,v=bq n s i j->(au j (bq n s i)).length+(0+1)<=1099511627776/\∃x:Nat,(((i:Int)<2*n/\(x:Int)<=2*n)/\(2*n).toNat-x<(2*n).toNat-j/\(j:Int)+1=(x:Int)/\au j (bq n s i)++[v]=au x (bq n s i)):=fun v hv=>by
   subst hv;refine⟨by rw[eu];omega,j+1,⟨by omega,by omega⟩,by omega,by omega,TS⟩
  by_cases q:(i:Int)<n<;>by_cases r:(j:Int)<n
  ·have:=R _ (if_pos ⟨q,r⟩).symm
   simp only[q,r,not_true_eq_false,not_false_eq_true,true_implies,false_implies,and_true,true_and,implies_true];exact⟨by omega,by omega,by omega,by omega,this.1,by omega,this.2⟩
  ·have:=R _ ((if_neg (by omega)).trans (if_pos q)).symm
   simp only[q,r,not_true_eq_false,not_false_eq_true,true_implies,false_implies,and_true,true_and,implies_true];exact⟨by omega,by omega,by omega,by omega,by omega,this.1,by omega,this.2⟩
  ·have:=R _ ((if_neg (by omega)).trans ((if_neg q).trans (if_pos r))).symm
   simp only[q,r,not_true_eq_false,not_false_eq_true,true_implies,false_implies,and_true,true_and,implies_true];exact⟨by omega,by omega,by omega,by omega,by omega,by omega,this.1,by omega,this.2⟩
  ·have:=R _ ((if_neg (by omega)).trans ((if_neg q).trans (if_neg r))).symm
   simp only[q,r,not_true_eq_false,not_false_eq_true,true_implies,false_implies,and_true,true_and,implies_true];exact⟨by omega,by omega,by omega,by omega,by omega,by omega,this.1,by omega,this.2⟩
 ·rw[zA,show j=(2*n).toNat by omega]
 ·rw[show i=(2*n).toNat by omega];rfl
theorem Rv:Fits Tryz.prog 169 ⟨[],zG⟩:=by
 refine aO (Γ:=ai Ix) aF Tryz.func169 fun ds p h hp=>?_
 unfold zG at h;split at h
 ·cases h
  exact⟨ak,Iw _ _ ,by rw[Rt];exact Ru _ _  hp⟩
 ·cases h
def aQ(n:Int):V9 :=
 ah n::((if n=4 then [bf (ah 2) (ah 2)]else if n=8 then [bf (ah 2) (ah 4),bf (ah 2) (bf (ah 2) (ah 2))]else []) ++
  ((if 6<=n/\n.tmod 2=0 then [bR (n.tdiv 2) 0]else [])++(if n=8 then [bR (n.tdiv 2) (n.tdiv 4)]else [])))
theorem sU{n:Int}(h:1<=n):((ah n).length:Int)=n:=by rw[ah,nt];omega
theorem zI{n:Int}(h:1<=n):ay (ah n).length (ah n):=by
 have e:=sU h
 refine⟨rfl,fun x hx=>?_⟩
 have r:(ah n).getD x []=au n.toNat (dD n x):=oZ _ _ _ (by omega)
 refine⟨by rw[r,eu];omega,fun y hy=>?_⟩
 have v:en (ah n) x y=dD n x y:=by unfold en;rw[r,eJ _ _ _ (by omega)]
 have a:=Int.tmod_nonneg (a:=(x:Int)+(y:Int)) n (by omega)
 have b:=Int.tmod_lt_of_pos ((x:Int)+(y:Int)) (b:=n) (by omega)
 rw[v,dD];omega
theorem Rw{t:V8}(h:b6 t=true):ay t.length t:=by
 obtain⟨_,_,q⟩:=gu h;exact⟨rfl,fun x hx=>⟨(q x hx).1,fun y hy=>by
  have:=(q x hx).2 y hy
  have e2:en t x y=(t.getD x []).getD y 0:=rfl
  omega⟩⟩
def sV(n:Int):Post:=⟨1<=n/\n<=8,.c (.tr [22,62,2] (.r3 .i64 (aQ n))),[]⟩
def zJ:List AD->Option Post
 | [.c (.int .i64 n)]=>some (sV n)
 |_=>none
def Iy(t:Nat):Bool:=[2000009,2000017,2000031,2000039,2000047,2000060,2000074,2000088].contains t
def Iz:List (Nat×Ctr):=[(167,⟨[],zC⟩),(168,⟨[],zE⟩),(169,⟨[],zG⟩)]
def zK(n:Int):Prop :=
 ae (n == (12:Int)) False (ah n::([]:V9)++bf (ah (2:Int)) (ah (4:Int))::bf (ah (2:Int)) (bf (ah (2:Int)) (ah (2:Int)))::([]:V9)++bR (Int.tdiv n (2:Int)) (Int.tdiv n (4:Int))::([]:V9)=aQ n/\True)
def zL(n:Int):=(af (FC.len (FC.r3 IntKind.i64 (ah n::([]:V9)++bf (ah (2:Int)) (ah (4:Int))::bf (ah (2:Int)) (bf (ah (2:Int)) (ah (2:Int)))::([]:V9)))+FC.len (FC.r3 IntKind.i64 (bR (Int.tdiv n (2:Int)) (Int.tdiv n (4:Int))::([]:V9)))))
def zM(n:Int):Prop :=
 ae (n == (8:Int)) (((2:Int)≠(0:Int)/\ac (Int.tdiv n (2:Int)))/\((4:Int)≠(0:Int)/\ac (Int.tdiv n (4:Int)))/\(((1:Int)<=Int.tdiv n (2:Int)/\Int.tdiv n (2:Int)<=(12:Int)/\(0:Int)<=Int.tdiv n (4:Int)/\Int.tdiv n (4:Int)<=(12:Int))/\True)/\zL n/\zK n) (ae (n == (12:Int)) (((2:Int)≠(0:Int)/\ac (Int.tdiv n (2:Int)))/\((4:Int)≠(0:Int)/\ac (Int.tdiv n (4:Int)))/\(((1:Int)<=Int.tdiv n (2:Int)/\Int.tdiv n (2:Int)<=(12:Int)/\(0:Int)<=Int.tdiv n (4:Int)/\Int.tdiv n (4:Int)<=(12:Int))/\True)/\zL n/\zK n) (ae (n == (12:Int)) False (ah n::([]:V9)++bf (ah (2:Int)) (ah (4:Int))::bf (ah (2:Int)) (bf (ah (2:Int)) (ah (2:Int)))::([]:V9)=aQ n/\True)))
def zN(n:Int):Prop :=
 ae (n == (12:Int)) False (ah n::([]:V9)++bf (ah (2:Int)) (ah (2:Int))::([]:V9)++bR (Int.tdiv n (2:Int)) (Int.tdiv n (4:Int))::([]:V9)=aQ n/\True)
def zO(n:Int):=(af (FC.len (FC.r3 IntKind.i64 (ah n::([]:V9)++bf (ah (2:Int)) (ah (2:Int))::([]:V9)))+FC.len (FC.r3 IntKind.i64 (bR (Int.tdiv n (2:Int)) (Int.tdiv n (4:Int))::([]:V9)))))
def zP(n:Int):Prop :=
 ae (n == (8:Int)) (((2:Int)≠(0:Int)/\ac (Int.tdiv n (2:Int)))/\((4:Int)≠(0:Int)/\ac (Int.tdiv n (4:Int)))/\(((1:Int)<=Int.tdiv n (2:Int)/\Int.tdiv n (2:Int)<=(12:Int)/\(0:Int)<=Int.tdiv n (4:Int)/\Int.tdiv n (4:Int)<=(12:Int))/\True)/\zO n/\zN n) (ae (n == (12:Int)) (((2:Int)≠(0:Int)/\ac (Int.tdiv n (2:Int)))/\((4:Int)≠(0:Int)/\ac (Int.tdiv n (4:Int)))/\(((1:Int)<=Int.tdiv n (2:Int)/\Int.tdiv n (2:Int)<=(12:Int)/\(0:Int)<=Int.tdiv n (4:Int)/\Int.tdiv n (4:Int)<=(12:Int))/\True)/\zO n/\zN n) (ae (n == (12:Int)) False (ah n::([]:V9)++bf (ah (2:Int)) (ah (2:Int))::([]:V9)=aQ n/\True)))
def zQ(n:Int):Prop :=
 ae (n == (12:Int)) False (ah n::([]:V9)++bf (ah (3:Int)) (ah (3:Int))::([]:V9)++bR (Int.tdiv n (2:Int)) (Int.tdiv n (4:Int))::([]:V9)=aQ n/\True)
def zR(n:Int):=(af (FC.len (FC.r3 IntKind.i64 (ah n::([]:V9)++bf (ah (3:Int)) (ah (3:Int))::([]:V9)))+FC.len (FC.r3 IntKind.i64 (bR (Int.tdiv n (2:Int)) (Int.tdiv n (4:Int))::([]:V9)))))
def zS(n:Int):Prop :=
 ae (n == (8:Int)) (((2:Int)≠(0:Int)/\ac (Int.tdiv n (2:Int)))/\((4:Int)≠(0:Int)/\ac (Int.tdiv n (4:Int)))/\(((1:Int)<=Int.tdiv n (2:Int)/\Int.tdiv n (2:Int)<=(12:Int)/\(0:Int)<=Int.tdiv n (4:Int)/\Int.tdiv n (4:Int)<=(12:Int))/\True)/\zR n/\zQ n) (ae (n == (12:Int)) (((2:Int)≠(0:Int)/\ac (Int.tdiv n (2:Int)))/\((4:Int)≠(0:Int)/\ac (Int.tdiv n (4:Int)))/\(((1:Int)<=Int.tdiv n (2:Int)/\Int.tdiv n (2:Int)<=(12:Int)/\(0:Int)<=Int.tdiv n (4:Int)/\Int.tdiv n (4:Int)<=(12:Int))/\True)/\zR n/\zQ n) (ae (n == (12:Int)) False (ah n::([]:V9)++bf (ah (3:Int)) (ah (3:Int))::([]:V9)=aQ n/\True)))
def zT(n:Int):Prop :=
 ae (n == (12:Int)) False (ah n::([]:V9)++bf (ah (2:Int)) (ah (6:Int))::([]:V9)++bR (Int.tdiv n (2:Int)) (Int.tdiv n (4:Int))::([]:V9)=aQ n/\True)
def zU(n:Int):=(af (FC.len (FC.r3 IntKind.i64 (ah n::([]:V9)++bf (ah (2:Int)) (ah (6:Int))::([]:V9)))+FC.len (FC.r3 IntKind.i64 (bR (Int.tdiv n (2:Int)) (Int.tdiv n (4:Int))::([]:V9)))))
def zV(n:Int):Prop :=
 ae (n == (8:Int)) (((2:Int)≠(0:Int)/\ac (Int.tdiv n (2:Int)))/\((4:Int)≠(0:Int)/\ac (Int.tdiv n (4:Int)))/\(((1:Int)<=Int.tdiv n (2:Int)/\Int.tdiv n (2:Int)<=(12:Int)/\(0:Int)<=Int.tdiv n (4:Int)/\Int.tdiv n (4:Int)<=(12:Int))/\True)/\zU n/\zT n) (ae (n == (12:Int)) (((2:Int)≠(0:Int)/\ac (Int.tdiv n (2:Int)))/\((4:Int)≠(0:Int)/\ac (Int.tdiv n (4:Int)))/\(((1:Int)<=Int.tdiv n (2:Int)/\Int.tdiv n (2:Int)<=(12:Int)/\(0:Int)<=Int.tdiv n (4:Int)/\Int.tdiv n (4:Int)<=(12:Int))/\True)/\zU n/\zT n) (ae (n == (12:Int)) False (ah n::([]:V9)++bf (ah (2:Int)) (ah (6:Int))::([]:V9)=aQ n/\True)))
def zW(n:Int):=(af (FC.len (FC.r3 IntKind.i64 (ah n::([]:V9)))+FC.len (FC.r3 IntKind.i64 (bR (Int.tdiv n (2:Int)) (Int.tdiv n (4:Int))::([]:V9)))))
def zX(n:Int):Prop :=
 ae (n == (8:Int)) (((2:Int)≠(0:Int)/\ac (Int.tdiv n (2:Int)))/\((4:Int)≠(0:Int)/\ac (Int.tdiv n (4:Int)))/\(((1:Int)<=Int.tdiv n (2:Int)/\Int.tdiv n (2:Int)<=(12:Int)/\(0:Int)<=Int.tdiv n (4:Int)/\Int.tdiv n (4:Int)<=(12:Int))/\True)/\zW n/\ae (n == (12:Int)) False (ah n::([]:V9)++bR (Int.tdiv n (2:Int)) (Int.tdiv n (4:Int))::([]:V9)=aQ n/\True)) (ae (n == (12:Int)) (((2:Int)≠(0:Int)/\ac (Int.tdiv n (2:Int)))/\((4:Int)≠(0:Int)/\ac (Int.tdiv n (4:Int)))/\(((1:Int)<=Int.tdiv n (2:Int)/\Int.tdiv n (2:Int)<=(12:Int)/\(0:Int)<=Int.tdiv n (4:Int)/\Int.tdiv n (4:Int)<=(12:Int))/\True)/\zW n/\ae (n == (12:Int)) False (ah n::([]:V9)++bR (Int.tdiv n (2:Int)) (Int.tdiv n (4:Int))::([]:V9)=aQ n/\True)) (ae (n == (12:Int)) False (ah n::([]:V9)=aQ n/\True)))
def zY(n:Int):Prop :=
 ae (n == (12:Int)) False (ah n::([]:V9)++bf (ah (2:Int)) (ah (4:Int))::bf (ah (2:Int)) (bf (ah (2:Int)) (ah (2:Int)))::([]:V9)++bR (Int.tdiv n (2:Int)) (0:Int)::([]:V9)++bR (Int.tdiv n (2:Int)) (Int.tdiv n (4:Int))::([]:V9)=aQ n/\True)
def zZ(n:Int):Prop :=
 ae (n == (12:Int)) False (ah n::([]:V9)++bf (ah (2:Int)) (ah (2:Int))::([]:V9)++bR (Int.tdiv n (2:Int)) (0:Int)::([]:V9)++bR (Int.tdiv n (2:Int)) (Int.tdiv n (4:Int))::([]:V9)=aQ n/\True)
def Aa(n:Int):Prop :=
 ae (n == (12:Int)) False (ah n::([]:V9)++bf (ah (3:Int)) (ah (3:Int))::([]:V9)++bR (Int.tdiv n (2:Int)) (0:Int)::([]:V9)++bR (Int.tdiv n (2:Int)) (Int.tdiv n (4:Int))::([]:V9)=aQ n/\True)
def Ab(n:Int):Prop :=
 ae (n == (12:Int)) False (ah n::([]:V9)++bf (ah (2:Int)) (ah (6:Int))::([]:V9)++bR (Int.tdiv n (2:Int)) (0:Int)::([]:V9)++bR (Int.tdiv n (2:Int)) (Int.tdiv n (4:Int))::([]:V9)=aQ n/\True)
def Ac(n:Int):Prop :=
 ae (n == (12:Int)) False (ah n::([]:V9)++bR (Int.tdiv n (2:Int)) (0:Int)::([]:V9)++bR (Int.tdiv n (2:Int)) (Int.tdiv n (4:Int))::([]:V9)=aQ n/\True)
def lJ(n:Int):=(FC.r3 IntKind.i64 (bR (Int.tdiv n (2:Int)) (Int.tdiv n (4:Int))::([]:V9)))
def nq(n:Int):=(FC.r3 IntKind.i64 (bR (Int.tdiv n (2:Int)) (0:Int)::([]:V9)))
def Ad(n:Int):=(af (FC.len (FC.r3 IntKind.i64 (ah n::([]:V9)++bf (ah (2:Int)) (ah (4:Int))::bf (ah (2:Int)) (bf (ah (2:Int)) (ah (2:Int)))::([]:V9)++bR (Int.tdiv n (2:Int)) (0:Int)::([]:V9)))+FC.len (lJ n)))
def Ae(n:Int):=(af (FC.len (FC.r3 IntKind.i64 (ah n::([]:V9)++bf (ah (2:Int)) (ah (2:Int))::([]:V9)++bR (Int.tdiv n (2:Int)) (0:Int)::([]:V9)))+FC.len (lJ n)))
def Af(n:Int):=(af (FC.len (FC.r3 IntKind.i64 (ah n::([]:V9)++bf (ah (3:Int)) (ah (3:Int))::([]:V9)++bR (Int.tdiv n (2:Int)) (0:Int)::([]:V9)))+FC.len (lJ n)))
def Ag(n:Int):=(af (FC.len (FC.r3 IntKind.i64 (ah n::([]:V9)++bf (ah (2:Int)) (ah (6:Int))::([]:V9)++bR (Int.tdiv n (2:Int)) (0:Int)::([]:V9)))+FC.len (lJ n)))
def km:=(ay ((ah (2:Int)).length) (ah (2:Int)))
def nr(n:Int):=(FC.r3 IntKind.i64 (ah n::([]:V9)))
def Ah(n:Int):Prop :=
 ((((1:Int)<=n/\n<=(12:Int))/\True)/\(ae (n == (4:Int)) ((((1:Int)<=(2:Int)/\(2:Int)<=(12:Int))/\True)/\((((1:Int)<=(2:Int)/\(2:Int)<=(12:Int))/\True)/\(((km/\km/\(1:Nat)<=(ah (2:Int)).length/\(ah (2:Int)).length<=(144:Nat)/\(ah (2:Int)).length<=(144:Nat))/\True)/\(af (FC.len (nr n)+FC.len (FC.r3 IntKind.i64 (bf (ah (2:Int)) (ah (2:Int))::([]:V9))))/\(ae (decide ((6:Int)<=n)) ((2:Int)≠(0:Int)/\(ae (Int.tmod n (2:Int) == (0:Int)) (((2:Int)≠(0:Int)/\ac (Int.tdiv n (2:Int)))/\((((1:Int)<=Int.tdiv n (2:Int)/\Int.tdiv n (2:Int)<=(12:Int)/\(0:Int)<=(0:Int)/\(0:Int)<=(12:Int))/\True)/\(af (FC.len (FC.r3 IntKind.i64 (ah n::([]:V9)++bf (ah (2:Int)) (ah (2:Int))::([]:V9)))+FC.len (nq n))/\(ae (n == (8:Int)) (((2:Int)≠(0:Int)/\ac (Int.tdiv n (2:Int)))/\((4:Int)≠(0:Int)/\ac (Int.tdiv n (4:Int)))/\(((1:Int)<=Int.tdiv n (2:Int)/\Int.tdiv n (2:Int)<=(12:Int)/\(0:Int)<=Int.tdiv n (4:Int)/\Int.tdiv n (4:Int)<=(12:Int))/\True)/\Ae n/\zZ n) (ae (n == (12:Int)) (((2:Int)≠(0:Int)/\ac (Int.tdiv n (2:Int)))/\((4:Int)≠(0:Int)/\ac (Int.tdiv n (4:Int)))/\(((1:Int)<=Int.tdiv n (2:Int)/\Int.tdiv n (2:Int)<=(12:Int)/\(0:Int)<=Int.tdiv n (4:Int)/\Int.tdiv n (4:Int)<=(12:Int))/\True)/\Ae n/\zZ n) (ae (n == (12:Int)) False
 ((ah n::([]:V9)++bf (ah (2:Int)) (ah (2:Int))::([]:V9)++bR (Int.tdiv n (2:Int)) (0:Int)::([]:V9)=aQ n)/\True))))))) (zP n))) (zP n)))))) (ae (n == (8:Int)) (((((1:Int)<=(2:Int))/\((2:Int)<=(12:Int)))/\True)/\(((((1:Int)<=(2:Int))/\((2:Int)<=(12:Int)))/\True)/\((((km)/\((km)/\(((1:Nat)<=(ah (2:Int)).length)/\(((ah (2:Int)).length<=(144:Nat))/\((ah (2:Int)).length<=(144:Nat))))))/\True)/\(((((1:Int)<=(2:Int))/\((2:Int)<=(12:Int)))/\True)/\(((((1:Int)<=(4:Int))/\((4:Int)<=(12:Int)))/\True)/\((((km)/\((ay ((ah (4:Int)).length) (ah (4:Int)))/\(((1:Nat)<=(ah (4:Int)).length)/\(((ah (2:Int)).length<=(144:Nat))/\((ah (4:Int)).length<=(144:Nat))))))/\True)/\(((((1:Int)<=(2:Int))/\((2:Int)<=(12:Int)))/\True)/\((((km)/\((ay ((bf (ah (2:Int)) (ah (2:Int))).length) (bf (ah (2:Int)) (ah (2:Int))))/\(((1:Nat)<=(bf (ah (2:Int)) (ah (2:Int))).length)/\(((ah (2:Int)).length<=(144:Nat))/\((bf (ah (2:Int)) (ah (2:Int))).length<=(144:Nat))))))/\True)/\((af (FC.len (nr n)+FC.len (FC.r3 IntKind.i64 (bf (ah (2:Int)) (ah (4:Int))::bf (ah (2:Int)) (bf (ah (2:Int)) (ah (2:Int)))::([]:V9)))))/\(ae (decide ((6:Int)<=n)) (((2:Int)≠(0:Int))/\(ae (Int.tmod n (2:Int) == (0:Int)) ((((2:Int)≠(0:Int))/\(ac (Int.tdiv n (2:Int))))/\(((((1:Int)<=Int.tdiv n (2:Int))/\((Int.tdiv n (2:Int)<=(12:Int)) /\
 (((0:Int)<=(0:Int))/\((0:Int)<=(12:Int)))))/\True)/\((af (FC.len (FC.r3 IntKind.i64 (ah n::([]:V9)++bf (ah (2:Int)) (ah (4:Int))::bf (ah (2:Int)) (bf (ah (2:Int)) (ah (2:Int)))::([]:V9)))+FC.len (nq n)))/\(ae (n == (8:Int)) ((((2:Int)≠(0:Int))/\(ac (Int.tdiv n (2:Int))))/\((((4:Int)≠(0:Int))/\(ac (Int.tdiv n (4:Int))))/\(((((1:Int)<=Int.tdiv n (2:Int))/\((Int.tdiv n (2:Int)<=(12:Int))/\(((0:Int)<=Int.tdiv n (4:Int))/\(Int.tdiv n (4:Int)<=(12:Int)))))/\True)/\((Ad n)/\(zY n))))) (ae (n == (12:Int)) ((((2:Int)≠(0:Int))/\(ac (Int.tdiv n (2:Int))))/\((((4:Int)≠(0:Int))/\(ac (Int.tdiv n (4:Int))))/\(((((1:Int)<=Int.tdiv n (2:Int))/\((Int.tdiv n (2:Int)<=(12:Int))/\(((0:Int)<=Int.tdiv n (4:Int))/\(Int.tdiv n (4:Int)<=(12:Int)))))/\True)/\((Ad n)/\(zY n))))) (ae (n == (12:Int)) False ((ah n::([]:V9)++bf (ah (2:Int)) (ah (4:Int))::bf (ah (2:Int)) (bf (ah (2:Int)) (ah (2:Int)))::([]:V9)++bR (Int.tdiv n (2:Int)) (0:Int)::([]:V9)=aQ n)/\True))))))) (zM n))) (zM n))))))))))) (ae (n == (9:Int)) (((((1:Int)<=(3:Int))/\((3:Int)<=(12:Int)))/\True)/\(((((1:Int)<=(3:Int))/\((3:Int)<=(12:Int)))/\True)/\((((ay ((ah (3:Int)).length) (ah (3:Int)))/\((ay ((ah (3:Int)).length) (ah (3:Int)))/\(((1:Nat)<=(ah (3:Int)).length)/\(((ah (3:Int)).length<=(144:Nat)) /\
 ((ah (3:Int)).length<=(144:Nat))))))/\True)/\((af (FC.len (nr n)+FC.len (FC.r3 IntKind.i64 (bf (ah (3:Int)) (ah (3:Int))::([]:V9)))))/\(ae (decide ((6:Int)<=n)) (((2:Int)≠(0:Int))/\(ae (Int.tmod n (2:Int) == (0:Int)) ((((2:Int)≠(0:Int))/\(ac (Int.tdiv n (2:Int))))/\(((((1:Int)<=Int.tdiv n (2:Int))/\((Int.tdiv n (2:Int)<=(12:Int))/\(((0:Int)<=(0:Int))/\((0:Int)<=(12:Int)))))/\True)/\((af (FC.len (FC.r3 IntKind.i64 (ah n::([]:V9)++bf (ah (3:Int)) (ah (3:Int))::([]:V9)))+FC.len (nq n)))/\(ae (n == (8:Int)) ((((2:Int)≠(0:Int))/\(ac (Int.tdiv n (2:Int))))/\((((4:Int)≠(0:Int))/\(ac (Int.tdiv n (4:Int))))/\(((((1:Int)<=Int.tdiv n (2:Int))/\((Int.tdiv n (2:Int)<=(12:Int))/\(((0:Int)<=Int.tdiv n (4:Int))/\(Int.tdiv n (4:Int)<=(12:Int)))))/\True)/\((Af n)/\(Aa n))))) (ae (n == (12:Int)) ((((2:Int)≠(0:Int))/\(ac (Int.tdiv n (2:Int))))/\((((4:Int)≠(0:Int))/\(ac (Int.tdiv n (4:Int))))/\(((((1:Int)<=Int.tdiv n (2:Int))/\((Int.tdiv n (2:Int)<=(12:Int))/\(((0:Int)<=Int.tdiv n (4:Int))/\(Int.tdiv n (4:Int)<=(12:Int)))))/\True)/\((Af n)/\(Aa n))))) (ae (n == (12:Int)) False ((ah n::([]:V9)++bf (ah (3:Int)) (ah (3:Int))::([]:V9)++bR (Int.tdiv n (2:Int)) (0:Int)::([]:V9)=aQ n)/\True))))))) (zS n))) (zS n)))))) (ae (n == (12:Int))
 ((((1:Int)<=(2:Int)/\(2:Int)<=(12:Int))/\True)/\((((1:Int)<=(6:Int)/\(6:Int)<=(12:Int))/\True)/\(((km/\ay ((ah (6:Int)).length) (ah (6:Int))/\(1:Nat)<=(ah (6:Int)).length/\(ah (2:Int)).length<=(144:Nat)/\(ah (6:Int)).length<=(144:Nat))/\True)/\(af (FC.len (nr n)+FC.len (FC.r3 IntKind.i64 (bf (ah (2:Int)) (ah (6:Int))::([]:V9))))/\(ae (decide ((6:Int)<=n)) ((2:Int)≠(0:Int)/\(ae (Int.tmod n (2:Int) == (0:Int)) (((2:Int)≠(0:Int)/\ac (Int.tdiv n (2:Int)))/\((((1:Int)<=Int.tdiv n (2:Int)/\Int.tdiv n (2:Int)<=(12:Int)/\(0:Int)<=(0:Int)/\(0:Int)<=(12:Int))/\True)/\(af (FC.len (FC.r3 IntKind.i64 (ah n::([]:V9)++bf (ah (2:Int)) (ah (6:Int))::([]:V9)))+FC.len (nq n))/\(ae (n == (8:Int)) (((2:Int)≠(0:Int)/\ac (Int.tdiv n (2:Int)))/\((4:Int)≠(0:Int)/\ac (Int.tdiv n (4:Int)))/\(((1:Int)<=Int.tdiv n (2:Int)/\Int.tdiv n (2:Int)<=(12:Int)/\(0:Int)<=Int.tdiv n (4:Int)/\Int.tdiv n (4:Int)<=(12:Int))/\True)/\Ag n/\Ab n) (ae (n == (12:Int)) (((2:Int)≠(0:Int)/\ac (Int.tdiv n (2:Int)))/\((4:Int)≠(0:Int)/\ac (Int.tdiv n (4:Int)))/\(((1:Int)<=Int.tdiv n (2:Int)/\Int.tdiv n (2:Int)<=(12:Int)/\(0:Int)<=Int.tdiv n (4:Int)/\Int.tdiv n (4:Int)<=(12:Int))/\True)/\Ag n/\Ab n) (ae (n == (12:Int)) False
 ((ah n::([]:V9)++bf (ah (2:Int)) (ah (6:Int))::([]:V9)++bR (Int.tdiv n (2:Int)) (0:Int)::([]:V9)=aQ n)/\True))))))) (zV n))) (zV n)))))) (ae (decide ((6:Int)<=n)) (((2:Int)≠(0:Int))/\(ae (Int.tmod n (2:Int) == (0:Int)) ((((2:Int)≠(0:Int))/\(ac (Int.tdiv n (2:Int))))/\(((((1:Int)<=Int.tdiv n (2:Int))/\((Int.tdiv n (2:Int)<=(12:Int))/\(((0:Int)<=(0:Int))/\((0:Int)<=(12:Int)))))/\True)/\((af (FC.len (nr n)+FC.len (nq n)))/\(ae (n == (8:Int)) ((((2:Int)≠(0:Int))/\(ac (Int.tdiv n (2:Int))))/\((((4:Int)≠(0:Int))/\(ac (Int.tdiv n (4:Int))))/\(((((1:Int)<=Int.tdiv n (2:Int))/\((Int.tdiv n (2:Int)<=(12:Int))/\(((0:Int)<=Int.tdiv n (4:Int))/\(Int.tdiv n (4:Int)<=(12:Int)))))/\True)/\((af (FC.len (FC.r3 IntKind.i64 (ah n::([]:V9)++bR (Int.tdiv n (2:Int)) (0:Int)::([]:V9)))+FC.len (lJ n)))/\(Ac n))))) (ae (n == (12:Int)) ((((2:Int)≠(0:Int))/\(ac (Int.tdiv n (2:Int))))/\((((4:Int)≠(0:Int))/\(ac (Int.tdiv n (4:Int))))/\(((((1:Int)<=Int.tdiv n (2:Int))/\((Int.tdiv n (2:Int)<=(12:Int))/\(((0:Int)<=Int.tdiv n (4:Int))/\(Int.tdiv n (4:Int)<=(12:Int)))))/\True)/\((af (FC.len (FC.r3 IntKind.i64 (ah n::([]:V9)++bR (Int.tdiv n (2:Int)) (0:Int)::([]:V9)))+FC.len (lJ n)))/\(Ac n))))) (ae (n == (12:Int)) False
 ((ah n::([]:V9)++bR (Int.tdiv n (2:Int)) (0:Int)::([]:V9)=aQ n)/\True))))))) (zX n))) (zX n)))))))
theorem Rx(n:Int):aJ Tryz.prog (ai Iz) Iy am Tryz.f126 (aE Tryz.f126) [] [.c (.int .i64 n)] (sV n)=Ah n:=by kernel_rfl
theorem Ry(n:Int)(Yh:(sV n).pre):Ah n:=by
 simp only[sV,Ah,Ac,Ab,Aa,zZ,zY,zX,zT,zV,zQ,zS,zN,zP,zK,zM,zL,zO,zR,zU,zW,lJ,nq,Ad,Ae,Af,Ag,km,nr,aG,u1,u2,u3,u4,u5,u6,u7,u8,u9,v1,v2,v3,v4,v5,v6,v7,v8,v9,w1,w2,w3,w4,aH,aa,ac,af,ar]at Yh⊢;obtain⟨h1,h2⟩:=Yh;have l2:(ah 2).length=2:=by have:=sU (n:=2) (by omega);omega
 have l4:(ah 4).length=4:=by have:=sU (n:=4) (by omega);omega
 have t2:=zI (n:=2) (by omega)
 have t4:=zI (n:=4) (by omega)
 have l22:(bf (ah 2) (ah 2)).length=4:=by rw[bf,nt,l2]
 have t22:ay 4 (bf (ah 2) (ah 2)):=by
  have:=Rw (t:=bf (ah 2) (ah 2)) (by decide +kernel)
  rw[l22]at this;exact this
 rw[l2]at t2;rw[l4]at t4;have:n=1\/n=2\/n=3\/n=4\/n=5\/n=6\/n=7\/n=8:=by omega
 rcases this with rfl|rfl|rfl|rfl|rfl|rfl|rfl|rfl<;>simp[l2,t2,l4,t4,l22,t22,aQ,FC.len]
theorem Rz:Fits Tryz.prog 126 ⟨[],zJ⟩:=by
 refine aO (Γ:=ai Iz) (aw Rp (aw Rs (aw Rv aF))) Tryz.func126 fun ds p h hp=>?_
 unfold zJ at h;split at h
 ·cases h
  exact⟨Iy,am,by rw[Rx];exact Ry _  hp⟩
 ·cases h
end Go.Sx
