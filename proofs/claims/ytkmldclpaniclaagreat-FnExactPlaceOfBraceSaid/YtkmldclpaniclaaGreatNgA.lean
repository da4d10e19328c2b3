/- NgA -/
import Derived.Test.YtkmldclpaniclaaGreatNamB
import Derived.Test.YtkmldclpaniclaaGreatJoin
open Go Go.Proofs
namespace Go.Sx
set_option linter.unusedSimpArgs false
set_option linter.unusedVariables false
def sW(x:Int)(y:Int)(n:Int):Post:=⟨1<=n/\n<=12/\0<=x/\x<n/\0<=y/\y<n,.c (.int .i64 (dD n x.toNat y.toNat)),[]⟩
def oU:List AD->Option Post
 | [.c (.int .i64 x),.c (.int .i64 y),.box [.int .i64 n]]=>some (sW x y n)
 |_=>none
def IA:List (Nat×Ctr):=[]
def Ai(x:Int)(y:Int)(n:Int):Prop :=
 ac (x+y)/\n≠(0:Int)/\Int.tmod (x+y) n=dD n x.toNat y.toNat/\True
theorem RA(x:Int)(y:Int)(n:Int):aJ Tryz.prog (ai IA) ak am Tryz.f217 (aE Tryz.f217) [] [.c (.int .i64 x),.c (.int .i64 y),.box [.int .i64 n]] (sW x y n)=Ai x y n:=by kernel_rfl
theorem RB(x:Int)(y:Int)(n:Int)(Yh:(sW x y n).pre):Ai x y n:=by
 simp only[sW,Ai,aG,u1,u2,u3,u4,u5,u6,u7,u8,u9,v1,v2,v3,v4,v5,v6,v7,v8,v9,w1,w2,w3,w4,aH,aa,ac,af,ar]at Yh⊢;obtain⟨h1,h2,h3,h4,h5,h6⟩:=Yh;rw[dD,Int.toNat_of_nonneg h3,Int.toNat_of_nonneg h5];exact⟨⟨by omega,by omega⟩,by omega,rfl⟩
theorem RD:Fits Tryz.prog 217 ⟨[],oU⟩:=by
 refine aO (Γ:=ai IA) aF Tryz.func217 fun ds p h hp=>?_
 unfold oU at h;split at h
 ·cases h
  exact⟨ak,am,by rw[RA];exact RB _ _ _  hp⟩
 ·cases h
def sX(n:Int):Post:=⟨1<=n/\n<=12,.agg [.rows 62 2 .i64 (ah n)],[]⟩
def Aj:List AD->Option Post
 | [.c (.int .i64 n)]=>some (sX n)
 |_=>none
def IB:List (Nat×Ctr):=[(124,⟨[],lK⟩),(217,⟨[],oU⟩)]
def Ak(n:Int):Prop :=
 (((0:Int)<=n/\n<=(144:Int)/\∀(x y:Int),(0:Int)<=x->x<n->(0:Int)<=y->y<n->iC (oU [AD.c (FC.int IntKind.i64 x),AD.c (FC.int IntKind.i64 y),AD.box [FC.int IntKind.i64 n]]))/\True)/\((bN n.toNat fun(x y:Nat)=>iB (oU [AD.c (FC.int IntKind.i64 (x:Int)),AD.c (FC.int IntKind.i64 (y:Int)),AD.box [FC.int IntKind.i64 n]]))=ah n/\True)/\True
theorem RE(n:Int):aJ Tryz.prog (ai IB) ak am Tryz.f173 (aE Tryz.f173) [] [.c (.int .i64 n)] (sX n)=Ak n:=by kernel_rfl
theorem RF(n:Int)(Yh:(sX n).pre):Ak n:=by
 simp only[sX,Ak,aG,u1,u2,u3,u4,u5,u6,u7,u8,u9,v1,v2,v3,v4,v5,v6,v7,v8,v9,w1,w2,w3,w4,aH,aa,ac,af,ar]at Yh⊢;obtain⟨h1,h2⟩:=Yh;refine⟨⟨by omega,by omega,fun x y x1 x2 y1 y2=>⟨h1,h2,x1,x2,y1,y2⟩⟩,?_⟩
 exact tC fun x y hx hy=>rfl
theorem RG:Fits Tryz.prog 173 ⟨[],Aj⟩:=by
 refine aO (Γ:=ai IB) (aw o5 (aw RD aF)) Tryz.func173 fun ds p h hp=>?_
 unfold Aj at h;split at h
 ·cases h
  exact⟨ak,am,by rw[RE];exact RF _  hp⟩
 ·cases h
def sY(x:Int)(y:Int)(n:Int)(s:Int):Post:=⟨1<=n/\n<=12/\0<=s/\s<=12/\0<=x/\x<2*n/\0<=y/\y<2*n,.c (.int .i64 (bq n s x.toNat y.toNat)),[]⟩
def oV:List AD->Option Post
 | [.c (.int .i64 x),.c (.int .i64 y),.box [.int .i64 n],.box [.int .i64 s]]=>some (sY x y n s)
 |_=>none
def IC:List (Nat×Ctr):=[]
def Al(x:Int)(y:Int)(n:Int)(s:Int):Prop :=
 ae (decide (x<n)) (ac (Int.tmod x n+Int.tmod y n)/\n≠(0:Int)/\ac (n+Int.tmod (Int.tmod x n+Int.tmod y n) n)/\n+Int.tmod (Int.tmod x n+Int.tmod y n) n=bq n s x.toNat y.toNat/\True) (ae (decide (y<n)) (ac (Int.tmod x n-Int.tmod y n)/\ac (Int.tmod x n-Int.tmod y n+n)/\n≠(0:Int)/\ac (n+Int.tmod (Int.tmod x n-Int.tmod y n+n) n)/\n+Int.tmod (Int.tmod x n-Int.tmod y n+n) n=bq n s x.toNat y.toNat/\True) (ac (Int.tmod x n-Int.tmod y n)/\ac (Int.tmod x n-Int.tmod y n+n)/\ac (Int.tmod x n-Int.tmod y n+n+s)/\n≠(0:Int)/\Int.tmod (Int.tmod x n-Int.tmod y n+n+s) n=bq n s x.toNat y.toNat/\True))
def Am(x:Int)(y:Int)(n:Int)(s:Int):Prop :=
 n≠(0:Int)/\n≠(0:Int)/\ae (decide (x<n)) (ae (decide (y<n)) (ac (Int.tmod x n+Int.tmod y n)/\n≠(0:Int)/\Int.tmod (Int.tmod x n+Int.tmod y n) n=bq n s x.toNat y.toNat/\True) (Al x y n s)) (Al x y n s)
theorem RH(x:Int)(y:Int)(n:Int)(s:Int):aJ Tryz.prog (ai IC) ak am Tryz.f218 (aE Tryz.f218) [] [.c (.int .i64 x),.c (.int .i64 y),.box [.int .i64 n],.box [.int .i64 s]] (sY x y n s)=Am x y n s:=by kernel_rfl
theorem RI(x:Int)(y:Int)(n:Int)(s:Int)(Yh:(sY x y n s).pre):Am x y n s:=by
 simp only[sY,Am,Al,aG,u1,u2,u3,u4,u5,u6,u7,u8,u9,v1,v2,v3,v4,v5,v6,v7,v8,v9,w1,w2,w3,w4,aH,aa,ac,af,ar]at Yh⊢;obtain⟨h1,h2,h3,h4,x1,x2,y1,y2⟩:=Yh;have a:0<=x.tmod n/\x.tmod n<n:=lI x1 h1
 have b:0<=y.tmod n/\y.tmod n<n:=lI y1 h1
 have c:=lI (x:=x.tmod n+y.tmod n) (by omega) h1
 have d:=lI (x:=x.tmod n-y.tmod n+n) (by omega) h1
 have e:=lI (x:=x.tmod n-y.tmod n+n+s) (by omega) h1
 rw[bq,Int.toNat_of_nonneg x1,Int.toNat_of_nonneg y1];by_cases q:x<n<;>by_cases r:y<n<;>simp[q,r]<;>omega
theorem RJ:Fits Tryz.prog 218 ⟨[],oV⟩:=by
 refine aO (Γ:=ai IC) aF Tryz.func218 fun ds p h hp=>?_
 unfold oV at h;split at h
 ·cases h
  exact⟨ak,am,by rw[RH];exact RI _ _ _ _  hp⟩
 ·cases h
def sZ(n:Int)(s:Int):Post:=⟨1<=n/\n<=12/\0<=s/\s<=12,.agg [.rows 62 2 .i64 (bR n s)],[]⟩
def An:List AD->Option Post
 | [.c (.int .i64 n),.c (.int .i64 s)]=>some (sZ n s)
 |_=>none
def IE:List (Nat×Ctr):=[(124,⟨[],lK⟩),(218,⟨[],oV⟩)]
def Ao(n:Int)(s:Int):Prop :=
 ac ((2:Int)*n)/\(((0:Int)<=(2:Int)*n/\(2:Int)*n<=(144:Int)/\∀(x y:Int),(0:Int)<=x->x<(2:Int)*n->(0:Int)<=y->y<(2:Int)*n->iC (oV [AD.c (FC.int IntKind.i64 x),AD.c (FC.int IntKind.i64 y),AD.box [FC.int IntKind.i64 n],AD.box [FC.int IntKind.i64 s]]))/\True)/\((bN (((2:Int)*n).toNat) fun(x y:Nat)=>iB (oV [AD.c (FC.int IntKind.i64 (x:Int)),AD.c (FC.int IntKind.i64 (y:Int)),AD.box [FC.int IntKind.i64 n],AD.box [FC.int IntKind.i64 s]]))=bR n s/\True)/\True
theorem RK(n:Int)(s:Int):aJ Tryz.prog (ai IE) ak am Tryz.f174 (aE Tryz.f174) [] [.c (.int .i64 n),.c (.int .i64 s)] (sZ n s)=Ao n s:=by kernel_rfl
theorem RL(n:Int)(s:Int)(Yh:(sZ n s).pre):Ao n s:=by
 simp only[sZ,Ao,aG,u1,u2,u3,u4,u5,u6,u7,u8,u9,v1,v2,v3,v4,v5,v6,v7,v8,v9,w1,w2,w3,w4,aH,aa,ac,af,ar]at Yh⊢;obtain⟨h1,h2,h3,h4⟩:=Yh;refine⟨by omega,⟨by omega,by omega,fun x y x1 x2 y1 y2=>⟨h1,h2,h3,h4,x1,x2,y1,y2⟩⟩,?_⟩
 exact tC fun x y hx hy=>rfl
theorem RM:Fits Tryz.prog 174 ⟨[],An⟩:=by
 refine aO (Γ:=ai IE) (aw o5 (aw RJ aF)) Tryz.func174 fun ds p h hp=>?_
 unfold An at h;split at h
 ·cases h
  exact⟨ak,am,by rw[RK];exact RL _ _  hp⟩
 ·cases h
def s8(x:Int)(y:Int)(a:V8)(m:Int)(b:V8):Post:=⟨ay a.length a/\ay b.length b/\1<=b.length/\a.length*b.length<=144/\m=(b.length:Int)/\0<=x/\x<((a.length*b.length:Nat):Int)/\0<=y/\y<((a.length*b.length:Nat):Int),.c (.int .i64 (cV a b x.toNat y.toNat)),[]⟩
def oW:List AD->Option Post
 | [.c (.int .i64 x),.c (.int .i64 y),.box [.rows .i64 a],.box [.int .i64 m],.box [.rows .i64 b]]=>some (s8 x y a m b)
 |_=>none
def IF:List (Nat×Ctr):=[]
def Ap(x:Int)(y:Int)(a:V8)(m:Int)(b:V8):Prop :=
 (m≠(0:Int)/\ac (Int.tdiv x m))/\aa (Int.tdiv x m) a.length/\(m≠(0:Int)/\ac (Int.tdiv y m))/\aa (Int.tdiv y m) ((a.getD (Int.tdiv x m).toNat []).length)/\ac ((List.getD a (Int.tdiv x m).toNat []).getD (Int.tdiv y m).toNat (0:Int)*m)/\m≠(0:Int)/\aa (Int.tmod x m) b.length/\m≠(0:Int)/\aa (Int.tmod y m) ((b.getD (Int.tmod x m).toNat []).length)/\ac ((List.getD a (Int.tdiv x m).toNat []).getD (Int.tdiv y m).toNat (0:Int)*m+(List.getD b (Int.tmod x m).toNat []).getD (Int.tmod y m).toNat (0:Int))/\(List.getD a (Int.tdiv x m).toNat []).getD (Int.tdiv y m).toNat (0:Int)*m+(List.getD b (Int.tmod x m).toNat []).getD (Int.tmod y m).toNat (0:Int)=cV a b x.toNat y.toNat/\True
theorem RN(x:Int)(y:Int)(a:V8)(m:Int)(b:V8):aJ Tryz.prog (ai IF) ak am Tryz.f216 (aE Tryz.f216) [] [.c (.int .i64 x),.c (.int .i64 y),.box [.rows .i64 a],.box [.int .i64 m],.box [.rows .i64 b]] (s8 x y a m b)=Ap x y a m b:=by kernel_rfl
theorem RO(x:Int)(y:Int)(a:V8)(m:Int)(b:V8)(Yh:(s8 x y a m b).pre):Ap x y a m b:=by
 simp only[s8,Ap,aG,u1,u2,u3,u4,u5,u6,u7,u8,u9,v1,v2,v3,v4,v5,v6,v7,v8,v9,w1,w2,w3,w4,aH,aa,ac,af,ar]at Yh⊢;obtain⟨h1,h2,h3,h4,rfl,a1,a2,b1,b2⟩:=Yh;obtain⟨x1,x2,x3,x4⟩:=nn (x:=x.toNat) (a:=a.length) (m:=b.length) (by omega) h3
 obtain⟨y1,y2,y3,y4⟩:=nn (x:=y.toNat) (a:=a.length) (m:=b.length) (by omega) h3
 have P:=Is h1 h2 h3 (x:=x.toNat) (y:=y.toNat) (by omega) (by omega)
 have A:=(h1.2 _ x3)
 have B:=(h2.2 _ x4)
 have A2:=A.2 _ y3
 have B2:=B.2 _ y4
 have E:cV a b x.toNat y.toNat=cV a b x.toNat y.toNat:=rfl
 conv at E=>rhs;rw[cV]
 rw[Int.toNat_of_nonneg a1]at x1 x2 E;rw[Int.toNat_of_nonneg b1]at y1 y2 E;rw[x1,x2,y1,y2]at E;rw[E]at P⊢;rw[x1,x2,y1,y2];simp only[Int.toNat_natCast]at P⊢;have A3:((a.getD (x.toNat / b.length) []).getD (y.toNat / b.length) 0)=en a (x.toNat / b.length) (y.toNat / b.length):=rfl
 have B3:((b.getD (x.toNat % b.length) []).getD (y.toNat % b.length) 0)=en b (x.toNat % b.length) (y.toNat % b.length):=rfl
 rw[A3,B3];have u0:0<=en a (x.toNat / b.length) (y.toNat / b.length)*(b.length:Int):=Int.mul_nonneg A2.1 (by omega)
 have eb:=h2.1
 have xl:x.toNat / b.length<=x.toNat:=Nat.div_le_self _ _
 have yl:y.toNat / b.length<=y.toNat:=Nat.div_le_self _ _
 clear x1 x2 y1 y2 E;generalize x.toNat / b.length=u1 at *
 generalize y.toNat / b.length=u2 at *
 generalize x.toNat % b.length=v1 at *
 generalize y.toNat % b.length=v2 at *
 generalize a.length*b.length=N at *
 generalize en a u1 u2*(b.length:Int)=W at *
 refine⟨⟨by omega,by omega⟩,by omega,⟨by omega,by omega⟩,by omega,by omega,by omega,by omega,by omega,by omega,by omega⟩
theorem RP:Fits Tryz.prog 216 ⟨[],oW⟩:=by
 refine aO (Γ:=ai IF) aF Tryz.func216 fun ds p h hp=>?_
 unfold oW at h;split at h
 ·cases h
  exact⟨ak,am,by rw[RN];exact RO _ _ _ _ _  hp⟩
 ·cases h
def s9(a:V8)(b:V8):Post:=⟨ay a.length a/\ay b.length b/\1<=b.length/\a.length*b.length<=144,.c (.rows 62 2 .i64 (bf a b)),[]⟩
def Aq:List AD->Option Post
 | [.c (.rows .i64 a),.c (.rows .i64 b)]=>some (s9 a b)
 |_=>none
def IG:List (Nat×Ctr):=[(124,⟨[],lK⟩),(216,⟨[],oW⟩)]
def Ar(a:V8)(b:V8):Prop :=
 ac ((a.length:Int)*(b.length:Int))/\(((0:Int)<=(a.length:Int)*(b.length:Int)/\(a.length:Int)*(b.length:Int)<=(144:Int)/\∀(x y:Int),(0:Int)<=x->x<(a.length:Int)*(b.length:Int)->(0:Int)<=y->y<(a.length:Int)*(b.length:Int)->iC (oW [AD.c (FC.int IntKind.i64 x),AD.c (FC.int IntKind.i64 y),AD.box [FC.rows IntKind.i64 a],AD.box [FC.int IntKind.i64 (b.length:Int)],AD.box [FC.rows IntKind.i64 b]]))/\True)/\(bN (((a.length:Int)*(b.length:Int)).toNat) fun(x y:Nat)=>iB (oW [AD.c (FC.int IntKind.i64 (x:Int)),AD.c (FC.int IntKind.i64 (y:Int)),AD.box [FC.rows IntKind.i64 a],AD.box [FC.int IntKind.i64 (b.length:Int)],AD.box [FC.rows IntKind.i64 b]]))=bf a b/\True
theorem RQ(a:V8)(b:V8):aJ Tryz.prog (ai IG) ak am Tryz.f172 (aE Tryz.f172) [] [.c (.rows .i64 a),.c (.rows .i64 b)] (s9 a b)=Ar a b:=by kernel_rfl
theorem RR(a:V8)(b:V8)(Yh:(s9 a b).pre):Ar a b:=by
 simp only[s9,Ar,aG,u1,u2,u3,u4,u5,u6,u7,u8,u9,v1,v2,v3,v4,v5,v6,v7,v8,v9,w1,w2,w3,w4,aH,aa,ac,af,ar]at Yh⊢;obtain⟨h1,h2,h3,h4⟩:=Yh;have hc:(a.length:Int)*(b.length:Int)=((a.length*b.length:Nat):Int):=by rw[Int.natCast_mul]
 rw[hc];refine⟨by omega,⟨by omega,by omega,fun x y x1 x2 y1 y2=>⟨h1,h2,h3,h4,rfl,x1,x2,y1,y2⟩⟩,?_⟩
 rw[Int.toNat_natCast];exact tC fun x y hx hy=>rfl
theorem RS:Fits Tryz.prog 172 ⟨[],Aq⟩:=by
 refine aO (Γ:=ai IG) (aw o5 (aw RP aF)) Tryz.func172 fun ds p h hp=>?_
 unfold Aq at h;split at h
 ·cases h
  exact⟨ak,am,by rw[RQ];exact RR _ _  hp⟩
 ·cases h
def ta(a:V8)(b:V8):Post:=⟨ay a.length a/\ay b.length b/\1<=b.length/\a.length*b.length<=144,.agg [.rows 62 2 .i64 (bf a b)],[]⟩
def As:List AD->Option Post
 | [.agg [.rows .i64 a],.agg [.rows .i64 b]]=>some (ta a b)
 |_=>none
def IH:List (Nat×Ctr):=[(172,⟨[],Aq⟩)]
def Au(a:V8)(b:V8):Prop :=
 ((ay a.length a/\ay b.length b/\(1:Nat)<=b.length/\a.length*b.length<=(144:Nat))/\True)/\(bf a b=bf a b/\True)/\True
theorem RT(a:V8)(b:V8):aJ Tryz.prog (ai IH) ak am Tryz.f171 (aE Tryz.f171) [] [.agg [.rows .i64 a],.agg [.rows .i64 b]] (ta a b)=Au a b:=by kernel_rfl
theorem RU(a:V8)(b:V8)(Yh:(ta a b).pre):Au a b:=by
 simp only[ta,Au,aG,u1,u2,u3,u4,u5,u6,u7,u8,u9,v1,v2,v3,v4,v5,v6,v7,v8,v9,w1,w2,w3,w4,aH,aa,ac,af,ar]at Yh⊢;exact Yh
theorem RW:Fits Tryz.prog 171 ⟨[],As⟩:=by
 refine aO (Γ:=ai IH) (aw RS aF) Tryz.func171 fun ds p h hp=>?_
 unfold As at h;split at h
 ·cases h
  exact⟨ak,am,by rw[RT];exact RU _ _  hp⟩
 ·cases h
def td(n:Int):Post:=⟨1<=n/\n<=7,.c (.tr [29,62,2] (.r3 .i64 (aQ n))),[]⟩
def Av:List AD->Option Post
 | [.c (.int .i64 n)]=>some (td n)
 |_=>none
def II(t:Nat):Bool:=[6000009,6000018,6000027].contains t
def IJ:List (Nat×Ctr):=[(173,⟨[],Aj⟩),(174,⟨[],An⟩),(171,⟨[],As⟩)]
def Aw(n:Int):Prop :=
 ae (n == (8:Int)) ((((1:Int)<=(2:Int)/\(2:Int)<=(12:Int))/\True)/\(((1:Int)<=(4:Int)/\(4:Int)<=(12:Int))/\True)/\((ay ((ah (2:Int)).length) (ah (2:Int))/\ay ((ah (4:Int)).length) (ah (4:Int))/\(1:Nat)<=(ah (4:Int)).length/\(ah (2:Int)).length*(ah (4:Int)).length<=(144:Nat))/\True)/\(((1:Int)<=(2:Int)/\(2:Int)<=(12:Int))/\True)/\(((1:Int)<=(2:Int)/\(2:Int)<=(12:Int))/\True)/\(((1:Int)<=(2:Int)/\(2:Int)<=(12:Int))/\True)/\((ay ((ah (2:Int)).length) (ah (2:Int))/\ay ((ah (2:Int)).length) (ah (2:Int))/\(1:Nat)<=(ah (2:Int)).length/\(ah (2:Int)).length*(ah (2:Int)).length<=(144:Nat))/\True)/\((ay ((ah (2:Int)).length) (ah (2:Int))/\ay ((bf (ah (2:Int)) (ah (2:Int))).length) (bf (ah (2:Int)) (ah (2:Int)))/\(1:Nat)<=(bf (ah (2:Int)) (ah (2:Int))).length/\(ah (2:Int)).length*(bf (ah (2:Int)) (ah (2:Int))).length<=(144:Nat))/\True)/\(((1:Int)<=(4:Int)/\(4:Int)<=(12:Int)/\(0:Int)<=(0:Int)/\(0:Int)<=(12:Int))/\True)/\(((1:Int)<=(4:Int)/\(4:Int)<=(12:Int)/\(0:Int)<=(2:Int)/\(2:Int)<=(12:Int))/\True)/\False) (ae (n == (9:Int)) ((((1:Int)<=(3:Int)/\(3:Int)<=(12:Int))/\True)/\(((1:Int)<=(3:Int)/\(3:Int)<=(12:Int))/\True)/\((ay ((ah (3:Int)).length) (ah (3:Int))/\ay ((ah (3:Int)).length) (ah (3:Int))/\(1:Nat)<=(ah (3:Int)).length/\(ah (3:Int)).length*(ah (3:Int)).length<=(144:Nat))/\True)/\False) (ae (n == (12:Int)) False
 ((ah n::([]:V9)=aQ n)/\True)))
def Ax(n:Int):Prop :=
 ((((1:Int)<=n/\n<=(12:Int))/\True)/\(ae (n == (4:Int)) ((((1:Int)<=(2:Int)/\(2:Int)<=(12:Int))/\True)/\(((1:Int)<=(2:Int)/\(2:Int)<=(12:Int))/\True)/\((ay ((ah (2:Int)).length) (ah (2:Int))/\ay ((ah (2:Int)).length) (ah (2:Int))/\(1:Nat)<=(ah (2:Int)).length/\(ah (2:Int)).length*(ah (2:Int)).length<=(144:Nat))/\True)/\af (FC.len (FC.r3 IntKind.i64 (ah n::([]:V9)))+FC.len (FC.r3 IntKind.i64 (bf (ah (2:Int)) (ah (2:Int))::([]:V9))))/\ah n::([]:V9)++bf (ah (2:Int)) (ah (2:Int))::([]:V9)=aQ n/\True) (ae (n == (6:Int)) (ae (n == (6:Int)) (((2:Int)≠(0:Int)/\ac (Int.tdiv n (2:Int)))/\(((1:Int)<=Int.tdiv n (2:Int)/\Int.tdiv n (2:Int)<=(12:Int)/\(0:Int)<=(0:Int)/\(0:Int)<=(12:Int))/\True)/\af (FC.len (FC.r3 IntKind.i64 (ah n::([]:V9)))+FC.len (FC.r3 IntKind.i64 (bR (Int.tdiv n (2:Int)) (0:Int)::([]:V9))))/\ah n::([]:V9)++bR (Int.tdiv n (2:Int)) (0:Int)::([]:V9)=aQ n/\True) (Aw n)) (ae (n == (10:Int)) (((2:Int)≠(0:Int)/\ac (Int.tdiv n (2:Int)))/\((((1:Int)<=Int.tdiv n (2:Int)/\Int.tdiv n (2:Int)<=(12:Int)/\(0:Int)<=(0:Int)/\(0:Int)<=(12:Int))/\True) /\
 ((af (FC.len (FC.r3 IntKind.i64 (ah n::([]:V9)))+FC.len (FC.r3 IntKind.i64 (bR (Int.tdiv n (2:Int)) (0:Int)::([]:V9)))))/\((ah n::([]:V9)++bR (Int.tdiv n (2:Int)) (0:Int)::([]:V9)=aQ n)/\True)))) (Aw n)))))
theorem RX(n:Int):aJ Tryz.prog (ai IJ) II am Tryz.f127 (aE Tryz.f127) [] [.c (.int .i64 n)] (td n)=Ax n:=by kernel_rfl
theorem RY(n:Int)(Yh:(td n).pre):Ax n:=by
 simp only[td,Ax,Aw,aG,u1,u2,u3,u4,u5,u6,u7,u8,u9,v1,v2,v3,v4,v5,v6,v7,v8,v9,w1,w2,w3,w4,aH,aa,ac,af,ar]at Yh⊢;obtain⟨h1,h2⟩:=Yh;have l2:(ah 2).length=2:=by have:=sU (n:=2) (by omega);omega
 have t2:=zI (n:=2) (by omega)
 rw[l2]at t2;have:n=1\/n=2\/n=3\/n=4\/n=5\/n=6\/n=7:=by omega
 rcases this with rfl|rfl|rfl|rfl|rfl|rfl|rfl<;>simp[l2,t2,aQ,FC.len]
theorem RZ:Fits Tryz.prog 127 ⟨[],Av⟩:=by
 refine aO (Γ:=ai IJ) (aw RG (aw RM (aw RW aF))) Tryz.func127 fun ds p h hp=>?_
 unfold Av at h;split at h
 ·cases h
  exact⟨II,am,by rw[RX];exact RY _  hp⟩
 ·cases h
def bv(n:Int):WB:=(aQ n).flatMap fun t=>bB t (bG t (ab t))
theorem oX{n:Int}(h1:1<=n)(h2:n<=7):(aQ n).length<=2/\∀t∈aQ n,(t.length:Int)=n/\ba t=true:=by
 have:n=1\/n=2\/n=3\/n=4\/n=5\/n=6\/n=7:=by omega
 rcases this with rfl|rfl|rfl|rfl|rfl|rfl|rfl<;>decide +kernel
theorem oY{n:Int}(h1:1<=n)(h2:n<=7){t:V8}(ht:t∈aQ n):(bB t (bG t (ab t))).length<=2401/\∀q∈bB t (bG t (ab t)),ay t.length q.1/\ay t.length q.2:=by
 obtain⟨e,g⟩:=(oX h1 h2).2 t ht;have G:=js g
 refine⟨by rw[bB,List.length_map];exact Nat.le_trans (List.length_filter_le _ _) (qk G (by omega)),fun q hq=>?_⟩
 obtain⟨c,hc,rfl⟩:=List.mem_map.1 hq;exact⟨G.tb,mK G (by omega) (List.mem_filter.1 hc).1⟩
theorem te{α β:Type}(f:α->List β)(k:Nat):∀l:List α,(∀x∈l,(f x).length<=k)->(l.flatMap f).length<=l.length*k
 | [],_=>by simp
 |x::l,h=>by
  have h1:=h x List.mem_cons_self
  have h2:=te f k l fun y hy=>h y (List.mem_cons_of_mem _ hy)
  rw[List.flatMap_cons,List.length_append,List.length_cons,Nat.add_mul];omega
def tg(n:Int):Post:=⟨1<=n/\n<=7,.c (.tr [39,62,2] (.p3 .i64 (bv n))),[]⟩
def Ay:List AD->Option Post
 | [.c (.int .i64 n)]=>some (tg n)
 |_=>none
def IK(n:Int):Nat->Option Ann
 |0=>some (Ann.mk ((Nat)) (fun i=>⟨[(0,.c (.int .i64 n)),(3,.c (.own 600)),(7,.c (.ro (.r3 .i64 (aQ n)))),(8,.c (.int .i64 (((aQ n).length:Int)))),(9,.c (.int .i64 ((i:Int))))],[(600,some (.tr 0 [39,62,2] (.p3 .i64 (((aQ n).take i).flatMap fun t=>bB t (bG t (ab t))))))]⟩) (fun i=>i<=(aQ n).length) (fun i=>(aQ n).length-i) (fun _=>am))
 |_=>none
def IL:List (Nat×Ctr):=[(127,⟨[],Av⟩),(54,⟨[],wB⟩)]
def jC(n:Int)(x0:Nat):=((aQ n).getD (↑x0:Int).toNat ([]:V8))
def Az(n:Int):Prop :=
 (((1:Int)<=n/\n<=(7:Int))/\True)/\(∃x0:Nat,x0<=(aQ n).length/\n=n/\aQ n=aQ n/\(↑(FC.len (FC.r3 IntKind.i64 (aQ n))):Int)=(↑((aQ n).length):Int)/\(0:Int)=(x0:Int)/\FC.len (FC.p3 IntKind.i64 (List.flatMap (fun(t:V8)=>bB t (bG t (ab t))) (List.take x0 (aQ n))))=(0:Nat))/\∀x1:Nat,x1<=(aQ n).length->ae (decide ((x1:Int)<(↑((aQ n).length):Int))) (aa (x1:Int) (aQ n).length/\((ba (jC n x1)=true/\(jC n x1).length<=(7:Nat))/\True)/\af (FC.len (FC.p3 IntKind.i64 (List.flatMap (fun(t:V8)=>bB t (bG t (ab t))) (List.take x1 (aQ n))))+FC.len (FC.p3 IntKind.i64 (bB (jC n x1) ((da (ab (jC n x1)) (a8 (jC n x1))).2))))/\ac ((x1:Int)+(1:Int))/\∃x2:Nat,x2<=(aQ n).length/\(aQ n).length-x2<(aQ n).length-x1/\n=n/\aQ n=aQ n/\(↑((aQ n).length):Int)=(↑((aQ n).length):Int)/\(x1:Int)+(1:Int)=(x2:Int)/\List.flatMap (fun(t:V8)=>bB t (bG t (ab t))) (List.take x1 (aQ n))++bB (jC n x1) ((da (ab (jC n x1)) (a8 (jC n x1))).2)=List.flatMap (fun(t:V8)=>bB t (bG t (ab t))) (List.take x2 (aQ n))) (List.flatMap (fun(t:V8)=>bB t (bG t (ab t))) (List.take x1 (aQ n))=bv n/\True)
theorem R0(n:Int):aJ Tryz.prog (ai IL) ak (IK n) Tryz.f74 (aE Tryz.f74) [] [.c (.int .i64 n)] (tg n)=Az n:=by kernel_rfl
theorem R3(n:Int)(Yh:(tg n).pre):Az n:=by
 simp only[tg,Az,jC,aG,u1,u2,u3,u4,u5,u6,u7,u8,u9,v1,v2,v3,v4,v5,v6,v7,v8,v9,w1,w2,w3,w4,aH,aa,ac,af,ar]at Yh⊢;obtain⟨h1,h2⟩:=Yh;obtain⟨n2,ng⟩:=oX h1 h2;refine⟨⟨h1,h2⟩,⟨0,by omega,rfl,by omega,rfl⟩,fun i hi=>⟨fun hlt=>?_,fun hge=>?_⟩⟩
 ·have hi1:i<(aQ n).length:=by omega
  have m:=bM (aQ n) [] i hi1
  obtain⟨e,g⟩:=ng _ m;have G:=js g
  have E:=Nl G (by omega)
  rw[E];refine⟨by omega,⟨g,by omega⟩,?_,by omega,i+1,by omega,by omega,by omega,?_⟩
  ·have a:=te (fun t=>bB t (bG t (ab t))) 2401 ((aQ n).take i) fun x hx=>(oY h1 h2 (List.mem_of_mem_take hx)).1
   have b:=(oY h1 h2 m).1
   rw[List.length_take]at a;have:min i (aQ n).length*2401<=2*2401:=Nat.mul_le_mul_right _ (by omega)
   simp only[FC.len];omega
  ·rw[<-dF _ [] i hi1,List.flatMap_append];simp
 ·rw[List.take_of_length_le (by omega)];rfl
theorem R4:Fits Tryz.prog 74 ⟨[],Ay⟩:=by
 refine aO (Γ:=ai IL) (aw RZ (aw Nf aF)) Tryz.func74 fun ds p h hp=>?_
 unfold Ay at h;split at h
 ·cases h
  exact⟨ak,IK _ ,by rw[R0];exact R3 _  hp⟩
 ·cases h
def ti(n:Int):Post:=⟨1<=n/\n<=7,.c (.ro (.p3 .i64 (bv n))),[]⟩
def AA:List AD->Option Post
 | [.c (.int .i64 n)]=>some (ti n)
 |_=>none
def IM(n:Int):Nat->Option Ann
 |0=>some (Ann.mk ((Nat)) (fun i=>⟨[(0,.c (.int .i64 n)),(3,.c (.ro (.r3 .i64 (aQ n)))),(4,.c (.own 600)),(5,.c (.int .i64 ((i:Int))))],[(600,some (.lst 0 39 (.p3 .i64 (((aQ n).take i).flatMap fun t=>bB t (bG t (ab t))))))]⟩) (fun i=>i<=(aQ n).length) (fun i=>(aQ n).length-i) (fun _=>am))
 |_=>none
def IN(t:Nat):Bool:=[5000008].contains t
def IP:List (Nat×Ctr):=[(126,⟨[],zJ⟩),(51,⟨[],yb⟩)]
def jD(n:Int)(x0:Nat):=((aQ n).getD (↑x0:Int).toNat ([]:V8))
def AB(n:Int):Prop :=
 (((1:Int)<=n/\n<=(8:Int))/\True)/\(∃x0:Nat,x0<=(aQ n).length/\n=n/\aQ n=aQ n/\(0:Int)=(x0:Int)/\[]=List.flatMap (fun(t:V8)=>bB t (bG t (ab t))) (List.take x0 (aQ n)))/\∀x1:Nat,x1<=(aQ n).length->ae (decide ((x1:Int)<(↑((aQ n).length):Int))) (aa (x1:Int) (aQ n).length/\((ba (jD n x1)=true/\(jD n x1).length<=(7:Nat))/\True)/\af (FC.len (FC.p3 IntKind.i64 (List.flatMap (fun(t:V8)=>bB t (bG t (ab t))) (List.take x1 (aQ n))))+FC.len (FC.p3 IntKind.i64 (bB (jD n x1) (bG (jD n x1) (ab (jD n x1))))))/\ac ((x1:Int)+(1:Int))/\∃x2:Nat,x2<=(aQ n).length/\(aQ n).length-x2<(aQ n).length-x1/\n=n/\aQ n=aQ n/\(x1:Int)+(1:Int)=(x2:Int)/\List.flatMap (fun(t:V8)=>bB t (bG t (ab t))) (List.take x1 (aQ n))++bB (jD n x1) (bG (jD n x1) (ab (jD n x1)))=List.flatMap (fun(t:V8)=>bB t (bG t (ab t))) (List.take x2 (aQ n))) (List.flatMap (fun(t:V8)=>bB t (bG t (ab t))) (List.take x1 (aQ n))=bv n/\True)
theorem R5(n:Int):aJ Tryz.prog (ai IP) IN (IM n) Tryz.f72 (aE Tryz.f72) [] [.c (.int .i64 n)] (ti n)=AB n:=by kernel_rfl
theorem R6(n:Int)(Yh:(ti n).pre):AB n:=by
 simp only[ti,AB,jD,aG,u1,u2,u3,u4,u5,u6,u7,u8,u9,v1,v2,v3,v4,v5,v6,v7,v8,v9,w1,w2,w3,w4,aH,aa,ac,af,ar]at Yh⊢;obtain⟨h1,h2⟩:=Yh;obtain⟨n2,ng⟩:=oX h1 h2;refine⟨⟨h1,by omega⟩,⟨0,by omega,by omega,rfl⟩,fun i hi=>⟨fun hlt=>?_,fun hge=>?_⟩⟩
 ·have hi1:i<(aQ n).length:=by omega
  have m:=bM (aQ n) [] i hi1
  obtain⟨e,g⟩:=ng _ m;refine⟨by omega,⟨g,by omega⟩,?_,by omega,i+1,by omega,by omega,by omega,?_⟩
  ·have a:=te (fun t=>bB t (bG t (ab t))) 2401 ((aQ n).take i) fun x hx=>(oY h1 h2 (List.mem_of_mem_take hx)).1
   have b:=(oY h1 h2 m).1
   rw[List.length_take]at a;have:min i (aQ n).length*2401<=2*2401:=Nat.mul_le_mul_right _ (by omega)
   simp only[FC.len];omega
  ·rw[<-dF _ [] i hi1,List.flatMap_append];simp
 ·rw[List.take_of_length_le (by omega)];rfl
theorem R7:Fits Tryz.prog 72 ⟨[],AA⟩:=by
 refine aO (Γ:=ai IP) (aw Rz (aw Pp aF)) Tryz.func72 fun ds p h hp=>?_
 unfold AA at h;split at h
 ·cases h
  exact⟨IN,IM _ ,by rw[R5];exact R6 _  hp⟩
 ·cases h
end Go.Sx
