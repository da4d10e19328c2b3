/- NamD -/
import Derived.Test.YtkmldclpaniclaaGreatCirB
import Derived.Test.YtkmldclpaniclaaGreatGrp
import Derived.Test.YtkmldclpaniclaaGreatLvl
set_option linter.unusedSimpArgs false
set_option linter.unusedVariables false
set_option linter.defProp false
open Go Go.Proofs
namespace Go.Sx
theorem Vu{t A:Dc}{K:Db}(h:(d8 t A K).2=true):eU t A K=some (d8 t A K).1:=by
 unfold d8 at h⊢;cases e:eU t A K with
 |none=>rw[e]at h;cases h
 |some x=>rfl
theorem Vv{t A:Dc}{K:Db}(h:(d8 t A K).2=false):eU t A K=none:=by
 unfold d8 at h;cases e:eU t A K with
 |none=>rfl
 |some x=>rw[e]at h;cases h
theorem Vw{t A:Dc}{rec:Db->Dd->Dd}{K K':Db}{i:Nat}{o:Dd}(h:eU t A (K.set (a9 K) (i:Int))=some K'):dp t A rec K i o=rec K' o:=by unfold dp;rw[h]
theorem Vx{t A:Dc}{rec:Db->Dd->Dd}{K:Db}{i:Nat}{o:Dd}(h:eU t A (K.set (a9 K) (i:Int))=none):dp t A rec K i o=o:=by unfold dp;rw[h]
theorem Ms{n:Nat}{t A:Dc}(ht:ba n t)(hA:AuOk n A){K:Db}(hK:KOk n A.length K)(hp:a9 K=K.length):ba n (b9 t A K):=by
 refine⟨by simp[b9,ht.1],fun x hx=>?_⟩
 have hk:=sO K hp x (by rw[hK.len];exact hx)
 have hr:=hK.rng x hx
 have row:(b9 t A K).getD x []=bA (A.getD (K.getD x 0).toNat []) (t.getD x []):=by
  rw[b9];simp[AN,ht.1,hx]
 have L:=hA.len (K.getD x 0).toNat (by omega)
 refine⟨by rw[row,bA,Ae,L],fun y hy=>?_⟩
 have r:=hA.rng (K.getD x 0).toNat y (by omega) hy
 have v:=(ht.2 x hx).2 (en A (K.getD x 0).toNat y).toNat (by omega)
 have:en (b9 t A K) x y=en t x (en A (K.getD x 0).toNat y).toNat:=by
  unfold en at *;rw[row,bA,rS _ _ 0 0 _ (by omega)]
 rw[this];exact v
theorem qb{n:Nat}{t:Dc}(h:ba n t)(hn:n<=12):aD t:=⟨by rw[h.1];omega,fun r hr=>by
 obtain⟨x,hx,rfl⟩:=Ay hr;have:=(h.2 x (by rw[h.1]at hx;exact hx)).1
 rw[cg t [] x hx]at this;omega⟩
def bn(n i:Nat)(f:Nat->Nat->Int):Dc:=(List.range i).map fun x=>ap n (f x)
theorem qc(n i:Nat)(f:Nat->Nat->Int):bn n (i+1) f=bn n i f++[ap n (f i)]:=t8 _ _
theorem qd(n i:Nat)(f:Nat->Nat->Int):(bn n i f).length=i:=by simp[bn]
theorem ut{x a m:Nat}(h:x<a*m)(hm:1<=m):(x:Int).tdiv (m:Int)=((x / m:Nat):Int)/\(x:Int).tmod (m:Int)=((x % m:Nat):Int)/\x / m<a/\x % m<m:=by
 refine⟨?_,?_,(Nat.div_lt_iff_lt_mul (by omega)).2 h,Nat.mod_lt _ (by omega)⟩
 ·rw[DV (by omega)];rfl
 ·rw[DS (by omega)];rfl
def d9(n:Int)(x y:Nat):Int:=((x:Int)+(y:Int)).tmod n
def aA(n:Int):Dc:=bq n.toNat (d9 n)
def uv:List AD->Option Post
 | [.c (.int .i64 n)]=>some ⟨1<=n/\n<=12,.c (.rows 62 2 .i64 (aA n)),[]⟩
 |_=>none
def Mt(n:Int):Nat->Option Ann
 |0=>V' (fun i=>⟨⟨[(0,D' n),(3,M' 3),(4,D' i)],[(3,O' (bn n.toNat i (d9 n)))]⟩,(i:Int)<=n,n.toNat-i⟩) (fun i b_=>match b_ with|2=>U' fun j=>⟨⟨[(0,D' n),(3,M' 3),(4,D' i),(5,M' 5),(6,D' j)],[(3,O' (bn n.toNat i (d9 n))),(5,Q' (ap j (d9 n i)))]⟩,(i:Int)<n/\(j:Int)<=n,n.toNat-j⟩|_=>none)
 |_=>none
theorem Mv:Fits Tryz.prog 167 ⟨[],uv⟩:=by
 refine ffv (Γ:=af []) aG Tryz.func167 fun ds p h ξ=>?_
 unfold uv at h;split at h<;>cases h
 rename_i n
 refine⟨ah,Mt n,(∃x0:Nat,(x0:Int)<=n/\n=n/\(0:Int)=(x0:Int)/\([]:Dc)=bn n.toNat x0 (d9 n))/\∀x1:Nat,(x1:Int)<=n->ab (decide ((x1:Int)<n)) ((∃x2:Nat,((x1:Int)<n/\(x2:Int)<=n)/\n=n/\(x1:Int)=(x1:Int)/\(0:Int)=(x2:Int)/\bn n.toNat x1 (d9 n)=bn n.toNat x1 (d9 n)/\[]=ap x2 (d9 n x1))/\∀x3:Nat,(x1:Int)<n/\(x3:Int)<=n->ab (decide ((x3:Int)<n)) (ae ((x1:Int)+(x3:Int))/\n≠(0:Int)/\ar ((ap x3 (d9 n x1)).length+[Int.tmod ((x1:Int)+(x3:Int)) n].length)/\ae ((x3:Int)+(1:Int))/\∃x4:Nat,((x1:Int)<n/\(x4:Int)<=n)/\n.toNat-x4<n.toNat-x3/\n=n/\(x1:Int)=(x1:Int)/\(x3:Int)+(1:Int)=(x4:Int)/\bn n.toNat x1 (d9 n)=bn n.toNat x1 (d9 n)/\ap x3 (d9 n x1)++[Int.tmod ((x1:Int)+(x3:Int)) n]=ap x4 (d9 n x1)) (ar ((bn n.toNat x1 (d9 n)).length+(ap x3 (d9 n x1)::([]:Dc)).length)/\ae ((x1:Int)+(1:Int))/\∃x5:Nat,(x5:Int)<=n/\n.toNat-x5<n.toNat-x1/\n=n/\(x1:Int)+(1:Int)=(x5:Int)/\bn n.toNat x1 (d9 n)++ap x3 (d9 n x1)::([]:Dc)=bn n.toNat x5 (d9 n))) (bn n.toNat x1 (d9 n)=aA n/\True),by kernel_rfl,?_⟩
 simp only[aH]at ξ⊢;refine⟨⟨0,by omega,rfl,rfl⟩,fun i hi=>⟨fun h=>⟨⟨0,⟨by omega,by omega⟩,rfl,rfl⟩,fun j ⟨_,hj⟩=>⟨fun g=>⟨by omega,by omega,by rw[bK];omega,by omega,j+1,⟨by omega,by omega⟩,by omega,by omega,?_⟩,fun g=>⟨by rw[qd];omega,by omega,i+1,by omega,by omega,by omega,?_⟩⟩⟩,fun h=>?_⟩⟩
 ·rw[tab_succ'];rfl
 ·rw[qc,show j=n.toNat by omega]
 ·rw[show i=n.toNat by omega];rfl
def dv(a b:Dc)(x y:Nat):Int :=
 en a ((x:Int).tdiv (b.length:Int)).toNat ((y:Int).tdiv (b.length:Int)).toNat*(b.length:Int)+en b ((x:Int).tmod (b.length:Int)).toNat ((y:Int).tmod (b.length:Int)).toNat
def cd(a b:Dc):Dc:=bq (a.length*b.length) (dv a b)
theorem Mw{a b:Dc}(ha:ba a.length a)(hb:ba b.length b)(h1:1<=b.length){x y:Nat}(hx:x<a.length*b.length)(hy:y<a.length*b.length):0<=dv a b x y/\dv a b x y<((a.length*b.length:Nat):Int):=by
 obtain⟨x1,x2,x3,x4⟩:=ut hx h1;obtain⟨y1,y2,y3,y4⟩:=ut hy h1;have A:=(ha.2 _ x3).2 _ y3
 have B:=(hb.2 _ x4).2 _ y4
 rw[dv,x1,x2,y1,y2];simp only[AP];generalize en a (x / b.length) (y / b.length)=u at *
 generalize en b (x % b.length) (y % b.length)=v at *
 have:u*(b.length:Int)<=((a.length:Int)-1)*(b.length:Int):=Int.mul_le_mul_of_nonneg_right (by omega) (by omega)
 have h0:0<=u*(b.length:Int):=Br A.1 (by omega)
 rw[Int.sub_mul]at this;rw[Cb];omega
theorem Mx{a b:Dc}(ha:ba a.length a)(hb:ba b.length b)(h1:1<=b.length):ba (a.length*b.length) (cd a b):=by
 refine⟨fb _ _,fun x hx=>?_⟩
 have r:(cd a b).getD x []=ap (a.length*b.length) (dv a b x):=fG _ _ _ hx
 refine⟨by rw[r,bK],fun y hy=>?_⟩
 have v:en (cd a b) x y=dv a b x y:=by
  show((cd a b).getD x []).getD y 0=_
  rw[r,cj _ _ _ hy]
 rw[v];exact Mw ha hb h1 hx hy
def ux:List AD->Option Post
 | [.c (.rows .i64 a),.c (.rows .i64 b)]=>some ⟨ba a.length a/\ba b.length b/\1<=b.length/\a.length<=144/\b.length<=144,.c (.rows 62 2 .i64 (cd a b)),[]⟩
 |_=>none
def My(a:Dc)(b:Dc):Nat->Option Ann
 |0=>V' (fun i=>⟨⟨[(0,I' a),(1,I' b),(5,D' a.length),(6,D' b.length),(7,M' 7),(8,D' i)],[(7,O' (bn (a.length*b.length) i (dv a b)))]⟩,i<=a.length*b.length,a.length*b.length-i⟩) (fun i b_=>match b_ with|2=>U' fun j=>⟨⟨[(0,I' a),(1,I' b),(5,D' a.length),(6,D' b.length),(7,M' 7),(8,D' i),(9,M' 9),(10,D' j)],[(7,O' (bn (a.length*b.length) i (dv a b))),(9,Q' (ap j (dv a b i)))]⟩,i<a.length*b.length/\j<=a.length*b.length,a.length*b.length-j⟩|_=>none)
 |_=>none
def gG(b:Dc)(x0:Nat):=(Int.tdiv (↑x0:Int) (↑(b.length):Int))
def lD(b:Dc)(x0:Nat):=((Int.tmod (↑x0:Int) (↑(b.length):Int)).toNat)
theorem MB:Fits Tryz.prog 168 ⟨[],ux⟩:=by
 refine ffv (Γ:=af []) aG Tryz.func168 fun ds p h ξ=>?_
 unfold ux at h;split at h<;>cases h
 rename_i a b
 refine⟨ah,My a b,(∃x0:Nat,x0<=a.length*b.length/\a=a/\b=b/\(a.length:Int)=(a.length:Int)/\(b.length:Int)=(b.length:Int)/\(0:Int)=(x0:Int)/\([]:Dc)=bn (a.length*b.length) x0 (dv a b))/\∀x1:Nat,x1<=a.length*b.length->ae ((a.length:Int)*(b.length:Int))/\ab (decide ((x1:Int)<(a.length:Int)*(b.length:Int))) ((∃x2:Nat,(x1<a.length*b.length/\x2<=a.length*b.length)/\a=a/\b=b/\(a.length:Int)=(a.length:Int)/\(b.length:Int)=(b.length:Int)/\(x1:Int)=(x1:Int)/\(0:Int)=(x2:Int)/\bn (a.length*b.length) x1 (dv a b)=bn (a.length*b.length) x1 (dv a b)/\[]=ap x2 (dv a b x1))/\∀x3:Nat,x1<a.length*b.length/\x3<=a.length*b.length->ae ((a.length:Int)*(b.length:Int))/\ab (decide ((x3:Int)<(a.length:Int)*(b.length:Int))) (((b.length:Int)≠(0:Int)/\ae (gG b x1))/\aa (gG b x1) a.length/\((b.length:Int)≠(0:Int)/\ae (gG b x3))/\aa (gG b x3) ((a.getD (gG b x1).toNat []).length)/\ae ((List.getD a (gG b x1).toNat []).getD (gG b x3).toNat (0:Int)*(b.length:Int))/\(b.length:Int)≠(0:Int)/\aa (Int.tmod (x1:Int) (b.length:Int)) b.length/\(b.length:Int)≠(0:Int)/\aa (Int.tmod (x3:Int) (b.length:Int)) ((b.getD (lD b x1) []).length)/\ae ((List.getD a (gG b x1).toNat []).getD (gG b x3).toNat (0:Int)*(b.length:Int)+(List.getD b (lD b x1) []).getD (lD b x3) (0:Int))/\ar ((ap x3 (dv a b x1)).length+[(List.getD a (gG b x1).toNat []).getD (gG b x3).toNat (0:Int)*(b.length:Int)+(List.getD b (lD b x1) []).getD (lD b x3) (0:Int)].length)/\ae ((x3:Int)+(1:Int))/\∃x4:Nat,(x1<a.length*b.length/\x4<=a.length*b.length)/\a.length*b.length-x4<a.length*b.length-x3/\a=a/\b=b/\(a.length:Int)=(a.length:Int)/\(b.length:Int)=(b.length:Int)/\(x1:Int)=(x1:Int)/\(x3:Int)+(1:Int)=(x4:Int)/\bn (a.length*b.length) x1 (dv a b)=bn (a.length*b.length) x1 (dv a b)/\ap x3 (dv a b x1)++[(List.getD a (gG b x1).toNat []).getD (gG b x3).toNat (0:Int)*(b.length:Int)+(List.getD b (lD b x1) []).getD (lD b x3) (0:Int)]=ap x4 (dv a b x1)) (ar ((bn (a.length*b.length) x1 (dv a b)).length+(ap x3 (dv a b x1)::([]:Dc)).length)/\ae ((x1:Int)+(1:Int))/\∃x5:Nat,x5<=a.length*b.length/\a.length*b.length-x5<a.length*b.length-x1/\a=a/\b=b/\(a.length:Int)=(a.length:Int)/\(b.length:Int)=(b.length:Int)/\(x1:Int)+(1:Int)=(x5:Int)/\bn (a.length*b.length) x1 (dv a b)++ap x3 (dv a b x1)::([]:Dc)=bn (a.length*b.length) x5 (dv a b))) (bn (a.length*b.length) x1 (dv a b)=cd a b/\True),by kernel_rfl,?_⟩
 simp only[gG,lD,aH]at ξ⊢;obtain⟨h1,h2,h3,h4,h5⟩:=ξ;have hm:a.length*b.length<=144*144:=BO h4 h5
 have hc:(a.length:Int)*(b.length:Int)=((a.length*b.length:Nat):Int):=by rw[Cb]
 rw[hc];generalize hN:a.length*b.length=N at *
 refine⟨⟨0,by omega,rfl,rfl⟩,fun i hi=>⟨by omega,fun h=>⟨⟨0,⟨by omega,by omega⟩,rfl,rfl⟩,fun j ⟨_,hj⟩=>⟨by omega,fun g=>?_,fun g=>⟨by rw[qd];omega,by omega,i+1,by omega,by omega,by omega,?_⟩⟩⟩,fun h=>?_⟩⟩
 ·obtain⟨x1,x2,x3,x4⟩:=ut (x:=i) (a:=a.length) (m:=b.length) (by omega) h3
  obtain⟨y1,y2,y3,y4⟩:=ut (x:=j) (a:=a.length) (m:=b.length) (by omega) h3
  have A:=(h1.2 _ x3)
  have B:=(h2.2 _ x4)
  have A2:=A.2 _ y3
  have B2:=B.2 _ y4
  have P:=Mw h1 h2 h3 (x:=i) (y:=j) (by omega) (by omega)
  have TS:ap (j+1) (dv a b i)=ap j (dv a b i)++[dv a b i j]:=tab_succ' _ _
  rw[dv,x1,x2,y1,y2]at P TS;rw[x1,x2,y1,y2];simp only[AP]at P TS⊢;have A3:((a.getD (i / b.length) []).getD (j / b.length) 0)=en a (i / b.length) (j / b.length):=rfl
  have B3:((b.getD (i % b.length) []).getD (j % b.length) 0)=en b (i % b.length) (j % b.length):=rfl
  rw[A3,B3];have u0:0<=en a (i / b.length) (j / b.length)*(b.length:Int):=Br A2.1 (by omega)
  have eb:=h2.1
  clear x1 x2 y1 y2;generalize i / b.length=u1 at *
  generalize j / b.length=u2 at *
  generalize i % b.length=v1 at *
  generalize j % b.length=v2 at *
  refine⟨⟨by omega,by omega⟩,by omega,⟨by omega,by omega⟩,by omega,by omega,by omega,by omega,by omega,by omega,by omega,by rw[bK];omega,by omega,j+1,⟨by omega,by omega⟩,by omega,by omega,TS.symm⟩
 ·rw[qc,show j=N by omega]
 ·rw[show i=N by omega,cd,hN];rfl
section
variable {n m:Nat} {A C A2 C2:Nat->Nat->Nat}
end
/- Tables. -/
theorem uy{n:Nat}{t:Dc}(h:ba n t)(h1:1<=n)(h2:n<=12):aM t=true:=by
 have e:=h.1
 rw[aM,AG,AQ,AM];refine⟨by omega,fun r hr=>?_⟩
 obtain⟨x,hx,rfl⟩:=Ay hr;have row:=h.2 x (by omega)
 rw[cg t [] x hx]at row;rw[dR,AG,AQ];refine⟨by omega,?_⟩
 rw[dG,AM];intro v hv
 obtain⟨y,hy,rfl⟩:=Ay hv;have q:=row.2 y (by omega)
 have e2:en t x y=t[x][y]:=by
  unfold en;rw[cg t [] x hx,cg _ 0 y hy]
 rw[e2]at q;rw[AQ];omega
theorem EB{n:Nat}{r:Db}(hl:r.length=n)(hr:∀y,y<n->0<=r.getD y 0/\r.getD y 0<(n:Int))(hi:∀y z,y<n->z<n->r.getD y 0=r.getD z 0->y=z):cB r=true:=by
 rw[cB,AQ];refine⟨fun x hx=>?_,?_⟩
 ·obtain⟨y,hy,rfl⟩:=Ay hx
  have:=hr y (by omega)
  rw[cg r 0 y hy]at this;omega
 ·rw[List.Nodup,Bu]
  intro i j h1 h2 hij e
  have:=hi i j (by omega) (by omega) (by rw[cg r 0 i h1,cg r 0 j h2,e])
  omega
theorem ME{t:Dc}(ht:aM t=true)(hass:∀x y z,x<t.length->y<t.length->z<t.length->tA t (tA t x y) z=tA t x (tA t y z))(z1:∀x,x<t.length->tA t 0 x=x)(z2:∀x,x<t.length->tA t x 0=x)
  (inv:∀x,x<t.length->∃y,y<t.length/\tA t x y=0):bd t=true:=by
 have T:=bT ht
 have E:∀{x y},x<t.length->y<t.length->_:=fun {x y} hx hy=>gL ht (x:=x) (y:=y) hx hy
 rw[bd,ht,Ac,AG,AM,AM]
 constructor
 ·intro r hr
  obtain⟨x,hx,rfl⟩:=Ay hr;have row:=T.2.2 x hx
  rw[cg t [] x hx]at row;refine EB (n:=t.length) row.1 (fun y hy=>by have:=row.2 y hy;omega) fun y z hy hz e=>?_
  have e2:en t x y=en t x z:=by
   unfold en;rw[cg t [] x hx];exact e
  have e3:tA t x y=tA t x z:=by unfold tA;rw[e2]
  obtain⟨i,hi,hxi⟩:=inv x hx;have hl:tA t i x=0:=by
   obtain⟨k,hk,hik⟩:=inv i hi;have hxk:x=k:=by rw[<-z2 x hx,<-hik,<-hass x i k hx hi hk,hxi,z1 k hk]
   rw[hxk];exact hik
  rw[<-z1 y hy,<-z1 z hz,<-hl,hass i x y hi hx hy,hass i x z hi hx hz,e3]
 ·intro x hx
  have hx:=AW.1 hx
  rw[fX,AG,gX,AG,AQ,AQ];refine⟨⟨?_,?_⟩,?_⟩
  ·rw[(E (by omega) hx).2,z1 x hx]
  ·rw[(E hx (by omega)).2,z2 x hx]
  ·rw[my,AM]
   intro y hy
   have hy:=AW.1 hy
   rw[gW,AM];intro z hz
   have hz:=AW.1 hz
   rw[jG,AQ,(E hx hy).2,(E hy hz).2,AP,AP,(E (E hx hy).1 hz).2,(E hx (E hy hz).1).2,hass x y z hx hy hz]
theorem uz{α:Type}{n:Nat}{q:Nat->Option α}(h:∀i,i<n->q i=none):∀k,k<=n->cb n q k=none
 |0,_=>rfl
 |k+1,hk=>by rw[cb,h _ (by omega),uz h k (by omega)];rfl
theorem uA{a c:Dc}(h:dK a c):bM a c=true:=by
 obtain⟨ta,tc,hl,B⟩:=h;have EA:∀{x y},x<a.length->y<a.length->_:=fun {x y} hx hy=>gL ta (x:=x) (y:=y) hx hy
 have EC:∀{x y},x<a.length->y<a.length->tA c x y<a.length/\en c x y=(tA c x y:Int):=fun {x y} hx hy=>by
  have:=gL tc (x:=x) (y:=y) (by omega) (by omega)
  rwa[hl]at this
 have ga:=ME ta B.aas B.a0l B.a0r B.ainv
 have gc:bd c=true:=ME tc (by rw[hl];exact B.cas) (by rw[hl];exact B.c0l) (by rw[hl];exact B.c0r) (by rw[hl];exact B.cinv)
 have F:cG a c=none:=by
  refine uz (fun x hx=>uz (fun y hy=>uz (fun z hz=>?_) _ (AE _)) _ (AE _)) _ (AE _)
  have K:=(lE ga).2.2.2 x hx
  rw[iE,AA];have q:=B.brc x y z (bk a x).toNat hx hy hz K.1 K.2
  have e1:=(EA hy hz)
  have e2:=(EC hx hy)
  have e3:=(EA e2.1 K.1)
  have e4:=(EC hx hz)
  have e5:=(EC hx e1.1)
  have e6:=(EA e3.1 e4.1)
  rw[e1.2,e2.2,e4.2,AP,AP,AP,e3.2,AP,e5.2,e6.2,q]
 rw[bM,ga,gc,F,AY hl.symm];rfl
section
variable {a c a2 c2:Dc} (h:dK a c) (h2:dK a2 c2) (hs:a.length*a2.length<=12)
include h h2
include hs
end
def bC(n s:Int)(x y:Nat):Int :=
 if(x:Int)<n/\(y:Int)<n then((x:Int).tmod n+(y:Int).tmod n).tmod n
 else if(x:Int)<n then n+((x:Int).tmod n+(y:Int).tmod n).tmod n
 else if(y:Int)<n then n+((x:Int).tmod n-(y:Int).tmod n+n).tmod n
 else((x:Int).tmod n-(y:Int).tmod n+n+s).tmod n
def iG(n s:Int):Dc:=bq (2*n).toNat (bC n s)
theorem MF(x:Nat){n:Int}(h:1<=n):0<=(x:Int).tmod n/\(x:Int).tmod n<n:=⟨CG _ (by omega),CH _ (by omega)⟩
theorem MG{x:Int}{n:Int}(h0:0<=x)(h:1<=n):0<=x.tmod n/\x.tmod n<n:=⟨CG _ h0,CH _ (by omega)⟩
def ED:List AD->Option Post
 | [.c (.int .i64 n),.c (.int .i64 s)]=>some ⟨1<=n/\n<=12/\0<=s/\s<=12,.c (.rows 62 2 .i64 (iG n s)),[]⟩
 |_=>none
def MH(n:Int)(s:Int):Nat->Option Ann
 |0=>V' (fun i=>⟨⟨[(0,D' n),(1,D' s),(5,M' 11),(6,D' i)],[(11,O' ((bn (2*n).toNat i (bC n s))))]⟩,(i:Int)<=2*n,(2*n).toNat-i⟩) (fun i b_=>match b_ with|2=>U' fun j=>⟨⟨[(0,D' n),(1,D' s),(5,M' 11),(6,D' i),(7,M' 18),(8,D' j)],[(11,O' ((bn (2*n).toNat i (bC n s)))),(18,Q' (ap j (bC n s i)))]⟩,(i:Int)<2*n/\(j:Int)<=2*n,(2*n).toNat-j⟩|_=>none)
 |_=>none
def je(n:Int)(x0:Nat)(x1:Nat):=(Int.tmod (↑x0:Int) n-Int.tmod (↑x1:Int) n+n)
def iH(n:Int)(x0:Nat)(x1:Nat):=(Int.tmod (↑x0:Int) n+Int.tmod (↑x1:Int) n)
theorem VE:Fits Tryz.prog 169 ⟨[],ED⟩:=by
 refine ffv (Γ:=af []) aG Tryz.func169 fun ds p h ξ=>?_
 unfold ED at h;split at h<;>cases h
 rename_i n s
 refine⟨ah,MH n s,(∃x0:Nat,(x0:Int)<=(2:Int)*n/\n=n/\s=s/\(0:Int)=(x0:Int)/\([]:Dc)=bn (((2:Int)*n).toNat) x0 (bC n s))/\∀x1:Nat,(x1:Int)<=(2:Int)*n->ae ((2:Int)*n)/\ab (decide ((x1:Int)<(2:Int)*n)) ((∃x2:Nat,((x1:Int)<(2:Int)*n/\(x2:Int)<=(2:Int)*n)/\n=n/\s=s/\(x1:Int)=(x1:Int)/\(0:Int)=(x2:Int)/\bn (((2:Int)*n).toNat) x1 (bC n s)=bn (((2:Int)*n).toNat) x1 (bC n s)/\[]=ap x2 (bC n s x1))/\∀x3:Nat,(x1:Int)<(2:Int)*n/\(x3:Int)<=(2:Int)*n->ae ((2:Int)*n)/\ab (decide ((x3:Int)<(2:Int)*n)) (n≠(0:Int)/\n≠(0:Int)/\ab (decide ((x1:Int)<n)) (ab (decide ((x3:Int)<n)) (ae (iH n x1 x3)/\n≠(0:Int)/\ar ((ap x3 (bC n s x1)).length+[Int.tmod (iH n x1 x3) n].length)/\ae ((x3:Int)+(1:Int))/\∃x4:Nat,((x1:Int)<(2:Int)*n/\(x4:Int)<=(2:Int)*n)/\((2:Int)*n).toNat-x4<((2:Int)*n).toNat-x3/\n=n/\s=s/\(x1:Int)=(x1:Int)/\(x3:Int)+(1:Int)=(x4:Int)/\bn (((2:Int)*n).toNat) x1 (bC n s)=bn (((2:Int)*n).toNat) x1 (bC n s)/\ap x3 (bC n s x1)++[Int.tmod (iH n x1 x3) n]=ap x4 (bC n s x1)) (ab (decide ((x1:Int)<n)) (ae (iH n x1 x3)/\n≠(0:Int)/\ae (n+Int.tmod (iH n x1 x3) n)/\ar ((ap x3 (bC n s x1)).length+[n+Int.tmod (iH n x1 x3) n].length)/\ae ((x3:Int)+(1:Int))/\∃x5:Nat,((x1:Int)<(2:Int)*n/\(x5:Int)<=(2:Int)*n)/\((2:Int)*n).toNat-x5<((2:Int)*n).toNat-x3/\n=n/\s=s/\(x1:Int)=(x1:Int)/\(x3:Int)+(1:Int)=(x5:Int)/\bn (((2:Int)*n).toNat) x1 (bC n s)=bn (((2:Int)*n).toNat) x1 (bC n s)/\ap x3 (bC n s x1)++[n+Int.tmod (iH n x1 x3) n]=ap x5 (bC n s x1)) (ab (decide ((x3:Int)<n)) (ae (Int.tmod (x1:Int) n-Int.tmod (x3:Int) n)/\ae (je n x1 x3)/\n≠(0:Int)/\ae (n+Int.tmod (je n x1 x3) n)/\ar ((ap x3 (bC n s x1)).length+[n+Int.tmod (je n x1 x3) n].length)/\ae ((x3:Int)+(1:Int))/\∃x6:Nat,((x1:Int)<(2:Int)*n/\(x6:Int)<=(2:Int)*n)/\((2:Int)*n).toNat-x6<((2:Int)*n).toNat-x3/\n=n/\s=s/\(x1:Int)=(x1:Int)/\(x3:Int)+(1:Int)=(x6:Int)/\bn (((2:Int)*n).toNat) x1 (bC n s)=bn (((2:Int)*n).toNat) x1 (bC n s)/\ap x3 (bC n s x1)++[n+Int.tmod (je n x1 x3) n]=ap x6 (bC n s x1)) (ae (Int.tmod (x1:Int) n-Int.tmod (x3:Int) n)/\ae (je n x1 x3)/\ae (Int.tmod (x1:Int) n-Int.tmod (x3:Int) n+n+s)/\n≠(0:Int)/\ar ((ap x3 (bC n s x1)).length+[Int.tmod (Int.tmod (x1:Int) n-Int.tmod (x3:Int) n+n+s) n].length)/\ae ((x3:Int)+(1:Int))/\∃x7:Nat,((x1:Int)<(2:Int)*n/\(x7:Int)<=(2:Int)*n)/\((2:Int)*n).toNat-x7<((2:Int)*n).toNat-x3/\n=n/\s=s/\(x1:Int)=(x1:Int)/\(x3:Int)+(1:Int)=(x7:Int)/\bn (((2:Int)*n).toNat) x1 (bC n s)=bn (((2:Int)*n).toNat) x1 (bC n s)/\ap x3 (bC n s x1)++[Int.tmod (Int.tmod (x1:Int) n-Int.tmod (x3:Int) n+n+s) n]=ap x7 (bC n s x1))))) (ab (decide ((x1:Int)<n)) (ae (iH n x1 x3)/\n≠(0:Int)/\ae (n+Int.tmod (iH n x1 x3) n)/\ar ((ap x3 (bC n s x1)).length+[n+Int.tmod (iH n x1 x3) n].length)/\ae ((x3:Int)+(1:Int))/\∃x8:Nat,((x1:Int)<(2:Int)*n/\(x8:Int)<=(2:Int)*n)/\((2:Int)*n).toNat-x8<((2:Int)*n).toNat-x3/\n=n/\s=s/\(x1:Int)=(x1:Int)/\(x3:Int)+(1:Int)=(x8:Int)/\bn (((2:Int)*n).toNat) x1 (bC n s)=bn (((2:Int)*n).toNat) x1 (bC n s)/\ap x3 (bC n s x1)++[n+Int.tmod (iH n x1 x3) n]=ap x8 (bC n s x1)) (ab (decide ((x3:Int)<n)) (ae (Int.tmod (x1:Int) n-Int.tmod (x3:Int) n)/\ae (je n x1 x3)/\n≠(0:Int)/\ae (n+Int.tmod (je n x1 x3) n)/\ar ((ap x3 (bC n s x1)).length+[n+Int.tmod (je n x1 x3) n].length)/\ae ((x3:Int)+(1:Int))/\∃x9:Nat,((x1:Int)<(2:Int)*n/\(x9:Int)<=(2:Int)*n)/\((2:Int)*n).toNat-x9<((2:Int)*n).toNat-x3/\n=n/\s=s/\(x1:Int)=(x1:Int)/\(x3:Int)+(1:Int)=(x9:Int)/\bn (((2:Int)*n).toNat) x1 (bC n s)=bn (((2:Int)*n).toNat) x1 (bC n s)/\ap x3 (bC n s x1)++[n+Int.tmod (je n x1 x3) n]=ap x9 (bC n s x1)) (ae (Int.tmod (x1:Int) n-Int.tmod (x3:Int) n)/\ae (je n x1 x3)/\ae (Int.tmod (x1:Int) n-Int.tmod (x3:Int) n+n+s)/\n≠(0:Int)/\ar ((ap x3 (bC n s x1)).length+[Int.tmod (Int.tmod (x1:Int) n-Int.tmod (x3:Int) n+n+s) n].length)/\ae ((x3:Int)+(1:Int))/\∃x10:Nat,((x1:Int)<(2:Int)*n/\(x10:Int)<=(2:Int)*n)/\((2:Int)*n).toNat-x10<((2:Int)*n).toNat-x3/\n=n/\s=s/\(x1:Int)=(x1:Int)/\(x3:Int)+(1:Int)=(x10:Int)/\bn (((2:Int)*n).toNat) x1 (bC n s)=bn (((2:Int)*n).toNat) x1 (bC n s)/\ap x3 (bC n s x1)++[Int.tmod (Int.tmod (x1:Int) n-Int.tmod (x3:Int) n+n+s) n]=ap x10 (bC n s x1))))) (ar ((bn (((2:Int)*n).toNat) x1 (bC n s)).length+(ap x3 (bC n s x1)::([]:Dc)).length)/\ae ((x1:Int)+(1:Int))/\∃x11:Nat,(x11:Int)<=(2:Int)*n/\((2:Int)*n).toNat-x11<((2:Int)*n).toNat-x1/\n=n/\s=s/\(x1:Int)+(1:Int)=(x11:Int)/\bn (((2:Int)*n).toNat) x1 (bC n s)++ap x3 (bC n s x1)::([]:Dc)=bn (((2:Int)*n).toNat) x11 (bC n s))) (bn (((2:Int)*n).toNat) x1 (bC n s)=iG n s/\True),by kernel_rfl,?_⟩
 simp only[je,iH,aH]at ξ⊢;obtain⟨h1,h2,h3,h4⟩:=ξ;refine⟨⟨0,by omega,rfl,rfl⟩,fun i hi=>⟨by omega,fun h=>⟨⟨0,⟨by omega,by omega⟩,rfl,rfl⟩,fun j ⟨_,hj⟩=>⟨by omega,fun g=>?_,fun g=>⟨by rw[qd];omega,by omega,i+1,by omega,by omega,by omega,?_⟩⟩⟩,fun h=>?_⟩⟩
 ·have a:=MF i h1
  have b:=MF j h1
  have c:=MG (x:=(i:Int).tmod n+(j:Int).tmod n) (by omega) h1
  have d:=MG (x:=(i:Int).tmod n-(j:Int).tmod n+n) (by omega) h1
  have TS:ap j (bC n s i)++[bC n s i j]=ap (j+1) (bC n s i):=(tab_succ' _ _).symm
  have R:∀v:Int,v=bC n s i j->(ap j (bC n s i)).length+(0+1)<=1099511627776/\∃x:Nat,(((i:Int)<2*n/\(x:Int)<=2*n)/\(2*n).toNat-x<(2*n).toNat-j/\(j:Int)+1=(x:Int)/\ap j (bC n s i)++[v]=ap x (bC n s i)):=fun v hv=>by
   subst hv;refine⟨by rw[bK];omega,j+1,⟨by omega,by omega⟩,by omega,by omega,TS⟩
  by_cases q:(i:Int)<n<;>by_cases r:(j:Int)<n
  ·have:=R _ (AA ⟨q,r⟩).symm
   simp only[q,r,Bz,Cc,true_implies,false_implies,Be,B4,implies_true];exact⟨by omega,by omega,by omega,by omega,this.1,by omega,this.2⟩
  ·have:=R _ ((AB (by omega)).trans (AA q)).symm
   simp only[q,r,Bz,Cc,true_implies,false_implies,Be,B4,implies_true];exact⟨by omega,by omega,by omega,by omega,by omega,this.1,by omega,this.2⟩
  ·have:=R _ ((AB (by omega)).trans ((AB q).trans (AA r))).symm
   simp only[q,r,Bz,Cc,true_implies,false_implies,Be,B4,implies_true];exact⟨by omega,by omega,by omega,by omega,by omega,by omega,this.1,by omega,this.2⟩
  ·have:=R _ ((AB (by omega)).trans ((AB q).trans (AB r))).symm
   simp only[q,r,Bz,Cc,true_implies,false_implies,Be,B4,implies_true];exact⟨by omega,by omega,by omega,by omega,by omega,by omega,this.1,by omega,this.2⟩
 ·rw[qc,show j=(2*n).toNat by omega]
 ·rw[show i=(2*n).toNat by omega];rfl
end Go.Sx
