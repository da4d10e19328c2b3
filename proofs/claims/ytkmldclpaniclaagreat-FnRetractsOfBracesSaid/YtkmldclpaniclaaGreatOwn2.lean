/- Own2 -/
import Derived.Test.YtkmldclpaniclaaGreatTable
import Derived.Test.YtkmldclpaniclaaGreatMapC
set_option linter.unusedSimpArgs false
set_option linter.unusedVariables false
set_option linter.defProp false
open Go Go.Proofs
namespace Go.Sx
def ox:List AD->Option Post
 | [.c (.ints .i64 l)]=>some ⟨ar l.length,.c (.ints 2 .i64 l),[]⟩
 |_=>none
theorem uM:Fits Tryz.prog 144 ⟨[],ox⟩:=by
 refine ffv (Γ:=af []) aG Tryz.func144 fun ds p h ξ=>?_
 unfold ox at h;split at h<;>cases h
 rename_i l
 refine⟨ah,ak,ar (([]:Db).length+l.length)/\[]++l=l/\True,by kernel_rfl,?_⟩
 simp only[aH]at ξ⊢;simp[ξ]
theorem M9{n:Nat}{a b:Dd}{c d:Db}(h:(dO n a b c d).2.2=true):gF n a b c d=some ((dO n a b c d).1,(dO n a b c d).2.1):=by
 unfold dO at h⊢;cases e:gF n a b c d with
 |none=>rw[e]at h;cases h
 |some x=>rfl
theorem Na{n:Nat}{a b:Dd}{c d:Db}(h:(dO n a b c d).2.2=false):gF n a b c d=none:=by
 unfold dO at h;cases e:gF n a b c d with
 |none=>rfl
 |some x=>rw[e]at h;cases h
theorem ER{n:Nat}{p:Db}(h:∀i,i<n->0<=p.getD i 0/\p.getD i 0<=60)(hp:p.length=n)(j:Nat):∀i,i<n->0<=(p.set j 60).getD i 0/\(p.set j 60).getD i 0<=60:=fun i hi=>by
 rw[kq _ _ _ _ (by omega)]
 split
 ·omega
 ·exact h i hi
theorem Nb{n:Nat}{f:Db}(h:∀i,i<f.length->0<=f.getD i 0/\f.getD i 0<(n:Int)){y:Nat}(hy:y<n):∀i,i<f.length+(0+1)->0<=(f++[(y:Int)]).getD i 0/\(f++[(y:Int)]).getD i 0<(n:Int):=fun i hi=>by
 by_cases q:i<f.length
 ·rw[getD_append_left' _ _ _ _ q];exact h i q
 ·rw[getD_append_right' _ _ _ _ (by omega),show i-f.length=0 by omega]
  simp;omega
def oy(d:Nat)(a:Dd)(b:Dd)(f:Db)(p:Db)(q:Db)(ζ:Int)(out:Dc):Post:=⟨(f.length<=p.length/\p.length<d+f.length)/\1<=f.length/\a.length<=1000/\b.length=a.length/\p.length<=12/\q.length=p.length/\nT a=p.length/\bN p.length a/\bN p.length b/\(∀i,i<p.length->0<=p.getD i 0/\p.getD i 0<=60)/\(∀i,i<p.length->0<=q.getD i 0/\q.getD i 0<=60)/\(∀i,i<f.length->0<=f.getD i 0/\f.getD i 0<(p.length:Int))/\(out.length:Int)<ζ/\ζ<=1000000,.c (.rows 62 2 .i64 (dT p.length a b ζ.toNat (p.length-f.length) f p q out)),[.gone (.rows 62 2 .i64 out)]⟩
def qg(d:Nat):List AD->Option Post
 | [.c (.r3 .i64 a),.c (.r3 .i64 b),.c (.ints .i64 f),.c (.ints .i64 p),.c (.ints .i64 q),.c (.int .i64 ζ),.c (.rows .i64 out)]=>some (oy d a b f p q ζ out)
 |_=>none
def Nc(d:Nat)(a:Dd)(b:Dd)(f:Db)(p:Db)(q:Db)(ζ:Int)(out:Dc):Nat->Option Ann
 |0=>U' fun y=>⟨⟨[(0,J' a),(1,J' b),(2,G' f),(3,G' p),(4,G' q),(5,D' ζ),(6,M' 796),(15,D' f.length),(16,D' y)],[(796,O' (dk (eA p.length a b ζ.toNat (dT p.length a b ζ.toNat (p.length-f.length-1)) f p q) out y))]⟩,y<=p.length/\f.length<p.length,p.length-y⟩
 |_=>none
def Nd(d:Nat):List (Nat×Ctr):=[(144,⟨[],ox⟩),(182,⟨[],p5⟩),(176,⟨[],tZ⟩),(177,⟨[],ub⟩),(178,⟨[(6,0)],qg d⟩)]
def eO(a:Dd)(b:Dd)(f:Db)(p:Db)(q:Db)(x0:Nat):=(dO ((List.set p ((↑(f.length):Int).toNat) (60:Int)).length) a b (List.set p ((↑(f.length):Int).toNat) (60:Int)) (List.set q (↑x0:Int).toNat (60:Int)))
def f8(a:Dd)(b:Dd)(f:Db)(p:Db)(q:Db)(ζ:Int):=(eA p.length a b ζ.toNat (dT p.length a b ζ.toNat (p.length-f.length-(1:Nat))) f p q)
def ES(d:Nat)(a:Dd)(b:Dd)(f:Db)(p:Db)(q:Db)(ζ:Int)(out:Dc):Prop :=
 ab ((f.length:Int) == (p.length:Int)) ((ar f.length/\True)/\ar (out.length+(f::([]:Dc)).length)/\out++f::([]:Dc)=dT p.length a b ζ.toNat (p.length-f.length) f p q out/\True) ((∃x0:Nat,(x0<=p.length/\f.length<p.length)/\a=a/\b=b/\f=f/\p=p/\q=q/\ζ=ζ/\(f.length:Int)=(f.length:Int)/\(0:Int)=(x0:Int)/\out=dk (f8 a b f p q ζ) out x0)/\∀x1:Nat,x1<=p.length/\f.length<p.length->ab (decide ((x1:Int)<(q.length:Int))) (ab (decide ((↑((dk (eA p.length a b ζ.toNat (dT p.length a b ζ.toNat (p.length-f.length-(1:Nat))) f p q) out x1).length):Int)<ζ)) ((ar f.length/\True)/\ar (f.length+[(x1:Int)].length)/\(f.length<=(1099511627776:Nat)/\True)/\ab (decide ((x1:Int)∈f)) (ae ((x1:Int)+(1:Int))/\∃x2:Nat,(x2<=p.length/\f.length<p.length)/\p.length-x2<p.length-x1/\a=a/\b=b/\f=f/\p=p/\q=q/\ζ=ζ/\(f.length:Int)=(f.length:Int)/\(x1:Int)+(1:Int)=(x2:Int)/\dk (f8 a b f p q ζ) out x1=dk (f8 a b f p q ζ) out x2) (aa (f.length:Int) p.length/\aa (x1:Int) q.length/\ab (p.getD ((f.length:Int).toNat) (0:Int) != q.getD (x1:Int).toNat (0:Int)) (ae ((x1:Int)+(1:Int))/\∃x3:Nat,(x3<=p.length/\f.length<p.length)/\p.length-x3<p.length-x1/\a=a/\b=b/\f=f/\p=p/\q=q/\ζ=ζ/\(f.length:Int)=(f.length:Int)/\(x1:Int)+(1:Int)=(x3:Int)/\dk (f8 a b f p q ζ) out x1=dk (f8 a b f p q ζ) out x3) (((a.length<=(1000:Nat)/\nT a<=(1000:Nat)/\(1:Nat)<=(f++[(x1:Int)]).length/\(f++[(x1:Int)]).length<=nT a/\b.length=a.length/\bN (nT a) a/\bN (nT a) b/\∀(i:Nat),i<(f++[(x1:Int)]).length->(0:Int)<=(f++[(x1:Int)]).getD i (0:Int)/\(f++[(x1:Int)]).getD i (0:Int)<(nT a:Int))/\True)/\ab (!dD a b (f++[(x1:Int)])) (ae ((x1:Int)+(1:Int))/\∃x4:Nat,(x4<=p.length/\f.length<p.length)/\p.length-x4<p.length-x1/\a=a/\b=b/\f=f/\p=p/\q=q/\ζ=ζ/\(f.length:Int)=(f.length:Int)/\(x1:Int)+(1:Int)=(x4:Int)/\dk (f8 a b f p q ζ) out x1=dk (f8 a b f p q ζ) out x4) ((ar p.length/\True)/\(ar q.length/\True)/\aa (f.length:Int) p.length/\aa (x1:Int) q.length/\((a.length<=(1000:Nat)/\b.length=a.length/\(1:Nat)<=(List.set p ((f.length:Int).toNat) (60:Int)).length/\(List.set p ((f.length:Int).toNat) (60:Int)).length<=(12:Nat)/\(List.set q (x1:Int).toNat (60:Int)).length=(List.set p ((f.length:Int).toNat) (60:Int)).length/\bN ((List.set p ((f.length:Int).toNat) (60:Int)).length) a/\bN ((List.set p ((f.length:Int).toNat) (60:Int)).length) b/\(∀(i:Nat),i<(List.set p ((f.length:Int).toNat) (60:Int)).length->(0:Int)<=(List.set p ((f.length:Int).toNat) (60:Int)).getD i (0:Int)/\(List.set p ((f.length:Int).toNat) (60:Int)).getD i (0:Int)<=(60:Int))/\∀(i:Nat),i<(List.set p ((f.length:Int).toNat) (60:Int)).length->(0:Int)<=(List.set q (x1:Int).toNat (60:Int)).getD i (0:Int)/\(List.set q (x1:Int).toNat (60:Int)).getD i (0:Int)<=(60:Int))/\True)/\ab (((dO ((List.set p ((f.length:Int).toNat) (60:Int)).length) a b (List.set p ((f.length:Int).toNat) (60:Int)) (List.set q (x1:Int).toNat (60:Int))).2).2) (((((f++[(x1:Int)]).length<=((eO a b f p q x1).1).length/\((eO a b f p q x1).1).length<d+(f++[(x1:Int)]).length)/\(1:Nat)<=(f++[(x1:Int)]).length/\a.length<=(1000:Nat)/\b.length=a.length/\((eO a b f p q x1).1).length<=(12:Nat)/\(((eO a b f p q x1).2).1).length=((eO a b f p q x1).1).length/\nT a=((eO a b f p q x1).1).length/\bN (((eO a b f p q x1).1).length) a/\bN (((eO a b f p q x1).1).length) b/\(∀(i:Nat),i<((eO a b f p q x1).1).length->(0:Int)<=((eO a b f p q x1).1).getD i (0:Int)/\((eO a b f p q x1).1).getD i (0:Int)<=(60:Int))/\(∀(i:Nat),i<((eO a b f p q x1).1).length->(0:Int)<=(((eO a b f p q x1).2).1).getD i (0:Int)/\(((eO a b f p q x1).2).1).getD i (0:Int)<=(60:Int))/\(∀(i:Nat),i<(f++[(x1:Int)]).length->(0:Int)<=(f++[(x1:Int)]).getD i (0:Int)/\(f++[(x1:Int)]).getD i (0:Int)<(↑(((eO a b f p q x1).1).length):Int))/\(↑((dk (f8 a b f p q ζ) out x1).length):Int)<ζ/\ζ<=(1000000:Int))/\True/\True)/\ae ((x1:Int)+(1:Int))/\∃x5:Nat,(x5<=p.length/\f.length<p.length)/\p.length-x5<p.length-x1/\a=a/\b=b/\f=f/\p=p/\q=q/\ζ=ζ/\(f.length:Int)=(f.length:Int)/\(x1:Int)+(1:Int)=(x5:Int)/\dT (((eO a b f p q x1).1).length) a b ζ.toNat (((eO a b f p q x1).1).length-(f++[(x1:Int)]).length) (f++[(x1:Int)]) (eO a b f p q x1).1 (((eO a b f p q x1).2).1) (dk (f8 a b f p q ζ) out x1)=dk (f8 a b f p q ζ) out x5) (ae ((x1:Int)+(1:Int))/\∃x6:Nat,(x6<=p.length/\f.length<p.length)/\p.length-x6<p.length-x1/\a=a/\b=b/\f=f/\p=p/\q=q/\ζ=ζ/\(f.length:Int)=(f.length:Int)/\(x1:Int)+(1:Int)=(x6:Int)/\dk (f8 a b f p q ζ) out x1=dk (f8 a b f p q ζ) out x6))))) (dk (f8 a b f p q ζ) out x1=dT p.length a b ζ.toNat (p.length-f.length) f p q out/\True)) (dk (f8 a b f p q ζ) out x1=dT p.length a b ζ.toNat (p.length-f.length) f p q out/\True))
theorem VZ(d:Nat)(a:Dd)(b:Dd)(f:Db)(p:Db)(q:Db)(ζ:Int)(out:Dc):aE Tryz.prog (af (Nd d)) ah (Nc (d+1) a b f p q ζ out) Tryz.f178 (aF Tryz.f178) [(6,0)] [.c (.r3 .i64 a),.c (.r3 .i64 b),.c (.ints .i64 f),.c (.ints .i64 p),.c (.ints .i64 q),.c (.int .i64 ζ),.c (.rows .i64 out)] (oy (d+1) a b f p q ζ out)=ES d a b f p q ζ out:=by kernel_rfl
theorem V0(d:Nat)(a:Dd)(b:Dd)(f:Db)(p:Db)(q:Db)(ζ:Int)(out:Dc)(ξ:(oy (d+1) a b f p q ζ out).pre):ES d a b f p q ζ out:=by
 simp only[oy,ES,eO,f8,aH]at ξ⊢;obtain⟨⟨h1,h2⟩,h3,h4,h5,h6,h7,h8,h9,h10,h11,h12,h13,h14,h15⟩:=ξ;refine⟨fun e=>⟨by omega,by omega,?_⟩,fun e=>⟨⟨0,⟨by omega,by omega⟩,rfl,rfl⟩,fun y ⟨hy,hfl⟩=>⟨fun y2=>⟨fun ψ=>?_,fun ψ=>?_⟩,fun y2=>?_⟩⟩⟩
 ·rw[show p.length-f.length=0 by omega];rfl
 ·have hm:∀m,dk (eA p.length a b ζ.toNat (dT p.length a b ζ.toNat (p.length-f.length-1)) f p q) out y=m->dk (eA p.length a b ζ.toNat (dT p.length a b ζ.toNat (p.length-f.length-1)) f p q) out (y+1)=eA p.length a b ζ.toNat (dT p.length a b ζ.toNat (p.length-f.length-1)) f p q y m:=fun m e=>by rw[dk,e]
  generalize dk (eA p.length a b ζ.toNat (dT p.length a b ζ.toNat (p.length-f.length-1)) f p q) out y=o at *
  have hm:=hm o rfl
  have hlt2:o.length<ζ.toNat:=by omega
  have next:∀r,eA p.length a b ζ.toNat (dT p.length a b ζ.toNat (p.length-f.length-1)) f p q y o=r->r=dk (eA p.length a b ζ.toNat (dT p.length a b ζ.toNat (p.length-f.length-1)) f p q) out (y+1):=fun r e=>by rw[hm,e]
  refine⟨by omega,by omega,by omega,fun m=>⟨by omega,y+1,⟨by omega,by omega⟩,by omega,by omega,next _ ?_⟩,fun m=>⟨by omega,by omega,fun c=>⟨by omega,y+1,⟨by omega,by omega⟩,by omega,by omega,next _ ?_⟩,fun c=>⟨⟨h4,by omega,by omega,by omega,h5,by rw[h8];exact h9,by rw[h8];exact h10,by rw[h8];exact Nb h13 (by omega)⟩,fun g=>⟨by omega,y+1,⟨by omega,by omega⟩,by omega,by omega,next _ ?_⟩,fun g=>⟨by omega,by omega,by omega,by omega,⟨h4,h5,by omega,h6,h7,h9,h10,ER h11 rfl _,ER h12 h7 _⟩,fun r=>?_,fun r=>⟨by omega,y+1,⟨by omega,by omega⟩,by omega,by omega,next _ ?_⟩⟩⟩⟩⟩
  ·rw[eA,AA hlt2,AA (.inl m)]
  ·rw[eA,AA hlt2,AA (.inr (.inl c))]
  ·rw[eA,AA hlt2,AA (.inr (.inr g))]
  ·have ok:=M9 r
   obtain⟨l1,l2,l3,l4⟩:=pV _ _ _ _ _ _ ok;rw[l1];refine⟨⟨⟨by omega,by omega⟩,by omega,h4,h5,h6,by omega,h8,h9,h10,fun i hi=>?_,fun i hi=>?_,Nb h13 (by omega),ψ,h15⟩,by omega,y+1,⟨by omega,by omega⟩,by omega,by omega,next _ ?_⟩
   ·have:=l3 i hi;omega
   ·have:=l4 i hi;omega
   ·rw[eA,AA hlt2,AB (by rintro(z|z|z);exact m z;exact z c;rw[g]at z;cases z),ok]
    simp only;rw[show p.length-f.length-1=p.length-(f.length+(0+1)) by omega]
  ·rw[eA,AA hlt2,AB (by rintro(z|z|z);exact m z;exact z c;rw[g]at z;cases z),Na r]
 ·rw[show p.length-f.length=(p.length-f.length-1)+1 by omega,dT]
  have:=LG (n:=p.length) (a:=a) (b:=b) (ζ:=ζ.toNat) (rec:=dT p.length a b ζ.toNat (p.length-f.length-1)) (f:=f) (c:=p) (d:=q) (out:=out) (y:=y) (by omega) (p.length-y)
  rw[show y+(p.length-y)=p.length by omega]at this
  exact this.symm
 ·rw[show y=p.length by omega]
  generalize hk:p.length-f.length-1=k
  rw[show p.length-f.length=k+1 by omega];rfl
theorem V1(a:Dd)(b:Dd)(f:Db)(p:Db)(q:Db)(ζ:Int)(out:Dc)(h:(oy 0 a b f p q ζ out).pre):False:=by
 simp only[oy]at h;omega
theorem V2(d:Nat):Fits Tryz.prog 178 ⟨[(6,0)],qg d⟩:=by
 induction d with
 |zero =>
  refine I4 ⟨Tryz.f178,Tryz.func178,by kernel_rfl,by kernel_rfl⟩ (by decide) fun ds p h hp=>?_
  unfold qg at h;split at h
  ·cases h
   exact V1 _ _ _ _ _ _ _  hp
  ·cases h
 |succ d ih =>
  refine rR (Γ:=af (Nd d)) (aj uM (aj Ef (aj LQ (aj LT (aj ih aG))))) Tryz.func178 (by kernel_rfl) (by kernel_rfl) (by kernel_rfl) fun ds p h hp=>?_
  unfold qg at h;split at h
  ·cases h
   exact⟨ah,Nc _ _ _ _ _ _ _ _ ,by rw[VZ];exact V0 _ _ _ _ _ _ _ _  hp⟩
  ·cases h
def g5(a b:Dd)(ζ:Int):Dc:=if nT a=nT b then mC (nT a) a b ζ.toNat else []
theorem Nf{n:Nat}(j:Nat):∀i,i<n->0<=((List.replicate n (0:Int)).set j 60).getD i 0/\((List.replicate n (0:Int)).set j 60).getD i 0<=60 :=
 ER (fun i hi=>by simp[AN,hi]) (by simp) j
def ET:List AD->Option Post
 | [.c (.r3 .i64 a),.c (.r3 .i64 b),.c (.ints .i64 f),.c (.int .i64 ζ)]=>some ⟨f=[0]/\1<=a.length/\a.length<=1000/\b.length=a.length/\1<=nT a/\nT a<=12/\bN (nT a) a/\bN (nT b) b/\1<=ζ/\ζ<=1000000,.c (.rows 62 2 .i64 (g5 a b ζ)),[]⟩
 |_=>none
def c7(a:Dd):=(List.replicate ((↑((a.getD (0:Nat) ([]:Dc)).length):Int).toNat) (0:Int))
def eP(a:Dd)(b:Dd):=(dO ((List.set (c7 a) (0:Nat) (60:Int)).length) a b (List.set (c7 a) (0:Nat) (60:Int)) (List.set (c7 a) (0:Nat) (60:Int)))
def eQ(a:Dd)(b:Dd):=(dO (c7 a).length a b (c7 a) (c7 a))
def kE(a:Dd):=(↑((a.getD (0:Nat) ([]:Dc)).length):Int)
theorem V5:Fits Tryz.prog 128 ⟨[],ET⟩:=by
 refine ffv (Γ:=af [(176,⟨[],tZ⟩),(177,⟨[],ub⟩),(178,⟨[(6,0)],qg 13⟩)]) (aj LQ (aj LT (aj (V2 13) aG))) Tryz.func128 fun ds p h ξ=>?_
 unfold ET at h;split at h<;>cases h
 rename_i a b f ζ
 refine⟨ah,ak,aa (0:Int) a.length/\aa (0:Int) b.length/\ab ((↑((a.getD (0:Nat) ([]:Dc)).length):Int) != (↑((b.getD (0:Nat) ([]:Dc)).length):Int)) (([]:Dc)=g5 a b ζ/\True) (aa (0:Int) a.length/\((0:Int)<=(kE a)/\(kE a)<=(kE a)/\ar (kE a).toNat)/\aa (0:Int) a.length/\((0:Int)<=(kE a)/\(kE a)<=(kE a)/\ar (kE a).toNat)/\ab (decide ((0:Int)<(f.length:Int))) (((a.length<=(1000:Nat)/\nT a<=(1000:Nat)/\(1:Nat)<=f.length/\f.length<=nT a/\b.length=a.length/\bN (nT a) a/\bN (nT a) b/\∀(i:Nat),i<f.length->(0:Int)<=f.getD i (0:Int)/\f.getD i (0:Int)<(nT a:Int))/\True)/\ab (!dD a b f) (([]:Dc)=g5 a b ζ/\True) (aa (0:Int) (c7 a).length/\aa (0:Int) (c7 a).length/\((a.length<=(1000:Nat)/\b.length=a.length/\(1:Nat)<=(List.set (c7 a) (0:Nat) (60:Int)).length/\(List.set (c7 a) (0:Nat) (60:Int)).length<=(12:Nat)/\(List.set (c7 a) (0:Nat) (60:Int)).length=(List.set (c7 a) (0:Nat) (60:Int)).length/\bN ((List.set (c7 a) (0:Nat) (60:Int)).length) a/\bN ((List.set (c7 a) (0:Nat) (60:Int)).length) b/\(∀(i:Nat),i<(List.set (c7 a) (0:Nat) (60:Int)).length->(0:Int)<=(List.set (c7 a) (0:Nat) (60:Int)).getD i (0:Int)/\(List.set (c7 a) (0:Nat) (60:Int)).getD i (0:Int)<=(60:Int))/\∀(i:Nat),i<(List.set (c7 a) (0:Nat) (60:Int)).length->(0:Int)<=(List.set (c7 a) (0:Nat) (60:Int)).getD i (0:Int)/\(List.set (c7 a) (0:Nat) (60:Int)).getD i (0:Int)<=(60:Int))/\True)/\ab (!((dO ((List.set (List.replicate ((↑((a.getD (0:Nat) ([]:Dc)).length):Int).toNat) (0:Int)) (0:Nat) (60:Int)).length) a b (List.set (List.replicate ((↑((a.getD (0:Nat) ([]:Dc)).length):Int).toNat) (0:Int)) (0:Nat) (60:Int)) (List.set (List.replicate ((↑((a.getD (0:Nat) ([]:Dc)).length):Int).toNat) (0:Int)) (0:Nat) (60:Int))).2).2) (([]:Dc)=g5 a b ζ/\True) ((((f.length<=((eP a b).1).length/\((eP a b).1).length<(13:Nat)+f.length)/\(1:Nat)<=f.length/\a.length<=(1000:Nat)/\b.length=a.length/\((eP a b).1).length<=(12:Nat)/\(((eP a b).2).1).length=((eP a b).1).length/\nT a=((eP a b).1).length/\bN (((eP a b).1).length) a/\bN (((eP a b).1).length) b/\(∀(i:Nat),i<((eP a b).1).length->(0:Int)<=((eP a b).1).getD i (0:Int)/\((eP a b).1).getD i (0:Int)<=(60:Int))/\(∀(i:Nat),i<((eP a b).1).length->(0:Int)<=(((eP a b).2).1).getD i (0:Int)/\(((eP a b).2).1).getD i (0:Int)<=(60:Int))/\(∀(i:Nat),i<f.length->(0:Int)<=f.getD i (0:Int)/\f.getD i (0:Int)<(↑(((eP a b).1).length):Int))/\(↑(([]:Dc).length):Int)<ζ/\ζ<=(1000000:Int))/\True/\True)/\dT (((eP a b).1).length) a b ζ.toNat (((eP a b).1).length-f.length) f (eP a b).1 (((eP a b).2).1) ([]:Dc)=g5 a b ζ/\True))) (((a.length<=(1000:Nat)/\b.length=a.length/\(1:Nat)<=(c7 a).length/\(c7 a).length<=(12:Nat)/\(c7 a).length=(c7 a).length/\bN (c7 a).length a/\bN (c7 a).length b/\(∀(i:Nat),i<(c7 a).length->(0:Int)<=(c7 a).getD i (0:Int)/\(c7 a).getD i (0:Int)<=(60:Int))/\∀(i:Nat),i<(c7 a).length->(0:Int)<=(c7 a).getD i (0:Int)/\(c7 a).getD i (0:Int)<=(60:Int))/\True)/\ab (!((dO ((List.replicate ((↑((a.getD (0:Nat) ([]:Dc)).length):Int).toNat) (0:Int)).length) a b (List.replicate ((↑((a.getD (0:Nat) ([]:Dc)).length):Int).toNat) (0:Int)) (List.replicate ((↑((a.getD (0:Nat) ([]:Dc)).length):Int).toNat) (0:Int))).2).2) (([]:Dc)=g5 a b ζ/\True) ((((f.length<=((eQ a b).1).length/\((eQ a b).1).length<(13:Nat)+f.length)/\(1:Nat)<=f.length/\a.length<=(1000:Nat)/\b.length=a.length/\((eQ a b).1).length<=(12:Nat)/\(((eQ a b).2).1).length=((eQ a b).1).length/\nT a=((eQ a b).1).length/\bN (((eQ a b).1).length) a/\bN (((eQ a b).1).length) b/\(∀(i:Nat),i<((eQ a b).1).length->(0:Int)<=((eQ a b).1).getD i (0:Int)/\((eQ a b).1).getD i (0:Int)<=(60:Int))/\(∀(i:Nat),i<((eQ a b).1).length->(0:Int)<=(((eQ a b).2).1).getD i (0:Int)/\(((eQ a b).2).1).getD i (0:Int)<=(60:Int))/\(∀(i:Nat),i<f.length->(0:Int)<=f.getD i (0:Int)/\f.getD i (0:Int)<(↑(((eQ a b).1).length):Int))/\(↑(([]:Dc).length):Int)<ζ/\ζ<=(1000000:Int))/\True/\True)/\dT (((eQ a b).1).length) a b ζ.toNat (((eQ a b).1).length-f.length) f (eQ a b).1 (((eQ a b).2).1) ([]:Dc)=g5 a b ζ/\True))),by kernel_rfl,?_⟩
 simp only[c7,eP,eQ,kE,aH]at ξ⊢;obtain⟨rfl,h1,h2,h3,h4,h5,h6,h7,h8,h9⟩:=ξ;have ea:(a.getD 0 []).length=nT a:=rfl
 have eb:(b.getD 0 []).length=nT b:=rfl
 simp only[ea,eb,AR,BV];refine⟨by omega,by omega,fun q=>?_,fun q=>?_⟩
 ·rw[g5,AB (by omega)]
 have e:nT a=nT b:=by omega
 rw[<-e]at h7;have R:g5 a b ζ=mC (nT a) a b ζ.toNat:=AA e
 rw[R];refine⟨by omega,by omega,by omega,by omega,fun _=>⟨⟨h2,by omega,by omega,by omega,h3,h6,h7,fun i hi=>?_⟩,fun z=>?_,fun z=>⟨by omega,by omega,⟨h2,h3,h4,h5,h6,h7,Nf 0,Nf 0⟩,fun y=>?_,fun y=>?_⟩⟩,fun z=>absurd z (by omega)⟩
 ·have:i=0:=by omega
  subst this;simp;omega
 ·rw[mC,AA z]
 ·rw[mC,AB (by rw[z];simp),Na y]
 ·have ok:=M9 y
  obtain⟨l1,l2,l3,l4⟩:=pV _ _ _ _ _ _ ok;rw[l1];refine⟨⟨⟨by omega,by omega⟩,by omega,h2,h3,h5,by omega,rfl,h6,h7,fun i hi=>?_,fun i hi=>?_,fun i hi=>?_,by omega,by omega⟩,?_⟩
  ·have:=l3 i hi;omega
  ·have:=l4 i hi;omega
  ·have:i=0:=by omega
   subst this;simp;omega
  ·rw[mC,AB (by rw[z];simp),ok]
def uP:List AD->Option Post
 | [.c (.rows .i64 t)]=>some ⟨aD t,.c (.rows 62 2 .i64 t),[]⟩
 |_=>none
def Nh(t:Dc):Nat->Option Ann
 |0=>U' fun i=>⟨⟨[(0,I' t),(3,M' 5),(4,D' i)],[(5,O' (t.take i))]⟩,i<=t.length,t.length-i⟩
 |_=>none
theorem Nj:Fits Tryz.prog 96 ⟨[],uP⟩:=by
 refine ffv (Γ:=af [(144,⟨[],ox⟩)]) (aj uM aG) Tryz.func96 fun ds p h ξ=>?_
 unfold uP at h;split at h<;>cases h
 rename_i t
 refine⟨ah,Nh t,(∃x0:Nat,x0<=t.length/\t=t/\(0:Int)=(x0:Int)/\([]:Dc)=List.take x0 t)/\∀x1:Nat,x1<=t.length->ab (decide ((x1:Int)<(t.length:Int))) (aa (x1:Int) t.length/\(ar ((t.getD (x1:Int).toNat []).length)/\True)/\ar ((List.take x1 t).length+(t.getD (x1:Int).toNat []::([]:Dc)).length)/\ae ((x1:Int)+(1:Int))/\∃x2:Nat,x2<=t.length/\t.length-x2<t.length-x1/\t=t/\(x1:Int)+(1:Int)=(x2:Int)/\List.take x1 t++t.getD (x1:Int).toNat []::([]:Dc)=List.take x2 t) (List.take x1 t=t/\True),by kernel_rfl,?_⟩
 simp only[aH]at ξ⊢;have h1:=ξ.1
 refine⟨⟨0,by omega,rfl,by simp⟩,fun i hi=>⟨fun h=>⟨by omega,am6 ξ i (by omega),by omega,by omega,i+1,by omega,by omega,by omega,eo _ _ _ (by omega)⟩,fun h=>AU (by omega)⟩⟩
end Go.Sx
