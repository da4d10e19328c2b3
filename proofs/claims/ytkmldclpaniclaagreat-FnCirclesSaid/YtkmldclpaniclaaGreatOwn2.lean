/- Own2 -/
import Derived.Test.YtkmldclpaniclaaGreatTable
import Derived.Test.YtkmldclpaniclaaGreatMapC
set_option linter.unusedSimpArgs false
set_option linter.unusedVariables false
set_option linter.defProp false
open Go Go.Proofs
namespace Go.Sx
def ot:List AD->Option Post
 | [.c (.ints .i64 l)]=>some ⟨am l.length,.c (.ints 2 .i64 l),[]⟩
 |_=>none
theorem ur:Fits Tryz.prog 144 ⟨[],ot⟩:=by
 refine ffv (Γ:=ah []) aI Tryz.func144 fun ds p h ξ=>?_
 unfold ot at h;split at h<;>cases h
 rename_i l
 refine⟨aj,ar,am (([]:D1).length+l.length)/\[]++l=l/\True,by kernel_rfl,?_⟩
 simp only[aJ]at ξ⊢;simp[ξ]
theorem NO{n:Nat}{a b:D3}{c d:D1}(h:(dP n a b c d).2.2=true):gy n a b c d=some ((dP n a b c d).1,(dP n a b c d).2.1):=by
 unfold dP at h⊢;cases e:gy n a b c d with
 |none=>rw[e]at h;cases h
 |some x=>rfl
theorem NP{n:Nat}{a b:D3}{c d:D1}(h:(dP n a b c d).2.2=false):gy n a b c d=none:=by
 unfold dP at h;cases e:gy n a b c d with
 |none=>rfl
 |some x=>rw[e]at h;cases h
theorem Fk{n:Nat}{p:D1}(h:∀i,i<n->0<=p.getD i 0/\p.getD i 0<=60)(hp:p.length=n)(j:Nat):∀i,i<n->0<=(p.set j 60).getD i 0/\(p.set j 60).getD i 0<=60:=fun i hi=>by
 rw[iM _ _ _ _ (by omega)]
 split
 ·omega
 ·exact h i hi
theorem NQ{n:Nat}{f:D1}(h:∀i,i<f.length->0<=f.getD i 0/\f.getD i 0<(n:Int)){y:Nat}(hy:y<n):∀i,i<f.length+(0+1)->0<=(f++[(y:Int)]).getD i 0/\(f++[(y:Int)]).getD i 0<(n:Int):=fun i hi=>by
 by_cases q:i<f.length
 ·rw[getD_append_left' _ _ _ _ q];exact h i q
 ·rw[getD_append_right' _ _ _ _ (by omega),show i-f.length=0 by omega]
  simp;omega
def ou(d:Nat)(a:D3)(b:D3)(f:D1)(p:D1)(q:D1)(ζ:Int)(out:D2):Post:=⟨(f.length<=p.length/\p.length<d+f.length)/\1<=f.length/\a.length<=1000/\b.length=a.length/\p.length<=12/\q.length=p.length/\nT a=p.length/\bH p.length a/\bH p.length b/\(∀i,i<p.length->0<=p.getD i 0/\p.getD i 0<=60)/\(∀i,i<p.length->0<=q.getD i 0/\q.getD i 0<=60)/\(∀i,i<f.length->0<=f.getD i 0/\f.getD i 0<(p.length:Int))/\(out.length:Int)<ζ/\ζ<=1000000,.c (.rows 62 2 .i64 (dT p.length a b ζ.toNat (p.length-f.length) f p q out)),[.gone (.rows 62 2 .i64 out)]⟩
def pY(d:Nat):List AD->Option Post
 | [.c (.r3 .i64 a),.c (.r3 .i64 b),.c (.ints .i64 f),.c (.ints .i64 p),.c (.ints .i64 q),.c (.int .i64 ζ),.c (.rows .i64 out)]=>some (ou d a b f p q ζ out)
 |_=>none
def NR(d:Nat)(a:D3)(b:D3)(f:D1)(p:D1)(q:D1)(ζ:Int)(out:D2):Nat->Option Ann
 |0=>Q' fun y=>⟨⟨[(0,I' a),(1,I' b),(2,D' f),(3,D' p),(4,D' q),(5,A' ζ),(6,J' 796),(15,A' f.length),(16,A' y)],[(796,N' (dh (eC p.length a b ζ.toNat (dT p.length a b ζ.toNat (p.length-f.length-1)) f p q) out y))]⟩,y<=p.length/\f.length<p.length,p.length-y⟩
 |_=>none
def NS(d:Nat):List (Nat×Ctr):=[(144,⟨[],ot⟩),(182,⟨[],tX⟩),(176,⟨[],tQ⟩),(177,⟨[],tU⟩),(178,⟨[(6,0)],pY d⟩)]
def eJ(a:D3)(b:D3)(f:D1)(p:D1)(q:D1)(x0:Nat):=(dP ((List.set p ((↑(f.length):Int).toNat) (60:Int)).length) a b (List.set p ((↑(f.length):Int).toNat) (60:Int)) (List.set q (↑x0:Int).toNat (60:Int)))
def f9(a:D3)(b:D3)(f:D1)(p:D1)(q:D1)(ζ:Int):=(eC p.length a b ζ.toNat (dT p.length a b ζ.toNat (p.length-f.length-(1:Nat))) f p q)
def Fl(d:Nat)(a:D3)(b:D3)(f:D1)(p:D1)(q:D1)(ζ:Int)(out:D2):Prop :=
 ab ((f.length:Int) == (p.length:Int)) ((am f.length/\True)/\am (out.length+(f::([]:D2)).length)/\out++f::([]:D2)=dT p.length a b ζ.toNat (p.length-f.length) f p q out/\True) ((∃x0:Nat,(x0<=p.length/\f.length<p.length)/\a=a/\b=b/\f=f/\p=p/\q=q/\ζ=ζ/\(f.length:Int)=(f.length:Int)/\(0:Int)=(x0:Int)/\out=dh (f9 a b f p q ζ) out x0)/\∀x1:Nat,x1<=p.length/\f.length<p.length->ab (decide ((x1:Int)<(q.length:Int))) (ab (decide ((↑((dh (eC p.length a b ζ.toNat (dT p.length a b ζ.toNat (p.length-f.length-(1:Nat))) f p q) out x1).length):Int)<ζ)) ((am f.length/\True)/\am (f.length+[(x1:Int)].length)/\(f.length<=(1099511627776:Nat)/\True)/\ab (decide ((x1:Int)∈f)) (af ((x1:Int)+(1:Int))/\∃x2:Nat,(x2<=p.length/\f.length<p.length)/\p.length-x2<p.length-x1/\a=a/\b=b/\f=f/\p=p/\q=q/\ζ=ζ/\(f.length:Int)=(f.length:Int)/\(x1:Int)+(1:Int)=(x2:Int)/\dh (f9 a b f p q ζ) out x1=dh (f9 a b f p q ζ) out x2) (ac (f.length:Int) p.length/\ac (x1:Int) q.length/\ab (p.getD ((f.length:Int).toNat) (0:Int) != q.getD (x1:Int).toNat (0:Int)) (af ((x1:Int)+(1:Int))/\∃x3:Nat,(x3<=p.length/\f.length<p.length)/\p.length-x3<p.length-x1/\a=a/\b=b/\f=f/\p=p/\q=q/\ζ=ζ/\(f.length:Int)=(f.length:Int)/\(x1:Int)+(1:Int)=(x3:Int)/\dh (f9 a b f p q ζ) out x1=dh (f9 a b f p q ζ) out x3) (((a.length<=(1000:Nat)/\nT a<=(1000:Nat)/\(1:Nat)<=(f++[(x1:Int)]).length/\(f++[(x1:Int)]).length<=nT a/\b.length=a.length/\bH (nT a) a/\bH (nT a) b/\∀(i:Nat),i<(f++[(x1:Int)]).length->(0:Int)<=(f++[(x1:Int)]).getD i (0:Int)/\(f++[(x1:Int)]).getD i (0:Int)<(nT a:Int))/\True)/\ab (!dB a b (f++[(x1:Int)])) (af ((x1:Int)+(1:Int))/\∃x4:Nat,(x4<=p.length/\f.length<p.length)/\p.length-x4<p.length-x1/\a=a/\b=b/\f=f/\p=p/\q=q/\ζ=ζ/\(f.length:Int)=(f.length:Int)/\(x1:Int)+(1:Int)=(x4:Int)/\dh (f9 a b f p q ζ) out x1=dh (f9 a b f p q ζ) out x4) ((am p.length/\True)/\(am q.length/\True)/\ac (f.length:Int) p.length/\ac (x1:Int) q.length/\((a.length<=(1000:Nat)/\b.length=a.length/\(1:Nat)<=(List.set p ((f.length:Int).toNat) (60:Int)).length/\(List.set p ((f.length:Int).toNat) (60:Int)).length<=(12:Nat)/\(List.set q (x1:Int).toNat (60:Int)).length=(List.set p ((f.length:Int).toNat) (60:Int)).length/\bH ((List.set p ((f.length:Int).toNat) (60:Int)).length) a/\bH ((List.set p ((f.length:Int).toNat) (60:Int)).length) b/\(∀(i:Nat),i<(List.set p ((f.length:Int).toNat) (60:Int)).length->(0:Int)<=(List.set p ((f.length:Int).toNat) (60:Int)).getD i (0:Int)/\(List.set p ((f.length:Int).toNat) (60:Int)).getD i (0:Int)<=(60:Int))/\∀(i:Nat),i<(List.set p ((f.length:Int).toNat) (60:Int)).length->(0:Int)<=(List.set q (x1:Int).toNat (60:Int)).getD i (0:Int)/\(List.set q (x1:Int).toNat (60:Int)).getD i (0:Int)<=(60:Int))/\True)/\ab (((dP ((List.set p ((f.length:Int).toNat) (60:Int)).length) a b (List.set p ((f.length:Int).toNat) (60:Int)) (List.set q (x1:Int).toNat (60:Int))).2).2) (((((f++[(x1:Int)]).length<=((eJ a b f p q x1).1).length/\((eJ a b f p q x1).1).length<d+(f++[(x1:Int)]).length)/\(1:Nat)<=(f++[(x1:Int)]).length/\a.length<=(1000:Nat)/\b.length=a.length/\((eJ a b f p q x1).1).length<=(12:Nat)/\(((eJ a b f p q x1).2).1).length=((eJ a b f p q x1).1).length/\nT a=((eJ a b f p q x1).1).length/\bH (((eJ a b f p q x1).1).length) a/\bH (((eJ a b f p q x1).1).length) b/\(∀(i:Nat),i<((eJ a b f p q x1).1).length->(0:Int)<=((eJ a b f p q x1).1).getD i (0:Int)/\((eJ a b f p q x1).1).getD i (0:Int)<=(60:Int))/\(∀(i:Nat),i<((eJ a b f p q x1).1).length->(0:Int)<=(((eJ a b f p q x1).2).1).getD i (0:Int)/\(((eJ a b f p q x1).2).1).getD i (0:Int)<=(60:Int))/\(∀(i:Nat),i<(f++[(x1:Int)]).length->(0:Int)<=(f++[(x1:Int)]).getD i (0:Int)/\(f++[(x1:Int)]).getD i (0:Int)<(↑(((eJ a b f p q x1).1).length):Int))/\(↑((dh (f9 a b f p q ζ) out x1).length):Int)<ζ/\ζ<=(1000000:Int))/\True/\True)/\af ((x1:Int)+(1:Int))/\∃x5:Nat,(x5<=p.length/\f.length<p.length)/\p.length-x5<p.length-x1/\a=a/\b=b/\f=f/\p=p/\q=q/\ζ=ζ/\(f.length:Int)=(f.length:Int)/\(x1:Int)+(1:Int)=(x5:Int)/\dT (((eJ a b f p q x1).1).length) a b ζ.toNat (((eJ a b f p q x1).1).length-(f++[(x1:Int)]).length) (f++[(x1:Int)]) (eJ a b f p q x1).1 (((eJ a b f p q x1).2).1) (dh (f9 a b f p q ζ) out x1)=dh (f9 a b f p q ζ) out x5) (af ((x1:Int)+(1:Int))/\∃x6:Nat,(x6<=p.length/\f.length<p.length)/\p.length-x6<p.length-x1/\a=a/\b=b/\f=f/\p=p/\q=q/\ζ=ζ/\(f.length:Int)=(f.length:Int)/\(x1:Int)+(1:Int)=(x6:Int)/\dh (f9 a b f p q ζ) out x1=dh (f9 a b f p q ζ) out x6))))) (dh (f9 a b f p q ζ) out x1=dT p.length a b ζ.toNat (p.length-f.length) f p q out/\True)) (dh (f9 a b f p q ζ) out x1=dT p.length a b ζ.toNat (p.length-f.length) f p q out/\True))
theorem Wv(d:Nat)(a:D3)(b:D3)(f:D1)(p:D1)(q:D1)(ζ:Int)(out:D2):aM Tryz.prog (ah (NS d)) aj (NR (d+1) a b f p q ζ out) Tryz.f178 (aF Tryz.f178) [(6,0)] [.c (.r3 .i64 a),.c (.r3 .i64 b),.c (.ints .i64 f),.c (.ints .i64 p),.c (.ints .i64 q),.c (.int .i64 ζ),.c (.rows .i64 out)] (ou (d+1) a b f p q ζ out)=Fl d a b f p q ζ out:=by kernel_rfl
theorem Ww(d:Nat)(a:D3)(b:D3)(f:D1)(p:D1)(q:D1)(ζ:Int)(out:D2)(ξ:(ou (d+1) a b f p q ζ out).pre):Fl d a b f p q ζ out:=by
 simp only[ou,Fl,eJ,f9,aJ]at ξ⊢;obtain⟨⟨h1,h2⟩,h3,h4,h5,h6,h7,h8,h9,h10,h11,h12,h13,h14,h15⟩:=ξ;refine⟨fun e=>⟨by omega,by omega,?_⟩,fun e=>⟨⟨0,⟨by omega,by omega⟩,rfl,rfl⟩,fun y ⟨hy,hfl⟩=>⟨fun y2=>⟨fun ψ=>?_,fun ψ=>?_⟩,fun y2=>?_⟩⟩⟩
 ·rw[show p.length-f.length=0 by omega];rfl
 ·have hm:∀m,dh (eC p.length a b ζ.toNat (dT p.length a b ζ.toNat (p.length-f.length-1)) f p q) out y=m->dh (eC p.length a b ζ.toNat (dT p.length a b ζ.toNat (p.length-f.length-1)) f p q) out (y+1)=eC p.length a b ζ.toNat (dT p.length a b ζ.toNat (p.length-f.length-1)) f p q y m:=fun m e=>by rw[dh,e]
  generalize dh (eC p.length a b ζ.toNat (dT p.length a b ζ.toNat (p.length-f.length-1)) f p q) out y=o at *
  have hm:=hm o rfl
  have hlt2:o.length<ζ.toNat:=by omega
  have next:∀r,eC p.length a b ζ.toNat (dT p.length a b ζ.toNat (p.length-f.length-1)) f p q y o=r->r=dh (eC p.length a b ζ.toNat (dT p.length a b ζ.toNat (p.length-f.length-1)) f p q) out (y+1):=fun r e=>by rw[hm,e]
  refine⟨by omega,by omega,by omega,fun m=>⟨by omega,y+1,⟨by omega,by omega⟩,by omega,by omega,next _ ?_⟩,fun m=>⟨by omega,by omega,fun c=>⟨by omega,y+1,⟨by omega,by omega⟩,by omega,by omega,next _ ?_⟩,fun c=>⟨⟨h4,by omega,by omega,by omega,h5,by rw[h8];exact h9,by rw[h8];exact h10,by rw[h8];exact NQ h13 (by omega)⟩,fun g=>⟨by omega,y+1,⟨by omega,by omega⟩,by omega,by omega,next _ ?_⟩,fun g=>⟨by omega,by omega,by omega,by omega,⟨h4,h5,by omega,h6,h7,h9,h10,Fk h11 rfl _,Fk h12 h7 _⟩,fun r=>?_,fun r=>⟨by omega,y+1,⟨by omega,by omega⟩,by omega,by omega,next _ ?_⟩⟩⟩⟩⟩
  ·rw[eC,AA hlt2,AA (.inl m)]
  ·rw[eC,AA hlt2,AA (.inr (.inl c))]
  ·rw[eC,AA hlt2,AA (.inr (.inr g))]
  ·have ok:=NO r
   obtain⟨l1,l2,l3,l4⟩:=pN _ _ _ _ _ _ ok;rw[l1];refine⟨⟨⟨by omega,by omega⟩,by omega,h4,h5,h6,by omega,h8,h9,h10,fun i hi=>?_,fun i hi=>?_,NQ h13 (by omega),ψ,h15⟩,by omega,y+1,⟨by omega,by omega⟩,by omega,by omega,next _ ?_⟩
   ·have:=l3 i hi;omega
   ·have:=l4 i hi;omega
   ·rw[eC,AA hlt2,AB (by rintro(z|z|z);exact m z;exact z c;rw[g]at z;cases z),ok]
    simp only;rw[show p.length-f.length-1=p.length-(f.length+(0+1)) by omega]
  ·rw[eC,AA hlt2,AB (by rintro(z|z|z);exact m z;exact z c;rw[g]at z;cases z),NP r]
 ·rw[show p.length-f.length=(p.length-f.length-1)+1 by omega,dT]
  have:=L8 (n:=p.length) (a:=a) (b:=b) (ζ:=ζ.toNat) (rec:=dT p.length a b ζ.toNat (p.length-f.length-1)) (f:=f) (c:=p) (d:=q) (out:=out) (y:=y) (by omega) (p.length-y)
  rw[show y+(p.length-y)=p.length by omega]at this
  exact this.symm
 ·rw[show y=p.length by omega]
  generalize hk:p.length-f.length-1=k
  rw[show p.length-f.length=k+1 by omega];rfl
theorem Wx(a:D3)(b:D3)(f:D1)(p:D1)(q:D1)(ζ:Int)(out:D2)(h:(ou 0 a b f p q ζ out).pre):False:=by
 simp only[ou]at h;omega
theorem Wy(d:Nat):Fits Tryz.prog 178 ⟨[(6,0)],pY d⟩:=by
 induction d with
 |zero =>
  refine Q0 ⟨Tryz.f178,Tryz.func178,by kernel_rfl,by kernel_rfl⟩ (by decide) fun ds p h hp=>?_
  unfold pY at h;split at h
  ·cases h
   exact Wx _ _ _ _ _ _ _  hp
  ·cases h
 |succ d ih =>
  refine wT (Γ:=ah (NS d)) (aw ur (aw Mu (aw Mk (aw Mq (aw ih aI))))) Tryz.func178 (by kernel_rfl) (by kernel_rfl) (by kernel_rfl) fun ds p h hp=>?_
  unfold pY at h;split at h
  ·cases h
   exact⟨aj,NR _ _ _ _ _ _ _ _ ,by rw[Wv];exact Ww _ _ _ _ _ _ _ _  hp⟩
  ·cases h
def gX(a b:D3)(ζ:Int):D2:=if nT a=nT b then mz (nT a) a b ζ.toNat else []
theorem NT{n:Nat}(j:Nat):∀i,i<n->0<=((List.replicate n (0:Int)).set j 60).getD i 0/\((List.replicate n (0:Int)).set j 60).getD i 0<=60 :=
 Fk (fun i hi=>by simp[AP,hi]) (by simp) j
def Fm:List AD->Option Post
 | [.c (.r3 .i64 a),.c (.r3 .i64 b),.c (.ints .i64 f),.c (.int .i64 ζ)]=>some ⟨f=[0]/\1<=a.length/\a.length<=1000/\b.length=a.length/\1<=nT a/\nT a<=12/\bH (nT a) a/\bH (nT b) b/\1<=ζ/\ζ<=1000000,.c (.rows 62 2 .i64 (gX a b ζ)),[]⟩
 |_=>none
def cW(a:D3):=(List.replicate ((↑((a.getD (0:Nat) ([]:D2)).length):Int).toNat) (0:Int))
def eK(a:D3)(b:D3):=(dP ((List.set (cW a) (0:Nat) (60:Int)).length) a b (List.set (cW a) (0:Nat) (60:Int)) (List.set (cW a) (0:Nat) (60:Int)))
def eM(a:D3)(b:D3):=(dP (cW a).length a b (cW a) (cW a))
def kf(a:D3):=(↑((a.getD (0:Nat) ([]:D2)).length):Int)
theorem WB:Fits Tryz.prog 128 ⟨[],Fm⟩:=by
 refine ffv (Γ:=ah [(176,⟨[],tQ⟩),(177,⟨[],tU⟩),(178,⟨[(6,0)],pY 13⟩)]) (aw Mk (aw Mq (aw (Wy 13) aI))) Tryz.func128 fun ds p h ξ=>?_
 unfold Fm at h;split at h<;>cases h
 rename_i a b f ζ
 refine⟨aj,ar,ac (0:Int) a.length/\ac (0:Int) b.length/\ab ((↑((a.getD (0:Nat) ([]:D2)).length):Int) != (↑((b.getD (0:Nat) ([]:D2)).length):Int)) (([]:D2)=gX a b ζ/\True) (ac (0:Int) a.length/\((0:Int)<=(kf a)/\(kf a)<=(kf a)/\am (kf a).toNat)/\ac (0:Int) a.length/\((0:Int)<=(kf a)/\(kf a)<=(kf a)/\am (kf a).toNat)/\ab (decide ((0:Int)<(f.length:Int))) (((a.length<=(1000:Nat)/\nT a<=(1000:Nat)/\(1:Nat)<=f.length/\f.length<=nT a/\b.length=a.length/\bH (nT a) a/\bH (nT a) b/\∀(i:Nat),i<f.length->(0:Int)<=f.getD i (0:Int)/\f.getD i (0:Int)<(nT a:Int))/\True)/\ab (!dB a b f) (([]:D2)=gX a b ζ/\True) (ac (0:Int) (cW a).length/\ac (0:Int) (cW a).length/\((a.length<=(1000:Nat)/\b.length=a.length/\(1:Nat)<=(List.set (cW a) (0:Nat) (60:Int)).length/\(List.set (cW a) (0:Nat) (60:Int)).length<=(12:Nat)/\(List.set (cW a) (0:Nat) (60:Int)).length=(List.set (cW a) (0:Nat) (60:Int)).length/\bH ((List.set (cW a) (0:Nat) (60:Int)).length) a/\bH ((List.set (cW a) (0:Nat) (60:Int)).length) b/\(∀(i:Nat),i<(List.set (cW a) (0:Nat) (60:Int)).length->(0:Int)<=(List.set (cW a) (0:Nat) (60:Int)).getD i (0:Int)/\(List.set (cW a) (0:Nat) (60:Int)).getD i (0:Int)<=(60:Int))/\∀(i:Nat),i<(List.set (cW a) (0:Nat) (60:Int)).length->(0:Int)<=(List.set (cW a) (0:Nat) (60:Int)).getD i (0:Int)/\(List.set (cW a) (0:Nat) (60:Int)).getD i (0:Int)<=(60:Int))/\True)/\ab (!((dP ((List.set (List.replicate ((↑((a.getD (0:Nat) ([]:D2)).length):Int).toNat) (0:Int)) (0:Nat) (60:Int)).length) a b (List.set (List.replicate ((↑((a.getD (0:Nat) ([]:D2)).length):Int).toNat) (0:Int)) (0:Nat) (60:Int)) (List.set (List.replicate ((↑((a.getD (0:Nat) ([]:D2)).length):Int).toNat) (0:Int)) (0:Nat) (60:Int))).2).2) (([]:D2)=gX a b ζ/\True) ((((f.length<=((eK a b).1).length/\((eK a b).1).length<(13:Nat)+f.length)/\(1:Nat)<=f.length/\a.length<=(1000:Nat)/\b.length=a.length/\((eK a b).1).length<=(12:Nat)/\(((eK a b).2).1).length=((eK a b).1).length/\nT a=((eK a b).1).length/\bH (((eK a b).1).length) a/\bH (((eK a b).1).length) b/\(∀(i:Nat),i<((eK a b).1).length->(0:Int)<=((eK a b).1).getD i (0:Int)/\((eK a b).1).getD i (0:Int)<=(60:Int))/\(∀(i:Nat),i<((eK a b).1).length->(0:Int)<=(((eK a b).2).1).getD i (0:Int)/\(((eK a b).2).1).getD i (0:Int)<=(60:Int))/\(∀(i:Nat),i<f.length->(0:Int)<=f.getD i (0:Int)/\f.getD i (0:Int)<(↑(((eK a b).1).length):Int))/\(↑(([]:D2).length):Int)<ζ/\ζ<=(1000000:Int))/\True/\True)/\dT (((eK a b).1).length) a b ζ.toNat (((eK a b).1).length-f.length) f (eK a b).1 (((eK a b).2).1) ([]:D2)=gX a b ζ/\True))) (((a.length<=(1000:Nat)/\b.length=a.length/\(1:Nat)<=(cW a).length/\(cW a).length<=(12:Nat)/\(cW a).length=(cW a).length/\bH (cW a).length a/\bH (cW a).length b/\(∀(i:Nat),i<(cW a).length->(0:Int)<=(cW a).getD i (0:Int)/\(cW a).getD i (0:Int)<=(60:Int))/\∀(i:Nat),i<(cW a).length->(0:Int)<=(cW a).getD i (0:Int)/\(cW a).getD i (0:Int)<=(60:Int))/\True)/\ab (!((dP ((List.replicate ((↑((a.getD (0:Nat) ([]:D2)).length):Int).toNat) (0:Int)).length) a b (List.replicate ((↑((a.getD (0:Nat) ([]:D2)).length):Int).toNat) (0:Int)) (List.replicate ((↑((a.getD (0:Nat) ([]:D2)).length):Int).toNat) (0:Int))).2).2) (([]:D2)=gX a b ζ/\True) ((((f.length<=((eM a b).1).length/\((eM a b).1).length<(13:Nat)+f.length)/\(1:Nat)<=f.length/\a.length<=(1000:Nat)/\b.length=a.length/\((eM a b).1).length<=(12:Nat)/\(((eM a b).2).1).length=((eM a b).1).length/\nT a=((eM a b).1).length/\bH (((eM a b).1).length) a/\bH (((eM a b).1).length) b/\(∀(i:Nat),i<((eM a b).1).length->(0:Int)<=((eM a b).1).getD i (0:Int)/\((eM a b).1).getD i (0:Int)<=(60:Int))/\(∀(i:Nat),i<((eM a b).1).length->(0:Int)<=(((eM a b).2).1).getD i (0:Int)/\(((eM a b).2).1).getD i (0:Int)<=(60:Int))/\(∀(i:Nat),i<f.length->(0:Int)<=f.getD i (0:Int)/\f.getD i (0:Int)<(↑(((eM a b).1).length):Int))/\(↑(([]:D2).length):Int)<ζ/\ζ<=(1000000:Int))/\True/\True)/\dT (((eM a b).1).length) a b ζ.toNat (((eM a b).1).length-f.length) f (eM a b).1 (((eM a b).2).1) ([]:D2)=gX a b ζ/\True))),by kernel_rfl,?_⟩
 simp only[cW,eK,eM,kf,aJ]at ξ⊢;obtain⟨rfl,h1,h2,h3,h4,h5,h6,h7,h8,h9⟩:=ξ;have ea:(a.getD 0 []).length=nT a:=rfl
 have eb:(b.getD 0 []).length=nT b:=rfl
 simp only[ea,eb,AS,Bn];refine⟨by omega,by omega,fun q=>?_,fun q=>?_⟩
 ·rw[gX,AB (by omega)]
 have e:nT a=nT b:=by omega
 rw[<-e]at h7;have R:gX a b ζ=mz (nT a) a b ζ.toNat:=AA e
 rw[R];refine⟨by omega,by omega,by omega,by omega,fun _=>⟨⟨h2,by omega,by omega,by omega,h3,h6,h7,fun i hi=>?_⟩,fun z=>?_,fun z=>⟨by omega,by omega,⟨h2,h3,h4,h5,h6,h7,NT 0,NT 0⟩,fun y=>?_,fun y=>?_⟩⟩,fun z=>absurd z (by omega)⟩
 ·have:i=0:=by omega
  subst this;simp;omega
 ·rw[mz,AA z]
 ·rw[mz,AB (by rw[z];simp),NP y]
 ·have ok:=NO y
  obtain⟨l1,l2,l3,l4⟩:=pN _ _ _ _ _ _ ok;rw[l1];refine⟨⟨⟨by omega,by omega⟩,by omega,h2,h3,h5,by omega,rfl,h6,h7,fun i hi=>?_,fun i hi=>?_,fun i hi=>?_,by omega,by omega⟩,?_⟩
  ·have:=l3 i hi;omega
  ·have:=l4 i hi;omega
  ·have:i=0:=by omega
   subst this;simp;omega
  ·rw[mz,AB (by rw[z];simp),ok]
def Fo:List AD->Option Post
 | [.c (.rows .i64 t)]=>some ⟨aS t,.c (.rows 62 2 .i64 t),[]⟩
 |_=>none
def NV(t:D2):Nat->Option Ann
 |0=>Q' fun i=>⟨⟨[(0,G' t),(3,J' 5),(4,A' i)],[(5,N' (t.take i))]⟩,i<=t.length,t.length-i⟩
 |_=>none
theorem WE:Fits Tryz.prog 96 ⟨[],Fo⟩:=by
 refine ffv (Γ:=ah [(144,⟨[],ot⟩)]) (aw ur aI) Tryz.func96 fun ds p h ξ=>?_
 unfold Fo at h;split at h<;>cases h
 rename_i t
 refine⟨aj,NV t,(∃x0:Nat,x0<=t.length/\t=t/\(0:Int)=(x0:Int)/\([]:D2)=List.take x0 t)/\∀x1:Nat,x1<=t.length->ab (decide ((x1:Int)<(t.length:Int))) (ac (x1:Int) t.length/\(am ((t.getD (x1:Int).toNat []).length)/\True)/\am ((List.take x1 t).length+(t.getD (x1:Int).toNat []::([]:D2)).length)/\af ((x1:Int)+(1:Int))/\∃x2:Nat,x2<=t.length/\t.length-x2<t.length-x1/\t=t/\(x1:Int)+(1:Int)=(x2:Int)/\List.take x1 t++t.getD (x1:Int).toNat []::([]:D2)=List.take x2 t) (List.take x1 t=t/\True),by kernel_rfl,?_⟩
 simp only[aJ]at ξ⊢;have h1:=ξ.1
 refine⟨⟨0,by omega,rfl,by simp⟩,fun i hi=>⟨fun h=>⟨by omega,ae4 ξ i (by omega),by omega,by omega,i+1,by omega,by omega,by omega,dZ _ _ _ (by omega)⟩,fun h=>AU (by omega)⟩⟩
end Go.Sx
