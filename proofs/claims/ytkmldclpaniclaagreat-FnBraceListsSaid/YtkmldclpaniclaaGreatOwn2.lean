/- Own2 -/
import Derived.Test.YtkmldclpaniclaaGreatTable
import Derived.Test.YtkmldclpaniclaaGreatMapC
set_option linter.unusedSimpArgs false
set_option linter.unusedVariables false
set_option linter.defProp false
open Go Go.Proofs
namespace Go.Sx
def nq:List AD->Option Post
 | [.c (.ints .i64 l)]=>some ⟨au l.length,.c (.ints 2 .i64 l),[]⟩
 |_=>none
def rt:Fits Tryz.prog 144 ⟨[],nq⟩:=by
 refine ffv (Γ:=ah []) aN Tryz.func144 λds p h ξ=>?_
 unfold nq at h;split at h<;>cases h
 rename_i l
 refine⟨aj,ar,au (([]:D6).length+l.length)/\[]++l=l/\True,by kernel_rfl,?_⟩
 simp only[aO]at ξ⊢;simp[ξ]
def Q9{n:Nat}{a b:D8}{c d:D6}(h:(d7 n a b c d).2.2=true):gR n a b c d=some ((d7 n a b c d).1,(d7 n a b c d).2.1):=by
 unfold d7 at h⊢;cases e:gR n a b c d with
 |none=>rw[e]at h;cases h
 |some x=>rfl
def Ra{n:Nat}{a b:D8}{c d:D6}(h:(d7 n a b c d).2.2=false):gR n a b c d=none:=by
 unfold d7 at h;cases e:gR n a b c d with
 |none=>rfl
 |some x=>rw[e]at h;cases h
def HJ{n:Nat}{p:D6}(h:∀i,i<n->0<=p.getD i 0/\p.getD i 0<=60)(hp:p.length=n)(j:Nat):∀i,i<n->0<=(p.set j 60).getD i 0/\(p.set j 60).getD i 0<=60:=λi hi=>by
 rw[jb _ _ _ _ (by omega)]
 split
 ·omega
 ·exact h i hi
def Rb{n:Nat}{f:D6}(h:∀i,i<f.length->0<=f.getD i 0/\f.getD i 0<(n:Int)){y:Nat}(hy:y<n):∀i,i<f.length+(0+1)->0<=(f++[(y:Int)]).getD i 0/\(f++[(y:Int)]).getD i 0<(n:Int):=λi hi=>by
 by_cases q:i<f.length
 ·rw[getD_append_left' _ _ _ _ q];exact h i q
 ·rw[getD_append_right' _ _ _ _ (by omega),show i-f.length=0 by omega]
  simp;omega
def pq(d:Nat)(a:D8)(b:D8)(f:D6)(p:D6)(q:D6)(ζ:Int)(out:D7):Post:=⟨(f.length<=p.length/\p.length<d+f.length)/\1<=f.length/\a.length<=1000/\b.length=a.length/\p.length<=12/\q.length=p.length/\nT a=p.length/\bK p.length a/\bK p.length b/\(∀i,i<p.length->0<=p.getD i 0/\p.getD i 0<=60)/\(∀i,i<p.length->0<=q.getD i 0/\q.getD i 0<=60)/\(∀i,i<f.length->0<=f.getD i 0/\f.getD i 0<(p.length:Int))/\(out.length:Int)<ζ/\ζ<=1000000,.c (.rows 62 2 .i64 (em p.length a b ζ.toNat (p.length-f.length) f p q out)),[.gone (.rows 62 2 .i64 out)]⟩
def rx(d:Nat):List AD->Option Post
 | [.c (.r3 .i64 a),.c (.r3 .i64 b),.c (.ints .i64 f),.c (.ints .i64 p),.c (.ints .i64 q),.c (.int .i64 ζ),.c (.rows .i64 out)]=>some (pq d a b f p q ζ out)
 |_=>none
def Rc(d:Nat)(a:D8)(b:D8)(f:D6)(p:D6)(q:D6)(ζ:Int)(out:D7):Nat->Option Ann
 |0=>Q' λy=>⟨⟨[(0,I' a),(1,I' b),(2,D' f),(3,D' p),(4,D' q),(5,A' ζ),(6,J' 796),(15,A' f.length),(16,A' y)],[(796,N' (dA (eU p.length a b ζ.toNat (em p.length a b ζ.toNat (p.length-f.length-1)) f p q) out y))]⟩,y<=p.length/\f.length<p.length,p.length-y⟩
 |_=>none
def Re(d:Nat):List (Nat×Ctr):=[(144,⟨[],nq⟩),(182,⟨[],vQ⟩),(176,⟨[],vJ⟩),(177,⟨[],vM⟩),(178,⟨[(6,0)],rx d⟩)]
def fe(a:D8)(b:D8)(f:D6)(p:D6)(q:D6)(x0:Nat):=(d7 ((List.set p ((↑(f.length):Int).toNat) (60:Int)).length) a b (List.set p ((↑(f.length):Int).toNat) (60:Int)) (List.set q (↑x0:Int).toNat (60:Int)))
def gw(a:D8)(b:D8)(f:D6)(p:D6)(q:D6)(ζ:Int):=(eU p.length a b ζ.toNat (em p.length a b ζ.toNat (p.length-f.length-(1:Nat))) f p q)
def HK(d:Nat)(a:D8)(b:D8)(f:D6)(p:D6)(q:D6)(ζ:Int)(out:D7):Prop :=
 ab ((f.length:Int) == (p.length:Int)) ((au f.length/\True)/\au (out.length+(f::([]:D7)).length)/\out++f::([]:D7)=em p.length a b ζ.toNat (p.length-f.length) f p q out/\True) ((∃x0:Nat,(x0<=p.length/\f.length<p.length)/\a=a/\b=b/\f=f/\p=p/\q=q/\ζ=ζ/\(f.length:Int)=(f.length:Int)/\(0:Int)=(x0:Int)/\out=dA (gw a b f p q ζ) out x0)/\∀x1:Nat,x1<=p.length/\f.length<p.length->ab (decide ((x1:Int)<(q.length:Int))) (ab (decide ((↑((dA (eU p.length a b ζ.toNat (em p.length a b ζ.toNat (p.length-f.length-(1:Nat))) f p q) out x1).length):Int)<ζ)) ((au f.length/\True)/\au (f.length+[(x1:Int)].length)/\(f.length<=(1099511627776:Nat)/\True)/\ab (decide ((x1:Int)∈f)) (ae ((x1:Int)+(1:Int))/\∃x2:Nat,(x2<=p.length/\f.length<p.length)/\p.length-x2<p.length-x1/\a=a/\b=b/\f=f/\p=p/\q=q/\ζ=ζ/\(f.length:Int)=(f.length:Int)/\(x1:Int)+(1:Int)=(x2:Int)/\dA (gw a b f p q ζ) out x1=dA (gw a b f p q ζ) out x2) (ac (f.length:Int) p.length/\ac (x1:Int) q.length/\ab (p.getD ((f.length:Int).toNat) (0:Int) != q.getD (x1:Int).toNat (0:Int)) (ae ((x1:Int)+(1:Int))/\∃x3:Nat,(x3<=p.length/\f.length<p.length)/\p.length-x3<p.length-x1/\a=a/\b=b/\f=f/\p=p/\q=q/\ζ=ζ/\(f.length:Int)=(f.length:Int)/\(x1:Int)+(1:Int)=(x3:Int)/\dA (gw a b f p q ζ) out x1=dA (gw a b f p q ζ) out x3) (((a.length<=(1000:Nat)/\nT a<=(1000:Nat)/\(1:Nat)<=(f++[(x1:Int)]).length/\(f++[(x1:Int)]).length<=nT a/\b.length=a.length/\bK (nT a) a/\bK (nT a) b/\∀(i:Nat),i<(f++[(x1:Int)]).length->(0:Int)<=(f++[(x1:Int)]).getD i (0:Int)/\(f++[(x1:Int)]).getD i (0:Int)<(nT a:Int))/\True)/\ab (!dV a b (f++[(x1:Int)])) (ae ((x1:Int)+(1:Int))/\∃x4:Nat,(x4<=p.length/\f.length<p.length)/\p.length-x4<p.length-x1/\a=a/\b=b/\f=f/\p=p/\q=q/\ζ=ζ/\(f.length:Int)=(f.length:Int)/\(x1:Int)+(1:Int)=(x4:Int)/\dA (gw a b f p q ζ) out x1=dA (gw a b f p q ζ) out x4) ((au p.length/\True)/\(au q.length/\True)/\ac (f.length:Int) p.length/\ac (x1:Int) q.length/\((a.length<=(1000:Nat)/\b.length=a.length/\(1:Nat)<=(List.set p ((f.length:Int).toNat) (60:Int)).length/\(List.set p ((f.length:Int).toNat) (60:Int)).length<=(12:Nat)/\(List.set q (x1:Int).toNat (60:Int)).length=(List.set p ((f.length:Int).toNat) (60:Int)).length/\bK ((List.set p ((f.length:Int).toNat) (60:Int)).length) a/\bK ((List.set p ((f.length:Int).toNat) (60:Int)).length) b/\(∀(i:Nat),i<(List.set p ((f.length:Int).toNat) (60:Int)).length->(0:Int)<=(List.set p ((f.length:Int).toNat) (60:Int)).getD i (0:Int)/\(List.set p ((f.length:Int).toNat) (60:Int)).getD i (0:Int)<=(60:Int))/\∀(i:Nat),i<(List.set p ((f.length:Int).toNat) (60:Int)).length->(0:Int)<=(List.set q (x1:Int).toNat (60:Int)).getD i (0:Int)/\(List.set q (x1:Int).toNat (60:Int)).getD i (0:Int)<=(60:Int))/\True)/\ab (((d7 ((List.set p ((f.length:Int).toNat) (60:Int)).length) a b (List.set p ((f.length:Int).toNat) (60:Int)) (List.set q (x1:Int).toNat (60:Int))).2).2) (((((f++[(x1:Int)]).length<=((fe a b f p q x1).1).length/\((fe a b f p q x1).1).length<d+(f++[(x1:Int)]).length)/\(1:Nat)<=(f++[(x1:Int)]).length/\a.length<=(1000:Nat)/\b.length=a.length/\((fe a b f p q x1).1).length<=(12:Nat)/\(((fe a b f p q x1).2).1).length=((fe a b f p q x1).1).length/\nT a=((fe a b f p q x1).1).length/\bK (((fe a b f p q x1).1).length) a/\bK (((fe a b f p q x1).1).length) b/\(∀(i:Nat),i<((fe a b f p q x1).1).length->(0:Int)<=((fe a b f p q x1).1).getD i (0:Int)/\((fe a b f p q x1).1).getD i (0:Int)<=(60:Int))/\(∀(i:Nat),i<((fe a b f p q x1).1).length->(0:Int)<=(((fe a b f p q x1).2).1).getD i (0:Int)/\(((fe a b f p q x1).2).1).getD i (0:Int)<=(60:Int))/\(∀(i:Nat),i<(f++[(x1:Int)]).length->(0:Int)<=(f++[(x1:Int)]).getD i (0:Int)/\(f++[(x1:Int)]).getD i (0:Int)<(↑(((fe a b f p q x1).1).length):Int))/\(↑((dA (gw a b f p q ζ) out x1).length):Int)<ζ/\ζ<=(1000000:Int))/\True/\True)/\ae ((x1:Int)+(1:Int))/\∃x5:Nat,(x5<=p.length/\f.length<p.length)/\p.length-x5<p.length-x1/\a=a/\b=b/\f=f/\p=p/\q=q/\ζ=ζ/\(f.length:Int)=(f.length:Int)/\(x1:Int)+(1:Int)=(x5:Int)/\em (((fe a b f p q x1).1).length) a b ζ.toNat (((fe a b f p q x1).1).length-(f++[(x1:Int)]).length) (f++[(x1:Int)]) (fe a b f p q x1).1 (((fe a b f p q x1).2).1) (dA (gw a b f p q ζ) out x1)=dA (gw a b f p q ζ) out x5) (ae ((x1:Int)+(1:Int))/\∃x6:Nat,(x6<=p.length/\f.length<p.length)/\p.length-x6<p.length-x1/\a=a/\b=b/\f=f/\p=p/\q=q/\ζ=ζ/\(f.length:Int)=(f.length:Int)/\(x1:Int)+(1:Int)=(x6:Int)/\dA (gw a b f p q ζ) out x1=dA (gw a b f p q ζ) out x6))))) (dA (gw a b f p q ζ) out x1=em p.length a b ζ.toNat (p.length-f.length) f p q out/\True)) (dA (gw a b f p q ζ) out x1=em p.length a b ζ.toNat (p.length-f.length) f p q out/\True))
def ah1(d:Nat)(a:D8)(b:D8)(f:D6)(p:D6)(q:D6)(ζ:Int)(out:D7):aP Tryz.prog (ah (Re d)) aj (Rc (d+1) a b f p q ζ out) Tryz.f178 (aI Tryz.f178) [(6,0)] [.c (.r3 .i64 a),.c (.r3 .i64 b),.c (.ints .i64 f),.c (.ints .i64 p),.c (.ints .i64 q),.c (.int .i64 ζ),.c (.rows .i64 out)] (pq (d+1) a b f p q ζ out)=HK d a b f p q ζ out:=by kernel_rfl
def ah2(d:Nat)(a:D8)(b:D8)(f:D6)(p:D6)(q:D6)(ζ:Int)(out:D7)(ξ:(pq (d+1) a b f p q ζ out).pre):HK d a b f p q ζ out:=by
 simp only[pq,HK,fe,gw,aO]at ξ⊢;obtain⟨⟨h1,h2⟩,h3,h4,h5,h6,h7,h8,h9,h10,h11,h12,h13,h14,h15⟩:=ξ;refine⟨λe=>⟨by omega,by omega,?_⟩,λe=>⟨⟨0,⟨by omega,by omega⟩,rfl,rfl⟩,λy ⟨hy,hfl⟩=>⟨λy2=>⟨fun ψ=>?_,fun ψ=>?_⟩,λy2=>?_⟩⟩⟩
 ·rw[show p.length-f.length=0 by omega];rfl
 ·have hm:∀m,dA (eU p.length a b ζ.toNat (em p.length a b ζ.toNat (p.length-f.length-1)) f p q) out y=m->dA (eU p.length a b ζ.toNat (em p.length a b ζ.toNat (p.length-f.length-1)) f p q) out (y+1)=eU p.length a b ζ.toNat (em p.length a b ζ.toNat (p.length-f.length-1)) f p q y m:=λm e=>by rw[dA,e]
  generalize dA (eU p.length a b ζ.toNat (em p.length a b ζ.toNat (p.length-f.length-1)) f p q) out y=o at *
  have hm:=hm o rfl
  have hlt2:o.length<ζ.toNat:=by omega
  have next:∀r,eU p.length a b ζ.toNat (em p.length a b ζ.toNat (p.length-f.length-1)) f p q y o=r->r=dA (eU p.length a b ζ.toNat (em p.length a b ζ.toNat (p.length-f.length-1)) f p q) out (y+1):=λr e=>by rw[hm,e]
  refine⟨by omega,by omega,by omega,λm=>⟨by omega,y+1,⟨by omega,by omega⟩,by omega,by omega,next _ ?_⟩,λm=>⟨by omega,by omega,λc=>⟨by omega,y+1,⟨by omega,by omega⟩,by omega,by omega,next _ ?_⟩,λc=>⟨⟨h4,by omega,by omega,by omega,h5,by rw[h8];exact h9,by rw[h8];exact h10,by rw[h8];exact Rb h13 (by omega)⟩,λg=>⟨by omega,y+1,⟨by omega,by omega⟩,by omega,by omega,next _ ?_⟩,λg=>⟨by omega,by omega,by omega,by omega,⟨h4,h5,by omega,h6,h7,h9,h10,HJ h11 rfl _,HJ h12 h7 _⟩,λr=>?_,λr=>⟨by omega,y+1,⟨by omega,by omega⟩,by omega,by omega,next _ ?_⟩⟩⟩⟩⟩
  ·rw[eU,AA hlt2,AA (.inl m)]
  ·rw[eU,AA hlt2,AA (.inr (.inl c))]
  ·rw[eU,AA hlt2,AA (.inr (.inr g))]
  ·have ok:=Q9 r
   obtain⟨l1,l2,l3,l4⟩:=qO _ _ _ _ _ _ ok;rw[l1];refine⟨⟨⟨by omega,by omega⟩,by omega,h4,h5,h6,by omega,h8,h9,h10,λi hi=>?_,λi hi=>?_,Rb h13 (by omega),ψ,h15⟩,by omega,y+1,⟨by omega,by omega⟩,by omega,by omega,next _ ?_⟩
   ·have:=l3 i hi;omega
   ·have:=l4 i hi;omega
   ·rw[eU,AA hlt2,AB (by rintro(z|z|z);exact m z;exact z c;rw[g]at z;cases z),ok]
    simp only;rw[show p.length-f.length-1=p.length-(f.length+(0+1)) by omega]
  ·rw[eU,AA hlt2,AB (by rintro(z|z|z);exact m z;exact z c;rw[g]at z;cases z),Ra r]
 ·rw[show p.length-f.length=(p.length-f.length-1)+1 by omega,em]
  have:=OU (n:=p.length) (a:=a) (b:=b) (ζ:=ζ.toNat) (rec:=em p.length a b ζ.toNat (p.length-f.length-1)) (f:=f) (c:=p) (d:=q) (out:=out) (y:=y) (by omega) (p.length-y)
  rw[show y+(p.length-y)=p.length by omega]at this
  exact this.symm
 ·rw[show y=p.length by omega]
  generalize hk:p.length-f.length-1=k
  rw[show p.length-f.length=k+1 by omega];rfl
def ah3(a:D8)(b:D8)(f:D6)(p:D6)(q:D6)(ζ:Int)(out:D7)(h:(pq 0 a b f p q ζ out).pre):False:=by
 simp only[pq]at h;omega
def ah4(d:Nat):Fits Tryz.prog 178 ⟨[(6,0)],rx d⟩:=by
 induction d with
 |zero =>
  refine yM ⟨Tryz.f178,Tryz.func178,by kernel_rfl,by kernel_rfl⟩ (by decide) λds p h hp=>?_
  unfold rx at h;split at h
  ·cases h
   exact ah3 _ _ _ _ _ _ _  hp
  ·cases h
 |succ d ih =>
  refine qe (Γ:=ah (Re d)) (aq rt (aq Pl (aq Pa (aq Pg (aq ih aN))))) Tryz.func178 (by kernel_rfl) (by kernel_rfl) (by kernel_rfl) λds p h hp=>?_
  unfold rx at h;split at h
  ·cases h
   exact⟨aj,Rc _ _ _ _ _ _ _ _ ,by rw[ah1];exact ah2 _ _ _ _ _ _ _ _  hp⟩
  ·cases h
def dG(a b:D8)(ζ:Int):D7:=if nT a=nT b then m9 (nT a) a b ζ.toNat else []
def Rf{n:Nat}(j:Nat):∀i,i<n->0<=((List.replicate n (0:Int)).set j 60).getD i 0/\((List.replicate n (0:Int)).set j 60).getD i 0<=60 :=
 HJ (λi hi=>by simp[AM,hi]) (by simp) j
def wP:List AD->Option Post
 | [.c (.r3 .i64 a),.c (.r3 .i64 b),.c (.ints .i64 f),.c (.int .i64 ζ)]=>some ⟨f=[0]/\1<=a.length/\a.length<=1000/\b.length=a.length/\1<=nT a/\nT a<=12/\bK (nT a) a/\bK (nT b) b/\1<=ζ/\ζ<=1000000,.c (.rows 62 2 .i64 (dG a b ζ)),[]⟩
 |_=>none
def di(a:D8):=(List.replicate ((↑((a.getD (0:Nat) ([]:D7)).length):Int).toNat) (0:Int))
def ff(a:D8)(b:D8):=(d7 ((List.set (di a) (0:Nat) (60:Int)).length) a b (List.set (di a) (0:Nat) (60:Int)) (List.set (di a) (0:Nat) (60:Int)))
def fg(a:D8)(b:D8):=(d7 (di a).length a b (di a) (di a))
def kW(a:D8):=(↑((a.getD (0:Nat) ([]:D7)).length):Int)
def Rh:Fits Tryz.prog 128 ⟨[],wP⟩:=by
 refine ffv (Γ:=ah [(176,⟨[],vJ⟩),(177,⟨[],vM⟩),(178,⟨[(6,0)],rx 13⟩)]) (aq Pa (aq Pg (aq (ah4 13) aN))) Tryz.func128 λds p h ξ=>?_
 unfold wP at h;split at h<;>cases h
 rename_i a b f ζ
 refine⟨aj,ar,ac (0:Int) a.length/\ac (0:Int) b.length/\ab ((↑((a.getD (0:Nat) ([]:D7)).length):Int) != (↑((b.getD (0:Nat) ([]:D7)).length):Int)) (([]:D7)=dG a b ζ/\True) (ac (0:Int) a.length/\((0:Int)<=(kW a)/\(kW a)<=(kW a)/\au (kW a).toNat)/\ac (0:Int) a.length/\((0:Int)<=(kW a)/\(kW a)<=(kW a)/\au (kW a).toNat)/\ab (decide ((0:Int)<(f.length:Int))) (((a.length<=(1000:Nat)/\nT a<=(1000:Nat)/\(1:Nat)<=f.length/\f.length<=nT a/\b.length=a.length/\bK (nT a) a/\bK (nT a) b/\∀(i:Nat),i<f.length->(0:Int)<=f.getD i (0:Int)/\f.getD i (0:Int)<(nT a:Int))/\True)/\ab (!dV a b f) (([]:D7)=dG a b ζ/\True) (ac (0:Int) (di a).length/\ac (0:Int) (di a).length/\((a.length<=(1000:Nat)/\b.length=a.length/\(1:Nat)<=(List.set (di a) (0:Nat) (60:Int)).length/\(List.set (di a) (0:Nat) (60:Int)).length<=(12:Nat)/\(List.set (di a) (0:Nat) (60:Int)).length=(List.set (di a) (0:Nat) (60:Int)).length/\bK ((List.set (di a) (0:Nat) (60:Int)).length) a/\bK ((List.set (di a) (0:Nat) (60:Int)).length) b/\(∀(i:Nat),i<(List.set (di a) (0:Nat) (60:Int)).length->(0:Int)<=(List.set (di a) (0:Nat) (60:Int)).getD i (0:Int)/\(List.set (di a) (0:Nat) (60:Int)).getD i (0:Int)<=(60:Int))/\∀(i:Nat),i<(List.set (di a) (0:Nat) (60:Int)).length->(0:Int)<=(List.set (di a) (0:Nat) (60:Int)).getD i (0:Int)/\(List.set (di a) (0:Nat) (60:Int)).getD i (0:Int)<=(60:Int))/\True)/\ab (!((d7 ((List.set (List.replicate ((↑((a.getD (0:Nat) ([]:D7)).length):Int).toNat) (0:Int)) (0:Nat) (60:Int)).length) a b (List.set (List.replicate ((↑((a.getD (0:Nat) ([]:D7)).length):Int).toNat) (0:Int)) (0:Nat) (60:Int)) (List.set (List.replicate ((↑((a.getD (0:Nat) ([]:D7)).length):Int).toNat) (0:Int)) (0:Nat) (60:Int))).2).2) (([]:D7)=dG a b ζ/\True) ((((f.length<=((ff a b).1).length/\((ff a b).1).length<(13:Nat)+f.length)/\(1:Nat)<=f.length/\a.length<=(1000:Nat)/\b.length=a.length/\((ff a b).1).length<=(12:Nat)/\(((ff a b).2).1).length=((ff a b).1).length/\nT a=((ff a b).1).length/\bK (((ff a b).1).length) a/\bK (((ff a b).1).length) b/\(∀(i:Nat),i<((ff a b).1).length->(0:Int)<=((ff a b).1).getD i (0:Int)/\((ff a b).1).getD i (0:Int)<=(60:Int))/\(∀(i:Nat),i<((ff a b).1).length->(0:Int)<=(((ff a b).2).1).getD i (0:Int)/\(((ff a b).2).1).getD i (0:Int)<=(60:Int))/\(∀(i:Nat),i<f.length->(0:Int)<=f.getD i (0:Int)/\f.getD i (0:Int)<(↑(((ff a b).1).length):Int))/\(↑(([]:D7).length):Int)<ζ/\ζ<=(1000000:Int))/\True/\True)/\em (((ff a b).1).length) a b ζ.toNat (((ff a b).1).length-f.length) f (ff a b).1 (((ff a b).2).1) ([]:D7)=dG a b ζ/\True))) (((a.length<=(1000:Nat)/\b.length=a.length/\(1:Nat)<=(di a).length/\(di a).length<=(12:Nat)/\(di a).length=(di a).length/\bK (di a).length a/\bK (di a).length b/\(∀(i:Nat),i<(di a).length->(0:Int)<=(di a).getD i (0:Int)/\(di a).getD i (0:Int)<=(60:Int))/\∀(i:Nat),i<(di a).length->(0:Int)<=(di a).getD i (0:Int)/\(di a).getD i (0:Int)<=(60:Int))/\True)/\ab (!((d7 ((List.replicate ((↑((a.getD (0:Nat) ([]:D7)).length):Int).toNat) (0:Int)).length) a b (List.replicate ((↑((a.getD (0:Nat) ([]:D7)).length):Int).toNat) (0:Int)) (List.replicate ((↑((a.getD (0:Nat) ([]:D7)).length):Int).toNat) (0:Int))).2).2) (([]:D7)=dG a b ζ/\True) ((((f.length<=((fg a b).1).length/\((fg a b).1).length<(13:Nat)+f.length)/\(1:Nat)<=f.length/\a.length<=(1000:Nat)/\b.length=a.length/\((fg a b).1).length<=(12:Nat)/\(((fg a b).2).1).length=((fg a b).1).length/\nT a=((fg a b).1).length/\bK (((fg a b).1).length) a/\bK (((fg a b).1).length) b/\(∀(i:Nat),i<((fg a b).1).length->(0:Int)<=((fg a b).1).getD i (0:Int)/\((fg a b).1).getD i (0:Int)<=(60:Int))/\(∀(i:Nat),i<((fg a b).1).length->(0:Int)<=(((fg a b).2).1).getD i (0:Int)/\(((fg a b).2).1).getD i (0:Int)<=(60:Int))/\(∀(i:Nat),i<f.length->(0:Int)<=f.getD i (0:Int)/\f.getD i (0:Int)<(↑(((fg a b).1).length):Int))/\(↑(([]:D7).length):Int)<ζ/\ζ<=(1000000:Int))/\True/\True)/\em (((fg a b).1).length) a b ζ.toNat (((fg a b).1).length-f.length) f (fg a b).1 (((fg a b).2).1) ([]:D7)=dG a b ζ/\True))),by kernel_rfl,?_⟩
 simp only[di,ff,fg,kW,aO]at ξ⊢;obtain⟨rfl,h1,h2,h3,h4,h5,h6,h7,h8,h9⟩:=ξ;have ea:(a.getD 0 []).length=nT a:=rfl
 have eb:(b.getD 0 []).length=nT b:=rfl
 simp only[ea,eb,AR,Bo];refine⟨by omega,by omega,λq=>?_,λq=>?_⟩
 ·rw[dG,AB (by omega)]
 have e:nT a=nT b:=by omega
 rw[<-e]at h7;have R:dG a b ζ=m9 (nT a) a b ζ.toNat:=AA e
 rw[R];refine⟨by omega,by omega,by omega,by omega,λ_=>⟨⟨h2,by omega,by omega,by omega,h3,h6,h7,λi hi=>?_⟩,λz=>?_,λz=>⟨by omega,by omega,⟨h2,h3,h4,h5,h6,h7,Rf 0,Rf 0⟩,λy=>?_,λy=>?_⟩⟩,λz=>absurd z (by omega)⟩
 ·have:i=0:=by omega
  subst this;simp;omega
 ·rw[m9,AA z]
 ·rw[m9,AB (by rw[z];simp),Ra y]
 ·have ok:=Q9 y
  obtain⟨l1,l2,l3,l4⟩:=qO _ _ _ _ _ _ ok;rw[l1];refine⟨⟨⟨by omega,by omega⟩,by omega,h2,h3,h5,by omega,rfl,h6,h7,λi hi=>?_,λi hi=>?_,λi hi=>?_,by omega,by omega⟩,?_⟩
  ·have:=l3 i hi;omega
  ·have:=l4 i hi;omega
  ·have:i=0:=by omega
   subst this;simp;omega
  ·rw[m9,AB (by rw[z];simp),ok]
def ry:List AD->Option Post
 | [.c (.rows .i64 t)]=>some ⟨aJ t,.c (.rows 62 2 .i64 t),[]⟩
 |_=>none
def Ri(t:D7):Nat->Option Ann
 |0=>Q' λi=>⟨⟨[(0,G' t),(3,J' 5),(4,A' i)],[(5,N' (t.take i))]⟩,i<=t.length,t.length-i⟩
 |_=>none
def HN:Fits Tryz.prog 96 ⟨[],ry⟩:=by
 refine ffv (Γ:=ah [(144,⟨[],nq⟩)]) (aq rt aN) Tryz.func96 λds p h ξ=>?_
 unfold ry at h;split at h<;>cases h
 rename_i t
 refine⟨aj,Ri t,(∃x0:Nat,x0<=t.length/\t=t/\(0:Int)=(x0:Int)/\([]:D7)=List.take x0 t)/\∀x1:Nat,x1<=t.length->ab (decide ((x1:Int)<(t.length:Int))) (ac (x1:Int) t.length/\(au ((t.getD (x1:Int).toNat []).length)/\True)/\au ((List.take x1 t).length+(t.getD (x1:Int).toNat []::([]:D7)).length)/\ae ((x1:Int)+(1:Int))/\∃x2:Nat,x2<=t.length/\t.length-x2<t.length-x1/\t=t/\(x1:Int)+(1:Int)=(x2:Int)/\List.take x1 t++t.getD (x1:Int).toNat []::([]:D7)=List.take x2 t) (List.take x1 t=t/\True),by kernel_rfl,?_⟩
 simp only[aO]at ξ⊢;have h1:=ξ.1
 refine⟨⟨0,by omega,rfl,by simp⟩,λi hi=>⟨λh=>⟨by omega,aE0 ξ i (by omega),by omega,by omega,i+1,by omega,by omega,by omega,dZ _ _ _ (by omega)⟩,λh=>AU (by omega)⟩⟩
end Go.Sx
