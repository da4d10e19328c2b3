/- MapD -/
import Derived.Test.YtkmldclpaniclaaGreatRack
import Derived.Test.YtkmldclpaniclaaGreatMapC
open Go Go.Proofs
namespace Go.Sx
set_option linter.unusedSimpArgs false
set_option linter.unusedVariables false
def rn(l:List Int):Post:=⟨ah l.length,.c (.ints 2 .i64 l),[]⟩
def mE:List AD->Option Post
 | [.c (.ints .i64 l)]=>some (rn l)
 |_=>none
def Fd:List (Nat×Ctr):=[]
def wY(l:List Int):Prop :=
 ah (([]:List Int).length+l.length)/\[]++l=l/\True
theorem M7(l:List Int):aY Tryz.prog (aj Fd) am av Tryz.f144 (aP Tryz.f144) [] [.c (.ints .i64 l)] (rn l)=wY l:=by kernel_rfl
theorem M8(l:List Int)(Yh:(rn l).pre):wY l:=by
 simp only[rn,wY,aX,u1,u2,u3,u4,u5,u6,u7,u8,u9,v1,v2,v3,v4,v5,v6,v7,v8,v9,w1,w2,w3,w4,aN,ab,ac,ah,ax]at Yh⊢;simp[Yh]
theorem rp:Fits Tryz.prog 144 ⟨[],mE⟩:=by
 refine bf (Γ:=aj Fd) aW Tryz.func144 fun ds p h hp=>?_
 unfold mE at h;split at h
 ·cases h
  exact⟨am,av,by rw[M7];exact M8 _  hp⟩
 ·cases h
theorem Fe{n:Nat}{a b:List (List (List Int))}{c d:List Int}(h:(dw n a b c d).2.2=true):fP n a b c d=some ((dw n a b c d).1,(dw n a b c d).2.1):=by
 unfold dw at h⊢;cases e:fP n a b c d with
 |none=>rw[e]at h;cases h
 |some x=>rfl
theorem Ff{n:Nat}{a b:List (List (List Int))}{c d:List Int}(h:(dw n a b c d).2.2=false):fP n a b c d=none:=by
 unfold dw at h;cases e:fP n a b c d with
 |none=>rfl
 |some x=>rw[e]at h;cases h
theorem wZ{n:Nat}{p:List Int}(h:∀i,i<n->0<=p.getD i 0/\p.getD i 0<=60)(hp:p.length=n)(j:Nat):∀i,i<n->0<=(p.set j 60).getD i 0/\(p.set j 60).getD i 0<=60:=fun i hi=>by
 rw[gW _ _ _ _ (by omega)]
 split
 ·omega
 ·exact h i hi
theorem Fg{n:Nat}{f:List Int}(h:∀i,i<f.length->0<=f.getD i 0/\f.getD i 0<(n:Int)){y:Nat}(hy:y<n):∀i,i<f.length+(0+1)->0<=(f++[(y:Int)]).getD i 0/\(f++[(y:Int)]).getD i 0<(n:Int):=fun i hi=>by
 by_cases q:i<f.length
 ·rw[getD_append_left' _ _ _ _ q];exact h i q
 ·rw[getD_append_right' _ _ _ _ (by omega),show i-f.length=0 by omega]
  simp;omega
def mF(d:Nat)(a:List (List (List Int)))(b:List (List (List Int)))(f:List Int)(p:List Int)(q:List Int)(Yi:Int)(out:List (List Int)):Post:=⟨(f.length<=p.length/\p.length<d+f.length)/\1<=f.length/\a.length<=1000/\b.length=a.length/\p.length<=12/\q.length=p.length/\nT a=p.length/\bA p.length a/\bA p.length b/\(∀i,i<p.length->0<=p.getD i 0/\p.getD i 0<=60)/\(∀i,i<p.length->0<=q.getD i 0/\q.getD i 0<=60)/\(∀i,i<f.length->0<=f.getD i 0/\f.getD i 0<(p.length:Int))/\(out.length:Int)<Yi/\Yi<=1000000,.c (.rows 62 2 .i64 (dE p.length a b Yi.toNat (p.length-f.length) f p q out)),[.gone (.rows 62 2 .i64 out)]⟩
def n8(d:Nat):List AD->Option Post
 | [.c (.r3 .i64 a),.c (.r3 .i64 b),.c (.ints .i64 f),.c (.ints .i64 p),.c (.ints .i64 q),.c (.int .i64 Yi),.c (.rows .i64 out)]=>some (mF d a b f p q Yi out)
 |_=>none
def Fh(d:Nat)(a:List (List (List Int)))(b:List (List (List Int)))(f:List Int)(p:List Int)(q:List Int)(Yi:Int)(out:List (List Int)):Nat->Option Ann
 |0=>some (Ann.mk ((Nat)) (fun y=>⟨[(0,.c (.ro (.r3 .i64 a))),(1,.c (.ro (.r3 .i64 b))),(2,.c (.ro (.ints .i64 f))),(3,.c (.ro (.ints .i64 p))),(4,.c (.ro (.ints .i64 q))),(5,.c (.int .i64 Yi)),(6,.c (.own 796)),(15,.c (.int .i64 ((f.length:Int)))),(16,.c (.int .i64 ((y:Int))))],[(796,some (.rows 0 62 2 .i64 (cU (dV p.length a b Yi.toNat (dE p.length a b Yi.toNat (p.length-f.length-1)) f p q) out y)))]⟩) (fun y=>y<=p.length/\f.length<p.length) (fun y=>p.length-y) (fun _=>av))
 |_=>none
def Fi(d:Nat):List (Nat×Ctr):=[(144,⟨[],mE⟩),(182,⟨[],yW⟩),(176,⟨[],qX⟩),(177,⟨[],rh⟩),(178,⟨[(6,0)],n8 d⟩)]
def d4(a:List (List (List Int)))(b:List (List (List Int)))(f:List Int)(p:List Int)(q:List Int)(x0:Nat):=(dw ((List.set p ((↑(f.length):Int).toNat) (60:Int)).length) a b (List.set p ((↑(f.length):Int).toNat) (60:Int)) (List.set q (↑x0:Int).toNat (60:Int)))
def fw(a:List (List (List Int)))(b:List (List (List Int)))(f:List Int)(p:List Int)(q:List Int)(Yi:Int):=(dV p.length a b Yi.toNat (dE p.length a b Yi.toNat (p.length-f.length-(1:Nat))) f p q)
def w5(d:Nat)(a:List (List (List Int)))(b:List (List (List Int)))(f:List Int)(p:List Int)(q:List Int)(Yi:Int)(out:List (List Int)):Prop :=
 (ae ((f.length:Int) == (p.length:Int)) ((ah f.length/\True)/\ah (out.length+(f::([]:List (List Int))).length)/\out++f::([]:List (List Int))=dE p.length a b Yi.toNat (p.length-f.length) f p q out/\True) ((∃x0:Nat,(x0<=p.length/\f.length<p.length)/\a=a/\b=b/\f=f/\p=p/\q=q/\Yi=Yi/\(f.length:Int)=(f.length:Int)/\(0:Int)=(x0:Int)/\out=cU (fw a b f p q Yi) out x0)/\(∀x1:Nat,(x1<=p.length/\f.length<p.length->(ae (decide ((x1:Int)<(q.length:Int))) (ae (decide ((↑((cU (dV p.length a b Yi.toNat (dE p.length a b Yi.toNat (p.length-f.length-(1:Nat))) f p q) out x1).length):Int)<Yi)) ((ah f.length/\True)/\(ah (f.length+[(x1:Int)].length)/\((f.length<=(1099511627776:Nat)/\True)/\(ae (decide ((x1:Int)∈f)) (ac ((x1:Int)+(1:Int))/\∃x2:Nat,(x2<=p.length/\f.length<p.length)/\p.length-x2<p.length-x1/\a=a/\b=b/\f=f/\p=p/\q=q/\Yi=Yi/\(f.length:Int)=(f.length:Int)/\(x1:Int)+(1:Int)=(x2:Int)/\cU (fw a b f p q Yi) out x1=cU (fw a b f p q Yi) out x2) (ab (f.length:Int) p.length/\(ab (x1:Int) q.length/\(ae (p.getD ((f.length:Int).toNat) (0:Int) != q.getD (x1:Int).toNat (0:Int)) (ac ((x1:Int)+(1:Int))/\(∃x3:Nat,((x3<=p.length/\f.length<p.length)/\(p.length-x3<p.length-x1/\((a=a) /\
 ((b=b)/\((f=f)/\((p=p)/\((q=q)/\((Yi=Yi)/\(((f.length:Int)=(f.length:Int))/\(((x1:Int)+(1:Int)=(x3:Int))/\(cU (fw a b f p q Yi) out x1=cU (fw a b f p q Yi) out x3))))))))))))) ((((a.length<=(1000:Nat))/\((nT a<=(1000:Nat))/\(((1:Nat)<=(f++[(x1:Int)]).length)/\(((f++[(x1:Int)]).length<=nT a)/\((b.length=a.length)/\((bA (nT a) a)/\((bA (nT a) b)/\(∀(i:Nat),i<(f++[(x1:Int)]).length->(0:Int)<=(f++[(x1:Int)]).getD i (0:Int)/\(f++[(x1:Int)]).getD i (0:Int)<(nT a:Int)))))))))/\True)/\(ae (!di a b (f++[(x1:Int)])) ((ac ((x1:Int)+(1:Int)))/\(∃x4:Nat,(((x4<=p.length)/\(f.length<p.length))/\((p.length-x4<p.length-x1)/\((a=a)/\((b=b)/\((f=f)/\((p=p)/\((q=q)/\((Yi=Yi)/\(((f.length:Int)=(f.length:Int))/\(((x1:Int)+(1:Int)=(x4:Int))/\(cU (fw a b f p q Yi) out x1=cU (fw a b f p q Yi) out x4))))))))))))) (((ah p.length)/\True)/\(((ah q.length)/\True)/\((ab (f.length:Int) p.length)/\((ab (x1:Int) q.length)/\((((a.length<=(1000:Nat))/\((b.length=a.length)/\(((1:Nat)<=(List.set p ((f.length:Int).toNat) (60:Int)).length)/\(((List.set p ((f.length:Int).toNat) (60:Int)).length<=(12:Nat))/\(((List.set q (x1:Int).toNat (60:Int)).length=(List.set p ((f.length:Int).toNat) (60:Int)).length)/\((bA ((List.set p ((f.length:Int).toNat) (60:Int)).length) a)/\((bA ((List.set p ((f.length:Int).toNat) (60:Int)).length) b) /\
 ((∀(i:Nat),i<(List.set p ((f.length:Int).toNat) (60:Int)).length->(0:Int)<=(List.set p ((f.length:Int).toNat) (60:Int)).getD i (0:Int)/\(List.set p ((f.length:Int).toNat) (60:Int)).getD i (0:Int)<=(60:Int))/\(∀(i:Nat),i<(List.set p ((f.length:Int).toNat) (60:Int)).length->(0:Int)<=(List.set q (x1:Int).toNat (60:Int)).getD i (0:Int)/\(List.set q (x1:Int).toNat (60:Int)).getD i (0:Int)<=(60:Int))))))))))/\True)/\(ae (((dw ((List.set p ((f.length:Int).toNat) (60:Int)).length) a b (List.set p ((f.length:Int).toNat) (60:Int)) (List.set q (x1:Int).toNat (60:Int))).2).2) ((((((f++[(x1:Int)]).length<=((d4 a b f p q x1).1).length)/\(((d4 a b f p q x1).1).length<d+(f++[(x1:Int)]).length))/\(((1:Nat)<=(f++[(x1:Int)]).length)/\((a.length<=(1000:Nat))/\((b.length=a.length)/\((((d4 a b f p q x1).1).length<=(12:Nat))/\(((((d4 a b f p q x1).2).1).length=((d4 a b f p q x1).1).length)/\((nT a=((d4 a b f p q x1).1).length)/\((bA (((d4 a b f p q x1).1).length) a)/\((bA (((d4 a b f p q x1).1).length) b)/\((∀(i:Nat),i<((d4 a b f p q x1).1).length->(0:Int)<=((d4 a b f p q x1).1).getD i (0:Int)/\((d4 a b f p q x1).1).getD i (0:Int)<=(60:Int))/\((∀(i:Nat),i<((d4 a b f p q x1).1).length->(0:Int)<=(((d4 a b f p q x1).2).1).getD i (0:Int)/\(((d4 a b f p q x1).2).1).getD i (0:Int)<=(60:Int)) /\
 ((∀(i:Nat),i<(f++[(x1:Int)]).length->(0:Int)<=(f++[(x1:Int)]).getD i (0:Int)/\(f++[(x1:Int)]).getD i (0:Int)<(↑(((d4 a b f p q x1).1).length):Int))/\(((↑((cU (fw a b f p q Yi) out x1).length):Int)<Yi)/\(Yi<=(1000000:Int)))))))))))))))/\(True/\True))/\((ac ((x1:Int)+(1:Int)))/\(∃x5:Nat,(((x5<=p.length)/\(f.length<p.length))/\((p.length-x5<p.length-x1)/\((a=a)/\((b=b)/\((f=f)/\((p=p)/\((q=q)/\((Yi=Yi)/\(((f.length:Int)=(f.length:Int))/\(((x1:Int)+(1:Int)=(x5:Int))/\(dE (((d4 a b f p q x1).1).length) a b Yi.toNat (((d4 a b f p q x1).1).length-(f++[(x1:Int)]).length) (f++[(x1:Int)]) (d4 a b f p q x1).1 (((d4 a b f p q x1).2).1) (cU (fw a b f p q Yi) out x1)=cU (fw a b f p q Yi) out x5)))))))))))))) ((ac ((x1:Int)+(1:Int)))/\(∃x6:Nat,(((x6<=p.length)/\(f.length<p.length))/\((p.length-x6<p.length-x1)/\((a=a)/\((b=b)/\((f=f)/\((p=p)/\((q=q)/\((Yi=Yi)/\(((f.length:Int)=(f.length:Int))/\(((x1:Int)+(1:Int)=(x6:Int))/\(cU (fw a b f p q Yi) out x1=cU (fw a b f p q Yi) out x6)))))))))))))))))))))))))))) ((cU (fw a b f p q Yi) out x1=dE p.length a b Yi.toNat (p.length-f.length) f p q out)/\True)) ((cU (fw a b f p q Yi) out x1=dE p.length a b Yi.toNat (p.length-f.length) f p q out)/\True))))))
theorem M9(d:Nat)(a:List (List (List Int)))(b:List (List (List Int)))(f:List Int)(p:List Int)(q:List Int)(Yi:Int)(out:List (List Int)):aY Tryz.prog (aj (Fi d)) am (Fh (d+1) a b f p q Yi out) Tryz.f178 (aP Tryz.f178) [(6,0)] [.c (.r3 .i64 a),.c (.r3 .i64 b),.c (.ints .i64 f),.c (.ints .i64 p),.c (.ints .i64 q),.c (.int .i64 Yi),.c (.rows .i64 out)] (mF (d+1) a b f p q Yi out)=w5 d a b f p q Yi out:=by kernel_rfl
theorem Na(d:Nat)(a:List (List (List Int)))(b:List (List (List Int)))(f:List Int)(p:List Int)(q:List Int)(Yi:Int)(out:List (List Int))(Yh:(mF (d+1) a b f p q Yi out).pre):w5 d a b f p q Yi out:=by
 simp only[mF,w5,d4,fw,aX,u1,u2,u3,u4,u5,u6,u7,u8,u9,v1,v2,v3,v4,v5,v6,v7,v8,v9,w1,w2,w3,w4,aN,ab,ac,ah,ax]at Yh⊢;obtain⟨⟨h1,h2⟩,h3,h4,h5,h6,h7,h8,h9,h10,h11,h12,h13,h14,h15⟩:=Yh;refine⟨fun e=>⟨by omega,by omega,?_⟩,fun e=>⟨⟨0,⟨by omega,by omega⟩,rfl,rfl⟩,fun y ⟨hy,hfl⟩=>⟨fun y2=>⟨fun hlt=>?_,fun hlt=>?_⟩,fun y2=>?_⟩⟩⟩
 ·rw[show p.length-f.length=0 by omega];rfl
 ·have hm:∀m,cU (dV p.length a b Yi.toNat (dE p.length a b Yi.toNat (p.length-f.length-1)) f p q) out y=m->cU (dV p.length a b Yi.toNat (dE p.length a b Yi.toNat (p.length-f.length-1)) f p q) out (y+1)=dV p.length a b Yi.toNat (dE p.length a b Yi.toNat (p.length-f.length-1)) f p q y m:=fun m e=>by rw[cU,e]
  generalize cU (dV p.length a b Yi.toNat (dE p.length a b Yi.toNat (p.length-f.length-1)) f p q) out y=o at *
  have hm:=hm o rfl
  have hlt2:o.length<Yi.toNat:=by omega
  have next:∀r,dV p.length a b Yi.toNat (dE p.length a b Yi.toNat (p.length-f.length-1)) f p q y o=r->r=cU (dV p.length a b Yi.toNat (dE p.length a b Yi.toNat (p.length-f.length-1)) f p q) out (y+1):=fun r e=>by rw[hm,e]
  refine⟨by omega,by omega,by omega,fun m=>⟨by omega,y+1,⟨by omega,by omega⟩,by omega,by omega,next _ ?_⟩,fun m=>⟨by omega,by omega,fun c=>⟨by omega,y+1,⟨by omega,by omega⟩,by omega,by omega,next _ ?_⟩,fun c=>⟨⟨h4,by omega,by omega,by omega,h5,by rw[h8];exact h9,by rw[h8];exact h10,by rw[h8];exact Fg h13 (by omega)⟩,fun g=>⟨by omega,y+1,⟨by omega,by omega⟩,by omega,by omega,next _ ?_⟩,fun g=>⟨by omega,by omega,by omega,by omega,⟨h4,h5,by omega,h6,h7,h9,h10,wZ h11 rfl _,wZ h12 h7 _⟩,fun r=>?_,fun r=>⟨by omega,y+1,⟨by omega,by omega⟩,by omega,by omega,next _ ?_⟩⟩⟩⟩⟩
  ·rw[dV,if_pos hlt2,if_pos (.inl m)]
  ·rw[dV,if_pos hlt2,if_pos (.inr (.inl c))]
  ·rw[dV,if_pos hlt2,if_pos (.inr (.inr g))]
  ·have ok:=Fe r
   obtain⟨l1,l2,l3,l4⟩:=nY _ _ _ _ _ _ ok;rw[l1];refine⟨⟨⟨by omega,by omega⟩,by omega,h4,h5,h6,by omega,h8,h9,h10,fun i hi=>?_,fun i hi=>?_,Fg h13 (by omega),hlt,h15⟩,by omega,y+1,⟨by omega,by omega⟩,by omega,by omega,next _ ?_⟩
   ·have:=l3 i hi;omega
   ·have:=l4 i hi;omega
   ·rw[dV,if_pos hlt2,if_neg (by rintro(z|z|z);exact m z;exact z c;rw[g]at z;cases z),ok]
    simp only;rw[show p.length-f.length-1=p.length-(f.length+(0+1)) by omega]
  ·rw[dV,if_pos hlt2,if_neg (by rintro(z|z|z);exact m z;exact z c;rw[g]at z;cases z),Ff r]
 ·rw[show p.length-f.length=(p.length-f.length-1)+1 by omega,dE]
  have:=EQ (n:=p.length) (a:=a) (b:=b) (Yi:=Yi.toNat) (rec:=dE p.length a b Yi.toNat (p.length-f.length-1)) (f:=f) (c:=p) (d:=q) (out:=out) (y:=y) (by omega) (p.length-y)
  rw[show y+(p.length-y)=p.length by omega]at this
  exact this.symm
 ·rw[show y=p.length by omega]
  generalize hk:p.length-f.length-1=k
  rw[show p.length-f.length=k+1 by omega];rfl
theorem Nb(a:List (List (List Int)))(b:List (List (List Int)))(f:List Int)(p:List Int)(q:List Int)(Yi:Int)(out:List (List Int))(h:(mF 0 a b f p q Yi out).pre):False:=by
 simp only[mF]at h;omega
theorem Nc(d:Nat):Fits Tryz.prog 178 ⟨[(6,0)],n8 d⟩:=by
 induction d with
 |zero =>
  refine JQ ⟨Tryz.f178,Tryz.func178,by kernel_rfl,by kernel_rfl⟩ (by decide) fun ds p h hp=>?_
  unfold n8 at h;split at h
  ·cases h
   exact Nb _ _ _ _ _ _ _  hp
  ·cases h
 |succ d ih =>
  refine Cm (Γ:=aj (Fi d)) (aD rp (aD Pm (aD E6 (aD Fc (aD ih aW))))) Tryz.func178 (by kernel_rfl) (by kernel_rfl) (by kernel_rfl) fun ds p h hp=>?_
  unfold n8 at h;split at h
  ·cases h
   exact⟨am,Fh _ _ _ _ _ _ _ _ ,by rw[M9];exact Na _ _ _ _ _ _ _ _  hp⟩
  ·cases h
def f7(a b:List (List (List Int)))(Yi:Int):List (List Int):=if nT a=nT b then kQ (nT a) a b Yi.toNat else []
theorem Fj{n:Nat}(j:Nat):∀i,i<n->0<=((List.replicate n (0:Int)).set j 60).getD i 0/\((List.replicate n (0:Int)).set j 60).getD i 0<=60 :=
 wZ (fun i hi=>by simp[List.getD_eq_getElem?_getD,hi]) (by simp) j
def rq(a:List (List (List Int)))(b:List (List (List Int)))(f:List Int)(Yi:Int):Post:=⟨f=[0]/\1<=a.length/\a.length<=1000/\b.length=a.length/\1<=nT a/\nT a<=12/\bA (nT a) a/\bA (nT b) b/\1<=Yi/\Yi<=1000000,.c (.rows 62 2 .i64 (f7 a b Yi)),[]⟩
def w6:List AD->Option Post
 | [.c (.r3 .i64 a),.c (.r3 .i64 b),.c (.ints .i64 f),.c (.int .i64 Yi)]=>some (rq a b f Yi)
 |_=>none
def Fk:List (Nat×Ctr):=[(176,⟨[],qX⟩),(177,⟨[],rh⟩),(178,⟨[(6,0)],n8 13⟩)]
def cE(a:List (List (List Int))):=(List.replicate ((↑((a.getD (0:Nat) ([]:List (List Int))).length):Int).toNat) (0:Int))
def d5(a:List (List (List Int)))(b:List (List (List Int))):=(dw ((List.set (cE a) (0:Nat) (60:Int)).length) a b (List.set (cE a) (0:Nat) (60:Int)) (List.set (cE a) (0:Nat) (60:Int)))
def d6(a:List (List (List Int)))(b:List (List (List Int))):=(dw (cE a).length a b (cE a) (cE a))
def ji(a:List (List (List Int))):=(↑((a.getD (0:Nat) ([]:List (List Int))).length):Int)
def w7(a:List (List (List Int)))(b:List (List (List Int)))(f:List Int)(Yi:Int):Prop :=
 (ab (0:Int) a.length/\(ab (0:Int) b.length/\(ae ((↑((a.getD (0:Nat) ([]:List (List Int))).length):Int) != (↑((b.getD (0:Nat) ([]:List (List Int))).length):Int)) (([]:List (List Int))=f7 a b Yi/\True) (ab (0:Int) a.length/\(((0:Int)<=(ji a)/\(ji a)<=(ji a)/\ah (ji a).toNat)/\(ab (0:Int) a.length/\(((0:Int)<=(ji a)/\(ji a)<=(ji a)/\ah (ji a).toNat)/\(ae (decide ((0:Int)<(f.length:Int))) (((a.length<=(1000:Nat)/\nT a<=(1000:Nat)/\(1:Nat)<=f.length/\f.length<=nT a/\b.length=a.length/\bA (nT a) a/\bA (nT a) b/\∀(i:Nat),i<f.length->(0:Int)<=f.getD i (0:Int)/\f.getD i (0:Int)<(nT a:Int))/\True)/\(ae (!di a b f) (([]:List (List Int))=f7 a b Yi/\True) (ab (0:Int) (cE a).length/\(ab (0:Int) (cE a).length/\(((a.length<=(1000:Nat)/\(b.length=a.length/\((1:Nat)<=(List.set (cE a) (0:Nat) (60:Int)).length/\((List.set (cE a) (0:Nat) (60:Int)).length<=(12:Nat)/\((List.set (cE a) (0:Nat) (60:Int)).length=(List.set (cE a) (0:Nat) (60:Int)).length/\(bA ((List.set (cE a) (0:Nat) (60:Int)).length) a/\((bA ((List.set (cE a) (0:Nat) (60:Int)).length) b) /\
 ((∀(i:Nat),i<(List.set (cE a) (0:Nat) (60:Int)).length->(0:Int)<=(List.set (cE a) (0:Nat) (60:Int)).getD i (0:Int)/\(List.set (cE a) (0:Nat) (60:Int)).getD i (0:Int)<=(60:Int))/\(∀(i:Nat),i<(List.set (cE a) (0:Nat) (60:Int)).length->(0:Int)<=(List.set (cE a) (0:Nat) (60:Int)).getD i (0:Int)/\(List.set (cE a) (0:Nat) (60:Int)).getD i (0:Int)<=(60:Int))))))))))/\True)/\(ae (!((dw ((List.set (List.replicate ((↑((a.getD (0:Nat) ([]:List (List Int))).length):Int).toNat) (0:Int)) (0:Nat) (60:Int)).length) a b (List.set (List.replicate ((↑((a.getD (0:Nat) ([]:List (List Int))).length):Int).toNat) (0:Int)) (0:Nat) (60:Int)) (List.set (List.replicate ((↑((a.getD (0:Nat) ([]:List (List Int))).length):Int).toNat) (0:Int)) (0:Nat) (60:Int))).2).2) ((([]:List (List Int))=f7 a b Yi)/\True) (((((f.length<=((d5 a b).1).length)/\(((d5 a b).1).length<(13:Nat)+f.length))/\(((1:Nat)<=f.length)/\((a.length<=(1000:Nat))/\((b.length=a.length)/\((((d5 a b).1).length<=(12:Nat))/\(((((d5 a b).2).1).length=((d5 a b).1).length)/\((nT a=((d5 a b).1).length)/\((bA (((d5 a b).1).length) a)/\((bA (((d5 a b).1).length) b)/\((∀(i:Nat),i<((d5 a b).1).length->(0:Int)<=((d5 a b).1).getD i (0:Int)/\((d5 a b).1).getD i (0:Int)<=(60:Int)) /\
 ((∀(i:Nat),i<((d5 a b).1).length->(0:Int)<=(((d5 a b).2).1).getD i (0:Int)/\(((d5 a b).2).1).getD i (0:Int)<=(60:Int))/\((∀(i:Nat),i<f.length->(0:Int)<=f.getD i (0:Int)/\f.getD i (0:Int)<(↑(((d5 a b).1).length):Int))/\(((↑(([]:List (List Int)).length):Int)<Yi)/\(Yi<=(1000000:Int)))))))))))))))/\(True/\True))/\((dE (((d5 a b).1).length) a b Yi.toNat (((d5 a b).1).length-f.length) f (d5 a b).1 (((d5 a b).2).1) ([]:List (List Int))=f7 a b Yi)/\True)))))))) ((((a.length<=(1000:Nat))/\((b.length=a.length)/\(((1:Nat)<=(cE a).length)/\(((cE a).length<=(12:Nat))/\(((cE a).length=(cE a).length)/\((bA (cE a).length a)/\((bA (cE a).length b)/\((∀(i:Nat),i<(cE a).length->(0:Int)<=(cE a).getD i (0:Int)/\(cE a).getD i (0:Int)<=(60:Int))/\(∀(i:Nat),i<(cE a).length->(0:Int)<=(cE a).getD i (0:Int)/\(cE a).getD i (0:Int)<=(60:Int))))))))))/\True)/\(ae (!((dw ((List.replicate ((↑((a.getD (0:Nat) ([]:List (List Int))).length):Int).toNat) (0:Int)).length) a b (List.replicate ((↑((a.getD (0:Nat) ([]:List (List Int))).length):Int).toNat) (0:Int)) (List.replicate ((↑((a.getD (0:Nat) ([]:List (List Int))).length):Int).toNat) (0:Int))).2).2) ((([]:List (List Int))=f7 a b Yi)/\True) (((((f.length<=((d6 a b).1).length) /\
 (((d6 a b).1).length<(13:Nat)+f.length))/\(((1:Nat)<=f.length)/\((a.length<=(1000:Nat))/\((b.length=a.length)/\((((d6 a b).1).length<=(12:Nat))/\(((((d6 a b).2).1).length=((d6 a b).1).length)/\((nT a=((d6 a b).1).length)/\((bA (((d6 a b).1).length) a)/\((bA (((d6 a b).1).length) b)/\((∀(i:Nat),i<((d6 a b).1).length->(0:Int)<=((d6 a b).1).getD i (0:Int)/\((d6 a b).1).getD i (0:Int)<=(60:Int))/\((∀(i:Nat),i<((d6 a b).1).length->(0:Int)<=(((d6 a b).2).1).getD i (0:Int)/\(((d6 a b).2).1).getD i (0:Int)<=(60:Int))/\((∀(i:Nat),i<f.length->(0:Int)<=f.getD i (0:Int)/\f.getD i (0:Int)<(↑(((d6 a b).1).length):Int))/\(((↑(([]:List (List Int)).length):Int)<Yi)/\(Yi<=(1000000:Int)))))))))))))))/\(True/\True))/\((dE (((d6 a b).1).length) a b Yi.toNat (((d6 a b).1).length-f.length) f (d6 a b).1 (((d6 a b).2).1) ([]:List (List Int))=f7 a b Yi)/\True))))))))))))
theorem Nd(a:List (List (List Int)))(b:List (List (List Int)))(f:List Int)(Yi:Int):aY Tryz.prog (aj Fk) am av Tryz.f128 (aP Tryz.f128) [] [.c (.r3 .i64 a),.c (.r3 .i64 b),.c (.ints .i64 f),.c (.int .i64 Yi)] (rq a b f Yi)=w7 a b f Yi:=by kernel_rfl
theorem Nf(a:List (List (List Int)))(b:List (List (List Int)))(f:List Int)(Yi:Int)(Yh:(rq a b f Yi).pre):w7 a b f Yi:=by
 simp only[rq,w7,cE,d5,d6,ji,aX,u1,u2,u3,u4,u5,u6,u7,u8,u9,v1,v2,v3,v4,v5,v6,v7,v8,v9,w1,w2,w3,w4,aN,ab,ac,ah,ax]at Yh⊢;obtain⟨rfl,h1,h2,h3,h4,h5,h6,h7,h8,h9⟩:=Yh;have ea:(a.getD 0 []).length=nT a:=rfl
 have eb:(b.getD 0 []).length=nT b:=rfl
 simp only[ea,eb,List.length_cons,List.length_nil];refine⟨by omega,by omega,fun q=>?_,fun q=>?_⟩
 ·rw[f7,if_neg (by omega)]
 have e:nT a=nT b:=by omega
 rw[<-e]at h7;have R:f7 a b Yi=kQ (nT a) a b Yi.toNat:=if_pos e
 rw[R];refine⟨by omega,by omega,by omega,by omega,fun _=>⟨⟨h2,by omega,by omega,by omega,h3,h6,h7,fun i hi=>?_⟩,fun z=>?_,fun z=>⟨by omega,by omega,⟨h2,h3,h4,h5,h6,h7,Fj 0,Fj 0⟩,fun y=>?_,fun y=>?_⟩⟩,fun z=>absurd z (by omega)⟩
 ·have:i=0:=by omega
  subst this;simp;omega
 ·rw[kQ,if_pos z]
 ·rw[kQ,if_neg (by rw[z];simp),Ff y]
 ·have ok:=Fe y
  obtain⟨l1,l2,l3,l4⟩:=nY _ _ _ _ _ _ ok;rw[l1];refine⟨⟨⟨by omega,by omega⟩,by omega,h2,h3,h5,by omega,rfl,h6,h7,fun i hi=>?_,fun i hi=>?_,fun i hi=>?_,by omega,by omega⟩,?_⟩
  ·have:=l3 i hi;omega
  ·have:=l4 i hi;omega
  ·have:i=0:=by omega
   subst this;simp;omega
  ·rw[kQ,if_neg (by rw[z];simp),ok]
theorem Ng:Fits Tryz.prog 128 ⟨[],w6⟩:=by
 refine bf (Γ:=aj Fk) (aD E6 (aD Fc (aD (Nc 13) aW))) Tryz.func128 fun ds p h hp=>?_
 unfold w6 at h;split at h
 ·cases h
  exact⟨am,av,by rw[Nd];exact Nf _ _ _ _  hp⟩
 ·cases h
end Go.Sx
