/- MapD -/
import Derived.Test.YtkmldclpaniclaaGreatLists
import Derived.Test.YtkmldclpaniclaaGreatMapC
open Go Go.Proofs
namespace Go.Sx
set_option linter.unusedSimpArgs false
set_option linter.unusedVariables false
def rW(l:List Int):Post:=⟨ag l.length,.c (.ints 2 .i64 l),[]⟩
def mE:List AD->Option Post
 | [.c (.ints .i64 l)]=>some (rW l)
 |_=>none
def FY:List (Nat×Ctr):=[]
def ym(l:List Int):Prop :=
 ag (([]:List Int).length+l.length)/\[]++l=l/\True
theorem OP(l:List Int):aP Tryz.prog (ai FY) aj ar Tryz.f144 (aF Tryz.f144) [] [.c (.ints .i64 l)] (rW l)=ym l:=by kernel_rfl
theorem OQ(l:List Int)(Yh:(rW l).pre):ym l:=by
 simp only[rW,ym,aK,u1,u2,u3,u4,u5,u6,u7,u8,u9,v1,v2,v3,v4,v5,v6,v7,v8,v9,w1,w2,w3,w4,aC,ab,ae,ag,av]at Yh⊢;simp[Yh]
theorem rX:Fits Tryz.prog 144 ⟨[],mE⟩:=by
 refine aW (Γ:=ai FY) aJ Tryz.func144 fun ds p h hp=>?_
 unfold mE at h;split at h
 ·cases h
  exact⟨aj,ar,by rw[OP];exact OQ _  hp⟩
 ·cases h
theorem FZ{n:Nat}{a b:List (List (List Int))}{c d:List Int}(h:(dv n a b c d).2.2=true):fQ n a b c d=some ((dv n a b c d).1,(dv n a b c d).2.1):=by
 unfold dv at h⊢;cases e:fQ n a b c d with
 |none=>rw[e]at h;cases h
 |some x=>rfl
theorem F0{n:Nat}{a b:List (List (List Int))}{c d:List Int}(h:(dv n a b c d).2.2=false):fQ n a b c d=none:=by
 unfold dv at h;cases e:fQ n a b c d with
 |none=>rfl
 |some x=>rw[e]at h;cases h
theorem yn{n:Nat}{p:List Int}(h:∀i,i<n->0<=p.getD i 0/\p.getD i 0<=60)(hp:p.length=n)(j:Nat):∀i,i<n->0<=(p.set j 60).getD i 0/\(p.set j 60).getD i 0<=60:=fun i hi=>by
 rw[gW _ _ _ _ (by omega)]
 split
 ·omega
 ·exact h i hi
theorem F1{n:Nat}{f:List Int}(h:∀i,i<f.length->0<=f.getD i 0/\f.getD i 0<(n:Int)){y:Nat}(hy:y<n):∀i,i<f.length+(0+1)->0<=(f++[(y:Int)]).getD i 0/\(f++[(y:Int)]).getD i 0<(n:Int):=fun i hi=>by
 by_cases q:i<f.length
 ·rw[getD_append_left' _ _ _ _ q];exact h i q
 ·rw[getD_append_right' _ _ _ _ (by omega),show i-f.length=0 by omega]
  simp;omega
def mF(d:Nat)(a:List (List (List Int)))(b:List (List (List Int)))(f:List Int)(p:List Int)(q:List Int)(Yi:Int)(out:List (List Int)):Post:=⟨(f.length<=p.length/\p.length<d+f.length)/\1<=f.length/\a.length<=1000/\b.length=a.length/\p.length<=12/\q.length=p.length/\nT a=p.length/\bw p.length a/\bw p.length b/\(∀i,i<p.length->0<=p.getD i 0/\p.getD i 0<=60)/\(∀i,i<p.length->0<=q.getD i 0/\q.getD i 0<=60)/\(∀i,i<f.length->0<=f.getD i 0/\f.getD i 0<(p.length:Int))/\(out.length:Int)<Yi/\Yi<=1000000,.c (.rows 62 2 .i64 (dC p.length a b Yi.toNat (p.length-f.length) f p q out)),[.gone (.rows 62 2 .i64 out)]⟩
def nZ(d:Nat):List AD->Option Post
 | [.c (.r3 .i64 a),.c (.r3 .i64 b),.c (.ints .i64 f),.c (.ints .i64 p),.c (.ints .i64 q),.c (.int .i64 Yi),.c (.rows .i64 out)]=>some (mF d a b f p q Yi out)
 |_=>none
def F2(d:Nat)(a:List (List (List Int)))(b:List (List (List Int)))(f:List Int)(p:List Int)(q:List Int)(Yi:Int)(out:List (List Int)):Nat->Option Ann
 |0=>some (Ann.mk ((Nat)) (fun y=>⟨[(0,.c (.ro (.r3 .i64 a))),(1,.c (.ro (.r3 .i64 b))),(2,.c (.ro (.ints .i64 f))),(3,.c (.ro (.ints .i64 p))),(4,.c (.ro (.ints .i64 q))),(5,.c (.int .i64 Yi)),(6,.c (.own 796)),(15,.c (.int .i64 ((f.length:Int)))),(16,.c (.int .i64 ((y:Int))))],[(796,some (.rows 0 62 2 .i64 (cR (dU p.length a b Yi.toNat (dC p.length a b Yi.toNat (p.length-f.length-1)) f p q) out y)))]⟩) (fun y=>y<=p.length/\f.length<p.length) (fun y=>p.length-y) (fun _=>ar))
 |_=>none
def F3(d:Nat):List (Nat×Ctr):=[(144,⟨[],mE⟩),(182,⟨[],sF⟩),(176,⟨[],rS⟩),(177,⟨[],rV⟩),(178,⟨[(6,0)],nZ d⟩)]
def dY(a:List (List (List Int)))(b:List (List (List Int)))(f:List Int)(p:List Int)(q:List Int)(x0:Nat):=(dv ((List.set p ((↑(f.length):Int).toNat) (60:Int)).length) a b (List.set p ((↑(f.length):Int).toNat) (60:Int)) (List.set q (↑x0:Int).toNat (60:Int)))
def fw(a:List (List (List Int)))(b:List (List (List Int)))(f:List Int)(p:List Int)(q:List Int)(Yi:Int):=(dU p.length a b Yi.toNat (dC p.length a b Yi.toNat (p.length-f.length-(1:Nat))) f p q)
def yq(d:Nat)(a:List (List (List Int)))(b:List (List (List Int)))(f:List Int)(p:List Int)(q:List Int)(Yi:Int)(out:List (List Int)):Prop :=
 (af ((f.length:Int) == (p.length:Int)) ((ag f.length/\True)/\ag (out.length+(f::([]:List (List Int))).length)/\out++f::([]:List (List Int))=dC p.length a b Yi.toNat (p.length-f.length) f p q out/\True) ((∃x0:Nat,(x0<=p.length/\f.length<p.length)/\a=a/\b=b/\f=f/\p=p/\q=q/\Yi=Yi/\(f.length:Int)=(f.length:Int)/\(0:Int)=(x0:Int)/\out=cR (fw a b f p q Yi) out x0)/\(∀x1:Nat,(x1<=p.length/\f.length<p.length->(af (decide ((x1:Int)<(q.length:Int))) (af (decide ((↑((cR (dU p.length a b Yi.toNat (dC p.length a b Yi.toNat (p.length-f.length-(1:Nat))) f p q) out x1).length):Int)<Yi)) ((ag f.length/\True)/\(ag (f.length+[(x1:Int)].length)/\((f.length<=(1099511627776:Nat)/\True)/\(af (decide ((x1:Int)∈f)) (ae ((x1:Int)+(1:Int))/\∃x2:Nat,(x2<=p.length/\f.length<p.length)/\p.length-x2<p.length-x1/\a=a/\b=b/\f=f/\p=p/\q=q/\Yi=Yi/\(f.length:Int)=(f.length:Int)/\(x1:Int)+(1:Int)=(x2:Int)/\cR (fw a b f p q Yi) out x1=cR (fw a b f p q Yi) out x2) (ab (f.length:Int) p.length/\(ab (x1:Int) q.length/\(af (p.getD ((f.length:Int).toNat) (0:Int) != q.getD (x1:Int).toNat (0:Int)) (ae ((x1:Int)+(1:Int))/\(∃x3:Nat,((x3<=p.length/\f.length<p.length)/\(p.length-x3<p.length-x1/\((a=a) /\
 ((b=b)/\((f=f)/\((p=p)/\((q=q)/\((Yi=Yi)/\(((f.length:Int)=(f.length:Int))/\(((x1:Int)+(1:Int)=(x3:Int))/\(cR (fw a b f p q Yi) out x1=cR (fw a b f p q Yi) out x3))))))))))))) ((((a.length<=(1000:Nat))/\((nT a<=(1000:Nat))/\(((1:Nat)<=(f++[(x1:Int)]).length)/\(((f++[(x1:Int)]).length<=nT a)/\((b.length=a.length)/\((bw (nT a) a)/\((bw (nT a) b)/\(∀(i:Nat),i<(f++[(x1:Int)]).length->(0:Int)<=(f++[(x1:Int)]).getD i (0:Int)/\(f++[(x1:Int)]).getD i (0:Int)<(nT a:Int)))))))))/\True)/\(af (!dh a b (f++[(x1:Int)])) ((ae ((x1:Int)+(1:Int)))/\(∃x4:Nat,(((x4<=p.length)/\(f.length<p.length))/\((p.length-x4<p.length-x1)/\((a=a)/\((b=b)/\((f=f)/\((p=p)/\((q=q)/\((Yi=Yi)/\(((f.length:Int)=(f.length:Int))/\(((x1:Int)+(1:Int)=(x4:Int))/\(cR (fw a b f p q Yi) out x1=cR (fw a b f p q Yi) out x4))))))))))))) (((ag p.length)/\True)/\(((ag q.length)/\True)/\((ab (f.length:Int) p.length)/\((ab (x1:Int) q.length)/\((((a.length<=(1000:Nat))/\((b.length=a.length)/\(((1:Nat)<=(List.set p ((f.length:Int).toNat) (60:Int)).length)/\(((List.set p ((f.length:Int).toNat) (60:Int)).length<=(12:Nat))/\(((List.set q (x1:Int).toNat (60:Int)).length=(List.set p ((f.length:Int).toNat) (60:Int)).length)/\((bw ((List.set p ((f.length:Int).toNat) (60:Int)).length) a)/\((bw ((List.set p ((f.length:Int).toNat) (60:Int)).length) b) /\
 ((∀(i:Nat),i<(List.set p ((f.length:Int).toNat) (60:Int)).length->(0:Int)<=(List.set p ((f.length:Int).toNat) (60:Int)).getD i (0:Int)/\(List.set p ((f.length:Int).toNat) (60:Int)).getD i (0:Int)<=(60:Int))/\(∀(i:Nat),i<(List.set p ((f.length:Int).toNat) (60:Int)).length->(0:Int)<=(List.set q (x1:Int).toNat (60:Int)).getD i (0:Int)/\(List.set q (x1:Int).toNat (60:Int)).getD i (0:Int)<=(60:Int))))))))))/\True)/\(af (((dv ((List.set p ((f.length:Int).toNat) (60:Int)).length) a b (List.set p ((f.length:Int).toNat) (60:Int)) (List.set q (x1:Int).toNat (60:Int))).2).2) ((((((f++[(x1:Int)]).length<=((dY a b f p q x1).1).length)/\(((dY a b f p q x1).1).length<d+(f++[(x1:Int)]).length))/\(((1:Nat)<=(f++[(x1:Int)]).length)/\((a.length<=(1000:Nat))/\((b.length=a.length)/\((((dY a b f p q x1).1).length<=(12:Nat))/\(((((dY a b f p q x1).2).1).length=((dY a b f p q x1).1).length)/\((nT a=((dY a b f p q x1).1).length)/\((bw (((dY a b f p q x1).1).length) a)/\((bw (((dY a b f p q x1).1).length) b)/\((∀(i:Nat),i<((dY a b f p q x1).1).length->(0:Int)<=((dY a b f p q x1).1).getD i (0:Int)/\((dY a b f p q x1).1).getD i (0:Int)<=(60:Int))/\((∀(i:Nat),i<((dY a b f p q x1).1).length->(0:Int)<=(((dY a b f p q x1).2).1).getD i (0:Int)/\(((dY a b f p q x1).2).1).getD i (0:Int)<=(60:Int)) /\
 ((∀(i:Nat),i<(f++[(x1:Int)]).length->(0:Int)<=(f++[(x1:Int)]).getD i (0:Int)/\(f++[(x1:Int)]).getD i (0:Int)<(↑(((dY a b f p q x1).1).length):Int))/\(((↑((cR (fw a b f p q Yi) out x1).length):Int)<Yi)/\(Yi<=(1000000:Int)))))))))))))))/\(True/\True))/\((ae ((x1:Int)+(1:Int)))/\(∃x5:Nat,(((x5<=p.length)/\(f.length<p.length))/\((p.length-x5<p.length-x1)/\((a=a)/\((b=b)/\((f=f)/\((p=p)/\((q=q)/\((Yi=Yi)/\(((f.length:Int)=(f.length:Int))/\(((x1:Int)+(1:Int)=(x5:Int))/\(dC (((dY a b f p q x1).1).length) a b Yi.toNat (((dY a b f p q x1).1).length-(f++[(x1:Int)]).length) (f++[(x1:Int)]) (dY a b f p q x1).1 (((dY a b f p q x1).2).1) (cR (fw a b f p q Yi) out x1)=cR (fw a b f p q Yi) out x5)))))))))))))) ((ae ((x1:Int)+(1:Int)))/\(∃x6:Nat,(((x6<=p.length)/\(f.length<p.length))/\((p.length-x6<p.length-x1)/\((a=a)/\((b=b)/\((f=f)/\((p=p)/\((q=q)/\((Yi=Yi)/\(((f.length:Int)=(f.length:Int))/\(((x1:Int)+(1:Int)=(x6:Int))/\(cR (fw a b f p q Yi) out x1=cR (fw a b f p q Yi) out x6)))))))))))))))))))))))))))) ((cR (fw a b f p q Yi) out x1=dC p.length a b Yi.toNat (p.length-f.length) f p q out)/\True)) ((cR (fw a b f p q Yi) out x1=dC p.length a b Yi.toNat (p.length-f.length) f p q out)/\True))))))
theorem OR(d:Nat)(a:List (List (List Int)))(b:List (List (List Int)))(f:List Int)(p:List Int)(q:List Int)(Yi:Int)(out:List (List Int)):aP Tryz.prog (ai (F3 d)) aj (F2 (d+1) a b f p q Yi out) Tryz.f178 (aF Tryz.f178) [(6,0)] [.c (.r3 .i64 a),.c (.r3 .i64 b),.c (.ints .i64 f),.c (.ints .i64 p),.c (.ints .i64 q),.c (.int .i64 Yi),.c (.rows .i64 out)] (mF (d+1) a b f p q Yi out)=yq d a b f p q Yi out:=by kernel_rfl
theorem OS(d:Nat)(a:List (List (List Int)))(b:List (List (List Int)))(f:List Int)(p:List Int)(q:List Int)(Yi:Int)(out:List (List Int))(Yh:(mF (d+1) a b f p q Yi out).pre):yq d a b f p q Yi out:=by
 simp only[mF,yq,dY,fw,aK,u1,u2,u3,u4,u5,u6,u7,u8,u9,v1,v2,v3,v4,v5,v6,v7,v8,v9,w1,w2,w3,w4,aC,ab,ae,ag,av]at Yh⊢;obtain⟨⟨h1,h2⟩,h3,h4,h5,h6,h7,h8,h9,h10,h11,h12,h13,h14,h15⟩:=Yh;refine⟨fun e=>⟨by omega,by omega,?_⟩,fun e=>⟨⟨0,⟨by omega,by omega⟩,rfl,rfl⟩,fun y ⟨hy,hfl⟩=>⟨fun y2=>⟨fun hlt=>?_,fun hlt=>?_⟩,fun y2=>?_⟩⟩⟩
 ·rw[show p.length-f.length=0 by omega];rfl
 ·have hm:∀m,cR (dU p.length a b Yi.toNat (dC p.length a b Yi.toNat (p.length-f.length-1)) f p q) out y=m->cR (dU p.length a b Yi.toNat (dC p.length a b Yi.toNat (p.length-f.length-1)) f p q) out (y+1)=dU p.length a b Yi.toNat (dC p.length a b Yi.toNat (p.length-f.length-1)) f p q y m:=fun m e=>by rw[cR,e]
  generalize cR (dU p.length a b Yi.toNat (dC p.length a b Yi.toNat (p.length-f.length-1)) f p q) out y=o at *
  have hm:=hm o rfl
  have hlt2:o.length<Yi.toNat:=by omega
  have next:∀r,dU p.length a b Yi.toNat (dC p.length a b Yi.toNat (p.length-f.length-1)) f p q y o=r->r=cR (dU p.length a b Yi.toNat (dC p.length a b Yi.toNat (p.length-f.length-1)) f p q) out (y+1):=fun r e=>by rw[hm,e]
  refine⟨by omega,by omega,by omega,fun m=>⟨by omega,y+1,⟨by omega,by omega⟩,by omega,by omega,next _ ?_⟩,fun m=>⟨by omega,by omega,fun c=>⟨by omega,y+1,⟨by omega,by omega⟩,by omega,by omega,next _ ?_⟩,fun c=>⟨⟨h4,by omega,by omega,by omega,h5,by rw[h8];exact h9,by rw[h8];exact h10,by rw[h8];exact F1 h13 (by omega)⟩,fun g=>⟨by omega,y+1,⟨by omega,by omega⟩,by omega,by omega,next _ ?_⟩,fun g=>⟨by omega,by omega,by omega,by omega,⟨h4,h5,by omega,h6,h7,h9,h10,yn h11 rfl _,yn h12 h7 _⟩,fun r=>?_,fun r=>⟨by omega,y+1,⟨by omega,by omega⟩,by omega,by omega,next _ ?_⟩⟩⟩⟩⟩
  ·rw[dU,if_pos hlt2,if_pos (.inl m)]
  ·rw[dU,if_pos hlt2,if_pos (.inr (.inl c))]
  ·rw[dU,if_pos hlt2,if_pos (.inr (.inr g))]
  ·have ok:=FZ r
   obtain⟨l1,l2,l3,l4⟩:=nW _ _ _ _ _ _ ok;rw[l1];refine⟨⟨⟨by omega,by omega⟩,by omega,h4,h5,h6,by omega,h8,h9,h10,fun i hi=>?_,fun i hi=>?_,F1 h13 (by omega),hlt,h15⟩,by omega,y+1,⟨by omega,by omega⟩,by omega,by omega,next _ ?_⟩
   ·have:=l3 i hi;omega
   ·have:=l4 i hi;omega
   ·rw[dU,if_pos hlt2,if_neg (by rintro(z|z|z);exact m z;exact z c;rw[g]at z;cases z),ok]
    simp only;rw[show p.length-f.length-1=p.length-(f.length+(0+1)) by omega]
  ·rw[dU,if_pos hlt2,if_neg (by rintro(z|z|z);exact m z;exact z c;rw[g]at z;cases z),F0 r]
 ·rw[show p.length-f.length=(p.length-f.length-1)+1 by omega,dC]
  have:=FD (n:=p.length) (a:=a) (b:=b) (Yi:=Yi.toNat) (rec:=dC p.length a b Yi.toNat (p.length-f.length-1)) (f:=f) (c:=p) (d:=q) (out:=out) (y:=y) (by omega) (p.length-y)
  rw[show y+(p.length-y)=p.length by omega]at this
  exact this.symm
 ·rw[show y=p.length by omega]
  generalize hk:p.length-f.length-1=k
  rw[show p.length-f.length=k+1 by omega];rfl
theorem OT(a:List (List (List Int)))(b:List (List (List Int)))(f:List Int)(p:List Int)(q:List Int)(Yi:Int)(out:List (List Int))(h:(mF 0 a b f p q Yi out).pre):False:=by
 simp only[mF]at h;omega
theorem OU(d:Nat):Fits Tryz.prog 178 ⟨[(6,0)],nZ d⟩:=by
 induction d with
 |zero =>
  refine Kb ⟨Tryz.f178,Tryz.func178,by kernel_rfl,by kernel_rfl⟩ (by decide) fun ds p h hp=>?_
  unfold nZ at h;split at h
  ·cases h
   exact OT _ _ _ _ _ _ _  hp
  ·cases h
 |succ d ih =>
  refine Cu (Γ:=ai (F3 d)) (az rX (az Ht (az FP (az FX (az ih aJ))))) Tryz.func178 (by kernel_rfl) (by kernel_rfl) (by kernel_rfl) fun ds p h hp=>?_
  unfold nZ at h;split at h
  ·cases h
   exact⟨aj,F2 _ _ _ _ _ _ _ _ ,by rw[OR];exact OS _ _ _ _ _ _ _ _  hp⟩
  ·cases h
def ga(a b:List (List (List Int)))(Yi:Int):List (List Int):=if nT a=nT b then kP (nT a) a b Yi.toNat else []
theorem F4{n:Nat}(j:Nat):∀i,i<n->0<=((List.replicate n (0:Int)).set j 60).getD i 0/\((List.replicate n (0:Int)).set j 60).getD i 0<=60 :=
 yn (fun i hi=>by simp[List.getD_eq_getElem?_getD,hi]) (by simp) j
def rY(a:List (List (List Int)))(b:List (List (List Int)))(f:List Int)(Yi:Int):Post:=⟨f=[0]/\1<=a.length/\a.length<=1000/\b.length=a.length/\1<=nT a/\nT a<=12/\bw (nT a) a/\bw (nT b) b/\1<=Yi/\Yi<=1000000,.c (.rows 62 2 .i64 (ga a b Yi)),[]⟩
def yr:List AD->Option Post
 | [.c (.r3 .i64 a),.c (.r3 .i64 b),.c (.ints .i64 f),.c (.int .i64 Yi)]=>some (rY a b f Yi)
 |_=>none
def F5:List (Nat×Ctr):=[(176,⟨[],rS⟩),(177,⟨[],rV⟩),(178,⟨[(6,0)],nZ 13⟩)]
def cB(a:List (List (List Int))):=(List.replicate ((↑((a.getD (0:Nat) ([]:List (List Int))).length):Int).toNat) (0:Int))
def dZ(a:List (List (List Int)))(b:List (List (List Int))):=(dv ((List.set (cB a) (0:Nat) (60:Int)).length) a b (List.set (cB a) (0:Nat) (60:Int)) (List.set (cB a) (0:Nat) (60:Int)))
def d4(a:List (List (List Int)))(b:List (List (List Int))):=(dv (cB a).length a b (cB a) (cB a))
def jj(a:List (List (List Int))):=(↑((a.getD (0:Nat) ([]:List (List Int))).length):Int)
def yt(a:List (List (List Int)))(b:List (List (List Int)))(f:List Int)(Yi:Int):Prop :=
 (ab (0:Int) a.length/\(ab (0:Int) b.length/\(af ((↑((a.getD (0:Nat) ([]:List (List Int))).length):Int) != (↑((b.getD (0:Nat) ([]:List (List Int))).length):Int)) (([]:List (List Int))=ga a b Yi/\True) (ab (0:Int) a.length/\(((0:Int)<=(jj a)/\(jj a)<=(jj a)/\ag (jj a).toNat)/\(ab (0:Int) a.length/\(((0:Int)<=(jj a)/\(jj a)<=(jj a)/\ag (jj a).toNat)/\(af (decide ((0:Int)<(f.length:Int))) (((a.length<=(1000:Nat)/\nT a<=(1000:Nat)/\(1:Nat)<=f.length/\f.length<=nT a/\b.length=a.length/\bw (nT a) a/\bw (nT a) b/\∀(i:Nat),i<f.length->(0:Int)<=f.getD i (0:Int)/\f.getD i (0:Int)<(nT a:Int))/\True)/\(af (!dh a b f) (([]:List (List Int))=ga a b Yi/\True) (ab (0:Int) (cB a).length/\(ab (0:Int) (cB a).length/\(((a.length<=(1000:Nat)/\(b.length=a.length/\((1:Nat)<=(List.set (cB a) (0:Nat) (60:Int)).length/\((List.set (cB a) (0:Nat) (60:Int)).length<=(12:Nat)/\((List.set (cB a) (0:Nat) (60:Int)).length=(List.set (cB a) (0:Nat) (60:Int)).length/\(bw ((List.set (cB a) (0:Nat) (60:Int)).length) a/\((bw ((List.set (cB a) (0:Nat) (60:Int)).length) b) /\
 ((∀(i:Nat),i<(List.set (cB a) (0:Nat) (60:Int)).length->(0:Int)<=(List.set (cB a) (0:Nat) (60:Int)).getD i (0:Int)/\(List.set (cB a) (0:Nat) (60:Int)).getD i (0:Int)<=(60:Int))/\(∀(i:Nat),i<(List.set (cB a) (0:Nat) (60:Int)).length->(0:Int)<=(List.set (cB a) (0:Nat) (60:Int)).getD i (0:Int)/\(List.set (cB a) (0:Nat) (60:Int)).getD i (0:Int)<=(60:Int))))))))))/\True)/\(af (!((dv ((List.set (List.replicate ((↑((a.getD (0:Nat) ([]:List (List Int))).length):Int).toNat) (0:Int)) (0:Nat) (60:Int)).length) a b (List.set (List.replicate ((↑((a.getD (0:Nat) ([]:List (List Int))).length):Int).toNat) (0:Int)) (0:Nat) (60:Int)) (List.set (List.replicate ((↑((a.getD (0:Nat) ([]:List (List Int))).length):Int).toNat) (0:Int)) (0:Nat) (60:Int))).2).2) ((([]:List (List Int))=ga a b Yi)/\True) (((((f.length<=((dZ a b).1).length)/\(((dZ a b).1).length<(13:Nat)+f.length))/\(((1:Nat)<=f.length)/\((a.length<=(1000:Nat))/\((b.length=a.length)/\((((dZ a b).1).length<=(12:Nat))/\(((((dZ a b).2).1).length=((dZ a b).1).length)/\((nT a=((dZ a b).1).length)/\((bw (((dZ a b).1).length) a)/\((bw (((dZ a b).1).length) b)/\((∀(i:Nat),i<((dZ a b).1).length->(0:Int)<=((dZ a b).1).getD i (0:Int)/\((dZ a b).1).getD i (0:Int)<=(60:Int)) /\
 ((∀(i:Nat),i<((dZ a b).1).length->(0:Int)<=(((dZ a b).2).1).getD i (0:Int)/\(((dZ a b).2).1).getD i (0:Int)<=(60:Int))/\((∀(i:Nat),i<f.length->(0:Int)<=f.getD i (0:Int)/\f.getD i (0:Int)<(↑(((dZ a b).1).length):Int))/\(((↑(([]:List (List Int)).length):Int)<Yi)/\(Yi<=(1000000:Int)))))))))))))))/\(True/\True))/\((dC (((dZ a b).1).length) a b Yi.toNat (((dZ a b).1).length-f.length) f (dZ a b).1 (((dZ a b).2).1) ([]:List (List Int))=ga a b Yi)/\True)))))))) ((((a.length<=(1000:Nat))/\((b.length=a.length)/\(((1:Nat)<=(cB a).length)/\(((cB a).length<=(12:Nat))/\(((cB a).length=(cB a).length)/\((bw (cB a).length a)/\((bw (cB a).length b)/\((∀(i:Nat),i<(cB a).length->(0:Int)<=(cB a).getD i (0:Int)/\(cB a).getD i (0:Int)<=(60:Int))/\(∀(i:Nat),i<(cB a).length->(0:Int)<=(cB a).getD i (0:Int)/\(cB a).getD i (0:Int)<=(60:Int))))))))))/\True)/\(af (!((dv ((List.replicate ((↑((a.getD (0:Nat) ([]:List (List Int))).length):Int).toNat) (0:Int)).length) a b (List.replicate ((↑((a.getD (0:Nat) ([]:List (List Int))).length):Int).toNat) (0:Int)) (List.replicate ((↑((a.getD (0:Nat) ([]:List (List Int))).length):Int).toNat) (0:Int))).2).2) ((([]:List (List Int))=ga a b Yi)/\True) (((((f.length<=((d4 a b).1).length) /\
 (((d4 a b).1).length<(13:Nat)+f.length))/\(((1:Nat)<=f.length)/\((a.length<=(1000:Nat))/\((b.length=a.length)/\((((d4 a b).1).length<=(12:Nat))/\(((((d4 a b).2).1).length=((d4 a b).1).length)/\((nT a=((d4 a b).1).length)/\((bw (((d4 a b).1).length) a)/\((bw (((d4 a b).1).length) b)/\((∀(i:Nat),i<((d4 a b).1).length->(0:Int)<=((d4 a b).1).getD i (0:Int)/\((d4 a b).1).getD i (0:Int)<=(60:Int))/\((∀(i:Nat),i<((d4 a b).1).length->(0:Int)<=(((d4 a b).2).1).getD i (0:Int)/\(((d4 a b).2).1).getD i (0:Int)<=(60:Int))/\((∀(i:Nat),i<f.length->(0:Int)<=f.getD i (0:Int)/\f.getD i (0:Int)<(↑(((d4 a b).1).length):Int))/\(((↑(([]:List (List Int)).length):Int)<Yi)/\(Yi<=(1000000:Int)))))))))))))))/\(True/\True))/\((dC (((d4 a b).1).length) a b Yi.toNat (((d4 a b).1).length-f.length) f (d4 a b).1 (((d4 a b).2).1) ([]:List (List Int))=ga a b Yi)/\True))))))))))))
theorem OW(a:List (List (List Int)))(b:List (List (List Int)))(f:List Int)(Yi:Int):aP Tryz.prog (ai F5) aj ar Tryz.f128 (aF Tryz.f128) [] [.c (.r3 .i64 a),.c (.r3 .i64 b),.c (.ints .i64 f),.c (.int .i64 Yi)] (rY a b f Yi)=yt a b f Yi:=by kernel_rfl
theorem OX(a:List (List (List Int)))(b:List (List (List Int)))(f:List Int)(Yi:Int)(Yh:(rY a b f Yi).pre):yt a b f Yi:=by
 simp only[rY,yt,cB,dZ,d4,jj,aK,u1,u2,u3,u4,u5,u6,u7,u8,u9,v1,v2,v3,v4,v5,v6,v7,v8,v9,w1,w2,w3,w4,aC,ab,ae,ag,av]at Yh⊢;obtain⟨rfl,h1,h2,h3,h4,h5,h6,h7,h8,h9⟩:=Yh;have ea:(a.getD 0 []).length=nT a:=rfl
 have eb:(b.getD 0 []).length=nT b:=rfl
 simp only[ea,eb,List.length_cons,List.length_nil];refine⟨by omega,by omega,fun q=>?_,fun q=>?_⟩
 ·rw[ga,if_neg (by omega)]
 have e:nT a=nT b:=by omega
 rw[<-e]at h7;have R:ga a b Yi=kP (nT a) a b Yi.toNat:=if_pos e
 rw[R];refine⟨by omega,by omega,by omega,by omega,fun _=>⟨⟨h2,by omega,by omega,by omega,h3,h6,h7,fun i hi=>?_⟩,fun z=>?_,fun z=>⟨by omega,by omega,⟨h2,h3,h4,h5,h6,h7,F4 0,F4 0⟩,fun y=>?_,fun y=>?_⟩⟩,fun z=>absurd z (by omega)⟩
 ·have:i=0:=by omega
  subst this;simp;omega
 ·rw[kP,if_pos z]
 ·rw[kP,if_neg (by rw[z];simp),F0 y]
 ·have ok:=FZ y
  obtain⟨l1,l2,l3,l4⟩:=nW _ _ _ _ _ _ ok;rw[l1];refine⟨⟨⟨by omega,by omega⟩,by omega,h2,h3,h5,by omega,rfl,h6,h7,fun i hi=>?_,fun i hi=>?_,fun i hi=>?_,by omega,by omega⟩,?_⟩
  ·have:=l3 i hi;omega
  ·have:=l4 i hi;omega
  ·have:i=0:=by omega
   subst this;simp;omega
  ·rw[kP,if_neg (by rw[z];simp),ok]
theorem OY:Fits Tryz.prog 128 ⟨[],yr⟩:=by
 refine aW (Γ:=ai F5) (az FP (az FX (az (OU 13) aJ))) Tryz.func128 fun ds p h hp=>?_
 unfold yr at h;split at h
 ·cases h
  exact⟨aj,ar,by rw[OW];exact OX _ _ _ _  hp⟩
 ·cases h
end Go.Sx
