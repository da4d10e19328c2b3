/- MapD -/
import Derived.Test.YtkmldclpaniclaaGreatLists
import Derived.Test.YtkmldclpaniclaaGreatMapC
open Go Go.Proofs
namespace Go.Sx
set_option linter.unusedSimpArgs false
set_option linter.unusedVariables false
def sC(l:V7):Post:=⟨af l.length,.c (.ints 2 .i64 l),[]⟩
def m8:List AD->Option Post
 | [.c (.ints .i64 l)]=>some (sC l)
 |_=>none
def Ha:List (Nat×Ctr):=[]
def yU(l:V7):Prop :=
 af (([]:V7).length+l.length)/\[]++l=l/\True
theorem QH(l:V7):aJ Tryz.prog (ai Ha) ak am Tryz.f144 (aE Tryz.f144) [] [.c (.ints .i64 l)] (sC l)=yU l:=by kernel_rfl
theorem QI(l:V7)(Yh:(sC l).pre):yU l:=by
 simp only[sC,yU,aG,u1,u2,u3,u4,u5,u6,u7,u8,u9,v1,v2,v3,v4,v5,v6,v7,v8,v9,w1,w2,w3,w4,aH,aa,ac,af,ar]at Yh⊢;simp[Yh]
theorem sD:Fits Tryz.prog 144 ⟨[],m8⟩:=by
 refine aO (Γ:=ai Ha) aF Tryz.func144 fun ds p h hp=>?_
 unfold m8 at h;split at h
 ·cases h
  exact⟨ak,am,by rw[QH];exact QI _  hp⟩
 ·cases h
theorem Hb{n:Nat}{a b:V9}{c d:V7}(h:(dA n a b c d).2.2=true):fY n a b c d=some ((dA n a b c d).1,(dA n a b c d).2.1):=by
 unfold dA at h⊢;cases e:fY n a b c d with
 |none=>rw[e]at h;cases h
 |some x=>rfl
theorem Hc{n:Nat}{a b:V9}{c d:V7}(h:(dA n a b c d).2.2=false):fY n a b c d=none:=by
 unfold dA at h;cases e:fY n a b c d with
 |none=>rfl
 |some x=>rw[e]at h;cases h
theorem yV{n:Nat}{p:V7}(h:∀i,i<n->0<=p.getD i 0/\p.getD i 0<=60)(hp:p.length=n)(j:Nat):∀i,i<n->0<=(p.set j 60).getD i 0/\(p.set j 60).getD i 0<=60:=fun i hi=>by
 rw[hZ _ _ _ _ (by omega)]
 split
 ·omega
 ·exact h i hi
theorem Hd{n:Nat}{f:V7}(h:∀i,i<f.length->0<=f.getD i 0/\f.getD i 0<(n:Int)){y:Nat}(hy:y<n):∀i,i<f.length+(0+1)->0<=(f++[(y:Int)]).getD i 0/\(f++[(y:Int)]).getD i 0<(n:Int):=fun i hi=>by
 by_cases q:i<f.length
 ·rw[getD_append_left' _ _ _ _ q];exact h i q
 ·rw[getD_append_right' _ _ _ _ (by omega),show i-f.length=0 by omega]
  simp;omega
def m9(d:Nat)(a:V9)(b:V9)(f:V7)(p:V7)(q:V7)(Yi:Int)(out:V8):Post:=⟨(f.length<=p.length/\p.length<d+f.length)/\1<=f.length/\a.length<=1000/\b.length=a.length/\p.length<=12/\q.length=p.length/\nT a=p.length/\bt p.length a/\bt p.length b/\(∀i,i<p.length->0<=p.getD i 0/\p.getD i 0<=60)/\(∀i,i<p.length->0<=q.getD i 0/\q.getD i 0<=60)/\(∀i,i<f.length->0<=f.getD i 0/\f.getD i 0<(p.length:Int))/\(out.length:Int)<Yi/\Yi<=1000000,.c (.rows 62 2 .i64 (dI p.length a b Yi.toNat (p.length-f.length) f p q out)),[.gone (.rows 62 2 .i64 out)]⟩
def oI(d:Nat):List AD->Option Post
 | [.c (.r3 .i64 a),.c (.r3 .i64 b),.c (.ints .i64 f),.c (.ints .i64 p),.c (.ints .i64 q),.c (.int .i64 Yi),.c (.rows .i64 out)]=>some (m9 d a b f p q Yi out)
 |_=>none
def He(d:Nat)(a:V9)(b:V9)(f:V7)(p:V7)(q:V7)(Yi:Int)(out:V8):Nat->Option Ann
 |0=>some (Ann.mk ((Nat)) (fun y=>⟨[(0,.c (.ro (.r3 .i64 a))),(1,.c (.ro (.r3 .i64 b))),(2,.c (.ro (.ints .i64 f))),(3,.c (.ro (.ints .i64 p))),(4,.c (.ro (.ints .i64 q))),(5,.c (.int .i64 Yi)),(6,.c (.own 796)),(15,.c (.int .i64 ((f.length:Int)))),(16,.c (.int .i64 ((y:Int))))],[(796,some (.rows 0 62 2 .i64 (c8 (dZ p.length a b Yi.toNat (dI p.length a b Yi.toNat (p.length-f.length-1)) f p q) out y)))]⟩) (fun y=>y<=p.length/\f.length<p.length) (fun y=>p.length-y) (fun _=>am))
 |_=>none
def Hf(d:Nat):List (Nat×Ctr):=[(144,⟨[],m8⟩),(182,⟨[],tG⟩),(176,⟨[],sw⟩),(177,⟨[],sB⟩),(178,⟨[(6,0)],oI d⟩)]
def ec(a:V9)(b:V9)(f:V7)(p:V7)(q:V7)(x0:Nat):=(dA ((List.set p ((↑(f.length):Int).toNat) (60:Int)).length) a b (List.set p ((↑(f.length):Int).toNat) (60:Int)) (List.set q (↑x0:Int).toNat (60:Int)))
def fG(a:V9)(b:V9)(f:V7)(p:V7)(q:V7)(Yi:Int):=(dZ p.length a b Yi.toNat (dI p.length a b Yi.toNat (p.length-f.length-(1:Nat))) f p q)
def yW(d:Nat)(a:V9)(b:V9)(f:V7)(p:V7)(q:V7)(Yi:Int)(out:V8):Prop :=
 (ae ((f.length:Int) == (p.length:Int)) ((af f.length/\True)/\af (out.length+(f::([]:V8)).length)/\out++f::([]:V8)=dI p.length a b Yi.toNat (p.length-f.length) f p q out/\True) ((∃x0:Nat,(x0<=p.length/\f.length<p.length)/\a=a/\b=b/\f=f/\p=p/\q=q/\Yi=Yi/\(f.length:Int)=(f.length:Int)/\(0:Int)=(x0:Int)/\out=c8 (fG a b f p q Yi) out x0)/\(∀x1:Nat,(x1<=p.length/\f.length<p.length->(ae (decide ((x1:Int)<(q.length:Int))) (ae (decide ((↑((c8 (dZ p.length a b Yi.toNat (dI p.length a b Yi.toNat (p.length-f.length-(1:Nat))) f p q) out x1).length):Int)<Yi)) ((af f.length/\True)/\(af (f.length+[(x1:Int)].length)/\((f.length<=(1099511627776:Nat)/\True)/\(ae (decide ((x1:Int)∈f)) (ac ((x1:Int)+(1:Int))/\∃x2:Nat,(x2<=p.length/\f.length<p.length)/\p.length-x2<p.length-x1/\a=a/\b=b/\f=f/\p=p/\q=q/\Yi=Yi/\(f.length:Int)=(f.length:Int)/\(x1:Int)+(1:Int)=(x2:Int)/\c8 (fG a b f p q Yi) out x1=c8 (fG a b f p q Yi) out x2) (aa (f.length:Int) p.length/\(aa (x1:Int) q.length/\(ae (p.getD (f.length:Int).toNat (0:Int) != q.getD (x1:Int).toNat (0:Int)) (ac ((x1:Int)+(1:Int))/\(∃x3:Nat,((x3<=p.length/\f.length<p.length)/\(p.length-x3<p.length-x1/\((a=a) /\
 ((b=b)/\((f=f)/\((p=p)/\((q=q)/\((Yi=Yi)/\(((f.length:Int)=(f.length:Int))/\(((x1:Int)+(1:Int)=(x3:Int))/\(c8 (fG a b f p q Yi) out x1=c8 (fG a b f p q Yi) out x3))))))))))))) ((((a.length<=(1000:Nat))/\((nT a<=(1000:Nat))/\(((1:Nat)<=(f++[(x1:Int)]).length)/\(((f++[(x1:Int)]).length<=nT a)/\((b.length=a.length)/\((bt (nT a) a)/\((bt (nT a) b)/\(∀(i:Nat),i<(f++[(x1:Int)]).length->(0:Int)<=(f++[(x1:Int)]).getD i (0:Int)/\(f++[(x1:Int)]).getD i (0:Int)<(nT a:Int)))))))))/\True)/\(ae (!dm a b (f++[(x1:Int)])) ((ac ((x1:Int)+(1:Int)))/\(∃x4:Nat,(((x4<=p.length)/\(f.length<p.length))/\((p.length-x4<p.length-x1)/\((a=a)/\((b=b)/\((f=f)/\((p=p)/\((q=q)/\((Yi=Yi)/\(((f.length:Int)=(f.length:Int))/\(((x1:Int)+(1:Int)=(x4:Int))/\(c8 (fG a b f p q Yi) out x1=c8 (fG a b f p q Yi) out x4))))))))))))) (((af p.length)/\True)/\(((af q.length)/\True)/\((aa (f.length:Int) p.length)/\((aa (x1:Int) q.length)/\((((a.length<=(1000:Nat))/\((b.length=a.length)/\(((1:Nat)<=(List.set p (f.length:Int).toNat (60:Int)).length)/\(((List.set p (f.length:Int).toNat (60:Int)).length<=(12:Nat))/\(((List.set q (x1:Int).toNat (60:Int)).length=(List.set p (f.length:Int).toNat (60:Int)).length)/\((bt ((List.set p (f.length:Int).toNat (60:Int)).length) a)/\((bt ((List.set p (f.length:Int).toNat (60:Int)).length) b) /\
 ((∀(i:Nat),i<(List.set p (f.length:Int).toNat (60:Int)).length->(0:Int)<=(List.set p (f.length:Int).toNat (60:Int)).getD i (0:Int)/\(List.set p (f.length:Int).toNat (60:Int)).getD i (0:Int)<=(60:Int))/\(∀(i:Nat),i<(List.set p (f.length:Int).toNat (60:Int)).length->(0:Int)<=(List.set q (x1:Int).toNat (60:Int)).getD i (0:Int)/\(List.set q (x1:Int).toNat (60:Int)).getD i (0:Int)<=(60:Int))))))))))/\True)/\(ae (((dA ((List.set p (f.length:Int).toNat (60:Int)).length) a b (List.set p (f.length:Int).toNat (60:Int)) (List.set q (x1:Int).toNat (60:Int))).2).2) ((((((f++[(x1:Int)]).length<=((ec a b f p q x1).1).length)/\(((ec a b f p q x1).1).length<d+(f++[(x1:Int)]).length))/\(((1:Nat)<=(f++[(x1:Int)]).length)/\((a.length<=(1000:Nat))/\((b.length=a.length)/\((((ec a b f p q x1).1).length<=(12:Nat))/\(((((ec a b f p q x1).2).1).length=((ec a b f p q x1).1).length)/\((nT a=((ec a b f p q x1).1).length)/\((bt (((ec a b f p q x1).1).length) a)/\((bt (((ec a b f p q x1).1).length) b)/\((∀(i:Nat),i<((ec a b f p q x1).1).length->(0:Int)<=((ec a b f p q x1).1).getD i (0:Int)/\((ec a b f p q x1).1).getD i (0:Int)<=(60:Int))/\((∀(i:Nat),i<((ec a b f p q x1).1).length->(0:Int)<=(((ec a b f p q x1).2).1).getD i (0:Int)/\(((ec a b f p q x1).2).1).getD i (0:Int)<=(60:Int)) /\
 ((∀(i:Nat),i<(f++[(x1:Int)]).length->(0:Int)<=(f++[(x1:Int)]).getD i (0:Int)/\(f++[(x1:Int)]).getD i (0:Int)<(↑(((ec a b f p q x1).1).length):Int))/\(((↑((c8 (fG a b f p q Yi) out x1).length):Int)<Yi)/\(Yi<=(1000000:Int)))))))))))))))/\(True/\True))/\((ac ((x1:Int)+(1:Int)))/\(∃x5:Nat,(((x5<=p.length)/\(f.length<p.length))/\((p.length-x5<p.length-x1)/\((a=a)/\((b=b)/\((f=f)/\((p=p)/\((q=q)/\((Yi=Yi)/\(((f.length:Int)=(f.length:Int))/\(((x1:Int)+(1:Int)=(x5:Int))/\(dI (((ec a b f p q x1).1).length) a b Yi.toNat (((ec a b f p q x1).1).length-(f++[(x1:Int)]).length) (f++[(x1:Int)]) (ec a b f p q x1).1 (((ec a b f p q x1).2).1) (c8 (fG a b f p q Yi) out x1)=c8 (fG a b f p q Yi) out x5)))))))))))))) ((ac ((x1:Int)+(1:Int)))/\(∃x6:Nat,(((x6<=p.length)/\(f.length<p.length))/\((p.length-x6<p.length-x1)/\((a=a)/\((b=b)/\((f=f)/\((p=p)/\((q=q)/\((Yi=Yi)/\(((f.length:Int)=(f.length:Int))/\(((x1:Int)+(1:Int)=(x6:Int))/\(c8 (fG a b f p q Yi) out x1=c8 (fG a b f p q Yi) out x6)))))))))))))))))))))))))))) ((c8 (fG a b f p q Yi) out x1=dI p.length a b Yi.toNat (p.length-f.length) f p q out)/\True)) ((c8 (fG a b f p q Yi) out x1=dI p.length a b Yi.toNat (p.length-f.length) f p q out)/\True))))))
theorem QJ(d:Nat)(a:V9)(b:V9)(f:V7)(p:V7)(q:V7)(Yi:Int)(out:V8):aJ Tryz.prog (ai (Hf d)) ak (He (d+1) a b f p q Yi out) Tryz.f178 (aE Tryz.f178) [(6,0)] [.c (.r3 .i64 a),.c (.r3 .i64 b),.c (.ints .i64 f),.c (.ints .i64 p),.c (.ints .i64 q),.c (.int .i64 Yi),.c (.rows .i64 out)] (m9 (d+1) a b f p q Yi out)=yW d a b f p q Yi out:=by kernel_rfl
theorem QK(d:Nat)(a:V9)(b:V9)(f:V7)(p:V7)(q:V7)(Yi:Int)(out:V8)(Yh:(m9 (d+1) a b f p q Yi out).pre):yW d a b f p q Yi out:=by
 simp only[m9,yW,ec,fG,aG,u1,u2,u3,u4,u5,u6,u7,u8,u9,v1,v2,v3,v4,v5,v6,v7,v8,v9,w1,w2,w3,w4,aH,aa,ac,af,ar]at Yh⊢;obtain⟨⟨h1,h2⟩,h3,h4,h5,h6,h7,h8,h9,h10,h11,h12,h13,h14,h15⟩:=Yh;refine⟨fun e=>⟨by omega,by omega,?_⟩,fun e=>⟨⟨0,⟨by omega,by omega⟩,rfl,rfl⟩,fun y ⟨hy,hfl⟩=>⟨fun y2=>⟨fun hlt=>?_,fun hlt=>?_⟩,fun y2=>?_⟩⟩⟩
 ·rw[show p.length-f.length=0 by omega];rfl
 ·have hm:∀m,c8 (dZ p.length a b Yi.toNat (dI p.length a b Yi.toNat (p.length-f.length-1)) f p q) out y=m->c8 (dZ p.length a b Yi.toNat (dI p.length a b Yi.toNat (p.length-f.length-1)) f p q) out (y+1)=dZ p.length a b Yi.toNat (dI p.length a b Yi.toNat (p.length-f.length-1)) f p q y m:=fun m e=>by rw[c8,e]
  generalize c8 (dZ p.length a b Yi.toNat (dI p.length a b Yi.toNat (p.length-f.length-1)) f p q) out y=o at *
  have hm:=hm o rfl
  have hlt2:o.length<Yi.toNat:=by omega
  have next:∀r,dZ p.length a b Yi.toNat (dI p.length a b Yi.toNat (p.length-f.length-1)) f p q y o=r->r=c8 (dZ p.length a b Yi.toNat (dI p.length a b Yi.toNat (p.length-f.length-1)) f p q) out (y+1):=fun r e=>by rw[hm,e]
  refine⟨by omega,by omega,by omega,fun m=>⟨by omega,y+1,⟨by omega,by omega⟩,by omega,by omega,next _ ?_⟩,fun m=>⟨by omega,by omega,fun c=>⟨by omega,y+1,⟨by omega,by omega⟩,by omega,by omega,next _ ?_⟩,fun c=>⟨⟨h4,by omega,by omega,by omega,h5,by rw[h8];exact h9,by rw[h8];exact h10,by rw[h8];exact Hd h13 (by omega)⟩,fun g=>⟨by omega,y+1,⟨by omega,by omega⟩,by omega,by omega,next _ ?_⟩,fun g=>⟨by omega,by omega,by omega,by omega,⟨h4,h5,by omega,h6,h7,h9,h10,yV h11 rfl _,yV h12 h7 _⟩,fun r=>?_,fun r=>⟨by omega,y+1,⟨by omega,by omega⟩,by omega,by omega,next _ ?_⟩⟩⟩⟩⟩
  ·rw[dZ,if_pos hlt2,if_pos (.inl m)]
  ·rw[dZ,if_pos hlt2,if_pos (.inr (.inl c))]
  ·rw[dZ,if_pos hlt2,if_pos (.inr (.inr g))]
  ·have ok:=Hb r
   obtain⟨l1,l2,l3,l4⟩:=oG _ _ _ _ _ _ ok;rw[l1];refine⟨⟨⟨by omega,by omega⟩,by omega,h4,h5,h6,by omega,h8,h9,h10,fun i hi=>?_,fun i hi=>?_,Hd h13 (by omega),hlt,h15⟩,by omega,y+1,⟨by omega,by omega⟩,by omega,by omega,next _ ?_⟩
   ·have:=l3 i hi;omega
   ·have:=l4 i hi;omega
   ·rw[dZ,if_pos hlt2,if_neg (by rintro(z|z|z);exact m z;exact z c;rw[g]at z;cases z),ok]
    simp only;rw[show p.length-f.length-1=p.length-(f.length+(0+1)) by omega]
  ·rw[dZ,if_pos hlt2,if_neg (by rintro(z|z|z);exact m z;exact z c;rw[g]at z;cases z),Hc r]
 ·rw[show p.length-f.length=(p.length-f.length-1)+1 by omega,dI]
  have:=GS (n:=p.length) (a:=a) (b:=b) (Yi:=Yi.toNat) (rec:=dI p.length a b Yi.toNat (p.length-f.length-1)) (f:=f) (c:=p) (d:=q) (out:=out) (y:=y) (by omega) (p.length-y)
  rw[show y+(p.length-y)=p.length by omega]at this
  exact this.symm
 ·rw[show y=p.length by omega]
  generalize hk:p.length-f.length-1=k
  rw[show p.length-f.length=k+1 by omega];rfl
theorem QL(a:V9)(b:V9)(f:V7)(p:V7)(q:V7)(Yi:Int)(out:V8)(h:(m9 0 a b f p q Yi out).pre):False:=by
 simp only[m9]at h;omega
theorem QM(d:Nat):Fits Tryz.prog 178 ⟨[(6,0)],oI d⟩:=by
 induction d with
 |zero =>
  refine L6 ⟨Tryz.f178,Tryz.func178,by kernel_rfl,by kernel_rfl⟩ (by decide) fun ds p h hp=>?_
  unfold oI at h;split at h
  ·cases h
   exact QL _ _ _ _ _ _ _  hp
  ·cases h
 |succ d ih =>
  refine DY (Γ:=ai (Hf d)) (aw sD (aw I7 (aw G3 (aw G9 (aw ih aF))))) Tryz.func178 (by kernel_rfl) (by kernel_rfl) (by kernel_rfl) fun ds p h hp=>?_
  unfold oI at h;split at h
  ·cases h
   exact⟨ak,He _ _ _ _ _ _ _ _ ,by rw[QJ];exact QK _ _ _ _ _ _ _ _  hp⟩
  ·cases h
def dB(a b:V9)(Yi:Int):V8:=if nT a=nT b then lz (nT a) a b Yi.toNat else []
theorem Hg{n:Nat}(j:Nat):∀i,i<n->0<=((List.replicate n (0:Int)).set j 60).getD i 0/\((List.replicate n (0:Int)).set j 60).getD i 0<=60 :=
 yV (fun i hi=>by simp[List.getD_eq_getElem?_getD,hi]) (by simp) j
def sE(a:V9)(b:V9)(f:V7)(Yi:Int):Post:=⟨f=[0]/\1<=a.length/\a.length<=1000/\b.length=a.length/\1<=nT a/\nT a<=12/\bt (nT a) a/\bt (nT b) b/\1<=Yi/\Yi<=1000000,.c (.rows 62 2 .i64 (dB a b Yi)),[]⟩
def sF:List AD->Option Post
 | [.c (.r3 .i64 a),.c (.r3 .i64 b),.c (.ints .i64 f),.c (.int .i64 Yi)]=>some (sE a b f Yi)
 |_=>none
def Hh:List (Nat×Ctr):=[(176,⟨[],sw⟩),(177,⟨[],sB⟩),(178,⟨[(6,0)],oI 13⟩)]
def cJ(a:V9):=(List.replicate ((↑((a.getD (0:Nat) ([]:V8)).length):Int).toNat) (0:Int))
def ed(a:V9)(b:V9):=(dA ((List.set (cJ a) (0:Nat) (60:Int)).length) a b (List.set (cJ a) (0:Nat) (60:Int)) (List.set (cJ a) (0:Nat) (60:Int)))
def ef(a:V9)(b:V9):=(dA (cJ a).length a b (cJ a) (cJ a))
def jw(a:V9):=(↑((a.getD (0:Nat) ([]:V8)).length):Int)
def yX(a:V9)(b:V9)(f:V7)(Yi:Int):Prop :=
 (aa (0:Int) a.length/\(aa (0:Int) b.length/\(ae ((↑((a.getD (0:Nat) ([]:V8)).length):Int) != (↑((b.getD (0:Nat) ([]:V8)).length):Int)) (([]:V8)=dB a b Yi/\True) (aa (0:Int) a.length/\(((0:Int)<=(jw a)/\(jw a)<=(jw a)/\af (jw a).toNat)/\(aa (0:Int) a.length/\(((0:Int)<=(jw a)/\(jw a)<=(jw a)/\af (jw a).toNat)/\(ae (decide ((0:Int)<(f.length:Int))) (((a.length<=(1000:Nat)/\nT a<=(1000:Nat)/\(1:Nat)<=f.length/\f.length<=nT a/\b.length=a.length/\bt (nT a) a/\bt (nT a) b/\∀(i:Nat),i<f.length->(0:Int)<=f.getD i (0:Int)/\f.getD i (0:Int)<(nT a:Int))/\True)/\(ae (!dm a b f) (([]:V8)=dB a b Yi/\True) (aa (0:Int) (cJ a).length/\(aa (0:Int) (cJ a).length/\(((a.length<=(1000:Nat)/\(b.length=a.length/\((1:Nat)<=(List.set (cJ a) (0:Nat) (60:Int)).length/\((List.set (cJ a) (0:Nat) (60:Int)).length<=(12:Nat)/\((List.set (cJ a) (0:Nat) (60:Int)).length=(List.set (cJ a) (0:Nat) (60:Int)).length/\(bt ((List.set (cJ a) (0:Nat) (60:Int)).length) a/\((bt ((List.set (cJ a) (0:Nat) (60:Int)).length) b) /\
 ((∀(i:Nat),i<(List.set (cJ a) (0:Nat) (60:Int)).length->(0:Int)<=(List.set (cJ a) (0:Nat) (60:Int)).getD i (0:Int)/\(List.set (cJ a) (0:Nat) (60:Int)).getD i (0:Int)<=(60:Int))/\(∀(i:Nat),i<(List.set (cJ a) (0:Nat) (60:Int)).length->(0:Int)<=(List.set (cJ a) (0:Nat) (60:Int)).getD i (0:Int)/\(List.set (cJ a) (0:Nat) (60:Int)).getD i (0:Int)<=(60:Int))))))))))/\True)/\(ae (!((dA ((List.set (List.replicate ((↑((a.getD (0:Nat) ([]:V8)).length):Int).toNat) (0:Int)) (0:Nat) (60:Int)).length) a b (List.set (List.replicate ((↑((a.getD (0:Nat) ([]:V8)).length):Int).toNat) (0:Int)) (0:Nat) (60:Int)) (List.set (List.replicate ((↑((a.getD (0:Nat) ([]:V8)).length):Int).toNat) (0:Int)) (0:Nat) (60:Int))).2).2) ((([]:V8)=dB a b Yi)/\True) (((((f.length<=((ed a b).1).length)/\(((ed a b).1).length<(13:Nat)+f.length))/\(((1:Nat)<=f.length)/\((a.length<=(1000:Nat))/\((b.length=a.length)/\((((ed a b).1).length<=(12:Nat))/\(((((ed a b).2).1).length=((ed a b).1).length)/\((nT a=((ed a b).1).length)/\((bt (((ed a b).1).length) a)/\((bt (((ed a b).1).length) b)/\((∀(i:Nat),i<((ed a b).1).length->(0:Int)<=((ed a b).1).getD i (0:Int)/\((ed a b).1).getD i (0:Int)<=(60:Int)) /\
 ((∀(i:Nat),i<((ed a b).1).length->(0:Int)<=(((ed a b).2).1).getD i (0:Int)/\(((ed a b).2).1).getD i (0:Int)<=(60:Int))/\((∀(i:Nat),i<f.length->(0:Int)<=f.getD i (0:Int)/\f.getD i (0:Int)<(↑(((ed a b).1).length):Int))/\(((↑(([]:V8).length):Int)<Yi)/\(Yi<=(1000000:Int)))))))))))))))/\(True/\True))/\((dI (((ed a b).1).length) a b Yi.toNat (((ed a b).1).length-f.length) f (ed a b).1 (((ed a b).2).1) ([]:V8)=dB a b Yi)/\True)))))))) ((((a.length<=(1000:Nat))/\((b.length=a.length)/\(((1:Nat)<=(cJ a).length)/\(((cJ a).length<=(12:Nat))/\(((cJ a).length=(cJ a).length)/\((bt (cJ a).length a)/\((bt (cJ a).length b)/\((∀(i:Nat),i<(cJ a).length->(0:Int)<=(cJ a).getD i (0:Int)/\(cJ a).getD i (0:Int)<=(60:Int))/\(∀(i:Nat),i<(cJ a).length->(0:Int)<=(cJ a).getD i (0:Int)/\(cJ a).getD i (0:Int)<=(60:Int))))))))))/\True)/\(ae (!((dA ((List.replicate ((↑((a.getD (0:Nat) ([]:V8)).length):Int).toNat) (0:Int)).length) a b (List.replicate ((↑((a.getD (0:Nat) ([]:V8)).length):Int).toNat) (0:Int)) (List.replicate ((↑((a.getD (0:Nat) ([]:V8)).length):Int).toNat) (0:Int))).2).2) ((([]:V8)=dB a b Yi)/\True) (((((f.length<=((ef a b).1).length) /\
 (((ef a b).1).length<(13:Nat)+f.length))/\(((1:Nat)<=f.length)/\((a.length<=(1000:Nat))/\((b.length=a.length)/\((((ef a b).1).length<=(12:Nat))/\(((((ef a b).2).1).length=((ef a b).1).length)/\((nT a=((ef a b).1).length)/\((bt (((ef a b).1).length) a)/\((bt (((ef a b).1).length) b)/\((∀(i:Nat),i<((ef a b).1).length->(0:Int)<=((ef a b).1).getD i (0:Int)/\((ef a b).1).getD i (0:Int)<=(60:Int))/\((∀(i:Nat),i<((ef a b).1).length->(0:Int)<=(((ef a b).2).1).getD i (0:Int)/\(((ef a b).2).1).getD i (0:Int)<=(60:Int))/\((∀(i:Nat),i<f.length->(0:Int)<=f.getD i (0:Int)/\f.getD i (0:Int)<(↑(((ef a b).1).length):Int))/\(((↑(([]:V8).length):Int)<Yi)/\(Yi<=(1000000:Int)))))))))))))))/\(True/\True))/\((dI (((ef a b).1).length) a b Yi.toNat (((ef a b).1).length-f.length) f (ef a b).1 (((ef a b).2).1) ([]:V8)=dB a b Yi)/\True))))))))))))
theorem QN(a:V9)(b:V9)(f:V7)(Yi:Int):aJ Tryz.prog (ai Hh) ak am Tryz.f128 (aE Tryz.f128) [] [.c (.r3 .i64 a),.c (.r3 .i64 b),.c (.ints .i64 f),.c (.int .i64 Yi)] (sE a b f Yi)=yX a b f Yi:=by kernel_rfl
theorem QO(a:V9)(b:V9)(f:V7)(Yi:Int)(Yh:(sE a b f Yi).pre):yX a b f Yi:=by
 simp only[sE,yX,cJ,ed,ef,jw,aG,u1,u2,u3,u4,u5,u6,u7,u8,u9,v1,v2,v3,v4,v5,v6,v7,v8,v9,w1,w2,w3,w4,aH,aa,ac,af,ar]at Yh⊢;obtain⟨rfl,h1,h2,h3,h4,h5,h6,h7,h8,h9⟩:=Yh;have ea:(a.getD 0 []).length=nT a:=rfl
 have eb:(b.getD 0 []).length=nT b:=rfl
 simp only[ea,eb,List.length_cons,List.length_nil];refine⟨by omega,by omega,fun q=>?_,fun q=>?_⟩
 ·rw[dB,if_neg (by omega)]
 have e:nT a=nT b:=by omega
 rw[<-e]at h7;have R:dB a b Yi=lz (nT a) a b Yi.toNat:=if_pos e
 rw[R];refine⟨by omega,by omega,by omega,by omega,fun _=>⟨⟨h2,by omega,by omega,by omega,h3,h6,h7,fun i hi=>?_⟩,fun z=>?_,fun z=>⟨by omega,by omega,⟨h2,h3,h4,h5,h6,h7,Hg 0,Hg 0⟩,fun y=>?_,fun y=>?_⟩⟩,fun z=>absurd z (by omega)⟩
 ·have:i=0:=by omega
  subst this;simp;omega
 ·rw[lz,if_pos z]
 ·rw[lz,if_neg (by rw[z];simp),Hc y]
 ·have ok:=Hb y
  obtain⟨l1,l2,l3,l4⟩:=oG _ _ _ _ _ _ ok;rw[l1];refine⟨⟨⟨by omega,by omega⟩,by omega,h2,h3,h5,by omega,rfl,h6,h7,fun i hi=>?_,fun i hi=>?_,fun i hi=>?_,by omega,by omega⟩,?_⟩
  ·have:=l3 i hi;omega
  ·have:=l4 i hi;omega
  ·have:i=0:=by omega
   subst this;simp;omega
  ·rw[lz,if_neg (by rw[z];simp),ok]
theorem Hi:Fits Tryz.prog 128 ⟨[],sF⟩:=by
 refine aO (Γ:=ai Hh) (aw G3 (aw G9 (aw (QM 13) aF))) Tryz.func128 fun ds p h hp=>?_
 unfold sF at h;split at h
 ·cases h
  exact⟨ak,am,by rw[QN];exact QO _ _ _ _  hp⟩
 ·cases h
end Go.Sx
