/- MapD -/
import Derived.Test.YtkmldclpaniclaaLists
import Derived.Test.YtkmldclpaniclaaMapC
open Go Go.Proofs
namespace Go.Sx
set_option linter.unusedSimpArgs false
set_option linter.unusedVariables false
def qr (l:List Int):Post:=⟨ag l.length,.c (.ints 2 .i64 (l)),[]⟩
def m8:List AD→Option Post
 | [.c (.ints .i64 (l))]=>some (qr l)
 | _=>none
def Do:List (Nat×Ctr):=[]
def wt (l:List Int):Prop :=
 ((ag (([]:List Int).length+l.length))∧(([]++l=l)∧True))
theorem K4 (l:List Int):aS Try.prog (ai Do) aj ax Try.f75 (aM Try.f75) [] [.c (.ints .i64 (l))] (qr l)=wt l:=by kernel_rfl
theorem K5 (l:List Int) (Yh:(qr l).pre):wt l:=by
 simp only [qr,wt,aR,u1,u2,u3,u4,u5,u6,u7,u8,u9,v1,v2,v3,v4,v5,v6,v7,v8,v9,w1,w2,w3,w4,aI,aa,af,ag,aw] at Yh ⊢;simp [Yh]
theorem wu:Fits Try.prog 75 ⟨[],m8⟩:=by
 refine aY (Γ:=ai Do) aQ Try.func75 fun ds p h hp=>?_
 unfold m8 at h;split at h
 ·cases h
  exact ⟨aj,ax,by rw [K4];exact K5 _  hp⟩
 ·cases h
theorem Dp {n:Nat} {a b:List (List (List Int))} {c d:List Int} (h:(da n a b c d).2.2=true):fb n a b c d=some ((da n a b c d).1,(da n a b c d).2.1):=by
 unfold da at h ⊢;cases e:fb n a b c d with
 | none=>rw [e] at h;cases h
 | some x=>rfl
theorem Dq {n:Nat} {a b:List (List (List Int))} {c d:List Int} (h:(da n a b c d).2.2=false):fb n a b c d=none:=by
 unfold da at h;cases e:fb n a b c d with
 | none=>rfl
 | some x=>rw [e] at h;cases h
theorem wv {n:Nat} {p:List Int} (h:∀i,i<n→0≤p.getD i 0∧p.getD i 0≤60) (hp:p.length=n) (j:Nat):∀i,i<n→0≤(p.set j 60).getD i 0∧(p.set j 60).getD i 0≤60:=fun i hi=>by
 rw [iE _ _ _ _ (by omega)]
 split
 ·omega
 ·exact h i hi
theorem Dr {n:Nat} {f:List Int} (h:∀i,i<f.length→0≤f.getD i 0∧f.getD i 0<(n:Int)) {y:Nat} (hy:y<n):∀i,i<f.length+(0+1)→0≤(f++[(y:Int)]).getD i 0∧(f++[(y:Int)]).getD i 0<(n:Int):=fun i hi=>by
 by_cases q:i<f.length
 ·rw [getD_append_left' _ _ _ _ q];exact h i q
 ·rw [getD_append_right' _ _ _ _ (by omega),show i - f.length=0 by omega]
  simp;omega
def lK (d:Nat) (a:List (List (List Int))) (b:List (List (List Int))) (f:List Int) (p:List Int) (q:List Int) (Yi:Int) (out:List (List Int)):Post:=⟨(f.length≤p.length∧p.length<d+f.length)∧1≤f.length∧a.length≤1000∧b.length=a.length∧p.length≤12∧q.length=p.length∧nT a=p.length∧bn p.length a∧bn p.length b∧(∀i,i<p.length→0≤p.getD i 0∧p.getD i 0≤60)∧(∀i,i<p.length→0≤q.getD i 0∧q.getD i 0≤60)∧(∀i,i<f.length→0≤f.getD i 0∧f.getD i 0<(p.length:Int))∧(out.length:Int)<Yi∧Yi≤1000000,.c (.rows 42 2 .i64 (dh p.length a b Yi.toNat (p.length - f.length) f p q out)),[.gone (.rows 42 2 .i64 (out))]⟩
def m9 (d:Nat):List AD→Option Post
 | [.c (.r3 .i64 (a)),.c (.r3 .i64 (b)),.c (.ints .i64 (f)),.c (.ints .i64 (p)),.c (.ints .i64 (q)),.c (.int .i64 (Yi)),.c (.rows .i64 (out))]=>some (lK d a b f p q Yi out)
 | _=>none
def Ds (d:Nat) (a:List (List (List Int))) (b:List (List (List Int))) (f:List Int) (p:List Int) (q:List Int) (Yi:Int) (out:List (List Int)):Nat→Option Ann
 | 0=>some (Ann.mk ((Nat)) (fun y=>⟨[(0,.c (.ro (.r3 .i64 (a)))),(1,.c (.ro (.r3 .i64 (b)))),(2,.c (.ro (.ints .i64 (f)))),(3,.c (.ro (.ints .i64 (p)))),(4,.c (.ro (.ints .i64 (q)))),(5,.c (.int .i64 (Yi))),(6,.c (.own (796))),(15,.c (.int .i64 ((f.length:Int)))),(16,.c (.int .i64 ((y:Int))))],[(796,some (.rows 0 42 2 .i64 (cH (dF p.length a b Yi.toNat (dh p.length a b Yi.toNat (p.length - f.length - 1)) f p q) out y)))]⟩) (fun y=>y≤p.length∧f.length<p.length) (fun y=>p.length - y) (fun _=>ax))
 | _=>none
def Dt (d:Nat):List (Nat×Ctr):=[(75,⟨[],m8⟩),(55,⟨[],qG⟩),(56,⟨[],qn⟩),(57,⟨[],qq⟩),(58,⟨[(6,0)],m9 d⟩)]
def dL (a:List (List (List Int))) (b:List (List (List Int))) (f:List Int) (p:List Int) (q:List Int) (x0:Nat):=(da ((List.set p ((↑(f.length):Int).toNat) (60:Int)).length) a b (List.set p ((↑(f.length):Int).toNat) (60:Int)) (List.set q ((↑x0:Int).toNat) (60:Int)))
def eQ (a:List (List (List Int))) (b:List (List (List Int))) (f:List Int) (p:List Int) (q:List Int) (Yi:Int):=(dF (p.length) a b (Yi.toNat) (dh (p.length) a b (Yi.toNat) (p.length - f.length - (1:Nat))) f p q)
def wx (d:Nat) (a:List (List (List Int))) (b:List (List (List Int))) (f:List Int) (p:List Int) (q:List Int) (Yi:Int) (out:List (List Int)):Prop :=
 (ae ((↑(f.length):Int) == (↑(p.length):Int)) (((ag (f.length))∧True)∧((ag (out.length+(f::([]:List (List Int))).length))∧((out++f::([]:List (List Int))=dh (p.length) a b (Yi.toNat) (p.length - f.length) f p q out)∧True))) ((∃x0:Nat,(((x0≤p.length)∧(f.length<p.length))∧((a=a)∧((b=b)∧((f=f)∧((p=p)∧((q=q)∧((Yi=Yi)∧(((↑(f.length):Int)=(↑(f.length):Int))∧(((0:Int)=(↑x0:Int))∧(out=cH (eQ a b f p q Yi) out x0)))))))))))∧(∀x1:Nat,(((x1≤p.length)∧(f.length<p.length))→(ae (decide ((↑x1:Int)<(↑(q.length):Int))) (ae (decide ((↑((cH (dF (p.length) a b (Yi.toNat) (dh (p.length) a b (Yi.toNat) (p.length - f.length - (1:Nat))) f p q) out x1).length):Int)<Yi)) (((ag (f.length))∧True)∧((ag (f.length+[(↑x1:Int)].length))∧(((f.length≤(1099511627776:Nat))∧True)∧(ae (decide ((↑x1:Int)∈f)) ((af ((↑x1:Int)+(1:Int)))∧(∃x2:Nat,(((x2≤p.length)∧(f.length<p.length))∧((p.length - x2<p.length - x1)∧((a=a)∧((b=b)∧((f=f)∧((p=p)∧((q=q)∧((Yi=Yi)∧(((↑(f.length):Int)=(↑(f.length):Int))∧(((↑x1:Int)+(1:Int)=(↑x2:Int))∧(cH (eQ a b f p q Yi) out x1=cH (eQ a b f p q Yi) out x2))))))))))))) ((aa (↑(f.length):Int) (p.length))∧((aa (↑x1:Int) (q.length))∧(ae (p.getD ((↑(f.length):Int).toNat) (0:Int) != q.getD ((↑x1:Int).toNat) (0:Int)) ((af ((↑x1:Int)+(1:Int)))∧(∃x3:Nat,(((x3≤p.length)∧(f.length<p.length))∧((p.length - x3<p.length - x1)∧((a=a) ∧
 ((b=b)∧((f=f)∧((p=p)∧((q=q)∧((Yi=Yi)∧(((↑(f.length):Int)=(↑(f.length):Int))∧(((↑x1:Int)+(1:Int)=(↑x3:Int))∧(cH (eQ a b f p q Yi) out x1=cH (eQ a b f p q Yi) out x3))))))))))))) ((((a.length≤(1000:Nat))∧((nT a≤(1000:Nat))∧(((1:Nat)≤(f++[(↑x1:Int)]).length)∧(((f++[(↑x1:Int)]).length≤nT a)∧((b.length=a.length)∧((bn (nT a) a)∧((bn (nT a) b)∧(∀(i:Nat),i<(f++[(↑x1:Int)]).length→(0:Int)≤(f++[(↑x1:Int)]).getD i (0:Int)∧(f++[(↑x1:Int)]).getD i (0:Int)<(↑(nT a):Int)))))))))∧True)∧(ae (!cU a b (f++[(↑x1:Int)])) ((af ((↑x1:Int)+(1:Int)))∧(∃x4:Nat,(((x4≤p.length)∧(f.length<p.length))∧((p.length - x4<p.length - x1)∧((a=a)∧((b=b)∧((f=f)∧((p=p)∧((q=q)∧((Yi=Yi)∧(((↑(f.length):Int)=(↑(f.length):Int))∧(((↑x1:Int)+(1:Int)=(↑x4:Int))∧(cH (eQ a b f p q Yi) out x1=cH (eQ a b f p q Yi) out x4))))))))))))) (((ag (p.length))∧True)∧(((ag (q.length))∧True)∧((aa (↑(f.length):Int) (p.length))∧((aa (↑x1:Int) (q.length))∧((((a.length≤(1000:Nat))∧((b.length=a.length)∧(((1:Nat)≤(List.set p ((↑(f.length):Int).toNat) (60:Int)).length)∧(((List.set p ((↑(f.length):Int).toNat) (60:Int)).length≤(12:Nat))∧(((List.set q ((↑x1:Int).toNat) (60:Int)).length=(List.set p ((↑(f.length):Int).toNat) (60:Int)).length)∧((bn ((List.set p ((↑(f.length):Int).toNat) (60:Int)).length) a)∧((bn ((List.set p ((↑(f.length):Int).toNat) (60:Int)).length) b) ∧
 ((∀(i:Nat),i<(List.set p ((↑(f.length):Int).toNat) (60:Int)).length→(0:Int)≤(List.set p ((↑(f.length):Int).toNat) (60:Int)).getD i (0:Int)∧(List.set p ((↑(f.length):Int).toNat) (60:Int)).getD i (0:Int)≤(60:Int))∧(∀(i:Nat),i<(List.set p ((↑(f.length):Int).toNat) (60:Int)).length→(0:Int)≤(List.set q ((↑x1:Int).toNat) (60:Int)).getD i (0:Int)∧(List.set q ((↑x1:Int).toNat) (60:Int)).getD i (0:Int)≤(60:Int))))))))))∧True)∧(ae (((da ((List.set p ((↑(f.length):Int).toNat) (60:Int)).length) a b (List.set p ((↑(f.length):Int).toNat) (60:Int)) (List.set q ((↑x1:Int).toNat) (60:Int))).2).2) ((((((f++[(↑x1:Int)]).length≤((dL a b f p q x1).1).length)∧(((dL a b f p q x1).1).length<d+(f++[(↑x1:Int)]).length))∧(((1:Nat)≤(f++[(↑x1:Int)]).length)∧((a.length≤(1000:Nat))∧((b.length=a.length)∧((((dL a b f p q x1).1).length≤(12:Nat))∧(((((dL a b f p q x1).2).1).length=((dL a b f p q x1).1).length)∧((nT a=((dL a b f p q x1).1).length)∧((bn (((dL a b f p q x1).1).length) a)∧((bn (((dL a b f p q x1).1).length) b)∧((∀(i:Nat),i<((dL a b f p q x1).1).length→(0:Int)≤((dL a b f p q x1).1).getD i (0:Int)∧((dL a b f p q x1).1).getD i (0:Int)≤(60:Int))∧((∀(i:Nat),i<((dL a b f p q x1).1).length→(0:Int)≤(((dL a b f p q x1).2).1).getD i (0:Int)∧(((dL a b f p q x1).2).1).getD i (0:Int)≤(60:Int)) ∧
 ((∀(i:Nat),i<(f++[(↑x1:Int)]).length→(0:Int)≤(f++[(↑x1:Int)]).getD i (0:Int)∧(f++[(↑x1:Int)]).getD i (0:Int)<(↑(((dL a b f p q x1).1).length):Int))∧(((↑((cH (eQ a b f p q Yi) out x1).length):Int)<Yi)∧(Yi≤(1000000:Int)))))))))))))))∧(True∧True))∧((af ((↑x1:Int)+(1:Int)))∧(∃x5:Nat,(((x5≤p.length)∧(f.length<p.length))∧((p.length - x5<p.length - x1)∧((a=a)∧((b=b)∧((f=f)∧((p=p)∧((q=q)∧((Yi=Yi)∧(((↑(f.length):Int)=(↑(f.length):Int))∧(((↑x1:Int)+(1:Int)=(↑x5:Int))∧(dh (((dL a b f p q x1).1).length) a b (Yi.toNat) (((dL a b f p q x1).1).length - (f++[(↑x1:Int)]).length) (f++[(↑x1:Int)]) ((dL a b f p q x1).1) (((dL a b f p q x1).2).1) (cH (eQ a b f p q Yi) out x1)=cH (eQ a b f p q Yi) out x5)))))))))))))) ((af ((↑x1:Int)+(1:Int)))∧(∃x6:Nat,(((x6≤p.length)∧(f.length<p.length))∧((p.length - x6<p.length - x1)∧((a=a)∧((b=b)∧((f=f)∧((p=p)∧((q=q)∧((Yi=Yi)∧(((↑(f.length):Int)=(↑(f.length):Int))∧(((↑x1:Int)+(1:Int)=(↑x6:Int))∧(cH (eQ a b f p q Yi) out x1=cH (eQ a b f p q Yi) out x6)))))))))))))))))))))))))))) ((cH (eQ a b f p q Yi) out x1=dh (p.length) a b (Yi.toNat) (p.length - f.length) f p q out)∧True)) ((cH (eQ a b f p q Yi) out x1=dh (p.length) a b (Yi.toNat) (p.length - f.length) f p q out)∧True))))))
theorem K6 (d:Nat) (a:List (List (List Int))) (b:List (List (List Int))) (f:List Int) (p:List Int) (q:List Int) (Yi:Int) (out:List (List Int)):aS Try.prog (ai (Dt d)) aj (Ds (d+1) a b f p q Yi out) Try.f58 (aM Try.f58) [(6,0)] [.c (.r3 .i64 (a)),.c (.r3 .i64 (b)),.c (.ints .i64 (f)),.c (.ints .i64 (p)),.c (.ints .i64 (q)),.c (.int .i64 (Yi)),.c (.rows .i64 (out))] (lK (d+1) a b f p q Yi out)=wx d a b f p q Yi out:=by kernel_rfl
theorem K7 (d:Nat) (a:List (List (List Int))) (b:List (List (List Int))) (f:List Int) (p:List Int) (q:List Int) (Yi:Int) (out:List (List Int)) (Yh:(lK (d+1) a b f p q Yi out).pre):wx d a b f p q Yi out:=by
 simp only [lK,wx,dL,eQ,aR,u1,u2,u3,u4,u5,u6,u7,u8,u9,v1,v2,v3,v4,v5,v6,v7,v8,v9,w1,w2,w3,w4,aI,aa,af,ag,aw] at Yh ⊢;obtain ⟨⟨h1,h2⟩,h3,h4,h5,h6,h7,h8,h9,h10,h11,h12,h13,h14,h15⟩:=Yh;refine ⟨fun e=>⟨by omega,by omega,?_⟩,fun e=>⟨⟨0,⟨by omega,by omega⟩,rfl,rfl⟩,fun y ⟨hy,hfl⟩=>⟨fun y2=>⟨fun hlt=>?_,fun hlt=>?_⟩,fun y2=>?_⟩⟩⟩
 ·rw [show p.length - f.length=0 by omega];rfl
 ·have hm:∀m,cH (dF p.length a b Yi.toNat (dh p.length a b Yi.toNat (p.length - f.length - 1)) f p q) out y=m→cH (dF p.length a b Yi.toNat (dh p.length a b Yi.toNat (p.length - f.length - 1)) f p q) out (y+1)=dF p.length a b Yi.toNat (dh p.length a b Yi.toNat (p.length - f.length - 1)) f p q y m:=fun m e=>by rw [cH,e]
  generalize cH (dF p.length a b Yi.toNat (dh p.length a b Yi.toNat (p.length - f.length - 1)) f p q) out y=o at *
  have hm:=hm o rfl
  have hlt2:o.length<Yi.toNat:=by omega
  have next:∀r,dF p.length a b Yi.toNat (dh p.length a b Yi.toNat (p.length - f.length - 1)) f p q y o=r→r=cH (dF p.length a b Yi.toNat (dh p.length a b Yi.toNat (p.length - f.length - 1)) f p q) out (y+1):=fun r e=>by rw [hm,e]
  refine ⟨by omega,by omega,by omega,fun m=>⟨by omega,y+1,⟨by omega,by omega⟩,by omega,by omega,next _ ?_⟩,fun m=>⟨by omega,by omega,fun c=>⟨by omega,y+1,⟨by omega,by omega⟩,by omega,by omega,next _ ?_⟩,fun c=>⟨⟨h4,by omega,by omega,by omega,h5,by rw [h8];exact h9,by rw [h8];exact h10,by rw [h8];exact Dr h13 (by omega)⟩,fun g=>⟨by omega,y+1,⟨by omega,by omega⟩,by omega,by omega,next _ ?_⟩,fun g=>⟨by omega,by omega,by omega,by omega,⟨h4,h5,by omega,h6,h7,h9,h10,wv h11 rfl _,wv h12 h7 _⟩,fun r=>?_,fun r=>⟨by omega,y+1,⟨by omega,by omega⟩,by omega,by omega,next _ ?_⟩⟩⟩⟩⟩
  ·rw [dF,if_pos hlt2,if_pos (.inl m)]
  ·rw [dF,if_pos hlt2,if_pos (.inr (.inl c))]
  ·rw [dF,if_pos hlt2,if_pos (.inr (.inr g))]
  ·have ok:=Dp r
   obtain ⟨l1,l2,l3,l4⟩:=m6 _ _ _ _ _ _ ok;rw [l1];refine ⟨⟨⟨by omega,by omega⟩,by omega,h4,h5,h6,by omega,h8,h9,h10,fun i hi=>?_,fun i hi=>?_,Dr h13 (by omega),hlt,h15⟩,by omega,y+1,⟨by omega,by omega⟩,by omega,by omega,next _ ?_⟩
   ·have:=l3 i hi;omega
   ·have:=l4 i hi;omega
   ·rw [dF,if_pos hlt2,if_neg (by rintro (z | z | z);exact m z;exact z c;rw [g] at z;cases z),ok]
    simp only;rw [show p.length - f.length - 1=p.length - (f.length+(0+1)) by omega]
  ·rw [dF,if_pos hlt2,if_neg (by rintro (z | z | z);exact m z;exact z c;rw [g] at z;cases z),Dq r]
 ·rw [show p.length - f.length=(p.length - f.length - 1)+1 by omega,dh]
  have:=C5 (n:=p.length) (a:=a) (b:=b) (Yi:=Yi.toNat) (rec:=dh p.length a b Yi.toNat (p.length - f.length - 1)) (f:=f) (c:=p) (d:=q) (out:=out) (y:=y) (by omega) (p.length - y)
  rw [show y+(p.length - y)=p.length by omega] at this
  exact this.symm
 ·rw [show y=p.length by omega]
  generalize hk:p.length - f.length - 1=k
  rw [show p.length - f.length=k+1 by omega];rfl
theorem K8 (a:List (List (List Int))) (b:List (List (List Int))) (f:List Int) (p:List Int) (q:List Int) (Yi:Int) (out:List (List Int)) (h:(lK 0 a b f p q Yi out).pre):False:=by
 simp only [lK] at h;omega
theorem K9 (d:Nat):Fits Try.prog 58 ⟨[(6,0)],m9 d⟩:=by
 induction d with
 | zero =>
  refine Ho ⟨Try.f58,Try.func58,by kernel_rfl,by kernel_rfl⟩ (by decide) fun ds p h hp=>?_
  unfold m9 at h;split at h
  ·cases h
   exact K8 _ _ _ _ _ _ _  hp
  ·cases h
 | succ d ih =>
  refine Ao (Γ:=ai (Dt d)) (aC wu (aC EI (aC Dh (aC Dn (aC ih aQ))))) Try.func58 (by kernel_rfl) (by kernel_rfl) (by kernel_rfl) fun ds p h hp=>?_
  unfold m9 at h;split at h
  ·cases h
   exact ⟨aj,Ds _ _ _ _ _ _ _ _ ,by rw [K6];exact K7 _ _ _ _ _ _ _ _  hp⟩
  ·cases h
def fE (a b:List (List (List Int))) (Yi:Int):List (List Int):=if nT a=nT b then jX (nT a) a b Yi.toNat else []
theorem Du {n:Nat} (j:Nat):∀i,i<n→0≤((List.replicate n (0:Int)).set j 60).getD i 0∧((List.replicate n (0:Int)).set j 60).getD i 0≤60 :=
 wv (fun i hi=>by simp [List.getD_eq_getElem?_getD,hi]) (by simp) j
def qt (a:List (List (List Int))) (b:List (List (List Int))) (f:List Int) (Yi:Int):Post:=⟨f=[0]∧1≤a.length∧a.length≤1000∧b.length=a.length∧1≤nT a∧nT a≤12∧bn (nT a) a∧bn (nT b) b∧1≤Yi∧Yi≤1000000,.c (.rows 42 2 .i64 (fE a b Yi)),[]⟩
def wy:List AD→Option Post
 | [.c (.r3 .i64 (a)),.c (.r3 .i64 (b)),.c (.ints .i64 (f)),.c (.int .i64 (Yi))]=>some (qt a b f Yi)
 | _=>none
def Dv:List (Nat×Ctr):=[(56,⟨[],qn⟩),(57,⟨[],qq⟩),(58,⟨[(6,0)],m9 13⟩)]
def cj (a:List (List (List Int))):=(List.replicate ((↑((a.getD (0:Nat) ([]:List (List Int))).length):Int).toNat) (0:Int))
def dM (a:List (List (List Int))) (b:List (List (List Int))):=(da ((List.set (cj a) (0:Nat) (60:Int)).length) a b (List.set (cj a) (0:Nat) (60:Int)) (List.set (cj a) (0:Nat) (60:Int)))
def dN (a:List (List (List Int))) (b:List (List (List Int))):=(da ((cj a).length) a b (cj a) (cj a))
def iK (a:List (List (List Int))):=(↑((a.getD (0:Nat) ([]:List (List Int))).length):Int)
def wz (a:List (List (List Int))) (b:List (List (List Int))) (f:List Int) (Yi:Int):Prop :=
 ((aa (0:Int) (a.length))∧((aa (0:Int) (b.length))∧(ae ((↑((a.getD (0:Nat) ([]:List (List Int))).length):Int) != (↑((b.getD (0:Nat) ([]:List (List Int))).length):Int)) ((([]:List (List Int))=fE a b Yi)∧True) ((aa (0:Int) (a.length))∧((((0:Int)≤(iK a))∧(((iK a)≤(iK a))∧(ag ((iK a).toNat))))∧((aa (0:Int) (a.length))∧((((0:Int)≤(iK a))∧(((iK a)≤(iK a))∧(ag ((iK a).toNat))))∧(ae (decide ((0:Int)<(↑(f.length):Int))) ((((a.length≤(1000:Nat))∧((nT a≤(1000:Nat))∧(((1:Nat)≤f.length)∧((f.length≤nT a)∧((b.length=a.length)∧((bn (nT a) a)∧((bn (nT a) b)∧(∀(i:Nat),i<f.length→(0:Int)≤f.getD i (0:Int)∧f.getD i (0:Int)<(↑(nT a):Int)))))))))∧True)∧(ae (!cU a b f) ((([]:List (List Int))=fE a b Yi)∧True) ((aa (0:Int) ((cj a).length))∧((aa (0:Int) ((cj a).length))∧((((a.length≤(1000:Nat))∧((b.length=a.length)∧(((1:Nat)≤(List.set (cj a) (0:Nat) (60:Int)).length)∧(((List.set (cj a) (0:Nat) (60:Int)).length≤(12:Nat))∧(((List.set (cj a) (0:Nat) (60:Int)).length=(List.set (cj a) (0:Nat) (60:Int)).length)∧((bn ((List.set (cj a) (0:Nat) (60:Int)).length) a)∧((bn ((List.set (cj a) (0:Nat) (60:Int)).length) b) ∧
 ((∀(i:Nat),i<(List.set (cj a) (0:Nat) (60:Int)).length→(0:Int)≤(List.set (cj a) (0:Nat) (60:Int)).getD i (0:Int)∧(List.set (cj a) (0:Nat) (60:Int)).getD i (0:Int)≤(60:Int))∧(∀(i:Nat),i<(List.set (cj a) (0:Nat) (60:Int)).length→(0:Int)≤(List.set (cj a) (0:Nat) (60:Int)).getD i (0:Int)∧(List.set (cj a) (0:Nat) (60:Int)).getD i (0:Int)≤(60:Int))))))))))∧True)∧(ae (!((da ((List.set (List.replicate ((↑((a.getD (0:Nat) ([]:List (List Int))).length):Int).toNat) (0:Int)) (0:Nat) (60:Int)).length) a b (List.set (List.replicate ((↑((a.getD (0:Nat) ([]:List (List Int))).length):Int).toNat) (0:Int)) (0:Nat) (60:Int)) (List.set (List.replicate ((↑((a.getD (0:Nat) ([]:List (List Int))).length):Int).toNat) (0:Int)) (0:Nat) (60:Int))).2).2) ((([]:List (List Int))=fE a b Yi)∧True) (((((f.length≤((dM a b).1).length)∧(((dM a b).1).length<(13:Nat)+f.length))∧(((1:Nat)≤f.length)∧((a.length≤(1000:Nat))∧((b.length=a.length)∧((((dM a b).1).length≤(12:Nat))∧(((((dM a b).2).1).length=((dM a b).1).length)∧((nT a=((dM a b).1).length)∧((bn (((dM a b).1).length) a)∧((bn (((dM a b).1).length) b)∧((∀(i:Nat),i<((dM a b).1).length→(0:Int)≤((dM a b).1).getD i (0:Int)∧((dM a b).1).getD i (0:Int)≤(60:Int)) ∧
 ((∀(i:Nat),i<((dM a b).1).length→(0:Int)≤(((dM a b).2).1).getD i (0:Int)∧(((dM a b).2).1).getD i (0:Int)≤(60:Int))∧((∀(i:Nat),i<f.length→(0:Int)≤f.getD i (0:Int)∧f.getD i (0:Int)<(↑(((dM a b).1).length):Int))∧(((↑(([]:List (List Int)).length):Int)<Yi)∧(Yi≤(1000000:Int)))))))))))))))∧(True∧True))∧((dh (((dM a b).1).length) a b (Yi.toNat) (((dM a b).1).length - f.length) f ((dM a b).1) (((dM a b).2).1) ([]:List (List Int))=fE a b Yi)∧True)))))))) ((((a.length≤(1000:Nat))∧((b.length=a.length)∧(((1:Nat)≤(cj a).length)∧(((cj a).length≤(12:Nat))∧(((cj a).length=(cj a).length)∧((bn ((cj a).length) a)∧((bn ((cj a).length) b)∧((∀(i:Nat),i<(cj a).length→(0:Int)≤(cj a).getD i (0:Int)∧(cj a).getD i (0:Int)≤(60:Int))∧(∀(i:Nat),i<(cj a).length→(0:Int)≤(cj a).getD i (0:Int)∧(cj a).getD i (0:Int)≤(60:Int))))))))))∧True)∧(ae (!((da ((List.replicate ((↑((a.getD (0:Nat) ([]:List (List Int))).length):Int).toNat) (0:Int)).length) a b (List.replicate ((↑((a.getD (0:Nat) ([]:List (List Int))).length):Int).toNat) (0:Int)) (List.replicate ((↑((a.getD (0:Nat) ([]:List (List Int))).length):Int).toNat) (0:Int))).2).2) ((([]:List (List Int))=fE a b Yi)∧True) (((((f.length≤((dN a b).1).length) ∧
 (((dN a b).1).length<(13:Nat)+f.length))∧(((1:Nat)≤f.length)∧((a.length≤(1000:Nat))∧((b.length=a.length)∧((((dN a b).1).length≤(12:Nat))∧(((((dN a b).2).1).length=((dN a b).1).length)∧((nT a=((dN a b).1).length)∧((bn (((dN a b).1).length) a)∧((bn (((dN a b).1).length) b)∧((∀(i:Nat),i<((dN a b).1).length→(0:Int)≤((dN a b).1).getD i (0:Int)∧((dN a b).1).getD i (0:Int)≤(60:Int))∧((∀(i:Nat),i<((dN a b).1).length→(0:Int)≤(((dN a b).2).1).getD i (0:Int)∧(((dN a b).2).1).getD i (0:Int)≤(60:Int))∧((∀(i:Nat),i<f.length→(0:Int)≤f.getD i (0:Int)∧f.getD i (0:Int)<(↑(((dN a b).1).length):Int))∧(((↑(([]:List (List Int)).length):Int)<Yi)∧(Yi≤(1000000:Int)))))))))))))))∧(True∧True))∧((dh (((dN a b).1).length) a b (Yi.toNat) (((dN a b).1).length - f.length) f ((dN a b).1) (((dN a b).2).1) ([]:List (List Int))=fE a b Yi)∧True))))))))))))
theorem Lc (a:List (List (List Int))) (b:List (List (List Int))) (f:List Int) (Yi:Int):aS Try.prog (ai Dv) aj ax Try.f41 (aM Try.f41) [] [.c (.r3 .i64 (a)),.c (.r3 .i64 (b)),.c (.ints .i64 (f)),.c (.int .i64 (Yi))] (qt a b f Yi)=wz a b f Yi:=by kernel_rfl
theorem Ld (a:List (List (List Int))) (b:List (List (List Int))) (f:List Int) (Yi:Int) (Yh:(qt a b f Yi).pre):wz a b f Yi:=by
 simp only [qt,wz,cj,dM,dN,iK,aR,u1,u2,u3,u4,u5,u6,u7,u8,u9,v1,v2,v3,v4,v5,v6,v7,v8,v9,w1,w2,w3,w4,aI,aa,af,ag,aw] at Yh ⊢;obtain ⟨rfl,h1,h2,h3,h4,h5,h6,h7,h8,h9⟩:=Yh;have ea:(a.getD 0 []).length=nT a:=rfl
 have eb:(b.getD 0 []).length=nT b:=rfl
 simp only [ea,eb,List.length_cons,List.length_nil];refine ⟨by omega,by omega,fun q=>?_,fun q=>?_⟩
 ·rw [fE,if_neg (by omega)]
 have e:nT a=nT b:=by omega
 rw [←e] at h7;have R:fE a b Yi=jX (nT a) a b Yi.toNat:=if_pos e
 rw [R];refine ⟨by omega,by omega,by omega,by omega,fun _=>⟨⟨h2,by omega,by omega,by omega,h3,h6,h7,fun i hi=>?_⟩,fun z=>?_,fun z=>⟨by omega,by omega,⟨h2,h3,h4,h5,h6,h7,Du 0,Du 0⟩,fun y=>?_,fun y=>?_⟩⟩,fun z=>absurd z (by omega)⟩
 ·have:i=0:=by omega
  subst this;simp;omega
 ·rw [jX,if_pos z]
 ·rw [jX,if_neg (by rw [z];simp),Dq y]
 ·have ok:=Dp y
  obtain ⟨l1,l2,l3,l4⟩:=m6 _ _ _ _ _ _ ok;rw [l1];refine ⟨⟨⟨by omega,by omega⟩,by omega,h2,h3,h5,by omega,rfl,h6,h7,fun i hi=>?_,fun i hi=>?_,fun i hi=>?_,by omega,by omega⟩,?_⟩
  ·have:=l3 i hi;omega
  ·have:=l4 i hi;omega
  ·have:i=0:=by omega
   subst this;simp;omega
  ·rw [jX,if_neg (by rw [z];simp),ok]
theorem Le:Fits Try.prog 41 ⟨[],wy⟩:=by
 refine aY (Γ:=ai Dv) (aC Dh (aC Dn (aC (K9 13) aQ))) Try.func41 fun ds p h hp=>?_
 unfold wy at h;split at h
 ·cases h
  exact ⟨aj,ax,by rw [Lc];exact Ld _ _ _ _  hp⟩
 ·cases h
end Go.Sx
