/- Own2 -/
import Derived.Test.YtcdmndagoafcgaaGreatTable
import Derived.Test.YtcdmndagoafcgaaGreatMapC
open Go Go.Proofs
namespace Go.Sx
set_option linter.unusedSimpArgs false
set_option linter.unusedVariables false
def uF (l:List Int):Post:=⟨ae l.length,.c (.ints 2 .i64 (l)),[]⟩
def nQ:List AD→Option Post
 | [.c (.ints .i64 (l))]=>some (uF l)
 | _=>none
def JL:List (Nat×Ctr):=[]
def BQ (l:List Int):Prop :=
 ((ae (([]:List Int).length+l.length))∧(([]++l=l)∧True))
theorem Tf (l:List Int):aC Tryz.prog (af JL) ah am Tryz.f183 (aE Tryz.f183) [] [.c (.ints .i64 (l))] (uF l)=BQ l:=by kernel_rfl
theorem Tg (l:List Int) (Yh:(uF l).pre):BQ l:=by
 simp only [uF,BQ,aG,u1,u2,u3,u4,u5,u6,u7,u8,u9,v1,v2,v3,v4,v5,v6,v7,v8,v9,w1,w2,w3,w4,aH,aa,ab,ae,ar] at Yh ⊢;simp [Yh]
theorem uG:Fits Tryz.prog 183 ⟨[],nQ⟩:=by
 refine aJ (Γ:=af JL) aF Tryz.func183 fun ds p h hp=>?_
 unfold nQ at h;split at h
 ·cases h
  exact ⟨ah,am,by rw [Tf];exact Tg _  hp⟩
 ·cases h
theorem JM {n:Nat} {a b:List (List (List Int))} {c d:List Int} (h:(dR n a b c d).2.2=true):gw n a b c d=some ((dR n a b c d).1,(dR n a b c d).2.1):=by
 unfold dR at h ⊢;cases e:gw n a b c d with
 | none=>rw [e] at h;cases h
 | some x=>rfl
theorem JN {n:Nat} {a b:List (List (List Int))} {c d:List Int} (h:(dR n a b c d).2.2=false):gw n a b c d=none:=by
 unfold dR at h;cases e:gw n a b c d with
 | none=>rfl
 | some x=>rw [e] at h;cases h
theorem BR {n:Nat} {p:List Int} (h:∀i,i<n→0≤p.getD i 0∧p.getD i 0≤60) (hp:p.length=n) (j:Nat):∀i,i<n→0≤(p.set j 60).getD i 0∧(p.set j 60).getD i 0≤60:=fun i hi=>by
 rw [jS _ _ _ _ (by omega)]
 split
 ·omega
 ·exact h i hi
theorem JO {n:Nat} {f:List Int} (h:∀i,i<f.length→0≤f.getD i 0∧f.getD i 0<(n:Int)) {y:Nat} (hy:y<n):∀i,i<f.length+(0+1)→0≤(f++[(y:Int)]).getD i 0∧(f++[(y:Int)]).getD i 0<(n:Int):=fun i hi=>by
 by_cases q:i<f.length
 ·rw [getD_append_left' _ _ _ _ q];exact h i q
 ·rw [getD_append_right' _ _ _ _ (by omega),show i - f.length=0 by omega]
  simp;omega
def nR (d:Nat) (a:List (List (List Int))) (b:List (List (List Int))) (f:List Int) (p:List Int) (q:List Int) (Yi:Int) (out:List (List Int)):Post:=⟨(f.length≤p.length∧p.length<d+f.length)∧1≤f.length∧a.length≤1000∧b.length=a.length∧p.length≤12∧q.length=p.length∧nT a=p.length∧bQ p.length a∧bQ p.length b∧(∀i,i<p.length→0≤p.getD i 0∧p.getD i 0≤60)∧(∀i,i<p.length→0≤q.getD i 0∧q.getD i 0≤60)∧(∀i,i<f.length→0≤f.getD i 0∧f.getD i 0<(p.length:Int))∧(out.length:Int)<Yi∧Yi≤1000000,.c (.rows 57 2 .i64 (dX p.length a b Yi.toNat (p.length - f.length) f p q out)),[.gone (.rows 57 2 .i64 (out))]⟩
def pQ (d:Nat):List AD→Option Post
 | [.c (.r3 .i64 (a)),.c (.r3 .i64 (b)),.c (.ints .i64 (f)),.c (.ints .i64 (p)),.c (.ints .i64 (q)),.c (.int .i64 (Yi)),.c (.rows .i64 (out))]=>some (nR d a b f p q Yi out)
 | _=>none
def JP (d:Nat) (a:List (List (List Int))) (b:List (List (List Int))) (f:List Int) (p:List Int) (q:List Int) (Yi:Int) (out:List (List Int)):Nat→Option Ann
 | 0=>some (Ann.mk ((Nat)) (fun y=>⟨[(0,.c (.ro (.r3 .i64 (a)))),(1,.c (.ro (.r3 .i64 (b)))),(2,.c (.ro (.ints .i64 (f)))),(3,.c (.ro (.ints .i64 (p)))),(4,.c (.ro (.ints .i64 (q)))),(5,.c (.int .i64 (Yi))),(6,.c (.own (796))),(15,.c (.int .i64 ((f.length:Int)))),(16,.c (.int .i64 ((y:Int))))],[(796,some (.rows 0 57 2 .i64 (dm (eB p.length a b Yi.toNat (dX p.length a b Yi.toNat (p.length - f.length - 1)) f p q) out y)))]⟩) (fun y=>y≤p.length∧f.length<p.length) (fun y=>p.length - y) (fun _=>am))
 | _=>none
def JQ (d:Nat):List (Nat×Ctr):=[(183,⟨[],nQ⟩),(221,⟨[],pH⟩),(215,⟨[],ud⟩),(216,⟨[],uh⟩),(217,⟨[(6,0)],pQ d⟩)]
def eM (a:List (List (List Int))) (b:List (List (List Int))) (f:List Int) (p:List Int) (q:List Int) (x0:Nat):=(dR ((List.set p ((↑(f.length):Int).toNat) (60:Int)).length) a b (List.set p ((↑(f.length):Int).toNat) (60:Int)) (List.set q ((↑x0:Int).toNat) (60:Int)))
def f9 (a:List (List (List Int))) (b:List (List (List Int))) (f:List Int) (p:List Int) (q:List Int) (Yi:Int):=(eB (p.length) a b (Yi.toNat) (dX (p.length) a b (Yi.toNat) (p.length - f.length - (1:Nat))) f p q)
def BS (d:Nat) (a:List (List (List Int))) (b:List (List (List Int))) (f:List Int) (p:List Int) (q:List Int) (Yi:Int) (out:List (List Int)):Prop :=
 (ac ((↑(f.length):Int) == (↑(p.length):Int)) (((ae (f.length))∧True)∧((ae (out.length+(f::([]:List (List Int))).length))∧((out++f::([]:List (List Int))=dX (p.length) a b (Yi.toNat) (p.length - f.length) f p q out)∧True))) ((∃x0:Nat,(((x0≤p.length)∧(f.length<p.length))∧((a=a)∧((b=b)∧((f=f)∧((p=p)∧((q=q)∧((Yi=Yi)∧(((↑(f.length):Int)=(↑(f.length):Int))∧(((0:Int)=(↑x0:Int))∧(out=dm (f9 a b f p q Yi) out x0)))))))))))∧(∀x1:Nat,(((x1≤p.length)∧(f.length<p.length))→(ac (decide ((↑x1:Int)<(↑(q.length):Int))) (ac (decide ((↑((dm (eB (p.length) a b (Yi.toNat) (dX (p.length) a b (Yi.toNat) (p.length - f.length - (1:Nat))) f p q) out x1).length):Int)<Yi)) (((ae (f.length))∧True)∧((ae (f.length+[(↑x1:Int)].length))∧(((f.length≤(1099511627776:Nat))∧True)∧(ac (decide ((↑x1:Int)∈f)) ((ab ((↑x1:Int)+(1:Int)))∧(∃x2:Nat,(((x2≤p.length)∧(f.length<p.length))∧((p.length - x2<p.length - x1)∧((a=a)∧((b=b)∧((f=f)∧((p=p)∧((q=q)∧((Yi=Yi)∧(((↑(f.length):Int)=(↑(f.length):Int))∧(((↑x1:Int)+(1:Int)=(↑x2:Int))∧(dm (f9 a b f p q Yi) out x1=dm (f9 a b f p q Yi) out x2))))))))))))) ((aa (↑(f.length):Int) (p.length))∧((aa (↑x1:Int) (q.length))∧(ac (p.getD ((↑(f.length):Int).toNat) (0:Int) != q.getD ((↑x1:Int).toNat) (0:Int)) ((ab ((↑x1:Int)+(1:Int)))∧(∃x3:Nat,(((x3≤p.length)∧(f.length<p.length))∧((p.length - x3<p.length - x1)∧((a=a) ∧
 ((b=b)∧((f=f)∧((p=p)∧((q=q)∧((Yi=Yi)∧(((↑(f.length):Int)=(↑(f.length):Int))∧(((↑x1:Int)+(1:Int)=(↑x3:Int))∧(dm (f9 a b f p q Yi) out x1=dm (f9 a b f p q Yi) out x3))))))))))))) ((((a.length≤(1000:Nat))∧((nT a≤(1000:Nat))∧(((1:Nat)≤(f++[(↑x1:Int)]).length)∧(((f++[(↑x1:Int)]).length≤nT a)∧((b.length=a.length)∧((bQ (nT a) a)∧((bQ (nT a) b)∧(∀(i:Nat),i<(f++[(↑x1:Int)]).length→(0:Int)≤(f++[(↑x1:Int)]).getD i (0:Int)∧(f++[(↑x1:Int)]).getD i (0:Int)<(↑(nT a):Int)))))))))∧True)∧(ac (!dK a b (f++[(↑x1:Int)])) ((ab ((↑x1:Int)+(1:Int)))∧(∃x4:Nat,(((x4≤p.length)∧(f.length<p.length))∧((p.length - x4<p.length - x1)∧((a=a)∧((b=b)∧((f=f)∧((p=p)∧((q=q)∧((Yi=Yi)∧(((↑(f.length):Int)=(↑(f.length):Int))∧(((↑x1:Int)+(1:Int)=(↑x4:Int))∧(dm (f9 a b f p q Yi) out x1=dm (f9 a b f p q Yi) out x4))))))))))))) (((ae (p.length))∧True)∧(((ae (q.length))∧True)∧((aa (↑(f.length):Int) (p.length))∧((aa (↑x1:Int) (q.length))∧((((a.length≤(1000:Nat))∧((b.length=a.length)∧(((1:Nat)≤(List.set p ((↑(f.length):Int).toNat) (60:Int)).length)∧(((List.set p ((↑(f.length):Int).toNat) (60:Int)).length≤(12:Nat))∧(((List.set q ((↑x1:Int).toNat) (60:Int)).length=(List.set p ((↑(f.length):Int).toNat) (60:Int)).length)∧((bQ ((List.set p ((↑(f.length):Int).toNat) (60:Int)).length) a)∧((bQ ((List.set p ((↑(f.length):Int).toNat) (60:Int)).length) b) ∧
 ((∀(i:Nat),i<(List.set p ((↑(f.length):Int).toNat) (60:Int)).length→(0:Int)≤(List.set p ((↑(f.length):Int).toNat) (60:Int)).getD i (0:Int)∧(List.set p ((↑(f.length):Int).toNat) (60:Int)).getD i (0:Int)≤(60:Int))∧(∀(i:Nat),i<(List.set p ((↑(f.length):Int).toNat) (60:Int)).length→(0:Int)≤(List.set q ((↑x1:Int).toNat) (60:Int)).getD i (0:Int)∧(List.set q ((↑x1:Int).toNat) (60:Int)).getD i (0:Int)≤(60:Int))))))))))∧True)∧(ac (((dR ((List.set p ((↑(f.length):Int).toNat) (60:Int)).length) a b (List.set p ((↑(f.length):Int).toNat) (60:Int)) (List.set q ((↑x1:Int).toNat) (60:Int))).2).2) ((((((f++[(↑x1:Int)]).length≤((eM a b f p q x1).1).length)∧(((eM a b f p q x1).1).length<d+(f++[(↑x1:Int)]).length))∧(((1:Nat)≤(f++[(↑x1:Int)]).length)∧((a.length≤(1000:Nat))∧((b.length=a.length)∧((((eM a b f p q x1).1).length≤(12:Nat))∧(((((eM a b f p q x1).2).1).length=((eM a b f p q x1).1).length)∧((nT a=((eM a b f p q x1).1).length)∧((bQ (((eM a b f p q x1).1).length) a)∧((bQ (((eM a b f p q x1).1).length) b)∧((∀(i:Nat),i<((eM a b f p q x1).1).length→(0:Int)≤((eM a b f p q x1).1).getD i (0:Int)∧((eM a b f p q x1).1).getD i (0:Int)≤(60:Int))∧((∀(i:Nat),i<((eM a b f p q x1).1).length→(0:Int)≤(((eM a b f p q x1).2).1).getD i (0:Int)∧(((eM a b f p q x1).2).1).getD i (0:Int)≤(60:Int)) ∧
 ((∀(i:Nat),i<(f++[(↑x1:Int)]).length→(0:Int)≤(f++[(↑x1:Int)]).getD i (0:Int)∧(f++[(↑x1:Int)]).getD i (0:Int)<(↑(((eM a b f p q x1).1).length):Int))∧(((↑((dm (f9 a b f p q Yi) out x1).length):Int)<Yi)∧(Yi≤(1000000:Int)))))))))))))))∧(True∧True))∧((ab ((↑x1:Int)+(1:Int)))∧(∃x5:Nat,(((x5≤p.length)∧(f.length<p.length))∧((p.length - x5<p.length - x1)∧((a=a)∧((b=b)∧((f=f)∧((p=p)∧((q=q)∧((Yi=Yi)∧(((↑(f.length):Int)=(↑(f.length):Int))∧(((↑x1:Int)+(1:Int)=(↑x5:Int))∧(dX (((eM a b f p q x1).1).length) a b (Yi.toNat) (((eM a b f p q x1).1).length - (f++[(↑x1:Int)]).length) (f++[(↑x1:Int)]) ((eM a b f p q x1).1) (((eM a b f p q x1).2).1) (dm (f9 a b f p q Yi) out x1)=dm (f9 a b f p q Yi) out x5)))))))))))))) ((ab ((↑x1:Int)+(1:Int)))∧(∃x6:Nat,(((x6≤p.length)∧(f.length<p.length))∧((p.length - x6<p.length - x1)∧((a=a)∧((b=b)∧((f=f)∧((p=p)∧((q=q)∧((Yi=Yi)∧(((↑(f.length):Int)=(↑(f.length):Int))∧(((↑x1:Int)+(1:Int)=(↑x6:Int))∧(dm (f9 a b f p q Yi) out x1=dm (f9 a b f p q Yi) out x6)))))))))))))))))))))))))))) ((dm (f9 a b f p q Yi) out x1=dX (p.length) a b (Yi.toNat) (p.length - f.length) f p q out)∧True)) ((dm (f9 a b f p q Yi) out x1=dX (p.length) a b (Yi.toNat) (p.length - f.length) f p q out)∧True))))))
theorem Th (d:Nat) (a:List (List (List Int))) (b:List (List (List Int))) (f:List Int) (p:List Int) (q:List Int) (Yi:Int) (out:List (List Int)):aC Tryz.prog (af (JQ d)) ah (JP (d+1) a b f p q Yi out) Tryz.f217 (aE Tryz.f217) [(6,0)] [.c (.r3 .i64 (a)),.c (.r3 .i64 (b)),.c (.ints .i64 (f)),.c (.ints .i64 (p)),.c (.ints .i64 (q)),.c (.int .i64 (Yi)),.c (.rows .i64 (out))] (nR (d+1) a b f p q Yi out)=BS d a b f p q Yi out:=by kernel_rfl
theorem Ti (d:Nat) (a:List (List (List Int))) (b:List (List (List Int))) (f:List Int) (p:List Int) (q:List Int) (Yi:Int) (out:List (List Int)) (Yh:(nR (d+1) a b f p q Yi out).pre):BS d a b f p q Yi out:=by
 simp only [nR,BS,eM,f9,aG,u1,u2,u3,u4,u5,u6,u7,u8,u9,v1,v2,v3,v4,v5,v6,v7,v8,v9,w1,w2,w3,w4,aH,aa,ab,ae,ar] at Yh ⊢;obtain ⟨⟨h1,h2⟩,h3,h4,h5,h6,h7,h8,h9,h10,h11,h12,h13,h14,h15⟩:=Yh;refine ⟨fun e=>⟨by omega,by omega,?_⟩,fun e=>⟨⟨0,⟨by omega,by omega⟩,rfl,rfl⟩,fun y ⟨hy,hfl⟩=>⟨fun y2=>⟨fun hlt=>?_,fun hlt=>?_⟩,fun y2=>?_⟩⟩⟩
 ·rw [show p.length - f.length=0 by omega];rfl
 ·have hm:∀m,dm (eB p.length a b Yi.toNat (dX p.length a b Yi.toNat (p.length - f.length - 1)) f p q) out y=m→dm (eB p.length a b Yi.toNat (dX p.length a b Yi.toNat (p.length - f.length - 1)) f p q) out (y+1)=eB p.length a b Yi.toNat (dX p.length a b Yi.toNat (p.length - f.length - 1)) f p q y m:=fun m e=>by rw [dm,e]
  generalize dm (eB p.length a b Yi.toNat (dX p.length a b Yi.toNat (p.length - f.length - 1)) f p q) out y=o at *
  have hm:=hm o rfl
  have hlt2:o.length<Yi.toNat:=by omega
  have next:∀r,eB p.length a b Yi.toNat (dX p.length a b Yi.toNat (p.length - f.length - 1)) f p q y o=r→r=dm (eB p.length a b Yi.toNat (dX p.length a b Yi.toNat (p.length - f.length - 1)) f p q) out (y+1):=fun r e=>by rw [hm,e]
  refine ⟨by omega,by omega,by omega,fun m=>⟨by omega,y+1,⟨by omega,by omega⟩,by omega,by omega,next _ ?_⟩,fun m=>⟨by omega,by omega,fun c=>⟨by omega,y+1,⟨by omega,by omega⟩,by omega,by omega,next _ ?_⟩,fun c=>⟨⟨h4,by omega,by omega,by omega,h5,by rw [h8];exact h9,by rw [h8];exact h10,by rw [h8];exact JO h13 (by omega)⟩,fun g=>⟨by omega,y+1,⟨by omega,by omega⟩,by omega,by omega,next _ ?_⟩,fun g=>⟨by omega,by omega,by omega,by omega,⟨h4,h5,by omega,h6,h7,h9,h10,BR h11 rfl _,BR h12 h7 _⟩,fun r=>?_,fun r=>⟨by omega,y+1,⟨by omega,by omega⟩,by omega,by omega,next _ ?_⟩⟩⟩⟩⟩
  ·rw [eB,if_pos hlt2,if_pos (.inl m)]
  ·rw [eB,if_pos hlt2,if_pos (.inr (.inl c))]
  ·rw [eB,if_pos hlt2,if_pos (.inr (.inr g))]
  ·have ok:=JM r
   obtain ⟨l1,l2,l3,l4⟩:=pE _ _ _ _ _ _ ok;rw [l1];refine ⟨⟨⟨by omega,by omega⟩,by omega,h4,h5,h6,by omega,h8,h9,h10,fun i hi=>?_,fun i hi=>?_,JO h13 (by omega),hlt,h15⟩,by omega,y+1,⟨by omega,by omega⟩,by omega,by omega,next _ ?_⟩
   ·have:=l3 i hi;omega
   ·have:=l4 i hi;omega
   ·rw [eB,if_pos hlt2,if_neg (by rintro (z | z | z);exact m z;exact z c;rw [g] at z;cases z),ok]
    simp only;rw [show p.length - f.length - 1=p.length - (f.length+(0+1)) by omega]
  ·rw [eB,if_pos hlt2,if_neg (by rintro (z | z | z);exact m z;exact z c;rw [g] at z;cases z),JN r]
 ·rw [show p.length - f.length=(p.length - f.length - 1)+1 by omega,dX]
  have:=II (n:=p.length) (a:=a) (b:=b) (Yi:=Yi.toNat) (rec:=dX p.length a b Yi.toNat (p.length - f.length - 1)) (f:=f) (c:=p) (d:=q) (out:=out) (y:=y) (by omega) (p.length - y)
  rw [show y+(p.length - y)=p.length by omega] at this
  exact this.symm
 ·rw [show y=p.length by omega]
  generalize hk:p.length - f.length - 1=k
  rw [show p.length - f.length=k+1 by omega];rfl
theorem Tj (a:List (List (List Int))) (b:List (List (List Int))) (f:List Int) (p:List Int) (q:List Int) (Yi:Int) (out:List (List Int)) (h:(nR 0 a b f p q Yi out).pre):False:=by
 simp only [nR] at h;omega
theorem Tk (d:Nat):Fits Tryz.prog 217 ⟨[(6,0)],pQ d⟩:=by
 induction d with
 | zero =>
  refine Fo ⟨Tryz.f217,Tryz.func217,by kernel_rfl,by kernel_rfl⟩ (by decide) fun ds p h hp=>?_
  unfold pQ at h;split at h
  ·cases h
   exact Tj _ _ _ _ _ _ _  hp
  ·cases h
 | succ d ih =>
  refine xo (Γ:=af (JQ d)) (aj uG (aj Bn (aj IU (aj I0 (aj ih aF))))) Tryz.func217 (by kernel_rfl) (by kernel_rfl) (by kernel_rfl) fun ds p h hp=>?_
  unfold pQ at h;split at h
  ·cases h
   exact ⟨ah,JP _ _ _ _ _ _ _ _ ,by rw [Th];exact Ti _ _ _ _ _ _ _ _  hp⟩
  ·cases h
def g4 (a b:List (List (List Int))) (Yi:Int):List (List Int):=if nT a=nT b then l8 (nT a) a b Yi.toNat else []
theorem JR {n:Nat} (j:Nat):∀i,i<n→0≤((List.replicate n (0:Int)).set j 60).getD i 0∧((List.replicate n (0:Int)).set j 60).getD i 0≤60 :=
 BR (fun i hi=>by simp [List.getD_eq_getElem?_getD,hi]) (by simp) j
def uH (a:List (List (List Int))) (b:List (List (List Int))) (f:List Int) (Yi:Int):Post:=⟨f=[0]∧1≤a.length∧a.length≤1000∧b.length=a.length∧1≤nT a∧nT a≤12∧bQ (nT a) a∧bQ (nT b) b∧1≤Yi∧Yi≤1000000,.c (.rows 57 2 .i64 (g4 a b Yi)),[]⟩
def BT:List AD→Option Post
 | [.c (.r3 .i64 (a)),.c (.r3 .i64 (b)),.c (.ints .i64 (f)),.c (.int .i64 (Yi))]=>some (uH a b f Yi)
 | _=>none
def JS:List (Nat×Ctr):=[(215,⟨[],ud⟩),(216,⟨[],uh⟩),(217,⟨[(6,0)],pQ 13⟩)]
def c7 (a:List (List (List Int))):=(List.replicate ((↑((a.getD (0:Nat) ([]:List (List Int))).length):Int).toNat) (0:Int))
def eN (a:List (List (List Int))) (b:List (List (List Int))):=(dR ((List.set (c7 a) (0:Nat) (60:Int)).length) a b (List.set (c7 a) (0:Nat) (60:Int)) (List.set (c7 a) (0:Nat) (60:Int)))
def eO (a:List (List (List Int))) (b:List (List (List Int))):=(dR ((c7 a).length) a b (c7 a) (c7 a))
def ka (a:List (List (List Int))):=(↑((a.getD (0:Nat) ([]:List (List Int))).length):Int)
def BU (a:List (List (List Int))) (b:List (List (List Int))) (f:List Int) (Yi:Int):Prop :=
 ((aa (0:Int) (a.length))∧((aa (0:Int) (b.length))∧(ac ((↑((a.getD (0:Nat) ([]:List (List Int))).length):Int) != (↑((b.getD (0:Nat) ([]:List (List Int))).length):Int)) ((([]:List (List Int))=g4 a b Yi)∧True) ((aa (0:Int) (a.length))∧((((0:Int)≤(ka a))∧(((ka a)≤(ka a))∧(ae ((ka a).toNat))))∧((aa (0:Int) (a.length))∧((((0:Int)≤(ka a))∧(((ka a)≤(ka a))∧(ae ((ka a).toNat))))∧(ac (decide ((0:Int)<(↑(f.length):Int))) ((((a.length≤(1000:Nat))∧((nT a≤(1000:Nat))∧(((1:Nat)≤f.length)∧((f.length≤nT a)∧((b.length=a.length)∧((bQ (nT a) a)∧((bQ (nT a) b)∧(∀(i:Nat),i<f.length→(0:Int)≤f.getD i (0:Int)∧f.getD i (0:Int)<(↑(nT a):Int)))))))))∧True)∧(ac (!dK a b f) ((([]:List (List Int))=g4 a b Yi)∧True) ((aa (0:Int) ((c7 a).length))∧((aa (0:Int) ((c7 a).length))∧((((a.length≤(1000:Nat))∧((b.length=a.length)∧(((1:Nat)≤(List.set (c7 a) (0:Nat) (60:Int)).length)∧(((List.set (c7 a) (0:Nat) (60:Int)).length≤(12:Nat))∧(((List.set (c7 a) (0:Nat) (60:Int)).length=(List.set (c7 a) (0:Nat) (60:Int)).length)∧((bQ ((List.set (c7 a) (0:Nat) (60:Int)).length) a)∧((bQ ((List.set (c7 a) (0:Nat) (60:Int)).length) b) ∧
 ((∀(i:Nat),i<(List.set (c7 a) (0:Nat) (60:Int)).length→(0:Int)≤(List.set (c7 a) (0:Nat) (60:Int)).getD i (0:Int)∧(List.set (c7 a) (0:Nat) (60:Int)).getD i (0:Int)≤(60:Int))∧(∀(i:Nat),i<(List.set (c7 a) (0:Nat) (60:Int)).length→(0:Int)≤(List.set (c7 a) (0:Nat) (60:Int)).getD i (0:Int)∧(List.set (c7 a) (0:Nat) (60:Int)).getD i (0:Int)≤(60:Int))))))))))∧True)∧(ac (!((dR ((List.set (List.replicate ((↑((a.getD (0:Nat) ([]:List (List Int))).length):Int).toNat) (0:Int)) (0:Nat) (60:Int)).length) a b (List.set (List.replicate ((↑((a.getD (0:Nat) ([]:List (List Int))).length):Int).toNat) (0:Int)) (0:Nat) (60:Int)) (List.set (List.replicate ((↑((a.getD (0:Nat) ([]:List (List Int))).length):Int).toNat) (0:Int)) (0:Nat) (60:Int))).2).2) ((([]:List (List Int))=g4 a b Yi)∧True) (((((f.length≤((eN a b).1).length)∧(((eN a b).1).length<(13:Nat)+f.length))∧(((1:Nat)≤f.length)∧((a.length≤(1000:Nat))∧((b.length=a.length)∧((((eN a b).1).length≤(12:Nat))∧(((((eN a b).2).1).length=((eN a b).1).length)∧((nT a=((eN a b).1).length)∧((bQ (((eN a b).1).length) a)∧((bQ (((eN a b).1).length) b)∧((∀(i:Nat),i<((eN a b).1).length→(0:Int)≤((eN a b).1).getD i (0:Int)∧((eN a b).1).getD i (0:Int)≤(60:Int)) ∧
 ((∀(i:Nat),i<((eN a b).1).length→(0:Int)≤(((eN a b).2).1).getD i (0:Int)∧(((eN a b).2).1).getD i (0:Int)≤(60:Int))∧((∀(i:Nat),i<f.length→(0:Int)≤f.getD i (0:Int)∧f.getD i (0:Int)<(↑(((eN a b).1).length):Int))∧(((↑(([]:List (List Int)).length):Int)<Yi)∧(Yi≤(1000000:Int)))))))))))))))∧(True∧True))∧((dX (((eN a b).1).length) a b (Yi.toNat) (((eN a b).1).length - f.length) f ((eN a b).1) (((eN a b).2).1) ([]:List (List Int))=g4 a b Yi)∧True)))))))) ((((a.length≤(1000:Nat))∧((b.length=a.length)∧(((1:Nat)≤(c7 a).length)∧(((c7 a).length≤(12:Nat))∧(((c7 a).length=(c7 a).length)∧((bQ ((c7 a).length) a)∧((bQ ((c7 a).length) b)∧((∀(i:Nat),i<(c7 a).length→(0:Int)≤(c7 a).getD i (0:Int)∧(c7 a).getD i (0:Int)≤(60:Int))∧(∀(i:Nat),i<(c7 a).length→(0:Int)≤(c7 a).getD i (0:Int)∧(c7 a).getD i (0:Int)≤(60:Int))))))))))∧True)∧(ac (!((dR ((List.replicate ((↑((a.getD (0:Nat) ([]:List (List Int))).length):Int).toNat) (0:Int)).length) a b (List.replicate ((↑((a.getD (0:Nat) ([]:List (List Int))).length):Int).toNat) (0:Int)) (List.replicate ((↑((a.getD (0:Nat) ([]:List (List Int))).length):Int).toNat) (0:Int))).2).2) ((([]:List (List Int))=g4 a b Yi)∧True) (((((f.length≤((eO a b).1).length) ∧
 (((eO a b).1).length<(13:Nat)+f.length))∧(((1:Nat)≤f.length)∧((a.length≤(1000:Nat))∧((b.length=a.length)∧((((eO a b).1).length≤(12:Nat))∧(((((eO a b).2).1).length=((eO a b).1).length)∧((nT a=((eO a b).1).length)∧((bQ (((eO a b).1).length) a)∧((bQ (((eO a b).1).length) b)∧((∀(i:Nat),i<((eO a b).1).length→(0:Int)≤((eO a b).1).getD i (0:Int)∧((eO a b).1).getD i (0:Int)≤(60:Int))∧((∀(i:Nat),i<((eO a b).1).length→(0:Int)≤(((eO a b).2).1).getD i (0:Int)∧(((eO a b).2).1).getD i (0:Int)≤(60:Int))∧((∀(i:Nat),i<f.length→(0:Int)≤f.getD i (0:Int)∧f.getD i (0:Int)<(↑(((eO a b).1).length):Int))∧(((↑(([]:List (List Int)).length):Int)<Yi)∧(Yi≤(1000000:Int)))))))))))))))∧(True∧True))∧((dX (((eO a b).1).length) a b (Yi.toNat) (((eO a b).1).length - f.length) f ((eO a b).1) (((eO a b).2).1) ([]:List (List Int))=g4 a b Yi)∧True))))))))))))
theorem Tl (a:List (List (List Int))) (b:List (List (List Int))) (f:List Int) (Yi:Int):aC Tryz.prog (af JS) ah am Tryz.f168 (aE Tryz.f168) [] [.c (.r3 .i64 (a)),.c (.r3 .i64 (b)),.c (.ints .i64 (f)),.c (.int .i64 (Yi))] (uH a b f Yi)=BU a b f Yi:=by kernel_rfl
theorem Tm (a:List (List (List Int))) (b:List (List (List Int))) (f:List Int) (Yi:Int) (Yh:(uH a b f Yi).pre):BU a b f Yi:=by
 simp only [uH,BU,c7,eN,eO,ka,aG,u1,u2,u3,u4,u5,u6,u7,u8,u9,v1,v2,v3,v4,v5,v6,v7,v8,v9,w1,w2,w3,w4,aH,aa,ab,ae,ar] at Yh ⊢;obtain ⟨rfl,h1,h2,h3,h4,h5,h6,h7,h8,h9⟩:=Yh;have ea:(a.getD 0 []).length=nT a:=rfl
 have eb:(b.getD 0 []).length=nT b:=rfl
 simp only [ea,eb,List.length_cons,List.length_nil];refine ⟨by omega,by omega,fun q=>?_,fun q=>?_⟩
 ·rw [g4,if_neg (by omega)]
 have e:nT a=nT b:=by omega
 rw [←e] at h7;have R:g4 a b Yi=l8 (nT a) a b Yi.toNat:=if_pos e
 rw [R];refine ⟨by omega,by omega,by omega,by omega,fun _=>⟨⟨h2,by omega,by omega,by omega,h3,h6,h7,fun i hi=>?_⟩,fun z=>?_,fun z=>⟨by omega,by omega,⟨h2,h3,h4,h5,h6,h7,JR 0,JR 0⟩,fun y=>?_,fun y=>?_⟩⟩,fun z=>absurd z (by omega)⟩
 ·have:i=0:=by omega
  subst this;simp;omega
 ·rw [l8,if_pos z]
 ·rw [l8,if_neg (by rw [z];simp),JN y]
 ·have ok:=JM y
  obtain ⟨l1,l2,l3,l4⟩:=pE _ _ _ _ _ _ ok;rw [l1];refine ⟨⟨⟨by omega,by omega⟩,by omega,h2,h3,h5,by omega,rfl,h6,h7,fun i hi=>?_,fun i hi=>?_,fun i hi=>?_,by omega,by omega⟩,?_⟩
  ·have:=l3 i hi;omega
  ·have:=l4 i hi;omega
  ·have:i=0:=by omega
   subst this;simp;omega
  ·rw [l8,if_neg (by rw [z];simp),ok]
theorem Tn:Fits Tryz.prog 168 ⟨[],BT⟩:=by
 refine aJ (Γ:=af JS) (aj IU (aj I0 (aj (Tk 13) aF))) Tryz.func168 fun ds p h hp=>?_
 unfold BT at h;split at h
 ·cases h
  exact ⟨ah,am,by rw [Tl];exact Tm _ _ _ _  hp⟩
 ·cases h
def uI (t:List (List Int)):Post:=⟨au t,.c (.rows 57 2 .i64 (t)),[]⟩
def uJ:List AD→Option Post
 | [.c (.rows .i64 (t))]=>some (uI t)
 | _=>none
def JT (t:List (List Int)):Nat→Option Ann
 | 0=>some (Ann.mk ((Nat)) (fun i=>⟨[(0,.c (.ro (.rows .i64 (t)))),(3,.c (.own (5))),(4,.c (.int .i64 ((i:Int))))],[(5,some (.rows 0 57 2 .i64 (t.take i)))]⟩) (fun i=>i≤t.length) (fun i=>t.length - i) (fun _=>am))
 | _=>none
def JU:List (Nat×Ctr):=[(183,⟨[],nQ⟩)]
def BV (t:List (List Int)):Prop :=
 ((∃x0:Nat,((x0≤t.length)∧((t=t)∧(((0:Int)=(↑x0:Int))∧(([]:List (List Int))=List.take x0 t)))))∧(∀x1:Nat,((x1≤t.length)→(ac (decide ((↑x1:Int)<(↑(t.length):Int))) ((aa (↑x1:Int) (t.length))∧(((ae ((t.getD ((↑x1:Int).toNat) []).length))∧True)∧((ae ((List.take x1 t).length+(t.getD ((↑x1:Int).toNat) []::([]:List (List Int))).length))∧((ab ((↑x1:Int)+(1:Int)))∧(∃x2:Nat,((x2≤t.length)∧((t.length - x2<t.length - x1)∧((t=t)∧(((↑x1:Int)+(1:Int)=(↑x2:Int))∧(List.take x1 t++t.getD ((↑x1:Int).toNat) []::([]:List (List Int))=List.take x2 t)))))))))) ((List.take x1 t=t)∧True)))))
theorem To (t:List (List Int)):aC Tryz.prog (af JU) ah (JT t) Tryz.f128 (aE Tryz.f128) [] [.c (.rows .i64 (t))] (uI t)=BV t:=by kernel_rfl
theorem Tp (t:List (List Int)) (Yh:(uI t).pre):BV t:=by
 simp only [uI,BV,aG,u1,u2,u3,u4,u5,u6,u7,u8,u9,v1,v2,v3,v4,v5,v6,v7,v8,v9,w1,w2,w3,w4,aH,aa,ab,ae,ar] at Yh ⊢;have h1:=Yh.1
 refine ⟨⟨0,by omega,rfl,by simp⟩,fun i hi=>⟨fun h=>⟨by omega,XV Yh i (by omega),by omega,by omega,i+1,by omega,by omega,by omega,dF _ _ _ (by omega)⟩,fun h=>List.take_of_length_le (by omega)⟩⟩
theorem JV:Fits Tryz.prog 128 ⟨[],uJ⟩:=by
 refine aJ (Γ:=af JU) (aj uG aF) Tryz.func128 fun ds p h hp=>?_
 unfold uJ at h;split at h
 ·cases h
  exact ⟨ah,JT _ ,by rw [To];exact Tp _  hp⟩
 ·cases h
end Go.Sx
