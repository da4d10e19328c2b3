/- CirP -/
import Derived.Test.YtkmldclpaniclaaGreatMapD
import Derived.Test.YtkmldclpaniclaaGreatLists
import Derived.Test.YtkmldclpaniclaaGreatRack
import Derived.Test.YtkmldclpaniclaaGreatMapA
set_option linter.unusedSimpArgs false
set_option linter.unusedVariables false
section
open Go Go.Proofs
namespace Go.Sx
def qG(t:V8):Post:=⟨aM t,.c (.rows 62 2 .i64 t),[]⟩
def qH:List AD->Option Post
 | [.c (.rows .i64 t)]=>some (qG t)
 |_=>none
def EQ(t:V8):Nat->Option Ann
 |0=>some (Ann.mk ((Nat)) (fun i=>⟨[(0,.c (.ro (.rows .i64 t))),(3,.c (.own 5)),(4,.c (.int .i64 ((i:Int))))],[(5,some (.rows 0 62 2 .i64 (t.take i)))]⟩) (fun i=>i<=t.length) (fun i=>t.length-i) (fun _=>am))
 |_=>none
def ER:List (Nat×Ctr):=[(144,⟨[],m8⟩)]
def wJ(t:V8):Prop :=
 (∃x0:Nat,x0<=t.length/\t=t/\(0:Int)=(x0:Int)/\([]:V8)=List.take x0 t)/\∀x1:Nat,x1<=t.length->ae (decide ((x1:Int)<(t.length:Int))) (aa (x1:Int) t.length/\(af ((t.getD (x1:Int).toNat []).length)/\True)/\af ((List.take x1 t).length+(t.getD (x1:Int).toNat []::([]:V8)).length)/\ac ((x1:Int)+(1:Int))/\∃x2:Nat,x2<=t.length/\t.length-x2<t.length-x1/\t=t/\(x1:Int)+(1:Int)=(x2:Int)/\List.take x1 t++t.getD (x1:Int).toNat []::([]:V8)=List.take x2 t) (List.take x1 t=t/\True)
theorem Nq(t:V8):aJ Tryz.prog (ai ER) ak (EQ t) Tryz.f96 (aE Tryz.f96) [] [.c (.rows .i64 t)] (qG t)=wJ t:=by kernel_rfl
theorem Nr(t:V8)(Yh:(qG t).pre):wJ t:=by
 simp only[qG,wJ,aG,u1,u2,u3,u4,u5,u6,u7,u8,u9,v1,v2,v3,v4,v5,v6,v7,v8,v9,w1,w2,w3,w4,aH,aa,ac,af,ar]at Yh⊢;have h1:=Yh.1
 refine⟨⟨0,by omega,rfl,by simp⟩,fun i hi=>⟨fun h=>⟨by omega,yA Yh i (by omega),by omega,by omega,i+1,by omega,by omega,by omega,dF _ _ _ (by omega)⟩,fun h=>List.take_of_length_le (by omega)⟩⟩
theorem ES:Fits Tryz.prog 96 ⟨[],qH⟩:=by
 refine aO (Γ:=ai ER) (aw sD aF) Tryz.func96 fun ds p h hp=>?_
 unfold qH at h;split at h
 ·cases h
  exact⟨ak,EQ _ ,by rw[Nq];exact Nr _  hp⟩
 ·cases h
end Go.Sx
end
section
section
open Go Go.Proofs
namespace Go.Sx
end Go.Sx
end
section
open Go Go.Proofs
namespace Go.Sx
def jq(n:Int)(t:V8):Prop:=(t.length:Int)=n/\∀i,i<t.length->((t.getD i []).length:Int)=n/\∀j,j<t.length->0<=(t.getD i []).getD j 0/\(t.getD i []).getD j 0<=n-1
def eS(t:V8)(p:V7)(x:Nat):Nat->V8->V8
 |0,o=>o
 |y+1,o=>let o':=eS t p x y o
  o'.set (p.getD x 0).toNat ((o'.getD (p.getD x 0).toNat []).set (p.getD y 0).toNat (p.getD ((t.getD x []).getD y 0).toNat 0))
def bz(t:V8)(p:V7):Nat->V8
 |0=>t
 |x+1=>eS t p x t.length (bz t p x)
theorem Ns{n:Int}{o:V8}(h:jq n o){k j:Nat}(hk:(k:Int)<n)(hj:(j:Int)<n){v:Int}(h0:0<=v)(h1:v<=n-1):jq n (o.set k ((o.getD k []).set j v)):=by
 refine⟨by rw[List.length_set];exact h.1,fun i hi=>?_⟩
 rw[List.length_set]at hi;have e:=h.2 i hi
 by_cases hik:k=i
 ·subst hik
  have:(o.set k ((o.getD k []).set j v)).getD k []=(o.getD k []).set j v:=by
   rw[List.getD_eq_getElem?_getD,List.getElem?_set_self hi];rfl
  rw[this,List.length_set,List.length_set];refine⟨e.1,fun x hx=>?_⟩
  by_cases hxj:j=x
  ·subst hxj
   have:((o.getD k []).set j v).getD j 0=v:=by
    rw[List.getD_eq_getElem?_getD,List.getElem?_set_self (by omega)];rfl
   rw[this];exact⟨h0,h1⟩
  ·have:((o.getD k []).set j v).getD x 0=(o.getD k []).getD x 0:=by
    rw[List.getD_eq_getElem?_getD,List.getElem?_set_ne hxj,<-List.getD_eq_getElem?_getD]
   rw[this];exact e.2 x hx
 ·have:(o.set k ((o.getD k []).set j v)).getD i []=o.getD i []:=by
   rw[List.getD_eq_getElem?_getD,List.getElem?_set_ne hik,<-List.getD_eq_getElem?_getD]
  rw[this,List.length_set];exact e
section
variable {t:V8} {p:V7} (ht:jq (t.length:Int) t) (hp:p.length=t.length) (hq:∀i,i<p.length->0<=p.getD i 0/\p.getD i 0<=(t.length:Int)-1)
include ht hp hq
theorem wK(x:Nat)(hx:x<t.length):∀(y:Nat),y<=t.length->∀o,jq (t.length:Int) o->jq (t.length:Int) (eS t p x y o)
 |0,_,o,h=>h
 |y+1,hy,o,h=>by
  have e:=wK x hx y (by omega) o h
  have q1:=hq x (by omega)
  have q2:=hq y (by omega)
  have t1:=(ht.2 x hx).2 y (by omega)
  have q3:=hq ((t.getD x []).getD y 0).toNat (by omega)
  exact Ns e (by omega) (by omega) q3.1 q3.2
theorem ET:∀(x:Nat),x<=t.length->jq (t.length:Int) (bz t p x)
 |0,_=>ht
 |x+1,hx=>wK ht hp hq x (by omega) _ (Nat.le_refl _) _ (ET x (by omega))
end
def qI(t:V8)(p:V7):Post:=⟨aM t/\t.length<=144/\jq (t.length:Int) t/\p.length=t.length/\(∀i,i<p.length->0<=p.getD i 0/\p.getD i 0<=(t.length:Int)-1),.c (.rows 62 2 .i64 (bz t p t.length)),[]⟩
def wL:List AD->Option Post
 | [.c (.rows .i64 t),.c (.ints .i64 p)]=>some (qI t p)
 |_=>none
def EU(t:V8)(p:V7):Nat->Option Ann
 |0=>some (Ann.mk ((Nat)) (fun i=>⟨[(0,.c (.ro (.rows .i64 t))),(1,.c (.ro (.ints .i64 p))),(5,.c (.own 9)),(6,.c (.int .i64 ((i:Int))))],[(9,some (.rows 0 62 2 .i64 (bz t p i)))]⟩) (fun i=>i<=t.length) (fun i=>t.length-i) (fun i=>fun b_=>match b_ with|2=>some (Ann.mk ((Nat)) (fun j=>⟨[(0,.c (.ro (.rows .i64 t))),(1,.c (.ro (.ints .i64 p))),(5,.c (.own 9)),(6,.c (.int .i64 ((i:Int)))),(7,.c (.int .i64 ((j:Int))))],[(9,some (.rows 0 62 2 .i64 (eS t p i j (bz t p i))))]⟩) (fun j=>j<=t.length/\i<t.length) (fun j=>t.length-j) (fun _=>am))|_=>none))
 |_=>none
def EW:List (Nat×Ctr):=[(96,⟨[],qH⟩)]
def wM(t:V8)(p:V7):Prop :=
 ((aM t/\True)/\((∃x0:Nat,x0<=t.length/\t=t/\p=p/\(0:Int)=(x0:Int)/\t=bz t p x0)/\(∀x1:Nat,(x1<=t.length->(ae (decide ((x1:Int)<(t.length:Int))) ((∃x2:Nat,(x2<=t.length/\x1<t.length)/\t=t/\p=p/\(x1:Int)=(x1:Int)/\(0:Int)=(x2:Int)/\bz t p x1=eS t p x1 x2 (bz t p x1))/\(∀x3:Nat,(x3<=t.length/\x1<t.length->(ae (decide ((x3:Int)<(t.length:Int))) (aa (x1:Int) p.length/\aa (p.getD (x1:Int).toNat (0:Int)) ((eS t p x1 x3 (bz t p x1)).length)/\aa (x3:Int) p.length/\aa (x1:Int) t.length/\aa (x3:Int) ((t.getD (x1:Int).toNat []).length)/\aa ((List.getD t (x1:Int).toNat []).getD (x3:Int).toNat (0:Int)) p.length/\aa (p.getD (x3:Int).toNat (0:Int)) (((eS t p x1 x3 (bz t p x1)).getD ((p.getD (x1:Int).toNat (0:Int)).toNat) []).length)/\ac ((x3:Int)+(1:Int))/\∃x4:Nat,(x4<=t.length/\x1<t.length)/\t.length-x4<t.length-x3/\t=t/\p=p/\(x1:Int)=(x1:Int)/\(x3:Int)+(1:Int)=(x4:Int)/\List.set (eS t p x1 x3 (bz t p x1)) ((p.getD (x1:Int).toNat (0:Int)).toNat) (List.set ((eS t p x1 x3 (bz t p x1)).getD ((p.getD (x1:Int).toNat (0:Int)).toNat) []) ((p.getD (x3:Int).toNat (0:Int)).toNat) (p.getD (((List.getD t (x1:Int).toNat []).getD (x3:Int).toNat (0:Int)).toNat) (0:Int)))=eS t p x1 x4 (bz t p x1)) (ac ((x1:Int)+(1:Int))/\(∃x5:Nat,((x5<=t.length) /\
 ((t.length-x5<t.length-x1)/\((t=t)/\((p=p)/\(((x1:Int)+(1:Int)=(x5:Int))/\(eS t p x1 x3 (bz t p x1)=bz t p x5)))))))))))) ((bz t p x1=bz t p t.length)/\True))))))
theorem Nt(t:V8)(p:V7):aJ Tryz.prog (ai EW) ak (EU t p) Tryz.f143 (aE Tryz.f143) [] [.c (.rows .i64 t),.c (.ints .i64 p)] (qI t p)=wM t p:=by kernel_rfl
theorem Nu(t:V8)(p:V7)(Yh:(qI t p).pre):wM t p:=by
 simp only[qI,wM,aG,u1,u2,u3,u4,u5,u6,u7,u8,u9,v1,v2,v3,v4,v5,v6,v7,v8,v9,w1,w2,w3,w4,aH,aa,ac,af,ar]at Yh⊢;obtain⟨r0,h0,h1,h2,h3⟩:=Yh;have q:=fun x (hx:x<t.length)=>h3 x (by omega)
 have I:=ET h1 (by omega) h3
 refine⟨r0,⟨0,by omega,rfl,rfl⟩,fun i hi=>⟨fun h=>⟨⟨0,⟨by omega,by omega⟩,rfl,rfl⟩,fun j ⟨hj,_⟩=>⟨fun h4=>?_,fun h4=>?_⟩⟩,fun h=>by rw[show i=t.length by omega]⟩⟩
 ·have C:=wK h1 (by omega) h3 i (by omega) j (by omega) _ (I i (by omega))
  have q1:=q i (by omega)
  have q2:=q j (by omega)
  have t1:=h1.2 i (by omega)
  have t2:=t1.2 j (by omega)
  have c1:=C.1
  have c2:=(C.2 (p.getD i 0).toNat (by omega)).1
  exact⟨by omega,by omega,by omega,by omega,by omega,by omega,by omega,by omega,j+1,by omega,by omega,by omega,rfl⟩
 ·exact⟨by omega,i+1,by omega,by omega,by omega,by rw[show j=t.length by omega];rfl⟩
theorem Nv:Fits Tryz.prog 143 ⟨[],wL⟩:=by
 refine aO (Γ:=ai EW) (aw ES aF) Tryz.func143 fun ds p h hp=>?_
 unfold wL at h;split at h
 ·cases h
  exact⟨ak,EU _ _ ,by rw[Nt];exact Nu _ _  hp⟩
 ·cases h
end Go.Sx
end
section
open Go Go.Proofs
namespace Go.Sx
def eU(p:V7):Nat->V7
 |0=>List.replicate p.length 0
 |i+1=>(eU p i).set (p.getD i 0).toNat (i:Int)
def cD(p:V7):V7:=eU p p.length
def aY(p q:V7):V7:=p.map fun x=>q.getD x.toNat 0
theorem mL(p:V7):∀i,(eU p i).length=p.length
 |0=>by simp[eU]
 |i+1=>by rw[eU,List.length_set,mL p i]
def iS(n:Nat)(p:V7):Prop:=∀i,i<p.length->0<=p.getD i 0/\p.getD i 0<(n:Int)
def qJ(p:V7)(q:V7):Post:=⟨af p.length/\iS q.length p,.c (.ints 2 .i64 (aY p q)),[]⟩
def qK:List AD->Option Post
 | [.c (.ints .i64 p),.c (.ints .i64 q)]=>some (qJ p q)
 |_=>none
def EX(p:V7)(q:V7):Nat->Option Ann
 |0=>some (Ann.mk ((Nat)) (fun i=>⟨[(0,.c (.ro (.ints .i64 p))),(1,.c (.ro (.ints .i64 q))),(5,.c (.own 10)),(6,.c (.int .i64 ((i:Int))))],[(10,some (.ints 2 .i64 (aY (p.take i) q)))]⟩) (fun i=>i<=p.length) (fun i=>p.length-i) (fun _=>am))
 |_=>none
def EY:List (Nat×Ctr):=[]
def wN(p:V7)(q:V7):Prop :=
 (∃x0:Nat,x0<=p.length/\p=p/\q=q/\(0:Int)=(x0:Int)/\[]=aY (List.take x0 p) q)/\∀x1:Nat,x1<=p.length->ae (decide ((x1:Int)<(p.length:Int))) (aa (x1:Int) p.length/\aa (p.getD (x1:Int).toNat (0:Int)) q.length/\af ((aY (List.take x1 p) q).length+[q.getD ((p.getD (x1:Int).toNat (0:Int)).toNat) (0:Int)].length)/\ac ((x1:Int)+(1:Int))/\∃x2:Nat,x2<=p.length/\p.length-x2<p.length-x1/\p=p/\q=q/\(x1:Int)+(1:Int)=(x2:Int)/\aY (List.take x1 p) q++[q.getD ((p.getD (x1:Int).toNat (0:Int)).toNat) (0:Int)]=aY (List.take x2 p) q) (aY (List.take x1 p) q=aY p q/\True)
theorem Nx(p:V7)(q:V7):aJ Tryz.prog (ai EY) ak (EX p q) Tryz.f189 (aE Tryz.f189) [] [.c (.ints .i64 p),.c (.ints .i64 q)] (qJ p q)=wN p q:=by kernel_rfl
theorem Ny(p:V7)(q:V7)(Yh:(qJ p q).pre):wN p q:=by
 simp only[qJ,wN,aG,u1,u2,u3,u4,u5,u6,u7,u8,u9,v1,v2,v3,v4,v5,v6,v7,v8,v9,w1,w2,w3,w4,aH,aa,ac,af,ar]at Yh⊢;obtain⟨h1,h2⟩:=Yh;refine⟨⟨0,by omega,rfl,rfl⟩,fun i hi=>⟨fun h=>?_,fun h=>?_⟩⟩
 ·have hr:=h2 i (by omega)
  have hl:(aY (p.take i) q).length=i:=by rw[aY,List.length_map,List.length_take];omega
  refine⟨by omega,by omega,by omega,by omega,i+1,by omega,by omega,by omega,?_⟩
  rw[<-dF p 0 i (by omega),aY,aY,List.map_append];rfl
 ·rw[List.take_of_length_le (by omega)]
theorem EZ:Fits Tryz.prog 189 ⟨[],qK⟩:=by
 refine aO (Γ:=ai EY) aF Tryz.func189 fun ds p h hp=>?_
 unfold qK at h;split at h
 ·cases h
  exact⟨ak,EX _ _ ,by rw[Nx];exact Ny _ _  hp⟩
 ·cases h
end Go.Sx
end
end
section
open Go Go.Proofs
namespace Go.Sx
/- Permutations of n elements that are closed. -/
structure AuOk (n:Nat) (A:V8):Prop where
 pos:1<=A.length
 len:∀i,i<A.length->(A.getD i []).length=n
 rng:∀i x,i<A.length->x<n->0<=en A i x/\en A i x<(n:Int)
 cl:∀i j,i<A.length->j<A.length->aY (A.getD i []) (A.getD j [])∈A
def ld(A:V8)(i j:Int):Nat:=dS A (aY (A.getD i.toNat []) (A.getD j.toNat []))
structure KOk (n m:Nat) (K:V7):Prop where
 len:K.length=n
 rng:∀x,x<n->-1<=K.getD x 0/\K.getD x 0<(m:Int)
theorem KOk.set{n m:Nat}{K:V7}(h:KOk n m K)(z:Nat){w:Int}(hw:-1<=w/\w<(m:Int)):KOk n m (K.set z w) where
 len:=by rw[List.length_set];exact h.len
 rng x hx:=by
  rw[hZ _ _ _ _ (by rw[h.len];exact hx)]
  split
  ·exact hw
  ·exact h.rng x hx
def aA(K:V7):Nat:=K.countP fun x=>decide (x<0)
theorem ox{K:V7}{z:Nat}{w:Int}(hz:z<K.length)(h:K.getD z 0<0)(hw:0<=w):aA (K.set z w)+1=aA K:=by
 unfold aA
 induction K generalizing z with
 |nil=>simp at hz
 |cons k K ih =>
  cases z with
  |zero =>
   have h:k<0:=h
   have hw':¬ w<0:=by omega
   simp[h,hw']
  |succ z =>
   have:=ih (z:=z) (by simpa using hz) h
   simp only[List.set_cons_succ,List.countP_cons];omega
theorem wO(K:V7):aA K<=K.length:=List.countP_le_length
def bI(t A:V8)(o:V7)(x y:Nat):Nat:=(en t x (en A (o.getD x 0).toNat y).toNat).toNat
def dM(A:V8)(o:V7)(x y:Nat):Int:=(ld A (o.getD y 0) (o.getD x 0):Int)
def fV(t A:V8)(o:V7)(x y:Nat):Option V7 :=
 if o.getD x 0<0\/o.getD y 0<0 then some o
 else if o.getD (bI t A o x y) 0<0 then some (o.set (bI t A o x y) (dM A o x y))
 else if o.getD (bI t A o x y) 0=dM A o x y then some o else none
def dw(t A:V8)(o:V7)(x:Nat):Nat->Option V7
 |0=>some o
 |y+1=>(dw t A o x y).bind fun o'=>fV t A o' x y
def eD(t A:V8)(o:V7):Nat->Option V7
 |0=>some o
 |x+1=>(eD t A o x).bind fun o'=>dw t A o' x t.length
def eV(t A:V8):Nat->V7->Option V7
 |0,o=>some o
 |fu+1,o=>match eD t A o t.length with
  |none=>none
  |some o'=>if aA o'<aA o then eV t A fu o' else some o'
def c6(t A:V8)(K:V7):Option V7:=eV t A (t.length+1) K
section
variable {n:Nat} {t A:V8}
theorem mM(hA:AuOk n A){o:V7}(ho:KOk n A.length o){x y:Nat}(hx:x<n)(hy:y<n)(h1:0<=o.getD x 0)(h2:0<=o.getD y 0):aY (A.getD (o.getD y 0).toNat []) (A.getD (o.getD x 0).toNat [])∈A/\0<=dM A o x y/\dM A o x y<(A.length:Int):=by
 have a:=ho.rng x hx
 have b:=ho.rng y hy
 have m:=hA.cl (o.getD y 0).toNat (o.getD x 0).toNat (by omega) (by omega)
 have:=(jx m).1
 refine⟨m,?_⟩
 unfold dM ld;omega
theorem lf(ht:ay n t)(hA:AuOk n A){o:V7}(ho:KOk n A.length o){x y:Nat}(hx:x<n)(hy:y<n)(h1:0<=o.getD x 0):(0<=en A (o.getD x 0).toNat y/\en A (o.getD x 0).toNat y<(n:Int))/\(0<=en t x (en A (o.getD x 0).toNat y).toNat/\en t x (en A (o.getD x 0).toNat y).toNat<(n:Int))/\bI t A o x y<n:=by
 have a:=ho.rng x hx
 have b:=hA.rng (o.getD x 0).toNat y (by omega) hy
 have c:=(ht.2 x hx).2 (en A (o.getD x 0).toNat y).toNat (by omega)
 refine⟨b,c,?_⟩
 unfold bI;omega
theorem E3(ht:ay n t)(hA:AuOk n A){o o':V7}(ho:KOk n A.length o){x y:Nat}(hx:x<n)(hy:y<n)(h:fV t A o x y=some o'):KOk n A.length o'/\aA o'<=aA o:=by
 unfold fV at h;split at h
 ·cases h;exact⟨ho,Nat.le_refl _⟩
 ·rename_i hn
  have h1:0<=o.getD x 0:=by omega
  have h2:0<=o.getD y 0:=by omega
  have w:=mM hA ho hx hy h1 h2
  have z:=lf ht hA ho hx hy h1
  split at h
  ·rename_i hz
   cases h;have:=ox (K:=o) (z:=bI t A o x y) (by rw[ho.len];exact z.2.2) hz w.2.1
   exact⟨ho.set _ ⟨by omega,w.2.2⟩,by omega⟩
  ·split at h
   ·cases h;exact⟨ho,Nat.le_refl _⟩
   ·cases h
theorem qL(ht:ay n t)(hA:AuOk n A){o:V7}(ho:KOk n A.length o){x:Nat}(hx:x<n):∀(y:Nat) {o':V7},y<=n->dw t A o x y=some o'->KOk n A.length o'/\aA o'<=aA o
 |0,o',_,h=>by cases h;exact⟨ho,Nat.le_refl _⟩
 |y+1,o',hy,h=>by
  rw[dw]at h;obtain⟨o1,h1,h2⟩:=Option.bind_eq_some_iff.1 h;have a:=qL ht hA ho hx y (by omega) h1
  have b:=E3 ht hA a.1 hx (by omega) h2
  exact⟨b.1,by omega⟩
theorem qM(ht:ay n t)(hA:AuOk n A){o:V7}(ho:KOk n A.length o):∀(x:Nat) {o':V7},x<=n->eD t A o x=some o'->KOk n A.length o'/\aA o'<=aA o
 |0,o',_,h=>by cases h;exact⟨ho,Nat.le_refl _⟩
 |x+1,o',hx,h=>by
  rw[eD]at h;obtain⟨o1,h1,h2⟩:=Option.bind_eq_some_iff.1 h;have a:=qM ht hA ho x (by omega) h1
  have b:=qL ht hA a.1 (by omega) t.length (by rw[ht.1];exact Nat.le_refl _) h2
  exact⟨b.1,by omega⟩
theorem E4(ht:ay n t)(hA:AuOk n A):∀(fu:Nat) {o o':V7},KOk n A.length o->eV t A fu o=some o'->KOk n A.length o'/\aA o'<=aA o
 |0,o,o',ho,h=>by cases h;exact⟨ho,Nat.le_refl _⟩
 |fu+1,o,o',ho,h=>by
  rw[eV]at h;split at h
  ·cases h
  ·rename_i o1 h1
   have a:=qM ht hA ho t.length (by rw[ht.1];exact Nat.le_refl _) h1
   split at h
   ·have b:=E4 ht hA fu a.1 h
    exact⟨b.1,by omega⟩
   ·cases h;exact a
end
/- The order of tables, and the list of circles. -/
def bD:V8->V8->Bool
 |x::a,y::b=>if x=y then bD a b else bj x y
 |_,_=>false
def cu(c:V8):V9->Nat
 | []=>0
 |k::K=>if bD k c=true then cu c K+1 else 0
theorem wP(c:V8):∀K,cu c K<=K.length
 | []=>Nat.le_refl _
 |k::K=>by
  rw[cu];split
  ·exact Nat.succ_le_succ (wP c K)
  ·exact Nat.zero_le _
theorem wQ(c:V8):∀(K:V9) (i:Nat),(∀j,j<i->bD (K.getD j []) c=true)->i<=K.length->(∀h:i<K.length,bD (K.getD i []) c=false)->cu c K=i
 | [],i,_,h,_=>by simp at h;subst h;rfl
 |k::K,0,_,_,h=>by
  have:=h (by simp)
  have h2:bD k c=false:=this
  rw[cu,if_neg (by rw[h2];simp)]
 |k::K,i+1,a,b,d=>by
  have h0:bD k c=true:=a 0 (by omega)
  rw[cu,if_pos h0,wQ c K i (fun j hj=>a (j+1) (by omega)) (by simpa using b) (fun h=>d (by simpa using h))]
def fk(out:V9)(c:V8):V9:=out.take (cu c out)++c::out.drop (cu c out)
theorem E5(out:V9)(c:V8):(fk out c).length=out.length+1:=by
 have:=wP c out
 simp[fk];omega
theorem E6(out:V9)(c x:V8):x∈fk out c↔x=c\/x∈out:=by
 have h1:(fk out c).Perm (c::(out.take (cu c out)++out.drop (cu c out))):=List.perm_middle
 rw[List.take_append_drop]at h1;rw[h1.mem_iff,List.mem_cons]
def aC:V7->Nat
 | []=>0
 |k::K=>if 0<=k then aC K+1 else 0
theorem mN:∀K,aC K<=K.length
 | []=>Nat.le_refl _
 |k::K=>by
  rw[aC];split
  ·exact Nat.succ_le_succ (mN K)
  ·exact Nat.zero_le _
theorem wR:∀(K:V7) (i:Nat),(∀j,j<i->0<=K.getD j 0)->i<=K.length->(∀h:i<K.length,K.getD i 0<0)->aC K=i
 | [],i,_,h,_=>by simp at h;subst h;rfl
 |k::K,0,_,_,h=>by
  have h2:k<0:=h (by simp)
  rw[aC,if_neg (by omega)]
 |k::K,i+1,a,b,d=>by
  have h0:0<=k:=a 0 (by omega)
  rw[aC,if_pos h0,wR K i (fun j hj=>a (j+1) (by omega)) (by simpa using b) (fun h=>d (by simpa using h))]
theorem qN:∀(K:V7),aC K<K.length->K.getD (aC K) 0<0
 | [],h=>by simp at h
 |k::K,h=>by
  rw[aC]at h⊢;split
  ·rename_i q
   rw[if_pos q]at h;exact qN K (by simpa using h)
  ·rename_i q
   show k<0
   omega
theorem qO:∀(K:V7),aC K=K.length->∀j,j<K.length->0<=K.getD j 0
 | [],_,j,h=>by simp at h
 |k::K,h,j,hj=>by
  rw[aC]at h;split at h
  ·rename_i q
   cases j with
   |zero=>exact q
   |succ j=>exact qO K (by simpa using h) j (by simpa using hj)
  ·simp at h
def bJ(t A:V8)(K:V7):V8:=(List.range t.length).map fun y=>aY (A.getD (K.getD y 0).toNat []) (t.getD y [])
def dG(g:Nat->V9->V9)(out:V9):Nat->V9
 |0=>out
 |i+1=>g i (dG g out i)
def dj(t A:V8)(rec:V7->V9->V9)(K:V7)(i:Nat)(o:V9):V9 :=
 match c6 t A (K.set (aC K) (i:Int))with
 |none=>o
 |some K'=>rec K' o
def cH(t A:V8):Nat->V7->V9->V9
 |0,_,out=>out
 |d+1,K,out=>if aC K=K.length then fk out (bJ t A K)else dG (dj t A (cH t A d) K) out A.length
theorem wS{P:V9->Prop}{g:Nat->V9->V9}{out:V9}(h0:P out):∀m,(∀i o,i<m->P o->P (g i o))->P (dG g out m)
 |0,_=>h0
 |m+1,hg=>hg m _ (by omega) (wS h0 m fun i o hi=>hg i o (by omega))
section
variable {n:Nat} {t A:V8}
theorem wT{K:V7}(hx:aC K<K.length){i:Nat}:aA (K.set (aC K) (i:Int))+1=aA K:=ox hx (qN K hx) (by omega)
theorem lg(ht:ay n t)(hA:AuOk n A){K K':V7}(hK:KOk n A.length K)(hx:aC K<K.length){i:Nat}(hi:i<A.length)(h:c6 t A (K.set (aC K) (i:Int))=some K'):KOk n A.length K'/\aA K'+1<=aA K:=by
 have a:=E4 ht hA _ (hK.set (aC K) (w:=(i:Int)) ⟨by omega,by omega⟩) h
 have:=wT hx (i:=i)
 exact⟨a.1,by omega⟩
theorem E7(ht:ay n t)(hA:AuOk n A){Q:V8->Prop}(hQ:∀K,KOk n A.length K->aC K=K.length->Q (bJ t A K)):∀(d:Nat) (K:V7) (out:V9),KOk n A.length K->(∀c,c∈out->Q c)->∀c,c∈cH t A d K out->Q c
 |0,K,out,_,ho=>ho
 |d+1,K,out,hK,ho=>by
  rw[cH];split
  ·rename_i h
   intro c hc
   rcases(E6 _ _ _).1 hc with rfl|hc
   ·exact hQ K hK h
   ·exact ho c hc
  ·rename_i h
   have hx:aC K<K.length:=by have:=mN K;omega
   refine wS (P:=fun o=>∀c,c∈o->Q c) ho A.length fun i o hi hP=>?_
   unfold dj;split
   ·exact hP
   ·rename_i K' hs
    exact E7 ht hA hQ d K' o (lg ht hA hK hx hi hs).1 hP
theorem wU{c:Nat}{g:Nat->V9->V9}{out:V9}:∀m,(∀i o,i<m->(g i o).length<=o.length+c)->(dG g out m).length<=out.length+m*c
 |0,_=>by simp[dG]
 |m+1,hg=>by
  have a:=wU (g:=g) (out:=out) (c:=c) m fun i o hi=>hg i o (by omega)
  have b:=hg m (dG g out m) (by omega)
  rw[dG,Nat.succ_mul];omega
theorem E8(ht:ay n t)(hA:AuOk n A){M:Nat}(hM:A.length<=M)(h1:1<=M):∀(d:Nat) (K:V7) (out:V9),KOk n A.length K->(cH t A d K out).length<=out.length+M ^ aA K
 |0,K,out,_=>by rw[cH];omega
 |d+1,K,out,hK=>by
  rw[cH];split
  ·have:=Nat.one_le_pow (aA K) M h1
   rw[E5];omega
  ·rename_i h
   have hx:aC K<K.length:=by have:=mN K;omega
   have hp:1<=aA K:=by have:=wT hx (i:=0);omega
   have:=wU (g:=dj t A (cH t A d) K) (out:=out) (c:=M ^ (aA K-1)) A.length fun i o hi=>by
    unfold dj;split
    ·omega
    ·rename_i K' hs
     have q:=lg ht hA hK hx hi hs
     have a:=E8 ht hA hM h1 d K' o q.1
     have b:M ^ aA K'<=M ^ (aA K-1):=Nat.pow_le_pow_right h1 (by omega)
     omega
   have e:M ^ aA K=M ^ (aA K-1)*M:=by rw[<-Nat.pow_succ];congr 1;omega
   have f:A.length*M ^ (aA K-1)<=M ^ (aA K-1)*M:=by rw[Nat.mul_comm];exact Nat.mul_le_mul_left _ hM
   omega
def Z0(n:Nat)(o:V7):Prop:=o.length=n/\∀x,x<n->o.getD x 0=-1\/o.getD x 0=0
theorem Z0.ok{o:V7}(z:Z0 n o)(hA:AuOk n A):KOk n A.length o:=⟨z.1,fun x hx=>by
 have:=hA.pos
 rcases z.2 x hx with h|h<;>omega⟩
theorem Z0.set{o:V7}(z:Z0 n o)(q:Nat):Z0 n (o.set q 0):=⟨by rw[List.length_set];exact z.1,fun x hx=>by
 rw[hZ _ _ _ _ (by rw[z.1];exact hx)]
 split
 ·exact .inr rfl
 ·exact z.2 x hx⟩
end
def aD(t A:V8):V9:=cH t A 12 ((List.replicate t.length (-1)).set 0 0) []
theorem wV{n:Nat}:Z0 n ((List.replicate n (-1)).set 0 0):=by
 have z:Z0 n (List.replicate n (-1)):=⟨by simp,fun x hx=>.inl (by simp[List.getD_eq_getElem?_getD,hx])⟩
 exact z.set 0
theorem E9{n:Nat}(h:1<=n):aA ((List.replicate n (-1)).set 0 0)+1=n:=by
 rw[ox (by simp;omega) (by simp[List.getD_eq_getElem?_getD,show 0<n by omega]) (by omega)]
 simp[aA,List.countP_replicate]
end Go.Sx
end
