/- CirP -/
import Derived.Test.YtkmldclpaniclaaGreatMapD
import Derived.Test.YtkmldclpaniclaaGreatLists
import Derived.Test.YtkmldclpaniclaaGreatRack
import Derived.Test.YtkmldclpaniclaaGreatMapA
set_option linter.unusedSimpArgs false
set_option linter.unusedVariables false
section
open Go Go.Proofs
namespace Go.Sx
def pW(t:List (List Int)):Post:=⟨aY t,.c (.rows 62 2 .i64 t),[]⟩
def pX:List AD->Option Post
 | [.c (.rows .i64 t)]=>some (pW t)
 |_=>none
def Du(t:List (List Int)):Nat->Option Ann
 |0=>some (Ann.mk ((Nat)) (fun i=>⟨[(0,.c (.ro (.rows .i64 t))),(3,.c (.own 5)),(4,.c (.int .i64 ((i:Int))))],[(5,some (.rows 0 62 2 .i64 (t.take i)))]⟩) (fun i=>i<=t.length) (fun i=>t.length-i) (fun _=>ar))
 |_=>none
def Dv:List (Nat×Ctr):=[(144,⟨[],mE⟩)]
def vP(t:List (List Int)):Prop :=
 (∃x0:Nat,x0<=t.length/\t=t/\(0:Int)=(x0:Int)/\([]:List (List Int))=List.take x0 t)/\∀x1:Nat,x1<=t.length->af (decide ((x1:Int)<(t.length:Int))) (ab (x1:Int) t.length/\(ag ((t.getD (x1:Int).toNat []).length)/\True)/\ag ((List.take x1 t).length+(t.getD (x1:Int).toNat []::([]:List (List Int))).length)/\ae ((x1:Int)+(1:Int))/\∃x2:Nat,x2<=t.length/\t.length-x2<t.length-x1/\t=t/\(x1:Int)+(1:Int)=(x2:Int)/\List.take x1 t++t.getD (x1:Int).toNat []::([]:List (List Int))=List.take x2 t) (List.take x1 t=t/\True)
theorem Lv(t:List (List Int)):aP Tryz.prog (ai Dv) aj (Du t) Tryz.f96 (aF Tryz.f96) [] [.c (.rows .i64 t)] (pW t)=vP t:=by kernel_rfl
theorem Lw(t:List (List Int))(Yh:(pW t).pre):vP t:=by
 simp only[pW,vP,aK,u1,u2,u3,u4,u5,u6,u7,u8,u9,v1,v2,v3,v4,v5,v6,v7,v8,v9,w1,w2,w3,w4,aC,ab,ae,ag,av]at Yh⊢;have h1:=Yh.1
 refine⟨⟨0,by omega,rfl,by simp⟩,fun i hi=>⟨fun h=>⟨by omega,xL Yh i (by omega),by omega,by omega,i+1,by omega,by omega,by omega,da _ _ _ (by omega)⟩,fun h=>List.take_of_length_le (by omega)⟩⟩
theorem Dw:Fits Tryz.prog 96 ⟨[],pX⟩:=by
 refine aW (Γ:=ai Dv) (az rX aJ) Tryz.func96 fun ds p h hp=>?_
 unfold pX at h;split at h
 ·cases h
  exact⟨aj,Du _ ,by rw[Lv];exact Lw _  hp⟩
 ·cases h
end Go.Sx
end
section
section
open Go Go.Proofs
namespace Go.Sx
end Go.Sx
end
section
open Go Go.Proofs
namespace Go.Sx
def jf(n:Int)(t:List (List Int)):Prop:=(t.length:Int)=n/\∀i,i<t.length->((t.getD i []).length:Int)=n/\∀j,j<t.length->0<=(t.getD i []).getD j 0/\(t.getD i []).getD j 0<=n-1
def eJ(t:List (List Int))(p:List Int)(x:Nat):Nat->List (List Int)->List (List Int)
 |0,o=>o
 |y+1,o=>let o':=eJ t p x y o
  o'.set (p.getD x 0).toNat ((o'.getD (p.getD x 0).toNat []).set (p.getD y 0).toNat (p.getD ((t.getD x []).getD y 0).toNat 0))
def bv(t:List (List Int))(p:List Int):Nat->List (List Int)
 |0=>t
 |x+1=>eJ t p x t.length (bv t p x)
theorem Lx{n:Int}{o:List (List Int)}(h:jf n o){k j:Nat}(hk:(k:Int)<n)(hj:(j:Int)<n){v:Int}(h0:0<=v)(h1:v<=n-1):jf n (o.set k ((o.getD k []).set j v)):=by
 refine⟨by rw[List.length_set];exact h.1,fun i hi=>?_⟩
 rw[List.length_set]at hi;have e:=h.2 i hi
 by_cases hik:k=i
 ·subst hik
  have:(o.set k ((o.getD k []).set j v)).getD k []=(o.getD k []).set j v:=by
   rw[List.getD_eq_getElem?_getD,List.getElem?_set_self hi];rfl
  rw[this,List.length_set,List.length_set];refine⟨e.1,fun x hx=>?_⟩
  by_cases hxj:j=x
  ·subst hxj
   have:((o.getD k []).set j v).getD j 0=v:=by
    rw[List.getD_eq_getElem?_getD,List.getElem?_set_self (by omega)];rfl
   rw[this];exact⟨h0,h1⟩
  ·have:((o.getD k []).set j v).getD x 0=(o.getD k []).getD x 0:=by
    rw[List.getD_eq_getElem?_getD,List.getElem?_set_ne hxj,<-List.getD_eq_getElem?_getD]
   rw[this];exact e.2 x hx
 ·have:(o.set k ((o.getD k []).set j v)).getD i []=o.getD i []:=by
   rw[List.getD_eq_getElem?_getD,List.getElem?_set_ne hik,<-List.getD_eq_getElem?_getD]
  rw[this,List.length_set];exact e
section
variable {t:List (List Int)} {p:List Int} (ht:jf (t.length:Int) t) (hp:p.length=t.length) (hq:∀i,i<p.length->0<=p.getD i 0/\p.getD i 0<=(t.length:Int)-1)
include ht hp hq
theorem vQ(x:Nat)(hx:x<t.length):∀(y:Nat),y<=t.length->∀o,jf (t.length:Int) o->jf (t.length:Int) (eJ t p x y o)
 |0,_,o,h=>h
 |y+1,hy,o,h=>by
  have e:=vQ x hx y (by omega) o h
  have q1:=hq x (by omega)
  have q2:=hq y (by omega)
  have t1:=(ht.2 x hx).2 y (by omega)
  have q3:=hq ((t.getD x []).getD y 0).toNat (by omega)
  exact Lx e (by omega) (by omega) q3.1 q3.2
theorem Dx:∀(x:Nat),x<=t.length->jf (t.length:Int) (bv t p x)
 |0,_=>ht
 |x+1,hx=>vQ ht hp hq x (by omega) _ (Nat.le_refl _) _ (Dx x (by omega))
end
def pY(t:List (List Int))(p:List Int):Post:=⟨aY t/\t.length<=144/\jf (t.length:Int) t/\p.length=t.length/\(∀i,i<p.length->0<=p.getD i 0/\p.getD i 0<=(t.length:Int)-1),.c (.rows 62 2 .i64 (bv t p t.length)),[]⟩
def vR:List AD->Option Post
 | [.c (.rows .i64 t),.c (.ints .i64 p)]=>some (pY t p)
 |_=>none
def Dy(t:List (List Int))(p:List Int):Nat->Option Ann
 |0=>some (Ann.mk ((Nat)) (fun i=>⟨[(0,.c (.ro (.rows .i64 t))),(1,.c (.ro (.ints .i64 p))),(5,.c (.own 9)),(6,.c (.int .i64 ((i:Int))))],[(9,some (.rows 0 62 2 .i64 (bv t p i)))]⟩) (fun i=>i<=t.length) (fun i=>t.length-i) (fun i=>fun b_=>match b_ with|2=>some (Ann.mk ((Nat)) (fun j=>⟨[(0,.c (.ro (.rows .i64 t))),(1,.c (.ro (.ints .i64 p))),(5,.c (.own 9)),(6,.c (.int .i64 ((i:Int)))),(7,.c (.int .i64 ((j:Int))))],[(9,some (.rows 0 62 2 .i64 (eJ t p i j (bv t p i))))]⟩) (fun j=>j<=t.length/\i<t.length) (fun j=>t.length-j) (fun _=>ar))|_=>none))
 |_=>none
def Dz:List (Nat×Ctr):=[(96,⟨[],pX⟩)]
def vS(t:List (List Int))(p:List Int):Prop :=
 ((aY t/\True)/\((∃x0:Nat,x0<=t.length/\t=t/\p=p/\(0:Int)=(x0:Int)/\t=bv t p x0)/\(∀x1:Nat,(x1<=t.length->(af (decide ((x1:Int)<(t.length:Int))) ((∃x2:Nat,(x2<=t.length/\x1<t.length)/\t=t/\p=p/\(x1:Int)=(x1:Int)/\(0:Int)=(x2:Int)/\bv t p x1=eJ t p x1 x2 (bv t p x1))/\(∀x3:Nat,(x3<=t.length/\x1<t.length->(af (decide ((x3:Int)<(t.length:Int))) (ab (x1:Int) p.length/\ab (p.getD (x1:Int).toNat (0:Int)) ((eJ t p x1 x3 (bv t p x1)).length)/\ab (x3:Int) p.length/\ab (x1:Int) t.length/\ab (x3:Int) ((t.getD (x1:Int).toNat []).length)/\ab ((List.getD t (x1:Int).toNat []).getD (x3:Int).toNat (0:Int)) p.length/\ab (p.getD (x3:Int).toNat (0:Int)) (((eJ t p x1 x3 (bv t p x1)).getD ((p.getD (x1:Int).toNat (0:Int)).toNat) []).length)/\ae ((x3:Int)+(1:Int))/\∃x4:Nat,(x4<=t.length/\x1<t.length)/\t.length-x4<t.length-x3/\t=t/\p=p/\(x1:Int)=(x1:Int)/\(x3:Int)+(1:Int)=(x4:Int)/\List.set (eJ t p x1 x3 (bv t p x1)) ((p.getD (x1:Int).toNat (0:Int)).toNat) (List.set ((eJ t p x1 x3 (bv t p x1)).getD ((p.getD (x1:Int).toNat (0:Int)).toNat) []) ((p.getD (x3:Int).toNat (0:Int)).toNat) (p.getD (((List.getD t (x1:Int).toNat []).getD (x3:Int).toNat (0:Int)).toNat) (0:Int)))=eJ t p x1 x4 (bv t p x1)) (ae ((x1:Int)+(1:Int))/\(∃x5:Nat,((x5<=t.length) /\
 ((t.length-x5<t.length-x1)/\((t=t)/\((p=p)/\(((x1:Int)+(1:Int)=(x5:Int))/\(eJ t p x1 x3 (bv t p x1)=bv t p x5)))))))))))) ((bv t p x1=bv t p t.length)/\True))))))
theorem Ly(t:List (List Int))(p:List Int):aP Tryz.prog (ai Dz) aj (Dy t p) Tryz.f143 (aF Tryz.f143) [] [.c (.rows .i64 t),.c (.ints .i64 p)] (pY t p)=vS t p:=by kernel_rfl
theorem Lz(t:List (List Int))(p:List Int)(Yh:(pY t p).pre):vS t p:=by
 simp only[pY,vS,aK,u1,u2,u3,u4,u5,u6,u7,u8,u9,v1,v2,v3,v4,v5,v6,v7,v8,v9,w1,w2,w3,w4,aC,ab,ae,ag,av]at Yh⊢;obtain⟨r0,h0,h1,h2,h3⟩:=Yh;have q:=fun x (hx:x<t.length)=>h3 x (by omega)
 have I:=Dx h1 (by omega) h3
 refine⟨r0,⟨0,by omega,rfl,rfl⟩,fun i hi=>⟨fun h=>⟨⟨0,⟨by omega,by omega⟩,rfl,rfl⟩,fun j ⟨hj,_⟩=>⟨fun h4=>?_,fun h4=>?_⟩⟩,fun h=>by rw[show i=t.length by omega]⟩⟩
 ·have C:=vQ h1 (by omega) h3 i (by omega) j (by omega) _ (I i (by omega))
  have q1:=q i (by omega)
  have q2:=q j (by omega)
  have t1:=h1.2 i (by omega)
  have t2:=t1.2 j (by omega)
  have c1:=C.1
  have c2:=(C.2 (p.getD i 0).toNat (by omega)).1
  exact⟨by omega,by omega,by omega,by omega,by omega,by omega,by omega,by omega,j+1,by omega,by omega,by omega,rfl⟩
 ·exact⟨by omega,i+1,by omega,by omega,by omega,by rw[show j=t.length by omega];rfl⟩
theorem LA:Fits Tryz.prog 143 ⟨[],vR⟩:=by
 refine aW (Γ:=ai Dz) (az Dw aJ) Tryz.func143 fun ds p h hp=>?_
 unfold vR at h;split at h
 ·cases h
  exact⟨aj,Dy _ _ ,by rw[Ly];exact Lz _ _  hp⟩
 ·cases h
end Go.Sx
end
section
open Go Go.Proofs
namespace Go.Sx
def eK(p:List Int):Nat->List Int
 |0=>List.replicate p.length 0
 |i+1=>(eK p i).set (p.getD i 0).toNat (i:Int)
def co(p:List Int):List Int:=eK p p.length
def aU(p q:List Int):List Int:=p.map fun x=>q.getD x.toNat 0
theorem mf(p:List Int):∀i,(eK p i).length=p.length
 |0=>by simp[eK]
 |i+1=>by rw[eK,List.length_set,mf p i]
def iG(n:Nat)(p:List Int):Prop:=∀i,i<p.length->0<=p.getD i 0/\p.getD i 0<(n:Int)
def pZ(p:List Int)(q:List Int):Post:=⟨ag p.length/\iG q.length p,.c (.ints 2 .i64 (aU p q)),[]⟩
def p9:List AD->Option Post
 | [.c (.ints .i64 p),.c (.ints .i64 q)]=>some (pZ p q)
 |_=>none
def DA(p:List Int)(q:List Int):Nat->Option Ann
 |0=>some (Ann.mk ((Nat)) (fun i=>⟨[(0,.c (.ro (.ints .i64 p))),(1,.c (.ro (.ints .i64 q))),(5,.c (.own 10)),(6,.c (.int .i64 ((i:Int))))],[(10,some (.ints 2 .i64 (aU (p.take i) q)))]⟩) (fun i=>i<=p.length) (fun i=>p.length-i) (fun _=>ar))
 |_=>none
def DB:List (Nat×Ctr):=[]
def vT(p:List Int)(q:List Int):Prop :=
 (∃x0:Nat,x0<=p.length/\p=p/\q=q/\(0:Int)=(x0:Int)/\[]=aU (List.take x0 p) q)/\∀x1:Nat,x1<=p.length->af (decide ((x1:Int)<(p.length:Int))) (ab (x1:Int) p.length/\ab (p.getD (x1:Int).toNat (0:Int)) q.length/\ag ((aU (List.take x1 p) q).length+[q.getD ((p.getD (x1:Int).toNat (0:Int)).toNat) (0:Int)].length)/\ae ((x1:Int)+(1:Int))/\∃x2:Nat,x2<=p.length/\p.length-x2<p.length-x1/\p=p/\q=q/\(x1:Int)+(1:Int)=(x2:Int)/\aU (List.take x1 p) q++[q.getD ((p.getD (x1:Int).toNat (0:Int)).toNat) (0:Int)]=aU (List.take x2 p) q) (aU (List.take x1 p) q=aU p q/\True)
theorem LB(p:List Int)(q:List Int):aP Tryz.prog (ai DB) aj (DA p q) Tryz.f189 (aF Tryz.f189) [] [.c (.ints .i64 p),.c (.ints .i64 q)] (pZ p q)=vT p q:=by kernel_rfl
theorem LC(p:List Int)(q:List Int)(Yh:(pZ p q).pre):vT p q:=by
 simp only[pZ,vT,aK,u1,u2,u3,u4,u5,u6,u7,u8,u9,v1,v2,v3,v4,v5,v6,v7,v8,v9,w1,w2,w3,w4,aC,ab,ae,ag,av]at Yh⊢;obtain⟨h1,h2⟩:=Yh;refine⟨⟨0,by omega,rfl,rfl⟩,fun i hi=>⟨fun h=>?_,fun h=>?_⟩⟩
 ·have hr:=h2 i (by omega)
  have hl:(aU (p.take i) q).length=i:=by rw[aU,List.length_map,List.length_take];omega
  refine⟨by omega,by omega,by omega,by omega,i+1,by omega,by omega,by omega,?_⟩
  rw[<-da p 0 i (by omega),aU,aU,List.map_append];rfl
 ·rw[List.take_of_length_le (by omega)]
theorem DC:Fits Tryz.prog 189 ⟨[],p9⟩:=by
 refine aW (Γ:=ai DB) aJ Tryz.func189 fun ds p h hp=>?_
 unfold p9 at h;split at h
 ·cases h
  exact⟨aj,DA _ _ ,by rw[LB];exact LC _ _  hp⟩
 ·cases h
end Go.Sx
end
end
section
open Go Go.Proofs
namespace Go.Sx
/- Permutations of n elements that are closed. -/
structure AuOk (n:Nat) (A:List (List Int)):Prop where
 pos:1<=A.length
 len:∀i,i<A.length->(A.getD i []).length=n
 rng:∀i x,i<A.length->x<n->0<=en A i x/\en A i x<(n:Int)
 cl:∀i j,i<A.length->j<A.length->aU (A.getD i []) (A.getD j [])∈A
def kE(A:List (List Int))(i j:Int):Nat:=dM A (aU (A.getD i.toNat []) (A.getD j.toNat []))
structure KOk (n m:Nat) (K:List Int):Prop where
 len:K.length=n
 rng:∀x,x<n->-1<=K.getD x 0/\K.getD x 0<(m:Int)
theorem KOk.set{n m:Nat}{K:List Int}(h:KOk n m K)(z:Nat){w:Int}(hw:-1<=w/\w<(m:Int)):KOk n m (K.set z w) where
 len:=by rw[List.length_set];exact h.len
 rng x hx:=by
  rw[gW _ _ _ _ (by rw[h.len];exact hx)]
  split
  ·exact hw
  ·exact h.rng x hx
def ax(K:List Int):Nat:=K.countP fun x=>decide (x<0)
theorem nL{K:List Int}{z:Nat}{w:Int}(hz:z<K.length)(h:K.getD z 0<0)(hw:0<=w):ax (K.set z w)+1=ax K:=by
 unfold ax
 induction K generalizing z with
 |nil=>simp at hz
 |cons k K ih =>
  cases z with
  |zero =>
   have h:k<0:=h
   have hw':¬ w<0:=by omega
   simp[h,hw']
  |succ z =>
   have:=ih (z:=z) (by simpa using hz) h
   simp only[List.set_cons_succ,List.countP_cons];omega
theorem vU(K:List Int):ax K<=K.length:=List.countP_le_length
def bF(t A:List (List Int))(o:List Int)(x y:Nat):Nat:=(en t x (en A (o.getD x 0).toNat y).toNat).toNat
def dF(A:List (List Int))(o:List Int)(x y:Nat):Int:=(kE A (o.getD y 0) (o.getD x 0):Int)
def fM(t A:List (List Int))(o:List Int)(x y:Nat):Option (List Int) :=
 if o.getD x 0<0\/o.getD y 0<0 then some o
 else if o.getD (bF t A o x y) 0<0 then some (o.set (bF t A o x y) (dF A o x y))
 else if o.getD (bF t A o x y) 0=dF A o x y then some o else none
def dt(t A:List (List Int))(o:List Int)(x:Nat):Nat->Option (List Int)
 |0=>some o
 |y+1=>(dt t A o x y).bind fun o'=>fM t A o' x y
def ed(t A:List (List Int))(o:List Int):Nat->Option (List Int)
 |0=>some o
 |x+1=>(ed t A o x).bind fun o'=>dt t A o' x t.length
def eM(t A:List (List Int)):Nat->List Int->Option (List Int)
 |0,o=>some o
 |fu+1,o=>match ed t A o t.length with
  |none=>none
  |some o'=>if ax o'<ax o then eM t A fu o' else some o'
def cP(t A:List (List Int))(K:List Int):Option (List Int):=eM t A (t.length+1) K
section
variable {n:Nat} {t A:List (List Int)}
theorem mg(hA:AuOk n A){o:List Int}(ho:KOk n A.length o){x y:Nat}(hx:x<n)(hy:y<n)(h1:0<=o.getD x 0)(h2:0<=o.getD y 0):aU (A.getD (o.getD y 0).toNat []) (A.getD (o.getD x 0).toNat [])∈A/\0<=dF A o x y/\dF A o x y<(A.length:Int):=by
 have a:=ho.rng x hx
 have b:=ho.rng y hy
 have m:=hA.cl (o.getD y 0).toNat (o.getD x 0).toNat (by omega) (by omega)
 have:=(jk m).1
 refine⟨m,?_⟩
 unfold dF kE;omega
theorem kF(ht:aT n t)(hA:AuOk n A){o:List Int}(ho:KOk n A.length o){x y:Nat}(hx:x<n)(hy:y<n)(h1:0<=o.getD x 0):(0<=en A (o.getD x 0).toNat y/\en A (o.getD x 0).toNat y<(n:Int))/\(0<=en t x (en A (o.getD x 0).toNat y).toNat/\en t x (en A (o.getD x 0).toNat y).toNat<(n:Int))/\bF t A o x y<n:=by
 have a:=ho.rng x hx
 have b:=hA.rng (o.getD x 0).toNat y (by omega) hy
 have c:=(ht.2 x hx).2 (en A (o.getD x 0).toNat y).toNat (by omega)
 refine⟨b,c,?_⟩
 unfold bF;omega
theorem DD(ht:aT n t)(hA:AuOk n A){o o':List Int}(ho:KOk n A.length o){x y:Nat}(hx:x<n)(hy:y<n)(h:fM t A o x y=some o'):KOk n A.length o'/\ax o'<=ax o:=by
 unfold fM at h;split at h
 ·cases h;exact⟨ho,Nat.le_refl _⟩
 ·rename_i hn
  have h1:0<=o.getD x 0:=by omega
  have h2:0<=o.getD y 0:=by omega
  have w:=mg hA ho hx hy h1 h2
  have z:=kF ht hA ho hx hy h1
  split at h
  ·rename_i hz
   cases h;have:=nL (K:=o) (z:=bF t A o x y) (by rw[ho.len];exact z.2.2) hz w.2.1
   exact⟨ho.set _ ⟨by omega,w.2.2⟩,by omega⟩
  ·split at h
   ·cases h;exact⟨ho,Nat.le_refl _⟩
   ·cases h
theorem qa(ht:aT n t)(hA:AuOk n A){o:List Int}(ho:KOk n A.length o){x:Nat}(hx:x<n):∀(y:Nat) {o':List Int},y<=n->dt t A o x y=some o'->KOk n A.length o'/\ax o'<=ax o
 |0,o',_,h=>by cases h;exact⟨ho,Nat.le_refl _⟩
 |y+1,o',hy,h=>by
  rw[dt]at h;obtain⟨o1,h1,h2⟩:=Option.bind_eq_some_iff.1 h;have a:=qa ht hA ho hx y (by omega) h1
  have b:=DD ht hA a.1 hx (by omega) h2
  exact⟨b.1,by omega⟩
theorem qb(ht:aT n t)(hA:AuOk n A){o:List Int}(ho:KOk n A.length o):∀(x:Nat) {o':List Int},x<=n->ed t A o x=some o'->KOk n A.length o'/\ax o'<=ax o
 |0,o',_,h=>by cases h;exact⟨ho,Nat.le_refl _⟩
 |x+1,o',hx,h=>by
  rw[ed]at h;obtain⟨o1,h1,h2⟩:=Option.bind_eq_some_iff.1 h;have a:=qb ht hA ho x (by omega) h1
  have b:=qa ht hA a.1 (by omega) t.length (by rw[ht.1];exact Nat.le_refl _) h2
  exact⟨b.1,by omega⟩
theorem DE(ht:aT n t)(hA:AuOk n A):∀(fu:Nat) {o o':List Int},KOk n A.length o->eM t A fu o=some o'->KOk n A.length o'/\ax o'<=ax o
 |0,o,o',ho,h=>by cases h;exact⟨ho,Nat.le_refl _⟩
 |fu+1,o,o',ho,h=>by
  rw[eM]at h;split at h
  ·cases h
  ·rename_i o1 h1
   have a:=qb ht hA ho t.length (by rw[ht.1];exact Nat.le_refl _) h1
   split at h
   ·have b:=DE ht hA fu a.1 h
    exact⟨b.1,by omega⟩
   ·cases h;exact a
end
/- The order of tables, and the list of circles. -/
def bB:List (List Int)->List (List Int)->Bool
 |x::a,y::b=>if x=y then bB a b else bh x y
 |_,_=>false
def cb(c:List (List Int)):List (List (List Int))->Nat
 | []=>0
 |k::K=>if bB k c=true then cb c K+1 else 0
theorem vV(c:List (List Int)):∀K,cb c K<=K.length
 | []=>Nat.le_refl _
 |k::K=>by
  rw[cb];split
  ·exact Nat.succ_le_succ (vV c K)
  ·exact Nat.zero_le _
theorem vW(c:List (List Int)):∀(K:List (List (List Int))) (i:Nat),(∀j,j<i->bB (K.getD j []) c=true)->i<=K.length->(∀h:i<K.length,bB (K.getD i []) c=false)->cb c K=i
 | [],i,_,h,_=>by simp at h;subst h;rfl
 |k::K,0,_,_,h=>by
  have:=h (by simp)
  have h2:bB k c=false:=this
  rw[cb,if_neg (by rw[h2];simp)]
 |k::K,i+1,a,b,d=>by
  have h0:bB k c=true:=a 0 (by omega)
  rw[cb,if_pos h0,vW c K i (fun j hj=>a (j+1) (by omega)) (by simpa using b) (fun h=>d (by simpa using h))]
def fa(out:List (List (List Int)))(c:List (List Int)):List (List (List Int)):=out.take (cb c out)++c::out.drop (cb c out)
theorem DF(out:List (List (List Int)))(c:List (List Int)):(fa out c).length=out.length+1:=by
 have:=vV c out
 simp[fa];omega
theorem DG(out:List (List (List Int)))(c x:List (List Int)):x∈fa out c↔x=c\/x∈out:=by
 have h1:(fa out c).Perm (c::(out.take (cb c out)++out.drop (cb c out))):=List.perm_middle
 rw[List.take_append_drop]at h1;rw[h1.mem_iff,List.mem_cons]
def aA:List Int->Nat
 | []=>0
 |k::K=>if 0<=k then aA K+1 else 0
theorem mh:∀K,aA K<=K.length
 | []=>Nat.le_refl _
 |k::K=>by
  rw[aA];split
  ·exact Nat.succ_le_succ (mh K)
  ·exact Nat.zero_le _
theorem vX:∀(K:List Int) (i:Nat),(∀j,j<i->0<=K.getD j 0)->i<=K.length->(∀h:i<K.length,K.getD i 0<0)->aA K=i
 | [],i,_,h,_=>by simp at h;subst h;rfl
 |k::K,0,_,_,h=>by
  have h2:k<0:=h (by simp)
  rw[aA,if_neg (by omega)]
 |k::K,i+1,a,b,d=>by
  have h0:0<=k:=a 0 (by omega)
  rw[aA,if_pos h0,vX K i (fun j hj=>a (j+1) (by omega)) (by simpa using b) (fun h=>d (by simpa using h))]
theorem qc:∀(K:List Int),aA K<K.length->K.getD (aA K) 0<0
 | [],h=>by simp at h
 |k::K,h=>by
  rw[aA]at h⊢;split
  ·rename_i q
   rw[if_pos q]at h;exact qc K (by simpa using h)
  ·rename_i q
   show k<0
   omega
theorem qd:∀(K:List Int),aA K=K.length->∀j,j<K.length->0<=K.getD j 0
 | [],_,j,h=>by simp at h
 |k::K,h,j,hj=>by
  rw[aA]at h;split at h
  ·rename_i q
   cases j with
   |zero=>exact q
   |succ j=>exact qd K (by simpa using h) j (by simpa using hj)
  ·simp at h
def bG(t A:List (List Int))(K:List Int):List (List Int):=(List.range t.length).map fun y=>aU (A.getD (K.getD y 0).toNat []) (t.getD y [])
def dA(g:Nat->List (List (List Int))->List (List (List Int)))(out:List (List (List Int))):Nat->List (List (List Int))
 |0=>out
 |i+1=>g i (dA g out i)
def dc(t A:List (List Int))(rec:List Int->List (List (List Int))->List (List (List Int)))(K:List Int)(i:Nat)(o:List (List (List Int))):List (List (List Int)) :=
 match cP t A (K.set (aA K) (i:Int))with
 |none=>o
 |some K'=>rec K' o
def cz(t A:List (List Int)):Nat->List Int->List (List (List Int))->List (List (List Int))
 |0,_,out=>out
 |d+1,K,out=>if aA K=K.length then fa out (bG t A K)else dA (dc t A (cz t A d) K) out A.length
theorem vY{P:List (List (List Int))->Prop}{g:Nat->List (List (List Int))->List (List (List Int))}{out:List (List (List Int))}(h0:P out):∀m,(∀i o,i<m->P o->P (g i o))->P (dA g out m)
 |0,_=>h0
 |m+1,hg=>hg m _ (by omega) (vY h0 m fun i o hi=>hg i o (by omega))
section
variable {n:Nat} {t A:List (List Int)}
theorem vZ{K:List Int}(hx:aA K<K.length){i:Nat}:ax (K.set (aA K) (i:Int))+1=ax K:=nL hx (qc K hx) (by omega)
theorem kG(ht:aT n t)(hA:AuOk n A){K K':List Int}(hK:KOk n A.length K)(hx:aA K<K.length){i:Nat}(hi:i<A.length)(h:cP t A (K.set (aA K) (i:Int))=some K'):KOk n A.length K'/\ax K'+1<=ax K:=by
 have a:=DE ht hA _ (hK.set (aA K) (w:=(i:Int)) ⟨by omega,by omega⟩) h
 have:=vZ hx (i:=i)
 exact⟨a.1,by omega⟩
theorem DH(ht:aT n t)(hA:AuOk n A){Q:List (List Int)->Prop}(hQ:∀K,KOk n A.length K->aA K=K.length->Q (bG t A K)):∀(d:Nat) (K:List Int) (out:List (List (List Int))),KOk n A.length K->(∀c,c∈out->Q c)->∀c,c∈cz t A d K out->Q c
 |0,K,out,_,ho=>ho
 |d+1,K,out,hK,ho=>by
  rw[cz];split
  ·rename_i h
   intro c hc
   rcases(DG _ _ _).1 hc with rfl|hc
   ·exact hQ K hK h
   ·exact ho c hc
  ·rename_i h
   have hx:aA K<K.length:=by have:=mh K;omega
   refine vY (P:=fun o=>∀c,c∈o->Q c) ho A.length fun i o hi hP=>?_
   unfold dc;split
   ·exact hP
   ·rename_i K' hs
    exact DH ht hA hQ d K' o (kG ht hA hK hx hi hs).1 hP
theorem wa{c:Nat}{g:Nat->List (List (List Int))->List (List (List Int))}{out:List (List (List Int))}:∀m,(∀i o,i<m->(g i o).length<=o.length+c)->(dA g out m).length<=out.length+m*c
 |0,_=>by simp[dA]
 |m+1,hg=>by
  have a:=wa (g:=g) (out:=out) (c:=c) m fun i o hi=>hg i o (by omega)
  have b:=hg m (dA g out m) (by omega)
  rw[dA,Nat.succ_mul];omega
theorem DI(ht:aT n t)(hA:AuOk n A){M:Nat}(hM:A.length<=M)(h1:1<=M):∀(d:Nat) (K:List Int) (out:List (List (List Int))),KOk n A.length K->(cz t A d K out).length<=out.length+M ^ ax K
 |0,K,out,_=>by rw[cz];omega
 |d+1,K,out,hK=>by
  rw[cz];split
  ·have:=Nat.one_le_pow (ax K) M h1
   rw[DF];omega
  ·rename_i h
   have hx:aA K<K.length:=by have:=mh K;omega
   have hp:1<=ax K:=by have:=vZ hx (i:=0);omega
   have:=wa (g:=dc t A (cz t A d) K) (out:=out) (c:=M ^ (ax K-1)) A.length fun i o hi=>by
    unfold dc;split
    ·omega
    ·rename_i K' hs
     have q:=kG ht hA hK hx hi hs
     have a:=DI ht hA hM h1 d K' o q.1
     have b:M ^ ax K'<=M ^ (ax K-1):=Nat.pow_le_pow_right h1 (by omega)
     omega
   have e:M ^ ax K=M ^ (ax K-1)*M:=by rw[<-Nat.pow_succ];congr 1;omega
   have f:A.length*M ^ (ax K-1)<=M ^ (ax K-1)*M:=by rw[Nat.mul_comm];exact Nat.mul_le_mul_left _ hM
   omega
def Z0(n:Nat)(o:List Int):Prop:=o.length=n/\∀x,x<n->o.getD x 0=-1\/o.getD x 0=0
theorem Z0.ok{o:List Int}(z:Z0 n o)(hA:AuOk n A):KOk n A.length o:=⟨z.1,fun x hx=>by
 have:=hA.pos
 rcases z.2 x hx with h|h<;>omega⟩
theorem Z0.set{o:List Int}(z:Z0 n o)(q:Nat):Z0 n (o.set q 0):=⟨by rw[List.length_set];exact z.1,fun x hx=>by
 rw[gW _ _ _ _ (by rw[z.1];exact hx)]
 split
 ·exact .inr rfl
 ·exact z.2 x hx⟩
end
def aB(t A:List (List Int)):List (List (List Int)):=cz t A 12 ((List.replicate t.length (-1)).set 0 0) []
theorem wb{n:Nat}:Z0 n ((List.replicate n (-1)).set 0 0):=by
 have z:Z0 n (List.replicate n (-1)):=⟨by simp,fun x hx=>.inl (by simp[List.getD_eq_getElem?_getD,hx])⟩
 exact z.set 0
theorem DJ{n:Nat}(h:1<=n):ax ((List.replicate n (-1)).set 0 0)+1=n:=by
 rw[nL (by simp;omega) (by simp[List.getD_eq_getElem?_getD,show 0<n by omega]) (by omega)]
 simp[ax,List.countP_replicate]
end Go.Sx
end
