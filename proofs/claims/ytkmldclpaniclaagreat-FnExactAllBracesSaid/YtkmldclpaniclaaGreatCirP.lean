/- CirP -/
import Derived.Test.YtkmldclpaniclaaGreatMapD
import Derived.Test.YtkmldclpaniclaaGreatRack
import Derived.Test.YtkmldclpaniclaaGreatMapA
set_option linter.unusedSimpArgs false
set_option linter.unusedVariables false
section
open Go Go.Proofs
namespace Go.Sx
def qa(t:List (List Int)):Post:=⟨bK t,.c (.rows 62 2 .i64 t),[]⟩
def qb:List AD->Option Post
 | [.c (.rows .i64 t)]=>some (qa t)
 |_=>none
def Dx(t:List (List Int)):Nat->Option Ann
 |0=>some (Ann.mk ((Nat)) (fun i=>⟨[(0,.c (.ro (.rows .i64 t))),(3,.c (.own 5)),(4,.c (.int .i64 ((i:Int))))],[(5,some (.rows 0 62 2 .i64 (t.take i)))]⟩) (fun i=>i<=t.length) (fun i=>t.length-i) (fun _=>av))
 |_=>none
def Dy:List (Nat×Ctr):=[(144,⟨[],mE⟩)]
def vu(t:List (List Int)):Prop :=
 (∃x0:Nat,x0<=t.length/\t=t/\(0:Int)=(x0:Int)/\([]:List (List Int))=List.take x0 t)/\∀x1:Nat,x1<=t.length->ae (decide ((x1:Int)<(t.length:Int))) (ab (x1:Int) t.length/\(ah ((t.getD (x1:Int).toNat []).length)/\True)/\ah ((List.take x1 t).length+(t.getD (x1:Int).toNat []::([]:List (List Int))).length)/\ac ((x1:Int)+(1:Int))/\∃x2:Nat,x2<=t.length/\t.length-x2<t.length-x1/\t=t/\(x1:Int)+(1:Int)=(x2:Int)/\List.take x1 t++t.getD (x1:Int).toNat []::([]:List (List Int))=List.take x2 t) (List.take x1 t=t/\True)
theorem K8(t:List (List Int)):aY Tryz.prog (aj Dy) am (Dx t) Tryz.f96 (aP Tryz.f96) [] [.c (.rows .i64 t)] (qa t)=vu t:=by kernel_rfl
theorem K9(t:List (List Int))(Yh:(qa t).pre):vu t:=by
 simp only[qa,vu,aX,u1,u2,u3,u4,u5,u6,u7,u8,u9,v1,v2,v3,v4,v5,v6,v7,v8,v9,w1,w2,w3,w4,aN,ab,ac,ah,ax]at Yh⊢;have h1:=Yh.1
 refine⟨⟨0,by omega,rfl,by simp⟩,fun i hi=>⟨fun h=>⟨by omega,GY Yh i (by omega),by omega,by omega,i+1,by omega,by omega,by omega,du _ _ _ (by omega)⟩,fun h=>List.take_of_length_le (by omega)⟩⟩
theorem Dz:Fits Tryz.prog 96 ⟨[],qb⟩:=by
 refine bf (Γ:=aj Dy) (aD rp aW) Tryz.func96 fun ds p h hp=>?_
 unfold qb at h;split at h
 ·cases h
  exact⟨am,Dx _ ,by rw[K8];exact K9 _  hp⟩
 ·cases h
end Go.Sx
end
section
section
open Go Go.Proofs
namespace Go.Sx
end Go.Sx
end
section
open Go Go.Proofs
namespace Go.Sx
def jf(n:Int)(t:List (List Int)):Prop:=(t.length:Int)=n/\∀i,i<t.length->((t.getD i []).length:Int)=n/\∀j,j<t.length->0<=(t.getD i []).getD j 0/\(t.getD i []).getD j 0<=n-1
def eM(t:List (List Int))(p:List Int)(x:Nat):Nat->List (List Int)->List (List Int)
 |0,o=>o
 |y+1,o=>let o':=eM t p x y o
  o'.set (p.getD x 0).toNat ((o'.getD (p.getD x 0).toNat []).set (p.getD y 0).toNat (p.getD ((t.getD x []).getD y 0).toNat 0))
def bz(t:List (List Int))(p:List Int):Nat->List (List Int)
 |0=>t
 |x+1=>eM t p x t.length (bz t p x)
theorem Lc{n:Int}{o:List (List Int)}(h:jf n o){k j:Nat}(hk:(k:Int)<n)(hj:(j:Int)<n){v:Int}(h0:0<=v)(h1:v<=n-1):jf n (o.set k ((o.getD k []).set j v)):=by
 refine⟨by rw[List.length_set];exact h.1,fun i hi=>?_⟩
 rw[List.length_set]at hi;have e:=h.2 i hi
 by_cases hik:k=i
 ·subst hik
  have:(o.set k ((o.getD k []).set j v)).getD k []=(o.getD k []).set j v:=by
   rw[List.getD_eq_getElem?_getD,List.getElem?_set_self hi];rfl
  rw[this,List.length_set,List.length_set];refine⟨e.1,fun x hx=>?_⟩
  by_cases hxj:j=x
  ·subst hxj
   have:((o.getD k []).set j v).getD j 0=v:=by
    rw[List.getD_eq_getElem?_getD,List.getElem?_set_self (by omega)];rfl
   rw[this];exact⟨h0,h1⟩
  ·have:((o.getD k []).set j v).getD x 0=(o.getD k []).getD x 0:=by
    rw[List.getD_eq_getElem?_getD,List.getElem?_set_ne hxj,<-List.getD_eq_getElem?_getD]
   rw[this];exact e.2 x hx
 ·have:(o.set k ((o.getD k []).set j v)).getD i []=o.getD i []:=by
   rw[List.getD_eq_getElem?_getD,List.getElem?_set_ne hik,<-List.getD_eq_getElem?_getD]
  rw[this,List.length_set];exact e
section
variable {t:List (List Int)} {p:List Int} (ht:jf (t.length:Int) t) (hp:p.length=t.length) (hq:∀i,i<p.length->0<=p.getD i 0/\p.getD i 0<=(t.length:Int)-1)
include ht hp hq
theorem vw(x:Nat)(hx:x<t.length):∀(y:Nat),y<=t.length->∀o,jf (t.length:Int) o->jf (t.length:Int) (eM t p x y o)
 |0,_,o,h=>h
 |y+1,hy,o,h=>by
  have e:=vw x hx y (by omega) o h
  have q1:=hq x (by omega)
  have q2:=hq y (by omega)
  have t1:=(ht.2 x hx).2 y (by omega)
  have q3:=hq ((t.getD x []).getD y 0).toNat (by omega)
  exact Lc e (by omega) (by omega) q3.1 q3.2
theorem DA:∀(x:Nat),x<=t.length->jf (t.length:Int) (bz t p x)
 |0,_=>ht
 |x+1,hx=>vw ht hp hq x (by omega) _ (Nat.le_refl _) _ (DA x (by omega))
end
def qc(t:List (List Int))(p:List Int):Post:=⟨bK t/\t.length<=144/\jf (t.length:Int) t/\p.length=t.length/\(∀i,i<p.length->0<=p.getD i 0/\p.getD i 0<=(t.length:Int)-1),.c (.rows 62 2 .i64 (bz t p t.length)),[]⟩
def vz:List AD->Option Post
 | [.c (.rows .i64 t),.c (.ints .i64 p)]=>some (qc t p)
 |_=>none
def DB(t:List (List Int))(p:List Int):Nat->Option Ann
 |0=>some (Ann.mk ((Nat)) (fun i=>⟨[(0,.c (.ro (.rows .i64 t))),(1,.c (.ro (.ints .i64 p))),(5,.c (.own 9)),(6,.c (.int .i64 ((i:Int))))],[(9,some (.rows 0 62 2 .i64 (bz t p i)))]⟩) (fun i=>i<=t.length) (fun i=>t.length-i) (fun i=>fun b_=>match b_ with|2=>some (Ann.mk ((Nat)) (fun j=>⟨[(0,.c (.ro (.rows .i64 t))),(1,.c (.ro (.ints .i64 p))),(5,.c (.own 9)),(6,.c (.int .i64 ((i:Int)))),(7,.c (.int .i64 ((j:Int))))],[(9,some (.rows 0 62 2 .i64 (eM t p i j (bz t p i))))]⟩) (fun j=>j<=t.length/\i<t.length) (fun j=>t.length-j) (fun _=>av))|_=>none))
 |_=>none
def DC:List (Nat×Ctr):=[(96,⟨[],qb⟩)]
def vA(t:List (List Int))(p:List Int):Prop :=
 ((bK t/\True)/\((∃x0:Nat,x0<=t.length/\t=t/\p=p/\(0:Int)=(x0:Int)/\t=bz t p x0)/\(∀x1:Nat,(x1<=t.length->(ae (decide ((x1:Int)<(t.length:Int))) ((∃x2:Nat,(x2<=t.length/\x1<t.length)/\t=t/\p=p/\(x1:Int)=(x1:Int)/\(0:Int)=(x2:Int)/\bz t p x1=eM t p x1 x2 (bz t p x1))/\(∀x3:Nat,(x3<=t.length/\x1<t.length->(ae (decide ((x3:Int)<(t.length:Int))) (ab (x1:Int) p.length/\ab (p.getD (x1:Int).toNat (0:Int)) ((eM t p x1 x3 (bz t p x1)).length)/\ab (x3:Int) p.length/\ab (x1:Int) t.length/\ab (x3:Int) ((t.getD (x1:Int).toNat []).length)/\ab ((List.getD t (x1:Int).toNat []).getD (x3:Int).toNat (0:Int)) p.length/\ab (p.getD (x3:Int).toNat (0:Int)) (((eM t p x1 x3 (bz t p x1)).getD ((p.getD (x1:Int).toNat (0:Int)).toNat) []).length)/\ac ((x3:Int)+(1:Int))/\∃x4:Nat,(x4<=t.length/\x1<t.length)/\t.length-x4<t.length-x3/\t=t/\p=p/\(x1:Int)=(x1:Int)/\(x3:Int)+(1:Int)=(x4:Int)/\List.set (eM t p x1 x3 (bz t p x1)) ((p.getD (x1:Int).toNat (0:Int)).toNat) (List.set ((eM t p x1 x3 (bz t p x1)).getD ((p.getD (x1:Int).toNat (0:Int)).toNat) []) ((p.getD (x3:Int).toNat (0:Int)).toNat) (p.getD (((List.getD t (x1:Int).toNat []).getD (x3:Int).toNat (0:Int)).toNat) (0:Int)))=eM t p x1 x4 (bz t p x1)) (ac ((x1:Int)+(1:Int))/\(∃x5:Nat,((x5<=t.length) /\
 ((t.length-x5<t.length-x1)/\((t=t)/\((p=p)/\(((x1:Int)+(1:Int)=(x5:Int))/\(eM t p x1 x3 (bz t p x1)=bz t p x5)))))))))))) ((bz t p x1=bz t p t.length)/\True))))))
theorem Ld(t:List (List Int))(p:List Int):aY Tryz.prog (aj DC) am (DB t p) Tryz.f143 (aP Tryz.f143) [] [.c (.rows .i64 t),.c (.ints .i64 p)] (qc t p)=vA t p:=by kernel_rfl
theorem Le(t:List (List Int))(p:List Int)(Yh:(qc t p).pre):vA t p:=by
 simp only[qc,vA,aX,u1,u2,u3,u4,u5,u6,u7,u8,u9,v1,v2,v3,v4,v5,v6,v7,v8,v9,w1,w2,w3,w4,aN,ab,ac,ah,ax]at Yh⊢;obtain⟨r0,h0,h1,h2,h3⟩:=Yh;have q:=fun x (hx:x<t.length)=>h3 x (by omega)
 have I:=DA h1 (by omega) h3
 refine⟨r0,⟨0,by omega,rfl,rfl⟩,fun i hi=>⟨fun h=>⟨⟨0,⟨by omega,by omega⟩,rfl,rfl⟩,fun j ⟨hj,_⟩=>⟨fun h4=>?_,fun h4=>?_⟩⟩,fun h=>by rw[show i=t.length by omega]⟩⟩
 ·have C:=vw h1 (by omega) h3 i (by omega) j (by omega) _ (I i (by omega))
  have q1:=q i (by omega)
  have q2:=q j (by omega)
  have t1:=h1.2 i (by omega)
  have t2:=t1.2 j (by omega)
  have c1:=C.1
  have c2:=(C.2 (p.getD i 0).toNat (by omega)).1
  exact⟨by omega,by omega,by omega,by omega,by omega,by omega,by omega,by omega,j+1,by omega,by omega,by omega,rfl⟩
 ·exact⟨by omega,i+1,by omega,by omega,by omega,by rw[show j=t.length by omega];rfl⟩
theorem Lf:Fits Tryz.prog 143 ⟨[],vz⟩:=by
 refine bf (Γ:=aj DC) (aD Dz aW) Tryz.func143 fun ds p h hp=>?_
 unfold vz at h;split at h
 ·cases h
  exact⟨am,DB _ _ ,by rw[Ld];exact Le _ _  hp⟩
 ·cases h
end Go.Sx
end
section
open Go Go.Proofs
namespace Go.Sx
def eN(p:List Int):Nat->List Int
 |0=>List.replicate p.length 0
 |i+1=>(eN p i).set (p.getD i 0).toNat (i:Int)
def cu(p:List Int):List Int:=eN p p.length
def aT(p q:List Int):List Int:=p.map fun x=>q.getD x.toNat 0
theorem ml(p:List Int):∀i,(eN p i).length=p.length
 |0=>by simp[eN]
 |i+1=>by rw[eN,List.length_set,ml p i]
def iJ(n:Nat)(p:List Int):Prop:=∀i,i<p.length->0<=p.getD i 0/\p.getD i 0<(n:Int)
def qd(p:List Int)(q:List Int):Post:=⟨ah p.length/\iJ q.length p,.c (.ints 2 .i64 (aT p q)),[]⟩
def qe:List AD->Option Post
 | [.c (.ints .i64 p),.c (.ints .i64 q)]=>some (qd p q)
 |_=>none
def DD(p:List Int)(q:List Int):Nat->Option Ann
 |0=>some (Ann.mk ((Nat)) (fun i=>⟨[(0,.c (.ro (.ints .i64 p))),(1,.c (.ro (.ints .i64 q))),(5,.c (.own 10)),(6,.c (.int .i64 ((i:Int))))],[(10,some (.ints 2 .i64 (aT (p.take i) q)))]⟩) (fun i=>i<=p.length) (fun i=>p.length-i) (fun _=>av))
 |_=>none
def DE:List (Nat×Ctr):=[]
def vB(p:List Int)(q:List Int):Prop :=
 (∃x0:Nat,x0<=p.length/\p=p/\q=q/\(0:Int)=(x0:Int)/\[]=aT (List.take x0 p) q)/\∀x1:Nat,x1<=p.length->ae (decide ((x1:Int)<(p.length:Int))) (ab (x1:Int) p.length/\ab (p.getD (x1:Int).toNat (0:Int)) q.length/\ah ((aT (List.take x1 p) q).length+[q.getD ((p.getD (x1:Int).toNat (0:Int)).toNat) (0:Int)].length)/\ac ((x1:Int)+(1:Int))/\∃x2:Nat,x2<=p.length/\p.length-x2<p.length-x1/\p=p/\q=q/\(x1:Int)+(1:Int)=(x2:Int)/\aT (List.take x1 p) q++[q.getD ((p.getD (x1:Int).toNat (0:Int)).toNat) (0:Int)]=aT (List.take x2 p) q) (aT (List.take x1 p) q=aT p q/\True)
theorem Lg(p:List Int)(q:List Int):aY Tryz.prog (aj DE) am (DD p q) Tryz.f189 (aP Tryz.f189) [] [.c (.ints .i64 p),.c (.ints .i64 q)] (qd p q)=vB p q:=by kernel_rfl
theorem Lh(p:List Int)(q:List Int)(Yh:(qd p q).pre):vB p q:=by
 simp only[qd,vB,aX,u1,u2,u3,u4,u5,u6,u7,u8,u9,v1,v2,v3,v4,v5,v6,v7,v8,v9,w1,w2,w3,w4,aN,ab,ac,ah,ax]at Yh⊢;obtain⟨h1,h2⟩:=Yh;refine⟨⟨0,by omega,rfl,rfl⟩,fun i hi=>⟨fun h=>?_,fun h=>?_⟩⟩
 ·have hr:=h2 i (by omega)
  have hl:(aT (p.take i) q).length=i:=by rw[aT,List.length_map,List.length_take];omega
  refine⟨by omega,by omega,by omega,by omega,i+1,by omega,by omega,by omega,?_⟩
  rw[<-du p 0 i (by omega),aT,aT,List.map_append];rfl
 ·rw[List.take_of_length_le (by omega)]
theorem DF:Fits Tryz.prog 189 ⟨[],qe⟩:=by
 refine bf (Γ:=aj DE) aW Tryz.func189 fun ds p h hp=>?_
 unfold qe at h;split at h
 ·cases h
  exact⟨am,DD _ _ ,by rw[Lg];exact Lh _ _  hp⟩
 ·cases h
end Go.Sx
end
end
section
open Go Go.Proofs
namespace Go.Sx
/- Permutations of n elements that are closed. -/
structure AuOk (n:Nat) (A:List (List Int)):Prop where
 pos:1<=A.length
 len:∀i,i<A.length->(A.getD i []).length=n
 rng:∀i x,i<A.length->x<n->0<=en A i x/\en A i x<(n:Int)
 cl:∀i j,i<A.length->j<A.length->aT (A.getD i []) (A.getD j [])∈A
def kG(A:List (List Int))(i j:Int):Nat:=dN A (aT (A.getD i.toNat []) (A.getD j.toNat []))
structure KOk (n m:Nat) (K:List Int):Prop where
 len:K.length=n
 rng:∀x,x<n->-1<=K.getD x 0/\K.getD x 0<(m:Int)
theorem KOk.set{n m:Nat}{K:List Int}(h:KOk n m K)(z:Nat){w:Int}(hw:-1<=w/\w<(m:Int)):KOk n m (K.set z w) where
 len:=by rw[List.length_set];exact h.len
 rng x hx:=by
  rw[gW _ _ _ _ (by rw[h.len];exact hx)]
  split
  ·exact hw
  ·exact h.rng x hx
def ay(K:List Int):Nat:=K.countP fun x=>decide (x<0)
theorem nQ{K:List Int}{z:Nat}{w:Int}(hz:z<K.length)(h:K.getD z 0<0)(hw:0<=w):ay (K.set z w)+1=ay K:=by
 unfold ay
 induction K generalizing z with
 |nil=>simp at hz
 |cons k K ih =>
  cases z with
  |zero =>
   have h:k<0:=h
   have hw':¬ w<0:=by omega
   simp[h,hw']
  |succ z =>
   have:=ih (z:=z) (by simpa using hz) h
   simp only[List.set_cons_succ,List.countP_cons];omega
theorem vC(K:List Int):ay K<=K.length:=List.countP_le_length
def bJ(t A:List (List Int))(o:List Int)(x y:Nat):Nat:=(en t x (en A (o.getD x 0).toNat y).toNat).toNat
def dI(A:List (List Int))(o:List Int)(x y:Nat):Int:=(kG A (o.getD y 0) (o.getD x 0):Int)
def fN(t A:List (List Int))(o:List Int)(x y:Nat):Option (List Int) :=
 if o.getD x 0<0\/o.getD y 0<0 then some o
 else if o.getD (bJ t A o x y) 0<0 then some (o.set (bJ t A o x y) (dI A o x y))
 else if o.getD (bJ t A o x y) 0=dI A o x y then some o else none
def dv(t A:List (List Int))(o:List Int)(x:Nat):Nat->Option (List Int)
 |0=>some o
 |y+1=>(dv t A o x y).bind fun o'=>fN t A o' x y
def eg(t A:List (List Int))(o:List Int):Nat->Option (List Int)
 |0=>some o
 |x+1=>(eg t A o x).bind fun o'=>dv t A o' x t.length
def eO(t A:List (List Int)):Nat->List Int->Option (List Int)
 |0,o=>some o
 |fu+1,o=>match eg t A o t.length with
  |none=>none
  |some o'=>if ay o'<ay o then eO t A fu o' else some o'
def cR(t A:List (List Int))(K:List Int):Option (List Int):=eO t A (t.length+1) K
section
variable {n:Nat} {t A:List (List Int)}
theorem mm(hA:AuOk n A){o:List Int}(ho:KOk n A.length o){x y:Nat}(hx:x<n)(hy:y<n)(h1:0<=o.getD x 0)(h2:0<=o.getD y 0):aT (A.getD (o.getD y 0).toNat []) (A.getD (o.getD x 0).toNat [])∈A/\0<=dI A o x y/\dI A o x y<(A.length:Int):=by
 have a:=ho.rng x hx
 have b:=ho.rng y hy
 have m:=hA.cl (o.getD y 0).toNat (o.getD x 0).toNat (by omega) (by omega)
 have:=(jj m).1
 refine⟨m,?_⟩
 unfold dI kG;omega
theorem kH(ht:aB n t)(hA:AuOk n A){o:List Int}(ho:KOk n A.length o){x y:Nat}(hx:x<n)(hy:y<n)(h1:0<=o.getD x 0):(0<=en A (o.getD x 0).toNat y/\en A (o.getD x 0).toNat y<(n:Int))/\(0<=en t x (en A (o.getD x 0).toNat y).toNat/\en t x (en A (o.getD x 0).toNat y).toNat<(n:Int))/\bJ t A o x y<n:=by
 have a:=ho.rng x hx
 have b:=hA.rng (o.getD x 0).toNat y (by omega) hy
 have c:=(ht.2 x hx).2 (en A (o.getD x 0).toNat y).toNat (by omega)
 refine⟨b,c,?_⟩
 unfold bJ;omega
theorem DG(ht:aB n t)(hA:AuOk n A){o o':List Int}(ho:KOk n A.length o){x y:Nat}(hx:x<n)(hy:y<n)(h:fN t A o x y=some o'):KOk n A.length o'/\ay o'<=ay o:=by
 unfold fN at h;split at h
 ·cases h;exact⟨ho,Nat.le_refl _⟩
 ·rename_i hn
  have h1:0<=o.getD x 0:=by omega
  have h2:0<=o.getD y 0:=by omega
  have w:=mm hA ho hx hy h1 h2
  have z:=kH ht hA ho hx hy h1
  split at h
  ·rename_i hz
   cases h;have:=nQ (K:=o) (z:=bJ t A o x y) (by rw[ho.len];exact z.2.2) hz w.2.1
   exact⟨ho.set _ ⟨by omega,w.2.2⟩,by omega⟩
  ·split at h
   ·cases h;exact⟨ho,Nat.le_refl _⟩
   ·cases h
theorem qf(ht:aB n t)(hA:AuOk n A){o:List Int}(ho:KOk n A.length o){x:Nat}(hx:x<n):∀(y:Nat) {o':List Int},y<=n->dv t A o x y=some o'->KOk n A.length o'/\ay o'<=ay o
 |0,o',_,h=>by cases h;exact⟨ho,Nat.le_refl _⟩
 |y+1,o',hy,h=>by
  rw[dv]at h;obtain⟨o1,h1,h2⟩:=Option.bind_eq_some_iff.1 h;have a:=qf ht hA ho hx y (by omega) h1
  have b:=DG ht hA a.1 hx (by omega) h2
  exact⟨b.1,by omega⟩
theorem qg(ht:aB n t)(hA:AuOk n A){o:List Int}(ho:KOk n A.length o):∀(x:Nat) {o':List Int},x<=n->eg t A o x=some o'->KOk n A.length o'/\ay o'<=ay o
 |0,o',_,h=>by cases h;exact⟨ho,Nat.le_refl _⟩
 |x+1,o',hx,h=>by
  rw[eg]at h;obtain⟨o1,h1,h2⟩:=Option.bind_eq_some_iff.1 h;have a:=qg ht hA ho x (by omega) h1
  have b:=qf ht hA a.1 (by omega) t.length (by rw[ht.1];exact Nat.le_refl _) h2
  exact⟨b.1,by omega⟩
theorem DH(ht:aB n t)(hA:AuOk n A):∀(fu:Nat) {o o':List Int},KOk n A.length o->eO t A fu o=some o'->KOk n A.length o'/\ay o'<=ay o
 |0,o,o',ho,h=>by cases h;exact⟨ho,Nat.le_refl _⟩
 |fu+1,o,o',ho,h=>by
  rw[eO]at h;split at h
  ·cases h
  ·rename_i o1 h1
   have a:=qg ht hA ho t.length (by rw[ht.1];exact Nat.le_refl _) h1
   split at h
   ·have b:=DH ht hA fu a.1 h
    exact⟨b.1,by omega⟩
   ·cases h;exact a
end
/- The order of tables, and the list of circles. -/
def bE:List (List Int)->List (List Int)->Bool
 |x::a,y::b=>if x=y then bE a b else bh x y
 |_,_=>false
def co(c:List (List Int)):List (List (List Int))->Nat
 | []=>0
 |k::K=>if bE k c=true then co c K+1 else 0
theorem vD(c:List (List Int)):∀K,co c K<=K.length
 | []=>Nat.le_refl _
 |k::K=>by
  rw[co];split
  ·exact Nat.succ_le_succ (vD c K)
  ·exact Nat.zero_le _
theorem vE(c:List (List Int)):∀(K:List (List (List Int))) (i:Nat),(∀j,j<i->bE (K.getD j []) c=true)->i<=K.length->(∀h:i<K.length,bE (K.getD i []) c=false)->co c K=i
 | [],i,_,h,_=>by simp at h;subst h;rfl
 |k::K,0,_,_,h=>by
  have:=h (by simp)
  have h2:bE k c=false:=this
  rw[co,if_neg (by rw[h2];simp)]
 |k::K,i+1,a,b,d=>by
  have h0:bE k c=true:=a 0 (by omega)
  rw[co,if_pos h0,vE c K i (fun j hj=>a (j+1) (by omega)) (by simpa using b) (fun h=>d (by simpa using h))]
def fb(out:List (List (List Int)))(c:List (List Int)):List (List (List Int)):=out.take (co c out)++c::out.drop (co c out)
theorem DI(out:List (List (List Int)))(c:List (List Int)):(fb out c).length=out.length+1:=by
 have:=vD c out
 simp[fb];omega
theorem DJ(out:List (List (List Int)))(c x:List (List Int)):x∈fb out c↔x=c\/x∈out:=by
 have h1:(fb out c).Perm (c::(out.take (co c out)++out.drop (co c out))):=List.perm_middle
 rw[List.take_append_drop]at h1;rw[h1.mem_iff,List.mem_cons]
def aA:List Int->Nat
 | []=>0
 |k::K=>if 0<=k then aA K+1 else 0
theorem mn:∀K,aA K<=K.length
 | []=>Nat.le_refl _
 |k::K=>by
  rw[aA];split
  ·exact Nat.succ_le_succ (mn K)
  ·exact Nat.zero_le _
theorem vF:∀(K:List Int) (i:Nat),(∀j,j<i->0<=K.getD j 0)->i<=K.length->(∀h:i<K.length,K.getD i 0<0)->aA K=i
 | [],i,_,h,_=>by simp at h;subst h;rfl
 |k::K,0,_,_,h=>by
  have h2:k<0:=h (by simp)
  rw[aA,if_neg (by omega)]
 |k::K,i+1,a,b,d=>by
  have h0:0<=k:=a 0 (by omega)
  rw[aA,if_pos h0,vF K i (fun j hj=>a (j+1) (by omega)) (by simpa using b) (fun h=>d (by simpa using h))]
theorem qh:∀(K:List Int),aA K<K.length->K.getD (aA K) 0<0
 | [],h=>by simp at h
 |k::K,h=>by
  rw[aA]at h⊢;split
  ·rename_i q
   rw[if_pos q]at h;exact qh K (by simpa using h)
  ·rename_i q
   show k<0
   omega
theorem qi:∀(K:List Int),aA K=K.length->∀j,j<K.length->0<=K.getD j 0
 | [],_,j,h=>by simp at h
 |k::K,h,j,hj=>by
  rw[aA]at h;split at h
  ·rename_i q
   cases j with
   |zero=>exact q
   |succ j=>exact qi K (by simpa using h) j (by simpa using hj)
  ·simp at h
def bL(t A:List (List Int))(K:List Int):List (List Int):=(List.range t.length).map fun y=>aT (A.getD (K.getD y 0).toNat []) (t.getD y [])
def dC(g:Nat->List (List (List Int))->List (List (List Int)))(out:List (List (List Int))):Nat->List (List (List Int))
 |0=>out
 |i+1=>g i (dC g out i)
def dg(t A:List (List Int))(rec:List Int->List (List (List Int))->List (List (List Int)))(K:List Int)(i:Nat)(o:List (List (List Int))):List (List (List Int)) :=
 match cR t A (K.set (aA K) (i:Int))with
 |none=>o
 |some K'=>rec K' o
def cC(t A:List (List Int)):Nat->List Int->List (List (List Int))->List (List (List Int))
 |0,_,out=>out
 |d+1,K,out=>if aA K=K.length then fb out (bL t A K)else dC (dg t A (cC t A d) K) out A.length
theorem vG{P:List (List (List Int))->Prop}{g:Nat->List (List (List Int))->List (List (List Int))}{out:List (List (List Int))}(h0:P out):∀m,(∀i o,i<m->P o->P (g i o))->P (dC g out m)
 |0,_=>h0
 |m+1,hg=>hg m _ (by omega) (vG h0 m fun i o hi=>hg i o (by omega))
section
variable {n:Nat} {t A:List (List Int)}
theorem vH{K:List Int}(hx:aA K<K.length){i:Nat}:ay (K.set (aA K) (i:Int))+1=ay K:=nQ hx (qh K hx) (by omega)
theorem kI(ht:aB n t)(hA:AuOk n A){K K':List Int}(hK:KOk n A.length K)(hx:aA K<K.length){i:Nat}(hi:i<A.length)(h:cR t A (K.set (aA K) (i:Int))=some K'):KOk n A.length K'/\ay K'+1<=ay K:=by
 have a:=DH ht hA _ (hK.set (aA K) (w:=(i:Int)) ⟨by omega,by omega⟩) h
 have:=vH hx (i:=i)
 exact⟨a.1,by omega⟩
theorem DK(ht:aB n t)(hA:AuOk n A){Q:List (List Int)->Prop}(hQ:∀K,KOk n A.length K->aA K=K.length->Q (bL t A K)):∀(d:Nat) (K:List Int) (out:List (List (List Int))),KOk n A.length K->(∀c,c∈out->Q c)->∀c,c∈cC t A d K out->Q c
 |0,K,out,_,ho=>ho
 |d+1,K,out,hK,ho=>by
  rw[cC];split
  ·rename_i h
   intro c hc
   rcases(DJ _ _ _).1 hc with rfl|hc
   ·exact hQ K hK h
   ·exact ho c hc
  ·rename_i h
   have hx:aA K<K.length:=by have:=mn K;omega
   refine vG (P:=fun o=>∀c,c∈o->Q c) ho A.length fun i o hi hP=>?_
   unfold dg;split
   ·exact hP
   ·rename_i K' hs
    exact DK ht hA hQ d K' o (kI ht hA hK hx hi hs).1 hP
theorem vI{c:Nat}{g:Nat->List (List (List Int))->List (List (List Int))}{out:List (List (List Int))}:∀m,(∀i o,i<m->(g i o).length<=o.length+c)->(dC g out m).length<=out.length+m*c
 |0,_=>by simp[dC]
 |m+1,hg=>by
  have a:=vI (g:=g) (out:=out) (c:=c) m fun i o hi=>hg i o (by omega)
  have b:=hg m (dC g out m) (by omega)
  rw[dC,Nat.succ_mul];omega
theorem DL(ht:aB n t)(hA:AuOk n A){M:Nat}(hM:A.length<=M)(h1:1<=M):∀(d:Nat) (K:List Int) (out:List (List (List Int))),KOk n A.length K->(cC t A d K out).length<=out.length+M ^ ay K
 |0,K,out,_=>by rw[cC];omega
 |d+1,K,out,hK=>by
  rw[cC];split
  ·have:=Nat.one_le_pow (ay K) M h1
   rw[DI];omega
  ·rename_i h
   have hx:aA K<K.length:=by have:=mn K;omega
   have hp:1<=ay K:=by have:=vH hx (i:=0);omega
   have:=vI (g:=dg t A (cC t A d) K) (out:=out) (c:=M ^ (ay K-1)) A.length fun i o hi=>by
    unfold dg;split
    ·omega
    ·rename_i K' hs
     have q:=kI ht hA hK hx hi hs
     have a:=DL ht hA hM h1 d K' o q.1
     have b:M ^ ay K'<=M ^ (ay K-1):=Nat.pow_le_pow_right h1 (by omega)
     omega
   have e:M ^ ay K=M ^ (ay K-1)*M:=by rw[<-Nat.pow_succ];congr 1;omega
   have f:A.length*M ^ (ay K-1)<=M ^ (ay K-1)*M:=by rw[Nat.mul_comm];exact Nat.mul_le_mul_left _ hM
   omega
def Z0(n:Nat)(o:List Int):Prop:=o.length=n/\∀x,x<n->o.getD x 0=-1\/o.getD x 0=0
theorem Z0.ok{o:List Int}(z:Z0 n o)(hA:AuOk n A):KOk n A.length o:=⟨z.1,fun x hx=>by
 have:=hA.pos
 rcases z.2 x hx with h|h<;>omega⟩
theorem Z0.set{o:List Int}(z:Z0 n o)(q:Nat):Z0 n (o.set q 0):=⟨by rw[List.length_set];exact z.1,fun x hx=>by
 rw[gW _ _ _ _ (by rw[z.1];exact hx)]
 split
 ·exact .inr rfl
 ·exact z.2 x hx⟩
end
def aC(t A:List (List Int)):List (List (List Int)):=cC t A 12 ((List.replicate t.length (-1)).set 0 0) []
theorem vJ{n:Nat}:Z0 n ((List.replicate n (-1)).set 0 0):=by
 have z:Z0 n (List.replicate n (-1)):=⟨by simp,fun x hx=>.inl (by simp[List.getD_eq_getElem?_getD,hx])⟩
 exact z.set 0
theorem DM{n:Nat}(h:1<=n):ay ((List.replicate n (-1)).set 0 0)+1=n:=by
 rw[nQ (by simp;omega) (by simp[List.getD_eq_getElem?_getD,show 0<n by omega]) (by omega)]
 simp[ay,List.countP_replicate]
end Go.Sx
end
