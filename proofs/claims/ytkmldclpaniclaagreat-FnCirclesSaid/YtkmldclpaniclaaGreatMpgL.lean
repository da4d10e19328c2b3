/- MpgP MpgQ MpgL -/
import Derived.Test.YtkmldclpaniclaaGreatGrp
import Derived.Test.YtkmldclpaniclaaGreatMapA
set_option linter.unusedSimpArgs false
set_option linter.unusedVariables false
set_option linter.defProp false
section
open Go Go.Proofs
namespace Go.Sx
abbrev MS:=D1×List Bool×D1
def gi(l:D1)(x:Int):Int:=l.getD x.toNat 0
def g2(t:D2)(x y:Int):Int:=(t.getD x.toNat []).getD y.toNat 0
def bV(A:Int->Int->MS->Bool×MS)(x v y:Int):D3->D3->MS->Bool×MS
 |t::fr,u::tt,s=>match A (g2 t x y) (g2 u v (gi s.1 y)) s with
  |(false,s1)=>(false,s1)
  |(true,s1)=>match A (g2 t y x) (g2 u (gi s1.1 y) v) s1 with
   |(false,s2)=>(false,s2)
   |(true,s2)=>bV A x v y fr tt s2
 |_,_,s=>(true,s)
def dQ(A:Int->Int->MS->Bool×MS)(fr tt:D3)(x v:Int):Nat->Nat->MS->Bool×MS
 |0,_,s=>(true,s)
 |e+1,i,s=>if i<s.2.2.length then
   match bV A x v (s.2.2.getD i 0) fr tt s with
   |(false,s1)=>(false,s1)
   |(true,s1)=>dQ A fr tt x v e (i+1) s1
  else(true,s)
def aH(fr tt:D3):Nat->Int->Int->MS->Bool×MS
 |0,_,_,s=>(false,s)
 |d+1,x,v,s=>if 0<=gi s.1 x then(decide (gi s.1 x=v),s)
  else if s.2.1.getD v.toNat false=true then(false,s)
  else dQ (aH fr tt d) fr tt x v (s.1.length+1) 0 (s.1.set x.toNat v,s.2.1.set v.toNat true,s.2.2++[x])
def c6(n:Nat)(fr:D3):Prop:=∀t∈fr,t.length=n/\∀x y:Int,0<=x->x<n->(t.getD x.toNat []).length=n/\(0<=y->y<n->0<=g2 t x y/\g2 t x y<n)
def cq(l:D1):Nat:=l.countP fun z=>decide (z<0)
structure MW (n:Nat) (s:MS):Prop where
 im:s.1.length=n
 us:s.2.1.length=n
 st:∀x∈s.2.2,0<=x/\x<(n:Int)/\0<=gi s.1 x
 rg:∀z:Int,0<=z->z<n->gi s.1 z<(n:Int)
 cnt:s.2.2.length+cq s.1=n
structure MI (n:Nat) (s:MS):Prop where
 nd:s.2.2.Nodup
 mem:∀x:Int,0<=x->x<n->(x∈s.2.2↔0<=gi s.1 x)
 neg:∀x:Int,0<=x->x<n->¬ 0<=gi s.1 x->gi s.1 x=-1
 inj:∀x y:Int,0<=x->x<n->0<=y->y<n->0<=gi s.1 x->gi s.1 x=gi s.1 y->x=y
 us:∀v:Int,0<=v->v<n->(s.2.1.getD v.toNat false=true↔∃x:Int,0<=x/\x<n/\gi s.1 x=v)
structure MX (n:Nat) (s s':MS):Prop where
 hon:MI n s->MI n s'
 wf:MW n s'
 fre:cq s'.1<=cq s.1
 pre:∃l,s'.2.2=s.2.2++l
 keep:∀z:Int,0<=z->z<n->0<=gi s.1 z->gi s'.1 z=gi s.1 z
theorem MX.refl{n:Nat}{s:MS}(h:MW n s):MX n s s:=⟨fun q=>q,h,AE _,⟨[],by simp⟩,fun _ _ _ _=>rfl⟩
theorem MX.trans{n:Nat}{a b c:MS}(h:MX n a b)(k:MX n b c):MX n a c:=by
 obtain⟨l,hl⟩:=h.pre;obtain⟨m,hm⟩:=k.pre;refine⟨fun q=>k.hon (h.hon q),k.wf,Ar k.fre h.fre,⟨l++m,by rw[hm,hl,Ao]⟩,fun z h0 h1 h2=>?_⟩
 have e:=h.keep z h0 h1 h2
 rw[k.keep z h0 h1 (by rw[e];exact h2),e]
theorem uh{l:D1}{i:Nat}{v:Int}(hi:i<l.length)(hl:l.getD i 0<0)(hv:0<=v):cq (l.set i v)+1=cq l:=by
 induction l generalizing i with
 |nil=>simp at hi
 |cons a l ih =>
  cases i with
  |zero =>
   simp only[CM]at hl;simp only[List.set_cons_zero,cq,B6];have h1:decide (v<0)=false:=Ae (by omega)
   have h2:decide (a<0)=true:=Aa hl
   rw[h1,h2];simp
  |succ i =>
   simp only[CX]at hl;have:=ih (by simpa using hi) hl
   simp only[DQ,cq,B6]at this⊢;omega
theorem pV{l:D1}{x z v:Int}(hx:0<=x)(hxl:x<l.length)(hz:0<=z):gi (l.set x.toNat v) z=if z=x then v else gi l z:=by
 unfold gi;by_cases h:z=x
 ·subst h
  rw[AA rfl];have:z.toNat<l.length:=by omega
  simp[List.getD,this]
 ·rw[AB h]
  have:x.toNat≠z.toNat:=by omega
  simp[List.getD,A8 this]
theorem Nh{l:List Bool}{i j:Nat}{b:Bool}(hi:i<l.length):(l.set i b).getD j false=if j=i then b else l.getD j false:=by
 by_cases h:j=i
 ·subst h;rw[AA rfl];simp[List.getD,hi]
 ·rw[AB h];simp[List.getD,A8 (AM h)]
theorem MI.put{n:Nat}{s:MS}(h:MW n s){x v:Int}(hx:0<=x)(hxn:x<n)(hv:0<=v)(hvn:v<n)(hf:gi s.1 x<0)(hu:s.2.1.getD v.toNat false=false)(q:MI n s):MI n (s.1.set x.toNat v,s.2.1.set v.toNat true,s.2.2++[x]):=by
 have hxl:x<(s.1.length:Int):=by rw[h.im];exact hxn
 have hg:=fun z hz=>pV (l:=s.1) (x:=x) (z:=z) (v:=v) hx hxl hz
 have hxm:¬ x∈s.2.2:=fun e=>by have:=(q.mem x hx hxn).1 e;omega
 have hno:∀y:Int,0<=y->y<n->gi s.1 y≠v:=fun y h0 h1 e=>by
  have:=(q.us v hv hvn).2 ⟨y,h0,h1,e⟩
  rw[hu]at this;cases this
 refine⟨?_,fun z h0 h1=>?_,fun z h0 h1=>?_,fun y z y0 y1 z0 z1=>?_,fun w w0 ed=>?_⟩
 ·simp only
  rw[Ad];refine⟨q.nd,by simp,fun a ha b hb e=>?_⟩
  simp only[As]at hb;subst hb;subst e;exact hxm ha
 ·simp only[AI,As]
  rw[hg z h0];by_cases e:z=x
  ·rw[AA e];exact⟨fun _=>hv,fun _=>.inr e⟩
  ·rw[AB e,<-q.mem z h0 h1];exact⟨fun h=>h.resolve_right e,.inl⟩
 ·simp only
  rw[hg z h0];split
  ·intro hh;omega
  ·exact q.neg z h0 h1
 ·simp only
  rw[hg y y0,hg z z0];split
  ·split
   ·intros;omega
   ·intro _ e;exact absurd e.symm (hno z z0 z1)
  ·split
   ·intro _ e;exact absurd e (hno y y0 y1)
   ·exact q.inj y z y0 y1 z0 z1
 ·simp only
  rw[Nh (by rw[h.us];omega)]
  by_cases e:w=v
  ·rw[AA (by rw[e])]
   exact⟨fun _=>⟨x,hx,hxn,by rw[hg x hx,AA rfl,e]⟩,fun _=>rfl⟩
  ·rw[AB (by omega),q.us w w0 ed]
   constructor
   ·rintro⟨y,y0,y1,rfl⟩
    refine⟨y,y0,y1,?_⟩
    rw[hg y y0,AB (fun e2=>by subst e2;omega)]
   ·rintro⟨y,y0,y1,hy⟩
    rw[hg y y0]at hy;split at hy
    ·exact absurd hy.symm e
    ·exact⟨y,y0,y1,hy⟩
theorem MW.put{n:Nat}{s:MS}(h:MW n s){x v:Int}(hx:0<=x)(hxn:x<n)(hv:0<=v)(hvn:v<n)(hf:gi s.1 x<0)(hu:s.2.1.getD v.toNat false=false):MX n s (s.1.set x.toNat v,s.2.1.set v.toNat true,s.2.2++[x]):=by
 have hxl:x<(s.1.length:Int):=by rw[h.im];exact hxn
 have hg:=fun z hz=>pV (l:=s.1) (x:=x) (z:=z) (v:=v) hx hxl hz
 have hfr:=uh (l:=s.1) (i:=x.toNat) (v:=v) (by omega) hf hv
 refine⟨.put h hx hxn hv hvn hf hu,⟨by simp[h.im],by simp[h.us],fun z hz=>?_,fun z h0 h1=>?_,?_⟩,?_,⟨[x],rfl⟩,fun z h0 h1 h2=>?_⟩
 ·rcases AI.1 hz with hz|hz
  ·obtain⟨q1,q2,q3⟩:=h.st z hz
   refine⟨q1,q2,?_⟩
   show 0<=gi (s.1.set x.toNat v) z
   rw[hg z q1];split
   ·exact hv
   ·exact q3
  ·simp only[As]at hz
   subst hz;refine⟨hx,hxn,?_⟩
   show 0<=gi (s.1.set z.toNat v) z
   rw[hg z hx,AA rfl];exact hv
 ·show gi (s.1.set x.toNat v) z<n
  rw[hg z h0];split
  ·exact hvn
  ·exact h.rg z h0 h1
 ·have:=h.cnt
  show(s.2.2++[x]).length+cq (s.1.set x.toNat v)=n
  simp only[Ag,Bs];omega
 ·show cq (s.1.set x.toNat v)<=cq s.1
  omega
 ·show gi (s.1.set x.toNat v) z=gi s.1 z
  rw[hg z h0,AB (fun e=>by subst e;omega)]
def mE(n:Nat)(A:Int->Int->MS->Bool×MS):Prop:=∀(x v:Int) (s:MS),0<=x->x<n->0<=v->v<n->MW n s->MX n s (A x v s).2
theorem pW{n:Nat}{A:Int->Int->MS->Bool×MS}(hA:mE n A){x v y:Int}(hx:0<=x/\x<n)(hv:0<=v/\v<n)(hy:0<=y/\y<n):∀{fr tt:D3} {s:MS},c6 n fr->c6 n tt->MW n s->0<=gi s.1 y->MX n s (bV A x v y fr tt s).2
 | [],_,s,_,_,h,_=>by unfold bV;exact .refl h
 |_::_,[],s,_,_,h,_=>by unfold bV;exact .refl h
 |t::fr,u::tt,s,hf,ht,h,hg=>by
  unfold bV;have hgn:=h.rg y hy.1 hy.2
  have t1:=hf t AX
  have u1:=ht u AX
  have a1:=hA (g2 t x y) (g2 u v (gi s.1 y)) s ((t1.2 x y hx.1 hx.2).2 hy.1 hy.2).1 ((t1.2 x y hx.1 hx.2).2 hy.1 hy.2).2 ((u1.2 v _ hv.1 hv.2).2 hg hgn).1 ((u1.2 v _ hv.1 hv.2).2 hg hgn).2 h
  cases hq:A (g2 t x y) (g2 u v (gi s.1 y)) s with
  |mk b s1 =>
   rw[hq]at a1;cases b with
   |false=>exact a1
   |true =>
    have hg1:0<=gi s1.1 y:=by rw[a1.keep y hy.1 hy.2 hg];exact hg
    have hgn1:=a1.wf.rg y hy.1 hy.2
    have a2:=hA (g2 t y x) (g2 u (gi s1.1 y) v) s1 ((t1.2 y x hy.1 hy.2).2 hx.1 hx.2).1 ((t1.2 y x hy.1 hy.2).2 hx.1 hx.2).2 ((u1.2 _ v hg1 hgn1).2 hv.1 hv.2).1 ((u1.2 _ v hg1 hgn1).2 hv.1 hv.2).2 a1.wf
    simp only;cases hq2:A (g2 t y x) (g2 u (gi s1.1 y) v) s1 with
    |mk b2 s2 =>
     rw[hq2]at a2;cases b2 with
     |false=>exact a1.trans a2
     |true =>
      have a12:=a1.trans a2
      exact a12.trans (pW hA hx hv hy (fun t2 h2=>hf t2 (AO _ h2)) (fun t2 h2=>ht t2 (AO _ h2)) a12.wf (by rw[a12.keep y hy.1 hy.2 hg];exact hg))
theorem EX{n:Nat}{A:Int->Int->MS->Bool×MS}(hA:mE n A){x v:Int}(hx:0<=x/\x<n)(hv:0<=v/\v<n){fr tt:D3}(hf:c6 n fr)(ht:c6 n tt):∀(e i:Nat) (s:MS),MW n s->MX n s (dQ A fr tt x v e i s).2
 |0,i,s,h=>.refl h
 |e+1,i,s,h=>by
  unfold dQ;split
  ·rename_i hi
   have hm:s.2.2.getD i 0∈s.2.2:=by
    rw[List.getD,AF hi];exact A7 hi
   obtain⟨q1,q2,q3⟩:=h.st _ hm;have a1:=pW hA hx hv ⟨q1,q2⟩ hf ht h q3
   cases hq:bV A x v (s.2.2.getD i 0) fr tt s with
   |mk b s1 =>
    rw[hq]at a1;cases b with
    |false=>exact a1
    |true=>exact a1.trans (EX hA hx hv hf ht e (i+1) s1 a1.wf)
  ·exact .refl h
theorem mF{n:Nat}{fr tt:D3}(hf:c6 n fr)(ht:c6 n tt):∀d,mE n (aH fr tt d)
 |0=>fun x v s _ _ _ _ h=>.refl h
 |d+1=>fun x v s hx hxn hv hvn h=>by
  unfold aH;split
  ·exact .refl h
  ·rename_i hg
   split
   ·exact .refl h
   ·rename_i hu
    have a1:=h.put hx hxn hv hvn (by omega) (by simpa using hu)
    exact a1.trans (EX (mF hf ht d) ⟨hx,hxn⟩ ⟨hv,hvn⟩ hf ht _ _ _ a1.wf)
theorem Ni{A:Int->Int->MS->Bool×MS}{x v y:Int}{t u:D2}{fr tt:D3}{s:MS}(h:(A (g2 t x y) (g2 u v (gi s.1 y)) s).1=false):bV A x v y (t::fr) (u::tt) s=A (g2 t x y) (g2 u v (gi s.1 y)) s:=by
 rw[bV];cases hq:A (g2 t x y) (g2 u v (gi s.1 y)) s with
 |mk b s1=>rw[hq]at h;cases h;rfl
theorem Nj{A:Int->Int->MS->Bool×MS}{x v y:Int}{t u:D2}{fr tt:D3}{s:MS}(h:(A (g2 t x y) (g2 u v (gi s.1 y)) s).1=true)(k:(A (g2 t y x) (g2 u (gi (A (g2 t x y) (g2 u v (gi s.1 y)) s).2.1 y) v) (A (g2 t x y) (g2 u v (gi s.1 y)) s).2).1=false):bV A x v y (t::fr) (u::tt) s=A (g2 t y x) (g2 u (gi (A (g2 t x y) (g2 u v (gi s.1 y)) s).2.1 y) v) (A (g2 t x y) (g2 u v (gi s.1 y)) s).2:=by
 rw[bV];cases hq:A (g2 t x y) (g2 u v (gi s.1 y)) s with
 |mk b s1 =>
  rw[hq]at h k;cases h;simp only at k⊢;cases hq2:A (g2 t y x) (g2 u (gi s1.1 y) v) s1 with
  |mk b2 s2=>rw[hq2]at k;cases k;rfl
theorem EY{A:Int->Int->MS->Bool×MS}{x v y:Int}{t u:D2}{fr tt:D3}{s:MS}(h:(A (g2 t x y) (g2 u v (gi s.1 y)) s).1=true)(k:(A (g2 t y x) (g2 u (gi (A (g2 t x y) (g2 u v (gi s.1 y)) s).2.1 y) v) (A (g2 t x y) (g2 u v (gi s.1 y)) s).2).1=true):bV A x v y (t::fr) (u::tt) s=bV A x v y fr tt (A (g2 t y x) (g2 u (gi (A (g2 t x y) (g2 u v (gi s.1 y)) s).2.1 y) v) (A (g2 t x y) (g2 u v (gi s.1 y)) s).2).2:=by
 rw[bV];cases hq:A (g2 t x y) (g2 u v (gi s.1 y)) s with
 |mk b s1 =>
  rw[hq]at h k;cases h;simp only at k⊢;cases hq2:A (g2 t y x) (g2 u (gi s1.1 y) v) s1 with
  |mk b2 s2=>rw[hq2]at k;cases k;rfl
theorem Nk{A:Int->Int->MS->Bool×MS}{fr tt:D3}{x v:Int}{e i:Nat}{s:MS}(hi:i<s.2.2.length)(h:(bV A x v (s.2.2.getD i 0) fr tt s).1=false):dQ A fr tt x v (e+1) i s=bV A x v (s.2.2.getD i 0) fr tt s:=by
 rw[dQ,AA hi];cases hq:bV A x v (s.2.2.getD i 0) fr tt s with
 |mk b s1=>rw[hq]at h;cases h;rfl
theorem EZ{A:Int->Int->MS->Bool×MS}{fr tt:D3}{x v:Int}{e i:Nat}{s:MS}(hi:i<s.2.2.length)(h:(bV A x v (s.2.2.getD i 0) fr tt s).1=true):dQ A fr tt x v (e+1) i s=dQ A fr tt x v e (i+1) (bV A x v (s.2.2.getD i 0) fr tt s).2:=by
 rw[dQ,AA hi];cases hq:bV A x v (s.2.2.getD i 0) fr tt s with
 |mk b s1=>rw[hq]at h;cases h;rfl
end Go.Sx
end
section
open Go Go.Proofs
namespace Go.Sx
theorem Nl{n:Nat}:∀(l:D1) (im:D1) (us:List Bool),im.length=n->us.length=n->l.Nodup->(∀x∈l,0<=x/\x<n/\0<=gi im x/\gi im x<n) ->
  jx l im us/\(dA l im us).1.length=n/\(dA l im us).2.length=n/\(∀z:Int,0<=z->z<n->gi (dA l im us).1 z=if z∈l then -1 else gi im z) /\
  ∀v:Int,0<=v->v<n->((dA l im us).2.getD v.toNat false=true↔us.getD v.toNat false=true/\∀x∈l,gi im x≠v)
 | [],im,us,hi,hu,_,_=>⟨trivial,hi,hu,fun z _ _=>by simp[dA],fun v _ _=>by simp[dA]⟩
 |x::l,im,us,hi,hu,hnd,hm=>by
  obtain⟨hx0,hxn,hg0,hgn⟩:=hm x AX;have hgs:=fun z hz=>pV (l:=im) (x:=x) (z:=z) (v:=-1) hx0 (by omega) hz
  have hxl:¬ x∈l:=(AZ.1 hnd).1
  have hsame:∀y∈l,gi (im.set x.toNat (-1)) y=gi im y:=fun y hy=>by
   rw[hgs y (hm y (AO _ hy)).1,AB (fun e:y=x=>hxl (e ▸ hy))]
  obtain⟨q1,q2,q3,q4,q5⟩:=Nl (n:=n) l (im.set x.toNat (-1)) (us.set (gi im x).toNat false) (by simp[hi]) (by simp[hu]) (AZ.1 hnd).2 (fun y hy=>by
   rw[hsame y hy];exact hm y (AO _ hy))
  refine⟨⟨⟨hx0,by omega⟩,⟨hg0,by rw[hu];exact hgn⟩,q1⟩,q2,q3,fun z z0 z1=>?_,fun v v0 v1=>?_⟩
  ·show gi (dA l (im.set x.toNat (-1)) (us.set (gi im x).toNat false)).1 z=_
   rw[q4 z z0 z1,hgs z z0];by_cases e:z=x
   ·subst e;simp
   ·simp[e]
  ·show(dA l (im.set x.toNat (-1)) (us.set (gi im x).toNat false)).2.getD v.toNat false=true↔_
   rw[q5 v v0 v1,Nh (by omega)]
   have hal:(∀y∈l,gi (im.set x.toNat (-1)) y≠v)↔∀y∈l,gi im y≠v:=⟨fun h y hy=>by rw[<-hsame y hy];exact h y hy,fun h y hy=>by rw[hsame y hy];exact h y hy⟩
   rw[hal,List.forall_mem_cons];by_cases e:gi im x=v
   ·rw[AA (by rw[e])];simp[e]
   ·rw[AB (by omega)]
    constructor
    ·rintro⟨h1,h2⟩;exact⟨h1,e,h2⟩
    ·rintro⟨h1,_,h2⟩;exact⟨h1,h2⟩
theorem Nm{n:Nat}{a b:D1}(ha:a.length=n)(hb:b.length=n)(h:∀z:Int,0<=z->z<n->gi a z=gi b z):a=b:=by
 apply BP (by omega)
 intro i h1 h2
 have:=h (i:Int) (by omega) (by omega)
 simpa[gi,List.getD,h1,h2]using this
theorem V5{n:Nat}{a b:List Bool}(ha:a.length=n)(hb:b.length=n)(h:∀z:Int,0<=z->z<n->(a.getD z.toNat false=true↔b.getD z.toNat false=true)):a=b:=by
 apply BP (by omega)
 intro i h1 h2
 have:=h (i:Int) (by omega) (by omega)
 simp[List.getD,h1,h2]at this
 exact this
theorem V6{n:Nat}{s s':MS}(w:MW n s)(q:MI n s)(h:MX n s s'):jx (s'.2.2.drop s.2.2.length) s'.1 s'.2.1/\dA (s'.2.2.drop s.2.2.length) s'.1 s'.2.1=(s.1,s.2.1)/\s'.2.2.take s.2.2.length=s.2.2/\s.2.2.length<=s'.2.2.length:=by
 obtain⟨l,hl⟩:=h.pre;have q':=h.hon q
 have hd:s'.2.2.drop s.2.2.length=l:=by rw[hl];simp
 have hnd:=q'.nd
 rw[hl,Ad]at hnd;obtain⟨_,hnl,hdis⟩:=hnd;have hml:∀x∈l,x∈s'.2.2:=fun x hx=>by rw[hl];exact BK _ hx
 obtain⟨q1,q2,q3,q4,q5⟩:=Nl l s'.1 s'.2.1 h.wf.im h.wf.us hnl (fun x hx=>by
  obtain⟨z1,z2,z3⟩:=h.wf.st x (hml x hx);exact⟨z1,z2,z3,h.wf.rg x z1 z2⟩)
 rw[hd];have e1:(dA l s'.1 s'.2.1).1=s.1:=Nm q2 w.im fun z z0 z1=>by
  rw[q4 z z0 z1];by_cases e:z∈l
  ·rw[AA e]
   by_cases f:0<=gi s.1 z
   ·exact absurd rfl (hdis z ((q.mem z z0 z1).2 f) z e)
   ·exact(q.neg z z0 z1 f).symm
  ·rw[AB e]
   by_cases f:0<=gi s.1 z
   ·exact h.keep z z0 z1 f
   ·rw[q.neg z z0 z1 f]
    apply q'.neg z z0 z1
    intro f2
    have:=(q'.mem z z0 z1).2 f2
    rw[hl,AI]at this;exact this.elim (fun m=>f ((q.mem z z0 z1).1 m)) e
 have e2:(dA l s'.1 s'.2.1).2=s.2.1:=V5 q3 w.us fun v v0 v1=>by
  rw[q5 v v0 v1,q.us v v0 v1,q'.us v v0 v1]
  constructor
  ·rintro⟨⟨x,x0,x1,hx⟩,hno⟩
   have hxm:=(q'.mem x x0 x1).2 (by omega)
   rw[hl,AI]at hxm;rcases hxm with hxm|hxm
   ·exact⟨x,x0,x1,by rw[<-h.keep x x0 x1 ((q.mem x x0 x1).1 hxm)];exact hx⟩
   ·exact absurd hx (hno x hxm)
  ·rintro⟨x,x0,x1,hx⟩
   have hk:=h.keep x x0 x1 (by omega)
   refine⟨⟨x,x0,x1,by rw[hk];exact hx⟩,fun y hy e=>?_⟩
   obtain⟨y0,y1,y2⟩:=h.wf.st y (hml y hy);have:=q'.inj y x y0 y1 x0 x1 y2 (by rw[e,hk,hx])
   subst this;exact hdis y ((q.mem y y0 y1).2 (by omega)) y hy rfl
 refine⟨q1,?_,by rw[hl];simp,by rw[hl];simp⟩
 exact Prod.ext e1 e2
def ba(go:D2->D1->Bool):D2->D2->D2×Bool
 |pre,[]=>(pre,true)
 |pre,x::l=>if go pre x=true then ba go (pre++[x]) l else(pre++[x],false)
def eI(ok:D2->D1->Prop)(go:D2->D1->Bool):D2->D2->Prop
 |_,[]=>True
 |pre,x::l=>ok pre x/\(go pre x=true->eI ok go (pre++[x]) l)
theorem Nn{go:D2->D1->Bool}:∀(a b pre:D2),ba go pre (a++b)=if(ba go pre a).2=true then ba go (ba go pre a).1 b else ba go pre a
 | [],b,pre=>rfl
 |x::a,b,pre=>by
  rw[Bj,ba,ba];by_cases h:go pre x=true
  ·rw[AA h,AA h];exact Nn a b _
  ·rw[AB h,AB h];rfl
theorem No{ok:D2->D1->Prop}{go:D2->D1->Bool}:∀(a b pre:D2),eI ok go pre (a++b)↔eI ok go pre a/\((ba go pre a).2=true->eI ok go (ba go pre a).1 b)
 | [],b,pre=>by simp[eI,ba]
 |x::a,b,pre=>by
  rw[Bj,eI,eI,ba];by_cases h:go pre x=true
  ·rw[AA h,No a b];simp[h,and_assoc]
  ·rw[AB h];simp[h]
theorem Np{go:D2->D1->Bool}:∀(a pre:D2),pre.length<=(ba go pre a).1.length
 | [],pre=>AE _
 |x::a,pre=>by
  rw[ba];by_cases h:go pre x=true
  ·rw[AA h];have:=Np (go:=go) a (pre++[x]);simp at this;omega
  ·rw[AB h];simp
def f7(fr tt:D3)(E:MS->D2)(s:MS)(x:Int):Nat->Nat->D2
 |0,_=>[]
 |e+1,v=>(if s.2.1.getD v false=true then []else if(aH fr tt 101 x v s).1=true then E (aH fr tt 101 x v s).2 else [])++f7 fr tt E s x e (v+1)
def bJ(fr tt:D3):Nat->MS->D2
 |0,_=>[]
 |d+1,s=>if aY (-1) s.1 0<0 then [s.1]else f7 fr tt (bJ fr tt d) s (aY (-1) s.1 0) s.1.length 0
theorem E3(x:Int):∀(l:D1) (k:Int),0<=k->aY x l k<0/\¬ x∈l\/k<=aY x l k/\aY x l k<k+(l.length:Int)/\l.getD (aY x l k-k).toNat 0=x
 | [],k,hk=>.inl ⟨by simp[aY],by simp⟩
 |y::l,k,hk=>by
  rw[aY];by_cases h:y=x
  ·rw[AA h];exact .inr ⟨Ct _,by simp;omega,by simp[h]⟩
  ·rw[AB h]
   rcases E3 x l (k+1) (by omega)with h1|⟨h1,h2,h3⟩
   ·exact .inl ⟨h1.1,by simp[h1.2,AM h]⟩
   ·refine .inr ⟨by omega,by simp only[AS];omega,?_⟩
    have:(aY x l (k+1)-k).toNat=(aY x l (k+1)-(k+1)).toNat+1:=by omega
    rw[this,CX];exact h3
theorem Nq{n:Nat}{fr tt:D3}(hf:c6 n fr)(ht:c6 n tt){d:Nat}{x v:Int}{s:MS}(hx:0<=x)(hxn:x<n)(hv:0<=v)(hvn:v<n)(w:MW n s)(hg:gi s.1 x<0)(hu:s.2.1.getD v.toNat false=false):cq (aH fr tt (d+1) x v s).2.1+1<=cq s.1:=by
 have e:aH fr tt (d+1) x v s=dQ (aH fr tt d) fr tt x v (s.1.length+1) 0 (s.1.set x.toNat v,s.2.1.set v.toNat true,s.2.2++[x]):=by
  rw[aH];exact(AB (by omega)).trans (AB (by rw[hu];simp))
 rw[e];have hput:=w.put hx hxn hv hvn hg hu
 have hfs:=uh (l:=s.1) (i:=x.toNat) (v:=v) (by rw[w.im];omega) hg hv
 have:=(EX (mF hf ht d) ⟨hx,hxn⟩ ⟨hv,hvn⟩ hf ht (s.1.length+1) 0 _ hput.wf).fre
 simp only at this;omega
end Go.Sx
end
section
open Go Go.Proofs
namespace Go.Sx
def TT(R:D2->D2->Prop):D3->D3->Prop
 |t::fr,u::tt=>R t u/\TT R fr tt
 |_,_=>True
theorem TT.imp{R S:D2->D2->Prop}:∀{fr tt:D3},(∀t u,t∈fr->u∈tt->R t u->S t u)->TT R fr tt->TT S fr tt
 | [],_,_,_=>by unfold TT;trivial
 |_::_,[],_,_=>by unfold TT;trivial
 |t::fr,u::tt,h,k=>⟨h t u AX AX k.1,TT.imp (fun t' u' h1 h2=>h t' u' (AO _ h1) (AO _ h2)) k.2⟩
theorem TT.iff{R:D2->D2->Prop}:∀{fr tt:D3},fr.length=tt.length->(TT R fr tt↔∀k,k<fr.length->R (fr.getD k []) (tt.getD k []))
 | [],[],_=>by unfold TT;simp
 | [],_::_,h=>by simp at h
 |_::_,[],h=>by simp at h
 |t::fr,u::tt,h=>by
  unfold TT;rw[TT.iff (by simpa using h)]
  constructor
  ·rintro⟨h1,h2⟩ k hk
   cases k with
   |zero=>exact h1
   |succ k=>exact h2 k (by simpa using hk)
  ·intro h1
   exact⟨h1 0 (by simp),fun k hk=>h1 (k+1) (by simpa using hk)⟩
def ui(n:Nat)(p:D1)(t u:D2):Prop:=∀x y:Int,0<=x->x<n->0<=y->y<n->gi p (g2 t x y)=g2 u (gi p x) (gi p y)
def At(p:D1)(a b:Int)(t u:D2):Prop:=gi p (g2 t a b)=g2 u (gi p a) (gi p b)
def gW(n:Nat)(p:D1)(s:MS):Prop:=∀z:Int,0<=z->z<n->0<=gi s.1 z->gi p z=gi s.1 z
theorem gW.put{n:Nat}{p:D1}{s:MS}(w:MW n s)(h:gW n p s){x v:Int}(hx:0<=x)(hxn:x<n)(hp:gi p x=v):gW n p (s.1.set x.toNat v,s.2.1.set v.toNat true,s.2.2++[x]):=fun z z0 z1 hz=>by
 have e:=pV (l:=s.1) (x:=x) (z:=z) (v:=v) hx (by rw[w.im];exact hxn) z0
 simp only at hz⊢;rw[e]at hz⊢;split
 ·rename_i e2;rw[e2];exact hp
 ·rename_i e2;rw[AB e2]at hz;exact h z z0 z1 hz
section
variable {n:Nat} {p:D1} {F T:D3}
def E4(n d:Nat)(p:D1)(A:Int->Int->MS->Bool×MS):Prop:=∀(x v:Int) (s:MS),0<=x->x<n->0<=v->v<n->MW n s->MI n s->cq s.1<d->gW n p s->gi p x=v->(A x v s).1=true/\gW n p (A x v s).2
theorem Nr{d:Nat}{A:Int->Int->MS->Bool×MS}(hA:mE n A)(hC:E4 n d p A){x v y:Int}(hx:0<=x/\x<n)(hv:0<=v/\v<n)(hy:0<=y/\y<n)(hp:gi p x=v):∀{fr tt:D3} {s:MS},c6 n fr->c6 n tt->TT (ui n p) fr tt->MW n s->MI n s->cq s.1<d->gW n p s->0<=gi s.1 y ->
  (bV A x v y fr tt s).1=true/\gW n p (bV A x v y fr tt s).2
 | [],_,s,_,_,_,_,_,_,h,_=>by unfold bV;exact⟨rfl,h⟩
 |_::_,[],s,_,_,_,_,_,_,h,_=>by unfold bV;exact⟨rfl,h⟩
 |t::fr,u::tt,s,hf,ht,hH,w,q,hd,h,hg=>by
  have hgn:=w.rg y hy.1 hy.2
  have t1:=hf t AX
  have u1:=ht u AX
  have hpy:gi p y=gi s.1 y:=h y hy.1 hy.2 hg
  have a0:=(t1.2 x y hx.1 hx.2).2 hy.1 hy.2
  have b0:=(u1.2 v _ hv.1 hv.2).2 hg hgn
  have m1:=hA (g2 t x y) (g2 u v (gi s.1 y)) s a0.1 a0.2 b0.1 b0.2 w
  obtain⟨c1,c2⟩:=hC (g2 t x y) (g2 u v (gi s.1 y)) s a0.1 a0.2 b0.1 b0.2 w q hd h (by rw[hH.1 x y hx.1 hx.2 hy.1 hy.2,hp,hpy])
  have hg1:0<=gi (A (g2 t x y) (g2 u v (gi s.1 y)) s).2.1 y:=by rw[m1.keep y hy.1 hy.2 hg];exact hg
  have hgn1:=m1.wf.rg y hy.1 hy.2
  have a2:=(t1.2 y x hy.1 hy.2).2 hx.1 hx.2
  have b2:=(u1.2 _ v hg1 hgn1).2 hv.1 hv.2
  have m2:=hA (g2 t y x) (g2 u (gi (A (g2 t x y) (g2 u v (gi s.1 y)) s).2.1 y) v) _ a2.1 a2.2 b2.1 b2.2 m1.wf
  have hd1:cq (A (g2 t x y) (g2 u v (gi s.1 y)) s).2.1<d:=by have:=m1.fre;omega
  obtain⟨c3,c4⟩:=hC (g2 t y x) (g2 u (gi (A (g2 t x y) (g2 u v (gi s.1 y)) s).2.1 y) v) _ a2.1 a2.2 b2.1 b2.2 m1.wf (m1.hon q) hd1 c2 (by rw[hH.1 y x hy.1 hy.2 hx.1 hx.2,hp,c2 y hy.1 hy.2 hg1])
  rw[EY c1 c3];have m12:=m1.trans m2
  exact Nr hA hC hx hv hy hp (fun t2 h2=>hf t2 (AO _ h2)) (fun t2 h2=>ht t2 (AO _ h2)) hH.2 m12.wf (m12.hon q) (by have:=m12.fre;omega) c4 (by rw[m12.keep y hy.1 hy.2 hg];exact hg)
theorem Ns{d:Nat}{A:Int->Int->MS->Bool×MS}(hA:mE n A)(hC:E4 n d p A){x v:Int}(hx:0<=x/\x<n)(hv:0<=v/\v<n)(hp:gi p x=v)(hf:c6 n F)(ht:c6 n T)(hH:TT (ui n p) F T):∀(e i:Nat) (s:MS),MW n s->MI n s->cq s.1<d->gW n p s ->
  (dQ A F T x v e i s).1=true/\gW n p (dQ A F T x v e i s).2
 |0,i,s,_,_,_,h=>⟨rfl,h⟩
 |e+1,i,s,w,q,hd,h=>by
  by_cases hi:i<s.2.2.length
  ·have hm:s.2.2.getD i 0∈s.2.2:=by rw[List.getD,AF hi];exact A7 hi
   obtain⟨q1,q2,q3⟩:=w.st _ hm;obtain⟨c1,c2⟩:=Nr hA hC hx hv ⟨q1,q2⟩ hp hf ht hH w q hd h q3;have m1:=pW hA hx hv ⟨q1,q2⟩ hf ht w q3
   rw[EZ hi c1];exact Ns hA hC hx hv hp hf ht hH e (i+1) _ m1.wf (m1.hon q) (by have:=m1.fre;omega) c2
  ·unfold dQ
   rw[AB hi];exact⟨rfl,h⟩
theorem Nt(hl:p.length=n)(hnd:p.Nodup){x y:Int}(hx:0<=x/\x<n)(hy:0<=y/\y<n)(e:gi p x=gi p y):x=y:=by
 have h1:x.toNat<p.length:=by omega
 have h2:y.toNat<p.length:=by omega
 simp only[gi,List.getD,AF h1,AF h2,B4]at e;have:=(CH hnd).1 e
 omega
theorem Nu(hl:p.length=n)(hnd:p.Nodup)(hf:c6 n F)(ht:c6 n T)(hH:TT (ui n p) F T):∀d,E4 n d p (aH F T d)
 |0=>fun _ _ s _ _ _ _ _ _ hd=>by omega
 |d+1=>fun x v s hx hxn hv hvn w q hd h hp=>by
  unfold aH;by_cases h0:0<=gi s.1 x
  ·rw[AA h0]
   exact⟨by simp only[Ab];rw[<-h x hx hxn h0];exact hp,h⟩
  ·rw[AB h0]
   have hu:¬ s.2.1.getD v.toNat false=true:=fun hu=>by
    obtain⟨z,z0,z1,hz⟩:=(q.us v hv hvn).1 hu;have e:=h z z0 z1 (by omega)
    have:=Nt hl hnd ⟨z0,z1⟩ ⟨hx,hxn⟩ (by rw[e,hp,hz])
    subst this;exact h0 (by omega)
   rw[AB hu];have m1:=w.put hx hxn hv hvn (by omega) (by simpa using hu)
   have hfs:=uh (l:=s.1) (i:=x.toNat) (v:=v) (by rw[w.im];omega) (by show gi s.1 x<0;omega) hv
   exact Ns (mF hf ht d) (Nu hl hnd hf ht hH d) ⟨hx,hxn⟩ ⟨hv,hvn⟩ hp hf ht hH _ _ _ m1.wf (m1.hon q) (by simp only;omega) (h.put w hx hxn hp)
end
section
variable {n:Nat} {F T:D3}
def Cl(F T:D3)(E:D1)(s:MS):Prop:=∀a∈s.2.2,∀b∈s.2.2,a ∉ E->b ∉ E->TT (At s.1 a b) F T
theorem E5{s s':MS}(w:MW n s)(h:MX n s s')(hf:c6 n F)(ht:c6 n T){a b:Int}(ha:0<=a/\a<n/\0<=gi s.1 a)(hb:0<=b/\b<n/\0<=gi s.1 b)(k:TT (At s.1 a b) F T):TT (At s'.1 a b) F T:=by
 refine k.imp fun t u h1 h2 e=>?_
 have t0:=((hf t h1).2 a b ha.1 ha.2.1).2 hb.1 hb.2.1
 have u0:=((ht u h2).2 _ _ ha.2.2 (w.rg a ha.1 ha.2.1)).2 hb.2.2 (w.rg b hb.1 hb.2.1)
 have e:gi s.1 (g2 t a b)=g2 u (gi s.1 a) (gi s.1 b):=e
 show gi s'.1 (g2 t a b)=g2 u (gi s'.1 a) (gi s'.1 b)
 rw[h.keep a ha.1 ha.2.1 ha.2.2,h.keep b hb.1 hb.2.1 hb.2.2,h.keep _ t0.1 t0.2 (by rw[e];exact u0.1)]
 exact e
def E6(n:Nat)(F T:D3)(A:Int->Int->MS->Bool×MS):Prop:=∀(E:D1) (x v:Int) (s:MS),0<=x->x<n->0<=v->v<n->MW n s->Cl F T E s->(A x v s).1=true->Cl F T E (A x v s).2/\gi (A x v s).2.1 x=v
theorem Nv{A:Int->Int->MS->Bool×MS}(hA:mE n A)(hS:E6 n F T A){E:D1}{x v y:Int}(hx:0<=x/\x<n)(hv:0<=v/\v<n)(hy:0<=y/\y<n):∀{fr tt:D3} {s:MS},c6 n fr->c6 n tt->MW n s->0<=gi s.1 y->gi s.1 x=v->Cl F T E s->(bV A x v y fr tt s).1=true ->
  Cl F T E (bV A x v y fr tt s).2/\TT (At (bV A x v y fr tt s).2.1 x y) fr tt/\TT (At (bV A x v y fr tt s).2.1 y x) fr tt
 | [],_,s,_,_,_,_,_,h,_=>by unfold bV TT;exact⟨h,trivial,trivial⟩
 |_::_,[],s,_,_,_,_,_,h,_=>by unfold bV TT;exact⟨h,trivial,trivial⟩
 |t::fr,u::tt,s,hf,ht,w,hg,hxv,h,hr=>by
  have hgn:=w.rg y hy.1 hy.2
  have t1:=hf t AX
  have u1:=ht u AX
  have a0:=(t1.2 x y hx.1 hx.2).2 hy.1 hy.2
  have b0:=(u1.2 v _ hv.1 hv.2).2 hg hgn
  have m1:=hA (g2 t x y) (g2 u v (gi s.1 y)) s a0.1 a0.2 b0.1 b0.2 w
  cases hq:(A (g2 t x y) (g2 u v (gi s.1 y)) s).1 with
  |false=>rw[Ni hq,hq]at hr;cases hr
  |true =>
   obtain⟨c1,c2⟩:=hS E (g2 t x y) (g2 u v (gi s.1 y)) s a0.1 a0.2 b0.1 b0.2 w h hq;have hg1:0<=gi (A (g2 t x y) (g2 u v (gi s.1 y)) s).2.1 y:=by rw[m1.keep y hy.1 hy.2 hg];exact hg
   have hgn1:=m1.wf.rg y hy.1 hy.2
   have a2:=(t1.2 y x hy.1 hy.2).2 hx.1 hx.2
   have b2:=(u1.2 _ v hg1 hgn1).2 hv.1 hv.2
   have m2:=hA (g2 t y x) (g2 u (gi (A (g2 t x y) (g2 u v (gi s.1 y)) s).2.1 y) v) _ a2.1 a2.2 b2.1 b2.2 m1.wf
   cases hq2:(A (g2 t y x) (g2 u (gi (A (g2 t x y) (g2 u v (gi s.1 y)) s).2.1 y) v) (A (g2 t x y) (g2 u v (gi s.1 y)) s).2).1 with
   |false=>rw[Nj hq hq2,hq2]at hr;cases hr
   |true =>
    obtain⟨c3,c4⟩:=hS E _ _ _ a2.1 a2.2 b2.1 b2.2 m1.wf c1 hq2;rw[EY hq hq2]at hr⊢;have m12:=m1.trans m2
    have hg2:0<=gi (A (g2 t y x) (g2 u (gi (A (g2 t x y) (g2 u v (gi s.1 y)) s).2.1 y) v) (A (g2 t x y) (g2 u v (gi s.1 y)) s).2).2.1 y:=by rw[m12.keep y hy.1 hy.2 hg];exact hg
    have hf':c6 n fr:=fun t2 h2=>hf t2 (AO _ h2)
    have ht':c6 n tt:=fun t2 h2=>ht t2 (AO _ h2)
    have hx0:0<=gi s.1 x:=by rw[hxv];exact hv.1
    have hxv2:gi (A (g2 t y x) (g2 u (gi (A (g2 t x y) (g2 u v (gi s.1 y)) s).2.1 y) v) (A (g2 t x y) (g2 u v (gi s.1 y)) s).2).2.1 x=v:=by rw[m12.keep x hx.1 hx.2 hx0];exact hxv
    have m3:=pW (A:=A) hA hx hv hy hf' ht' m12.wf hg2
    obtain⟨d1,d2,d3⟩:=Nv hA hS hx hv hy hf' ht' m12.wf hg2 hxv2 c3 hr;have m:=m12.trans m3
    refine⟨d1,⟨?_,d2⟩,⟨?_,d3⟩⟩
    ·show gi _ (g2 t x y)=g2 u (gi _ x) (gi _ y)
     rw[m.keep x hx.1 hx.2 hx0,m.keep y hy.1 hy.2 hg,(m2.trans m3).keep _ a0.1 a0.2 (by rw[c2];exact b0.1),c2,hxv]
    ·show gi _ (g2 t y x)=g2 u (gi _ y) (gi _ x)
     rw[m.keep x hx.1 hx.2 hx0,m.keep y hy.1 hy.2 hg,m3.keep _ a2.1 a2.2 (by rw[c4];exact b2.1),c4,hxv,m1.keep y hy.1 hy.2 hg]
theorem V7{A:Int->Int->MS->Bool×MS}(hA:mE n A)(hS:E6 n F T A){E:D1}{x v:Int}(hx:0<=x/\x<n)(hv:0<=v/\v<n)(hf:c6 n F)(ht:c6 n T):∀(e i:Nat) (s:MS),e+i=n+1->MW n s->gi s.1 x=v->Cl F T (x::E) s->(∀j,j<i->j<s.2.2.length->TT (At s.1 x (s.2.2.getD j 0)) F T/\TT (At s.1 (s.2.2.getD j 0) x) F T)->(dQ A F T x v e i s).1=true ->
  Cl F T E (dQ A F T x v e i s).2/\gi (dQ A F T x v e i s).2.1 x=v:=by
 have fin:∀(i:Nat) (s:MS),s.2.2.length<=i->Cl F T (x::E) s->(∀j,j<i->j<s.2.2.length->TT (At s.1 x (s.2.2.getD j 0)) F T/\TT (At s.1 (s.2.2.getD j 0) x) F T)->Cl F T E s:=fun i s hi h hj a ha b hb hae hbe=>by
  have get:∀c∈s.2.2,TT (At s.1 x c) F T/\TT (At s.1 c x) F T:=fun c hc=>by
   obtain⟨k,hk,e⟩:=BV.1 hc;have:=hj k (by omega) hk
   rw[List.getD,AF hk,B4,e]at this;exact this
  by_cases e1:a=x
  ·rw[e1];exact(get b hb).1
  ·by_cases e2:b=x
   ·rw[e2];exact(get a ha).2
   ·exact h a ha b hb (by simp[e1,hae]) (by simp[e2,hbe])
 intro e
 induction e with
 |zero =>
  intro i s he w hxv h hj _
  have:=w.cnt
  exact⟨fin i s (by omega) h hj,hxv⟩
 |succ e ih =>
  intro i s he w hxv h hj hr
  by_cases hi:i<s.2.2.length
  ·have hm:s.2.2.getD i 0∈s.2.2:=by rw[List.getD,AF hi];exact A7 hi
   obtain⟨q1,q2,q3⟩:=w.st _ hm;cases hq:(bV A x v (s.2.2.getD i 0) F T s).1 with
   |false=>rw[Nk hi hq,hq]at hr;cases hr
   |true =>
    rw[EZ hi hq]at hr⊢;have m1:=pW hA hx hv ⟨q1,q2⟩ hf ht w q3
    obtain⟨c1,c2,c3⟩:=Nv hA hS hx hv ⟨q1,q2⟩ hf ht w q3 hxv h hq;have hx0:0<=gi s.1 x:=by rw[hxv];exact hv.1
    obtain⟨l,hl⟩:=m1.pre;refine ih (i+1) _ (by omega) m1.wf (by rw[m1.keep x hx.1 hx.2 hx0];exact hxv) c1 (fun j hj1 hj2=>?_) hr
    have hjl:j<s.2.2.length:=by omega
    have e2:(bV A x v (s.2.2.getD i 0) F T s).2.2.2.getD j 0=s.2.2.getD j 0:=by rw[hl];simp[List.getD,Au hjl]
    rw[e2];by_cases e3:j=i
    ·rw[e3];exact⟨c2,c3⟩
    ·have hmj:s.2.2.getD j 0∈s.2.2:=by rw[List.getD,AF hjl];exact A7 hjl
     obtain⟨z1,z2⟩:=hj j (by omega) hjl
     exact⟨E5 w m1 hf ht ⟨hx.1,hx.2,hx0⟩ (w.st _ hmj) z1,E5 w m1 hf ht (w.st _ hmj) ⟨hx.1,hx.2,hx0⟩ z2⟩
  ·unfold dQ
   rw[AB hi];exact⟨fin i s (by omega) h hj,hxv⟩
theorem Nx(hf:c6 n F)(ht:c6 n T):∀d,E6 n F T (aH F T d)
 |0=>fun E x v s _ _ _ _ _ _ h=>by cases h
 |d+1=>fun E x v s hx hxn hv hvn w h hr=>by
  unfold aH at hr⊢;by_cases h0:0<=gi s.1 x
  ·rw[AA h0]at hr⊢
   exact⟨h,by simpa using hr⟩
  ·rw[AB h0]at hr⊢
   by_cases hu:s.2.1.getD v.toNat false=true
   ·rw[AA hu]at hr;cases hr
   ·rw[AB hu]at hr⊢
    have m1:=w.put hx hxn hv hvn (by omega) (by simpa using hu)
    have e1:s.1.length=n:=w.im
    refine V7 (mF hf ht d) (Nx hf ht d) ⟨hx,hxn⟩ ⟨hv,hvn⟩ hf ht _ _ _ (by rw[e1]) m1.wf ?_ (fun a ha b hb hae hbe=>?_) (fun j hj=>by omega) hr
    ·show gi (s.1.set x.toNat v) x=v
     rw[pV hx (by rw[e1];exact hxn) hx,AA rfl]
    ·simp only[AI,As,AG,not_or]at ha hb hae hbe
     have ha:=ha.resolve_right (by simp[hae.1])
     have hb:=hb.resolve_right (by simp[hbe.1])
     exact E5 w m1 hf ht (w.st a ha) (w.st b hb) (h a ha b hb hae.2 hbe.2)
end
end Go.Sx
end
