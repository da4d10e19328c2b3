/- MpgP MpgQ MpgL -/
import Derived.Test.YtkmldclpaniclaaGreatGrp
import Derived.Test.YtkmldclpaniclaaGreatMapA
set_option linter.unusedSimpArgs false
set_option linter.unusedVariables false
section
open Go Go.Proofs
namespace Go.Sx
abbrev MS:=V7×List Bool×V7
def gi(l:V7)(x:Int):Int:=l.getD x.toNat 0
def g2(t:V8)(x y:Int):Int:=(t.getD x.toNat []).getD y.toNat 0
def bO(A:Int->Int->MS->Bool×MS)(x v y:Int):V9->V9->MS->Bool×MS
 |t::fr,u::tt,s=>match A (g2 t x y) (g2 u v (gi s.1 y)) s with
  |(false,s1)=>(false,s1)
  |(true,s1)=>match A (g2 t y x) (g2 u (gi s1.1 y) v) s1 with
   |(false,s2)=>(false,s2)
   |(true,s2)=>bO A x v y fr tt s2
 |_,_,s=>(true,s)
def dC(A:Int->Int->MS->Bool×MS)(fr tt:V9)(x v:Int):Nat->Nat->MS->Bool×MS
 |0,_,s=>(true,s)
 |e+1,i,s=>if i<s.2.2.length then
   match bO A x v (s.2.2.getD i 0) fr tt s with
   |(false,s1)=>(false,s1)
   |(true,s1)=>dC A fr tt x v e (i+1) s1
  else(true,s)
def aK(fr tt:V9):Nat->Int->Int->MS->Bool×MS
 |0,_,_,s=>(false,s)
 |d+1,x,v,s=>if 0<=gi s.1 x then(decide (gi s.1 x=v),s)
  else if s.2.1.getD v.toNat false=true then(false,s)
  else dC (aK fr tt d) fr tt x v (s.1.length+1) 0 (s.1.set x.toNat v,s.2.1.set v.toNat true,s.2.2++[x])
def cP(n:Nat)(fr:V9):Prop:=∀t∈fr,t.length=n/\∀x y:Int,0<=x->x<n->(t.getD x.toNat []).length=n/\(0<=y->y<n->0<=g2 t x y/\g2 t x y<n)
def b8(l:V7):Nat:=l.countP fun z=>decide (z<0)
structure MW (n:Nat) (s:MS):Prop where
 im:s.1.length=n
 us:s.2.1.length=n
 st:∀x∈s.2.2,0<=x/\x<(n:Int)/\0<=gi s.1 x
 rg:∀z:Int,0<=z->z<n->gi s.1 z<(n:Int)
 cnt:s.2.2.length+b8 s.1=n
structure MI (n:Nat) (s:MS):Prop where
 nd:s.2.2.Nodup
 mem:∀x:Int,0<=x->x<n->(x∈s.2.2↔0<=gi s.1 x)
 neg:∀x:Int,0<=x->x<n->¬ 0<=gi s.1 x->gi s.1 x=-1
 inj:∀x y:Int,0<=x->x<n->0<=y->y<n->0<=gi s.1 x->gi s.1 x=gi s.1 y->x=y
 us:∀v:Int,0<=v->v<n->(s.2.1.getD v.toNat false=true↔∃x:Int,0<=x/\x<n/\gi s.1 x=v)
structure MX (n:Nat) (s s':MS):Prop where
 hon:MI n s->MI n s'
 wf:MW n s'
 fre:b8 s'.1<=b8 s.1
 pre:∃l,s'.2.2=s.2.2++l
 keep:∀z:Int,0<=z->z<n->0<=gi s.1 z->gi s'.1 z=gi s.1 z
theorem MX.refl{n:Nat}{s:MS}(h:MW n s):MX n s s:=⟨fun q=>q,h,Nat.le_refl _,⟨[],by simp⟩,fun _ _ _ _=>rfl⟩
theorem MX.trans{n:Nat}{a b c:MS}(h:MX n a b)(k:MX n b c):MX n a c:=by
 obtain⟨l,hl⟩:=h.pre;obtain⟨m,hm⟩:=k.pre;refine⟨fun q=>k.hon (h.hon q),k.wf,Nat.le_trans k.fre h.fre,⟨l++m,by rw[hm,hl,List.append_assoc]⟩,fun z h0 h1 h2=>?_⟩
 have e:=h.keep z h0 h1 h2
 rw[k.keep z h0 h1 (by rw[e];exact h2),e]
theorem sP{l:V7}{i:Nat}{v:Int}(hi:i<l.length)(hl:l.getD i 0<0)(hv:0<=v):b8 (l.set i v)+1=b8 l:=by
 induction l generalizing i with
 |nil=>simp at hi
 |cons a l ih =>
  cases i with
  |zero =>
   simp only[List.getD_cons_zero]at hl;simp only[List.set_cons_zero,b8,List.countP_cons];have h1:decide (v<0)=false:=decide_eq_false (by omega)
   have h2:decide (a<0)=true:=decide_eq_true hl
   rw[h1,h2];simp
  |succ i =>
   simp only[List.getD_cons_succ]at hl;have:=ih (by simpa using hi) hl
   simp only[List.set_cons_succ,b8,List.countP_cons]at this⊢;omega
theorem oS{l:V7}{x z v:Int}(hx:0<=x)(hxl:x<l.length)(hz:0<=z):gi (l.set x.toNat v) z=if z=x then v else gi l z:=by
 unfold gi;by_cases h:z=x
 ·subst h
  rw[if_pos rfl];have:z.toNat<l.length:=by omega
  simp[List.getD,this]
 ·rw[if_neg h]
  have:x.toNat≠z.toNat:=by omega
  simp[List.getD,List.getElem?_set_ne this]
theorem Ia{l:List Bool}{i j:Nat}{b:Bool}(hi:i<l.length):(l.set i b).getD j false=if j=i then b else l.getD j false:=by
 by_cases h:j=i
 ·subst h;rw[if_pos rfl];simp[List.getD,hi]
 ·rw[if_neg h];simp[List.getD,List.getElem?_set_ne (Ne.symm h)]
theorem MI.put{n:Nat}{s:MS}(h:MW n s){x v:Int}(hx:0<=x)(hxn:x<n)(hv:0<=v)(hvn:v<n)(hf:gi s.1 x<0)(hu:s.2.1.getD v.toNat false=false)(q:MI n s):MI n (s.1.set x.toNat v,s.2.1.set v.toNat true,s.2.2++[x]):=by
 have hxl:x<(s.1.length:Int):=by rw[h.im];exact hxn
 have hg:=fun z hz=>oS (l:=s.1) (x:=x) (z:=z) (v:=v) hx hxl hz
 have hxm:¬ x∈s.2.2:=fun e=>by have:=(q.mem x hx hxn).1 e;omega
 have hno:∀y:Int,0<=y->y<n->gi s.1 y≠v:=fun y h0 h1 e=>by
  have:=(q.us v hv hvn).2 ⟨y,h0,h1,e⟩
  rw[hu]at this;cases this
 refine⟨?_,fun z h0 h1=>?_,fun z h0 h1=>?_,fun y z y0 y1 z0 z1=>?_,fun w w0 eo=>?_⟩
 ·simp only
  rw[List.nodup_append];refine⟨q.nd,by simp,fun a ha b hb e=>?_⟩
  simp only[List.mem_singleton]at hb;subst hb;subst e;exact hxm ha
 ·simp only[List.mem_append,List.mem_singleton]
  rw[hg z h0];by_cases e:z=x
  ·rw[if_pos e];exact⟨fun _=>hv,fun _=>.inr e⟩
  ·rw[if_neg e,<-q.mem z h0 h1];exact⟨fun h=>h.resolve_right e,.inl⟩
 ·simp only
  rw[hg z h0];split
  ·intro hh;omega
  ·exact q.neg z h0 h1
 ·simp only
  rw[hg y y0,hg z z0];split
  ·split
   ·intros;omega
   ·intro _ e;exact absurd e.symm (hno z z0 z1)
  ·split
   ·intro _ e;exact absurd e (hno y y0 y1)
   ·exact q.inj y z y0 y1 z0 z1
 ·simp only
  rw[Ia (by rw[h.us];omega)]
  by_cases e:w=v
  ·rw[if_pos (by rw[e])]
   exact⟨fun _=>⟨x,hx,hxn,by rw[hg x hx,if_pos rfl,e]⟩,fun _=>rfl⟩
  ·rw[if_neg (by omega),q.us w w0 eo]
   constructor
   ·rintro⟨y,y0,y1,rfl⟩
    refine⟨y,y0,y1,?_⟩
    rw[hg y y0,if_neg (fun e2=>by subst e2;omega)]
   ·rintro⟨y,y0,y1,hy⟩
    rw[hg y y0]at hy;split at hy
    ·exact absurd hy.symm e
    ·exact⟨y,y0,y1,hy⟩
theorem MW.put{n:Nat}{s:MS}(h:MW n s){x v:Int}(hx:0<=x)(hxn:x<n)(hv:0<=v)(hvn:v<n)(hf:gi s.1 x<0)(hu:s.2.1.getD v.toNat false=false):MX n s (s.1.set x.toNat v,s.2.1.set v.toNat true,s.2.2++[x]):=by
 have hxl:x<(s.1.length:Int):=by rw[h.im];exact hxn
 have hg:=fun z hz=>oS (l:=s.1) (x:=x) (z:=z) (v:=v) hx hxl hz
 have hfr:=sP (l:=s.1) (i:=x.toNat) (v:=v) (by omega) hf hv
 refine⟨.put h hx hxn hv hvn hf hu,⟨by simp[h.im],by simp[h.us],fun z hz=>?_,fun z h0 h1=>?_,?_⟩,?_,⟨[x],rfl⟩,fun z h0 h1 h2=>?_⟩
 ·rcases List.mem_append.1 hz with hz|hz
  ·obtain⟨q1,q2,q3⟩:=h.st z hz
   refine⟨q1,q2,?_⟩
   show 0<=gi (s.1.set x.toNat v) z
   rw[hg z q1];split
   ·exact hv
   ·exact q3
  ·simp only[List.mem_singleton]at hz
   subst hz;refine⟨hx,hxn,?_⟩
   show 0<=gi (s.1.set z.toNat v) z
   rw[hg z hx,if_pos rfl];exact hv
 ·show gi (s.1.set x.toNat v) z<n
  rw[hg z h0];split
  ·exact hvn
  ·exact h.rg z h0 h1
 ·have:=h.cnt
  show(s.2.2++[x]).length+b8 (s.1.set x.toNat v)=n
  simp only[List.length_append,List.length_singleton];omega
 ·show b8 (s.1.set x.toNat v)<=b8 s.1
  omega
 ·show gi (s.1.set x.toNat v) z=gi s.1 z
  rw[hg z h0,if_neg (fun e=>by subst e;omega)]
def lG(n:Nat)(A:Int->Int->MS->Bool×MS):Prop:=∀(x v:Int) (s:MS),0<=x->x<n->0<=v->v<n->MW n s->MX n s (A x v s).2
theorem oT{n:Nat}{A:Int->Int->MS->Bool×MS}(hA:lG n A){x v y:Int}(hx:0<=x/\x<n)(hv:0<=v/\v<n)(hy:0<=y/\y<n):∀{fr tt:V9} {s:MS},cP n fr->cP n tt->MW n s->0<=gi s.1 y->MX n s (bO A x v y fr tt s).2
 | [],_,s,_,_,h,_=>by unfold bO;exact .refl h
 |_::_,[],s,_,_,h,_=>by unfold bO;exact .refl h
 |t::fr,u::tt,s,hf,ht,h,hg=>by
  unfold bO;have hgn:=h.rg y hy.1 hy.2
  have t1:=hf t List.mem_cons_self
  have u1:=ht u List.mem_cons_self
  have a1:=hA (g2 t x y) (g2 u v (gi s.1 y)) s ((t1.2 x y hx.1 hx.2).2 hy.1 hy.2).1 ((t1.2 x y hx.1 hx.2).2 hy.1 hy.2).2 ((u1.2 v _ hv.1 hv.2).2 hg hgn).1 ((u1.2 v _ hv.1 hv.2).2 hg hgn).2 h
  cases hq:A (g2 t x y) (g2 u v (gi s.1 y)) s with
  |mk b s1 =>
   rw[hq]at a1;cases b with
   |false=>exact a1
   |true =>
    have hg1:0<=gi s1.1 y:=by rw[a1.keep y hy.1 hy.2 hg];exact hg
    have hgn1:=a1.wf.rg y hy.1 hy.2
    have a2:=hA (g2 t y x) (g2 u (gi s1.1 y) v) s1 ((t1.2 y x hy.1 hy.2).2 hx.1 hx.2).1 ((t1.2 y x hy.1 hy.2).2 hx.1 hx.2).2 ((u1.2 _ v hg1 hgn1).2 hv.1 hv.2).1 ((u1.2 _ v hg1 hgn1).2 hv.1 hv.2).2 a1.wf
    simp only;cases hq2:A (g2 t y x) (g2 u (gi s1.1 y) v) s1 with
    |mk b2 s2 =>
     rw[hq2]at a2;cases b2 with
     |false=>exact a1.trans a2
     |true =>
      have a12:=a1.trans a2
      exact a12.trans (oT hA hx hv hy (fun t2 h2=>hf t2 (List.mem_cons_of_mem _ h2)) (fun t2 h2=>ht t2 (List.mem_cons_of_mem _ h2)) a12.wf (by rw[a12.keep y hy.1 hy.2 hg];exact hg))
theorem zs{n:Nat}{A:Int->Int->MS->Bool×MS}(hA:lG n A){x v:Int}(hx:0<=x/\x<n)(hv:0<=v/\v<n){fr tt:V9}(hf:cP n fr)(ht:cP n tt):∀(e i:Nat) (s:MS),MW n s->MX n s (dC A fr tt x v e i s).2
 |0,i,s,h=>.refl h
 |e+1,i,s,h=>by
  unfold dC;split
  ·rename_i hi
   have hm:s.2.2.getD i 0∈s.2.2:=by
    rw[List.getD,List.getElem?_eq_getElem hi];exact List.getElem_mem hi
   obtain⟨q1,q2,q3⟩:=h.st _ hm;have a1:=oT hA hx hv ⟨q1,q2⟩ hf ht h q3
   cases hq:bO A x v (s.2.2.getD i 0) fr tt s with
   |mk b s1 =>
    rw[hq]at a1;cases b with
    |false=>exact a1
    |true=>exact a1.trans (zs hA hx hv hf ht e (i+1) s1 a1.wf)
  ·exact .refl h
theorem lH{n:Nat}{fr tt:V9}(hf:cP n fr)(ht:cP n tt):∀d,lG n (aK fr tt d)
 |0=>fun x v s _ _ _ _ h=>.refl h
 |d+1=>fun x v s hx hxn hv hvn h=>by
  unfold aK;split
  ·exact .refl h
  ·rename_i hg
   split
   ·exact .refl h
   ·rename_i hu
    have a1:=h.put hx hxn hv hvn (by omega) (by simpa using hu)
    exact a1.trans (zs (lH hf ht d) ⟨hx,hxn⟩ ⟨hv,hvn⟩ hf ht _ _ _ a1.wf)
theorem Ib{A:Int->Int->MS->Bool×MS}{x v y:Int}{t u:V8}{fr tt:V9}{s:MS}(h:(A (g2 t x y) (g2 u v (gi s.1 y)) s).1=false):bO A x v y (t::fr) (u::tt) s=A (g2 t x y) (g2 u v (gi s.1 y)) s:=by
 rw[bO];cases hq:A (g2 t x y) (g2 u v (gi s.1 y)) s with
 |mk b s1=>rw[hq]at h;cases h;rfl
theorem Ic{A:Int->Int->MS->Bool×MS}{x v y:Int}{t u:V8}{fr tt:V9}{s:MS}(h:(A (g2 t x y) (g2 u v (gi s.1 y)) s).1=true)(k:(A (g2 t y x) (g2 u (gi (A (g2 t x y) (g2 u v (gi s.1 y)) s).2.1 y) v) (A (g2 t x y) (g2 u v (gi s.1 y)) s).2).1=false):bO A x v y (t::fr) (u::tt) s=A (g2 t y x) (g2 u (gi (A (g2 t x y) (g2 u v (gi s.1 y)) s).2.1 y) v) (A (g2 t x y) (g2 u v (gi s.1 y)) s).2:=by
 rw[bO];cases hq:A (g2 t x y) (g2 u v (gi s.1 y)) s with
 |mk b s1 =>
  rw[hq]at h k;cases h;simp only at k⊢;cases hq2:A (g2 t y x) (g2 u (gi s1.1 y) v) s1 with
  |mk b2 s2=>rw[hq2]at k;cases k;rfl
theorem zt{A:Int->Int->MS->Bool×MS}{x v y:Int}{t u:V8}{fr tt:V9}{s:MS}(h:(A (g2 t x y) (g2 u v (gi s.1 y)) s).1=true)(k:(A (g2 t y x) (g2 u (gi (A (g2 t x y) (g2 u v (gi s.1 y)) s).2.1 y) v) (A (g2 t x y) (g2 u v (gi s.1 y)) s).2).1=true):bO A x v y (t::fr) (u::tt) s=bO A x v y fr tt (A (g2 t y x) (g2 u (gi (A (g2 t x y) (g2 u v (gi s.1 y)) s).2.1 y) v) (A (g2 t x y) (g2 u v (gi s.1 y)) s).2).2:=by
 rw[bO];cases hq:A (g2 t x y) (g2 u v (gi s.1 y)) s with
 |mk b s1 =>
  rw[hq]at h k;cases h;simp only at k⊢;cases hq2:A (g2 t y x) (g2 u (gi s1.1 y) v) s1 with
  |mk b2 s2=>rw[hq2]at k;cases k;rfl
theorem Id{A:Int->Int->MS->Bool×MS}{fr tt:V9}{x v:Int}{e i:Nat}{s:MS}(hi:i<s.2.2.length)(h:(bO A x v (s.2.2.getD i 0) fr tt s).1=false):dC A fr tt x v (e+1) i s=bO A x v (s.2.2.getD i 0) fr tt s:=by
 rw[dC,if_pos hi];cases hq:bO A x v (s.2.2.getD i 0) fr tt s with
 |mk b s1=>rw[hq]at h;cases h;rfl
theorem zu{A:Int->Int->MS->Bool×MS}{fr tt:V9}{x v:Int}{e i:Nat}{s:MS}(hi:i<s.2.2.length)(h:(bO A x v (s.2.2.getD i 0) fr tt s).1=true):dC A fr tt x v (e+1) i s=dC A fr tt x v e (i+1) (bO A x v (s.2.2.getD i 0) fr tt s).2:=by
 rw[dC,if_pos hi];cases hq:bO A x v (s.2.2.getD i 0) fr tt s with
 |mk b s1=>rw[hq]at h;cases h;rfl
end Go.Sx
end
section
open Go Go.Proofs
namespace Go.Sx
theorem Ie{n:Nat}:∀(l:V7) (im:V7) (us:List Bool),im.length=n->us.length=n->l.Nodup->(∀x∈l,0<=x/\x<n/\0<=gi im x/\gi im x<n) ->
  iV l im us/\(dl l im us).1.length=n/\(dl l im us).2.length=n/\(∀z:Int,0<=z->z<n->gi (dl l im us).1 z=if z∈l then -1 else gi im z) /\
  ∀v:Int,0<=v->v<n->((dl l im us).2.getD v.toNat false=true↔us.getD v.toNat false=true/\∀x∈l,gi im x≠v)
 | [],im,us,hi,hu,_,_=>⟨trivial,hi,hu,fun z _ _=>by simp[dl],fun v _ _=>by simp[dl]⟩
 |x::l,im,us,hi,hu,hnd,hm=>by
  obtain⟨hx0,hxn,hg0,hgn⟩:=hm x List.mem_cons_self;have hgs:=fun z hz=>oS (l:=im) (x:=x) (z:=z) (v:=-1) hx0 (by omega) hz
  have hxl:¬ x∈l:=(List.nodup_cons.1 hnd).1
  have hsame:∀y∈l,gi (im.set x.toNat (-1)) y=gi im y:=fun y hy=>by
   rw[hgs y (hm y (List.mem_cons_of_mem _ hy)).1,if_neg (fun e:y=x=>hxl (e ▸ hy))]
  obtain⟨q1,q2,q3,q4,q5⟩:=Ie (n:=n) l (im.set x.toNat (-1)) (us.set (gi im x).toNat false) (by simp[hi]) (by simp[hu]) (List.nodup_cons.1 hnd).2 (fun y hy=>by
   rw[hsame y hy];exact hm y (List.mem_cons_of_mem _ hy))
  refine⟨⟨⟨hx0,by omega⟩,⟨hg0,by rw[hu];exact hgn⟩,q1⟩,q2,q3,fun z z0 z1=>?_,fun v v0 v1=>?_⟩
  ·show gi (dl l (im.set x.toNat (-1)) (us.set (gi im x).toNat false)).1 z=_
   rw[q4 z z0 z1,hgs z z0];by_cases e:z=x
   ·subst e;simp
   ·simp[e]
  ·show(dl l (im.set x.toNat (-1)) (us.set (gi im x).toNat false)).2.getD v.toNat false=true↔_
   rw[q5 v v0 v1,Ia (by omega)]
   have hal:(∀y∈l,gi (im.set x.toNat (-1)) y≠v)↔∀y∈l,gi im y≠v:=⟨fun h y hy=>by rw[<-hsame y hy];exact h y hy,fun h y hy=>by rw[hsame y hy];exact h y hy⟩
   rw[hal,List.forall_mem_cons];by_cases e:gi im x=v
   ·rw[if_pos (by rw[e])];simp[e]
   ·rw[if_neg (by omega)]
    constructor
    ·rintro⟨h1,h2⟩;exact⟨h1,e,h2⟩
    ·rintro⟨h1,_,h2⟩;exact⟨h1,h2⟩
theorem If{n:Nat}{a b:V7}(ha:a.length=n)(hb:b.length=n)(h:∀z:Int,0<=z->z<n->gi a z=gi b z):a=b:=by
 apply List.ext_getElem (by omega)
 intro i h1 h2
 have:=h (i:Int) (by omega) (by omega)
 simpa[gi,List.getD,h1,h2]using this
theorem Rk{n:Nat}{a b:List Bool}(ha:a.length=n)(hb:b.length=n)(h:∀z:Int,0<=z->z<n->(a.getD z.toNat false=true↔b.getD z.toNat false=true)):a=b:=by
 apply List.ext_getElem (by omega)
 intro i h1 h2
 have:=h (i:Int) (by omega) (by omega)
 simp[List.getD,h1,h2]at this
 exact this
theorem Rl{n:Nat}{s s':MS}(w:MW n s)(q:MI n s)(h:MX n s s'):iV (s'.2.2.drop s.2.2.length) s'.1 s'.2.1/\dl (s'.2.2.drop s.2.2.length) s'.1 s'.2.1=(s.1,s.2.1)/\s'.2.2.take s.2.2.length=s.2.2/\s.2.2.length<=s'.2.2.length:=by
 obtain⟨l,hl⟩:=h.pre;have q':=h.hon q
 have hd:s'.2.2.drop s.2.2.length=l:=by rw[hl];simp
 have hnd:=q'.nd
 rw[hl,List.nodup_append]at hnd;obtain⟨_,hnl,hdis⟩:=hnd;have hml:∀x∈l,x∈s'.2.2:=fun x hx=>by rw[hl];exact List.mem_append_right _ hx
 obtain⟨q1,q2,q3,q4,q5⟩:=Ie l s'.1 s'.2.1 h.wf.im h.wf.us hnl (fun x hx=>by
  obtain⟨z1,z2,z3⟩:=h.wf.st x (hml x hx);exact⟨z1,z2,z3,h.wf.rg x z1 z2⟩)
 rw[hd];have e1:(dl l s'.1 s'.2.1).1=s.1:=If q2 w.im fun z z0 z1=>by
  rw[q4 z z0 z1];by_cases e:z∈l
  ·rw[if_pos e]
   by_cases f:0<=gi s.1 z
   ·exact absurd rfl (hdis z ((q.mem z z0 z1).2 f) z e)
   ·exact(q.neg z z0 z1 f).symm
  ·rw[if_neg e]
   by_cases f:0<=gi s.1 z
   ·exact h.keep z z0 z1 f
   ·rw[q.neg z z0 z1 f]
    apply q'.neg z z0 z1
    intro f2
    have:=(q'.mem z z0 z1).2 f2
    rw[hl,List.mem_append]at this;exact this.elim (fun m=>f ((q.mem z z0 z1).1 m)) e
 have e2:(dl l s'.1 s'.2.1).2=s.2.1:=Rk q3 w.us fun v v0 v1=>by
  rw[q5 v v0 v1,q.us v v0 v1,q'.us v v0 v1]
  constructor
  ·rintro⟨⟨x,x0,x1,hx⟩,hno⟩
   have hxm:=(q'.mem x x0 x1).2 (by omega)
   rw[hl,List.mem_append]at hxm;rcases hxm with hxm|hxm
   ·exact⟨x,x0,x1,by rw[<-h.keep x x0 x1 ((q.mem x x0 x1).1 hxm)];exact hx⟩
   ·exact absurd hx (hno x hxm)
  ·rintro⟨x,x0,x1,hx⟩
   have hk:=h.keep x x0 x1 (by omega)
   refine⟨⟨x,x0,x1,by rw[hk];exact hx⟩,fun y hy e=>?_⟩
   obtain⟨y0,y1,y2⟩:=h.wf.st y (hml y hy);have:=q'.inj y x y0 y1 x0 x1 y2 (by rw[e,hk,hx])
   subst this;exact hdis y ((q.mem y y0 y1).2 (by omega)) y hy rfl
 refine⟨q1,?_,by rw[hl];simp,by rw[hl];simp⟩
 exact Prod.ext e1 e2
def bd(go:V8->V7->Bool):V8->V8->V8×Bool
 |pre,[]=>(pre,true)
 |pre,x::l=>if go pre x=true then bd go (pre++[x]) l else(pre++[x],false)
def d5(ok:V8->V7->Prop)(go:V8->V7->Bool):V8->V8->Prop
 |_,[]=>True
 |pre,x::l=>ok pre x/\(go pre x=true->d5 ok go (pre++[x]) l)
theorem Ig{go:V8->V7->Bool}:∀(a b pre:V8),bd go pre (a++b)=if(bd go pre a).2=true then bd go (bd go pre a).1 b else bd go pre a
 | [],b,pre=>rfl
 |x::a,b,pre=>by
  rw[List.cons_append,bd,bd];by_cases h:go pre x=true
  ·rw[if_pos h,if_pos h];exact Ig a b _
  ·rw[if_neg h,if_neg h];rfl
theorem Ih{ok:V8->V7->Prop}{go:V8->V7->Bool}:∀(a b pre:V8),d5 ok go pre (a++b)↔d5 ok go pre a/\((bd go pre a).2=true->d5 ok go (bd go pre a).1 b)
 | [],b,pre=>by simp[d5,bd]
 |x::a,b,pre=>by
  rw[List.cons_append,d5,d5,bd];by_cases h:go pre x=true
  ·rw[if_pos h,Ih a b];simp[h,and_assoc]
  ·rw[if_neg h];simp[h]
theorem Ii{go:V8->V7->Bool}:∀(a pre:V8),pre.length<=(bd go pre a).1.length
 | [],pre=>Nat.le_refl _
 |x::a,pre=>by
  rw[bd];by_cases h:go pre x=true
  ·rw[if_pos h];have:=Ii (go:=go) a (pre++[x]);simp at this;omega
  ·rw[if_neg h];simp
def fJ(fr tt:V9)(E:MS->V8)(s:MS)(x:Int):Nat->Nat->V8
 |0,_=>[]
 |e+1,v=>(if s.2.1.getD v false=true then []else if(aK fr tt 101 x v s).1=true then E (aK fr tt 101 x v s).2 else [])++fJ fr tt E s x e (v+1)
def bA(fr tt:V9):Nat->MS->V8
 |0,_=>[]
 |d+1,s=>if aZ (-1) s.1 0<0 then [s.1]else fJ fr tt (bA fr tt d) s (aZ (-1) s.1 0) s.1.length 0
theorem zv(x:Int):∀(l:V7) (k:Int),0<=k->aZ x l k<0/\¬ x∈l\/k<=aZ x l k/\aZ x l k<k+(l.length:Int)/\l.getD (aZ x l k-k).toNat 0=x
 | [],k,hk=>.inl ⟨by simp[aZ],by simp⟩
 |y::l,k,hk=>by
  rw[aZ];by_cases h:y=x
  ·rw[if_pos h];exact .inr ⟨Int.le_refl _,by simp;omega,by simp[h]⟩
  ·rw[if_neg h]
   rcases zv x l (k+1) (by omega)with h1|⟨h1,h2,h3⟩
   ·exact .inl ⟨h1.1,by simp[h1.2,Ne.symm h]⟩
   ·refine .inr ⟨by omega,by simp only[List.length_cons];omega,?_⟩
    have:(aZ x l (k+1)-k).toNat=(aZ x l (k+1)-(k+1)).toNat+1:=by omega
    rw[this,List.getD_cons_succ];exact h3
theorem Ij{n:Nat}{fr tt:V9}(hf:cP n fr)(ht:cP n tt){d:Nat}{x v:Int}{s:MS}(hx:0<=x)(hxn:x<n)(hv:0<=v)(hvn:v<n)(w:MW n s)(hg:gi s.1 x<0)(hu:s.2.1.getD v.toNat false=false):b8 (aK fr tt (d+1) x v s).2.1+1<=b8 s.1:=by
 have e:aK fr tt (d+1) x v s=dC (aK fr tt d) fr tt x v (s.1.length+1) 0 (s.1.set x.toNat v,s.2.1.set v.toNat true,s.2.2++[x]):=by
  rw[aK];exact(if_neg (by omega)).trans (if_neg (by rw[hu];simp))
 rw[e];have hput:=w.put hx hxn hv hvn hg hu
 have hfs:=sP (l:=s.1) (i:=x.toNat) (v:=v) (by rw[w.im];omega) hg hv
 have:=(zs (lH hf ht d) ⟨hx,hxn⟩ ⟨hv,hvn⟩ hf ht (s.1.length+1) 0 _ hput.wf).fre
 simp only at this;omega
end Go.Sx
end
section
open Go Go.Proofs
namespace Go.Sx
def TT(R:V8->V8->Prop):V9->V9->Prop
 |t::fr,u::tt=>R t u/\TT R fr tt
 |_,_=>True
theorem TT.imp{R S:V8->V8->Prop}:∀{fr tt:V9},(∀t u,t∈fr->u∈tt->R t u->S t u)->TT R fr tt->TT S fr tt
 | [],_,_,_=>by unfold TT;trivial
 |_::_,[],_,_=>by unfold TT;trivial
 |t::fr,u::tt,h,k=>⟨h t u List.mem_cons_self List.mem_cons_self k.1,TT.imp (fun t' u' h1 h2=>h t' u' (List.mem_cons_of_mem _ h1) (List.mem_cons_of_mem _ h2)) k.2⟩
theorem TT.iff{R:V8->V8->Prop}:∀{fr tt:V9},fr.length=tt.length->(TT R fr tt↔∀k,k<fr.length->R (fr.getD k []) (tt.getD k []))
 | [],[],_=>by unfold TT;simp
 | [],_::_,h=>by simp at h
 |_::_,[],h=>by simp at h
 |t::fr,u::tt,h=>by
  unfold TT;rw[TT.iff (by simpa using h)]
  constructor
  ·rintro⟨h1,h2⟩ k hk
   cases k with
   |zero=>exact h1
   |succ k=>exact h2 k (by simpa using hk)
  ·intro h1
   exact⟨h1 0 (by simp),fun k hk=>h1 (k+1) (by simpa using hk)⟩
def sQ(n:Nat)(p:V7)(t u:V8):Prop:=∀x y:Int,0<=x->x<n->0<=y->y<n->gi p (g2 t x y)=g2 u (gi p x) (gi p y)
def At(p:V7)(a b:Int)(t u:V8):Prop:=gi p (g2 t a b)=g2 u (gi p a) (gi p b)
def gt(n:Nat)(p:V7)(s:MS):Prop:=∀z:Int,0<=z->z<n->0<=gi s.1 z->gi p z=gi s.1 z
theorem gt.put{n:Nat}{p:V7}{s:MS}(w:MW n s)(h:gt n p s){x v:Int}(hx:0<=x)(hxn:x<n)(hp:gi p x=v):gt n p (s.1.set x.toNat v,s.2.1.set v.toNat true,s.2.2++[x]):=fun z z0 z1 hz=>by
 have e:=oS (l:=s.1) (x:=x) (z:=z) (v:=v) hx (by rw[w.im];exact hxn) z0
 simp only at hz⊢;rw[e]at hz⊢;split
 ·rename_i e2;rw[e2];exact hp
 ·rename_i e2;rw[if_neg e2]at hz;exact h z z0 z1 hz
section
variable {n:Nat} {p:V7} {F T:V9}
def zw(n d:Nat)(p:V7)(A:Int->Int->MS->Bool×MS):Prop:=∀(x v:Int) (s:MS),0<=x->x<n->0<=v->v<n->MW n s->MI n s->b8 s.1<d->gt n p s->gi p x=v->(A x v s).1=true/\gt n p (A x v s).2
theorem Ik{d:Nat}{A:Int->Int->MS->Bool×MS}(hA:lG n A)(hC:zw n d p A){x v y:Int}(hx:0<=x/\x<n)(hv:0<=v/\v<n)(hy:0<=y/\y<n)(hp:gi p x=v):∀{fr tt:V9} {s:MS},cP n fr->cP n tt->TT (sQ n p) fr tt->MW n s->MI n s->b8 s.1<d->gt n p s->0<=gi s.1 y ->
  (bO A x v y fr tt s).1=true/\gt n p (bO A x v y fr tt s).2
 | [],_,s,_,_,_,_,_,_,h,_=>by unfold bO;exact⟨rfl,h⟩
 |_::_,[],s,_,_,_,_,_,_,h,_=>by unfold bO;exact⟨rfl,h⟩
 |t::fr,u::tt,s,hf,ht,hH,w,q,hd,h,hg=>by
  have hgn:=w.rg y hy.1 hy.2
  have t1:=hf t List.mem_cons_self
  have u1:=ht u List.mem_cons_self
  have hpy:gi p y=gi s.1 y:=h y hy.1 hy.2 hg
  have a0:=(t1.2 x y hx.1 hx.2).2 hy.1 hy.2
  have b0:=(u1.2 v _ hv.1 hv.2).2 hg hgn
  have m1:=hA (g2 t x y) (g2 u v (gi s.1 y)) s a0.1 a0.2 b0.1 b0.2 w
  obtain⟨c1,c2⟩:=hC (g2 t x y) (g2 u v (gi s.1 y)) s a0.1 a0.2 b0.1 b0.2 w q hd h (by rw[hH.1 x y hx.1 hx.2 hy.1 hy.2,hp,hpy])
  have hg1:0<=gi (A (g2 t x y) (g2 u v (gi s.1 y)) s).2.1 y:=by rw[m1.keep y hy.1 hy.2 hg];exact hg
  have hgn1:=m1.wf.rg y hy.1 hy.2
  have a2:=(t1.2 y x hy.1 hy.2).2 hx.1 hx.2
  have b2:=(u1.2 _ v hg1 hgn1).2 hv.1 hv.2
  have m2:=hA (g2 t y x) (g2 u (gi (A (g2 t x y) (g2 u v (gi s.1 y)) s).2.1 y) v) _ a2.1 a2.2 b2.1 b2.2 m1.wf
  have hd1:b8 (A (g2 t x y) (g2 u v (gi s.1 y)) s).2.1<d:=by have:=m1.fre;omega
  obtain⟨c3,c4⟩:=hC (g2 t y x) (g2 u (gi (A (g2 t x y) (g2 u v (gi s.1 y)) s).2.1 y) v) _ a2.1 a2.2 b2.1 b2.2 m1.wf (m1.hon q) hd1 c2 (by rw[hH.1 y x hy.1 hy.2 hx.1 hx.2,hp,c2 y hy.1 hy.2 hg1])
  rw[zt c1 c3];have m12:=m1.trans m2
  exact Ik hA hC hx hv hy hp (fun t2 h2=>hf t2 (List.mem_cons_of_mem _ h2)) (fun t2 h2=>ht t2 (List.mem_cons_of_mem _ h2)) hH.2 m12.wf (m12.hon q) (by have:=m12.fre;omega) c4 (by rw[m12.keep y hy.1 hy.2 hg];exact hg)
theorem Il{d:Nat}{A:Int->Int->MS->Bool×MS}(hA:lG n A)(hC:zw n d p A){x v:Int}(hx:0<=x/\x<n)(hv:0<=v/\v<n)(hp:gi p x=v)(hf:cP n F)(ht:cP n T)(hH:TT (sQ n p) F T):∀(e i:Nat) (s:MS),MW n s->MI n s->b8 s.1<d->gt n p s ->
  (dC A F T x v e i s).1=true/\gt n p (dC A F T x v e i s).2
 |0,i,s,_,_,_,h=>⟨rfl,h⟩
 |e+1,i,s,w,q,hd,h=>by
  by_cases hi:i<s.2.2.length
  ·have hm:s.2.2.getD i 0∈s.2.2:=by rw[List.getD,List.getElem?_eq_getElem hi];exact List.getElem_mem hi
   obtain⟨q1,q2,q3⟩:=w.st _ hm;obtain⟨c1,c2⟩:=Ik hA hC hx hv ⟨q1,q2⟩ hp hf ht hH w q hd h q3;have m1:=oT hA hx hv ⟨q1,q2⟩ hf ht w q3
   rw[zu hi c1];exact Il hA hC hx hv hp hf ht hH e (i+1) _ m1.wf (m1.hon q) (by have:=m1.fre;omega) c2
  ·unfold dC
   rw[if_neg hi];exact⟨rfl,h⟩
theorem Im(hl:p.length=n)(hnd:p.Nodup){x y:Int}(hx:0<=x/\x<n)(hy:0<=y/\y<n)(e:gi p x=gi p y):x=y:=by
 have h1:x.toNat<p.length:=by omega
 have h2:y.toNat<p.length:=by omega
 simp only[gi,List.getD,List.getElem?_eq_getElem h1,List.getElem?_eq_getElem h2,Option.getD_some]at e;have:=(List.getElem_inj hnd).1 e
 omega
theorem In(hl:p.length=n)(hnd:p.Nodup)(hf:cP n F)(ht:cP n T)(hH:TT (sQ n p) F T):∀d,zw n d p (aK F T d)
 |0=>fun _ _ s _ _ _ _ _ _ hd=>by omega
 |d+1=>fun x v s hx hxn hv hvn w q hd h hp=>by
  unfold aK;by_cases h0:0<=gi s.1 x
  ·rw[if_pos h0]
   exact⟨by simp only[decide_eq_true_eq];rw[<-h x hx hxn h0];exact hp,h⟩
  ·rw[if_neg h0]
   have hu:¬ s.2.1.getD v.toNat false=true:=fun hu=>by
    obtain⟨z,z0,z1,hz⟩:=(q.us v hv hvn).1 hu;have e:=h z z0 z1 (by omega)
    have:=Im hl hnd ⟨z0,z1⟩ ⟨hx,hxn⟩ (by rw[e,hp,hz])
    subst this;exact h0 (by omega)
   rw[if_neg hu];have m1:=w.put hx hxn hv hvn (by omega) (by simpa using hu)
   have hfs:=sP (l:=s.1) (i:=x.toNat) (v:=v) (by rw[w.im];omega) (by show gi s.1 x<0;omega) hv
   exact Il (lH hf ht d) (In hl hnd hf ht hH d) ⟨hx,hxn⟩ ⟨hv,hvn⟩ hp hf ht hH _ _ _ m1.wf (m1.hon q) (by simp only;omega) (h.put w hx hxn hp)
end
section
variable {n:Nat} {F T:V9}
def Cl(F T:V9)(E:V7)(s:MS):Prop:=∀a∈s.2.2,∀b∈s.2.2,a ∉ E->b ∉ E->TT (At s.1 a b) F T
theorem zx{s s':MS}(w:MW n s)(h:MX n s s')(hf:cP n F)(ht:cP n T){a b:Int}(ha:0<=a/\a<n/\0<=gi s.1 a)(hb:0<=b/\b<n/\0<=gi s.1 b)(k:TT (At s.1 a b) F T):TT (At s'.1 a b) F T:=by
 refine k.imp fun t u h1 h2 e=>?_
 have t0:=((hf t h1).2 a b ha.1 ha.2.1).2 hb.1 hb.2.1
 have u0:=((ht u h2).2 _ _ ha.2.2 (w.rg a ha.1 ha.2.1)).2 hb.2.2 (w.rg b hb.1 hb.2.1)
 have e:gi s.1 (g2 t a b)=g2 u (gi s.1 a) (gi s.1 b):=e
 show gi s'.1 (g2 t a b)=g2 u (gi s'.1 a) (gi s'.1 b)
 rw[h.keep a ha.1 ha.2.1 ha.2.2,h.keep b hb.1 hb.2.1 hb.2.2,h.keep _ t0.1 t0.2 (by rw[e];exact u0.1)]
 exact e
def zy(n:Nat)(F T:V9)(A:Int->Int->MS->Bool×MS):Prop:=∀(E:V7) (x v:Int) (s:MS),0<=x->x<n->0<=v->v<n->MW n s->Cl F T E s->(A x v s).1=true->Cl F T E (A x v s).2/\gi (A x v s).2.1 x=v
theorem Io{A:Int->Int->MS->Bool×MS}(hA:lG n A)(hS:zy n F T A){E:V7}{x v y:Int}(hx:0<=x/\x<n)(hv:0<=v/\v<n)(hy:0<=y/\y<n):∀{fr tt:V9} {s:MS},cP n fr->cP n tt->MW n s->0<=gi s.1 y->gi s.1 x=v->Cl F T E s->(bO A x v y fr tt s).1=true ->
  Cl F T E (bO A x v y fr tt s).2/\TT (At (bO A x v y fr tt s).2.1 x y) fr tt/\TT (At (bO A x v y fr tt s).2.1 y x) fr tt
 | [],_,s,_,_,_,_,_,h,_=>by unfold bO TT;exact⟨h,trivial,trivial⟩
 |_::_,[],s,_,_,_,_,_,h,_=>by unfold bO TT;exact⟨h,trivial,trivial⟩
 |t::fr,u::tt,s,hf,ht,w,hg,hxv,h,hr=>by
  have hgn:=w.rg y hy.1 hy.2
  have t1:=hf t List.mem_cons_self
  have u1:=ht u List.mem_cons_self
  have a0:=(t1.2 x y hx.1 hx.2).2 hy.1 hy.2
  have b0:=(u1.2 v _ hv.1 hv.2).2 hg hgn
  have m1:=hA (g2 t x y) (g2 u v (gi s.1 y)) s a0.1 a0.2 b0.1 b0.2 w
  cases hq:(A (g2 t x y) (g2 u v (gi s.1 y)) s).1 with
  |false=>rw[Ib hq,hq]at hr;cases hr
  |true =>
   obtain⟨c1,c2⟩:=hS E (g2 t x y) (g2 u v (gi s.1 y)) s a0.1 a0.2 b0.1 b0.2 w h hq;have hg1:0<=gi (A (g2 t x y) (g2 u v (gi s.1 y)) s).2.1 y:=by rw[m1.keep y hy.1 hy.2 hg];exact hg
   have hgn1:=m1.wf.rg y hy.1 hy.2
   have a2:=(t1.2 y x hy.1 hy.2).2 hx.1 hx.2
   have b2:=(u1.2 _ v hg1 hgn1).2 hv.1 hv.2
   have m2:=hA (g2 t y x) (g2 u (gi (A (g2 t x y) (g2 u v (gi s.1 y)) s).2.1 y) v) _ a2.1 a2.2 b2.1 b2.2 m1.wf
   cases hq2:(A (g2 t y x) (g2 u (gi (A (g2 t x y) (g2 u v (gi s.1 y)) s).2.1 y) v) (A (g2 t x y) (g2 u v (gi s.1 y)) s).2).1 with
   |false=>rw[Ic hq hq2,hq2]at hr;cases hr
   |true =>
    obtain⟨c3,c4⟩:=hS E _ _ _ a2.1 a2.2 b2.1 b2.2 m1.wf c1 hq2;rw[zt hq hq2]at hr⊢;have m12:=m1.trans m2
    have hg2:0<=gi (A (g2 t y x) (g2 u (gi (A (g2 t x y) (g2 u v (gi s.1 y)) s).2.1 y) v) (A (g2 t x y) (g2 u v (gi s.1 y)) s).2).2.1 y:=by rw[m12.keep y hy.1 hy.2 hg];exact hg
    have hf':cP n fr:=fun t2 h2=>hf t2 (List.mem_cons_of_mem _ h2)
    have ht':cP n tt:=fun t2 h2=>ht t2 (List.mem_cons_of_mem _ h2)
    have hx0:0<=gi s.1 x:=by rw[hxv];exact hv.1
    have hxv2:gi (A (g2 t y x) (g2 u (gi (A (g2 t x y) (g2 u v (gi s.1 y)) s).2.1 y) v) (A (g2 t x y) (g2 u v (gi s.1 y)) s).2).2.1 x=v:=by rw[m12.keep x hx.1 hx.2 hx0];exact hxv
    have m3:=oT (A:=A) hA hx hv hy hf' ht' m12.wf hg2
    obtain⟨d1,d2,d3⟩:=Io hA hS hx hv hy hf' ht' m12.wf hg2 hxv2 c3 hr;have m:=m12.trans m3
    refine⟨d1,⟨?_,d2⟩,⟨?_,d3⟩⟩
    ·show gi _ (g2 t x y)=g2 u (gi _ x) (gi _ y)
     rw[m.keep x hx.1 hx.2 hx0,m.keep y hy.1 hy.2 hg,(m2.trans m3).keep _ a0.1 a0.2 (by rw[c2];exact b0.1),c2,hxv]
    ·show gi _ (g2 t y x)=g2 u (gi _ y) (gi _ x)
     rw[m.keep x hx.1 hx.2 hx0,m.keep y hy.1 hy.2 hg,m3.keep _ a2.1 a2.2 (by rw[c4];exact b2.1),c4,hxv,m1.keep y hy.1 hy.2 hg]
theorem Rm{A:Int->Int->MS->Bool×MS}(hA:lG n A)(hS:zy n F T A){E:V7}{x v:Int}(hx:0<=x/\x<n)(hv:0<=v/\v<n)(hf:cP n F)(ht:cP n T):∀(e i:Nat) (s:MS),e+i=n+1->MW n s->gi s.1 x=v->Cl F T (x::E) s->(∀j,j<i->j<s.2.2.length->TT (At s.1 x (s.2.2.getD j 0)) F T/\TT (At s.1 (s.2.2.getD j 0) x) F T)->(dC A F T x v e i s).1=true ->
  Cl F T E (dC A F T x v e i s).2/\gi (dC A F T x v e i s).2.1 x=v:=by
 have fin:∀(i:Nat) (s:MS),s.2.2.length<=i->Cl F T (x::E) s->(∀j,j<i->j<s.2.2.length->TT (At s.1 x (s.2.2.getD j 0)) F T/\TT (At s.1 (s.2.2.getD j 0) x) F T)->Cl F T E s:=fun i s hi h hj a ha b hb hae hbe=>by
  have get:∀c∈s.2.2,TT (At s.1 x c) F T/\TT (At s.1 c x) F T:=fun c hc=>by
   obtain⟨k,hk,e⟩:=List.mem_iff_getElem.1 hc;have:=hj k (by omega) hk
   rw[List.getD,List.getElem?_eq_getElem hk,Option.getD_some,e]at this;exact this
  by_cases e1:a=x
  ·rw[e1];exact(get b hb).1
  ·by_cases e2:b=x
   ·rw[e2];exact(get a ha).2
   ·exact h a ha b hb (by simp[e1,hae]) (by simp[e2,hbe])
 intro e
 induction e with
 |zero =>
  intro i s he w hxv h hj _
  have:=w.cnt
  exact⟨fin i s (by omega) h hj,hxv⟩
 |succ e ih =>
  intro i s he w hxv h hj hr
  by_cases hi:i<s.2.2.length
  ·have hm:s.2.2.getD i 0∈s.2.2:=by rw[List.getD,List.getElem?_eq_getElem hi];exact List.getElem_mem hi
   obtain⟨q1,q2,q3⟩:=w.st _ hm;cases hq:(bO A x v (s.2.2.getD i 0) F T s).1 with
   |false=>rw[Id hi hq,hq]at hr;cases hr
   |true =>
    rw[zu hi hq]at hr⊢;have m1:=oT hA hx hv ⟨q1,q2⟩ hf ht w q3
    obtain⟨c1,c2,c3⟩:=Io hA hS hx hv ⟨q1,q2⟩ hf ht w q3 hxv h hq;have hx0:0<=gi s.1 x:=by rw[hxv];exact hv.1
    obtain⟨l,hl⟩:=m1.pre;refine ih (i+1) _ (by omega) m1.wf (by rw[m1.keep x hx.1 hx.2 hx0];exact hxv) c1 (fun j hj1 hj2=>?_) hr
    have hjl:j<s.2.2.length:=by omega
    have e2:(bO A x v (s.2.2.getD i 0) F T s).2.2.2.getD j 0=s.2.2.getD j 0:=by rw[hl];simp[List.getD,List.getElem?_append_left hjl]
    rw[e2];by_cases e3:j=i
    ·rw[e3];exact⟨c2,c3⟩
    ·have hmj:s.2.2.getD j 0∈s.2.2:=by rw[List.getD,List.getElem?_eq_getElem hjl];exact List.getElem_mem hjl
     obtain⟨z1,z2⟩:=hj j (by omega) hjl
     exact⟨zx w m1 hf ht ⟨hx.1,hx.2,hx0⟩ (w.st _ hmj) z1,zx w m1 hf ht (w.st _ hmj) ⟨hx.1,hx.2,hx0⟩ z2⟩
  ·unfold dC
   rw[if_neg hi];exact⟨fin i s (by omega) h hj,hxv⟩
theorem Ip(hf:cP n F)(ht:cP n T):∀d,zy n F T (aK F T d)
 |0=>fun E x v s _ _ _ _ _ _ h=>by cases h
 |d+1=>fun E x v s hx hxn hv hvn w h hr=>by
  unfold aK at hr⊢;by_cases h0:0<=gi s.1 x
  ·rw[if_pos h0]at hr⊢
   exact⟨h,by simpa using hr⟩
  ·rw[if_neg h0]at hr⊢
   by_cases hu:s.2.1.getD v.toNat false=true
   ·rw[if_pos hu]at hr;cases hr
   ·rw[if_neg hu]at hr⊢
    have m1:=w.put hx hxn hv hvn (by omega) (by simpa using hu)
    have e1:s.1.length=n:=w.im
    refine Rm (lH hf ht d) (Ip hf ht d) ⟨hx,hxn⟩ ⟨hv,hvn⟩ hf ht _ _ _ (by rw[e1]) m1.wf ?_ (fun a ha b hb hae hbe=>?_) (fun j hj=>by omega) hr
    ·show gi (s.1.set x.toNat v) x=v
     rw[oS hx (by rw[e1];exact hxn) hx,if_pos rfl]
    ·simp only[List.mem_append,List.mem_singleton,List.mem_cons,not_or]at ha hb hae hbe
     have ha:=ha.resolve_right (by simp[hae.1])
     have hb:=hb.resolve_right (by simp[hbe.1])
     exact zx w m1 hf ht (w.st a ha) (w.st b hb) (h a ha b hb hae.2 hbe.2)
end
end Go.Sx
end
