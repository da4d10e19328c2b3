/- MapQ -/
import Derived.Test.YtkmldclpaniclaaGreatRack
set_option linter.unusedSimpArgs false
set_option linter.unusedVariables false
open Go Go.Proofs
namespace Go.Sx
def bh:List Int->List Int->Bool
 |_,[]=>false
 | [],_::_=>true
 |x::a,y::b=>if x=y then bh a b else decide (x<y)
theorem w8:∀a:List Int,bh a a=false
 | []=>rfl
 |x::a=>by rw[bh,if_pos rfl];exact w8 a
theorem Fl:∀a b:List Int,bh a b=false->bh b a=false->a=b
 | [],[],_,_=>rfl
 | [],_::_,h,_=>by simp[bh]at h
 |_::_,[],_,h=>by simp[bh]at h
 |x::a,y::b,h,k=>by
  by_cases e:x=y
  ·subst e
   rw[bh,if_pos rfl]at h k;rw[Fl a b h k]
  ·rw[bh,if_neg e]at h
   rw[bh,if_neg (Ne.symm e)]at k;simp at h k
   omega
theorem w9:∀a b c:List Int,bh a b=true->bh b c=true->bh a c=true
 |_,_,[],_,h=>by cases ‹List Int›<;>simp[bh]at h
 |_,[],_::_,h,_=>by cases ‹List Int›<;>simp[bh]at h
 | [],_::_,_::_,_,_=>rfl
 |x::a,y::b,z::c,h,k=>by
  rw[bh]at h k⊢;by_cases e:x=y
  ·subst e
   rw[if_pos rfl]at h;by_cases f:x=z
   ·subst f
    rw[if_pos rfl]at k⊢;exact w9 a b c h k
   ·rw[if_neg f]at k⊢
    exact k
  ·rw[if_neg e]at h
   by_cases f:y=z
   ·subst f
    rw[if_neg e];exact h
   ·rw[if_neg f]at k
    simp at h k
    rw[if_neg (by omega)]
    simp;omega
def cF:List (List Int)->List Int->Nat
 | [],_=>0
 |k::K,m=>if bh k m=true then cF K m+1 else 0
theorem Fm:∀(K:List (List Int)) (m:List Int),cF K m<=K.length
 | [],_=>Nat.le_refl _
 |k::K,m=>by
  rw[cF];split
  ·exact Nat.succ_le_succ (Fm K m)
  ·exact Nat.zero_le _
theorem xa:∀(K:List (List Int)) (m:List Int) (i:Nat),(∀j,j<i->bh (K.getD j []) m=true)->i<=K.length->(∀h:i<K.length,bh (K.getD i []) m=false)->cF K m=i
 | [],_,i,_,h,_=>by simp at h;subst h;rfl
 |k::K,m,0,_,_,h=>by
  have:=h (by simp)
  have h2:bh k m=false:=this
  rw[cF,if_neg (by rw[h2];simp)]
 |k::K,m,i+1,a,b,c=>by
  have h0:bh k m=true:=a 0 (by omega)
  rw[cF,if_pos h0,xa K m i (fun j hj=>a (j+1) (by omega)) (by simpa using b) (fun h=>c (by simpa using h))]
def fx(K:List (List Int))(m:List Int):List (List Int) :=
 if cF K m<K.length/\K.getD (cF K m) []=m then K else K.take (cF K m)++m::K.drop (cF K m)
theorem xb(k:List Int)(K:List (List Int))(m:List Int):fx (k::K) m=if bh k m=true then k::fx K m else if k=m then k::K else m::k::K:=by
 by_cases h:bh k m=true
 ·rw[if_pos h,fx,fx,cF,if_pos h]
  simp only[List.length_cons,List.getD_cons_succ,Nat.add_lt_add_iff_right,List.take_succ_cons,List.drop_succ_cons,List.cons_append];split<;>rfl
 ·rw[if_neg h,fx,cF,if_neg h]
  by_cases e:k=m
  ·simp[e]
  ·simp[e]
theorem xc:∀(K:List (List Int)) (m x:List Int),x∈fx K m↔x=m\/x∈K
 | [],m,x=>by simp[fx,cF]
 |k::K,m,x=>by
  rw[xb];split
  ·rw[List.mem_cons,xc K m x,List.mem_cons]
   constructor
   ·rintro(h|h|h)<;>simp[h]
   ·rintro(h|h|h)<;>simp[h]
  ·split
   ·rename_i e
    subst e;simp
   ·simp
theorem Fn:∀(K:List (List Int)) (m:List Int),(fx K m).length<=K.length+1
 | [],m=>by simp[fx,cF]
 |k::K,m=>by
  rw[xb];have:=Fn K m
  split
  ·simp only[List.length_cons];omega
  ·split<;>simp
def eR(K:List (List Int)):Prop:=K.Pairwise fun a b=>bh a b=true
theorem Fo:∀(K:List (List Int)) (m:List Int),eR K->eR (fx K m)
 | [],m,_=>by simp[fx,cF,eR]
 |k::K,m,h=>by
  rw[xb];obtain⟨h1,h2⟩:=List.pairwise_cons.1 h;split
  ·rename_i e
   exact List.pairwise_cons.2 ⟨fun x hx=>by
    rcases(xc K m x).1 hx with rfl|hx
    ·exact e
    ·exact h1 x hx,Fo K m h2⟩
  ·rename_i e
   split
   ·exact h
   ·rename_i ne
    have lt:bh m k=true:=by
     cases q:bh m k
     ·exact absurd (Fl k m (by simpa using e) q) ne
     ·rfl
    refine List.pairwise_cons.2 ⟨fun x hx=>?_,h⟩
    rcases List.mem_cons.1 hx with rfl|hx
    ·exact lt
    ·exact w9 _ _ _ lt (h1 x hx)
theorem n9{K:List (List Int)}(h:eR K):K.Nodup:=h.imp fun {a b} hab e=>by
 subst e;rw[w8]at hab;cases hab
def aM(M:List (List Int)):Nat->List (List Int)
 |0=>[]
 |i+1=>fx (aM M i) (M.getD i [])
def aH(M:List (List Int)):List (List Int):=aM M M.length
theorem Fp(M:List (List Int)):∀i,eR (aM M i)
 |0=>List.Pairwise.nil
 |i+1=>Fo _ _ (Fp M i)
theorem xd(M:List (List Int)):∀i,(aM M i).length<=i
 |0=>Nat.le_refl _
 |i+1=>Nat.le_trans (Fn _ _) (Nat.succ_le_succ (xd M i))
theorem xe(M:List (List Int))(x:List Int):∀i,x∈aM M i↔∃j,j<i/\x=M.getD j []
 |0=>by simp[aM]
 |i+1=>by
  rw[aM,xc,xe M x i]
  constructor
  ·rintro(h|⟨j,h1,h2⟩)
   ·exact⟨i,by omega,h⟩
   ·exact⟨j,by omega,h2⟩
  ·rintro⟨j,h1,h2⟩
   by_cases e:j=i
   ·subst e;exact .inl h2
   ·exact .inr ⟨j,by omega,h2⟩
def dN:List (List Int)->List Int->Nat
 | [],_=>0
 |k::K,m=>if k=m then 0 else dN K m+1
theorem jj:∀{K:List (List Int)} {m:List Int},m∈K->dN K m<K.length/\K.getD (dN K m) []=m
 |k::K,m,h=>by
  rw[dN];split
  ·rename_i e;exact⟨by simp,e⟩
  ·rename_i e
   have:=jj (K:=K) (m:=m) (by rcases List.mem_cons.1 h with rfl|h;exact absurd rfl e;exact h)
   exact⟨by simpa using this.1,by simpa using this.2⟩
theorem oa:∀{K:List (List Int)} {m:List Int} (i:Nat),(∀j,j<i->K.getD j []≠m)->i<K.length->K.getD i []=m->dN K m=i
 | [],_,i,_,h,_=>by simp at h
 |k::K,m,0,_,_,h=>by
  have:k=m:=h
  rw[dN,if_pos this]
 |k::K,m,i+1,a,b,c=>by
  have h0:k≠m:=a 0 (by omega)
  rw[dN,if_neg h0,oa (K:=K) i (fun j hj=>a (j+1) (by omega)) (by simpa using b) (by simpa using c)]
theorem Fq{K:List (List Int)}(h:K.Nodup){i:Nat}(hi:i<K.length):dN K (K.getD i [])=i:=by
 refine oa i (fun j hj e=>?_) hi rfl
 rw[bG K [] j (by omega),bG K [] i hi]at e
 have:=(List.getElem_inj h).1 e
 omega
def aR(M:List (List Int)):List Int:=M.map fun m=>(dN (aH M) m:Int)
theorem mG{M:List (List Int)}{x:List Int}:x∈aH M↔x∈M:=by
 rw[aH,xe]
 constructor
 ·rintro⟨j,h1,rfl⟩;exact bO M [] j h1
 ·intro h
  obtain⟨j,h1,h2⟩:=List.getElem_of_mem h;exact⟨j,h1,by rw[bG M [] j h1];exact h2.symm⟩
theorem Fr(M:List (List Int)):(aH M).length<=M.length:=xd M _
/- Sorting by insertion. -/
def cG(p:List Int)(x:Int):Nat->Nat
 |0=>0
 |j+1=>if x<p.getD j 0 then cG p x j else j+1
theorem xf(p:List Int)(x:Int):∀j,cG p x j<=j
 |0=>Nat.le_refl _
 |j+1=>by rw[cG];split;exact Nat.le_succ_of_le (xf p x j);exact Nat.le_refl _
theorem Fs(p:List Int)(x:Int):∀j i,cG p x j<=i->i<j->x<p.getD i 0
 |0,i,_,h=>by omega
 |j+1,i,h,k=>by
  rw[cG]at h;split at h
  ·rename_i e
   by_cases ei:i=j
   ·subst ei;exact e
   ·exact Fs p x j i h (by omega)
  ·omega
theorem Ft(p:List Int)(x:Int):∀j,0<cG p x j->p.getD (cG p x j-1) 0<=x
 |0,h=>by simp[cG]at h
 |j+1,h=>by
  rw[cG]at h⊢;split
  ·rename_i e;rw[if_pos e]at h;exact Ft p x j h
  ·rename_i e;simpa using e
def kR(p:List Int)(x:Int):List Int:=p.take (cG p x p.length)++x::p.drop (cG p x p.length)
def bZ(l:List Int):Nat->List Int
 |0=>[]
 |i+1=>kR (bZ l i) (l.getD i 0)
def jR(l:List Int):List Int:=bZ l l.length
theorem Nh(p:List Int)(x:Int):(kR p x).length=p.length+1:=by
 have:=xf p x p.length
 simp[kR];omega
theorem rr(l:List Int):∀i,(bZ l i).length=i
 |0=>rfl
 |i+1=>by rw[bZ,Nh,rr l i]
theorem Ni(p:List Int)(x:Int):(kR p x).Perm (p++[x]):=by
 have h1:(p.take (cG p x p.length)++x::p.drop (cG p x p.length)).Perm (x::(p.take (cG p x p.length)++p.drop (cG p x p.length))):=List.perm_middle
 rw[List.take_append_drop]at h1;exact h1.trans (List.perm_append_comm (l₁:=[x]) (l₂:=p))
theorem Fu(l:List Int):∀i,i<=l.length->(bZ l i).Perm (l.take i)
 |0,_=>by simp[bZ]
 |i+1,h=>by
  rw[bZ,<-du l 0 i (by omega)]
  exact(Ni _ _).trans ((Fu l i (by omega)).append (List.Perm.refl _))
theorem Fv(l:List Int):(jR l).Perm l:=by
 have:=Fu l l.length (Nat.le_refl _)
 rwa[List.take_length]at this
theorem Nj{p:List Int}(h:p.Pairwise (·<=·))(x:Int):(kR p x).Pairwise (·<=·):=by
 have hb:=xf p x p.length
 have hg:∀i j,i<j->j<p.length->p.getD i 0<=p.getD j 0:=fun i j hij hj=>by
  rw[bG p 0 i (by omega),bG p 0 j hj]
  exact List.pairwise_iff_getElem.1 h i j (by omega) hj hij
 have lo:∀a∈p.take (cG p x p.length),a<=x:=fun a ha=>by
  obtain⟨i,hi,rfl⟩:=List.getElem_of_mem ha;rw[List.length_take]at hi;have e:(p.take (cG p x p.length))[i]=p.getD i 0:=by rw[List.getElem_take,bG p 0 i (by omega)]
  rw[e];have:=Ft p x p.length (by omega)
  by_cases q:i=cG p x p.length-1
  ·subst q;exact this
  ·exact Int.le_trans (hg i (cG p x p.length-1) (by omega) (by omega)) this
 have up:∀a∈p.drop (cG p x p.length),x<=a:=fun a ha=>by
  obtain⟨i,hi,rfl⟩:=List.getElem_of_mem ha;rw[List.length_drop]at hi;have e:(p.drop (cG p x p.length))[i]=p.getD (cG p x p.length+i) 0:=by rw[List.getElem_drop,bG p 0 _ (by omega)]
  rw[e];have:=Fs p x p.length (cG p x p.length+i) (by omega) (by omega)
  omega
 rw[kR,List.pairwise_append];refine⟨h.sublist (List.take_sublist _ _),List.pairwise_cons.2 ⟨up,h.sublist (List.drop_sublist _ _)⟩,fun a ha b hb=>?_⟩
 rcases List.mem_cons.1 hb with rfl|hb
 ·exact lo a ha
 ·exact Int.le_trans (lo a ha) (up b hb)
theorem xg(l:List Int):∀i,(bZ l i).Pairwise (·<=·)
 |0=>List.Pairwise.nil
 |i+1=>Nj (xg l i) _
theorem Nk{l l':List Int}(h:l.Perm l'):jR l=jR l' :=
 List.Perm.eq_of_pairwise (le:=(·<=·)) (fun a b _ _ h1 h2=>Int.le_antisymm h1 h2) (xg l _) (xg l' _) (((Fv l).trans h).trans (Fv l').symm)
/- What tables and colours tell of an element. -/
def f8(t:List (List Int))(x y:Nat):Int :=
 (if en t x y=(y:Int)then 1 else 0)+(if en t y x=(y:Int)then 2 else 0)+(if en t x y=(x:Int)then 4 else 0)+(if en t y x=(x:Int)then 8 else 0)
def fA(t:List (List Int))(c:List Int)(x y:Nat):Int :=
 ((c.getD y 0*64+c.getD (en t x y).toNat 0)*64+c.getD (en t y x).toNat 0)*16+f8 t x y
def f9(t:List (List Int))(x y:Nat):Nat->Nat
 |0=>0
 |z+1=>if en t y z=(x:Int)then f9 t x y z+1 else f9 t x y z
def ff(n:Nat)(t:List (List Int))(x y:Nat):Nat:=f9 t x y n
def c9(n:Nat)(t:List (List Int))(c:List Int)(x:Nat):List Int :=
 ar n (fA t c x)++ar n fun y=>1099511627776+c.getD y 0*64+(ff n t x y:Int)
def aZ(n:Nat)(a:List (List (List Int)))(c:List Int)(x:Nat):Nat->List Int
 |0=>[c.getD x 0]
 |k+1=>aZ n a c x k++jR (c9 n (a.getD k []) c x)
def b5(n:Nat)(a:List (List (List Int)))(c:List Int)(x:Nat):List Int:=aZ n a c x a.length
theorem xh(n:Nat)(a:List (List (List Int)))(c:List Int)(x:Nat):∀k,(aZ n a c x k).getD 0 0=c.getD x 0/\0<(aZ n a c x k).length
 |0=>by simp[aZ]
 |k+1=>by
  have:=xh n a c x k
  rw[aZ];exact⟨by rw[getD_append_left' _ _ _ _ this.2];exact this.1,by simp;omega⟩
def aB(n:Nat)(t:List (List Int)):Prop:=t.length=n/\∀x,x<n->(t.getD x []).length=n/\∀y,y<n->0<=en t x y/\en t x y<(n:Int)
def bA(n:Nat)(a:List (List (List Int))):Prop:=∀k,k<a.length->aB n (a.getD k [])
structure IsoG (n:Nat) (a b:List (List (List Int))) (g:Nat->Nat):Prop where
 lt:∀x,x<n->g x<n
 inj:∀x y,x<n->y<n->g x=g y->x=y
 map:∀k x y,k<a.length->x<n->y<n->en (b.getD k []) (g x) (g y)=(g (en (a.getD k []) x y).toNat:Int)
theorem rt{n:Nat}{g:Nat->Nat}(lt:∀x,x<n->g x<n)(inj:∀x y,x<n->y<n->g x=g y->x=y):((List.range n).map g).Perm (List.range n):=by
 have nd:((List.range n).map g).Nodup:=by
  rw[List.Nodup,List.pairwise_map];exact List.nodup_range.imp_of_mem fun {x y} hx hy hne e=>hne (inj x y (List.mem_range.1 hx) (List.mem_range.1 hy) e)
 refine(List.perm_ext_iff_of_nodup nd List.nodup_range).2 fun y=>⟨fun h=>?_,fun h=>?_⟩
 ·obtain⟨x,hx,rfl⟩:=List.mem_map.1 h
  exact List.mem_range.2 (lt x (List.mem_range.1 hx))
 ·refine Classical.byContradiction fun hn=>?_
  have h1:(y::(List.range n).map g).Nodup:=List.nodup_cons.2 ⟨hn,nd⟩
  have h2:=List.Nodup.length_le_of_subset h1 (l₂:=List.range n) (fun z hz=>by
   rcases List.mem_cons.1 hz with rfl|hz
   ·exact h
   ·obtain⟨x,hx,rfl⟩:=List.mem_map.1 hz
    exact List.mem_range.2 (lt x (List.mem_range.1 hx)))
  simp at h2
  omega
theorem Fw{n:Nat}{g:Nat->Nat}(lt:∀x,x<n->g x<n)(inj:∀x y,x<n->y<n->g x=g y->x=y)(F:Nat->Int):(ar n fun y=>F (g y)).Perm (ar n F):=by
 have:=(rt lt inj).map F
 rwa[List.map_map]at this
theorem xi(t:List (List Int))(x y:Nat):∀n,f9 t x y n=(List.range n).countP fun z=>decide (en t y z=(x:Int))
 |0=>rfl
 |n+1=>by
  rw[f9,xi t x y n,List.range_succ,List.countP_append];by_cases h:en t y n=(x:Int)<;>simp[h]
theorem oc{n:Nat}{g:Nat->Nat}(inj:∀x y,x<n->y<n->g x=g y->x=y){u:Int}(h0:0<=u)(h1:u<(n:Int)){y:Nat}(hy:y<n):((g u.toNat:Nat):Int)=(g y:Int)↔u=(y:Int):=by
 constructor
 ·intro e
  have:=inj u.toNat y (by omega) hy (by omega)
  omega
 ·intro e;rw[show u.toNat=y by omega]
section
variable {n:Nat} {a b:List (List (List Int))} {g:Nat->Nat}
theorem Nl(h:IsoG n a b g)(ha:bA n a){k:Nat}(hk:k<a.length){x y:Nat}(hx:x<n)(hy:y<n):f8 (b.getD k []) (g x) (g y)=f8 (a.getD k []) x y:=by
 have hu:=((ha k hk).2 x hx).2 y hy
 have hv:=((ha k hk).2 y hy).2 x hx
 have e1:=h.map k x y hk hx hy
 have e2:=h.map k y x hk hy hx
 simp only[f8,e1,e2,oc h.inj hu.1 hu.2 hx,oc h.inj hu.1 hu.2 hy,oc h.inj hv.1 hv.2 hx,oc h.inj hv.1 hv.2 hy]
theorem Nm(h:IsoG n a b g)(ha:bA n a){c d:List Int}(hc:∀x,x<n->c.getD x 0=d.getD (g x) 0){k:Nat}(hk:k<a.length){x y:Nat}(hx:x<n)(hy:y<n) :
  fA (b.getD k []) d (g x) (g y)=fA (a.getD k []) c x y:=by
 have hu:=((ha k hk).2 x hx).2 y hy
 have hv:=((ha k hk).2 y hy).2 x hx
 rw[fA,fA,Nl h ha hk hx hy,h.map k x y hk hx hy,h.map k y x hk hy hx,Int.toNat_natCast,Int.toNat_natCast,<-hc y hy,<-hc _ (by omega),<-hc _ (by omega)]
theorem Nn(h:IsoG n a b g)(ha:bA n a){k:Nat}(hk:k<a.length){x y:Nat}(hx:x<n)(hy:y<n):ff n (b.getD k []) (g x) (g y)=ff n (a.getD k []) x y:=by
 rw[ff,ff,xi,xi,<-(rt h.lt h.inj).countP_eq,List.countP_map];refine List.countP_congr fun z hz=>?_
 have hz:=List.mem_range.1 hz
 have hu:=((ha k hk).2 y hy).2 z hz
 simp only[Function.comp,decide_eq_true_eq];rw[h.map k y z hk hy hz,oc h.inj hu.1 hu.2 hx]
theorem No(h:IsoG n a b g)(ha:bA n a){c d:List Int}(hc:∀x,x<n->c.getD x 0=d.getD (g x) 0){k:Nat}(hk:k<a.length){x:Nat}(hx:x<n) :
  jR (c9 n (b.getD k []) d (g x))=jR (c9 n (a.getD k []) c x):=by
 refine Nk ?_
 rw[c9,c9];refine List.Perm.append ((Fw h.lt h.inj _).symm.trans ?_) ((Fw h.lt h.inj _).symm.trans ?_)
 ·rw[mf fun y hy=>Nm h ha hc hk hx hy]
 ·rw[mf fun y hy=>by rw[Nn h ha hk hx hy,<-hc y hy]]
theorem Fx(h:IsoG n a b g)(ha:bA n a){c d:List Int}(hc:∀x,x<n->c.getD x 0=d.getD (g x) 0){x:Nat}(hx:x<n):∀k,k<=a.length->aZ n b d (g x) k=aZ n a c x k
 |0,_=>by rw[aZ,aZ,hc x hx]
 |k+1,hk=>by rw[aZ,aZ,Fx h ha hc hx k (by omega),No h ha hc (by omega) hx]
theorem Np(h:IsoG n a b g)(ha:bA n a)(hab:b.length=a.length){c d:List Int}(hc:∀x,x<n->c.getD x 0=d.getD (g x) 0){x:Nat}(hx:x<n):b5 n b d (g x)=b5 n a c x:=by
 rw[b5,b5,hab];exact Fx h ha hc hx _ (Nat.le_refl _)
end
def aw(n:Nat)(a b:List (List (List Int)))(c d:List Int):List (List Int):=(List.range n).map (b5 n a c)++(List.range n).map (b5 n b d)
def bX(n:Nat)(cl:List Int)(m:Nat):Nat->List Int
 |0=>List.replicate m 0
 |i+1=>(bX n cl m i).set (cl.getD i 0).toNat ((bX n cl m i).getD (cl.getD i 0).toNat 0+if i<n then 1 else -1)
def jk(n:Nat)(M:List (List Int)):Bool:=(bX n (aR M) (aH M).length M.length).all fun x=>decide (x=0)
def kS(n:Nat)(a b:List (List (List Int)))(c d:List Int):Option (List Int×List Int×Nat) :=
 let M:=aw n a b c d
 if jk n M=true then some ((aR M).take n,(aR M).drop n,(aH M).length)else none
def ga(n:Nat)(a b:List (List (List Int))):Nat->Nat->List Int->List Int->Option (List Int×List Int)
 |0,_,_,_=>none
 |fuel+1,num,c,d=>match kS n a b c d with
  |none=>none
  |some (c',d',m)=>if m=num then some (c',d')else ga n a b fuel m c' d'
theorem oe(n:Nat)(a b:List (List (List Int)))(c d:List Int):(aw n a b c d).length=2*n:=by simp[aw];omega
theorem Fy(n:Nat)(a b:List (List (List Int)))(c d:List Int){x:Nat}(h:x<n):(aw n a b c d).getD x []=b5 n a c x:=by
 rw[aw,getD_append_left' _ _ _ _ (by simpa using h)];simp[List.getD_eq_getElem?_getD,h]
theorem Fz(n:Nat)(a b:List (List (List Int)))(c d:List Int){x:Nat}(h:x<n):(aw n a b c d).getD (n+x) []=b5 n b d x:=by
 rw[aw,getD_append_right' _ _ _ _ (by simp)];simp[List.getD_eq_getElem?_getD,h]
theorem mH(M:List (List Int)):(aR M).length=M.length:=by simp[aR]
theorem og(M:List (List Int)){i:Nat}(h:i<M.length):(aR M).getD i 0=(dN (aH M) (M.getD i []):Int):=by
 rw[aR,me M _ [] 0 i h]
theorem xj(M:List (List Int)){i:Nat}(h:i<M.length):0<=(aR M).getD i 0/\(aR M).getD i 0<((aH M).length:Int):=by
 rw[og M h];have:=(jj (mG.2 (bO M [] i h))).1
 omega
def kT(c d:List Int)(m:Nat):Prop:=∀i,i<m->(i:Int)∈c++d
theorem xk{n:Nat}{a b:List (List (List Int))}{c d c' d':List Int}{m:Nat}(h:kS n a b c d=some (c',d',m)) :
  c'.length=n/\d'.length=n/\m<=2*n/\kT c' d' m/\(∀x,x<n->0<=c'.getD x 0/\c'.getD x 0<(m:Int))/\∀x,x<n->0<=d'.getD x 0/\d'.getD x 0<(m:Int):=by
 unfold kS at h;dsimp only at h;split at h
 ·cases h
  have L:=oe n a b c d
  refine⟨by rw[List.length_take,mH,L];omega,by rw[List.length_drop,mH,L];omega,by have:=Fr (aw n a b c d);omega,fun i hi=>?_,fun x hx=>?_,fun x hx=>?_⟩
  ·rw[List.take_append_drop]
   have h1:(aH (aw n a b c d)).getD i []∈aw n a b c d:=mG.1 (bO _ _ _ hi)
   obtain⟨j,hj,e⟩:=List.getElem_of_mem h1;have h2:=og _ hj
   rw[bG _ [] j hj,e,Fq (K:=aH (aw n a b c d)) (n9 (Fp _ _)) hi]at h2;rw[<-h2];exact bO _ _ _ (by rw[mH];exact hj)
  ·rw[nM _ _ _ _ hx]
   exact xj _ (by omega)
  ·rw[uC]
   exact xj _ (by omega)
 ·cases h
theorem Nq:∀(m:Nat) (l:List Int),(∀i:Nat,i<m->(i:Int)∈l)->m<=l.length:=fun m l h=>by
 have:=li (yT m) (b:=l) fun x hx=>by
  obtain⟨h0,h1⟩:=mS.1 hx;have:=h x.toNat (by omega)
  rwa[Int.toNat_of_nonneg h0]at this
 simpa[ints]using this
theorem FA{n:Nat}{a b:List (List (List Int))}{c d:List Int}{num:Nat}(hc:c.length=n)(hd:d.length=n)(h:kT c d num):num<=(aH (aw n a b c d)).length:=by
 have:=Nq num ((aH (aw n a b c d)).map fun m=>m.getD 0 0) fun i hi=>by
  rcases List.mem_append.1 (h i hi)with q|q
  ·obtain⟨x,hx,e⟩:=List.getElem_of_mem q
   refine List.mem_map.2 ⟨b5 n a c x,mG.2 ?_,?_⟩
   ·rw[<-Fy n a b c d (by omega)];exact bO _ _ _ (by rw[oe];omega)
   ·rw[b5,(xh n a c x _).1,bG c 0 x hx,e]
  ·obtain⟨x,hx,e⟩:=List.getElem_of_mem q
   refine List.mem_map.2 ⟨b5 n b d x,mG.2 ?_,?_⟩
   ·rw[<-Fz n a b c d (by omega)];exact bO _ _ _ (by rw[oe];omega)
   ·rw[b5,(xh n b d x _).1,bG d 0 x hx,e]
 simpa using this
/- Counting. -/
theorem jl(n:Nat)(cl:List Int)(m:Nat):∀i,(bX n cl m i).length=m
 |0=>by simp[bX]
 |i+1=>by rw[bX,List.length_set,jl n cl m i]
theorem FB(n:Nat)(cl:List Int)(m:Nat)(hcl:∀i,i<cl.length->0<=cl.getD i 0/\cl.getD i 0<(m:Int)){q:Nat}(hq:q<m):∀i,i<=cl.length ->
  (bX n cl m i).getD q 0=((List.range i).countP fun j=>decide (cl.getD j 0=(q:Int))&&decide (j<n):Nat)-(((List.range i).countP fun j=>decide (cl.getD j 0=(q:Int))&&!decide (j<n):Nat):Int)
 |0,_=>by simp[bX,List.getD_eq_getElem?_getD,hq]
 |i+1,hi=>by
  have ih:=FB n cl m hcl hq i (by omega)
  have hr:=hcl i (by omega)
  rw[bX,gW _ _ _ _ (by rw[jl];exact hq),List.range_succ,List.countP_append,List.countP_append]
  by_cases e:cl.getD i 0=(q:Int)
  ·rw[if_pos (by omega)]
   have:(cl.getD i 0).toNat=q:=by omega
   rw[this,ih];by_cases hn:i<n
   ·simp only[List.countP_cons,List.countP_nil,e,hn,if_true,decide_true,Bool.and_true,Bool.not_true,Bool.and_false,if_false,Bool.false_eq_true];omega
   ·simp only[List.countP_cons,List.countP_nil,e,hn,if_true,decide_true,decide_false,Bool.not_false,Bool.and_true,Bool.not_true,Bool.and_false,if_false,Bool.false_eq_true];omega
  ·rw[if_neg (by omega),ih]
   simp only[List.countP_cons,List.countP_nil,e,decide_false,Bool.false_and,Bool.false_eq_true,if_false,Nat.add_zero,Nat.zero_add]
theorem Nr{n:Nat}{a b:List (List (List Int))}{g:Nat->Nat}(h:IsoG n a b g)(ha:bA n a)(hab:b.length=a.length){c d:List Int}(hc:∀x,x<n->c.getD x 0=d.getD (g x) 0) :
  jk n (aw n a b c d)=true/\∀x,x<n->((aR (aw n a b c d)).take n).getD x 0=((aR (aw n a b c d)).drop n).getD (g x) 0:=by
 have L:=oe n a b c d
 have key:∀x,x<n->(aR (aw n a b c d)).getD x 0=(aR (aw n a b c d)).getD (n+g x) 0:=fun x hx=>by
  rw[og _ (by omega),og _ (by have:=h.lt x hx;omega),Fy n a b c d hx,Fz n a b c d (h.lt x hx),Np h ha hab hc hx]
 refine⟨?_,fun x hx=>?_⟩
 ·rw[jk,List.all_eq_true]
  intro v hv
  obtain⟨q,hq,rfl⟩:=List.getElem_of_mem hv;rw[jl]at hq;rw[<-bG _ 0 q (by rw[jl];exact hq),decide_eq_true_eq]
  have:=FB n (aR (aw n a b c d)) (aH (aw n a b c d)).length (fun i hi=>xj _ (by rwa[mH]at hi)) hq (aw n a b c d).length (by rw[mH];exact Nat.le_refl _)
  rw[this,L,show 2*n=n+n by omega,List.range_add,List.countP_append,List.countP_append,List.countP_map,List.countP_map]
  have z1:(List.range n).countP (((fun j=>decide ((aR (aw n a b c d)).getD j 0=(q:Int))&&decide (j<n))) ∘ fun x=>n+x)=0:=by
   rw[List.countP_eq_zero];intro x hx;simp
  have z2:(List.range n).countP (fun j=>decide ((aR (aw n a b c d)).getD j 0=(q:Int))&&!decide (j<n))=0:=by
   rw[List.countP_eq_zero];intro x hx;have:=List.mem_range.1 hx;simp;omega
  have z3:(List.range n).countP (((fun j=>decide ((aR (aw n a b c d)).getD j 0=(q:Int))&&!decide (j<n))) ∘ fun x=>n+x)=(List.range n).countP (fun j=>decide ((aR (aw n a b c d)).getD j 0=(q:Int))&&decide (j<n)):=by
   rw[<-(rt h.lt h.inj).countP_eq,List.countP_map];refine List.countP_congr fun x hx=>?_
   have hx:=List.mem_range.1 hx
   have k2:=key x hx
   simp only[Function.comp,hx,decide_true,Bool.and_true,decide_eq_true_eq,Bool.and_eq_true,<-k2,Bool.not_eq_true',decide_eq_false_iff_not,Nat.not_lt,Nat.le_add_right,and_true]
  rw[z1,z2,z3];omega
 ·rw[nM _ _ _ _ hx,uC];exact key x hx
theorem Ns{n:Nat}{a b:List (List (List Int))}{g:Nat->Nat}(h:IsoG n a b g)(ha:bA n a)(hab:b.length=a.length){c d:List Int}(hc:∀x,x<n->c.getD x 0=d.getD (g x) 0) :
  ∃c' d' m,kS n a b c d=some (c',d',m)/\∀x,x<n->c'.getD x 0=d'.getD (g x) 0:=by
 obtain⟨h1,h2⟩:=Nr h ha hab hc;exact⟨_,_,_,by unfold kS;dsimp only;rw[if_pos h1],h2⟩
theorem FD{n:Nat}{a b:List (List (List Int))}{g:Nat->Nat}(h:IsoG n a b g)(ha:bA n a)(hab:b.length=a.length):∀(fuel num:Nat) (c d:List Int),c.length=n->d.length=n->kT c d num->2*n<fuel+num->num<=2*n ->
  (∀x,x<n->c.getD x 0=d.getD (g x) 0)->∃c' d',ga n a b fuel num c d=some (c',d')/\∀x,x<n->c'.getD x 0=d'.getD (g x) 0
 |0,num,c,d,_,_,_,h1,h2,_=>by omega
 |fuel+1,num,c,d,hcl,hdl,hcov,h1,h2,hc=>by
  obtain⟨c',d',m,e,hc'⟩:=Ns h ha hab hc;obtain⟨l1,l2,l3,l4,_⟩:=xk e;rw[ga,e];simp only;by_cases hm:m=num
  ·rw[if_pos hm];exact⟨c',d',rfl,hc'⟩
  ·rw[if_neg hm]
   have hle:num<=m:=by
    have:=FA (n:=n) (a:=a) (b:=b) hcl hdl hcov
    unfold kS at e;dsimp only at e;split at e
    ·cases e;exact this
    ·cases e
   exact FD h ha hab fuel m c' d' l1 l2 l4 (by omega) l3 hc'
def fP(n:Nat)(a b:List (List (List Int)))(c d:List Int):Option (List Int×List Int):=ga n a b (2*n+1) 0 c d
theorem rx{n:Nat}{a b:List (List (List Int))}{g:Nat->Nat}(h:IsoG n a b g)(ha:bA n a)(hab:b.length=a.length){c d:List Int}(hcl:c.length=n)(hdl:d.length=n)(hc:∀x,x<n->c.getD x 0=d.getD (g x) 0) :
  ∃c' d',fP n a b c d=some (c',d')/\∀x,x<n->c'.getD x 0=d'.getD (g x) 0 :=
 FD h ha hab _ _ c d hcl hdl (fun i hi=>by omega) (by omega) (by omega) hc
end Go.Sx
