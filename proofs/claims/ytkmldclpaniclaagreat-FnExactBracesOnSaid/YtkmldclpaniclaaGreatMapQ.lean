/- MapQ -/
import Derived.Test.YtkmldclpaniclaaGreatRack
set_option linter.unusedSimpArgs false
set_option linter.unusedVariables false
open Go Go.Proofs
namespace Go.Sx
def bh:List Int->List Int->Bool
 |_,[]=>false
 | [],_::_=>true
 |x::a,y::b=>if x=y then bh a b else decide (x<y)
theorem yu:∀a:List Int,bh a a=false
 | []=>rfl
 |x::a=>by rw[bh,if_pos rfl];exact yu a
theorem F6:∀a b:List Int,bh a b=false->bh b a=false->a=b
 | [],[],_,_=>rfl
 | [],_::_,h,_=>by simp[bh]at h
 |_::_,[],_,h=>by simp[bh]at h
 |x::a,y::b,h,k=>by
  by_cases e:x=y
  ·subst e
   rw[bh,if_pos rfl]at h k;rw[F6 a b h k]
  ·rw[bh,if_neg e]at h
   rw[bh,if_neg (Ne.symm e)]at k;simp at h k
   omega
theorem yw:∀a b c:List Int,bh a b=true->bh b c=true->bh a c=true
 |_,_,[],_,h=>by cases ‹List Int›<;>simp[bh]at h
 |_,[],_::_,h,_=>by cases ‹List Int›<;>simp[bh]at h
 | [],_::_,_::_,_,_=>rfl
 |x::a,y::b,z::c,h,k=>by
  rw[bh]at h k⊢;by_cases e:x=y
  ·subst e
   rw[if_pos rfl]at h;by_cases f:x=z
   ·subst f
    rw[if_pos rfl]at k⊢;exact yw a b c h k
   ·rw[if_neg f]at k⊢
    exact k
  ·rw[if_neg e]at h
   by_cases f:y=z
   ·subst f
    rw[if_neg e];exact h
   ·rw[if_neg f]at k
    simp at h k
    rw[if_neg (by omega)]
    simp;omega
def cC:List (List Int)->List Int->Nat
 | [],_=>0
 |k::K,m=>if bh k m=true then cC K m+1 else 0
theorem F7:∀(K:List (List Int)) (m:List Int),cC K m<=K.length
 | [],_=>Nat.le_refl _
 |k::K,m=>by
  rw[cC];split
  ·exact Nat.succ_le_succ (F7 K m)
  ·exact Nat.zero_le _
theorem yx:∀(K:List (List Int)) (m:List Int) (i:Nat),(∀j,j<i->bh (K.getD j []) m=true)->i<=K.length->(∀h:i<K.length,bh (K.getD i []) m=false)->cC K m=i
 | [],_,i,_,h,_=>by simp at h;subst h;rfl
 |k::K,m,0,_,_,h=>by
  have:=h (by simp)
  have h2:bh k m=false:=this
  rw[cC,if_neg (by rw[h2];simp)]
 |k::K,m,i+1,a,b,c=>by
  have h0:bh k m=true:=a 0 (by omega)
  rw[cC,if_pos h0,yx K m i (fun j hj=>a (j+1) (by omega)) (by simpa using b) (fun h=>c (by simpa using h))]
def fx(K:List (List Int))(m:List Int):List (List Int) :=
 if cC K m<K.length/\K.getD (cC K m) []=m then K else K.take (cC K m)++m::K.drop (cC K m)
theorem yy(k:List Int)(K:List (List Int))(m:List Int):fx (k::K) m=if bh k m=true then k::fx K m else if k=m then k::K else m::k::K:=by
 by_cases h:bh k m=true
 ·rw[if_pos h,fx,fx,cC,if_pos h]
  simp only[List.length_cons,List.getD_cons_succ,Nat.add_lt_add_iff_right,List.take_succ_cons,List.drop_succ_cons,List.cons_append];split<;>rfl
 ·rw[if_neg h,fx,cC,if_neg h]
  by_cases e:k=m
  ·simp[e]
  ·simp[e]
theorem yz:∀(K:List (List Int)) (m x:List Int),x∈fx K m↔x=m\/x∈K
 | [],m,x=>by simp[fx,cC]
 |k::K,m,x=>by
  rw[yy];split
  ·rw[List.mem_cons,yz K m x,List.mem_cons]
   constructor
   ·rintro(h|h|h)<;>simp[h]
   ·rintro(h|h|h)<;>simp[h]
  ·split
   ·rename_i e
    subst e;simp
   ·simp
theorem F8:∀(K:List (List Int)) (m:List Int),(fx K m).length<=K.length+1
 | [],m=>by simp[fx,cC]
 |k::K,m=>by
  rw[yy];have:=F8 K m
  split
  ·simp only[List.length_cons];omega
  ·split<;>simp
def eP(K:List (List Int)):Prop:=K.Pairwise fun a b=>bh a b=true
theorem F9:∀(K:List (List Int)) (m:List Int),eP K->eP (fx K m)
 | [],m,_=>by simp[fx,cC,eP]
 |k::K,m,h=>by
  rw[yy];obtain⟨h1,h2⟩:=List.pairwise_cons.1 h;split
  ·rename_i e
   exact List.pairwise_cons.2 ⟨fun x hx=>by
    rcases(yz K m x).1 hx with rfl|hx
    ·exact e
    ·exact h1 x hx,F9 K m h2⟩
  ·rename_i e
   split
   ·exact h
   ·rename_i ne
    have lt:bh m k=true:=by
     cases q:bh m k
     ·exact absurd (F6 k m (by simpa using e) q) ne
     ·rfl
    refine List.pairwise_cons.2 ⟨fun x hx=>?_,h⟩
    rcases List.mem_cons.1 hx with rfl|hx
    ·exact lt
    ·exact yw _ _ _ lt (h1 x hx)
theorem n7{K:List (List Int)}(h:eP K):K.Nodup:=h.imp fun {a b} hab e=>by
 subst e;rw[yu]at hab;cases hab
def aO(M:List (List Int)):Nat->List (List Int)
 |0=>[]
 |i+1=>fx (aO M i) (M.getD i [])
def aG(M:List (List Int)):List (List Int):=aO M M.length
theorem Ga(M:List (List Int)):∀i,eP (aO M i)
 |0=>List.Pairwise.nil
 |i+1=>F9 _ _ (Ga M i)
theorem yA(M:List (List Int)):∀i,(aO M i).length<=i
 |0=>Nat.le_refl _
 |i+1=>Nat.le_trans (F8 _ _) (Nat.succ_le_succ (yA M i))
theorem yB(M:List (List Int))(x:List Int):∀i,x∈aO M i↔∃j,j<i/\x=M.getD j []
 |0=>by simp[aO]
 |i+1=>by
  rw[aO,yz,yB M x i]
  constructor
  ·rintro(h|⟨j,h1,h2⟩)
   ·exact⟨i,by omega,h⟩
   ·exact⟨j,by omega,h2⟩
  ·rintro⟨j,h1,h2⟩
   by_cases e:j=i
   ·subst e;exact .inl h2
   ·exact .inr ⟨j,by omega,h2⟩
def dM:List (List Int)->List Int->Nat
 | [],_=>0
 |k::K,m=>if k=m then 0 else dM K m+1
theorem jk:∀{K:List (List Int)} {m:List Int},m∈K->dM K m<K.length/\K.getD (dM K m) []=m
 |k::K,m,h=>by
  rw[dM];split
  ·rename_i e;exact⟨by simp,e⟩
  ·rename_i e
   have:=jk (K:=K) (m:=m) (by rcases List.mem_cons.1 h with rfl|h;exact absurd rfl e;exact h)
   exact⟨by simpa using this.1,by simpa using this.2⟩
theorem n8:∀{K:List (List Int)} {m:List Int} (i:Nat),(∀j,j<i->K.getD j []≠m)->i<K.length->K.getD i []=m->dM K m=i
 | [],_,i,_,h,_=>by simp at h
 |k::K,m,0,_,_,h=>by
  have:k=m:=h
  rw[dM,if_pos this]
 |k::K,m,i+1,a,b,c=>by
  have h0:k≠m:=a 0 (by omega)
  rw[dM,if_neg h0,n8 (K:=K) i (fun j hj=>a (j+1) (by omega)) (by simpa using b) (by simpa using c)]
theorem Gb{K:List (List Int)}(h:K.Nodup){i:Nat}(hi:i<K.length):dM K (K.getD i [])=i:=by
 refine n8 i (fun j hj e=>?_) hi rfl
 rw[bD K [] j (by omega),bD K [] i hi]at e
 have:=(List.getElem_inj h).1 e
 omega
def aS(M:List (List Int)):List Int:=M.map fun m=>(dM (aG M) m:Int)
theorem mG{M:List (List Int)}{x:List Int}:x∈aG M↔x∈M:=by
 rw[aG,yB]
 constructor
 ·rintro⟨j,h1,rfl⟩;exact bE M [] j h1
 ·intro h
  obtain⟨j,h1,h2⟩:=List.getElem_of_mem h;exact⟨j,h1,by rw[bD M [] j h1];exact h2.symm⟩
theorem Gc(M:List (List Int)):(aG M).length<=M.length:=yA M _
/- Sorting by insertion. -/
def cD(p:List Int)(x:Int):Nat->Nat
 |0=>0
 |j+1=>if x<p.getD j 0 then cD p x j else j+1
theorem yC(p:List Int)(x:Int):∀j,cD p x j<=j
 |0=>Nat.le_refl _
 |j+1=>by rw[cD];split;exact Nat.le_succ_of_le (yC p x j);exact Nat.le_refl _
theorem Gd(p:List Int)(x:Int):∀j i,cD p x j<=i->i<j->x<p.getD i 0
 |0,i,_,h=>by omega
 |j+1,i,h,k=>by
  rw[cD]at h;split at h
  ·rename_i e
   by_cases ei:i=j
   ·subst ei;exact e
   ·exact Gd p x j i h (by omega)
  ·omega
theorem Ge(p:List Int)(x:Int):∀j,0<cD p x j->p.getD (cD p x j-1) 0<=x
 |0,h=>by simp[cD]at h
 |j+1,h=>by
  rw[cD]at h⊢;split
  ·rename_i e;rw[if_pos e]at h;exact Ge p x j h
  ·rename_i e;simpa using e
def kQ(p:List Int)(x:Int):List Int:=p.take (cD p x p.length)++x::p.drop (cD p x p.length)
def bR(l:List Int):Nat->List Int
 |0=>[]
 |i+1=>kQ (bR l i) (l.getD i 0)
def jP(l:List Int):List Int:=bR l l.length
theorem OZ(p:List Int)(x:Int):(kQ p x).length=p.length+1:=by
 have:=yC p x p.length
 simp[kQ];omega
theorem rZ(l:List Int):∀i,(bR l i).length=i
 |0=>rfl
 |i+1=>by rw[bR,OZ,rZ l i]
theorem O0(p:List Int)(x:Int):(kQ p x).Perm (p++[x]):=by
 have h1:(p.take (cD p x p.length)++x::p.drop (cD p x p.length)).Perm (x::(p.take (cD p x p.length)++p.drop (cD p x p.length))):=List.perm_middle
 rw[List.take_append_drop]at h1;exact h1.trans (List.perm_append_comm (l₁:=[x]) (l₂:=p))
theorem Gf(l:List Int):∀i,i<=l.length->(bR l i).Perm (l.take i)
 |0,_=>by simp[bR]
 |i+1,h=>by
  rw[bR,<-da l 0 i (by omega)]
  exact(O0 _ _).trans ((Gf l i (by omega)).append (List.Perm.refl _))
theorem Gg(l:List Int):(jP l).Perm l:=by
 have:=Gf l l.length (Nat.le_refl _)
 rwa[List.take_length]at this
theorem O5{p:List Int}(h:p.Pairwise (·<=·))(x:Int):(kQ p x).Pairwise (·<=·):=by
 have hb:=yC p x p.length
 have hg:∀i j,i<j->j<p.length->p.getD i 0<=p.getD j 0:=fun i j hij hj=>by
  rw[bD p 0 i (by omega),bD p 0 j hj]
  exact List.pairwise_iff_getElem.1 h i j (by omega) hj hij
 have lo:∀a∈p.take (cD p x p.length),a<=x:=fun a ha=>by
  obtain⟨i,hi,rfl⟩:=List.getElem_of_mem ha;rw[List.length_take]at hi;have e:(p.take (cD p x p.length))[i]=p.getD i 0:=by rw[List.getElem_take,bD p 0 i (by omega)]
  rw[e];have:=Ge p x p.length (by omega)
  by_cases q:i=cD p x p.length-1
  ·subst q;exact this
  ·exact Int.le_trans (hg i (cD p x p.length-1) (by omega) (by omega)) this
 have up:∀a∈p.drop (cD p x p.length),x<=a:=fun a ha=>by
  obtain⟨i,hi,rfl⟩:=List.getElem_of_mem ha;rw[List.length_drop]at hi;have e:(p.drop (cD p x p.length))[i]=p.getD (cD p x p.length+i) 0:=by rw[List.getElem_drop,bD p 0 _ (by omega)]
  rw[e];have:=Gd p x p.length (cD p x p.length+i) (by omega) (by omega)
  omega
 rw[kQ,List.pairwise_append];refine⟨h.sublist (List.take_sublist _ _),List.pairwise_cons.2 ⟨up,h.sublist (List.drop_sublist _ _)⟩,fun a ha b hb=>?_⟩
 rcases List.mem_cons.1 hb with rfl|hb
 ·exact lo a ha
 ·exact Int.le_trans (lo a ha) (up b hb)
theorem yD(l:List Int):∀i,(bR l i).Pairwise (·<=·)
 |0=>List.Pairwise.nil
 |i+1=>O5 (yD l i) _
theorem O6{l l':List Int}(h:l.Perm l'):jP l=jP l' :=
 List.Perm.eq_of_pairwise (le:=(·<=·)) (fun a b _ _ h1 h2=>Int.le_antisymm h1 h2) (yD l _) (yD l' _) (((Gg l).trans h).trans (Gg l').symm)
/- What tables and colours tell of an element. -/
def gb(t:List (List Int))(x y:Nat):Int :=
 (if en t x y=(y:Int)then 1 else 0)+(if en t y x=(y:Int)then 2 else 0)+(if en t x y=(x:Int)then 4 else 0)+(if en t y x=(x:Int)then 8 else 0)
def fA(t:List (List Int))(c:List Int)(x y:Nat):Int :=
 ((c.getD y 0*64+c.getD (en t x y).toNat 0)*64+c.getD (en t y x).toNat 0)*16+gb t x y
def gg(t:List (List Int))(x y:Nat):Nat->Nat
 |0=>0
 |z+1=>if en t y z=(x:Int)then gg t x y z+1 else gg t x y z
def fe(n:Nat)(t:List (List Int))(x y:Nat):Nat:=gg t x y n
def c7(n:Nat)(t:List (List Int))(c:List Int)(x:Nat):List Int :=
 aM n (fA t c x)++aM n fun y=>1099511627776+c.getD y 0*64+(fe n t x y:Int)
def aZ(n:Nat)(a:List (List (List Int)))(c:List Int)(x:Nat):Nat->List Int
 |0=>[c.getD x 0]
 |k+1=>aZ n a c x k++jP (c7 n (a.getD k []) c x)
def bS(n:Nat)(a:List (List (List Int)))(c:List Int)(x:Nat):List Int:=aZ n a c x a.length
theorem yE(n:Nat)(a:List (List (List Int)))(c:List Int)(x:Nat):∀k,(aZ n a c x k).getD 0 0=c.getD x 0/\0<(aZ n a c x k).length
 |0=>by simp[aZ]
 |k+1=>by
  have:=yE n a c x k
  rw[aZ];exact⟨by rw[getD_append_left' _ _ _ _ this.2];exact this.1,by simp;omega⟩
def aT(n:Nat)(t:List (List Int)):Prop:=t.length=n/\∀x,x<n->(t.getD x []).length=n/\∀y,y<n->0<=en t x y/\en t x y<(n:Int)
def bw(n:Nat)(a:List (List (List Int))):Prop:=∀k,k<a.length->aT n (a.getD k [])
structure IsoG (n:Nat) (a b:List (List (List Int))) (g:Nat->Nat):Prop where
 lt:∀x,x<n->g x<n
 inj:∀x y,x<n->y<n->g x=g y->x=y
 map:∀k x y,k<a.length->x<n->y<n->en (b.getD k []) (g x) (g y)=(g (en (a.getD k []) x y).toNat:Int)
theorem sa{n:Nat}{g:Nat->Nat}(lt:∀x,x<n->g x<n)(inj:∀x y,x<n->y<n->g x=g y->x=y):((List.range n).map g).Perm (List.range n):=by
 have nd:((List.range n).map g).Nodup:=by
  rw[List.Nodup,List.pairwise_map];exact List.nodup_range.imp_of_mem fun {x y} hx hy hne e=>hne (inj x y (List.mem_range.1 hx) (List.mem_range.1 hy) e)
 refine(List.perm_ext_iff_of_nodup nd List.nodup_range).2 fun y=>⟨fun h=>?_,fun h=>?_⟩
 ·obtain⟨x,hx,rfl⟩:=List.mem_map.1 h
  exact List.mem_range.2 (lt x (List.mem_range.1 hx))
 ·refine Classical.byContradiction fun hn=>?_
  have h1:(y::(List.range n).map g).Nodup:=List.nodup_cons.2 ⟨hn,nd⟩
  have h2:=List.Nodup.length_le_of_subset h1 (l₂:=List.range n) (fun z hz=>by
   rcases List.mem_cons.1 hz with rfl|hz
   ·exact h
   ·obtain⟨x,hx,rfl⟩:=List.mem_map.1 hz
    exact List.mem_range.2 (lt x (List.mem_range.1 hx)))
  simp at h2
  omega
theorem Gh{n:Nat}{g:Nat->Nat}(lt:∀x,x<n->g x<n)(inj:∀x y,x<n->y<n->g x=g y->x=y)(F:Nat->Int):(aM n fun y=>F (g y)).Perm (aM n F):=by
 have:=(sa lt inj).map F
 rwa[List.map_map]at this
theorem yF(t:List (List Int))(x y:Nat):∀n,gg t x y n=(List.range n).countP fun z=>decide (en t y z=(x:Int))
 |0=>rfl
 |n+1=>by
  rw[gg,yF t x y n,List.range_succ,List.countP_append];by_cases h:en t y n=(x:Int)<;>simp[h]
theorem n9{n:Nat}{g:Nat->Nat}(inj:∀x y,x<n->y<n->g x=g y->x=y){u:Int}(h0:0<=u)(h1:u<(n:Int)){y:Nat}(hy:y<n):((g u.toNat:Nat):Int)=(g y:Int)↔u=(y:Int):=by
 constructor
 ·intro e
  have:=inj u.toNat y (by omega) hy (by omega)
  omega
 ·intro e;rw[show u.toNat=y by omega]
section
variable {n:Nat} {a b:List (List (List Int))} {g:Nat->Nat}
theorem O7(h:IsoG n a b g)(ha:bw n a){k:Nat}(hk:k<a.length){x y:Nat}(hx:x<n)(hy:y<n):gb (b.getD k []) (g x) (g y)=gb (a.getD k []) x y:=by
 have hu:=((ha k hk).2 x hx).2 y hy
 have hv:=((ha k hk).2 y hy).2 x hx
 have e1:=h.map k x y hk hx hy
 have e2:=h.map k y x hk hy hx
 simp only[gb,e1,e2,n9 h.inj hu.1 hu.2 hx,n9 h.inj hu.1 hu.2 hy,n9 h.inj hv.1 hv.2 hx,n9 h.inj hv.1 hv.2 hy]
theorem O8(h:IsoG n a b g)(ha:bw n a){c d:List Int}(hc:∀x,x<n->c.getD x 0=d.getD (g x) 0){k:Nat}(hk:k<a.length){x y:Nat}(hx:x<n)(hy:y<n) :
  fA (b.getD k []) d (g x) (g y)=fA (a.getD k []) c x y:=by
 have hu:=((ha k hk).2 x hx).2 y hy
 have hv:=((ha k hk).2 y hy).2 x hx
 rw[fA,fA,O7 h ha hk hx hy,h.map k x y hk hx hy,h.map k y x hk hy hx,Int.toNat_natCast,Int.toNat_natCast,<-hc y hy,<-hc _ (by omega),<-hc _ (by omega)]
theorem O9(h:IsoG n a b g)(ha:bw n a){k:Nat}(hk:k<a.length){x y:Nat}(hx:x<n)(hy:y<n):fe n (b.getD k []) (g x) (g y)=fe n (a.getD k []) x y:=by
 rw[fe,fe,yF,yF,<-(sa h.lt h.inj).countP_eq,List.countP_map];refine List.countP_congr fun z hz=>?_
 have hz:=List.mem_range.1 hz
 have hu:=((ha k hk).2 y hy).2 z hz
 simp only[Function.comp,decide_eq_true_eq];rw[h.map k y z hk hy hz,n9 h.inj hu.1 hu.2 hx]
theorem Pa(h:IsoG n a b g)(ha:bw n a){c d:List Int}(hc:∀x,x<n->c.getD x 0=d.getD (g x) 0){k:Nat}(hk:k<a.length){x:Nat}(hx:x<n) :
  jP (c7 n (b.getD k []) d (g x))=jP (c7 n (a.getD k []) c x):=by
 refine O6 ?_
 rw[c7,c7];refine List.Perm.append ((Gh h.lt h.inj _).symm.trans ?_) ((Gh h.lt h.inj _).symm.trans ?_)
 ·rw[l9 fun y hy=>O8 h ha hc hk hx hy]
 ·rw[l9 fun y hy=>by rw[O9 h ha hk hx hy,<-hc y hy]]
theorem Gi(h:IsoG n a b g)(ha:bw n a){c d:List Int}(hc:∀x,x<n->c.getD x 0=d.getD (g x) 0){x:Nat}(hx:x<n):∀k,k<=a.length->aZ n b d (g x) k=aZ n a c x k
 |0,_=>by rw[aZ,aZ,hc x hx]
 |k+1,hk=>by rw[aZ,aZ,Gi h ha hc hx k (by omega),Pa h ha hc (by omega) hx]
theorem Pb(h:IsoG n a b g)(ha:bw n a)(hab:b.length=a.length){c d:List Int}(hc:∀x,x<n->c.getD x 0=d.getD (g x) 0){x:Nat}(hx:x<n):bS n b d (g x)=bS n a c x:=by
 rw[bS,bS,hab];exact Gi h ha hc hx _ (Nat.le_refl _)
end
def aw(n:Nat)(a b:List (List (List Int)))(c d:List Int):List (List Int):=(List.range n).map (bS n a c)++(List.range n).map (bS n b d)
def bO(n:Nat)(cl:List Int)(m:Nat):Nat->List Int
 |0=>List.replicate m 0
 |i+1=>(bO n cl m i).set (cl.getD i 0).toNat ((bO n cl m i).getD (cl.getD i 0).toNat 0+if i<n then 1 else -1)
def jl(n:Nat)(M:List (List Int)):Bool:=(bO n (aS M) (aG M).length M.length).all fun x=>decide (x=0)
def kR(n:Nat)(a b:List (List (List Int)))(c d:List Int):Option (List Int×List Int×Nat) :=
 let M:=aw n a b c d
 if jl n M=true then some ((aS M).take n,(aS M).drop n,(aG M).length)else none
def gh(n:Nat)(a b:List (List (List Int))):Nat->Nat->List Int->List Int->Option (List Int×List Int)
 |0,_,_,_=>none
 |fuel+1,num,c,d=>match kR n a b c d with
  |none=>none
  |some (c',d',m)=>if m=num then some (c',d')else gh n a b fuel m c' d'
theorem oa(n:Nat)(a b:List (List (List Int)))(c d:List Int):(aw n a b c d).length=2*n:=by simp[aw];omega
theorem Gj(n:Nat)(a b:List (List (List Int)))(c d:List Int){x:Nat}(h:x<n):(aw n a b c d).getD x []=bS n a c x:=by
 rw[aw,getD_append_left' _ _ _ _ (by simpa using h)];simp[List.getD_eq_getElem?_getD,h]
theorem Gk(n:Nat)(a b:List (List (List Int)))(c d:List Int){x:Nat}(h:x<n):(aw n a b c d).getD (n+x) []=bS n b d x:=by
 rw[aw,getD_append_right' _ _ _ _ (by simp)];simp[List.getD_eq_getElem?_getD,h]
theorem mH(M:List (List Int)):(aS M).length=M.length:=by simp[aS]
theorem oc(M:List (List Int)){i:Nat}(h:i<M.length):(aS M).getD i 0=(dM (aG M) (M.getD i []):Int):=by
 rw[aS,l8 M _ [] 0 i h]
theorem yG(M:List (List Int)){i:Nat}(h:i<M.length):0<=(aS M).getD i 0/\(aS M).getD i 0<((aG M).length:Int):=by
 rw[oc M h];have:=(jk (mG.2 (bE M [] i h))).1
 omega
def kS(c d:List Int)(m:Nat):Prop:=∀i,i<m->(i:Int)∈c++d
theorem yH{n:Nat}{a b:List (List (List Int))}{c d c' d':List Int}{m:Nat}(h:kR n a b c d=some (c',d',m)) :
  c'.length=n/\d'.length=n/\m<=2*n/\kS c' d' m/\(∀x,x<n->0<=c'.getD x 0/\c'.getD x 0<(m:Int))/\∀x,x<n->0<=d'.getD x 0/\d'.getD x 0<(m:Int):=by
 unfold kR at h;dsimp only at h;split at h
 ·cases h
  have L:=oa n a b c d
  refine⟨by rw[List.length_take,mH,L];omega,by rw[List.length_drop,mH,L];omega,by have:=Gc (aw n a b c d);omega,fun i hi=>?_,fun x hx=>?_,fun x hx=>?_⟩
  ·rw[List.take_append_drop]
   have h1:(aG (aw n a b c d)).getD i []∈aw n a b c d:=mG.1 (bE _ _ _ hi)
   obtain⟨j,hj,e⟩:=List.getElem_of_mem h1;have h2:=oc _ hj
   rw[bD _ [] j hj,e,Gb (K:=aG (aw n a b c d)) (n7 (Ga _ _)) hi]at h2;rw[<-h2];exact bE _ _ _ (by rw[mH];exact hj)
  ·rw[nI _ _ _ _ hx]
   exact yG _ (by omega)
  ·rw[pu]
   exact yG _ (by omega)
 ·cases h
theorem Pc:∀(m:Nat) (l:List Int),(∀i:Nat,i<m->(i:Int)∈l)->m<=l.length:=fun m l h=>by
 have:=kZ (zf m) (b:=l) fun x hx=>by
  obtain⟨h0,h1⟩:=mP.1 hx;have:=h x.toNat (by omega)
  rwa[Int.toNat_of_nonneg h0]at this
 simpa[ints]using this
theorem Gl{n:Nat}{a b:List (List (List Int))}{c d:List Int}{num:Nat}(hc:c.length=n)(hd:d.length=n)(h:kS c d num):num<=(aG (aw n a b c d)).length:=by
 have:=Pc num ((aG (aw n a b c d)).map fun m=>m.getD 0 0) fun i hi=>by
  rcases List.mem_append.1 (h i hi)with q|q
  ·obtain⟨x,hx,e⟩:=List.getElem_of_mem q
   refine List.mem_map.2 ⟨bS n a c x,mG.2 ?_,?_⟩
   ·rw[<-Gj n a b c d (by omega)];exact bE _ _ _ (by rw[oa];omega)
   ·rw[bS,(yE n a c x _).1,bD c 0 x hx,e]
  ·obtain⟨x,hx,e⟩:=List.getElem_of_mem q
   refine List.mem_map.2 ⟨bS n b d x,mG.2 ?_,?_⟩
   ·rw[<-Gk n a b c d (by omega)];exact bE _ _ _ (by rw[oa];omega)
   ·rw[bS,(yE n b d x _).1,bD d 0 x hx,e]
 simpa using this
/- Counting. -/
theorem jm(n:Nat)(cl:List Int)(m:Nat):∀i,(bO n cl m i).length=m
 |0=>by simp[bO]
 |i+1=>by rw[bO,List.length_set,jm n cl m i]
theorem Gm(n:Nat)(cl:List Int)(m:Nat)(hcl:∀i,i<cl.length->0<=cl.getD i 0/\cl.getD i 0<(m:Int)){q:Nat}(hq:q<m):∀i,i<=cl.length ->
  (bO n cl m i).getD q 0=((List.range i).countP fun j=>decide (cl.getD j 0=(q:Int))&&decide (j<n):Nat)-(((List.range i).countP fun j=>decide (cl.getD j 0=(q:Int))&&!decide (j<n):Nat):Int)
 |0,_=>by simp[bO,List.getD_eq_getElem?_getD,hq]
 |i+1,hi=>by
  have ih:=Gm n cl m hcl hq i (by omega)
  have hr:=hcl i (by omega)
  rw[bO,gW _ _ _ _ (by rw[jm];exact hq),List.range_succ,List.countP_append,List.countP_append]
  by_cases e:cl.getD i 0=(q:Int)
  ·rw[if_pos (by omega)]
   have:(cl.getD i 0).toNat=q:=by omega
   rw[this,ih];by_cases hn:i<n
   ·simp only[List.countP_cons,List.countP_nil,e,hn,if_true,decide_true,Bool.and_true,Bool.not_true,Bool.and_false,if_false,Bool.false_eq_true];omega
   ·simp only[List.countP_cons,List.countP_nil,e,hn,if_true,decide_true,decide_false,Bool.not_false,Bool.and_true,Bool.not_true,Bool.and_false,if_false,Bool.false_eq_true];omega
  ·rw[if_neg (by omega),ih]
   simp only[List.countP_cons,List.countP_nil,e,decide_false,Bool.false_and,Bool.false_eq_true,if_false,Nat.add_zero,Nat.zero_add]
theorem Pd{n:Nat}{a b:List (List (List Int))}{g:Nat->Nat}(h:IsoG n a b g)(ha:bw n a)(hab:b.length=a.length){c d:List Int}(hc:∀x,x<n->c.getD x 0=d.getD (g x) 0) :
  jl n (aw n a b c d)=true/\∀x,x<n->((aS (aw n a b c d)).take n).getD x 0=((aS (aw n a b c d)).drop n).getD (g x) 0:=by
 have L:=oa n a b c d
 have key:∀x,x<n->(aS (aw n a b c d)).getD x 0=(aS (aw n a b c d)).getD (n+g x) 0:=fun x hx=>by
  rw[oc _ (by omega),oc _ (by have:=h.lt x hx;omega),Gj n a b c d hx,Gk n a b c d (h.lt x hx),Pb h ha hab hc hx]
 refine⟨?_,fun x hx=>?_⟩
 ·rw[jl,List.all_eq_true]
  intro v hv
  obtain⟨q,hq,rfl⟩:=List.getElem_of_mem hv;rw[jm]at hq;rw[<-bD _ 0 q (by rw[jm];exact hq),decide_eq_true_eq]
  have:=Gm n (aS (aw n a b c d)) (aG (aw n a b c d)).length (fun i hi=>yG _ (by rwa[mH]at hi)) hq (aw n a b c d).length (by rw[mH];exact Nat.le_refl _)
  rw[this,L,show 2*n=n+n by omega,List.range_add,List.countP_append,List.countP_append,List.countP_map,List.countP_map]
  have z1:(List.range n).countP (((fun j=>decide ((aS (aw n a b c d)).getD j 0=(q:Int))&&decide (j<n))) ∘ fun x=>n+x)=0:=by
   rw[List.countP_eq_zero];intro x hx;simp
  have z2:(List.range n).countP (fun j=>decide ((aS (aw n a b c d)).getD j 0=(q:Int))&&!decide (j<n))=0:=by
   rw[List.countP_eq_zero];intro x hx;have:=List.mem_range.1 hx;simp;omega
  have z3:(List.range n).countP (((fun j=>decide ((aS (aw n a b c d)).getD j 0=(q:Int))&&!decide (j<n))) ∘ fun x=>n+x)=(List.range n).countP (fun j=>decide ((aS (aw n a b c d)).getD j 0=(q:Int))&&decide (j<n)):=by
   rw[<-(sa h.lt h.inj).countP_eq,List.countP_map];refine List.countP_congr fun x hx=>?_
   have hx:=List.mem_range.1 hx
   have k2:=key x hx
   simp only[Function.comp,hx,decide_true,Bool.and_true,decide_eq_true_eq,Bool.and_eq_true,<-k2,Bool.not_eq_true',decide_eq_false_iff_not,Nat.not_lt,Nat.le_add_right,and_true]
  rw[z1,z2,z3];omega
 ·rw[nI _ _ _ _ hx,pu];exact key x hx
theorem Pe{n:Nat}{a b:List (List (List Int))}{g:Nat->Nat}(h:IsoG n a b g)(ha:bw n a)(hab:b.length=a.length){c d:List Int}(hc:∀x,x<n->c.getD x 0=d.getD (g x) 0) :
  ∃c' d' m,kR n a b c d=some (c',d',m)/\∀x,x<n->c'.getD x 0=d'.getD (g x) 0:=by
 obtain⟨h1,h2⟩:=Pd h ha hab hc;exact⟨_,_,_,by unfold kR;dsimp only;rw[if_pos h1],h2⟩
theorem Gn{n:Nat}{a b:List (List (List Int))}{g:Nat->Nat}(h:IsoG n a b g)(ha:bw n a)(hab:b.length=a.length):∀(fuel num:Nat) (c d:List Int),c.length=n->d.length=n->kS c d num->2*n<fuel+num->num<=2*n ->
  (∀x,x<n->c.getD x 0=d.getD (g x) 0)->∃c' d',gh n a b fuel num c d=some (c',d')/\∀x,x<n->c'.getD x 0=d'.getD (g x) 0
 |0,num,c,d,_,_,_,h1,h2,_=>by omega
 |fuel+1,num,c,d,hcl,hdl,hcov,h1,h2,hc=>by
  obtain⟨c',d',m,e,hc'⟩:=Pe h ha hab hc;obtain⟨l1,l2,l3,l4,_⟩:=yH e;rw[gh,e];simp only;by_cases hm:m=num
  ·rw[if_pos hm];exact⟨c',d',rfl,hc'⟩
  ·rw[if_neg hm]
   have hle:num<=m:=by
    have:=Gl (n:=n) (a:=a) (b:=b) hcl hdl hcov
    unfold kR at e;dsimp only at e;split at e
    ·cases e;exact this
    ·cases e
   exact Gn h ha hab fuel m c' d' l1 l2 l4 (by omega) l3 hc'
def fQ(n:Nat)(a b:List (List (List Int)))(c d:List Int):Option (List Int×List Int):=gh n a b (2*n+1) 0 c d
theorem sb{n:Nat}{a b:List (List (List Int))}{g:Nat->Nat}(h:IsoG n a b g)(ha:bw n a)(hab:b.length=a.length){c d:List Int}(hcl:c.length=n)(hdl:d.length=n)(hc:∀x,x<n->c.getD x 0=d.getD (g x) 0) :
  ∃c' d',fQ n a b c d=some (c',d')/\∀x,x<n->c'.getD x 0=d'.getD (g x) 0 :=
 Gn h ha hab _ _ c d hcl hdl (fun i hi=>by omega) (by omega) (by omega) hc
end Go.Sx
