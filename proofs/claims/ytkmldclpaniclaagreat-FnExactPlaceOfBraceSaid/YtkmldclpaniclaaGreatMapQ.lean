/- MapQ -/
import Derived.Test.YtkmldclpaniclaaGreatRack
set_option linter.unusedSimpArgs false
set_option linter.unusedVariables false
open Go Go.Proofs
namespace Go.Sx
def bj:V7->V7->Bool
 |_,[]=>false
 | [],_::_=>true
 |x::a,y::b=>if x=y then bj a b else decide (x<y)
theorem yY:∀a:V7,bj a a=false
 | []=>rfl
 |x::a=>by rw[bj,if_pos rfl];exact yY a
theorem Hj:∀a b:V7,bj a b=false->bj b a=false->a=b
 | [],[],_,_=>rfl
 | [],_::_,h,_=>by simp[bj]at h
 |_::_,[],_,h=>by simp[bj]at h
 |x::a,y::b,h,k=>by
  by_cases e:x=y
  ·subst e
   rw[bj,if_pos rfl]at h k;rw[Hj a b h k]
  ·rw[bj,if_neg e]at h
   rw[bj,if_neg (Ne.symm e)]at k;simp at h k
   omega
theorem yZ:∀a b c:V7,bj a b=true->bj b c=true->bj a c=true
 |_,_,[],_,h=>by cases ‹V7›<;>simp[bj]at h
 |_,[],_::_,h,_=>by cases ‹V7›<;>simp[bj]at h
 | [],_::_,_::_,_,_=>rfl
 |x::a,y::b,z::c,h,k=>by
  rw[bj]at h k⊢;by_cases e:x=y
  ·subst e
   rw[if_pos rfl]at h;by_cases f:x=z
   ·subst f
    rw[if_pos rfl]at k⊢;exact yZ a b c h k
   ·rw[if_neg f]at k⊢
    exact k
  ·rw[if_neg e]at h
   by_cases f:y=z
   ·subst f
    rw[if_neg e];exact h
   ·rw[if_neg f]at k
    simp at h k
    rw[if_neg (by omega)]
    simp;omega
def cK:V8->V7->Nat
 | [],_=>0
 |k::K,m=>if bj k m=true then cK K m+1 else 0
theorem Hk:∀(K:V8) (m:V7),cK K m<=K.length
 | [],_=>Nat.le_refl _
 |k::K,m=>by
  rw[cK];split
  ·exact Nat.succ_le_succ (Hk K m)
  ·exact Nat.zero_le _
theorem y6:∀(K:V8) (m:V7) (i:Nat),(∀j,j<i->bj (K.getD j []) m=true)->i<=K.length->(∀h:i<K.length,bj (K.getD i []) m=false)->cK K m=i
 | [],_,i,_,h,_=>by simp at h;subst h;rfl
 |k::K,m,0,_,_,h=>by
  have:=h (by simp)
  have h2:bj k m=false:=this
  rw[cK,if_neg (by rw[h2];simp)]
 |k::K,m,i+1,a,b,c=>by
  have h0:bj k m=true:=a 0 (by omega)
  rw[cK,if_pos h0,y6 K m i (fun j hj=>a (j+1) (by omega)) (by simpa using b) (fun h=>c (by simpa using h))]
def fH(K:V8)(m:V7):V8 :=
 if cK K m<K.length/\K.getD (cK K m) []=m then K else K.take (cK K m)++m::K.drop (cK K m)
theorem y7(k:V7)(K:V8)(m:V7):fH (k::K) m=if bj k m=true then k::fH K m else if k=m then k::K else m::k::K:=by
 by_cases h:bj k m=true
 ·rw[if_pos h,fH,fH,cK,if_pos h]
  simp only[List.length_cons,List.getD_cons_succ,Nat.add_lt_add_iff_right,List.take_succ_cons,List.drop_succ_cons,List.cons_append];split<;>rfl
 ·rw[if_neg h,fH,cK,if_neg h]
  by_cases e:k=m
  ·simp[e]
  ·simp[e]
theorem y8:∀(K:V8) (m x:V7),x∈fH K m↔x=m\/x∈K
 | [],m,x=>by simp[fH,cK]
 |k::K,m,x=>by
  rw[y7];split
  ·rw[List.mem_cons,y8 K m x,List.mem_cons]
   constructor
   ·rintro(h|h|h)<;>simp[h]
   ·rintro(h|h|h)<;>simp[h]
  ·split
   ·rename_i e
    subst e;simp
   ·simp
theorem Hl:∀(K:V8) (m:V7),(fH K m).length<=K.length+1
 | [],m=>by simp[fH,cK]
 |k::K,m=>by
  rw[y7];have:=Hl K m
  split
  ·simp only[List.length_cons];omega
  ·split<;>simp
def eY(K:V8):Prop:=K.Pairwise fun a b=>bj a b=true
theorem Hm:∀(K:V8) (m:V7),eY K->eY (fH K m)
 | [],m,_=>by simp[fH,cK,eY]
 |k::K,m,h=>by
  rw[y7];obtain⟨h1,h2⟩:=List.pairwise_cons.1 h;split
  ·rename_i e
   exact List.pairwise_cons.2 ⟨fun x hx=>by
    rcases(y8 K m x).1 hx with rfl|hx
    ·exact e
    ·exact h1 x hx,Hm K m h2⟩
  ·rename_i e
   split
   ·exact h
   ·rename_i ne
    have lt:bj m k=true:=by
     cases q:bj m k
     ·exact absurd (Hj k m (by simpa using e) q) ne
     ·rfl
    refine List.pairwise_cons.2 ⟨fun x hx=>?_,h⟩
    rcases List.mem_cons.1 hx with rfl|hx
    ·exact lt
    ·exact yZ _ _ _ lt (h1 x hx)
theorem oJ{K:V8}(h:eY K):K.Nodup:=h.imp fun {a b} hab e=>by
 subst e;rw[yY]at hab;cases hab
def aT(M:V8):Nat->V8
 |0=>[]
 |i+1=>fH (aT M i) (M.getD i [])
def aP(M:V8):V8:=aT M M.length
theorem Hn(M:V8):∀i,eY (aT M i)
 |0=>List.Pairwise.nil
 |i+1=>Hm _ _ (Hn M i)
theorem y9(M:V8):∀i,(aT M i).length<=i
 |0=>Nat.le_refl _
 |i+1=>Nat.le_trans (Hl _ _) (Nat.succ_le_succ (y9 M i))
theorem za(M:V8)(x:V7):∀i,x∈aT M i↔∃j,j<i/\x=M.getD j []
 |0=>by simp[aT]
 |i+1=>by
  rw[aT,y8,za M x i]
  constructor
  ·rintro(h|⟨j,h1,h2⟩)
   ·exact⟨i,by omega,h⟩
   ·exact⟨j,by omega,h2⟩
  ·rintro⟨j,h1,h2⟩
   by_cases e:j=i
   ·subst e;exact .inl h2
   ·exact .inr ⟨j,by omega,h2⟩
def dS:V8->V7->Nat
 | [],_=>0
 |k::K,m=>if k=m then 0 else dS K m+1
theorem jx:∀{K:V8} {m:V7},m∈K->dS K m<K.length/\K.getD (dS K m) []=m
 |k::K,m,h=>by
  rw[dS];split
  ·rename_i e;exact⟨by simp,e⟩
  ·rename_i e
   have:=jx (K:=K) (m:=m) (by rcases List.mem_cons.1 h with rfl|h;exact absurd rfl e;exact h)
   exact⟨by simpa using this.1,by simpa using this.2⟩
theorem oK:∀{K:V8} {m:V7} (i:Nat),(∀j,j<i->K.getD j []≠m)->i<K.length->K.getD i []=m->dS K m=i
 | [],_,i,_,h,_=>by simp at h
 |k::K,m,0,_,_,h=>by
  have:k=m:=h
  rw[dS,if_pos this]
 |k::K,m,i+1,a,b,c=>by
  have h0:k≠m:=a 0 (by omega)
  rw[dS,if_neg h0,oK (K:=K) i (fun j hj=>a (j+1) (by omega)) (by simpa using b) (by simpa using c)]
theorem Ho{K:V8}(h:K.Nodup){i:Nat}(hi:i<K.length):dS K (K.getD i [])=i:=by
 refine oK i (fun j hj e=>?_) hi rfl
 rw[bF K [] j (by omega),bF K [] i hi]at e
 have:=(List.getElem_inj h).1 e
 omega
def aW(M:V8):V7:=M.map fun m=>(dS (aP M) m:Int)
theorem na{M:V8}{x:V7}:x∈aP M↔x∈M:=by
 rw[aP,za]
 constructor
 ·rintro⟨j,h1,rfl⟩;exact bM M [] j h1
 ·intro h
  obtain⟨j,h1,h2⟩:=List.getElem_of_mem h;exact⟨j,h1,by rw[bF M [] j h1];exact h2.symm⟩
theorem Hp(M:V8):(aP M).length<=M.length:=y9 M _
/- Sorting by insertion. -/
def cL(p:V7)(x:Int):Nat->Nat
 |0=>0
 |j+1=>if x<p.getD j 0 then cL p x j else j+1
theorem zb(p:V7)(x:Int):∀j,cL p x j<=j
 |0=>Nat.le_refl _
 |j+1=>by rw[cL];split;exact Nat.le_succ_of_le (zb p x j);exact Nat.le_refl _
theorem Hq(p:V7)(x:Int):∀j i,cL p x j<=i->i<j->x<p.getD i 0
 |0,i,_,h=>by omega
 |j+1,i,h,k=>by
  rw[cL]at h;split at h
  ·rename_i e
   by_cases ei:i=j
   ·subst ei;exact e
   ·exact Hq p x j i h (by omega)
  ·omega
theorem Hr(p:V7)(x:Int):∀j,0<cL p x j->p.getD (cL p x j-1) 0<=x
 |0,h=>by simp[cL]at h
 |j+1,h=>by
  rw[cL]at h⊢;split
  ·rename_i e;rw[if_pos e]at h;exact Hr p x j h
  ·rename_i e;simpa using e
def lB(p:V7)(x:Int):V7:=p.take (cL p x p.length)++x::p.drop (cL p x p.length)
def bX(l:V7):Nat->V7
 |0=>[]
 |i+1=>lB (bX l i) (l.getD i 0)
def kf(l:V7):V7:=bX l l.length
theorem QP(p:V7)(x:Int):(lB p x).length=p.length+1:=by
 have:=zb p x p.length
 simp[lB];omega
theorem sG(l:V7):∀i,(bX l i).length=i
 |0=>rfl
 |i+1=>by rw[bX,QP,sG l i]
theorem QQ(p:V7)(x:Int):(lB p x).Perm (p++[x]):=by
 have h1:(p.take (cL p x p.length)++x::p.drop (cL p x p.length)).Perm (x::(p.take (cL p x p.length)++p.drop (cL p x p.length))):=List.perm_middle
 rw[List.take_append_drop]at h1;exact h1.trans (List.perm_append_comm (l₁:=[x]) (l₂:=p))
theorem Hs(l:V7):∀i,i<=l.length->(bX l i).Perm (l.take i)
 |0,_=>by simp[bX]
 |i+1,h=>by
  rw[bX,<-dF l 0 i (by omega)]
  exact(QQ _ _).trans ((Hs l i (by omega)).append (List.Perm.refl _))
theorem Ht(l:V7):(kf l).Perm l:=by
 have:=Hs l l.length (Nat.le_refl _)
 rwa[List.take_length]at this
theorem QR{p:V7}(h:p.Pairwise (·<=·))(x:Int):(lB p x).Pairwise (·<=·):=by
 have hb:=zb p x p.length
 have hg:∀i j,i<j->j<p.length->p.getD i 0<=p.getD j 0:=fun i j hij hj=>by
  rw[bF p 0 i (by omega),bF p 0 j hj]
  exact List.pairwise_iff_getElem.1 h i j (by omega) hj hij
 have lo:∀a∈p.take (cL p x p.length),a<=x:=fun a ha=>by
  obtain⟨i,hi,rfl⟩:=List.getElem_of_mem ha;rw[List.length_take]at hi;have e:(p.take (cL p x p.length))[i]=p.getD i 0:=by rw[List.getElem_take,bF p 0 i (by omega)]
  rw[e];have:=Hr p x p.length (by omega)
  by_cases q:i=cL p x p.length-1
  ·subst q;exact this
  ·exact Int.le_trans (hg i (cL p x p.length-1) (by omega) (by omega)) this
 have up:∀a∈p.drop (cL p x p.length),x<=a:=fun a ha=>by
  obtain⟨i,hi,rfl⟩:=List.getElem_of_mem ha;rw[List.length_drop]at hi;have e:(p.drop (cL p x p.length))[i]=p.getD (cL p x p.length+i) 0:=by rw[List.getElem_drop,bF p 0 _ (by omega)]
  rw[e];have:=Hq p x p.length (cL p x p.length+i) (by omega) (by omega)
  omega
 rw[lB,List.pairwise_append];refine⟨h.sublist (List.take_sublist _ _),List.pairwise_cons.2 ⟨up,h.sublist (List.drop_sublist _ _)⟩,fun a ha b hb=>?_⟩
 rcases List.mem_cons.1 hb with rfl|hb
 ·exact lo a ha
 ·exact Int.le_trans (lo a ha) (up b hb)
theorem zc(l:V7):∀i,(bX l i).Pairwise (·<=·)
 |0=>List.Pairwise.nil
 |i+1=>QR (zc l i) _
theorem QS{l l':V7}(h:l.Perm l'):kf l=kf l' :=
 List.Perm.eq_of_pairwise (le:=(·<=·)) (fun a b _ _ h1 h2=>Int.le_antisymm h1 h2) (zc l _) (zc l' _) (((Ht l).trans h).trans (Ht l').symm)
/- What tables and colours tell of an element. -/
def gm(t:V8)(x y:Nat):Int :=
 (if en t x y=(y:Int)then 1 else 0)+(if en t y x=(y:Int)then 2 else 0)+(if en t x y=(x:Int)then 4 else 0)+(if en t y x=(x:Int)then 8 else 0)
def fI(t:V8)(c:V7)(x y:Nat):Int :=
 ((c.getD y 0*64+c.getD (en t x y).toNat 0)*64+c.getD (en t y x).toNat 0)*16+gm t x y
def gn(t:V8)(x y:Nat):Nat->Nat
 |0=>0
 |z+1=>if en t y z=(x:Int)then gn t x y z+1 else gn t x y z
def fo(n:Nat)(t:V8)(x y:Nat):Nat:=gn t x y n
def de(n:Nat)(t:V8)(c:V7)(x:Nat):V7 :=
 au n (fI t c x)++au n fun y=>1099511627776+c.getD y 0*64+(fo n t x y:Int)
def bc(n:Nat)(a:V9)(c:V7)(x:Nat):Nat->V7
 |0=>[c.getD x 0]
 |k+1=>bc n a c x k++kf (de n (a.getD k []) c x)
def bY(n:Nat)(a:V9)(c:V7)(x:Nat):V7:=bc n a c x a.length
theorem zd(n:Nat)(a:V9)(c:V7)(x:Nat):∀k,(bc n a c x k).getD 0 0=c.getD x 0/\0<(bc n a c x k).length
 |0=>by simp[bc]
 |k+1=>by
  have:=zd n a c x k
  rw[bc];exact⟨by rw[getD_append_left' _ _ _ _ this.2];exact this.1,by simp;omega⟩
def ay(n:Nat)(t:V8):Prop:=t.length=n/\∀x,x<n->(t.getD x []).length=n/\∀y,y<n->0<=en t x y/\en t x y<(n:Int)
def bt(n:Nat)(a:V9):Prop:=∀k,k<a.length->ay n (a.getD k [])
structure IsoG (n:Nat) (a b:V9) (g:Nat->Nat):Prop where
 lt:∀x,x<n->g x<n
 inj:∀x y,x<n->y<n->g x=g y->x=y
 map:∀k x y,k<a.length->x<n->y<n->en (b.getD k []) (g x) (g y)=(g (en (a.getD k []) x y).toNat:Int)
theorem sH{n:Nat}{g:Nat->Nat}(lt:∀x,x<n->g x<n)(inj:∀x y,x<n->y<n->g x=g y->x=y):((List.range n).map g).Perm (List.range n):=by
 have nd:((List.range n).map g).Nodup:=by
  rw[List.Nodup,List.pairwise_map];exact List.nodup_range.imp_of_mem fun {x y} hx hy hne e=>hne (inj x y (List.mem_range.1 hx) (List.mem_range.1 hy) e)
 refine(List.perm_ext_iff_of_nodup nd List.nodup_range).2 fun y=>⟨fun h=>?_,fun h=>?_⟩
 ·obtain⟨x,hx,rfl⟩:=List.mem_map.1 h
  exact List.mem_range.2 (lt x (List.mem_range.1 hx))
 ·refine Classical.byContradiction fun hn=>?_
  have h1:(y::(List.range n).map g).Nodup:=List.nodup_cons.2 ⟨hn,nd⟩
  have h2:=List.Nodup.length_le_of_subset h1 (l₂:=List.range n) (fun z hz=>by
   rcases List.mem_cons.1 hz with rfl|hz
   ·exact h
   ·obtain⟨x,hx,rfl⟩:=List.mem_map.1 hz
    exact List.mem_range.2 (lt x (List.mem_range.1 hx)))
  simp at h2
  omega
theorem Hu{n:Nat}{g:Nat->Nat}(lt:∀x,x<n->g x<n)(inj:∀x y,x<n->y<n->g x=g y->x=y)(F:Nat->Int):(au n fun y=>F (g y)).Perm (au n F):=by
 have:=(sH lt inj).map F
 rwa[List.map_map]at this
theorem ze(t:V8)(x y:Nat):∀n,gn t x y n=(List.range n).countP fun z=>decide (en t y z=(x:Int))
 |0=>rfl
 |n+1=>by
  rw[gn,ze t x y n,List.range_succ,List.countP_append];by_cases h:en t y n=(x:Int)<;>simp[h]
theorem oL{n:Nat}{g:Nat->Nat}(inj:∀x y,x<n->y<n->g x=g y->x=y){u:Int}(h0:0<=u)(h1:u<(n:Int)){y:Nat}(hy:y<n):((g u.toNat:Nat):Int)=(g y:Int)↔u=(y:Int):=by
 constructor
 ·intro e
  have:=inj u.toNat y (by omega) hy (by omega)
  omega
 ·intro e;rw[show u.toNat=y by omega]
section
variable {n:Nat} {a b:V9} {g:Nat->Nat}
theorem QT(h:IsoG n a b g)(ha:bt n a){k:Nat}(hk:k<a.length){x y:Nat}(hx:x<n)(hy:y<n):gm (b.getD k []) (g x) (g y)=gm (a.getD k []) x y:=by
 have hu:=((ha k hk).2 x hx).2 y hy
 have hv:=((ha k hk).2 y hy).2 x hx
 have e1:=h.map k x y hk hx hy
 have e2:=h.map k y x hk hy hx
 simp only[gm,e1,e2,oL h.inj hu.1 hu.2 hx,oL h.inj hu.1 hu.2 hy,oL h.inj hv.1 hv.2 hx,oL h.inj hv.1 hv.2 hy]
theorem QU(h:IsoG n a b g)(ha:bt n a){c d:V7}(hc:∀x,x<n->c.getD x 0=d.getD (g x) 0){k:Nat}(hk:k<a.length){x y:Nat}(hx:x<n)(hy:y<n) :
  fI (b.getD k []) d (g x) (g y)=fI (a.getD k []) c x y:=by
 have hu:=((ha k hk).2 x hx).2 y hy
 have hv:=((ha k hk).2 y hy).2 x hx
 rw[fI,fI,QT h ha hk hx hy,h.map k x y hk hx hy,h.map k y x hk hy hx,Int.toNat_natCast,Int.toNat_natCast,<-hc y hy,<-hc _ (by omega),<-hc _ (by omega)]
theorem QV(h:IsoG n a b g)(ha:bt n a){k:Nat}(hk:k<a.length){x y:Nat}(hx:x<n)(hy:y<n):fo n (b.getD k []) (g x) (g y)=fo n (a.getD k []) x y:=by
 rw[fo,fo,ze,ze,<-(sH h.lt h.inj).countP_eq,List.countP_map];refine List.countP_congr fun z hz=>?_
 have hz:=List.mem_range.1 hz
 have hu:=((ha k hk).2 y hy).2 z hz
 simp only[Function.comp,decide_eq_true_eq];rw[h.map k y z hk hy hz,oL h.inj hu.1 hu.2 hx]
theorem QW(h:IsoG n a b g)(ha:bt n a){c d:V7}(hc:∀x,x<n->c.getD x 0=d.getD (g x) 0){k:Nat}(hk:k<a.length){x:Nat}(hx:x<n) :
  kf (de n (b.getD k []) d (g x))=kf (de n (a.getD k []) c x):=by
 refine QS ?_
 rw[de,de];refine List.Perm.append ((Hu h.lt h.inj _).symm.trans ?_) ((Hu h.lt h.inj _).symm.trans ?_)
 ·rw[mG fun y hy=>QU h ha hc hk hx hy]
 ·rw[mG fun y hy=>by rw[QV h ha hk hx hy,<-hc y hy]]
theorem Hv(h:IsoG n a b g)(ha:bt n a){c d:V7}(hc:∀x,x<n->c.getD x 0=d.getD (g x) 0){x:Nat}(hx:x<n):∀k,k<=a.length->bc n b d (g x) k=bc n a c x k
 |0,_=>by rw[bc,bc,hc x hx]
 |k+1,hk=>by rw[bc,bc,Hv h ha hc hx k (by omega),QW h ha hc (by omega) hx]
theorem QX(h:IsoG n a b g)(ha:bt n a)(hab:b.length=a.length){c d:V7}(hc:∀x,x<n->c.getD x 0=d.getD (g x) 0){x:Nat}(hx:x<n):bY n b d (g x)=bY n a c x:=by
 rw[bY,bY,hab];exact Hv h ha hc hx _ (Nat.le_refl _)
end
def az(n:Nat)(a b:V9)(c d:V7):V8:=(List.range n).map (bY n a c)++(List.range n).map (bY n b d)
def bV(n:Nat)(cl:V7)(m:Nat):Nat->V7
 |0=>List.replicate m 0
 |i+1=>(bV n cl m i).set (cl.getD i 0).toNat ((bV n cl m i).getD (cl.getD i 0).toNat 0+if i<n then 1 else -1)
def jy(n:Nat)(M:V8):Bool:=(bV n (aW M) (aP M).length M.length).all fun x=>decide (x=0)
def lC(n:Nat)(a b:V9)(c d:V7):Option (V7×V7×Nat) :=
 let M:=az n a b c d
 if jy n M=true then some ((aW M).take n,(aW M).drop n,(aP M).length)else none
def gp(n:Nat)(a b:V9):Nat->Nat->V7->V7->Option (V7×V7)
 |0,_,_,_=>none
 |fuel+1,num,c,d=>match lC n a b c d with
  |none=>none
  |some (c',d',m)=>if m=num then some (c',d')else gp n a b fuel m c' d'
theorem oM(n:Nat)(a b:V9)(c d:V7):(az n a b c d).length=2*n:=by simp[az];omega
theorem Hw(n:Nat)(a b:V9)(c d:V7){x:Nat}(h:x<n):(az n a b c d).getD x []=bY n a c x:=by
 rw[az,getD_append_left' _ _ _ _ (by simpa using h)];simp[List.getD_eq_getElem?_getD,h]
theorem Hx(n:Nat)(a b:V9)(c d:V7){x:Nat}(h:x<n):(az n a b c d).getD (n+x) []=bY n b d x:=by
 rw[az,getD_append_right' _ _ _ _ (by simp)];simp[List.getD_eq_getElem?_getD,h]
theorem nc(M:V8):(aW M).length=M.length:=by simp[aW]
theorem oN(M:V8){i:Nat}(h:i<M.length):(aW M).getD i 0=(dS (aP M) (M.getD i []):Int):=by
 rw[aW,mF M _ [] 0 i h]
theorem zf(M:V8){i:Nat}(h:i<M.length):0<=(aW M).getD i 0/\(aW M).getD i 0<((aP M).length:Int):=by
 rw[oN M h];have:=(jx (na.2 (bM M [] i h))).1
 omega
def lD(c d:V7)(m:Nat):Prop:=∀i,i<m->(i:Int)∈c++d
theorem zg{n:Nat}{a b:V9}{c d c' d':V7}{m:Nat}(h:lC n a b c d=some (c',d',m)) :
  c'.length=n/\d'.length=n/\m<=2*n/\lD c' d' m/\(∀x,x<n->0<=c'.getD x 0/\c'.getD x 0<(m:Int))/\∀x,x<n->0<=d'.getD x 0/\d'.getD x 0<(m:Int):=by
 unfold lC at h;dsimp only at h;split at h
 ·cases h
  have L:=oM n a b c d
  refine⟨by rw[List.length_take,nc,L];omega,by rw[List.length_drop,nc,L];omega,by have:=Hp (az n a b c d);omega,fun i hi=>?_,fun x hx=>?_,fun x hx=>?_⟩
  ·rw[List.take_append_drop]
   have h1:(aP (az n a b c d)).getD i []∈az n a b c d:=na.1 (bM _ _ _ hi)
   obtain⟨j,hj,e⟩:=List.getElem_of_mem h1;have h2:=oN _ hj
   rw[bF _ [] j hj,e,Ho (K:=aP (az n a b c d)) (oJ (Hn _ _)) hi]at h2;rw[<-h2];exact bM _ _ _ (by rw[nc];exact hj)
  ·rw[oq _ _ _ _ hx]
   exact zf _ (by omega)
  ·rw[L9]
   exact zf _ (by omega)
 ·cases h
theorem QY:∀(m:Nat) (l:V7),(∀i:Nat,i<m->(i:Int)∈l)->m<=l.length:=fun m l h=>by
 have:=lL (AO m) (b:=l) fun x hx=>by
  obtain⟨h0,h1⟩:=nu.1 hx;have:=h x.toNat (by omega)
  rwa[Int.toNat_of_nonneg h0]at this
 simpa[ints]using this
theorem Hy{n:Nat}{a b:V9}{c d:V7}{num:Nat}(hc:c.length=n)(hd:d.length=n)(h:lD c d num):num<=(aP (az n a b c d)).length:=by
 have:=QY num ((aP (az n a b c d)).map fun m=>m.getD 0 0) fun i hi=>by
  rcases List.mem_append.1 (h i hi)with q|q
  ·obtain⟨x,hx,e⟩:=List.getElem_of_mem q
   refine List.mem_map.2 ⟨bY n a c x,na.2 ?_,?_⟩
   ·rw[<-Hw n a b c d (by omega)];exact bM _ _ _ (by rw[oM];omega)
   ·rw[bY,(zd n a c x _).1,bF c 0 x hx,e]
  ·obtain⟨x,hx,e⟩:=List.getElem_of_mem q
   refine List.mem_map.2 ⟨bY n b d x,na.2 ?_,?_⟩
   ·rw[<-Hx n a b c d (by omega)];exact bM _ _ _ (by rw[oM];omega)
   ·rw[bY,(zd n b d x _).1,bF d 0 x hx,e]
 simpa using this
/- Counting. -/
theorem jz(n:Nat)(cl:V7)(m:Nat):∀i,(bV n cl m i).length=m
 |0=>by simp[bV]
 |i+1=>by rw[bV,List.length_set,jz n cl m i]
theorem Hz(n:Nat)(cl:V7)(m:Nat)(hcl:∀i,i<cl.length->0<=cl.getD i 0/\cl.getD i 0<(m:Int)){q:Nat}(hq:q<m):∀i,i<=cl.length ->
  (bV n cl m i).getD q 0=((List.range i).countP fun j=>decide (cl.getD j 0=(q:Int))&&decide (j<n):Nat)-(((List.range i).countP fun j=>decide (cl.getD j 0=(q:Int))&&!decide (j<n):Nat):Int)
 |0,_=>by simp[bV,List.getD_eq_getElem?_getD,hq]
 |i+1,hi=>by
  have ih:=Hz n cl m hcl hq i (by omega)
  have hr:=hcl i (by omega)
  rw[bV,hZ _ _ _ _ (by rw[jz];exact hq),List.range_succ,List.countP_append,List.countP_append]
  by_cases e:cl.getD i 0=(q:Int)
  ·rw[if_pos (by omega)]
   have:(cl.getD i 0).toNat=q:=by omega
   rw[this,ih];by_cases hn:i<n
   ·simp only[List.countP_cons,List.countP_nil,e,hn,if_true,decide_true,Bool.and_true,Bool.not_true,Bool.and_false,if_false,Bool.false_eq_true];omega
   ·simp only[List.countP_cons,List.countP_nil,e,hn,if_true,decide_true,decide_false,Bool.not_false,Bool.and_true,Bool.not_true,Bool.and_false,if_false,Bool.false_eq_true];omega
  ·rw[if_neg (by omega),ih]
   simp only[List.countP_cons,List.countP_nil,e,decide_false,Bool.false_and,Bool.false_eq_true,if_false,Nat.add_zero,Nat.zero_add]
theorem QZ{n:Nat}{a b:V9}{g:Nat->Nat}(h:IsoG n a b g)(ha:bt n a)(hab:b.length=a.length){c d:V7}(hc:∀x,x<n->c.getD x 0=d.getD (g x) 0) :
  jy n (az n a b c d)=true/\∀x,x<n->((aW (az n a b c d)).take n).getD x 0=((aW (az n a b c d)).drop n).getD (g x) 0:=by
 have L:=oM n a b c d
 have key:∀x,x<n->(aW (az n a b c d)).getD x 0=(aW (az n a b c d)).getD (n+g x) 0:=fun x hx=>by
  rw[oN _ (by omega),oN _ (by have:=h.lt x hx;omega),Hw n a b c d hx,Hx n a b c d (h.lt x hx),QX h ha hab hc hx]
 refine⟨?_,fun x hx=>?_⟩
 ·rw[jy,List.all_eq_true]
  intro v hv
  obtain⟨q,hq,rfl⟩:=List.getElem_of_mem hv;rw[jz]at hq;rw[<-bF _ 0 q (by rw[jz];exact hq),decide_eq_true_eq]
  have:=Hz n (aW (az n a b c d)) (aP (az n a b c d)).length (fun i hi=>zf _ (by rwa[nc]at hi)) hq (az n a b c d).length (by rw[nc];exact Nat.le_refl _)
  rw[this,L,show 2*n=n+n by omega,List.range_add,List.countP_append,List.countP_append,List.countP_map,List.countP_map]
  have z1:(List.range n).countP (((fun j=>decide ((aW (az n a b c d)).getD j 0=(q:Int))&&decide (j<n))) ∘ fun x=>n+x)=0:=by
   rw[List.countP_eq_zero];intro x hx;simp
  have z2:(List.range n).countP (fun j=>decide ((aW (az n a b c d)).getD j 0=(q:Int))&&!decide (j<n))=0:=by
   rw[List.countP_eq_zero];intro x hx;have:=List.mem_range.1 hx;simp;omega
  have z3:(List.range n).countP (((fun j=>decide ((aW (az n a b c d)).getD j 0=(q:Int))&&!decide (j<n))) ∘ fun x=>n+x)=(List.range n).countP (fun j=>decide ((aW (az n a b c d)).getD j 0=(q:Int))&&decide (j<n)):=by
   rw[<-(sH h.lt h.inj).countP_eq,List.countP_map];refine List.countP_congr fun x hx=>?_
   have hx:=List.mem_range.1 hx
   have k2:=key x hx
   simp only[Function.comp,hx,decide_true,Bool.and_true,decide_eq_true_eq,Bool.and_eq_true,<-k2,Bool.not_eq_true',decide_eq_false_iff_not,Nat.not_lt,Nat.le_add_right,and_true]
  rw[z1,z2,z3];omega
 ·rw[oq _ _ _ _ hx,L9];exact key x hx
theorem Q0{n:Nat}{a b:V9}{g:Nat->Nat}(h:IsoG n a b g)(ha:bt n a)(hab:b.length=a.length){c d:V7}(hc:∀x,x<n->c.getD x 0=d.getD (g x) 0) :
  ∃c' d' m,lC n a b c d=some (c',d',m)/\∀x,x<n->c'.getD x 0=d'.getD (g x) 0:=by
 obtain⟨h1,h2⟩:=QZ h ha hab hc;exact⟨_,_,_,by unfold lC;dsimp only;rw[if_pos h1],h2⟩
theorem HA{n:Nat}{a b:V9}{g:Nat->Nat}(h:IsoG n a b g)(ha:bt n a)(hab:b.length=a.length):∀(fuel num:Nat) (c d:V7),c.length=n->d.length=n->lD c d num->2*n<fuel+num->num<=2*n ->
  (∀x,x<n->c.getD x 0=d.getD (g x) 0)->∃c' d',gp n a b fuel num c d=some (c',d')/\∀x,x<n->c'.getD x 0=d'.getD (g x) 0
 |0,num,c,d,_,_,_,h1,h2,_=>by omega
 |fuel+1,num,c,d,hcl,hdl,hcov,h1,h2,hc=>by
  obtain⟨c',d',m,e,hc'⟩:=Q0 h ha hab hc;obtain⟨l1,l2,l3,l4,_⟩:=zg e;rw[gp,e];simp only;by_cases hm:m=num
  ·rw[if_pos hm];exact⟨c',d',rfl,hc'⟩
  ·rw[if_neg hm]
   have hle:num<=m:=by
    have:=Hy (n:=n) (a:=a) (b:=b) hcl hdl hcov
    unfold lC at e;dsimp only at e;split at e
    ·cases e;exact this
    ·cases e
   exact HA h ha hab fuel m c' d' l1 l2 l4 (by omega) l3 hc'
def fY(n:Nat)(a b:V9)(c d:V7):Option (V7×V7):=gp n a b (2*n+1) 0 c d
theorem sI{n:Nat}{a b:V9}{g:Nat->Nat}(h:IsoG n a b g)(ha:bt n a)(hab:b.length=a.length){c d:V7}(hcl:c.length=n)(hdl:d.length=n)(hc:∀x,x<n->c.getD x 0=d.getD (g x) 0) :
  ∃c' d',fY n a b c d=some (c',d')/\∀x,x<n->c'.getD x 0=d'.getD (g x) 0 :=
 HA h ha hab _ _ c d hcl hdl (fun i hi=>by omega) (by omega) (by omega) hc
end Go.Sx
