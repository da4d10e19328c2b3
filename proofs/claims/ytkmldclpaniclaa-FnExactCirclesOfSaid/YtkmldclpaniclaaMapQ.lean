/- MapQ -/
import Derived.Test.YtkmldclpaniclaaRack
open Go Go.Proofs
namespace Go.Sx
set_option linter.unusedSimpArgs false
set_option linter.unusedVariables false
def aW:List Int→List Int→Bool
 | _,[]=>false
 | [],_::_=>true
 | x::a,y::b=>if x=y then aW a b else decide (x<y)
theorem wA:∀a:List Int,aW a a=false
 | []=>rfl
 | x::a=>by rw [aW,if_pos rfl];exact wA a
theorem Dw:∀a b:List Int,aW a b=false→aW b a=false→a=b
 | [],[],_,_=>rfl
 | [],_::_,h,_=>by simp [aW] at h
 | _::_,[],_,h=>by simp [aW] at h
 | x::a,y::b,h,k=>by
  by_cases e:x=y
  ·subst e
   rw [aW,if_pos rfl] at h k;rw [Dw a b h k]
  ·rw [aW,if_neg e] at h
   rw [aW,if_neg (Ne.symm e)] at k;simp at h k
   omega
theorem wB:∀a b c:List Int,aW a b=true→aW b c=true→aW a c=true
 | _,_,[],_,h=>by cases ‹List Int› <;> simp [aW] at h
 | _,[],_::_,h,_=>by cases ‹List Int› <;> simp [aW] at h
 | [],_::_,_::_,_,_=>rfl
 | x::a,y::b,z::c,h,k=>by
  rw [aW] at h k ⊢;by_cases e:x=y
  ·subst e
   rw [if_pos rfl] at h;by_cases f:x=z
   ·subst f
    rw [if_pos rfl] at k ⊢;exact wB a b c h k
   ·rw [if_neg f] at k ⊢
    exact k
  ·rw [if_neg e] at h
   by_cases f:y=z
   ·subst f
    rw [if_neg e];exact h
   ·rw [if_neg f] at k
    simp at h k
    rw [if_neg (by omega)]
    simp;omega
def cn:List (List Int)→List Int→Nat
 | [],_=>0
 | k::K,m=>if aW k m=true then cn K m+1 else 0
theorem Dx:∀(K:List (List Int)) (m:List Int),cn K m≤K.length
 | [],_=>Nat.le_refl _
 | k::K,m=>by
  rw [cn];split
  ·exact Nat.succ_le_succ (Dx K m)
  ·exact Nat.zero_le _
theorem wD:∀(K:List (List Int)) (m:List Int) (i:Nat),(∀j,j<i→aW (K.getD j []) m=true)→i≤K.length→(∀h:i<K.length,aW (K.getD i []) m=false)→cn K m=i
 | [],_,i,_,h,_=>by simp at h;subst h;rfl
 | k::K,m,0,_,_,h=>by
  have:=h (by simp)
  have h2:aW k m=false:=this
  rw [cn,if_neg (by rw [h2];simp)]
 | k::K,m,i+1,a,b,c=>by
  have h0:aW k m=true:=a 0 (by omega)
  rw [cn,if_pos h0,wD K m i (fun j hj=>a (j+1) (by omega)) (by simpa using b) (fun h=>c (by simpa using h))]
def eR (K:List (List Int)) (m:List Int):List (List Int) :=
 if cn K m<K.length∧K.getD (cn K m) []=m then K else K.take (cn K m)++m::K.drop (cn K m)
theorem wE (k:List Int) (K:List (List Int)) (m:List Int):eR (k::K) m=if aW k m=true then k::eR K m else if k=m then k::K else m::k::K:=by
 by_cases h:aW k m=true
 ·rw [if_pos h,eR,eR,cn,if_pos h]
  simp only [List.length_cons,List.getD_cons_succ,Nat.add_lt_add_iff_right,List.take_succ_cons,List.drop_succ_cons,List.cons_append];split <;> rfl
 ·rw [if_neg h,eR,cn,if_neg h]
  by_cases e:k=m
  ·simp [e]
  ·simp [e]
theorem wI:∀(K:List (List Int)) (m x:List Int),x∈eR K m↔x=m∨x∈K
 | [],m,x=>by simp [eR,cn]
 | k::K,m,x=>by
  rw [wE];split
  ·rw [List.mem_cons,wI K m x,List.mem_cons]
   constructor
   ·rintro (h | h | h) <;> simp [h]
   ·rintro (h | h | h) <;> simp [h]
  ·split
   ·rename_i e
    subst e;simp
   ·simp
theorem Dy:∀(K:List (List Int)) (m:List Int),(eR K m).length≤K.length+1
 | [],m=>by simp [eR,cn]
 | k::K,m=>by
  rw [wE];have:=Dy K m
  split
  ·simp only [List.length_cons];omega
  ·split <;> simp
def ec (K:List (List Int)):Prop:=K.Pairwise fun a b=>aW a b=true
theorem Dz:∀(K:List (List Int)) (m:List Int),ec K→ec (eR K m)
 | [],m,_=>by simp [eR,cn,ec]
 | k::K,m,h=>by
  rw [wE];obtain ⟨h1,h2⟩:=List.pairwise_cons.1 h;split
  ·rename_i e
   exact List.pairwise_cons.2 ⟨fun x hx=>by
    rcases (wI K m x).1 hx with rfl | hx
    ·exact e
    ·exact h1 x hx,Dz K m h2⟩
  ·rename_i e
   split
   ·exact h
   ·rename_i ne
    have lt:aW m k=true:=by
     cases q:aW m k
     ·exact absurd (Dw k m (by simpa using e) q) ne
     ·rfl
    refine List.pairwise_cons.2 ⟨fun x hx=>?_,h⟩
    rcases List.mem_cons.1 hx with rfl | hx
    ·exact lt
    ·exact wB _ _ _ lt (h1 x hx)
theorem na {K:List (List Int)} (h:ec K):K.Nodup:=h.imp fun {a b} hab e=>by
 subst e;rw [wA] at hab;cases hab
def aF (M:List (List Int)):Nat→List (List Int)
 | 0=>[]
 | i+1=>eR (aF M i) (M.getD i [])
def aD (M:List (List Int)):List (List Int):=aF M M.length
theorem DA (M:List (List Int)):∀i,ec (aF M i)
 | 0=>List.Pairwise.nil
 | i+1=>Dz _ _ (DA M i)
theorem wJ (M:List (List Int)):∀i,(aF M i).length≤i
 | 0=>Nat.le_refl _
 | i+1=>Nat.le_trans (Dy _ _) (Nat.succ_le_succ (wJ M i))
theorem wK (M:List (List Int)) (x:List Int):∀i,x∈aF M i↔∃j,j<i∧x=M.getD j []
 | 0=>by simp [aF]
 | i+1=>by
  rw [aF,wI,wK M x i]
  constructor
  ·rintro (h | ⟨j,h1,h2⟩)
   ·exact ⟨i,by omega,h⟩
   ·exact ⟨j,by omega,h2⟩
  ·rintro ⟨j,h1,h2⟩
   by_cases e:j=i
   ·subst e;exact .inl h2
   ·exact .inr ⟨j,by omega,h2⟩
def du:List (List Int)→List Int→Nat
 | [],_=>0
 | k::K,m=>if k=m then 0 else du K m+1
theorem iL:∀{K:List (List Int)} {m:List Int},m∈K→du K m<K.length∧K.getD (du K m) []=m
 | k::K,m,h=>by
  rw [du];split
  ·rename_i e;exact ⟨by simp,e⟩
  ·rename_i e
   have:=iL (K:=K) (m:=m) (by rcases List.mem_cons.1 h with rfl | h;exact absurd rfl e;exact h)
   exact ⟨by simpa using this.1,by simpa using this.2⟩
theorem nc:∀{K:List (List Int)} {m:List Int} (i:Nat),(∀j,j<i→K.getD j []≠m)→i<K.length→K.getD i []=m→du K m=i
 | [],_,i,_,h,_=>by simp at h
 | k::K,m,0,_,_,h=>by
  have:k=m:=h
  rw [du,if_pos this]
 | k::K,m,i+1,a,b,c=>by
  have h0:k≠m:=a 0 (by omega)
  rw [du,if_neg h0,nc (K:=K) i (fun j hj=>a (j+1) (by omega)) (by simpa using b) (by simpa using c)]
theorem DB {K:List (List Int)} (h:K.Nodup) {i:Nat} (hi:i<K.length):du K (K.getD i [])=i:=by
 refine nc i (fun j hj e=>?_) hi rfl
 rw [bU K [] j (by omega),bU K [] i hi] at e
 have:=(List.getElem_inj h).1 e
 omega
def aK (M:List (List Int)):List Int:=M.map fun m=>(du (aD M) m:Int)
theorem lL {M:List (List Int)} {x:List Int}:x∈aD M↔x∈M:=by
 rw [aD,wK]
 constructor
 ·rintro ⟨j,h1,rfl⟩;exact bN M [] j h1
 ·intro h
  obtain ⟨j,h1,h2⟩:=List.getElem_of_mem h;exact ⟨j,h1,by rw [bU M [] j h1];exact h2.symm⟩
theorem DC (M:List (List Int)):(aD M).length≤M.length:=wJ M _
/- Sorting by insertion. -/
def co (p:List Int) (x:Int):Nat→Nat
 | 0=>0
 | j+1=>if x<p.getD j 0 then co p x j else j+1
theorem wL (p:List Int) (x:Int):∀j,co p x j≤j
 | 0=>Nat.le_refl _
 | j+1=>by rw [co];split;exact Nat.le_succ_of_le (wL p x j);exact Nat.le_refl _
theorem DD (p:List Int) (x:Int):∀j i,co p x j≤i→i<j→x<p.getD i 0
 | 0,i,_,h=>by omega
 | j+1,i,h,k=>by
  rw [co] at h;split at h
  ·rename_i e
   by_cases ei:i=j
   ·subst ei;exact e
   ·exact DD p x j i h (by omega)
  ·omega
theorem DE (p:List Int) (x:Int):∀j,0<co p x j→p.getD (co p x j - 1) 0≤x
 | 0,h=>by simp [co] at h
 | j+1,h=>by
  rw [co] at h ⊢;split
  ·rename_i e;rw [if_pos e] at h;exact DE p x j h
  ·rename_i e;simpa using e
def jY (p:List Int) (x:Int):List Int:=p.take (co p x p.length)++x::p.drop (co p x p.length)
def bH (l:List Int):Nat→List Int
 | 0=>[]
 | i+1=>jY (bH l i) (l.getD i 0)
def jj (l:List Int):List Int:=bH l l.length
theorem Lf (p:List Int) (x:Int):(jY p x).length=p.length+1:=by
 have:=wL p x p.length
 simp [jY];omega
theorem qv (l:List Int):∀i,(bH l i).length=i
 | 0=>rfl
 | i+1=>by rw [bH,Lf,qv l i]
theorem Lg (p:List Int) (x:Int):(jY p x).Perm (p++[x]):=by
 have h1:(p.take (co p x p.length)++x::p.drop (co p x p.length)).Perm (x::(p.take (co p x p.length)++p.drop (co p x p.length))):=List.perm_middle
 rw [List.take_append_drop] at h1;exact h1.trans (List.perm_append_comm (l₁:=[x]) (l₂:=p))
theorem DF (l:List Int):∀i,i≤l.length→(bH l i).Perm (l.take i)
 | 0,_=>by simp [bH]
 | i+1,h=>by
  rw [bH,←dK l 0 i (by omega)]
  exact (Lg _ _).trans ((DF l i (by omega)).append (List.Perm.refl _))
theorem DG (l:List Int):(jj l).Perm l:=by
 have:=DF l l.length (Nat.le_refl _)
 rwa [List.take_length] at this
theorem Lh {p:List Int} (h:p.Pairwise (·≤·)) (x:Int):(jY p x).Pairwise (·≤·):=by
 have hb:=wL p x p.length
 have hg:∀i j,i<j→j<p.length→p.getD i 0≤p.getD j 0:=fun i j hij hj=>by
  rw [bU p 0 i (by omega),bU p 0 j hj]
  exact List.pairwise_iff_getElem.1 h i j (by omega) hj hij
 have lo:∀a∈p.take (co p x p.length),a≤x:=fun a ha=>by
  obtain ⟨i,hi,rfl⟩:=List.getElem_of_mem ha;rw [List.length_take] at hi;have e:(p.take (co p x p.length))[i]=p.getD i 0:=by rw [List.getElem_take,bU p 0 i (by omega)]
  rw [e];have:=DE p x p.length (by omega)
  by_cases q:i=co p x p.length - 1
  ·subst q;exact this
  ·exact Int.le_trans (hg i (co p x p.length - 1) (by omega) (by omega)) this
 have up:∀a∈p.drop (co p x p.length),x≤a:=fun a ha=>by
  obtain ⟨i,hi,rfl⟩:=List.getElem_of_mem ha;rw [List.length_drop] at hi;have e:(p.drop (co p x p.length))[i]=p.getD (co p x p.length+i) 0:=by rw [List.getElem_drop,bU p 0 _ (by omega)]
  rw [e];have:=DD p x p.length (co p x p.length+i) (by omega) (by omega)
  omega
 rw [jY,List.pairwise_append];refine ⟨h.sublist (List.take_sublist _ _),List.pairwise_cons.2 ⟨up,h.sublist (List.drop_sublist _ _)⟩,fun a ha b hb=>?_⟩
 rcases List.mem_cons.1 hb with rfl | hb
 ·exact lo a ha
 ·exact Int.le_trans (lo a ha) (up b hb)
theorem wM (l:List Int):∀i,(bH l i).Pairwise (·≤·)
 | 0=>List.Pairwise.nil
 | i+1=>Lh (wM l i) _
theorem Li {l l':List Int} (h:l.Perm l'):jj l=jj l' :=
 List.Perm.eq_of_pairwise (le:=(·≤·)) (fun a b _ _ h1 h2=>Int.le_antisymm h1 h2) (wM l _) (wM l' _) (((DG l).trans h).trans (DG l').symm)
/- What tables and colours tell of an element. -/
def fF (t:List (List Int)) (x y:Nat):Int :=
 (if en t x y=(y:Int) then 1 else 0)+(if en t y x=(y:Int) then 2 else 0)+(if en t x y=(x:Int) then 4 else 0)+(if en t y x=(x:Int) then 8 else 0)
def eS (t:List (List Int)) (c:List Int) (x y:Nat):Int :=
 ((c.getD y 0 * 64+c.getD (en t x y).toNat 0) * 64+c.getD (en t y x).toNat 0) * 16+fF t x y
def fG (t:List (List Int)) (x y:Nat):Nat→Nat
 | 0=>0
 | z+1=>if en t y z=(x:Int) then fG t x y z+1 else fG t x y z
def eC (n:Nat) (t:List (List Int)) (x y:Nat):Nat:=fG t x y n
def cO (n:Nat) (t:List (List Int)) (c:List Int) (x:Nat):List Int :=
 aE n (eS t c x)++aE n fun y=>1099511627776+c.getD y 0 * 64+(eC n t x y:Int)
def aO (n:Nat) (a:List (List (List Int))) (c:List Int) (x:Nat):Nat→List Int
 | 0=>[c.getD x 0]
 | k+1=>aO n a c x k++jj (cO n (a.getD k []) c x)
def bI (n:Nat) (a:List (List (List Int))) (c:List Int) (x:Nat):List Int:=aO n a c x a.length
theorem wN (n:Nat) (a:List (List (List Int))) (c:List Int) (x:Nat):∀k,(aO n a c x k).getD 0 0=c.getD x 0∧0<(aO n a c x k).length
 | 0=>by simp [aO]
 | k+1=>by
  have:=wN n a c x k
  rw [aO];exact ⟨by rw [getD_append_left' _ _ _ _ this.2];exact this.1,by simp;omega⟩
def bi (n:Nat) (t:List (List Int)):Prop:=t.length=n∧∀x,x<n→(t.getD x []).length=n∧∀y,y<n→0≤en t x y∧en t x y<(n:Int)
def bn (n:Nat) (a:List (List (List Int))):Prop:=∀k,k<a.length→bi n (a.getD k [])
structure IsoG (n:Nat) (a b:List (List (List Int))) (g:Nat→Nat):Prop where
 lt:∀x,x<n→g x<n
 inj:∀x y,x<n→y<n→g x=g y→x=y
 map:∀k x y,k<a.length→x<n→y<n→en (b.getD k []) (g x) (g y)=(g (en (a.getD k []) x y).toNat:Int)
theorem wO {n:Nat} {g:Nat→Nat} (lt:∀x,x<n→g x<n) (inj:∀x y,x<n→y<n→g x=g y→x=y):((List.range n).map g).Perm (List.range n):=by
 have nd:((List.range n).map g).Nodup:=by
  rw [List.Nodup,List.pairwise_map];exact List.nodup_range.imp_of_mem fun {x y} hx hy hne e=>hne (inj x y (List.mem_range.1 hx) (List.mem_range.1 hy) e)
 refine (List.perm_ext_iff_of_nodup nd List.nodup_range).2 fun y=>⟨fun h=>?_,fun h=>?_⟩
 ·obtain ⟨x,hx,rfl⟩:=List.mem_map.1 h
  exact List.mem_range.2 (lt x (List.mem_range.1 hx))
 ·refine Classical.byContradiction fun hn=>?_
  have h1:(y::(List.range n).map g).Nodup:=List.nodup_cons.2 ⟨hn,nd⟩
  have h2:=List.Nodup.length_le_of_subset h1 (l₂:=List.range n) (fun z hz=>by
   rcases List.mem_cons.1 hz with rfl | hz
   ·exact h
   ·obtain ⟨x,hx,rfl⟩:=List.mem_map.1 hz
    exact List.mem_range.2 (lt x (List.mem_range.1 hx)))
  simp at h2
  omega
theorem DH {n:Nat} {g:Nat→Nat} (lt:∀x,x<n→g x<n) (inj:∀x y,x<n→y<n→g x=g y→x=y) (F:Nat→Int):(aE n fun y=>F (g y)).Perm (aE n F):=by
 have:=(wO lt inj).map F
 rwa [List.map_map] at this
theorem wP (t:List (List Int)) (x y:Nat):∀n,fG t x y n=(List.range n).countP fun z=>decide (en t y z=(x:Int))
 | 0=>rfl
 | n+1=>by
  rw [fG,wP t x y n,List.range_succ,List.countP_append];by_cases h:en t y n=(x:Int) <;> simp [h]
theorem nf {n:Nat} {g:Nat→Nat} (inj:∀x y,x<n→y<n→g x=g y→x=y) {u:Int} (h0:0≤u) (h1:u<(n:Int)) {y:Nat} (hy:y<n):((g u.toNat:Nat):Int)=(g y:Int)↔u=(y:Int):=by
 constructor
 ·intro e
  have:=inj u.toNat y (by omega) hy (by omega)
  omega
 ·intro e;rw [show u.toNat=y by omega]
section
variable {n:Nat} {a b:List (List (List Int))} {g:Nat→Nat}
theorem Lj (h:IsoG n a b g) (ha:bn n a) {k:Nat} (hk:k<a.length) {x y:Nat} (hx:x<n) (hy:y<n):fF (b.getD k []) (g x) (g y)=fF (a.getD k []) x y:=by
 have hu:=((ha k hk).2 x hx).2 y hy
 have hv:=((ha k hk).2 y hy).2 x hx
 have e1:=h.map k x y hk hx hy
 have e2:=h.map k y x hk hy hx
 simp only [fF,e1,e2,nf h.inj hu.1 hu.2 hx,nf h.inj hu.1 hu.2 hy,nf h.inj hv.1 hv.2 hx,nf h.inj hv.1 hv.2 hy]
theorem Lk (h:IsoG n a b g) (ha:bn n a) {c d:List Int} (hc:∀x,x<n→c.getD x 0=d.getD (g x) 0) {k:Nat} (hk:k<a.length) {x y:Nat} (hx:x<n) (hy:y<n) :
  eS (b.getD k []) d (g x) (g y)=eS (a.getD k []) c x y:=by
 have hu:=((ha k hk).2 x hx).2 y hy
 have hv:=((ha k hk).2 y hy).2 x hx
 rw [eS,eS,Lj h ha hk hx hy,h.map k x y hk hx hy,h.map k y x hk hy hx,Int.toNat_natCast,Int.toNat_natCast,←hc y hy,←hc _ (by omega),←hc _ (by omega)]
theorem Ll (h:IsoG n a b g) (ha:bn n a) {k:Nat} (hk:k<a.length) {x y:Nat} (hx:x<n) (hy:y<n):eC n (b.getD k []) (g x) (g y)=eC n (a.getD k []) x y:=by
 rw [eC,eC,wP,wP,←(wO h.lt h.inj).countP_eq,List.countP_map];refine List.countP_congr fun z hz=>?_
 have hz:=List.mem_range.1 hz
 have hu:=((ha k hk).2 y hy).2 z hz
 simp only [Function.comp,decide_eq_true_eq];rw [h.map k y z hk hy hz,nf h.inj hu.1 hu.2 hx]
theorem Lm (h:IsoG n a b g) (ha:bn n a) {c d:List Int} (hc:∀x,x<n→c.getD x 0=d.getD (g x) 0) {k:Nat} (hk:k<a.length) {x:Nat} (hx:x<n) :
  jj (cO n (b.getD k []) d (g x))=jj (cO n (a.getD k []) c x):=by
 refine Li ?_
 rw [cO,cO];refine List.Perm.append ((DH h.lt h.inj _).symm.trans ?_) ((DH h.lt h.inj _).symm.trans ?_)
 ·rw [mO fun y hy=>Lk h ha hc hk hx hy]
 ·rw [mO fun y hy=>by rw [Ll h ha hk hx hy,←hc y hy]]
theorem DI (h:IsoG n a b g) (ha:bn n a) {c d:List Int} (hc:∀x,x<n→c.getD x 0=d.getD (g x) 0) {x:Nat} (hx:x<n):∀k,k≤a.length→aO n b d (g x) k=aO n a c x k
 | 0,_=>by rw [aO,aO,hc x hx]
 | k+1,hk=>by rw [aO,aO,DI h ha hc hx k (by omega),Lm h ha hc (by omega) hx]
theorem Ln (h:IsoG n a b g) (ha:bn n a) (hab:b.length=a.length) {c d:List Int} (hc:∀x,x<n→c.getD x 0=d.getD (g x) 0) {x:Nat} (hx:x<n):bI n b d (g x)=bI n a c x:=by
 rw [bI,bI,hab];exact DI h ha hc hx _ (Nat.le_refl _)
end
def ar (n:Nat) (a b:List (List (List Int))) (c d:List Int):List (List Int):=(List.range n).map (bI n a c)++(List.range n).map (bI n b d)
def bF (n:Nat) (cl:List Int) (m:Nat):Nat→List Int
 | 0=>List.replicate m 0
 | i+1=>(bF n cl m i).set (cl.getD i 0).toNat ((bF n cl m i).getD (cl.getD i 0).toNat 0+if i<n then 1 else -1)
def iM (n:Nat) (M:List (List Int)):Bool:=(bF n (aK M) (aD M).length M.length).all fun x=>decide (x=0)
def jZ (n:Nat) (a b:List (List (List Int))) (c d:List Int):Option (List Int×List Int×Nat) :=
 let M:=ar n a b c d
 if iM n M=true then some ((aK M).take n,(aK M).drop n,(aD M).length) else none
def fH (n:Nat) (a b:List (List (List Int))):Nat→Nat→List Int→List Int→Option (List Int×List Int)
 | 0,_,_,_=>none
 | fuel+1,num,c,d=>match jZ n a b c d with
  | none=>none
  | some (c',d',m)=>if m=num then some (c',d') else fH n a b fuel m c' d'
theorem nh (n:Nat) (a b:List (List (List Int))) (c d:List Int):(ar n a b c d).length=2 * n:=by simp [ar];omega
theorem DJ (n:Nat) (a b:List (List (List Int))) (c d:List Int) {x:Nat} (h:x<n):(ar n a b c d).getD x []=bI n a c x:=by
 rw [ar,getD_append_left' _ _ _ _ (by simpa using h)];simp [List.getD_eq_getElem?_getD,h]
theorem DK (n:Nat) (a b:List (List (List Int))) (c d:List Int) {x:Nat} (h:x<n):(ar n a b c d).getD (n+x) []=bI n b d x:=by
 rw [ar,getD_append_right' _ _ _ _ (by simp)];simp [List.getD_eq_getElem?_getD,h]
theorem lM (M:List (List Int)):(aK M).length=M.length:=by simp [aK]
theorem ni (M:List (List Int)) {i:Nat} (h:i<M.length):(aK M).getD i 0=(du (aD M) (M.getD i []):Int):=by
 rw [aK,lh M _ [] 0 i h]
theorem wQ (M:List (List Int)) {i:Nat} (h:i<M.length):0≤(aK M).getD i 0∧(aK M).getD i 0<((aD M).length:Int):=by
 rw [ni M h];have:=(iL (lL.2 (bN M [] i h))).1
 omega
def j8 (c d:List Int) (m:Nat):Prop:=∀i,i<m→(i:Int)∈c++d
theorem wR {n:Nat} {a b:List (List (List Int))} {c d c' d':List Int} {m:Nat} (h:jZ n a b c d=some (c',d',m)) :
  c'.length=n∧d'.length=n∧m≤2 * n∧j8 c' d' m∧(∀x,x<n→0≤c'.getD x 0∧c'.getD x 0<(m:Int))∧∀x,x<n→0≤d'.getD x 0∧d'.getD x 0<(m:Int):=by
 unfold jZ at h;dsimp only at h;split at h
 ·cases h
  have L:=nh n a b c d
  refine ⟨by rw [List.length_take,lM,L];omega,by rw [List.length_drop,lM,L];omega,by have:=DC (ar n a b c d);omega,fun i hi=>?_,fun x hx=>?_,fun x hx=>?_⟩
  ·rw [List.take_append_drop]
   have h1:(aD (ar n a b c d)).getD i []∈ar n a b c d:=lL.1 (bN _ _ _ hi)
   obtain ⟨j,hj,e⟩:=List.getElem_of_mem h1;have h2:=ni _ hj
   rw [bU _ [] j hj,e,DB (K:=aD (ar n a b c d)) (na (DA _ _)) hi] at h2;rw [←h2];exact bN _ _ _ (by rw [lM];exact hj)
  ·rw [mP _ _ _ _ hx]
   exact wQ _ (by omega)
  ·rw [oJ]
   exact wQ _ (by omega)
 ·cases h
theorem Lo:∀(m:Nat) (l:List Int),(∀i:Nat,i<m→(i:Int)∈l)→m≤l.length:=fun m l h=>by
 have:=kh (xf m) (b:=l) fun x hx=>by
  obtain ⟨h0,h1⟩:=lV.1 hx;have:=h x.toNat (by omega)
  rwa [Int.toNat_of_nonneg h0] at this
 simpa [ints] using this
theorem DL {n:Nat} {a b:List (List (List Int))} {c d:List Int} {num:Nat} (hc:c.length=n) (hd:d.length=n) (h:j8 c d num):num≤(aD (ar n a b c d)).length:=by
 have:=Lo num ((aD (ar n a b c d)).map fun m=>m.getD 0 0) fun i hi=>by
  rcases List.mem_append.1 (h i hi) with q | q
  ·obtain ⟨x,hx,e⟩:=List.getElem_of_mem q
   refine List.mem_map.2 ⟨bI n a c x,lL.2 ?_,?_⟩
   ·rw [←DJ n a b c d (by omega)];exact bN _ _ _ (by rw [nh];omega)
   ·rw [bI,(wN n a c x _).1,bU c 0 x hx,e]
  ·obtain ⟨x,hx,e⟩:=List.getElem_of_mem q
   refine List.mem_map.2 ⟨bI n b d x,lL.2 ?_,?_⟩
   ·rw [←DK n a b c d (by omega)];exact bN _ _ _ (by rw [nh];omega)
   ·rw [bI,(wN n b d x _).1,bU d 0 x hx,e]
 simpa using this
/- Counting. -/
theorem iN (n:Nat) (cl:List Int) (m:Nat):∀i,(bF n cl m i).length=m
 | 0=>by simp [bF]
 | i+1=>by rw [bF,List.length_set,iN n cl m i]
theorem DM (n:Nat) (cl:List Int) (m:Nat) (hcl:∀i,i<cl.length→0≤cl.getD i 0∧cl.getD i 0<(m:Int)) {q:Nat} (hq:q<m):∀i,i≤cl.length →
  (bF n cl m i).getD q 0=((List.range i).countP fun j=>decide (cl.getD j 0=(q:Int))&&decide (j<n):Nat) - (((List.range i).countP fun j=>decide (cl.getD j 0=(q:Int))&&!decide (j<n):Nat):Int)
 | 0,_=>by simp [bF,List.getD_eq_getElem?_getD,hq]
 | i+1,hi=>by
  have ih:=DM n cl m hcl hq i (by omega)
  have hr:=hcl i (by omega)
  rw [bF,iE _ _ _ _ (by rw [iN];exact hq),List.range_succ,List.countP_append,List.countP_append]
  by_cases e:cl.getD i 0=(q:Int)
  ·rw [if_pos (by omega)]
   have:(cl.getD i 0).toNat=q:=by omega
   rw [this,ih];by_cases hn:i<n
   ·simp only [List.countP_cons,List.countP_nil,e,hn,if_true,decide_true,Bool.and_true,Bool.not_true,Bool.and_false,if_false,Bool.false_eq_true];omega
   ·simp only [List.countP_cons,List.countP_nil,e,hn,if_true,decide_true,decide_false,Bool.not_false,Bool.and_true,Bool.not_true,Bool.and_false,if_false,Bool.false_eq_true];omega
  ·rw [if_neg (by omega),ih]
   simp only [List.countP_cons,List.countP_nil,e,decide_false,Bool.false_and,Bool.false_eq_true,if_false,Nat.add_zero,Nat.zero_add]
theorem Lp {n:Nat} {a b:List (List (List Int))} {g:Nat→Nat} (h:IsoG n a b g) (ha:bn n a) (hab:b.length=a.length) {c d:List Int} (hc:∀x,x<n→c.getD x 0=d.getD (g x) 0) :
  iM n (ar n a b c d)=true∧∀x,x<n→((aK (ar n a b c d)).take n).getD x 0=((aK (ar n a b c d)).drop n).getD (g x) 0:=by
 have L:=nh n a b c d
 have key:∀x,x<n→(aK (ar n a b c d)).getD x 0=(aK (ar n a b c d)).getD (n+g x) 0:=fun x hx=>by
  rw [ni _ (by omega),ni _ (by have:=h.lt x hx;omega),DJ n a b c d hx,DK n a b c d (h.lt x hx),Ln h ha hab hc hx]
 refine ⟨?_,fun x hx=>?_⟩
 ·rw [iM,List.all_eq_true]
  intro v hv
  obtain ⟨q,hq,rfl⟩:=List.getElem_of_mem hv;rw [iN] at hq;rw [←bU _ 0 q (by rw [iN];exact hq),decide_eq_true_eq]
  have:=DM n (aK (ar n a b c d)) (aD (ar n a b c d)).length (fun i hi=>wQ _ (by rwa [lM] at hi)) hq (ar n a b c d).length (by rw [lM];exact Nat.le_refl _)
  rw [this,L,show 2 * n=n+n by omega,List.range_add,List.countP_append,List.countP_append,List.countP_map,List.countP_map]
  have z1:(List.range n).countP (((fun j=>decide ((aK (ar n a b c d)).getD j 0=(q:Int))&&decide (j<n))) ∘ fun x=>n+x)=0:=by
   rw [List.countP_eq_zero];intro x hx;simp
  have z2:(List.range n).countP (fun j=>decide ((aK (ar n a b c d)).getD j 0=(q:Int))&&!decide (j<n))=0:=by
   rw [List.countP_eq_zero];intro x hx;have:=List.mem_range.1 hx;simp;omega
  have z3:(List.range n).countP (((fun j=>decide ((aK (ar n a b c d)).getD j 0=(q:Int))&&!decide (j<n))) ∘ fun x=>n+x)=(List.range n).countP (fun j=>decide ((aK (ar n a b c d)).getD j 0=(q:Int))&&decide (j<n)):=by
   rw [←(wO h.lt h.inj).countP_eq,List.countP_map];refine List.countP_congr fun x hx=>?_
   have hx:=List.mem_range.1 hx
   have k2:=key x hx
   simp only [Function.comp,hx,decide_true,Bool.and_true,decide_eq_true_eq,Bool.and_eq_true,←k2,Bool.not_eq_true',decide_eq_false_iff_not,Nat.not_lt,Nat.le_add_right,and_true]
  rw [z1,z2,z3];omega
 ·rw [mP _ _ _ _ hx,oJ];exact key x hx
theorem Lq {n:Nat} {a b:List (List (List Int))} {g:Nat→Nat} (h:IsoG n a b g) (ha:bn n a) (hab:b.length=a.length) {c d:List Int} (hc:∀x,x<n→c.getD x 0=d.getD (g x) 0) :
  ∃c' d' m,jZ n a b c d=some (c',d',m)∧∀x,x<n→c'.getD x 0=d'.getD (g x) 0:=by
 obtain ⟨h1,h2⟩:=Lp h ha hab hc;exact ⟨_,_,_,by unfold jZ;dsimp only;rw [if_pos h1],h2⟩
theorem DN {n:Nat} {a b:List (List (List Int))} {g:Nat→Nat} (h:IsoG n a b g) (ha:bn n a) (hab:b.length=a.length):∀(fuel num:Nat) (c d:List Int),c.length=n→d.length=n→j8 c d num→2 * n<fuel+num→num≤2 * n →
  (∀x,x<n→c.getD x 0=d.getD (g x) 0)→∃c' d',fH n a b fuel num c d=some (c',d')∧∀x,x<n→c'.getD x 0=d'.getD (g x) 0
 | 0,num,c,d,_,_,_,h1,h2,_=>by omega
 | fuel+1,num,c,d,hcl,hdl,hcov,h1,h2,hc=>by
  obtain ⟨c',d',m,e,hc'⟩:=Lq h ha hab hc;obtain ⟨l1,l2,l3,l4,_⟩:=wR e;rw [fH,e];simp only;by_cases hm:m=num
  ·rw [if_pos hm];exact ⟨c',d',rfl,hc'⟩
  ·rw [if_neg hm]
   have hle:num≤m:=by
    have:=DL (n:=n) (a:=a) (b:=b) hcl hdl hcov
    unfold jZ at e;dsimp only at e;split at e
    ·cases e;exact this
    ·cases e
   exact DN h ha hab fuel m c' d' l1 l2 l4 (by omega) l3 hc'
def fb (n:Nat) (a b:List (List (List Int))) (c d:List Int):Option (List Int×List Int):=fH n a b (2 * n+1) 0 c d
theorem qw {n:Nat} {a b:List (List (List Int))} {g:Nat→Nat} (h:IsoG n a b g) (ha:bn n a) (hab:b.length=a.length) {c d:List Int} (hcl:c.length=n) (hdl:d.length=n) (hc:∀x,x<n→c.getD x 0=d.getD (g x) 0) :
  ∃c' d',fb n a b c d=some (c',d')∧∀x,x<n→c'.getD x 0=d'.getD (g x) 0 :=
 DN h ha hab _ _ c d hcl hdl (fun i hi=>by omega) (by omega) (by omega) hc
end Go.Sx
