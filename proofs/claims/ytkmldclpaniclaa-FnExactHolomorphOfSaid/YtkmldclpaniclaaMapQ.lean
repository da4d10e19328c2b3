/- MapQ -/
import Derived.Test.YtkmldclpaniclaaRack
open Go Go.Proofs
namespace Go.Sx
set_option linter.unusedSimpArgs false
set_option linter.unusedVariables false
def lexB:List Int→List Int→Bool
 | _,[]=>false
 | [],_::_=>true
 | x::a,y::b=>if x=y then lexB a b else decide (x<y)
theorem lexB_irr:∀a:List Int,lexB a a=false
 | []=>rfl
 | x::a=>by rw [lexB,if_pos rfl];exact lexB_irr a
theorem lexB_tri:∀a b:List Int,lexB a b=false→lexB b a=false→a=b
 | [],[],_,_=>rfl
 | [],_::_,h,_=>by simp [lexB] at h
 | _::_,[],_,h=>by simp [lexB] at h
 | x::a,y::b,h,k=>by
  by_cases e:x=y
  ·subst e
   rw [lexB,if_pos rfl] at h k
   rw [lexB_tri a b h k]
  ·rw [lexB,if_neg e] at h
   rw [lexB,if_neg (Ne.symm e)] at k
   simp at h k
   omega
theorem lexB_tr:∀a b c:List Int,lexB a b=true→lexB b c=true→lexB a c=true
 | _,_,[],_,h=>by cases ‹List Int› <;> simp [lexB] at h
 | _,[],_::_,h,_=>by cases ‹List Int› <;> simp [lexB] at h
 | [],_::_,_::_,_,_=>rfl
 | x::a,y::b,z::c,h,k=>by
  rw [lexB] at h k ⊢
  by_cases e:x=y
  ·subst e
   rw [if_pos rfl] at h
   by_cases f:x=z
   ·subst f
    rw [if_pos rfl] at k ⊢
    exact lexB_tr a b c h k
   ·rw [if_neg f] at k ⊢
    exact k
  ·rw [if_neg e] at h
   by_cases f:y=z
   ·subst f
    rw [if_neg e];exact h
   ·rw [if_neg f] at k
    simp at h k
    rw [if_neg (by omega)]
    simp;omega
def posK:List (List Int)→List Int→Nat
 | [],_=>0
 | k::K,m=>if lexB k m=true then posK K m+1 else 0
theorem posK_le:∀(K:List (List Int)) (m:List Int),posK K m≤K.length
 | [],_=>Nat.le_refl _
 | k::K,m=>by
  rw [posK]
  split
  ·exact Nat.succ_le_succ (posK_le K m)
  ·exact Nat.zero_le _
theorem posK_from:∀(K:List (List Int)) (m:List Int) (i:Nat),(∀j,j<i→lexB (K.getD j []) m=true)→i≤K.length→(∀h:i<K.length,lexB (K.getD i []) m=false)→posK K m=i
 | [],_,i,_,h,_=>by simp at h;subst h;rfl
 | k::K,m,0,_,_,h=>by
  have:=h (by simp)
  have h2:lexB k m=false:=this
  rw [posK,if_neg (by rw [h2];simp)]
 | k::K,m,i+1,a,b,c=>by
  have h0:lexB k m=true:=a 0 (by omega)
  rw [posK,if_pos h0,posK_from K m i (fun j hj=>a (j+1) (by omega)) (by simpa using b) (fun h=>c (by simpa using h))]
def insK (K:List (List Int)) (m:List Int):List (List Int) :=
 if posK K m<K.length∧K.getD (posK K m) []=m then K else K.take (posK K m)++m::K.drop (posK K m)
theorem insK_cons (k:List Int) (K:List (List Int)) (m:List Int):insK (k::K) m=if lexB k m=true then k::insK K m else if k=m then k::K else m::k::K:=by
 by_cases h:lexB k m=true
 ·rw [if_pos h,insK,insK,posK,if_pos h]
  simp only [List.length_cons,List.getD_cons_succ,Nat.add_lt_add_iff_right,List.take_succ_cons,List.drop_succ_cons,List.cons_append]
  split <;> rfl
 ·rw [if_neg h,insK,posK,if_neg h]
  by_cases e:k=m
  ·simp [e]
  ·simp [e]
theorem insK_mem:∀(K:List (List Int)) (m x:List Int),x∈insK K m↔x=m∨x∈K
 | [],m,x=>by simp [insK,posK]
 | k::K,m,x=>by
  rw [insK_cons]
  split
  ·rw [List.mem_cons,insK_mem K m x,List.mem_cons]
   constructor
   ·rintro (h | h | h) <;> simp [h]
   ·rintro (h | h | h) <;> simp [h]
  ·split
   ·rename_i e
    subst e
    simp
   ·simp
theorem insK_len:∀(K:List (List Int)) (m:List Int),(insK K m).length≤K.length+1
 | [],m=>by simp [insK,posK]
 | k::K,m=>by
  rw [insK_cons]
  have:=insK_len K m
  split
  ·simp only [List.length_cons];omega
  ·split <;> simp
def srtK (K:List (List Int)):Prop:=K.Pairwise fun a b=>lexB a b=true
theorem insK_srt:∀(K:List (List Int)) (m:List Int),srtK K→srtK (insK K m)
 | [],m,_=>by simp [insK,posK,srtK]
 | k::K,m,h=>by
  rw [insK_cons]
  obtain ⟨h1,h2⟩:=List.pairwise_cons.1 h
  split
  ·rename_i e
   exact List.pairwise_cons.2 ⟨fun x hx=>by
    rcases (insK_mem K m x).1 hx with rfl | hx
    ·exact e
    ·exact h1 x hx,insK_srt K m h2⟩
  ·rename_i e
   split
   ·exact h
   ·rename_i ne
    have lt:lexB m k=true:=by
     cases q:lexB m k
     ·exact absurd (lexB_tri k m (by simpa using e) q) ne
     ·rfl
    refine List.pairwise_cons.2 ⟨fun x hx=>?_,h⟩
    rcases List.mem_cons.1 hx with rfl | hx
    ·exact lt
    ·exact lexB_tr _ _ _ lt (h1 x hx)
theorem srtK_nodup {K:List (List Int)} (h:srtK K):K.Nodup:=h.imp fun {a b} hab e=>by
 subst e;rw [lexB_irr] at hab;cases hab
def kdN (M:List (List Int)):Nat→List (List Int)
 | 0=>[]
 | i+1=>insK (kdN M i) (M.getD i [])
def kdL (M:List (List Int)):List (List Int):=kdN M M.length
theorem kdN_srt (M:List (List Int)):∀i,srtK (kdN M i)
 | 0=>List.Pairwise.nil
 | i+1=>insK_srt _ _ (kdN_srt M i)
theorem kdN_len (M:List (List Int)):∀i,(kdN M i).length≤i
 | 0=>Nat.le_refl _
 | i+1=>Nat.le_trans (insK_len _ _) (Nat.succ_le_succ (kdN_len M i))
theorem kdN_mem (M:List (List Int)) (x:List Int):∀i,x∈kdN M i↔∃j,j<i∧x=M.getD j []
 | 0=>by simp [kdN]
 | i+1=>by
  rw [kdN,insK_mem,kdN_mem M x i]
  constructor
  ·rintro (h | ⟨j,h1,h2⟩)
   ·exact ⟨i,by omega,h⟩
   ·exact ⟨j,by omega,h2⟩
  ·rintro ⟨j,h1,h2⟩
   by_cases e:j=i
   ·subst e;exact .inl h2
   ·exact .inr ⟨j,by omega,h2⟩
def idK:List (List Int)→List Int→Nat
 | [],_=>0
 | k::K,m=>if k=m then 0 else idK K m+1
theorem idK_lt:∀{K:List (List Int)} {m:List Int},m∈K→idK K m<K.length∧K.getD (idK K m) []=m
 | k::K,m,h=>by
  rw [idK]
  split
  ·rename_i e;exact ⟨by simp,e⟩
  ·rename_i e
   have:=idK_lt (K:=K) (m:=m) (by rcases List.mem_cons.1 h with rfl | h;exact absurd rfl e;exact h)
   exact ⟨by simpa using this.1,by simpa using this.2⟩
theorem idK_from:∀{K:List (List Int)} {m:List Int} (i:Nat),(∀j,j<i→K.getD j []≠m)→i<K.length→K.getD i []=m→idK K m=i
 | [],_,i,_,h,_=>by simp at h
 | k::K,m,0,_,_,h=>by
  have:k=m:=h
  rw [idK,if_pos this]
 | k::K,m,i+1,a,b,c=>by
  have h0:k≠m:=a 0 (by omega)
  rw [idK,if_neg h0,idK_from (K:=K) i (fun j hj=>a (j+1) (by omega)) (by simpa using b) (by simpa using c)]
theorem idK_nd {K:List (List Int)} (h:K.Nodup) {i:Nat} (hi:i<K.length):idK K (K.getD i [])=i:=by
 refine idK_from i (fun j hj e=>?_) hi rfl
 rw [getD_lt K [] j (by omega),getD_lt K [] i hi] at e
 have:=(List.getElem_inj h).1 e
 omega
def colL (M:List (List Int)):List Int:=M.map fun m=>(idK (kdL M) m:Int)
theorem kdL_mem {M:List (List Int)} {x:List Int}:x∈kdL M↔x∈M:=by
 rw [kdL,kdN_mem]
 constructor
 ·rintro ⟨j,h1,rfl⟩;exact getD_mem M [] j h1
 ·intro h
  obtain ⟨j,h1,h2⟩:=List.getElem_of_mem h
  exact ⟨j,h1,by rw [getD_lt M [] j h1];exact h2.symm⟩
theorem kdL_len (M:List (List Int)):(kdL M).length≤M.length:=kdN_len M _
/- Sorting by insertion. -/
def bub (p:List Int) (x:Int):Nat→Nat
 | 0=>0
 | j+1=>if x<p.getD j 0 then bub p x j else j+1
theorem bub_le (p:List Int) (x:Int):∀j,bub p x j≤j
 | 0=>Nat.le_refl _
 | j+1=>by rw [bub];split;exact Nat.le_succ_of_le (bub_le p x j);exact Nat.le_refl _
theorem bub_up (p:List Int) (x:Int):∀j i,bub p x j≤i→i<j→x<p.getD i 0
 | 0,i,_,h=>by omega
 | j+1,i,h,k=>by
  rw [bub] at h
  split at h
  ·rename_i e
   by_cases ei:i=j
   ·subst ei;exact e
   ·exact bub_up p x j i h (by omega)
  ·omega
theorem bub_lo (p:List Int) (x:Int):∀j,0<bub p x j→p.getD (bub p x j - 1) 0≤x
 | 0,h=>by simp [bub] at h
 | j+1,h=>by
  rw [bub] at h ⊢
  split
  ·rename_i e;rw [if_pos e] at h;exact bub_lo p x j h
  ·rename_i e;simpa using e
def insI (p:List Int) (x:Int):List Int:=p.take (bub p x p.length)++x::p.drop (bub p x p.length)
def isN (l:List Int):Nat→List Int
 | 0=>[]
 | i+1=>insI (isN l i) (l.getD i 0)
def isL (l:List Int):List Int:=isN l l.length
theorem insI_len (p:List Int) (x:Int):(insI p x).length=p.length+1:=by
 have:=bub_le p x p.length
 simp [insI];omega
theorem isN_len (l:List Int):∀i,(isN l i).length=i
 | 0=>rfl
 | i+1=>by rw [isN,insI_len,isN_len l i]
theorem insI_perm (p:List Int) (x:Int):(insI p x).Perm (p++[x]):=by
 have h1:(p.take (bub p x p.length)++x::p.drop (bub p x p.length)).Perm (x::(p.take (bub p x p.length)++p.drop (bub p x p.length))):=List.perm_middle
 rw [List.take_append_drop] at h1
 exact h1.trans (List.perm_append_comm (l₁:=[x]) (l₂:=p))
theorem isN_perm (l:List Int):∀i,i≤l.length→(isN l i).Perm (l.take i)
 | 0,_=>by simp [isN]
 | i+1,h=>by
  rw [isN,←take_snoc l 0 i (by omega)]
  exact (insI_perm _ _).trans ((isN_perm l i (by omega)).append (List.Perm.refl _))
theorem isL_perm (l:List Int):(isL l).Perm l:=by
 have:=isN_perm l l.length (Nat.le_refl _)
 rwa [List.take_length] at this
theorem insI_srt {p:List Int} (h:p.Pairwise (·≤·)) (x:Int):(insI p x).Pairwise (·≤·):=by
 have hb:=bub_le p x p.length
 have hg:∀i j,i<j→j<p.length→p.getD i 0≤p.getD j 0:=fun i j hij hj=>by
  rw [getD_lt p 0 i (by omega),getD_lt p 0 j hj]
  exact List.pairwise_iff_getElem.1 h i j (by omega) hj hij
 have lo:∀a∈p.take (bub p x p.length),a≤x:=fun a ha=>by
  obtain ⟨i,hi,rfl⟩:=List.getElem_of_mem ha
  rw [List.length_take] at hi
  have e:(p.take (bub p x p.length))[i]=p.getD i 0:=by rw [List.getElem_take,getD_lt p 0 i (by omega)]
  rw [e]
  have:=bub_lo p x p.length (by omega)
  by_cases q:i=bub p x p.length - 1
  ·subst q;exact this
  ·exact Int.le_trans (hg i (bub p x p.length - 1) (by omega) (by omega)) this
 have up:∀a∈p.drop (bub p x p.length),x≤a:=fun a ha=>by
  obtain ⟨i,hi,rfl⟩:=List.getElem_of_mem ha
  rw [List.length_drop] at hi
  have e:(p.drop (bub p x p.length))[i]=p.getD (bub p x p.length+i) 0:=by rw [List.getElem_drop,getD_lt p 0 _ (by omega)]
  rw [e]
  have:=bub_up p x p.length (bub p x p.length+i) (by omega) (by omega)
  omega
 rw [insI,List.pairwise_append]
 refine ⟨h.sublist (List.take_sublist _ _),List.pairwise_cons.2 ⟨up,h.sublist (List.drop_sublist _ _)⟩,fun a ha b hb=>?_⟩
 rcases List.mem_cons.1 hb with rfl | hb
 ·exact lo a ha
 ·exact Int.le_trans (lo a ha) (up b hb)
theorem isN_srt (l:List Int):∀i,(isN l i).Pairwise (·≤·)
 | 0=>List.Pairwise.nil
 | i+1=>insI_srt (isN_srt l i) _
theorem isL_congr {l l':List Int} (h:l.Perm l'):isL l=isL l' :=
 List.Perm.eq_of_pairwise (le:=(·≤·)) (fun a b _ _ h1 h2=>Int.le_antisymm h1 h2) (isN_srt l _) (isN_srt l' _) (((isL_perm l).trans h).trans (isL_perm l').symm)
/- What tables and colours tell of an element. -/
def ownF (t:List (List Int)) (x y:Nat):Int :=
 (if en t x y=(y:Int) then 1 else 0)+(if en t y x=(y:Int) then 2 else 0)+(if en t x y=(x:Int) then 4 else 0)+(if en t y x=(x:Int) then 8 else 0)
def keyF (t:List (List Int)) (c:List Int) (x y:Nat):Int :=
 ((c.getD y 0 * 64+c.getD (en t x y).toNat 0) * 64+c.getD (en t y x).toNat 0) * 16+ownF t x y
def cnZ (t:List (List Int)) (x y:Nat):Nat→Nat
 | 0=>0
 | z+1=>if en t y z=(x:Int) then cnZ t x y z+1 else cnZ t x y z
def cntF (n:Nat) (t:List (List Int)) (x y:Nat):Nat:=cnZ t x y n
def mkS (n:Nat) (t:List (List Int)) (c:List Int) (x:Nat):List Int :=
 tab n (keyF t c x)++tab n fun y=>1099511627776+c.getD y 0 * 64+(cntF n t x y:Int)
def mkN (n:Nat) (a:List (List (List Int))) (c:List Int) (x:Nat):Nat→List Int
 | 0=>[c.getD x 0]
 | k+1=>mkN n a c x k++isL (mkS n (a.getD k []) c x)
def mkF (n:Nat) (a:List (List (List Int))) (c:List Int) (x:Nat):List Int:=mkN n a c x a.length
theorem mkN_head (n:Nat) (a:List (List (List Int))) (c:List Int) (x:Nat):∀k,(mkN n a c x k).getD 0 0=c.getD x 0∧0<(mkN n a c x k).length
 | 0=>by simp [mkN]
 | k+1=>by
  have:=mkN_head n a c x k
  rw [mkN]
  exact ⟨by rw [getD_append_left' _ _ _ _ this.2];exact this.1,by simp;omega⟩
def tbN (n:Nat) (t:List (List Int)):Prop:=t.length=n∧∀x,x<n→(t.getD x []).length=n∧∀y,y<n→0≤en t x y∧en t x y<(n:Int)
def tsN (n:Nat) (a:List (List (List Int))):Prop:=∀k,k<a.length→tbN n (a.getD k [])
structure IsoG (n:Nat) (a b:List (List (List Int))) (g:Nat→Nat):Prop where
 lt:∀x,x<n→g x<n
 inj:∀x y,x<n→y<n→g x=g y→x=y
 map:∀k x y,k<a.length→x<n→y<n→en (b.getD k []) (g x) (g y)=(g (en (a.getD k []) x y).toNat:Int)
theorem range_g {n:Nat} {g:Nat→Nat} (lt:∀x,x<n→g x<n) (inj:∀x y,x<n→y<n→g x=g y→x=y):((List.range n).map g).Perm (List.range n):=by
 have nd:((List.range n).map g).Nodup:=by
  rw [List.Nodup,List.pairwise_map]
  exact List.nodup_range.imp_of_mem fun {x y} hx hy hne e=>hne (inj x y (List.mem_range.1 hx) (List.mem_range.1 hy) e)
 refine (List.perm_ext_iff_of_nodup nd List.nodup_range).2 fun y=>⟨fun h=>?_,fun h=>?_⟩
 ·obtain ⟨x,hx,rfl⟩:=List.mem_map.1 h
  exact List.mem_range.2 (lt x (List.mem_range.1 hx))
 ·refine Classical.byContradiction fun hn=>?_
  have h1:(y::(List.range n).map g).Nodup:=List.nodup_cons.2 ⟨hn,nd⟩
  have h2:=List.Nodup.length_le_of_subset h1 (l₂:=List.range n) (fun z hz=>by
   rcases List.mem_cons.1 hz with rfl | hz
   ·exact h
   ·obtain ⟨x,hx,rfl⟩:=List.mem_map.1 hz
    exact List.mem_range.2 (lt x (List.mem_range.1 hx)))
  simp at h2
  omega
theorem tab_g {n:Nat} {g:Nat→Nat} (lt:∀x,x<n→g x<n) (inj:∀x y,x<n→y<n→g x=g y→x=y) (F:Nat→Int):(tab n fun y=>F (g y)).Perm (tab n F):=by
 have:=(range_g lt inj).map F
 rwa [List.map_map] at this
theorem cnZ_eq (t:List (List Int)) (x y:Nat):∀n,cnZ t x y n=(List.range n).countP fun z=>decide (en t y z=(x:Int))
 | 0=>rfl
 | n+1=>by
  rw [cnZ,cnZ_eq t x y n,List.range_succ,List.countP_append]
  by_cases h:en t y n=(x:Int) <;> simp [h]
theorem cast_g {n:Nat} {g:Nat→Nat} (inj:∀x y,x<n→y<n→g x=g y→x=y) {u:Int} (h0:0≤u) (h1:u<(n:Int)) {y:Nat} (hy:y<n):((g u.toNat:Nat):Int)=(g y:Int)↔u=(y:Int):=by
 constructor
 ·intro e
  have:=inj u.toNat y (by omega) hy (by omega)
  omega
 ·intro e;rw [show u.toNat=y by omega]
section
variable {n:Nat} {a b:List (List (List Int))} {g:Nat→Nat}
theorem ownF_g (h:IsoG n a b g) (ha:tsN n a) {k:Nat} (hk:k<a.length) {x y:Nat} (hx:x<n) (hy:y<n):ownF (b.getD k []) (g x) (g y)=ownF (a.getD k []) x y:=by
 have hu:=((ha k hk).2 x hx).2 y hy
 have hv:=((ha k hk).2 y hy).2 x hx
 have e1:=h.map k x y hk hx hy
 have e2:=h.map k y x hk hy hx
 simp only [ownF,e1,e2,cast_g h.inj hu.1 hu.2 hx,cast_g h.inj hu.1 hu.2 hy,cast_g h.inj hv.1 hv.2 hx,cast_g h.inj hv.1 hv.2 hy]
theorem keyF_g (h:IsoG n a b g) (ha:tsN n a) {c d:List Int} (hc:∀x,x<n→c.getD x 0=d.getD (g x) 0) {k:Nat} (hk:k<a.length) {x y:Nat} (hx:x<n) (hy:y<n) :
  keyF (b.getD k []) d (g x) (g y)=keyF (a.getD k []) c x y:=by
 have hu:=((ha k hk).2 x hx).2 y hy
 have hv:=((ha k hk).2 y hy).2 x hx
 rw [keyF,keyF,ownF_g h ha hk hx hy,h.map k x y hk hx hy,h.map k y x hk hy hx,Int.toNat_natCast,Int.toNat_natCast,←hc y hy,←hc _ (by omega),←hc _ (by omega)]
theorem cntF_g (h:IsoG n a b g) (ha:tsN n a) {k:Nat} (hk:k<a.length) {x y:Nat} (hx:x<n) (hy:y<n):cntF n (b.getD k []) (g x) (g y)=cntF n (a.getD k []) x y:=by
 rw [cntF,cntF,cnZ_eq,cnZ_eq,←(range_g h.lt h.inj).countP_eq,List.countP_map]
 refine List.countP_congr fun z hz=>?_
 have hz:=List.mem_range.1 hz
 have hu:=((ha k hk).2 y hy).2 z hz
 simp only [Function.comp,decide_eq_true_eq]
 rw [h.map k y z hk hy hz,cast_g h.inj hu.1 hu.2 hx]
theorem mkS_g (h:IsoG n a b g) (ha:tsN n a) {c d:List Int} (hc:∀x,x<n→c.getD x 0=d.getD (g x) 0) {k:Nat} (hk:k<a.length) {x:Nat} (hx:x<n) :
  isL (mkS n (b.getD k []) d (g x))=isL (mkS n (a.getD k []) c x):=by
 refine isL_congr ?_
 rw [mkS,mkS]
 refine List.Perm.append ((tab_g h.lt h.inj _).symm.trans ?_) ((tab_g h.lt h.inj _).symm.trans ?_)
 ·rw [tab_ext fun y hy=>keyF_g h ha hc hk hx hy]
 ·rw [tab_ext fun y hy=>by rw [cntF_g h ha hk hx hy,←hc y hy]]
theorem mkN_g (h:IsoG n a b g) (ha:tsN n a) {c d:List Int} (hc:∀x,x<n→c.getD x 0=d.getD (g x) 0) {x:Nat} (hx:x<n):∀k,k≤a.length→mkN n b d (g x) k=mkN n a c x k
 | 0,_=>by rw [mkN,mkN,hc x hx]
 | k+1,hk=>by rw [mkN,mkN,mkN_g h ha hc hx k (by omega),mkS_g h ha hc (by omega) hx]
theorem mkF_g (h:IsoG n a b g) (ha:tsN n a) (hab:b.length=a.length) {c d:List Int} (hc:∀x,x<n→c.getD x 0=d.getD (g x) 0) {x:Nat} (hx:x<n):mkF n b d (g x)=mkF n a c x:=by
 rw [mkF,mkF,hab];exact mkN_g h ha hc hx _ (Nat.le_refl _)
end
def mksL (n:Nat) (a b:List (List (List Int))) (c d:List Int):List (List Int):=(List.range n).map (mkF n a c)++(List.range n).map (mkF n b d)
def ctN (n:Nat) (cl:List Int) (m:Nat):Nat→List Int
 | 0=>List.replicate m 0
 | i+1=>(ctN n cl m i).set (cl.getD i 0).toNat ((ctN n cl m i).getD (cl.getD i 0).toNat 0+if i<n then 1 else -1)
def evB (n:Nat) (M:List (List Int)):Bool:=(ctN n (colL M) (kdL M).length M.length).all fun x=>decide (x=0)
def rfS (n:Nat) (a b:List (List (List Int))) (c d:List Int):Option (List Int×List Int×Nat) :=
 let M:=mksL n a b c d
 if evB n M=true then some ((colL M).take n,(colL M).drop n,(kdL M).length) else none
def rfF (n:Nat) (a b:List (List (List Int))):Nat→Nat→List Int→List Int→Option (List Int×List Int)
 | 0,_,_,_=>none
 | fuel+1,num,c,d=>match rfS n a b c d with
  | none=>none
  | some (c',d',m)=>if m=num then some (c',d') else rfF n a b fuel m c' d'
theorem mksL_len (n:Nat) (a b:List (List (List Int))) (c d:List Int):(mksL n a b c d).length=2 * n:=by simp [mksL];omega
theorem mksL_lo (n:Nat) (a b:List (List (List Int))) (c d:List Int) {x:Nat} (h:x<n):(mksL n a b c d).getD x []=mkF n a c x:=by
 rw [mksL,getD_append_left' _ _ _ _ (by simpa using h)];simp [List.getD_eq_getElem?_getD,h]
theorem mksL_hi (n:Nat) (a b:List (List (List Int))) (c d:List Int) {x:Nat} (h:x<n):(mksL n a b c d).getD (n+x) []=mkF n b d x:=by
 rw [mksL,getD_append_right' _ _ _ _ (by simp)];simp [List.getD_eq_getElem?_getD,h]
theorem colL_len (M:List (List Int)):(colL M).length=M.length:=by simp [colL]
theorem colL_get (M:List (List Int)) {i:Nat} (h:i<M.length):(colL M).getD i 0=(idK (kdL M) (M.getD i []):Int):=by
 rw [colL,getD_map M _ [] 0 i h]
theorem colL_in (M:List (List Int)) {i:Nat} (h:i<M.length):0≤(colL M).getD i 0∧(colL M).getD i 0<((kdL M).length:Int):=by
 rw [colL_get M h]
 have:=(idK_lt (kdL_mem.2 (getD_mem M [] i h))).1
 omega
def covC (c d:List Int) (m:Nat):Prop:=∀i,i<m→(i:Int)∈c++d
theorem rfS_some {n:Nat} {a b:List (List (List Int))} {c d c' d':List Int} {m:Nat} (h:rfS n a b c d=some (c',d',m)) :
  c'.length=n∧d'.length=n∧m≤2 * n∧covC c' d' m∧(∀x,x<n→0≤c'.getD x 0∧c'.getD x 0<(m:Int))∧∀x,x<n→0≤d'.getD x 0∧d'.getD x 0<(m:Int):=by
 unfold rfS at h
 dsimp only at h
 split at h
 ·cases h
  have L:=mksL_len n a b c d
  refine ⟨by rw [List.length_take,colL_len,L];omega,by rw [List.length_drop,colL_len,L];omega,by have:=kdL_len (mksL n a b c d);omega,fun i hi=>?_,fun x hx=>?_,fun x hx=>?_⟩
  ·rw [List.take_append_drop]
   have h1:(kdL (mksL n a b c d)).getD i []∈mksL n a b c d:=kdL_mem.1 (getD_mem _ _ _ hi)
   obtain ⟨j,hj,e⟩:=List.getElem_of_mem h1
   have h2:=colL_get _ hj
   rw [getD_lt _ [] j hj,e,idK_nd (K:=kdL (mksL n a b c d)) (srtK_nodup (kdN_srt _ _)) hi] at h2
   rw [←h2]
   exact getD_mem _ _ _ (by rw [colL_len];exact hj)
  ·rw [take_getD _ _ _ _ hx]
   exact colL_in _ (by omega)
  ·rw [drop_getD]
   exact colL_in _ (by omega)
 ·cases h
theorem pig:∀(m:Nat) (l:List Int),(∀i:Nat,i<m→(i:Int)∈l)→m≤l.length:=fun m l h=>by
 have:=nodupLe (ints_nodup m) (b:=l) fun x hx=>by
  obtain ⟨h0,h1⟩:=ints_mem.1 hx
  have:=h x.toNat (by omega)
  rwa [Int.toNat_of_nonneg h0] at this
 simpa [ints] using this
theorem rfS_more {n:Nat} {a b:List (List (List Int))} {c d:List Int} {num:Nat} (hc:c.length=n) (hd:d.length=n) (h:covC c d num):num≤(kdL (mksL n a b c d)).length:=by
 have:=pig num ((kdL (mksL n a b c d)).map fun m=>m.getD 0 0) fun i hi=>by
  rcases List.mem_append.1 (h i hi) with q | q
  ·obtain ⟨x,hx,e⟩:=List.getElem_of_mem q
   refine List.mem_map.2 ⟨mkF n a c x,kdL_mem.2 ?_,?_⟩
   ·rw [←mksL_lo n a b c d (by omega)];exact getD_mem _ _ _ (by rw [mksL_len];omega)
   ·rw [mkF,(mkN_head n a c x _).1,getD_lt c 0 x hx,e]
  ·obtain ⟨x,hx,e⟩:=List.getElem_of_mem q
   refine List.mem_map.2 ⟨mkF n b d x,kdL_mem.2 ?_,?_⟩
   ·rw [←mksL_hi n a b c d (by omega)];exact getD_mem _ _ _ (by rw [mksL_len];omega)
   ·rw [mkF,(mkN_head n b d x _).1,getD_lt d 0 x hx,e]
 simpa using this
/- Counting. -/
theorem ctN_len (n:Nat) (cl:List Int) (m:Nat):∀i,(ctN n cl m i).length=m
 | 0=>by simp [ctN]
 | i+1=>by rw [ctN,List.length_set,ctN_len n cl m i]
theorem ctN_get (n:Nat) (cl:List Int) (m:Nat) (hcl:∀i,i<cl.length→0≤cl.getD i 0∧cl.getD i 0<(m:Int)) {q:Nat} (hq:q<m):∀i,i≤cl.length →
  (ctN n cl m i).getD q 0=((List.range i).countP fun j=>decide (cl.getD j 0=(q:Int))&&decide (j<n):Nat) - (((List.range i).countP fun j=>decide (cl.getD j 0=(q:Int))&&!decide (j<n):Nat):Int)
 | 0,_=>by simp [ctN,List.getD_eq_getElem?_getD,hq]
 | i+1,hi=>by
  have ih:=ctN_get n cl m hcl hq i (by omega)
  have hr:=hcl i (by omega)
  rw [ctN,getD_set _ _ _ _ (by rw [ctN_len];exact hq),List.range_succ,List.countP_append,List.countP_append]
  by_cases e:cl.getD i 0=(q:Int)
  ·rw [if_pos (by omega)]
   have:(cl.getD i 0).toNat=q:=by omega
   rw [this,ih]
   by_cases hn:i<n
   ·simp only [List.countP_cons,List.countP_nil,e,hn,if_true,decide_true,Bool.and_true,Bool.not_true,Bool.and_false,if_false,Bool.false_eq_true];omega
   ·simp only [List.countP_cons,List.countP_nil,e,hn,if_true,decide_true,decide_false,Bool.not_false,Bool.and_true,Bool.not_true,Bool.and_false,if_false,Bool.false_eq_true];omega
  ·rw [if_neg (by omega),ih]
   simp only [List.countP_cons,List.countP_nil,e,decide_false,Bool.false_and,Bool.false_eq_true,if_false,Nat.add_zero,Nat.zero_add]
theorem evB_g {n:Nat} {a b:List (List (List Int))} {g:Nat→Nat} (h:IsoG n a b g) (ha:tsN n a) (hab:b.length=a.length) {c d:List Int} (hc:∀x,x<n→c.getD x 0=d.getD (g x) 0) :
  evB n (mksL n a b c d)=true∧∀x,x<n→((colL (mksL n a b c d)).take n).getD x 0=((colL (mksL n a b c d)).drop n).getD (g x) 0:=by
 have L:=mksL_len n a b c d
 have key:∀x,x<n→(colL (mksL n a b c d)).getD x 0=(colL (mksL n a b c d)).getD (n+g x) 0:=fun x hx=>by
  rw [colL_get _ (by omega),colL_get _ (by have:=h.lt x hx;omega),mksL_lo n a b c d hx,mksL_hi n a b c d (h.lt x hx),mkF_g h ha hab hc hx]
 refine ⟨?_,fun x hx=>?_⟩
 ·rw [evB,List.all_eq_true]
  intro v hv
  obtain ⟨q,hq,rfl⟩:=List.getElem_of_mem hv
  rw [ctN_len] at hq
  rw [←getD_lt _ 0 q (by rw [ctN_len];exact hq),decide_eq_true_eq]
  have:=ctN_get n (colL (mksL n a b c d)) (kdL (mksL n a b c d)).length (fun i hi=>colL_in _ (by rwa [colL_len] at hi)) hq (mksL n a b c d).length (by rw [colL_len];exact Nat.le_refl _)
  rw [this,L,show 2 * n=n+n by omega,List.range_add,List.countP_append,List.countP_append,List.countP_map,List.countP_map]
  have z1:(List.range n).countP (((fun j=>decide ((colL (mksL n a b c d)).getD j 0=(q:Int))&&decide (j<n))) ∘ fun x=>n+x)=0:=by
   rw [List.countP_eq_zero];intro x hx;simp
  have z2:(List.range n).countP (fun j=>decide ((colL (mksL n a b c d)).getD j 0=(q:Int))&&!decide (j<n))=0:=by
   rw [List.countP_eq_zero];intro x hx;have:=List.mem_range.1 hx;simp;omega
  have z3:(List.range n).countP (((fun j=>decide ((colL (mksL n a b c d)).getD j 0=(q:Int))&&!decide (j<n))) ∘ fun x=>n+x)=(List.range n).countP (fun j=>decide ((colL (mksL n a b c d)).getD j 0=(q:Int))&&decide (j<n)):=by
   rw [←(range_g h.lt h.inj).countP_eq,List.countP_map]
   refine List.countP_congr fun x hx=>?_
   have hx:=List.mem_range.1 hx
   have k2:=key x hx
   simp only [Function.comp,hx,decide_true,Bool.and_true,decide_eq_true_eq,Bool.and_eq_true,←k2,Bool.not_eq_true',decide_eq_false_iff_not,Nat.not_lt,Nat.le_add_right,and_true]
  rw [z1,z2,z3];omega
 ·rw [take_getD _ _ _ _ hx,drop_getD];exact key x hx
theorem rfS_g {n:Nat} {a b:List (List (List Int))} {g:Nat→Nat} (h:IsoG n a b g) (ha:tsN n a) (hab:b.length=a.length) {c d:List Int} (hc:∀x,x<n→c.getD x 0=d.getD (g x) 0) :
  ∃c' d' m,rfS n a b c d=some (c',d',m)∧∀x,x<n→c'.getD x 0=d'.getD (g x) 0:=by
 obtain ⟨h1,h2⟩:=evB_g h ha hab hc
 exact ⟨_,_,_,by unfold rfS;dsimp only;rw [if_pos h1],h2⟩
theorem rfF_g {n:Nat} {a b:List (List (List Int))} {g:Nat→Nat} (h:IsoG n a b g) (ha:tsN n a) (hab:b.length=a.length):∀(fuel num:Nat) (c d:List Int),c.length=n→d.length=n→covC c d num→2 * n<fuel+num→num≤2 * n →
  (∀x,x<n→c.getD x 0=d.getD (g x) 0)→∃c' d',rfF n a b fuel num c d=some (c',d')∧∀x,x<n→c'.getD x 0=d'.getD (g x) 0
 | 0,num,c,d,_,_,_,h1,h2,_=>by omega
 | fuel+1,num,c,d,hcl,hdl,hcov,h1,h2,hc=>by
  obtain ⟨c',d',m,e,hc'⟩:=rfS_g h ha hab hc
  obtain ⟨l1,l2,l3,l4,_⟩:=rfS_some e
  rw [rfF,e]
  simp only
  by_cases hm:m=num
  ·rw [if_pos hm];exact ⟨c',d',rfl,hc'⟩
  ·rw [if_neg hm]
   have hle:num≤m:=by
    have:=rfS_more (n:=n) (a:=a) (b:=b) hcl hdl hcov
    unfold rfS at e
    dsimp only at e
    split at e
    ·cases e;exact this
    ·cases e
   exact rfF_g h ha hab fuel m c' d' l1 l2 l4 (by omega) l3 hc'
def rfL (n:Nat) (a b:List (List (List Int))) (c d:List Int):Option (List Int×List Int):=rfF n a b (2 * n+1) 0 c d
theorem rfL_g {n:Nat} {a b:List (List (List Int))} {g:Nat→Nat} (h:IsoG n a b g) (ha:tsN n a) (hab:b.length=a.length) {c d:List Int} (hcl:c.length=n) (hdl:d.length=n) (hc:∀x,x<n→c.getD x 0=d.getD (g x) 0) :
  ∃c' d',rfL n a b c d=some (c',d')∧∀x,x<n→c'.getD x 0=d'.getD (g x) 0 :=
 rfF_g h ha hab _ _ c d hcl hdl (fun i hi=>by omega) (by omega) (by omega) hc
end Go.Sx
