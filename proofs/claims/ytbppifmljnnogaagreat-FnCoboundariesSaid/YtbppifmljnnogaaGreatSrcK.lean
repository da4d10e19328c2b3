/- SrcK -/
import Derived.Test.YtbppifmljnnogaaGreatCmp
import Derived.Test.YtbppifmljnnogaaGreatRack
import Derived.Test.YtbppifmljnnogaaGreatMat
open Go Go.Proofs
namespace Go.Sx
set_option linter.unusedSimpArgs false
set_option linter.unusedVariables false
def sg (t:List (List Int)) (m:Int) (f:List (List Int)) (g:List Int) (x y:Nat):List Int :=
 if 0≤g.getD y 0∧g.getD (en t x y).toNat 0<0 then g.set (en t x y).toNat ((g.getD y 0+en f x y).tmod m)
 else if 0≤g.getD (en t x y).toNat 0∧g.getD y 0<0 then g.set y ((g.getD (en t x y).toNat 0 - en f x y+m).tmod m)
 else g
def rowG (t:List (List Int)) (m:Int) (f:List (List Int)) (x j:Nat) (g:List Int):List Int:=(List.range j).foldl (fun g y=>sg t m f g x y) g
def passG (t:List (List Int)) (m:Int) (f:List (List Int)) (i:Nat) (g:List Int):List Int:=(List.range i).foldl (fun g x=>rowG t m f x t.length g) g
theorem rowG_step (t:List (List Int)) (m:Int) (f:List (List Int)) (x j:Nat) (g:List Int):rowG t m f x (j+1) g=sg t m f (rowG t m f x j g) x j:=by
 simp [rowG,List.range_succ,List.foldl_append]
theorem passG_step (t:List (List Int)) (m:Int) (f:List (List Int)) (i:Nat) (g:List Int):passG t m f (i+1) g=rowG t m f i t.length (passG t m f i g):=by
 simp [passG,List.range_succ,List.foldl_append]
def negs (g:List Int):Nat:=g.countP fun x=>decide (x<0)
theorem negs_set {g:List Int} {k:Nat} {v:Int} (hk:k<g.length) (h:g.getD k 0<0) (hv:0≤v):negs (g.set k v)+1=negs g:=by
 have e:g=g.take k++g.getD k 0::g.drop (k+1):=by
  rw [←drop_cons' g 0 k hk,List.take_append_drop]
 have e2:g.set k v=g.take k++v::g.drop (k+1):=by
  conv=>lhs;rw [e]
  exact at_set _ _ _ _ _ (by rw [List.length_take];omega)
 rw [e2]
 conv=>rhs;rw [e]
 simp only [negs,List.countP_append,List.countP_cons]
 rw [if_neg (by simpa using hv),if_pos (by simpa using h)]
 omega
theorem sg_length (t:List (List Int)) (m:Int) (f:List (List Int)) (g:List Int) (x y:Nat):(sg t m f g x y).length=g.length:=by
 unfold sg
 split
 ·simp
 ·split <;> simp
theorem rowG_length (t:List (List Int)) (m:Int) (f:List (List Int)) (x:Nat) (g:List Int):∀j,(rowG t m f x j g).length=g.length
 | 0=>rfl
 | j+1=>by rw [rowG_step,sg_length,rowG_length t m f x g j]
theorem passG_length (t:List (List Int)) (m:Int) (f:List (List Int)) (g:List Int):∀i,(passG t m f i g).length=g.length
 | 0=>rfl
 | i+1=>by rw [passG_step,rowG_length,passG_length t m f g i]
def growG (t:List (List Int)) (m:Int) (f:List (List Int)):Nat→List Int→List Int
 | 0,g=>g
 | k+1,g=>if passG t m f t.length g=g then g else growG t m f k (passG t m f t.length g)
def valB (m:Int) (g:List Int):Prop:=∀k,k<g.length→-1≤g.getD k 0∧g.getD k 0≤m - 1
theorem valB_set {m:Int} {g:List Int} (h:valB m g) {k:Nat} {v:Int} (hv:0≤v∧v≤m - 1):valB m (g.set k v):=fun i hi=>by
 rw [List.length_set] at hi
 rw [getD_set _ _ _ _ hi]
 split
 ·omega
 ·exact h i hi
theorem sg_val {t:List (List Int)} {m:Int} {f:List (List Int)} {g:List Int} (h1:tabB t=true) (h2:matB (t.length:Int) m f=true) (h3:valB m g) (hl:g.length=t.length) (x y:Nat) (hx:x<t.length) (hy:y<t.length) :
  valB m (sg t m f g x y):=by
 obtain ⟨n1,n2,ht⟩:=tabB_of h1
 obtain ⟨m1,m2,m3,hf⟩:=matB_of h2
 have a:=(ht x hx).2 y hy
 have b:=hf x (by omega)
 have c:=b.2 y (by omega)
 have d:=h3 y (by omega)
 have e:=h3 (en t x y).toNat (by unfold en;omega)
 unfold sg
 split
 ·rename_i h
  exact valB_set h3 (tmod_in (by unfold en at *;omega) m1)
 ·split
  ·rename_i h
   exact valB_set h3 (tmod_in (by unfold en at *;omega) m1)
  ·exact h3
theorem sg_negs {t:List (List Int)} {m:Int} {f:List (List Int)} {g:List Int} (h1:tabB t=true) (h2:matB (t.length:Int) m f=true) (h3:valB m g) (hl:g.length=t.length) (x y:Nat) (hx:x<t.length) (hy:y<t.length) :
  sg t m f g x y=g∨negs (sg t m f g x y)+1=negs g:=by
 obtain ⟨n1,n2,ht⟩:=tabB_of h1
 obtain ⟨m1,m2,m3,hf⟩:=matB_of h2
 have a:=(ht x hx).2 y hy
 have b:=hf x (by omega)
 have c:=b.2 y (by omega)
 have d:=h3 y (by omega)
 have e:=h3 (en t x y).toNat (by unfold en;omega)
 have k:(en t x y).toNat<g.length:=by unfold en;omega
 unfold sg
 split
 ·rename_i h
  exact .inr (negs_set k h.2 (tmod_in (by unfold en at *;omega) m1).1)
 ·split
  ·rename_i h
   exact .inr (negs_set (by omega) h.2 (tmod_in (by unfold en at *;omega) m1).1)
  ·exact .inl rfl
theorem sg_keep (t:List (List Int)) (m:Int) (f:List (List Int)) (g:List Int) (x y k:Nat) (hk:k<g.length) (h:0≤g.getD k 0):(sg t m f g x y).getD k 0=g.getD k 0:=by
 unfold sg
 split
 ·rename_i h2
  rw [getD_set _ _ _ _ hk,if_neg]
  rintro rfl
  omega
 ·split
  ·rename_i h2
   rw [getD_set _ _ _ _ hk,if_neg]
   rintro rfl
   omega
  ·rfl
structure Good (t:List (List Int)) (m:Int) (f:List (List Int)) (g:List Int):Prop where
 tab:tabB t=true
 mat:matB (t.length:Int) m f=true
 val:valB m g
 len:g.length=t.length
def Later (g h:List Int):Prop:=h=g∨negs h<negs g
theorem Later.trans {a b c:List Int} (h:Later a b) (k:Later b c):Later a c:=by
 rcases h with rfl | h
 ·exact k
 ·rcases k with rfl | k
  ·exact .inr h
  ·exact .inr (by omega)
theorem sg_good {t:List (List Int)} {m:Int} {f:List (List Int)} {g:List Int} (h:Good t m f g) (x y:Nat) (hx:x<t.length) (hy:y<t.length):Good t m f (sg t m f g x y)∧Later g (sg t m f g x y):=by
 refine ⟨⟨h.tab,h.mat,sg_val h.tab h.mat h.val h.len x y hx hy,by rw [sg_length,h.len]⟩,?_⟩
 rcases sg_negs h.tab h.mat h.val h.len x y hx hy with e | e
 ·exact .inl e
 ·exact .inr (by omega)
theorem rowG_good {t:List (List Int)} {m:Int} {f:List (List Int)} {g:List Int} (h:Good t m f g) (x:Nat) (hx:x<t.length):∀j,j≤t.length→Good t m f (rowG t m f x j g)∧Later g (rowG t m f x j g)
 | 0,_=>⟨h,.inl rfl⟩
 | j+1,hj=>by
  obtain ⟨a,b⟩:=rowG_good h x hx j (by omega)
  obtain ⟨c,d⟩:=sg_good a x j hx (by omega)
  rw [rowG_step]
  exact ⟨c,b.trans d⟩
theorem passG_good {t:List (List Int)} {m:Int} {f:List (List Int)} {g:List Int} (h:Good t m f g):∀i,i≤t.length→Good t m f (passG t m f i g)∧Later g (passG t m f i g)
 | 0,_=>⟨h,.inl rfl⟩
 | i+1,hi=>by
  obtain ⟨a,b⟩:=passG_good h i (by omega)
  obtain ⟨c,d⟩:=rowG_good a i (by omega) t.length (Nat.le_refl _)
  rw [passG_step]
  exact ⟨c,b.trans d⟩
theorem growG_fuel {t:List (List Int)} {m:Int} {f:List (List Int)}:∀{k l:Nat} {g:List Int},Good t m f g→negs g<k→negs g<l→growG t m f k g=growG t m f l g
 | 0,_,_,_,h,_=>by omega
 | _+1,0,_,_,_,h=>by omega
 | k+1,l+1,g,h,hk,hl=>by
  simp only [growG]
  obtain ⟨a,b⟩:=passG_good h t.length (Nat.le_refl _)
  split
  ·rfl
  ·rename_i hn
   have:=b.resolve_left hn
   exact growG_fuel a (by omega) (by omega)
def growF (t:List (List Int)) (m:Int) (f:List (List Int)) (g:List Int):List Int:=growG t m f (negs g+1) g
theorem growF_step {t:List (List Int)} {m:Int} {f:List (List Int)} {g:List Int} (h:Good t m f g):growF t m f g=if passG t m f t.length g=g then g else growF t m f (passG t m f t.length g):=by
 obtain ⟨a,b⟩:=passG_good h t.length (Nat.le_refl _)
 conv=>lhs;unfold growF
 simp only [growG]
 split
 ·rfl
 ·rename_i hn
  exact growG_fuel a (b.resolve_left hn) (by omega)
def srcN (t:List (List Int)) (m:Int) (f:List (List Int)):Nat→List Int
 | 0=>List.replicate t.length (-1)
 | i+1=>if 0≤(srcN t m f i).getD i 0 then srcN t m f i else growF t m f ((srcN t m f i).set i 0)
def lkB (t:List (List Int)) (m:Int) (f:List (List Int)) (g:List Int) (x y:Nat):Bool :=
 decide (0≤g.getD y 0∧0≤g.getD (en t x y).toNat 0∧(g.getD y 0+en f x y).tmod m≠g.getD (en t x y).toNat 0)
def rowK (t:List (List Int)) (m:Int) (f:List (List Int)) (x j:Nat) (g:List Int):Bool:=(List.range j).all fun y=>!lkB t m f (rowG t m f x y g) x y
def passK (t:List (List Int)) (m:Int) (f:List (List Int)) (i:Nat) (g:List Int):Bool:=(List.range i).all fun x=>rowK t m f x t.length (passG t m f x g)
def growK (t:List (List Int)) (m:Int) (f:List (List Int)):Nat→List Int→Bool
 | 0,_=>true
 | k+1,g=>passK t m f t.length g&&(if passG t m f t.length g=g then true else growK t m f k (passG t m f t.length g))
def growKF (t:List (List Int)) (m:Int) (f:List (List Int)) (g:List Int):Bool:=growK t m f (negs g+1) g
def srcK (t:List (List Int)) (m:Int) (f:List (List Int)):Nat→Bool
 | 0=>true
 | i+1=>srcK t m f i&&(if 0≤(srcN t m f i).getD i 0 then true else growKF t m f ((srcN t m f i).set i 0))
theorem rowK_step (t:List (List Int)) (m:Int) (f:List (List Int)) (x j:Nat) (g:List Int):rowK t m f x (j+1) g=(rowK t m f x j g&&!lkB t m f (rowG t m f x j g) x j):=by
 simp [rowK,List.range_succ]
theorem passK_step (t:List (List Int)) (m:Int) (f:List (List Int)) (i:Nat) (g:List Int):passK t m f (i+1) g=(passK t m f i g&&rowK t m f i t.length (passG t m f i g)):=by
 simp [passK,List.range_succ]
theorem all_range_false {p:Nat→Bool} {i j:Nat} (h:i≤j) (e:(List.range i).all p=false):(List.range j).all p=false:=by
 rw [List.all_eq_false] at e ⊢
 obtain ⟨x,hx,hp⟩:=e
 exact ⟨x,by rw [List.mem_range] at *;omega,hp⟩
theorem rowK_bad {t:List (List Int)} {m:Int} {f:List (List Int)} {x j:Nat} {g:List Int} (hj:j<t.length) (h:lkB t m f (rowG t m f x j g) x j=true):rowK t m f x t.length g=false :=
 all_range_false (i:=j+1) (by omega) (by have:=rowK_step t m f x j g;unfold rowK at this;rw [this,h];simp)
theorem passK_bad {t:List (List Int)} {m:Int} {f:List (List Int)} {i:Nat} {g:List Int} (hi:i<t.length) (h:rowK t m f i t.length (passG t m f i g)=false):passK t m f t.length g=false :=
 all_range_false (i:=i+1) (by omega) (by have:=passK_step t m f i g;unfold passK at this;rw [this,h];simp)
theorem growK_fuel {t:List (List Int)} {m:Int} {f:List (List Int)}:∀{k l:Nat} {g:List Int},Good t m f g→negs g<k→negs g<l→growK t m f k g=growK t m f l g
 | 0,_,_,_,h,_=>by omega
 | _+1,0,_,_,_,h=>by omega
 | k+1,l+1,g,h,hk,hl=>by
  simp only [growK]
  obtain ⟨a,b⟩:=passG_good h t.length (Nat.le_refl _)
  congr 1
  split
  ·rfl
  ·rename_i hn
   have:=b.resolve_left hn
   exact growK_fuel a (by omega) (by omega)
theorem growKF_step {t:List (List Int)} {m:Int} {f:List (List Int)} {g:List Int} (h:Good t m f g) :
  growKF t m f g=(passK t m f t.length g&&(if passG t m f t.length g=g then true else growKF t m f (passG t m f t.length g))):=by
 obtain ⟨a,b⟩:=passG_good h t.length (Nat.le_refl _)
 conv=>lhs;unfold growKF
 simp only [growK]
 congr 1
 split
 ·rfl
 ·rename_i hn
  exact growK_fuel a (b.resolve_left hn) (by omega)
def Stay (g h:List Int):Prop:=h.length=g.length∧∀k,k<g.length→0≤g.getD k 0→h.getD k 0=g.getD k 0
theorem Stay.refl (g:List Int):Stay g g:=⟨rfl,fun _ _ _=>rfl⟩
theorem Stay.trans {a b c:List Int} (h:Stay a b) (k:Stay b c):Stay a c:=⟨k.1.trans h.1,fun i hi h0=>by
 have:=h.2 i hi h0
 rw [k.2 i (by rw [h.1];exact hi) (by omega),this]⟩
theorem sg_stay (t:List (List Int)) (m:Int) (f:List (List Int)) (g:List Int) (x y:Nat):Stay g (sg t m f g x y) :=
 ⟨sg_length t m f g x y,fun k hk h=>sg_keep t m f g x y k hk h⟩
theorem rowG_stay (t:List (List Int)) (m:Int) (f:List (List Int)) (x:Nat) (g:List Int) (i:Nat):∀j,Stay (rowG t m f x i g) (rowG t m f x (i+j) g)
 | 0=>Stay.refl _
 | j+1=>by
  rw [←Nat.add_assoc,rowG_step]
  exact (rowG_stay t m f x g i j).trans (sg_stay _ _ _ _ _ _)
theorem passG_stay (t:List (List Int)) (m:Int) (f:List (List Int)) (g:List Int) (i:Nat):∀j,Stay (passG t m f i g) (passG t m f (i+j) g)
 | 0=>Stay.refl _
 | j+1=>by
  rw [←Nat.add_assoc,passG_step]
  refine (passG_stay t m f g i j).trans ?_
  have:=rowG_stay t m f (i+j) (passG t m f (i+j) g) 0 t.length
  rwa [Nat.zero_add] at this
theorem passG_stay0 (t:List (List Int)) (m:Int) (f:List (List Int)) (g:List Int) (i:Nat):Stay g (passG t m f i g):=by
 have:=passG_stay t m f g 0 i
 rwa [Nat.zero_add] at this
theorem growG_stay (t:List (List Int)) (m:Int) (f:List (List Int)):∀(k:Nat) (g:List Int),Stay g (growG t m f k g)
 | 0,g=>Stay.refl _
 | k+1,g=>by
  simp only [growG]
  split
  ·exact Stay.refl _
  ·exact (passG_stay0 t m f g _).trans (growG_stay t m f k _)
theorem growG_good {t:List (List Int)} {m:Int} {f:List (List Int)}:∀(k:Nat) {g:List Int},Good t m f g→Good t m f (growG t m f k g)
 | 0,g,h=>h
 | k+1,g,h=>by
  simp only [growG]
  split
  ·exact h
  ·exact growG_good k (passG_good h _ (Nat.le_refl _)).1
theorem set0_good {t:List (List Int)} {m:Int} {f:List (List Int)} {g:List Int} (h:Good t m f g) (s:Nat):Good t m f (g.set s 0) :=
 ⟨h.tab,h.mat,valB_set h.val (by have:=(matB_of h.mat).1;omega),by rw [List.length_set,h.len]⟩
theorem srcN_good {t:List (List Int)} {m:Int} {f:List (List Int)} (h1:tabB t=true) (h2:matB (t.length:Int) m f=true):∀i,Good t m f (srcN t m f i)
 | 0=>⟨h1,h2,fun k hk=>by
   have:=(matB_of h2).1
   simp only [srcN,List.length_replicate] at hk ⊢
   simp [List.getD_eq_getElem?_getD,hk];omega,by simp [srcN]⟩
 | i+1=>by
  simp only [srcN]
  split
  ·exact srcN_good h1 h2 i
  ·exact growG_good _ (set0_good (srcN_good h1 h2 i) i)
theorem set0_stay {g:List Int} {s:Nat} (h:g.getD s 0<0):Stay g (g.set s 0):=⟨by simp,fun k hk h0=>by
 rw [getD_set _ _ _ _ hk,if_neg]
 rintro rfl
 omega⟩
theorem srcN_stay1 (t:List (List Int)) (m:Int) (f:List (List Int)) (i:Nat):Stay (srcN t m f i) (srcN t m f (i+1)):=by
 simp only [srcN]
 split
 ·exact Stay.refl _
 ·rename_i h
  exact (set0_stay (by omega)).trans (growG_stay _ _ _ _ _)
theorem srcN_stay (t:List (List Int)) (m:Int) (f:List (List Int)) (i:Nat):∀j,Stay (srcN t m f i) (srcN t m f (i+j))
 | 0=>Stay.refl _
 | j+1=>(srcN_stay t m f i j).trans (srcN_stay1 t m f (i+j))
theorem srcN_set {t:List (List Int)} {m:Int} {f:List (List Int)} (h1:tabB t=true) (h2:matB (t.length:Int) m f=true) (i:Nat) (hi:i<t.length):0≤(srcN t m f t.length).getD i 0:=by
 have g:=srcN_good h1 h2 i
 have a:0≤(srcN t m f (i+1)).getD i 0:=by
  simp only [srcN]
  split
  ·assumption
  ·have e:((srcN t m f i).set i 0).getD i 0=0:=by rw [getD_set _ _ _ _ (by rw [g.len];exact hi),if_pos rfl]
   have:=(growG_stay t m f (negs ((srcN t m f i).set i 0)+1) ((srcN t m f i).set i 0)).2 i (by rw [List.length_set,g.len];exact hi) (by omega)
   unfold growF
   omega
 have b:=srcN_stay t m f (i+1) (t.length - (i+1))
 rw [show i+1+(t.length - (i+1))=t.length by omega] at b
 have:=b.2 i (by rw [(srcN_good h1 h2 (i+1)).len];exact hi) a
 omega
theorem srcN_shift {t:List (List Int)} {m:Int} {f:List (List Int)} (h1:tabB t=true) (h2:matB (t.length:Int) m f=true):shiftB (t.length:Int) m (srcN t m f t.length)=true:=by
 have g:=srcN_good h1 h2 t.length
 have e:=(matB_of h2)
 simp only [shiftB,numsB,Bool.and_eq_true,decide_eq_true_eq]
 refine ⟨⟨e.1,e.2.1⟩,?_,by rw [g.len]⟩
 rw [allW,List.all_eq_true]
 intro x hx
 obtain ⟨k,hk,rfl⟩:=List.getElem_of_mem hx
 have v:=g.val k hk
 have n:=srcN_set h1 h2 k (by rw [←g.len];exact hk)
 rw [List.getD_eq_getElem?_getD,List.getElem?_eq_getElem hk] at v n
 simp only [Option.getD_some] at v n
 simp only [decide_eq_true_eq]
 omega
theorem growK_false {t:List (List Int)} {m:Int} {f:List (List Int)}:∀(k:Nat) {g:List Int},Good t m f g→growK t m f k g=false →
  ∃h x y,x<t.length∧y<t.length∧Good t m f h∧lkB t m f h x y=true∧Stay h (growG t m f k g)
 | 0,g,_,h=>by cases h
 | k+1,g,hg,h=>by
  simp only [growK,Bool.and_eq_false_iff] at h
  have last:Stay (passG t m f t.length g) (growG t m f (k+1) g):=by
   simp only [growG]
   split
   ·rename_i e;rw [e];exact Stay.refl _
   ·exact growG_stay _ _ _ _ _
  rcases h with h | h
  ·rw [passK,List.all_eq_false] at h
   obtain ⟨x,hx,h⟩:=h
   rw [List.mem_range] at hx
   rw [Bool.not_eq_true,rowK,List.all_eq_false] at h
   obtain ⟨y,hy,h⟩:=h
   rw [List.mem_range] at hy
   refine ⟨rowG t m f x y (passG t m f x g),x,y,hx,hy,(rowG_good (passG_good hg x (by omega)).1 x hx y (by omega)).1,by simpa using h,?_⟩
   have a:=rowG_stay t m f x (passG t m f x g) y (t.length - y)
   rw [show y+(t.length - y)=t.length by omega,←passG_step] at a
   have b:=passG_stay t m f g (x+1) (t.length - (x+1))
   rw [show x+1+(t.length - (x+1))=t.length by omega] at b
   exact (a.trans b).trans last
  ·split at h
   ·cases h
   ·rename_i hn
    obtain ⟨w,x,y,hx,hy,hw,hl,hs⟩:=growK_false k (passG_good hg _ (Nat.le_refl _)).1 h
    refine ⟨w,x,y,hx,hy,hw,hl,?_⟩
    simp only [growG,if_neg hn]
    exact hs
theorem srcK_false {t:List (List Int)} {m:Int} {f:List (List Int)} (h1:tabB t=true) (h2:matB (t.length:Int) m f=true):∀(i:Nat),srcK t m f i=false →
  ∃h x y,x<t.length∧y<t.length∧Good t m f h∧lkB t m f h x y=true∧Stay h (srcN t m f i)
 | 0,h=>by cases h
 | i+1,h=>by
  simp only [srcK,Bool.and_eq_false_iff] at h
  rcases h with h | h
  ·obtain ⟨w,x,y,hx,hy,hw,hl,hs⟩:=srcK_false h1 h2 i h
   exact ⟨w,x,y,hx,hy,hw,hl,hs.trans (srcN_stay1 t m f i)⟩
  ·split at h
   ·cases h
   ·rename_i hn
    obtain ⟨w,x,y,hx,hy,hw,hl,hs⟩:=growK_false _ (set0_good (srcN_good h1 h2 i) i) h
    refine ⟨w,x,y,hx,hy,hw,hl,?_⟩
    simp only [srcN,if_neg hn]
    exact hs
theorem srcK_not {t:List (List Int)} {m:Int} {f:List (List Int)} (h1:tabB t=true) (h2:matB (t.length:Int) m f=true) {i:Nat} (hi:i≤t.length) (h:srcK t m f i=false) :
  tabR t.length (cbF t m (srcN t m f t.length))≠f:=by
 intro e
 obtain ⟨w,x,y,hx,hy,hw,hl,hs⟩:=srcK_false h1 h2 i h
 have b:=srcN_stay t m f i (t.length - i)
 rw [show i+(t.length - i)=t.length by omega] at b
 have s:=hs.trans b
 have G:=srcN_good h1 h2 t.length
 obtain ⟨n1,n2,ht⟩:=tabB_of h1
 obtain ⟨m1,m2,m3,hf⟩:=matB_of h2
 have a:=(ht x hx).2 y hy
 simp only [lkB,decide_eq_true_eq] at hl
 obtain ⟨l1,l2,l3⟩:=hl
 have hz:(en t x y).toNat<w.length:=by rw [hw.len];unfold en;omega
 have s1:=s.2 y (by rw [hw.len];exact hy) l1
 have s2:=s.2 (en t x y).toNat hz l2
 have v1:=hw.val y (by rw [hw.len];exact hy)
 have v2:=hw.val _ hz
 have ef:en f x y=cbF t m (srcN t m f t.length) x y:=by
  conv=>lhs;rw [←e]
  unfold en
  rw [tabR_getD _ _ _ hx,tab_getD _ _ _ hy]
 apply l3
 rw [ef,cbF]
 rw [show ((t.getD x []).getD y 0)=en t x y from rfl,s1,s2]
 by_cases c:w.getD y 0≤w.getD (en t x y).toNat 0
 ·have e1:(w.getD (en t x y).toNat 0 - w.getD y 0+m).tmod m=w.getD (en t x y).toNat 0 - w.getD y 0:=by
   rw [Int.tmod_eq_emod_of_nonneg (by omega),Int.add_emod_right,Int.emod_eq_of_lt (by omega) (by omega)]
  rw [e1,show w.getD y 0+(w.getD (en t x y).toNat 0 - w.getD y 0)=w.getD (en t x y).toNat 0 by omega,Int.tmod_eq_emod_of_nonneg (by omega),Int.emod_eq_of_lt (by omega) (by omega)]
 ·have e1:(w.getD (en t x y).toNat 0 - w.getD y 0+m).tmod m=w.getD (en t x y).toNat 0 - w.getD y 0+m:=by
   rw [Int.tmod_eq_emod_of_nonneg (by omega),Int.emod_eq_of_lt (by omega) (by omega)]
  rw [e1,show w.getD y 0+(w.getD (en t x y).toNat 0 - w.getD y 0+m)=w.getD (en t x y).toNat 0+m by omega,Int.tmod_eq_emod_of_nonneg (by omega),Int.add_emod_right,Int.emod_eq_of_lt (by omega) (by omega)]
end Go.Sx
