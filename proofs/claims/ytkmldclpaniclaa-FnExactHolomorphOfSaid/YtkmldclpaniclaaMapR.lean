/- MapR -/
import Derived.Test.YtkmldclpaniclaaMapQ
open Go Go.Proofs
namespace Go.Sx
set_option linter.unusedSimpArgs false
set_option linter.unusedVariables false
def ftZ (a b:List (List (List Int))) (f:List Int) (k x y:Nat):Bool :=
 decide ((f.length:Int) - 1<en (a.getD k []) x y)||(decide ((x:Int)<(f.length:Int) - 1)&&(decide ((y:Int)<(f.length:Int) - 1)&&decide (en (a.getD k []) x y<(f.length:Int) - 1))) ||
  decide (f.getD (en (a.getD k []) x y).toNat 0=en (b.getD k []) (f.getD x 0).toNat (f.getD y 0).toNat)
def ftY (a b:List (List (List Int))) (f:List Int) (k x:Nat):Bool:=(List.range f.length).all (ftZ a b f k x)
def ftX (a b:List (List (List Int))) (f:List Int) (k:Nat):Bool:=(List.range f.length).all (ftY a b f k)
def ftB (a b:List (List (List Int))) (f:List Int):Bool:=(List.range a.length).all (ftX a b f)
def okM (a b:List (List (List Int))) (f:List Int):Prop:=∀k x y,k<a.length→x<f.length→y<f.length→en (a.getD k []) x y<(f.length:Int) →
 f.getD (en (a.getD k []) x y).toNat 0=en (b.getD k []) (f.getD x 0).toNat (f.getD y 0).toNat
theorem ftB_iff {a b:List (List (List Int))} {f:List Int}:ftB a b f=true↔∀k x y,k<a.length→x<f.length→y<f.length→ftZ a b f k x y=true:=by
 simp only [ftB,ftX,ftY,List.all_eq_true,List.mem_range]
 exact ⟨fun h k x y hk hx hy=>h k hk x hx y hy,fun h k hk x hx y hy=>h k x y hk hx hy⟩
theorem okM_snoc {n:Nat} {a b:List (List (List Int))} (ha:tsN n a) {f:List Int} {y:Int} (hf:f.length<n):okM a b (f++[y])↔okM a b f∧ftB a b (f++[y])=true:=by
 have L:(f++[y]).length=f.length+1:=by simp
 have lo:∀i,i<f.length→(f++[y]).getD i 0=f.getD i 0:=fun i hi=>getD_append_left' _ _ _ _ hi
 constructor
 ·intro h
  refine ⟨fun k x z hk hx hz hv=>?_,ftB_iff.2 fun k x z hk hx hz=>?_⟩
  ·have h0:=(((ha k hk).2 x (by omega)).2 z (by omega)).1
   have:=h k x z hk (by omega) (by omega) (by omega)
   rwa [lo _ (by omega),lo _ hx,lo _ hz] at this
  ·rw [ftZ,Bool.or_eq_true,Bool.or_eq_true]
   by_cases q:en (a.getD k []) x z<((f++[y]).length:Int)
   ·exact .inr (decide_eq_true (h k x z hk hx hz q))
   ·exact .inl (.inl (decide_eq_true (by omega)))
 ·rintro ⟨h1,h2⟩ k x z hk hx hz hv
  have h3:=ftB_iff.1 h2 k x z hk hx hz
  rw [ftZ,Bool.or_eq_true,Bool.or_eq_true] at h3
  rcases h3 with (h3 | h3) | h3
  ·have:=of_decide_eq_true h3;omega
  ·rw [Bool.and_eq_true,Bool.and_eq_true,decide_eq_true_eq,decide_eq_true_eq,decide_eq_true_eq] at h3
   obtain ⟨q1,q2,q3⟩:=h3
   have h0:=(((ha k hk).2 x (by omega)).2 z (by omega)).1
   rw [lo _ (by omega),lo _ (by omega),lo _ (by omega)]
   exact h1 k x z hk (by omega) (by omega) (by omega)
  ·exact of_decide_eq_true h3
structure isoL (n:Nat) (a b:List (List (List Int))) (g:List Int):Prop where
 len:g.length=n
 rng:∀i,i<n→0≤g.getD i 0∧g.getD i 0<(n:Int)
 nd:g.Nodup
 ok:okM a b g
theorem isoL.g {n:Nat} {a b:List (List (List Int))} {g:List Int} (h:isoL n a b g) (ha:tsN n a):IsoG n a b fun x=>(g.getD x 0).toNat where
 lt x hx:=by have:=h.rng x hx;omega
 inj x y hx hy e:=by
  have h1:=h.rng x hx
  have h2:=h.rng y hy
  have e:g.getD x 0=g.getD y 0:=by omega
  have l:=h.len
  rw [getD_lt g 0 x (by omega),getD_lt g 0 y (by omega)] at e
  exact (List.getElem_inj h.nd).1 e
 map k x y hk hx hy:=by
  have hv:=((ha k hk).2 x hx).2 y hy
  have l:=h.len
  rw [←h.ok k x y hk (by omega) (by omega) (by omega)]
  have:=h.rng (en (a.getD k []) x y).toNat (by omega)
  omega
def exL (n:Nat) (a b:List (List (List Int))):Nat→List Int→List (List Int)
 | 0,f=>[f]
 | k+1,f=>(List.range n).flatMap fun y:Nat=>if (y:Int)∈f∨ftB a b (f++[(y:Int)])=false then [] else exL n a b k (f++[(y:Int)])
structure preL (n:Nat) (a b:List (List (List Int))) (f:List Int):Prop where
 rng:∀i,i<f.length→0≤f.getD i 0∧f.getD i 0<(n:Int)
 nd:f.Nodup
 ok:okM a b f
theorem preL.snoc {n:Nat} {a b:List (List (List Int))} (ha:tsN n a) {f:List Int} (h:preL n a b f) {y:Nat} (hf:f.length<n) (hy:y<n) (h1:¬ (y:Int)∈f) (h2:ftB a b (f++[(y:Int)])=true):preL n a b (f++[(y:Int)]) where
 rng i hi:=by
  simp at hi
  by_cases q:i<f.length
  ·rw [getD_append_left' _ _ _ _ q];exact h.rng i q
  ·rw [getD_append_right' _ _ _ _ (by omega),show i - f.length=0 by omega]
   simp;omega
 nd:=by rw [List.nodup_append];exact ⟨h.nd,by simp,fun x hx z hz=>by simp at hz;subst hz;intro e;subst e;exact h1 hx⟩
 ok:=(okM_snoc ha hf).2 ⟨h.ok,h2⟩
theorem exL_pre (n:Nat) (a b:List (List (List Int))):∀(k:Nat) (f g:List Int),g∈exL n a b k f→f <+: g∧g.length=f.length+k
 | 0,f,g,h=>by simp [exL] at h;subst h;exact ⟨List.prefix_refl _,rfl⟩
 | k+1,f,g,h=>by
  rw [exL] at h
  obtain ⟨y,_,h⟩:=List.mem_flatMap.1 h
  split at h
  ·cases h
  ·obtain ⟨h1,h2⟩:=exL_pre n a b k _ g h
   exact ⟨(List.prefix_append f [(y:Int)]).trans h1,by rw [h2];simp;omega⟩
theorem exL_iso {n:Nat} {a b:List (List (List Int))} (ha:tsN n a):∀(k:Nat) (f g:List Int),f.length+k=n→preL n a b f→g∈exL n a b k f→isoL n a b g
 | 0,f,g,hl,hp,h=>by
  simp [exL] at h;subst h
  exact ⟨by omega,fun i hi=>hp.rng i (by omega),hp.nd,hp.ok⟩
 | k+1,f,g,hl,hp,h=>by
  rw [exL] at h
  obtain ⟨y,hy,h⟩:=List.mem_flatMap.1 h
  split at h
  ·cases h
  ·rename_i hc
   exact exL_iso ha k _ g (by simp;omega) (hp.snoc ha (by omega) (List.mem_range.1 hy) (fun q=>hc (.inl q)) (by cases e:ftB a b (f++[(y:Int)]);exact absurd (.inr e) hc;rfl)) h
theorem okM_take {a b:List (List (List Int))} {n:Nat} (ha:tsN n a) {g:List Int} (hg:g.length=n) (h:okM a b g) (i:Nat) (hi:i≤n):okM a b (g.take i):=fun k x y hk hx hy hv=>by
 rw [List.length_take] at hx hy hv
 have h0:=(((ha k hk).2 x (by omega)).2 y (by omega)).1
 rw [take_getD _ _ _ _ (by omega),take_getD _ _ _ _ (by omega),take_getD _ _ _ _ (by omega)]
 exact h k x y hk (by omega) (by omega) (by omega)
theorem exL_all {n:Nat} {a b:List (List (List Int))} (ha:tsN n a) {g:List Int} (h:isoL n a b g):∀(k i:Nat),i+k=n→g∈exL n a b k (g.take i)
 | 0,i,hi=>by
  have:=h.len
  rw [List.take_of_length_le (by omega)];simp [exL]
 | k+1,i,hi=>by
  have L:=h.len
  have r:=h.rng i (by omega)
  have e:g.take (i+1)=g.take i++[(((g.getD i 0).toNat:Nat):Int)]:=by rw [Int.toNat_of_nonneg r.1,take_snoc g 0 i (by omega)]
  rw [exL]
  refine List.mem_flatMap.2 ⟨(g.getD i 0).toNat,List.mem_range.2 (by omega),?_⟩
  have ok:=okM_take ha L h.ok (i+1) (by omega)
  rw [e] at ok
  have ok2:=((okM_snoc ha (by rw [List.length_take];omega)).1 ok).2
  rw [if_neg,←e]
  ·exact exL_all ha h k (i+1) (by omega)
  ·rintro (q | q)
   ·have nd:(g.take (i+1)).Nodup:=h.nd.sublist (List.take_sublist _ _)
    rw [e,List.nodup_append] at nd
    exact nd.2.2 _ q _ (by simp) rfl
   ·rw [ok2] at q;cases q
theorem lexB_app:∀(p a b:List Int),lexB (p++a) (p++b)=lexB a b
 | [],_,_=>rfl
 | x::p,a,b=>by rw [List.cons_append,List.cons_append,lexB,if_pos rfl];exact lexB_app p a b
theorem exL_srt (n:Nat) (a b:List (List (List Int))):∀(k:Nat) (f:List Int),srtK (exL n a b k f)
 | 0,f=>by simp [exL,srtK]
 | k+1,f=>by
  rw [exL,srtK,List.pairwise_flatMap]
  refine ⟨fun y _=>?_,?_⟩
  ·split
   ·exact List.Pairwise.nil
   ·exact exL_srt n a b k _
  ·refine List.Pairwise.imp ?_ (List.pairwise_lt_range (n:=n))
   intro y z hyz p hp q hq
   split at hp
   ·cases hp
   ·split at hq
    ·cases hq
    ·obtain ⟨⟨p',e1⟩,_⟩:=exL_pre n a b k _ p hp
     obtain ⟨⟨q',e2⟩,_⟩:=exL_pre n a b k _ q hq
     rw [←e1,←e2,List.append_assoc,List.append_assoc,lexB_app]
     simp only [List.singleton_append,lexB]
     rw [if_neg (by omega)];simp;omega
/- The search. -/
def skY (g:Nat→List (List Int)→List (List Int)) (out:List (List Int)):Nat→List (List Int)
 | 0=>out
 | y+1=>g y (skY g out y)
def skG (n:Nat) (a b:List (List (List Int))) (most:Nat) (rec:List Int→List Int→List Int→List (List Int)→List (List Int)) (f c d:List Int) (y:Nat) (o:List (List Int)):List (List Int) :=
 if o.length<most then
  (if (y:Int)∈f∨¬ c.getD f.length 0=d.getD y 0∨ftB a b (f++[(y:Int)])=false then o
   else match rfL n a b (c.set f.length 60) (d.set y 60) with
    | none=>o
    | some (l,r)=>rec (f++[(y:Int)]) l r o)
 else o
def skF (n:Nat) (a b:List (List (List Int))) (most:Nat):Nat→List Int→List Int→List Int→List (List Int)→List (List Int)
 | 0,f,_,_,out=>out++[f]
 | k+1,f,c,d,out=>skY (skG n a b most (skF n a b most k) f c d) out n
theorem skY_full {n:Nat} {a b:List (List (List Int))} {most:Nat} {rec:List Int→List Int→List Int→List (List Int)→List (List Int)} {f c d:List Int} {out:List (List Int)} {y:Nat} (h:most≤(skY (skG n a b most rec f c d) out y).length) :
  ∀j,skY (skG n a b most rec f c d) out (y+j)=skY (skG n a b most rec f c d) out y
 | 0=>rfl
 | j+1=>by
  rw [←Nat.add_assoc,skY,skG,skY_full h j,if_neg (by omega)]
theorem rfF_len {n:Nat} {a b:List (List (List Int))}:∀(fuel num:Nat) (c d c' d':List Int),rfF n a b fuel num c d=some (c',d')→c'.length=n∧d'.length=n∧(∀x,x<n→0≤c'.getD x 0∧c'.getD x 0<2 * (n:Int))∧∀x,x<n→0≤d'.getD x 0∧d'.getD x 0<2 * (n:Int)
 | 0,num,c,d,c',d',h=>by cases h
 | fuel+1,num,c,d,c',d',h=>by
  rw [rfF] at h
  split at h
  ·cases h
  ·rename_i c1 d1 m e
   have:=rfS_some e
   obtain ⟨l1,l2,l3,_,l5,l6⟩:=this
   split at h
   ·cases h
    exact ⟨l1,l2,fun x hx=>⟨(l5 x hx).1,by have:=(l5 x hx).2;omega⟩,fun x hx=>⟨(l6 x hx).1,by have:=(l6 x hx).2;omega⟩⟩
   ·exact rfF_len fuel m c1 d1 c' d' h
theorem skF_ex {n:Nat} {a b:List (List (List Int))} (ha:tsN n a) (hab:b.length=a.length) {most:Nat}:∀(k:Nat) (f c d:List Int) (out:List (List Int)),f.length+k=n→preL n a b f→c.length=n→d.length=n→out.length<most →
  (∀g,g∈exL n a b k f→∀x,x<n→c.getD x 0=d.getD (g.getD x 0).toNat 0)→skF n a b most k f c d out=out++(exL n a b k f).take (most - out.length)
 | 0,f,c,d,out,hl,hp,hc,hd,ho,hg=>by
  rw [skF,exL,List.take_of_length_le (by simp;omega)]
 | k+1,f,c,d,out,hl,hp,hc,hd,ho,hg=>by
  rw [skF,exL]
  have key:∀y,y≤n→skY (skG n a b most (skF n a b most k) f c d) out y=out++((List.range y).flatMap fun y:Nat=>if (y:Int)∈f∨ftB a b (f++[(y:Int)])=false then [] else exL n a b k (f++[(y:Int)])).take (most - out.length):=fun y=>by
   induction y with
   | zero=>intro _;simp [skY]
   | succ y ih =>
    intro hy
    have ih:=ih (by omega)
    rw [skY,ih,List.range_succ,List.flatMap_append]
    simp only [List.flatMap_cons,List.flatMap_nil,List.append_nil]
    generalize hA:(List.range y).flatMap (fun y:Nat=>if (y:Int)∈f∨ftB a b (f++[(y:Int)])=false then [] else exL n a b k (f++[(y:Int)]))=A
    rw [skG]
    by_cases hlt:(out++A.take (most - out.length)).length<most
    ·rw [if_pos hlt]
     have hA2:A.length<most - out.length:=by rw [List.length_append,List.length_take] at hlt;omega
     rw [List.take_of_length_le (by omega)] at hlt ⊢
     rw [List.take_append,List.take_of_length_le (l:=A) (by omega)]
     by_cases h1:(y:Int)∈f∨ftB a b (f++[(y:Int)])=false
     ·rw [if_pos h1,if_pos (by rcases h1 with h1 | h1;exact .inl h1;exact .inr (.inr h1))]
      simp
     ·rw [if_neg h1]
      have pre':preL n a b (f++[(y:Int)]):=hp.snoc ha (by omega) (by omega) (fun q=>h1 (.inl q)) (by cases e:ftB a b (f++[(y:Int)]);exact absurd (.inr e) h1;rfl)
      have sub:∀g,g∈exL n a b k (f++[(y:Int)])→g∈exL n a b (k+1) f∧g.getD f.length 0=(y:Int):=fun g hg'=>by
       refine ⟨by rw [exL];exact List.mem_flatMap.2 ⟨y,List.mem_range.2 (by omega),by rw [if_neg h1];exact hg'⟩,?_⟩
       obtain ⟨⟨g',e⟩,_⟩:=exL_pre n a b k _ g hg'
       rw [←e,List.append_assoc,getD_append_right' _ _ _ _ (by omega)]
       simp
      by_cases h2:c.getD f.length 0=d.getD y 0
      ·rw [if_neg (by rintro (q | q | q);exact h1 (.inl q);exact q h2;exact h1 (.inr q))]
       have hcc:∀g,g∈exL n a b k (f++[(y:Int)])→∀x,x<n→(c.set f.length 60).getD x 0=(d.set y 60).getD (g.getD x 0).toNat 0:=fun g hg' x hx=>by
        obtain ⟨q1,q2⟩:=sub g hg'
        have iso:=exL_iso ha k _ g (by simp;omega) pre' hg'
        have hi:=(iso.g ha).lt x hx
        have inj:=(iso.g ha).inj x f.length hx (by omega)
        try dsimp only at hi inj
        rw [q2,Int.toNat_natCast] at inj
        rw [getD_set _ _ _ _ (by omega),getD_set _ _ _ _ (by omega)]
        by_cases e:x=f.length
        ·subst e;rw [if_pos rfl,if_pos (by rw [q2];simp)]
        ·rw [if_neg e,if_neg (fun q=>e (inj q))]
         exact hg g q1 x hx
       cases hr:rfL n a b (c.set f.length 60) (d.set y 60) with
       | none =>
        have:exL n a b k (f++[(y:Int)])=[]:=by
         cases hx:exL n a b k (f++[(y:Int)]) with
         | nil=>rfl
         | cons g r =>
          have hg':g∈exL n a b k (f++[(y:Int)]):=by rw [hx];simp
          have iso:=exL_iso ha k _ g (by simp;omega) pre' hg'
          obtain ⟨_,_,e,_⟩:=rfL_g (iso.g ha) ha hab (c:=c.set f.length 60) (d:=d.set y 60) (by simpa using hc) (by simpa using hd) (hcc g hg')
          rw [hr] at e;cases e
        rw [this];simp
       | some lr =>
        obtain ⟨l,r⟩:=lr
        simp only
        obtain ⟨e1,e2,_,_⟩:=rfF_len _ _ _ _ _ _ hr
        rw [skF_ex ha hab k _ l r _ (by simp;omega) pre' e1 e2 hlt fun g hg'=>?_]
        ·rw [List.append_assoc,show most - (out++A).length=most - out.length - A.length by rw [List.length_append];omega]
        ·have iso:=exL_iso ha k _ g (by simp;omega) pre' hg'
         obtain ⟨c',d',e,h3⟩:=rfL_g (iso.g ha) ha hab (c:=c.set f.length 60) (d:=d.set y 60) (by simpa using hc) (by simpa using hd) (hcc g hg')
         rw [hr] at e;cases e
         exact h3
      ·rw [if_pos (.inr (.inl h2))]
       have:exL n a b k (f++[(y:Int)])=[]:=by
        cases hx:exL n a b k (f++[(y:Int)]) with
        | nil=>rfl
        | cons g r =>
         obtain ⟨q1,q2⟩:=sub g (by rw [hx];simp)
         have:=hg g q1 f.length (by omega)
         rw [q2,Int.toNat_natCast] at this
         exact absurd this h2
       rw [this];simp
    ·rw [if_neg hlt]
     have:most - out.length≤A.length:=by rw [List.length_append,List.length_take] at hlt;omega
     rw [List.take_append_of_le_length this]
  exact key n (Nat.le_refl _)
def mpL (n:Nat) (a b:List (List (List Int))) (most:Nat):List (List Int) :=
 if ftB a b [0]=false then [] else match rfL n a b ((List.replicate n 0).set 0 60) ((List.replicate n 0).set 0 60) with
  | none=>[]
  | some (l,r)=>skF n a b most (n - 1) [0] l r []
def auL (n:Nat) (a b:List (List (List Int))):List (List Int):=if ftB a b [0]=false then [] else exL n a b (n - 1) [0]
theorem pre0 {n:Nat} {a b:List (List (List Int))} (ha:tsN n a) (hn:1≤n) (h:ftB a b [0]=true):preL n a b [0] where
 rng i hi:=by simp at hi;subst hi;simp;omega
 nd:=by simp
 ok:=((okM_snoc (f:=[]) (y:=0) ha (by simp;omega)).2 ⟨fun k x y _ hx=>by simp at hx,h⟩)
theorem mpL_eq {n:Nat} {a b:List (List (List Int))} (ha:tsN n a) (hab:b.length=a.length) (hn:1≤n) {most:Nat} (hm:1≤most):mpL n a b most=(auL n a b).take most:=by
 rw [mpL,auL]
 by_cases h:ftB a b [0]=false
 ·rw [if_pos h,if_pos h,List.take_nil]
 ·rw [if_neg h,if_neg h]
  have h':ftB a b [0]=true:=by cases e:ftB a b [0];exact absurd e h;rfl
  have pre:=pre0 ha hn h'
  have l0:((List.replicate n (0:Int)).set 0 60).length=n:=by simp
  have hcc:∀g,g∈exL n a b (n - 1) [0]→isoL n a b g∧∀x,x<n→((List.replicate n (0:Int)).set 0 60).getD x 0=((List.replicate n (0:Int)).set 0 60).getD (g.getD x 0).toNat 0:=fun g hg=>by
   have iso:=exL_iso ha (n - 1) _ g (by simp;omega) pre hg
   obtain ⟨⟨g',e⟩,_⟩:=exL_pre n a b (n - 1) _ g hg
   have g0:g.getD 0 0=0:=by rw [←e];rfl
   refine ⟨iso,fun x hx=>?_⟩
   have hi:=(iso.g ha).lt x hx
   have inj:=(iso.g ha).inj x 0 hx (by omega)
   try dsimp only at hi inj
   rw [g0] at inj
   rw [getD_set _ _ _ _ (by simpa using hx),getD_set _ _ _ _ (by simpa using hi)]
   by_cases ex:x=0
   ·subst ex;rw [if_pos rfl,if_pos (by rw [g0];rfl)]
   ·rw [if_neg ex,if_neg (fun q=>ex (inj (by simpa using q)))]
    have z:∀i,i<n→(List.replicate n (0:Int)).getD i 0=0:=fun i hi=>by simp [List.getD_eq_getElem?_getD,hi]
    rw [z _ hx,z _ hi]
  cases hr:rfL n a b ((List.replicate n 0).set 0 60) ((List.replicate n 0).set 0 60) with
  | none =>
   have:exL n a b (n - 1) [0]=[]:=by
    cases hx:exL n a b (n - 1) [0] with
    | nil=>rfl
    | cons g r =>
     obtain ⟨iso,h2⟩:=hcc g (by rw [hx];simp)
     obtain ⟨_,_,e,_⟩:=rfL_g (iso.g ha) ha hab l0 l0 h2
     rw [hr] at e;cases e
   rw [this,List.take_nil]
  | some lr =>
   obtain ⟨l,r⟩:=lr
   simp only
   obtain ⟨e1,e2,_,_⟩:=rfF_len _ _ _ _ _ _ hr
   rw [skF_ex ha hab (n - 1) [0] l r [] (by simp;omega) pre e1 e2 (by simp;omega) fun g hg=>?_]
   ·simp
   ·obtain ⟨iso,h2⟩:=hcc g hg
    obtain ⟨c',d',e,h3⟩:=rfL_g (iso.g ha) ha hab l0 l0 h2
    rw [hr] at e;cases e
    exact h3
theorem auL_mem {n:Nat} {a b:List (List (List Int))} (ha:tsN n a) (hn:1≤n) {g:List Int}:g∈auL n a b↔isoL n a b g∧g.getD 0 0=0:=by
 constructor
 ·intro h
  rw [auL] at h
  split at h
  ·cases h
  ·rename_i h'
   have h':ftB a b [0]=true:=by cases e:ftB a b [0];exact absurd e h';rfl
   obtain ⟨⟨g',e⟩,_⟩:=exL_pre n a b (n - 1) _ g h
   exact ⟨exL_iso ha (n - 1) _ g (by simp;omega) (pre0 ha hn h') h,by rw [←e];rfl⟩
 ·rintro ⟨h,h0⟩
  have t1:g.take 1=[0]:=by
   have:=h.len
   rw [←take_snoc g 0 0 (by omega),h0];rfl
  have ok:=okM_take ha h.len h.ok 1 hn
  rw [t1] at ok
  have h':=((okM_snoc (f:=[]) (y:=0) ha (by simp;omega)).1 ok).2
  have h':ftB a b [0]=true:=h'
  rw [auL,if_neg (by rw [h'];simp)]
  have:=exL_all ha h (n - 1) 1 (by omega)
  rwa [t1] at this
theorem auL_srt (n:Nat) (a b:List (List (List Int))):srtK (auL n a b):=by
 rw [auL];split
 ·exact List.Pairwise.nil
 ·exact exL_srt _ _ _ _ _
end Go.Sx
