/- GrpA -/
import Derived.Test.YtkmldclpaniclaaMpgA
import Derived.Test.YtkmldclpaniclaaMpgM
open Go Go.Proofs
namespace Go.Sx
set_option linter.unusedSimpArgs false
set_option linter.unusedVariables false
def gM (t:List (List Int)) (x y:Nat):Nat:=(en t x y).toNat
structure GrpT (n:Nat) (t:List (List Int)):Prop where
 tb:tbN n t
 pos:1≤n
 z1:∀x,x<n→gM t 0 x=x
 z2:∀x,x<n→gM t x 0=x
 asc:∀x y z,x<n→y<n→z<n→gM t (gM t x y) z=gM t x (gM t y z)
 can:∀x y z,x<n→y<n→z<n→gM t x y=gM t x z→y=z
 inv:∀x,x<n→∃y,y<n∧gM t x y=0
theorem perm_nodup {l:List Int} (h:permB l=true):l.Nodup:=by
 refine List.pairwise_iff_getElem.2 fun i j hi hj hij e=>?_
 have:=nodupLe (a:=(List.range l.length).map (fun x:Nat=>(x:Int))) (b:=l.eraseIdx j) (List.pairwise_map.2 (List.nodup_range.imp fun hne e=>hne (by omega))) (fun x hx=>by
  obtain ⟨y,hy,rfl⟩:=List.mem_map.1 hx
  have hy:y<l.length:=by simpa using hy
  obtain ⟨k,hk,ek⟩:=List.mem_iff_getElem.1 (perm_has h (x:=(y:Int)) (by omega) (by omega))
  rw [List.mem_eraseIdx_iff_getElem]
  by_cases ej:k=j
  ·subst ej;exact ⟨i,hi,by omega,by rw [e];exact ek⟩
  ·exact ⟨k,hk,ej,ek⟩)
 rw [List.length_map,List.length_range,List.length_eraseIdx] at this
 rw [if_pos hj] at this
 omega
theorem tabB_n {t:List (List Int)} (h:tabB t=true):tbN t.length t:=by
 obtain ⟨_,_,h3⟩:=tabB_of h
 refine ⟨rfl,fun x hx=>⟨(h3 x hx).1,fun y hy=>?_⟩⟩
 have:=(h3 x hx).2 y hy
 simp only [en];omega
theorem grpT_of {t:List (List Int)} (h:grpB t=true):GrpT t.length t:=by
 have htb:=tabB_n (grp_tab h)
 have hpos:=(tabB_of (grp_tab h)).1
 rw [grpB,Bool.and_eq_true,Bool.and_eq_true] at h
 obtain ⟨_,hp,hx⟩:=h
 have hx:∀x,x<t.length→en t 0 x=x∧en t x 0=x∧∀y,y<t.length→∀z,z<t.length→en t (en t x y).toNat z=en t x (en t y z).toNat:=fun x hxl=>by
  have:=List.all_eq_true.1 hx x (by simpa using hxl)
  simp only [gpX,zrX,Bool.and_eq_true,decide_eq_true_eq,asX,asY,asZ,List.all_eq_true,List.mem_range] at this
  exact ⟨this.1.1,this.1.2,fun y hy z hz=>this.2 y hy z hz⟩
 have hperm:∀x,x<t.length→permB (t.getD x [])=true:=fun x hxl=>by
  rw [all_idx,List.all_eq_true] at hp
  exact hp x (by simpa using hxl)
 have row:∀x,x<t.length→(t.getD x []).length=t.length:=fun x hx=>(htb.2 x hx).1
 refine ⟨htb,hpos,fun x hl=>by simp only [gM];rw [(hx x hl).1];simp,fun x hl=>by simp only [gM];rw [(hx x hl).2.1];simp,fun x y z h1 h2 h3=>by simp only [gM];rw [(hx x h1).2.2 y h2 z h3],fun x y z h1 h2 h3 e=>?_,fun x hl=>?_⟩
 ·have hnd:(t.getD x []).Nodup:=perm_nodup (hperm x h1)
  have a1:=(htb.2 x h1).2 y h2
  have a2:=(htb.2 x h1).2 z h3
  have e:en t x y=en t x z:=by simp only [gM] at e;omega
  exact nodup_at hnd (by rw [row x h1];exact h2) (by rw [row x h1];exact h3) e
 ·have:=perm_has (hperm x hl) (x:=0) (by omega) (by rw [row x hl];omega)
  obtain ⟨y,hy,e⟩:=List.mem_iff_getElem.1 this
  exact ⟨y,by rw [←row x hl];exact hy,by rw [gM,en,getD_lt _ _ _ hy,e];rfl⟩
section
variable {n:Nat} {t:List (List Int)}
theorem GrpT.lt (G:GrpT n t) {x y:Nat} (hx:x<n) (hy:y<n):gM t x y<n:=by
 have:=(G.tb.2 x hx).2 y hy
 simp only [gM];omega
theorem GrpT.canR (G:GrpT n t) {x y z:Nat} (hx:x<n) (hy:y<n) (hz:z<n) (e:gM t x z=gM t y z):x=y:=by
 obtain ⟨w,hw,ew⟩:=G.inv z hz
 have h1:=G.asc x z w hx hz hw
 have h2:=G.asc y z w hy hz hw
 rw [ew,G.z2 x hx] at h1
 rw [ew,G.z2 y hy] at h2
 rw [←h1,←h2,e]
def ap (p:List Int) (x:Nat):Nat:=(p.getD x 0).toNat
theorem ap_lt {p:List Int} (h:isoL n [t] [t] p) {x:Nat} (hx:x<n):ap p x<n:=by
 have:=h.rng x hx
 simp only [ap];omega
theorem ap_mul (G:GrpT n t) {p:List Int} (h:isoL n [t] [t] p) {x y:Nat} (hx:x<n) (hy:y<n):ap p (gM t x y)=gM t (ap p x) (ap p y):=by
 have:=(h.g (ts1 G.tb)).map 0 x y (by simp) hx hy
 simp only [List.getD_cons_zero] at this
 show (p.getD (en t x y).toNat 0).toNat=(en t (p.getD x 0).toNat (p.getD y 0).toNat).toNat
 omega
theorem ap_zero (G:GrpT n t) {p:List Int} (h:isoL n [t] [t] p):ap p 0=0:=by
 have hp:=G.pos
 have h0:=ap_lt h (x:=0) (by omega)
 have e:=ap_mul G h (x:=0) (y:=0) (by omega) (by omega)
 rw [G.z1 0 (by omega)] at e
 refine (G.can (ap p 0) (ap p 0) 0 h0 h0 (by omega) ?_)
 rw [←e,G.z2 _ h0]
theorem nodup_lt:∀(n:Nat) (l:List Nat),l.Nodup→(∀x∈l,x<n)→l.length≤n:=fun n l hl h=>by
 have:=nodupLe (a:=l.map (fun x:Nat=>(x:Int))) (b:=(List.range n).map (fun x:Nat=>(x:Int))) (List.pairwise_map.2 (hl.imp fun hne e=>hne (by omega))) (fun x hx=>by
  obtain ⟨y,hy,rfl⟩:=List.mem_map.1 hx
  exact List.mem_map.2 ⟨y,by simpa using h y hy,rfl⟩)
 simpa using this
theorem ap_agree (G:GrpT n t) {p q:List Int} (hp:isoL n [t] [t] p) (hq:isoL n [t] [t] q) (S:List Nat) (hS:∀s∈S,s<n∧ap p s=ap q s) (hnd:S.Nodup) (hl:n<2 * S.length):p=q:=by
 have all:∀y,y<n→ap p y=ap q y:=fun y hy=>Classical.byContradiction fun hne=>by
  have nd:(S++S.map (gM t y)).Nodup:=by
   rw [List.nodup_append]
   refine ⟨hnd,?_,fun a ha b hb e=>?_⟩
   ·refine List.pairwise_map.2 (List.Pairwise.imp_of_mem (fun {a b} ha hb hne2 e=>hne2 ?_) hnd)
    exact G.can y a b hy (hS a ha).1 (hS b hb).1 e
   ·obtain ⟨s,hs,rfl⟩:=List.mem_map.1 hb
    obtain ⟨hs1,hs2⟩:=hS s hs
    have e2:=(hS a ha).2
    rw [e,ap_mul G hp hy hs1,ap_mul G hq hy hs1,hs2] at e2
    exact hne (G.canR (ap_lt hp hy) (ap_lt hq hy) (ap_lt hq hs1) e2)
  have:=nodup_lt n _ nd (fun x hx=>by
   rcases List.mem_append.1 hx with hx | hx
   ·exact (hS x hx).1
   ·obtain ⟨s,hs,rfl⟩:=List.mem_map.1 hx
    exact G.lt hy (hS s hs).1)
  simp only [List.length_append,List.length_map] at this
  omega
 refine list_ext (by rw [hp.len,hq.len]) fun i hi=>?_
 rw [hp.len] at hi
 have:=all i hi
 have h1:=hp.rng i hi
 have h2:=hq.rng i hi
 simp only [ap] at this
 omega
theorem ap_two (G:GrpT n t) (hn:n≤7):∃a b,a<n∧b<n∧∀p q,isoL n [t] [t] p→isoL n [t] [t] q→ap p a=ap q a→ap p b=ap q b→p=q:=by
 have hpos:=G.pos
 by_cases h1:n≤1
 ·exact ⟨0,0,by omega,by omega,fun p q hp hq _ _=>ap_agree G hp hq [0] (fun s hs=>by
   simp only [List.mem_singleton] at hs;subst hs;exact ⟨by omega,by rw [ap_zero G hp,ap_zero G hq]⟩) (by simp) (by simp;omega)⟩
 ·by_cases h3:n≤3
  ·exact ⟨1,1,by omega,by omega,fun p q hp hq e _=>ap_agree G hp hq [0,1] (fun s hs=>by
    simp only [List.mem_cons,List.not_mem_nil,or_false] at hs
    rcases hs with rfl | rfl
    ·exact ⟨by omega,by rw [ap_zero G hp,ap_zero G hq]⟩
    ·exact ⟨by omega,e⟩) (by simp) (by simp;omega)⟩
  ·obtain ⟨v,hv,ev⟩:=G.inv 1 (by omega)
   obtain ⟨b,hb,hb0,hb1,hbv⟩:∃b,b<n∧b≠0∧b≠1∧b≠v:=by
    by_cases e2:v=2
    ·exact ⟨3,by omega,by omega,by omega,by omega⟩
    ·exact ⟨2,by omega,by omega,by omega,by omega⟩
   have hm:=G.lt (x:=1) (y:=b) (by omega) hb
   have m0:gM t 1 b≠0:=fun e=>hbv (G.can 1 b v (by omega) hb hv (by rw [e,ev]))
   have m1:gM t 1 b≠1:=fun e=>hb0 (G.can 1 b 0 (by omega) hb (by omega) (by rw [e,G.z2 1 (by omega)]))
   have mb:gM t 1 b≠b:=fun e=>by
    have:=G.canR (x:=1) (y:=0) (z:=b) (by omega) (by omega) hb (by rw [e,G.z1 b hb])
    omega
   refine ⟨1,b,by omega,hb,fun p q hp hq e1 e2=>ap_agree G hp hq [0,1,b,gM t 1 b] (fun s hs=>?_) ?_ (by simp;omega)⟩
   ·simp only [List.mem_cons,List.not_mem_nil,or_false] at hs
    rcases hs with rfl | rfl | rfl | rfl
    ·exact ⟨by omega,by rw [ap_zero G hp,ap_zero G hq]⟩
    ·exact ⟨by omega,e1⟩
    ·exact ⟨hb,e2⟩
    ·exact ⟨hm,by rw [ap_mul G hp (by omega) hb,ap_mul G hq (by omega) hb,e1,e2]⟩
   ·simp only [List.nodup_cons,List.mem_cons,List.not_mem_nil,or_false,not_or,not_false_eq_true,List.nodup_nil,and_true]
    exact ⟨⟨by omega,fun e=>hb0 e.symm,fun e=>m0 e.symm⟩,⟨fun e=>hb1 e.symm,fun e=>m1 e.symm⟩,fun e=>mb e.symm⟩
theorem auts_len (G:GrpT n t) (hn:n≤7) {L:List (List Int)} (hL:∀p∈L,isoL n [t] [t] p) (hnd:L.Nodup):L.length≤49:=by
 obtain ⟨a,b,ha,hb,hab⟩:=ap_two G hn
 have hp:=G.pos
 have nd:(L.map fun p=>ap p a * n+ap p b).Nodup:=List.pairwise_map.2 (List.Pairwise.imp_of_mem (fun {p q} h1 h2 hne e=>by
  have p1:=ap_lt (hL p h1) ha
  have p2:=ap_lt (hL p h1) hb
  have q1:=ap_lt (hL q h2) ha
  have q2:=ap_lt (hL q h2) hb
  have e1:ap p a=ap q a:=by
   have:=congrArg (· / n) e
   simp only [Nat.mul_comm _ n] at this
   rwa [Nat.mul_add_div (by omega),Nat.mul_add_div (by omega),Nat.div_eq_of_lt p2,Nat.div_eq_of_lt q2] at this
  rw [e1] at e
  exact hne (hab p q (hL p h1) (hL q h2) e1 (by omega))) hnd)
 have:=nodup_lt (n * n) _ nd (fun x hx=>by
  obtain ⟨p,hp,rfl⟩:=List.mem_map.1 hx
  have p1:=ap_lt (hL p hp) ha
  have p2:=ap_lt (hL p hp) hb
  have:(ap p a+1) * n≤n * n:=Nat.mul_le_mul_right n (by omega)
  rw [Nat.add_mul] at this
  omega)
 have h2:n * n≤7 * 7:=Nat.mul_le_mul hn hn
 simp only [List.length_map] at this
 omega
theorem isoPre1 (G:GrpT n t) (hn:n≤7):IsoPre [t] [t]:=by
 have e:nT0 [t]=n:=G.tb.1
 refine ⟨by simp,rfl,by simp,by rw [e];omega,?_,fun _=>?_⟩ <;> rw [e] <;> exact tsN_Tab (ts1 G.tb)
theorem isoS_len (G:GrpT n t) (hn:n≤7):(isoS [t] [t]).length≤49:=by
 have e:nT0 [t]=n:=G.tb.1
 obtain ⟨h1,h2⟩:=isoS_ok (isoPre1 G hn)
 exact auts_len G hn (fun p hp=>by have:=((h1 p).1 hp).2;rwa [e] at this) (srtK_nodup h2)
theorem isoS_auF (G:GrpT n t) (hn:n≤7):isoS [t] [t]=auF t:=by
 have e:nT0 [t]=n:=G.tb.1
 obtain ⟨h1,h2⟩:=isoS_ok (isoPre1 G hn)
 rw [e] at h1
 have E:isoS [t] [t]=auL n [t] [t]:=srtK_eq h2 (auL_srt n [t] [t]) fun p=>by
  rw [h1 p,auL_mem (ts1 G.tb) G.pos]
  exact ⟨fun k=>⟨k.2,by
   have:=ap_zero G k.2
   have r:=k.2.rng 0 G.pos
   simp only [ap] at this
   omega⟩,fun k=>⟨rfl,k.1⟩⟩
 have hlen:=isoS_len G hn
 rw [E] at hlen ⊢
 have e2:nT [t]=n:=G.tb.1
 have F:auF t=(auL n [t] [t]).take 1000000:=by
  rw [auF,mpR,if_pos rfl,e2]
  exact mpL_eq (ts1 G.tb) rfl G.pos (by omega)
 rw [F,List.take_of_length_le (by omega)]
end
end Go.Sx
