/- SxIf -/
import Derived.Test.YtcdmndagoafcgaaGreatSxH
section
namespace Go.Sx
open Go.RowKit
theorem om {P:Program} {e:TypeId} {c:SC} (h:km P e c=true):∃i z,P.info? e=some i∧i.zero=some z ∧
  (∀k n,c=.int k n→z=.int k n)∧(∀b,c=.bool b→z=.bool b)∧(c=.nil→z=.slice none 0 0)∧z.cells=#[z]:=by
 unfold km at h;split at h
 ·rename_i i hi
  refine ⟨i,?_⟩
  split at h
  ·rename_i k n hz
   refine ⟨_,hi,hz,?_⟩
   cases c <;> simp_all [Value.cells]
  ·rename_i b hz
   refine ⟨_,hi,hz,?_⟩
   cases c <;> simp_all [Value.cells]
  ·rename_i hz
   refine ⟨_,hi,hz,?_⟩
   cases c <;> simp_all [Value.cells]
  ·cases h
 ·cases h
theorem qn {P:Program} {e:TypeId} (h:fT P e=true):∃i z,P.info? e=some i∧i.zero=some z∧i.size=1∧i.bytes≤128∧z.cells.size=1:=by
 unfold fT at h;split at h
 ·rename_i i hi
  simp only [Bool.and_eq_true,Nat.ble_eq] at h;obtain ⟨⟨h1,h2⟩,h3⟩:=h;split at h3
  ·rename_i z hz
   exact ⟨i,z,hi,hz,Nat.eq_of_beq_eq_true h2,h1,Nat.eq_of_beq_eq_true h3⟩
  ·cases h3
 ·cases h
section
variable {C:Cx} {σ:State} {mu:Nat→Img} {a:Act} {w:World}
theorem wi {t e:TypeId} (he:cC C.P t=some e) (hb:fT C.P e=true) {i:TypeInfo} {z:Value} (hi:C.P.info? e=some i) (hz:i.zero=some z) (hzc:z.cells=#[z])
  {kl kc:IntKind} {n m:Int} (h0:0≤n) (h1:n≤m) (h2:ae m.toNat) :
  ∃w',(Instr.makeSlice t (.int kl n) (.int kc m)).run C.P w=.ok (.slice (some ⟨w.heap.size,0,none⟩) n.toNat m.toNat) w'∧GrB w w' none ∧
   w'.ownsRow 0 e 1 (.slice (some ⟨w.heap.size,0,none⟩) n.toNat m.toNat) n.toNat (List.replicate n.toNat z):=by
 obtain ⟨i',z',hi',hz',hs,hby,_⟩:=qn hb;rw [hi] at hi';cases hi';unfold ae at h2;have hb1:i.bytes * m.toNat≤128 * 1099511627776:=Nat.mul_le_mul hby h2
 have hb2:(i.bytes:Int) * m≤281474976710656:=by
  have h3:((i.bytes * m.toNat:Nat):Int)≤((128 * 1099511627776:Nat):Int):=Int.ofNat_le.2 hb1
  rw [Int.natCast_mul,Int.toNat_of_nonneg (by omega)] at h3
  omega
 have hr:=run_make (P:=C.P) w t e i z (iN he) hi hz kl kc n m h0 h1 hb2 (by omega)
 refine ⟨_,hr,kh w _ none,by simp,.inr ⟨w.heap.size,m.toNat,_,rfl,Nat.zero_le _,heap_alloc_new w _,by omega,by unfold maxLen;omega,?_,?_⟩⟩
 ·rw [size_madeCells,hs]
 ·rw [hzc,toList_madeCells_one,hs]
  simp only [Nat.mul_one];rw [List.take_replicate]
  congr 1
  omega
theorem Lf {w:World}:∀{es:List TypeId} {x:FC},x.dep+1=es.length→x.len=0→(x.dep=0→∃k l,x=.ints k l)→bL w es (b8 (.slice none 0 0) []) x
 | [],x,h,_,_=>by simp at h
 | [e],x,h,h0,hi=>by
  obtain ⟨k,l,rfl⟩:=hi (by simpa using h)
  have:l=[]:=List.eq_nil_of_length_eq_zero h0
  subst this;exact ⟨rfl,k,[],rfl,World.ownsRow_nil _ _ _ _⟩
 | e::e2::es,x,h,h0,_=>by
  refine ⟨rfl,by simpa using h,?_,fun i u y hu=>by simp [d3] at hu⟩
  rw [h0];exact World.ownsRow_nil _ _ _ _
theorem Vo {w:World} {e1 e2:TypeId} {es:List TypeId} {d0 dd:FC} {n:Nat} {hd:Value} (hdep:d0.dep=es.length+1) (hr:Dd d0 n=some dd) (hown:w.ownsRow 0 e1 1 hd n (List.replicate n (.slice none 0 0))) :
  bL w (e1::e2::es) (b8 hd (List.replicate n (b8 (.slice none 0 0) []))) dd:=by
 have key:dd.dep=d0.dep∧dd.len=n∧∀i x,du dd i=some x→x.len=0∧x.dep+1=d0.dep∧(x.dep=0→∃k l,x=.ints k l):=by
  cases d0 <;> simp only [Dd,reduceCtorEq,Option.some.injEq] at hr <;> subst hr
  all_goals
   refine ⟨rfl,by simp [FC.len],fun i x hx=>?_⟩
   simp only [du,Option.some.injEq] at hx;subst hx;have hl:∀{α:Type} (n:Nat),((List.replicate n ([]:List α)).getD i [])=[]:=fun {α} n=>by
    rw [List.getD_eq_getElem?_getD,List.getElem?_replicate];split <;> rfl
   rw [hl];refine ⟨rfl,rfl,fun h=>?_⟩
   first
    | exact ⟨_,_,rfl⟩
    | simp [FC.dep] at h
 obtain ⟨k1,k2,k3⟩:=key;refine ⟨rfl,k1.trans hdep,?_,fun i u x hu hx=>?_⟩
 ·rw [fD,d3,k2,List.map_replicate,fD]
  exact hown
 ·rw [d3] at hu
  rw [List.eq_of_mem_replicate (List.mem_of_getElem? hu)];obtain ⟨a1,a2,a3⟩:=k3 i x hx;exact Lf (by rw [a2,hdep];rfl) a1 a3
theorem Vp (n:Nat):bm n (b8 (.slice none 0 0) [])=[]:=by
 cases n with
 | zero=>rfl
 | succ n=>rw [eP];rfl
theorem Vq {n k:Nat} {b l c:Nat} {hd:Value} (hhd:hd=.slice (some ⟨b,0,none⟩) l c:=by rfl):bm (n+1) (b8 hd (List.replicate k (b8 (.slice none 0 0) [])))=[b]:=by
 have e:bm n (b8 (.slice none 0 0) [])=[]:=by
  cases n with
  | zero=>rfl
  | succ n=>rw [eP];rfl
 rw [eP,fD,d3,hhd];have:(List.replicate k (b8 (.slice none 0 0) [])).flatMap (bm n)=[]:=by
  rw [List.flatMap_eq_nil_iff];intro x hx
  rw [List.eq_of_mem_replicate hx];exact e
 rw [this];rfl
theorem Vr {d:Nat} {t:TypeId} {cl cc:SC} {vl vc:Value} {eff:Eff} (hr:(Dp C.P d t cl cc).run σ=some eff) (hob:eff.obl)
  (hl:ap (σ.env C.wF mu) cl vl) (hc:ap (σ.env C.wF mu) cc vc) (h:St C σ mu a w) {dst:Option Nat} (hd:∀d,dst=some d→d<C.N) :
  ∃v w',(Instr.makeSlice t vl vc).run C.P w=.ok v w'∧aN C (σ.app dst eff) (a.put dst v) w':=by
 unfold Dp at hr;split at hr
 ·simp [Rd.run] at hr
 ·rename_i e he
  split at hr
  ·rename_i hb
   split at hr
   ·rename_i kl n kc m
    simp only [ap] at hl hc;subst hl;subst hc;split at hr
    ·rename_i k hu
     split at hr
     ·rename_i hz
      obtain ⟨Yj,hr⟩:=cd hr;simp only [Rd.run,Option.some.injEq] at hr;subst hr;obtain ⟨i,z,hi,hz,h1,_,_,hzc⟩:=om hz;obtain ⟨w',hrun,hg,hown⟩:=wi (w:=w) he hb hi hz hzc (kl:=kl) (kc:=kc) hob.1 hob.2.1 hob.2.2;rw [h1 k 0 rfl] at hown;refine ⟨_,w',hrun,h.new (m:=⟨.slice (some ⟨w.heap.size,0,none⟩) n.toNat m.toNat,[]⟩) hd Yj hg ⟨rfl,by simpa using hown⟩ (by simp [Img.blocks,ai]) (by simp [Img.blocks,ai]) ?_⟩
      simp [aB,ap,bV,OSt.on,ek,Value.oneCell']
     ·simp [Rd.run] at hr
    ·rename_i hu
     split at hr
     ·rename_i hz
      obtain ⟨Yj,hr⟩:=cd hr;simp only [Rd.run,Option.some.injEq] at hr;subst hr;obtain ⟨i,z,hi,hz,_,h1,_,hzc⟩:=om hz;obtain ⟨w',hrun,hg,hown⟩:=wi (w:=w) he hb hi hz hzc (kl:=kl) (kc:=kc) hob.1 hob.2.1 hob.2.2;rw [h1 false rfl] at hown;refine ⟨_,w',hrun,h.new (m:=⟨.slice (some ⟨w.heap.size,0,none⟩) n.toNat m.toNat,[]⟩) hd Yj hg ⟨rfl,by simpa using hown⟩ (by simp [Img.blocks,ai]) (by simp [Img.blocks,ai]) ?_⟩
      simp [aB,ap,bV,OSt.on,ek,Value.oneCell']
     ·simp [Rd.run] at hr
    ·rename_i ei hu
     split at hr
     ·rename_i k hk
      split at hr
      ·rename_i hz
       obtain ⟨Yj,hr⟩:=cd hr;simp only [Rd.run,Option.some.injEq] at hr;subst hr;obtain ⟨i,z,hi,hz,_,_,h1,hzc⟩:=om hz;obtain ⟨w',hrun,hg,hown⟩:=wi (w:=w) he hb hi hz hzc (kl:=kl) (kc:=kc) hob.1 hob.2.1 hob.2.2;rw [h1 rfl] at hown;have hfm:(List.replicate n.toNat (Value.slice none 0 0)).filterMap ai=[]:=by
        rw [List.filterMap_eq_nil_iff];intro v hv
        rw [List.eq_of_mem_replicate hv];rfl
       refine ⟨_,w',hrun,h.new (m:=⟨.slice (some ⟨w.heap.size,0,none⟩) n.toNat m.toNat,List.replicate n.toNat (.slice none 0 0)⟩) hd Yj hg ⟨by simpa using hown,by simp,fun j v r hj hr=>?_⟩ ?_ ?_ ?_⟩
       ·rw [List.eq_of_mem_replicate (List.mem_of_getElem? hj),List.eq_of_mem_replicate (List.mem_of_getElem? hr)]
        exact World.ownsRow_nil _ _ _ _
       ·simp [Img.blocks,hfm,ai]
       ·simp [Img.blocks,hfm,ai]
       ·simp [aB,ap,bV,OSt.on,ek,Value.oneCell']
      ·simp [Rd.run] at hr
     ·split at hr
      ·rename_i d0 hd0
       split at hr
       ·rename_i dd e1 e2 es hdd hes
        split at hr
        ·rename_i hz
         obtain ⟨hz,rfl,hdep⟩:=hz;obtain ⟨Yj,hr⟩:=cd hr;simp only [Rd.run,Option.some.injEq] at hr;subst hr;obtain ⟨i,z,hi,hz,_,_,h1,hzc⟩:=om hz;obtain ⟨w',hrun,hg,hown⟩:=wi (w:=w) he hb hi hz hzc (kl:=kl) (kc:=kc) hob.1 hob.2.1 hob.2.2;rw [h1 rfl] at hown;have hT:=Vo (w:=w') (es:=es) (e2:=e2) hdep hdd hown
         have hB:=Vq (n:=(e2::es).length) (hd:=.slice (some ⟨w.heap.size,0,none⟩) n.toNat m.toNat) (k:=n.toNat)
         have hB2:(fk (e1::e2::es).length (b8 (.slice (some ⟨w.heap.size,0,none⟩) n.toNat m.toNat) (List.replicate n.toNat (b8 (.slice none 0 0) [])))).blocks=[w.heap.size]:=(fm hT).trans hB
         refine ⟨_,w',hrun,h.new (m:=fk (e1::e2::es).length (b8 (.slice (some ⟨w.heap.size,0,none⟩) n.toNat m.toNat) (List.replicate n.toNat (b8 (.slice none 0 0) [])))) hd Yj hg ⟨_,rfl,hT⟩ ?_ ?_ ?_⟩
         ·rw [hB2];simp
         ·rw [hB2];simp
         ·simp [aB,ap,bV,OSt.on,ek,Value.oneCell',fk,fD]
        ·simp [Rd.run] at hr
       ·simp [Rd.run] at hr
      ·simp [Rd.run] at hr
    ·simp [Rd.run] at hr
   ·simp [Rd.run] at hr
  ·simp [Rd.run] at hr
def hJ (w:World) (y:Value) (m:Nat) (news:List Value):Prop :=
 ∃yo c,y=.slice yo m c∧news.length=m∧(0<m→∃ad,yo=some ad∧∀(j:Nat) (u:Value),news[j]?=some u→w.cell? (ad.add j)=some u)
theorem qo {t ty e:TypeId} (he:cC C.P t=some e) (hb:fT C.P e=true) {v y:Value} {n m:Nat} {xs news:List Value} (hown:w.ownsRow 0 e 1 v n xs)
  (hy:hJ w y m news) (h1:∀u∈news,u.oneCell'=true) (hroom:ae (n+m)) :
  ∃v' w',(Builtin.append_ #[t,t] ty #[v,y]).run C.P w=.ok v' w'∧w'.ownsRow 0 e 1 v' (n+m) (xs++news)∧GrB w w' v.ownBlock ∧
   ∀b,ai v'=some b→ai v=some b∨w.heap.size≤b:=by
 obtain ⟨i,z,hi,hz,hs,hby,hzs⟩:=qn hb;have ht:=iN he
 obtain ⟨yo,c,rfl,hnl,hcell⟩:=hy;unfold ae at hroom;have hbytes:(n+m) * i.bytes≤140737488355328:=Nat.le_trans (Nat.mul_le_mul hroom hby) (by omega)
 by_cases hm:m=0
 ·subst hm
  have hnews:news=[]:=List.eq_nil_of_length_eq_zero hnl
  subst hnews;refine ⟨v,w,?_,by simpa using hown,⟨.refl _,rfl,rfl,Nat.le_refl _,fun _ _ _=>rfl⟩,fun b hb=>.inl hb⟩
  have hf:(Builtin.firstCells 1 0 (.slice yo 0 c)).run C.P w=.ok #[] w:=by cases yo <;> simp [Builtin.firstCells,loadCells,loadCellsFrom]
  rcases hown.2 with ⟨rfl,rfl⟩ | ⟨g,cap,cur,rfl,_,_,hnc,_⟩
  ·simp [Builtin.append_,run_underlying ht,sizeOf,typeInfo,hi,hs,Builtin.lenOf,hf]
  ·simp [Builtin.append_,run_underlying ht,sizeOf,typeInfo,hi,hs,Builtin.lenOf,hf,hnc,storeCells]
 ·obtain ⟨ad,rfl,hcl⟩:=hcell (by omega)
  have hnl':news.length=m * i.size:=by rw [hs,Nat.mul_one];exact hnl
  have hxl:xs.length=n:=by simpa using hown.1
  have grown:∀(old:Nat),old<n+m→∀(row:Option Nat),
    (w.drew.alloc (.cells (xs.toArray++news.toArray++Builtin.zeroCells z.cells (grownCap w (n+m) old e - (n+m))) e)).ownsRow 0 e 1
     (.slice (some ⟨w.heap.size,0,none⟩) (n+m) (grownCap w (n+m) old e)) (n+m) (xs++news) ∧
    GrB w (w.drew.alloc (.cells (xs.toArray++news.toArray++Builtin.zeroCells z.cells (grownCap w (n+m) old e - (n+m))) e)) row:=by
   intro old ho row
   have hge:=grownCap_ge w (n+m) old e
   have hcm:grownCap w (n+m) old e≤maxLen:=grownCap_le_maxLen w (n+m) old e (by unfold maxLen;omega)
   refine ⟨⟨by simp [hxl,hnl],.inr ⟨w.heap.size,_,_,rfl,Nat.zero_le _,heap_alloc_new w.drew _,hge,hcm,?_,?_⟩⟩,⟨⟨rfl,Nat.le_succ _⟩,rfl,rfl,by simp,fun k hk _=>(World.grownBy_alloc w.drew _ none).block k hk (by simp)⟩⟩
   ·simp only [Array.size_append,List.size_toArray,size_zeroCells,hzs,hxl,hnl]
    omega
   ·simp only [Array.toList_append,List.append_assoc]
    rw [←List.append_assoc,show (n+m) * 1=(xs++news).length by simp [hxl,hnl]]
    exact List.take_left
  rcases hown.2 with ⟨rfl,rfl⟩ | ⟨g,cap,cur,rfl,_,hg,hnc,hcm,hcs,htake⟩
  ·have hx:xs=[]:=List.eq_nil_of_length_eq_zero hxl
   subst hx;have hr:=run_append_nil (P:=C.P) w t ty e i z ht hi hz ad m c news hnl' hcl (by omega) (by omega) (by have hb:=hbytes;simp only [Nat.zero_add] at hb;omega)
   have hgr:=grown 0 (by omega) (Value.ownBlock (.slice none 0 0))
   simp only [Nat.zero_add,List.nil_append,Array.empty_append] at hgr ⊢;exact ⟨_,_,hr,hgr.1,hgr.2,fun b hb=>.inr (by simp [ai] at hb;omega)⟩
  ·by_cases hfit:n+m≤cap
   ·have hfit':n * i.size+news.length≤cur.size:=by rw [hs,hcs,hnl];omega
    have hr:=run_append_room (P:=C.P) w t ty e i ht hi g n cap cur hg ad m c news hnl' hcl h1 hfit hfit'
    rw [hs,Nat.mul_one] at hr;refine ⟨_,_,hr,⟨by simp [hxl,hnl],.inr ⟨g,cap,_,rfl,Nat.zero_le _,setRow_heap w g cur _ e _ hg,hfit,hcm,?_,?_⟩⟩,⟨⟨rfl,Nat.le_refl _⟩,rfl,rfl,by simp,fun k _ hk=>setRow_other w g k _ (fun e=>hk (by simp [Value.ownBlock,e]))⟩,
     fun b hb=>.inl hb⟩
    ·simp only [List.size_toArray,List.length_append,List.length_take,List.length_drop,Array.length_toList]
     omega
    ·simp only [Nat.mul_one] at htake
     rw [htake,show (n+m) * 1=(xs++news).length by simp [hxl,hnl]]
     exact List.take_left
   ·have holds:∀j u,xs[j]?=some u→w.cell? ((⟨g,0,none⟩:Addr).add j)=some u:=hown.cells (g:=g) rfl
    have hr:=run_append_grow (P:=C.P) w t ty e i z ht hi hz ⟨g,0,none⟩ n cap xs (by rw [hs];simpa using hxl) holds ad m c news hnl' hcl (by omega) (by omega) (growslice_fits (by omega) hbytes)
    have hgr:=grown cap (by omega) (Value.ownBlock (.slice (some ⟨g,0,none⟩) n cap))
    exact ⟨_,_,hr,hgr.1,hgr.2,fun b hb=>.inr (by simp [ai] at hb;omega)⟩
theorem Vs {t ty e:TypeId} (he:cC C.P t=some e) (hb:fT C.P e=true) {bs:Option Addr} {y:Value} {m:Nat} {news:List Value}
  (hy:hJ w y m news) (h1:∀u∈news,u.oneCell'=true) (hm:m≠0) (hroom:ae m) :
  ∃v' w',(Builtin.append_ #[t,t] ty #[.slice bs 0 0,y]).run C.P w=.ok v' w'∧w'.ownsRow 0 e 1 v' m news∧GrB w w' none ∧
   ∀b,ai v'=some b→w.heap.size≤b:=by
 cases bs with
 | none =>
  obtain ⟨v',w',q1,q2,q3,q4⟩:=qo (ty:=ty) he hb (v:=.slice none 0 0) (n:=0) (xs:=[]) (World.ownsRow_nil _ _ _ _) hy h1 (by simpa using hroom)
  exact ⟨v',w',q1,by simpa using q2,q3,fun b hb'=>(q4 b hb').resolve_left (by simp [ai])⟩
 | some a =>
  obtain ⟨i,z,hi,hz,hs,hby,hzs⟩:=qn hb;have ht:=iN he
  obtain ⟨yo,c,rfl,hnl,hcell⟩:=hy;unfold ae at hroom;have hbytes:m * i.bytes≤140737488355328:=Nat.le_trans (Nat.mul_le_mul hroom hby) (by omega)
  obtain ⟨ad,rfl,hcl⟩:=hcell (by omega)
  have hnl':news.length=m * i.size:=by rw [hs,Nat.mul_one];exact hnl
  have hr:=run_append_grow (P:=C.P) w t ty e i z ht hi hz a 0 0 [] (by simp) (fun j v hj=>by simp at hj) ad m c news hnl' hcl (by omega) (by omega) (growslice_fits (by omega) (by simpa using hbytes))
  simp only [Nat.zero_add,Array.empty_append] at hr;have hge:=grownCap_ge w m 0 e
  have hcm:grownCap w m 0 e≤maxLen:=grownCap_le_maxLen w m 0 e (by unfold maxLen;omega)
  refine ⟨_,_,hr,⟨by simp [hnl],.inr ⟨w.heap.size,_,_,rfl,Nat.zero_le _,heap_alloc_new w.drew _,hge,hcm,?_,?_⟩⟩,⟨⟨rfl,Nat.le_succ _⟩,rfl,rfl,by simp,fun k hk _=>(World.grownBy_alloc w.drew _ none).block k hk (by simp)⟩,fun b hb'=>by simp [ai] at hb';omega⟩
  ·simp only [Array.size_append,List.size_toArray,size_zeroCells,hzs,hnl]
   omega
  ·simp only [Array.toList_append]
   rw [show m * 1=news.length by simp [hnl]]
   exact List.take_left
theorem Vt (v:Value) (h:∀a,v≠.pointer a) (h':∀a,v≠.map a):v.ownBlock=ai v:=by
 cases v with
 | slice a n c=>cases a <;> rfl
 | pointer a=>exact absurd rfl (h a)
 | map a=>exact absurd rfl (h' a)
 | _=>rfl
theorem ly {B e size n:Nat} {v:Value} {xs:List Value} (h:w.ownsRow B e size v n xs):v.ownBlock=ai v:=by
 apply Vt
 all_goals
  intro p hp
  subst hp;rcases h.2 with ⟨h1,_⟩ | ⟨g,cap,cur,h1,_⟩ <;> cases h1
theorem wj {e L n:Nat} {hd v:Value} {xs:List Value} (h:w.ownsRow 0 e 1 hd L xs) (hv:cH hd 0 n v) (hn:n≤L):w.ownsRow 0 e 1 v n (xs.take n):=by
 have hl:xs.length=L:=by simpa using h.1
 rcases h.2 with ⟨rfl,rfl⟩ | ⟨g,cap,cur,rfl,_,hg,hnc,hcm,hcs,htake⟩
 ·rcases hv with ⟨_,rfl,_,rfl⟩ | ⟨g,len,cap,ao,h1,_⟩
  ·exact ⟨by simp,.inl ⟨rfl,rfl⟩⟩
  ·cases h1
 ·rcases hv with ⟨h1,_⟩ | ⟨g',len,cap',ao,h1,rfl,_,h2,h3⟩
  ·cases h1
  ·cases h1
   rw [h3 (.inl rfl)];refine ⟨by simp [hl];omega,.inr ⟨g,cap,cur,rfl,Nat.zero_le _,hg,by omega,hcm,hcs,?_⟩⟩
   rw [←htake,List.take_take]
   congr 1
   omega
theorem Eg {hd v:Value} {n:Nat} (hv:cH hd 0 n v):ai v=ai hd:=by
 rcases hv with ⟨rfl,rfl,_⟩ | ⟨g,len,cap,ao,rfl,rfl,_,_,h⟩
 ·rfl
 ·rw [h (.inl rfl)];rfl
theorem kC {e L off n:Nat} {hd v:Value} {xs:List Value} (h:w.ownsRow 0 e 1 hd L xs) (hv:cH hd off n v) (hn:off+n≤L):hJ w v n ((xs.drop off).take n):=by
 have hl:xs.length=L:=by simpa using h.1
 obtain ⟨x,c,rfl⟩:=mC hv;refine ⟨x,c,rfl,by simp [hl];omega,fun h0=>?_⟩
 rcases hv with ⟨_,_,_,h1⟩ | ⟨g,len,cap,ao,rfl,hvv,hc1,hc2,hao⟩
 ·omega
 ·cases hvv
  refine ⟨ao,rfl,fun j u hu=>?_⟩
  rw [hao (.inr (by omega)),Addr.add_lit]
  rw [List.getElem?_take] at hu;split at hu
  ·rw [List.getElem?_drop] at hu
   rw [iO h (b:=g) rfl (off+j) (by omega)];exact hu
  ·cases hu
theorem Lg {wF:World} (hc:∀p u,wF.cell? p=some u→w.cell? p=some u) {v:Value} {n:Nat} {R:Nat→Value→Prop} (h:bN wF v n R) {f:Nat→Value} (hR:∀i u,i<n→R i u→u=f i) :
  hJ w v n ((List.range n).map f):=by
 obtain ⟨x,c,rfl,_,hk⟩:=h;refine ⟨x,c,rfl,by simp,fun h0=>?_⟩
 obtain ⟨b,off,rfl,hk2⟩:=hk h0;refine ⟨_,rfl,fun j u hu=>?_⟩
 have hj:j<n:=by have:=(List.getElem?_eq_some_iff.1 hu).1;simpa using this
 obtain ⟨u',h1,h2⟩:=hk2 j hj;have:u=f j:=by simp [hj] at hu;exact hu.symm
 rw [Addr.add_lit,this,←hR j u' hj h2];exact hc _ _ h1
theorem wk {α β:Type} (l:List α) (z:α) (g:α→β):(List.range l.length).map (fun i=>g (l.getD i z))=l.map g:=by
 apply List.ext_getElem?
 intro j
 by_cases hj:j<l.length <;> simp [hj]
theorem mE (k:IntKind) (l:List Int):∀u∈l.map (Value.int k),u.oneCell'=true:=by
 intro u hu;obtain ⟨_,_,rfl⟩:=List.mem_map.1 hu;rfl
theorem Eh (l:List Bool):∀u∈l.map Value.bool,u.oneCell'=true:=by
 intro u hu;obtain ⟨_,_,rfl⟩:=List.mem_map.1 hu;rfl
theorem Vu {k:IntKind} {c:SC} {K:List Int→Rd Eff} {r:Eff} (hr:(p9 k c K).run σ=some r) {v:Value} (hc:ap (σ.env C.wF mu) c v) (h:St C σ mu a w) :
  ∃l,(K l).run σ=some r∧hJ w v l.length (l.map (.int k)):=by
 cases c with
 | nil =>
  simp only [ap] at hc;subst hc;exact ⟨[],hr,none,0,rfl,rfl,fun h0=>by simp at h0⟩
 | own o =>
  obtain ⟨ob,ho,hr2⟩:=bd hr;clear hr;cases ob with
  | ints e k' l =>
   simp only at hr2;split at hr2
   ·rename_i hk;subst hk
    refine ⟨l,hr2,?_⟩
    have hv:v=(mu o).hd:=aV ho hc
    subst hv;have:=h.ob o _ ho
    have hcl:=kC this.2 (dS this.2) (by omega)
    rwa [List.drop_zero,List.take_of_length_le (by simp)] at hcl
   ·simp [Rd.run] at hr2
  | _=>simp [Rd.run] at hr2
 | pre o n =>
  obtain ⟨ob,ho,hr2⟩:=bd hr;clear hr;cases ob with
  | ints e k' l =>
   simp only at hr2;split at hr2
   ·rename_i hk;subst hk
    obtain ⟨hn,hv⟩:=aV ho hc;have hn':n≤l.length:=hn
    refine ⟨l.take n,hr2,?_⟩
    have:=h.ob o _ ho
    have hcl:=kC this.2 hv (by omega)
    rw [List.length_take,Nat.min_eq_left hn',List.map_take]
    simpa using hcl
   ·simp [Rd.run] at hr2
  | _=>simp [Rd.run] at hr2
 | sub o off n =>
  obtain ⟨ob,ho,hr2⟩:=bd hr;clear hr;cases ob with
  | ints e k' l =>
   simp only at hr2;split at hr2
   ·rename_i hk;subst hk
    obtain ⟨hn,hv⟩:=aV ho hc;have hn':off+n≤l.length:=hn
    refine ⟨(l.drop off).take n,hr2,?_⟩
    have:=h.ob o _ ho
    have hcl:=kC this.2 hv hn'
    rw [List.length_take,List.length_drop,Nat.min_eq_left (by omega),List.map_take,List.map_drop]
    exact hcl
   ·simp [Rd.run] at hr2
  | _=>simp [Rd.run] at hr2
 | row o ver i =>
  obtain ⟨ob,ho,hr2⟩:=bd hr;clear hr;cases ob with
  | rows ver' e ei k' l =>
   simp only at hr2;split at hr2
   ·rename_i hk
    obtain ⟨rfl,rfl⟩:=hk;obtain ⟨_,hx⟩:=aV ho hc;obtain ⟨hins,hlt⟩:=hx rfl;have hlt':i<l.length:=hlt
    obtain ⟨_,_,h3⟩:=h.ob o _ ho;have hrow:=h3 i v _ hins (List.getElem?_eq_getElem hlt')
    have hgd:l.getD i []=l[i]:=by simp [List.getD,hlt']
    refine ⟨_,hr2,?_⟩
    rw [hgd];have hcl:=kC hrow (dS hrow) (by omega)
    rwa [List.drop_zero,List.take_of_length_le (by simp)] at hcl
   ·simp [Rd.run] at hr2
  | _=>simp [Rd.run] at hr2
 | ro d =>
  cases d with
  | ints k' l =>
   simp only [p9] at hr;split at hr
   ·rename_i hk;subst hk
    refine ⟨l,hr,?_⟩
    have hcl:=Lg (w:=w) (fun p u hp=>(h.cells p u hp).2) hc.2 (f:=fun i=>.int k' (l.getD i 0)) (fun i u _ hu=>hu)
    rwa [wk l 0 (Value.int k')] at hcl
   ·simp [Rd.run] at hr
  | _=>simp [p9,Rd.run] at hr
 | _=>simp [p9,Rd.run] at hr
theorem Lh (l:List (List UInt8)):∀u∈l.map nU,u.oneCell'=true:=by
 intro u hu;obtain ⟨_,_,rfl⟩:=List.mem_map.1 hu;rfl
theorem Vv {c:SC} {K:List (List UInt8)→Rd Eff} {r:Eff} (hr:(Dq c K).run σ=some r) {v:Value} (hc:ap (σ.env C.wF mu) c v) (h:St C σ mu a w) :
  ∃l,(K l).run σ=some r∧hJ w v l.length (l.map nU):=by
 cases c with
 | own o =>
  obtain ⟨ob,ho,hr2⟩:=bd hr;clear hr;cases ob with
  | strs e l =>
   refine ⟨l,hr2,?_⟩
   have hv:v=(mu o).hd:=aV ho hc
   subst hv;have:=h.ob o _ ho
   have hcl:=kC this.2 (dS this.2) (by omega)
   rwa [List.drop_zero,List.take_of_length_le (by simp)] at hcl
  | _=>simp [Rd.run] at hr2
 | _=>simp [Dq,Rd.run] at hr
theorem Vw {c:SC} {K:List Bool→Rd Eff} {r:Eff} (hr:(vO c K).run σ=some r) {v:Value} (hc:ap (σ.env C.wF mu) c v) (h:St C σ mu a w) :
  ∃l,(K l).run σ=some r∧hJ w v l.length (l.map .bool):=by
 cases c with
 | nil =>
  simp only [ap] at hc;subst hc;exact ⟨[],hr,none,0,rfl,rfl,fun h0=>by simp at h0⟩
 | own o =>
  obtain ⟨ob,ho,hr2⟩:=bd hr;clear hr;cases ob with
  | bools e l =>
   refine ⟨l,hr2,?_⟩
   have hv:v=(mu o).hd:=aV ho hc
   subst hv;have:=h.ob o _ ho
   have hcl:=kC this.2 (dS this.2) (by omega)
   rwa [List.drop_zero,List.take_of_length_le (by simp)] at hcl
  | _=>simp [Rd.run] at hr2
 | ro d =>
  cases d with
  | bools l =>
   refine ⟨l,hr,?_⟩
   have hcl:=Lg (w:=w) (fun p u hp=>(h.cells p u hp).2) hc.2 (f:=fun i=>.bool (l.getD i false)) (fun i u _ hu=>hu)
   rwa [wk l false Value.bool] at hcl
  | _=>simp [vO,Rd.run] at hr
 | _=>simp [vO,Rd.run] at hr
end
end Go.Sx
end
section
namespace Go.Sx
open Go.RowKit
set_option linter.unusedSimpArgs false
set_option linter.unusedVariables false
theorem qp {w:World} {e n:Nat} {hd:Value} {xs:List Value} (h:w.ownsRow 0 e 1 hd n xs) {off m:Nat} {v:Value} (hv:cH hd off m v) (hle:off+m≤n) :
  bN w v m fun i u=>xs[off+i]?=some u:=by
 have hl:xs.length=n:=by simpa using h.1
 rcases hv with ⟨_,rfl,_,rfl⟩ | ⟨g,len,cap,ao,rfl,rfl,hc1,hc2,hao⟩
 ·exact ⟨_,_,rfl,Nat.le_refl _,fun h0=>by omega⟩
 ·refine ⟨_,_,rfl,hc2,fun h0=>?_⟩
  rw [hao (.inr (by omega))]
  refine ⟨g,off,rfl,fun i hi=>?_⟩
  have hlt:off+i<xs.length:=by omega
  exact ⟨xs[off+i],by rw [iO h (b:=g) rfl (off+i) (by omega)];exact List.getElem?_eq_getElem hlt,List.getElem?_eq_getElem hlt⟩
theorem qq {w:World} {e n:Nat} {k:IntKind} {hd:Value} {l:List Int} (h:w.ownsRow 0 e 1 hd n (l.map (.int k))) {off m:Nat} {v:Value} (hv:cH hd off m v) (hle:off+m≤n) :
  g6 w k v ((l.drop off).take m):=by
 have hl:l.length=n:=by simpa using h.1
 have:=qp h hv hle
 have hlen:((l.drop off).take m).length=m:=by simp;omega
 unfold g6;rw [hlen];exact this.mono fun i u hi hu=>by
  rw [List.getElem?_map] at hu;cases hx:l[off+i]? with
  | none=>simp [hx] at hu
  | some x=>simp [hx] at hu;rw [←hu];simp [List.getD,hi,hx]
theorem wl {ver:Nat} {e:TypeId} {d d':FC} (h:fF (.lst ver e d)=some d'):d'=d∧dv d=false:=by
 simp only [fF] at h;split at h
 ·cases h
 ·cases h;exact ⟨rfl,by assumption⟩
theorem bL.kind {w:World}:∀{es:List TypeId} {u:Value} {x:FC},bL w es u x→(∃k l,x=.ints k l)∨x.dep≠0
 | [],_,_,h=>False.elim h
 | [_],_,_,⟨_,k,l,h2,_⟩=>.inl ⟨k,l,h2⟩
 | _::_::_,_,_,⟨_,h2,_⟩=>.inr (by omega)
theorem Ei {d:FC} (h:(∃k l,d=.ints k l)∨d.dep≠0):co 0 d.len d=some d:=by
 rcases h with ⟨k,l,rfl⟩ | h
 ·simp [co,FC.len]
 ·cases d <;> simp [co,FC.len,FC.dep] at *
theorem Ej {w:World}:∀{es:List TypeId} {nd:Value} {d d':FC},bL w es nd d→∀{off n:Nat} {v:Value},cH (bc nd) off n v→off+n≤d.len→co off n d=some d'→bw w v d'
 | [],_,_,_,h,_,_,_,_,_,_=>False.elim h
 | [e],nd,d,d',⟨_,k,l,h2,h3⟩,off,n,v,hv,hle,ht=>by
  subst h2;cases ht;exact qq h3 hv hle
 | e::e2::es,nd,d,d',h,off,n,v,hv,hle,ht=>by
  have hl:=mj h
  obtain ⟨_,h2,h3,h4⟩:=h;have hs:=qp h3 hv hle
  have el:∀i u,i<n→((bK nd).map bc)[off+i]?=some u→∃x,du d (off+i)=some x∧bw w u x:=fun i u hi hu=>by
   rw [List.getElem?_map] at hu;cases hk:(bK nd)[off+i]? with
   | none=>rw [hk] at hu;cases hu
   | some kid =>
    rw [hk] at hu;cases hu;obtain ⟨x,hx,_⟩:=mh h2 (off+i);have ho:=h4 (off+i) kid x hk hx
    obtain ⟨e',xs,hrow⟩:=ho.row;exact ⟨x,hx,Ej (es:=e2::es) ho (dS hrow) (by omega) (Ei ho.kind)⟩
  have ln:∀{α:Type} (l:List α),off+n≤l.length→((l.drop off).take n).length=n:=fun l h=>by simp;omega
  cases d <;> simp only [co,Option.some.injEq,reduceCtorEq] at ht <;> simp only [FC.dep] at h2 <;> first | omega | skip
  all_goals
   subst ht
   show bN _ _ _ _
   rw [ln _ hle];refine hs.below fun i u hi hu=>?_
   obtain ⟨x,h5,h6⟩:=el i u hi hu;cases h5;rw [iE _ off n i _ hi];exact h6
theorem bL.reads {w:World} {es:List TypeId} {nd:Value} {d:FC} (h:bL w es nd d):bw w (bc nd) d:=by
 obtain ⟨e',xs,hrow⟩:=h.row;exact Ej h (dS hrow) (by omega) (Ei h.kind)
theorem wm {E:Env} {w:World} (hk:cw E.wF w) {m:Img} {ob:Ob} (h:bn E w m ob) {d d':FC} (hd:fF ob=some d) {off n:Nat} {v:Value} (hv:cH m.hd off n v) (hle:off+n≤ob.shp.len)
  (hd':co off n d=some d'):bw w v d':=by
 cases ob with
 | box cs=>cases hd
 | bx cs=>cases hd
 | strs e l=>cases hd
 | frz d=>cases hd
 | mp l=>cases hd
 | qu e k l=>cases hd
 | rowsH ver e ei k l hs=>cases hd
 | tr ver es d0 =>
  cases hd;obtain ⟨nd,rfl,h1⟩:=h;exact Ej h1 hv hle hd'
 | lst ver e d0 =>
  obtain ⟨rfl,_⟩:=wl hd;obtain ⟨_,vs,h1,h2⟩:=h;have ln:∀{α:Type} (l:List α),off+n≤l.length→((l.drop off).take n).length=n:=fun l h=>by simp;omega
  have hs:=qp h1 hv hle
  have el:∀i u,vs[off+i]?=some u→∃fc,d.elem (off+i)=some fc∧bw w u fc:=fun i u hu=>by
   obtain ⟨_,fc,h3,h4⟩:=h2 _ _ hu;exact ⟨fc,h3,h4.mono hk⟩
  cases d with
  | int k n=>cases hd'
  | bool b=>cases hd'
  | str l=>cases hd'
  | ints k l =>
   cases hd'
   show bN _ _ _ _
   rw [ln l hle];refine hs.below fun i u hi hu=>?_
   obtain ⟨fc,h3,h4⟩:=el i u hu;have e:=iE l off n i 0 hi
   simp only [FC.elem] at h3;split at h3 <;> cases h3
   rw [e];exact h4
  | bools l =>
   cases hd'
   show bN _ _ _ _
   rw [ln l hle];refine hs.below fun i u hi hu=>?_
   obtain ⟨fc,h3,h4⟩:=el i u hu;have e:=iE l off n i false hi
   simp only [FC.elem] at h3;split at h3 <;> cases h3
   rw [e];exact h4
  | rows k l =>
   cases hd'
   show bN _ _ _ _
   rw [ln l hle];refine hs.below fun i u hi hu=>?_
   obtain ⟨fc,h3,h4⟩:=el i u hu;have e:=iE l off n i [] hi
   simp only [FC.elem] at h3;split at h3 <;> cases h3
   rw [e];exact h4
  | r3 k l =>
   cases hd'
   show bN _ _ _ _
   rw [ln l hle];refine hs.below fun i u hi hu=>?_
   obtain ⟨fc,h3,h4⟩:=el i u hu;have e:=iE l off n i [] hi
   simp only [FC.elem] at h3;split at h3 <;> cases h3
   rw [e];exact h4
  | r4 k l =>
   cases hd'
   show bN _ _ _ _
   rw [ln l hle];refine hs.below fun i u hi hu=>?_
   obtain ⟨fc,h3,h4⟩:=el i u hu;have e:=iE l off n i [] hi
   simp only [FC.elem] at h3;split at h3 <;> cases h3
   rw [e];exact h4
 | ints e k l =>
  cases hd;cases hd';exact qq h.2 hv hle
 | bools e l =>
  cases hd;cases hd';have hlen:((l.drop off).take n).length=n:=by simp;simp only [Ob.shp] at hle;omega
  show bN _ _ _ _
  rw [hlen];exact (qp h.2 hv hle).mono fun i u hi hu=>by
   rw [List.getElem?_map] at hu;cases hx:l[off+i]? with
   | none=>simp [hx] at hu
   | some x=>simp [hx] at hu;rw [←hu];simp [List.getD,hi,hx]
 | rows ver e ei k l =>
  cases hd;cases hd';obtain ⟨h1,h2,h3⟩:=h;have hlen:((l.drop off).take n).length=n:=by simp;simp only [Ob.shp] at hle;omega
  show bN _ _ _ _
  rw [hlen];exact (qp h1 hv hle).mono fun i u hi hu=>by
   have hlt:off+i<l.length:=by simp only [Ob.shp] at hle;omega
   have hg:((l.drop off).take n).getD i []=l[off+i]:=by simp [List.getD,hi,hlt]
   rw [hg];have hrow:=h3 _ u _ hu (List.getElem?_eq_getElem hlt)
   have:=qq hrow (dS hrow) (by omega)
   simpa using this
theorem Vx {d d':FC} (h:co 0 d.len d=some d'):d'=d:=by
 cases d <;> simp only [co,FC.len,List.drop_zero,List.take_length,reduceCtorEq,Option.some.injEq] at h <;> exact h.symm
theorem Li {ob:Ob} {d:FC} (hd:fF ob=some d):ob.shp.len=d.len:=by
 cases ob with
 | lst ver e d0=>obtain ⟨rfl,_⟩:=wl hd;rfl
 | _=>cases hd <;> rfl
theorem Lj {ob:Ob} {d d':FC} (hd:fF ob=some d) (ht:co 0 d.len d=some d'):co 0 ob.shp.len d=some d:=by
 rw [Li hd,ht,Vx ht]
theorem lz {ob:Ob} {d:FC} (hd:fF ob=some d):ob.len?=some ob.shp.len:=by
 cases ob with
 | lst ver e d0=>rfl
 | _=>cases hd <;> rfl
theorem Vy {E:Env} {w:World} (hk:cw E.wF w) {m:Img} {ob:Ob} (h:bn E w m ob) {d:FC} (hd:fF ob=some d) (hv:cH m.hd 0 ob.shp.len m.hd):bw w m.hd d:=by
 cases ht:co 0 d.len d with
 | some d'=>exact wm hk h hd hv (by omega) (Lj hd ht)
 | none =>
  exfalso
  cases ob with
  | lst ver e d0 =>
   obtain ⟨rfl,hs⟩:=wl hd;cases d <;> first | cases hs;done | (simp [co] at ht;done)
  | tr ver es d0 =>
   cases hd;obtain ⟨nd,rfl,h1⟩:=h;rw [Ei h1.kind] at ht;cases ht
  | _=>cases hd <;> simp [co] at ht
def mF (w wF:World) (B:List Nat):World:={ w with heap:=(Array.range w.heap.size).map fun b=>if b∈B then w.heap.getD b (.map #[] 0) else wF.heap.getD b (.map #[] 0) }
theorem Lk {w wF:World} {B:List Nat} {b:Nat} (h:b∈B):(mF w wF B).heap[b]?=w.heap[b]?:=by
 simp only [mF,Array.getElem?_map];by_cases hb:b<w.heap.size
 ·rw [Array.getElem?_range,if_pos hb]
  simp [h,Array.getD,hb]
 ·rw [Array.getElem?_range,if_neg hb,Array.getElem?_eq_none (by omega)];rfl
theorem Ll {w wF:World} {B:List Nat} {p:Addr} (h:p.block ∉ B) (hlt:p.block<w.heap.size):(mF w wF B).cell? p=wF.cell? p:=by
 have e:(mF w wF B).heap[p.block]?=some (wF.heap.getD p.block (.map #[] 0)):=by
  simp only [mF,Array.getElem?_map];rw [Array.getElem?_range,if_pos hlt];simp [h]
 by_cases hb:p.block<wF.heap.size
 ·refine World.cell?_of_block ?_
  rw [e];simp [Array.getD,hb]
 ·have e2:wF.heap[p.block]?=none:=Array.getElem?_eq_none (by omega)
  simp only [World.cell?,e,e2];simp [Array.getD,hb]
def Cv (ob ob':Ob):Prop:=(∃d,gD ob=some d∧ob'=.frz d)∨∃v e ei k l,ob=.rows v e ei k l∧ob'=.lst (v+1) e (.rows k l)
theorem Vz {ob:Ob} {d:FC} (h:gD ob=some d):ob=.frz d∨(fF ob=some d∧∃d',co 0 d.len d=some d'):=by
 unfold gD at h;split at h
 ·cases h;exact .inl rfl
 ·split at h
  ·split at h
   ·cases h;exact .inr ⟨by assumption,_,by assumption⟩
   ·cases h
  ·cases h
section
variable {C:Cx} {σ:State} {mu:Nat→Img} {a:Act} {w:World}
theorem lA {x:Nat×Option Ob} {hp:List (Nat×Option Ob)} {fr:List (Nat×SV)} (o:Nat):(State.mk fr (x::hp)).H o=if x.1=o then some x.2 else lk hp o:=by
 obtain ⟨k,v⟩:=x;simp only [State.H];rw [bC]
theorem St.cv1 (h:St C σ mu a w) {o:Nat} {ob ob':Ob} (ho:σ.H o=some (some ob)) (hc:Cv ob ob') :
  ∃wG mu',GrowF C wG∧St (C.fz wG) ⟨σ.fr,(o,some ob')::σ.hp⟩ mu' a w∧(∀x,x≠o→mu' x=mu x)∧cz (σ.env C.wF mu) ((State.mk σ.fr ((o,some ob')::σ.hp)).env wG mu'):=by
 have hH:∀x,(State.mk σ.fr ((o,some ob')::σ.hp)).H x=if o=x then some (some ob') else σ.H x:=fun x=>lA x
 have hlt:=(h.ob o ob ho).block
 have hsame:ob'=ob→∃wG mu',GrowF C wG∧St (C.fz wG) ⟨σ.fr,(o,some ob')::σ.hp⟩ mu' a w∧(∀x,x≠o→mu' x=mu x)∧cz (σ.env C.wF mu) ((State.mk σ.fr ((o,some ob')::σ.hp)).env wG mu'):=fun he=>by
  subst he;have e:∀x,(State.mk σ.fr ((o,some ob')::σ.hp)).H x=σ.H x:=fun x=>by
   rw [hH];split
   ·rename_i hx;subst hx;exact ho.symm
   ·rfl
  have est:(State.mk σ.fr ((o,some ob')::σ.hp)).ost=σ.ost:=funext fun x=>by simp only [State.ost,e]
  refine ⟨C.wF,mu,.refl C,h.upd (fun _=>False) (.refl _) rfl rfl (Nat.le_refl _) (fun _ hs=>hs.elim) (fun _ _ _=>rfl) (fun x=>by rw [est];exact em.refl _ _) (fun x ob2 hx=>by rw [e] at hx;exact .inl ⟨hx,rfl,fun _ _ hs=>hs⟩) h.sz h.df (fun t sv ht=>.inl ⟨ht,rfl⟩),fun _ _=>rfl,fun _ _ h=>h,fun x=>by
   show eD C.wF (σ.ost x) ((State.mk σ.fr ((o,some ob')::σ.hp)).ost x) (mu x) (mu x)
   rw [est];exact eD.refl _ _ _⟩
 have key:∀(B:List Nat) (m:Img),(∀b∈B,b∈(mu o).blocks)→(∀b∈m.blocks,b∈(mu o).blocks∧b ∉ B)→m.blocks.Nodup →
   (∀wG,cw C.wF wG→(∀b∈B,wG.heap[b]?=w.heap[b]?)→eD wG (σ.ost o) (ek ob') (mu o) m∧bn (σ.env wG mu) w m ob')→(∀E E':Env,E.wF=E'.wF→bn E w m ob'→bn E' w m ob') →
   ∃wG mu',GrowF C wG∧St (C.fz wG) ⟨σ.fr,(o,some ob')::σ.hp⟩ mu' a w∧(∀x,x≠o→mu' x=mu x)∧cz (σ.env C.wF mu) ((State.mk σ.fr ((o,some ob')::σ.hp)).env wG mu'):=fun B m hB hm hnd hrep henv=>by
  let wG:=mF w C.wF B
  have hcell:∀p u,C.wF.cell? p=some u→p.block ∉ B∧p.block<w.heap.size:=fun p u hp=>by
   obtain ⟨h1,h2⟩:=h.cells p u hp;exact ⟨fun hb=>h1 o ob ho (hB _ hb),cell_lt' h2⟩
  have hG:cw C.wF wG:=fun p u hp=>by
   obtain ⟨h1,h2⟩:=hcell p u hp;exact (Ll h1 h2).trans hp
  have hG2:∀p u,wG.cell? p=some u→C.wF.cell? p=some u∨(p.block∈B∧w.cell? p=some u):=fun p u hp=>by
   by_cases hb:p.block∈B
   ·exact .inr ⟨hb,(World.cell?_of_block (Lk hb)).symm.trans hp⟩
   ·have hlt2:p.block<w.heap.size:=by
     have:=cell_lt' hp
     simpa [wG,mF] using this
    exact .inl ((Ll hb hlt2).symm.trans hp)
  obtain ⟨r1,r2⟩:=hrep wG hG fun b hb=>Lk hb
  have hle:∀x,eD wG (σ.ost x) ((State.mk σ.fr ((o,some ob')::σ.hp)).ost x) (mu x) (if x=o then m else mu x):=fun x=>by
   by_cases hxo:x=o
   ·subst hxo
    simp only [State.ost,hH,if_true];exact r1
   ·have:(State.mk σ.fr ((o,some ob')::σ.hp)).ost x=σ.ost x:=by simp only [State.ost,hH,if_neg (Ne.symm hxo)]
    rw [this];simp only [hxo,if_false];exact eD.refl _ _ _
  refine ⟨wG,fun x=>if x=o then m else mu x,⟨hG,fun p u hp=>(hG2 p u hp).imp id fun ⟨hb,_⟩=>((h.nd o ob ho).2 _ (hB _ hb)).symm⟩,?_,fun x hx=>by simp [hx],hG,hle⟩
  have hno:∀x ob2,x≠o→σ.H x=some (some ob2)→∀b∈(mu x).blocks,b ∉ m.blocks:=fun x ob2 hxo hx b hb hc=>h.sep x o ob2 ob hxo hx ho b hb (hm b hc).1
  have hG3:∀b∈B,∀x ob2,(State.mk σ.fr ((o,some ob')::σ.hp)).H x=some (some ob2)→b ∉ (if x=o then m else mu x).blocks:=fun b hb x ob2 hx=>by
   rw [hH] at hx;by_cases hxo:x=o
   ·simp only [hxo,if_true]
    exact fun hc=>(hm _ hc).2 hb
   ·rw [if_neg (Ne.symm hxo)] at hx
    simp only [hxo,if_false];exact h.sep o x ob ob2 (Ne.symm hxo) ho hx _ (hB _ hb)
  refine h.updG (fun b=>b∈m.blocks) (.refl _) rfl rfl (Nat.le_refl _) (fun b hb=>⟨o,ob,ho,(hm b hb).1⟩) (fun _ _ _=>rfl) hG (fun p u hp=>(hG2 p u hp).imp id fun q=>⟨q.2,hG3 _ q.1⟩) hle (fun x ob2 hx=>?_) h.sz h.df (fun t sv ht=>.inl ⟨ht,rfl⟩)
  ·rw [hH] at hx
   by_cases hxo:x=o
   ·subst hxo
    rw [if_pos rfl] at hx;cases hx;simp only [if_true];refine .inr ⟨henv (σ.env wG mu) _ rfl r2,hnd,fun b hb=>.inl hb,fun x' ob3 hne hx'=>?_⟩
    rw [hH,if_neg hne] at hx';simp only [Ne.symm hne,if_false];exact .inl ⟨hx',trivial,hno x' ob3 (Ne.symm hne) hx'⟩
   ·rw [if_neg (Ne.symm hxo)] at hx
    simp only [hxo,if_false];exact .inl ⟨hx,trivial,hno x ob2 hxo hx⟩
 have hE:∀{wG},cw C.wF wG→cz (σ.env C.wF mu) (σ.env wG mu):=fun {wG} hG=>⟨hG,fun _=>eD.refl _ _ _⟩
 rcases hc with ⟨d,h1,rfl⟩ | ⟨v,e,ei,k,l,rfl,rfl⟩
 ·rcases Vz h1 with rfl | ⟨h2,d',h3⟩
  ·exact hsame rfl
  ·refine key (mu o).blocks ⟨.slice none 0 0,[]⟩ (fun b hb=>hb) (fun b hb=>by simp [Img.blocks,ai] at hb) (by simp [Img.blocks,ai]) (fun wG hG hk=>⟨.inr ⟨ob.shp,d,eR ho (oe (lz h2)),rfl,Li h2,?_,_,h3⟩,by simp [bn,Img.blocks,ai]⟩) (fun _ _ _ h=>h)
   have hr:=(h.ob o ob ho).keep (hE hG) hk
   obtain ⟨h4,_⟩:=mB (lz h2) hr;have hrd:=wm (E:=σ.env wG mu) (fun _ _ h=>h) hr h2 h4 (by omega) (Lj h2 h3)
   refine ⟨?_,hrd⟩
   rcases h4 with ⟨_,e,_,_⟩ | ⟨g,len,cap,ao,_,e,_,hc2,_⟩
   ·exact ⟨_,_,_,e,Nat.le_refl _⟩
   ·exact ⟨_,_,_,e,hc2⟩
 ·have hnd:=(h.nd o _ ho).1
  obtain ⟨n1,n2⟩:((mu o).ins.filterMap ai).Nodup∧∀b,ai (mu o).hd=some b→b ∉ (mu o).ins.filterMap ai:=by
   unfold Img.blocks at hnd;rw [List.nodup_append] at hnd;exact ⟨hnd.2.1,fun b hb hc=>hnd.2.2 b (by simp [hb]) b hc rfl⟩
  refine key ((mu o).ins.filterMap ai) ⟨(mu o).hd,[]⟩ (fun b hb=>by simp only [Img.blocks,List.mem_append];exact .inr hb) (fun b hb=>?_) ?_ (fun wG hG hk=>⟨.inl ?_,?_⟩) (fun E E' he h=>?_)
  ·simp only [Img.blocks,List.filterMap_nil,List.append_nil,Option.mem_toList] at hb
   exact ⟨b9 hb,n2 b hb⟩
  ·simp only [Img.blocks,List.filterMap_nil,List.append_nil]
   cases ai (mu o).hd <;> simp
  ·rw [eR ho]
   refine ⟨rfl,rfl,Nat.le_succ _,fun hv=>?_⟩
   simp [Ob.shp] at hv
  ·obtain ⟨q1,q2,q3⟩:=h.ob o _ ho
   refine ⟨rfl,(mu o).ins,q1,fun i u hi=>?_⟩
   have hlt2:i<l.length:=by rw [←q2];exact (List.getElem?_eq_some_iff.1 hi).1
   have hrow:=q3 i u _ hi (List.getElem?_eq_getElem hlt2)
   have hrow2:wG.ownsRow 0 ei 1 u l[i].length (l[i].map (.int k)):=dM hrow fun b hb=>hk b (List.mem_filterMap.2 ⟨u,List.mem_of_getElem? hi,hb⟩)
   refine ⟨fq hrow,.ints k (l.getD i []),by simp [FC.elem,hlt2],?_⟩
   have hgd:l.getD i []=l[i]:=by simp [List.getD,hlt2]
   rw [hgd];have:=qq hrow2 (dS hrow2) (by omega)
   show g6 wG k u l[i]
   simpa using this
  ·obtain ⟨q1,vs,q2,q3⟩:=h
   exact ⟨q1,vs,q2,fun i u hi=>let ⟨h4,fc,h5,h6⟩:=q3 i u hi;⟨h4,fc,h5,by rw [←he];exact h6⟩⟩
theorem St.fzs (h:St C σ mu a w):∀(fs:List (Nat×Option Ob)),(∀o x,(o,x)∈fs→∃ob d,σ.H o=some (some ob)∧gD ob=some d∧x=some (.frz d)) →
  ∃wG mu',GrowF C wG∧St (C.fz wG) ⟨σ.fr,fs++σ.hp⟩ mu' a w∧(∀o,(∀x,(o,x) ∉ fs)→mu' o=mu o)∧cz (σ.env C.wF mu) ((State.mk σ.fr (fs++σ.hp)).env wG mu')
 | [],_=>⟨C.wF,mu,.refl C,h,fun _ _=>rfl,cz.refl _⟩
 | (o,x)::fs,hf=>by
  obtain ⟨wG,mu1,g1,s1,k1,e1⟩:=St.fzs h fs fun o' x' hm=>hf o' x' (List.mem_cons_of_mem _ hm)
  obtain ⟨ob,d,q1,q2,rfl⟩:=hf o x (List.mem_cons_self ..);have hcur:∃ob1,(State.mk σ.fr (fs++σ.hp)).H o=some (some ob1)∧gD ob1=some d:=by
   simp only [State.H,kA];cases hx:lk fs o with
   | none=>exact ⟨ob,q1,q2⟩
   | some y =>
    have hm:(o,y)∈fs:=by
     clear hf s1 k1 g1 e1
     induction fs with
     | nil=>simp [lk] at hx
     | cons z fs ih =>
      obtain ⟨k,v⟩:=z;rw [bC] at hx;split at hx
      ·rename_i hk;subst hk;cases hx;exact List.mem_cons_self ..
      ·exact List.mem_cons_of_mem _ (ih hx)
    obtain ⟨ob',d',r1,r2,rfl⟩:=hf o y (List.mem_cons_of_mem _ hm);rw [q1] at r1;cases r1;rw [q2] at r2;cases r2;exact ⟨.frz d,rfl,rfl⟩
  obtain ⟨ob1,c1,c2⟩:=hcur;obtain ⟨wH,mu2,g2,s2,k2,e2⟩:=s1.cv1 c1 (.inl ⟨d,c2,rfl⟩);refine ⟨wH,mu2,g1.trans g2,s2,fun o' hn=>?_,e1.trans e2⟩
  rw [k2 o' (fun hc=>hn (some (.frz d)) (by rw [hc];exact List.mem_cons_self ..))]
  exact k1 o' fun x hx=>hn x (List.mem_cons_of_mem _ hx)
theorem aN.eqv {C:Cx} {σ σ':State} (hF:∀t,σ'.F t=σ.F t) (hH:∀o,σ'.H o=σ.H o) {a:Act} {w:World} (hs:aN C σ a w):aN C σ' a w:=by
 have hst:σ'.ost=σ.ost:=funext fun o=>by simp [State.ost,hH]
 obtain ⟨wG,mu,hg,q⟩:=hs;have henv:∀wF,σ'.env wF mu=σ.env wF mu:=fun wF=>by simp [State.env,hst]
 exact ⟨wG,mu,hg,q.os,q.tape,q.output,q.size,q.block,fun p u hp=>⟨fun o ob ho=>(q.cells p u hp).1 o ob (by rw [←hH];exact ho),(q.cells p u hp).2⟩,q.sz,q.df,fun t sv ht=>by rw [henv];exact q.fr t sv (by rw [←hF];exact ht),fun o ob ho=>by rw [henv];exact q.ob o ob (by rw [←hH];exact ho),
  fun o ob ho=>q.nd o ob (by rw [←hH];exact ho),fun o o' ob ob' hne ho ho'=>q.sep o o' ob ob' hne (by rw [←hH];exact ho) (by rw [←hH];exact ho'),fun o m hp=>by rw [hst];exact q.pins o m hp⟩
end
end Go.Sx
end
