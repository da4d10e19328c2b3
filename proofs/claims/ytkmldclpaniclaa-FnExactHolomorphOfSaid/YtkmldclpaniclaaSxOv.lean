/- SxOr SxOb SxOs SxOt SxOv -/
import Derived.Test.YtkmldclpaniclaaSxO
section
namespace Go.Sx
open Go.RowKit
section
variable {C:Cx} {σ:State} {mu:Nat→Img} {a:Act} {w w':World}
theorem argRep_ms {P:Program} {wF:World} {mt:List (Nat×Nat)} {ms ms':List Img} {obs obs':List Ob} {i:Nat} (hm:∀j,mtAt mt i j=none) {d:AD} {v:Value} (h:ArgRep P wF mt ms obs i d v):ArgRep P wF mt ms' obs' i d v:=by
 have hcell:∀{j d u},CellRep wF mt ms obs i j d u→CellRep wF mt ms' obs' i j d u:=fun {j d u} h=>by
  refine ⟨h.1,?_⟩
  have h2:=h.2
  rw [hm j] at h2 ⊢
  exact h2
 cases d with
 | c d=>exact hcell (j:=0) h
 | agg cs =>
  obtain ⟨arr,rfl,h1,h2⟩:=h
  exact ⟨arr,rfl,h1,fun j d hj=>let ⟨u,h3,h4⟩:=h2 j d hj;⟨u,h3,hcell h4⟩⟩
 | box cs =>
  simp only [ArgRep,hm 0] at h ⊢
  exact h
 | fv F=>exact h
 | fvs F s =>
  simp only [ArgRep,hm 0] at h
 | cut off n d =>
  simp only [ArgRep,hm 0] at h
 | ma x=>exact (show False from h).elim
theorem sopCallRow_ok {Γ:FuncId→Option Ctr} (hΓ:GOk C.P Γ) {f:FuncId} {o ver i:Nat} {svs:List SV} {ts:List TypeId} {eff:Eff} (hr:(sopCallRow C.P Γ f o ver i svs ts).run σ=some eff) (hob:eff.obl) (h:St C σ mu a w)
  {v0:Value} (hv0:RepC (σ.env C.wF mu) (.row o ver i) v0)
  {vs:List Value} (hvl:vs.length=svs.length) (hvs:∀(i:Nat) (sv:SV),svs[i]?=some sv→∃v,vs[i]?=some v∧RepV C.P (σ.env C.wF mu) sv v) {dst:Option Nat} (hd:∀d,dst=some d→d<C.N) :
  (∃fn,C.P.funcs[f]?=some fn∧fn.body.isSome=true∧(fn.name == "runtime.NumGoroutine")=false) ∧
  Calls C.P f (v0::vs).toArray w fun e w'=>∃v,e=.returned v∧StE C (σ.app dst eff) (a.put dst v) w':=by
 unfold sopCallRow at hr
 split at hr
 ·rename_i ct hct
  have hf:=hΓ f _ hct
  refine ⟨hf.fn,?_⟩
  obtain ⟨ob,ho,hr2⟩:=run_h hr
  clear hr
  split at hr2
  ·rename_i ver' e ei k l
   split at hr2
   ·rename_i hver
    have hver:=Nat.eq_of_beq_eq_true hver
    subst hver
    have hw:=hidW_of h [o] (fun x hx=>by simp at hx;subst hx;exact ⟨_,ho⟩)
    have hmt:∀y j,mtAt [(0,0)] (1+y) j=none:=fun y j=>by
     simp only [mtAt]
     rw [if_neg (by omega)]
     rfl
    obtain ⟨ads,hr3,hal,har⟩:=rdArgs_run hΓ h hw svs 1 ts _ _ (fun y sv _ x j hx=>by rw [hmt y j] at hx;cases hx) hr2
    split at hr3
    ·rename_i pre rc e' k' r hpost
     split at hr3
     ·rename_i c hrc
      split at hr3
      ·rename_i hek
       obtain ⟨rfl,rfl⟩:=hek
       simp only [Rd.run,Option.some.injEq] at hr3
       subst hr3
       obtain ⟨hpre,hlen⟩:pre∧r.length=(l.getD i []).length:=hob
       have hx:=on_live ho hv0
       obtain ⟨hins,hi⟩:=hx.2 rfl
       have hi':i<l.length:=hi
       obtain ⟨q1,q2,q3⟩:=h.ob o _ ho
       have hgd:l.getD i []=l[i]:=by simp [List.getD,hi']
       have hrow:=q3 i v0 _ hins (List.getElem?_eq_getElem hi')
       rw [←hgd] at hrow
       have hsub:∀b∈(⟨v0,[]⟩:Img).blocks,hdBlock v0=some b:=fun b hb=>by
        simpa [Img.blocks] using hb
       have hin:∀b∈(⟨v0,[]⟩:Img).blocks,b∈(mu o).blocks:=fun b hb=>mem_blocks_ins hins (hsub b hb)
       have hnd0:(⟨v0,[]⟩:Img).blocks.Nodup:=by
        simp only [Img.blocks,List.filterMap_nil,List.append_nil]
        cases hdBlock v0 <;> simp
       have hone:v0.oneCell'=true:=hv0.1
       refine (hf.run w (hide w ([o].flatMap fun o=>(mu o).blocks)) (v0::vs) (.c (.ints k (l.getD i []))::ads) ⟨pre,.c rc,[.ints ei k r]⟩ [⟨v0,[]⟩] [.ints ei k (l.getD i [])] hpost hpre (by simp [hvl,hal]) rfl rfl rfl ?_ ?_ ?_ ?_ ?_).mono ?_
       ·intro x m ob hx hox
        cases x with
        | zero=>simp at hx hox;subst hx;subst hox;exact ⟨⟨rfl,hrow⟩,hnd0⟩
        | succ x=>simp at hx
       ·intro x x' m m' hne hx hx'
        cases x with
        | zero =>
         cases x' with
         | zero=>exact absurd rfl hne
         | succ x'=>simp at hx'
        | succ x=>simp at hx
       ·intro x ob rc' hx hrc'
        cases x with
        | zero =>
         simp at hx hrc';subst hx;subst hrc'
         exact ⟨.ints ei k r,r.length=(l.getD i []).length,by simp only [wrOb,and_self,if_true];rfl,hlen⟩
        | succ x=>simp at hx
       ·intro p u hp
        obtain ⟨h1,h2⟩:=hw.kept p u hp
        exact ⟨h1,fun m hm hb=>by
         simp at hm;subst hm
         exact h2 o (by simp) (hin _ hb)⟩
       ·intro j ad hj
        cases j with
        | zero =>
         simp at hj;subst hj
         exact ⟨v0,rfl,hone,_,_,rfl,rfl,rfl,rfl⟩
        | succ j =>
         obtain ⟨sv,h1,h2⟩:=har j ad (by simpa using hj)
         obtain ⟨v,h3,h4⟩:=hvs j sv h1
         have h5:=h2 v h4
         rw [Nat.add_comm] at h5
         exact ⟨v,by simpa using h3,argRep_ms (fun j'=>by have:=hmt j j';rwa [Nat.add_comm] at this) h5⟩
       ·rintro e0 w' ⟨v,ms',img,wG,rfl,haft,hml,hms,_,hret⟩
        refine ⟨v,rfl,?_⟩
        have hlt1:0<ms'.length:=by rw [hml];simp
        obtain ⟨_,k1,k2,k3,ob3,q4,k4,k5⟩:=hms 0 _ _ _ _ rfl (List.getElem?_eq_getElem hlt1) rfl rfl rfl
        simp only [wrOb,and_self,if_true,Option.some.injEq,Prod.mk.injEq] at k4
        obtain ⟨rfl,rfl⟩:=k4
        have hrow':w'.ownsRow 0 ei 1 v0 r.length (r.map (.int k)):=by
         have:=k5.2
         rw [k1] at this
         exact this
        have hval:∀E,RepV C.P E (.c c) v:=fun E=>by
         have h1:=hret.val
         cases rc <;> simp only [rcSC,reduceCtorEq,Option.some.injEq] at hrc <;> subst hrc
         ·exact h1
         ·exact h1
        have hkeep:∀b,b∈(mu o).blocks→hdBlock v0≠some b→w'.heap[b]?=w.heap[b]?:=fun b hb hne =>
         haft.block b ((h.ob o _ ho).block b hb) fun m hm hbm=>by
          simp at hm;subst hm
          exact hne (hsub b hbm)
        have hrl:(l.set i r).map List.length=l.map List.length:=by
         rw [List.map_set,hlen,hgd]
         apply List.ext_getElem?
         intro x
         rw [List.getElem?_set]
         split
         ·rename_i hx;subst hx;simp [hi']
         ·rfl
        refine h.setV hd ho [] (by simp) (m:=mu o) hval haft.os haft.tape haft.output haft.size (fun b hb hn=>haft.block b hb fun m hm hbm=>?_) (by simp [Ob.shp]) rfl (Nat.le_refl _) (fun _=>⟨rfl,hrl⟩) ⟨?_,by simp [q2],fun x u s hxx hs=>?_⟩ (h.nd o _ ho).1 (fun b hb=>.inl hb)
        ·simp at hm;subst hm
         exact hn (hin b hbm)
        ·rw [List.length_set]
         refine ownsRow_keep q1 fun b' hb'=>hkeep b' (mem_blocks_hd hb') fun hc=>?_
         exact (nodup_blocks_ins (h.nd o _ ho).1).2 _ hb' (List.mem_filterMap.2 ⟨v0,List.mem_of_getElem? hins,hc⟩)
        ·rw [List.getElem?_set] at hs
         by_cases hix:i=x
         ·subst hix
          rw [if_pos rfl,if_pos hi'] at hs
          cases hs
          have hrv:u=v0:=Option.some.inj (hxx.symm.trans hins)
          subst hrv
          exact hrow'
         ·rw [if_neg hix] at hs
          refine ownsRow_keep (q3 x u s hxx hs) fun b' hb'=>hkeep b' (mem_blocks_ins hxx hb') fun hc=>?_
          exact row_block_ne (h.nd o _ ho).1 hins hxx hix hc hb'
      ·simp [Rd.run] at hr3
     ·simp [Rd.run] at hr3
    ·simp [Rd.run] at hr3
   ·simp [Rd.run] at hr2
  ·simp [Rd.run] at hr2
 ·simp [Rd.run] at hr
theorem sopCallKid_ok {Γ:FuncId→Option Ctr} (hΓ:GOk C.P Γ) {f:FuncId} {o ver:Nat} {p:List Nat} {svs:List SV} {ts:List TypeId} {eff:Eff} (hr:(sopCallKid C.P Γ f o ver p svs ts).run σ=some eff) (hob:eff.obl) (h:St C σ mu a w)
  {v0:Value} (hv0:RepC (σ.env C.wF mu) (.kid o ver p) v0)
  {vs:List Value} (hvl:vs.length=svs.length) (hvs:∀(i:Nat) (sv:SV),svs[i]?=some sv→∃v,vs[i]?=some v∧RepV C.P (σ.env C.wF mu) sv v) {dst:Option Nat} (hd:∀d,dst=some d→d<C.N) :
  (∃fn,C.P.funcs[f]?=some fn∧fn.body.isSome=true∧(fn.name == "runtime.NumGoroutine")=false) ∧
  Calls C.P f (v0::vs).toArray w fun e w'=>∃v,e=.returned v∧StE C (σ.app dst eff) (a.put dst v) w':=by
 unfold sopCallKid at hr
 split at hr
 ·rename_i ct hct
  have hf:=hΓ f _ hct
  refine ⟨hf.fn,?_⟩
  obtain ⟨ob,ho,hr2⟩:=run_h hr
  clear hr
  split at hr2
  ·rename_i ver' es d
   split at hr2
   ·rename_i hver
    have hver:=Nat.eq_of_beq_eq_true hver
    subst hver
    split at hr2
    ·rename_i x hx1
     have hw:=hidW_of h [o] (fun x hx=>by simp at hx;subst hx;exact ⟨_,ho⟩)
     have hmt:∀y j,mtAt [(0,0)] (1+y) j=none:=fun y j=>by
      simp only [mtAt]
      rw [if_neg (by omega)]
      rfl
     obtain ⟨ads,hr3,hal,har⟩:=rdArgs_run hΓ h hw svs 1 ts _ _ (fun y sv _ x j hx=>by rw [hmt y j] at hx;cases hx) hr2
     split at hr3
     ·rename_i pre rc es' x' hpost
      split at hr3
      ·rename_i c hrc
       split at hr3
       ·rename_i hes
        have hes0:=eqNs_ok hes
        subst hes0
        split at hr3
        ·rename_i d' hp
         simp only [Rd.run,Option.some.injEq] at hr3
         subst hr3
         obtain ⟨hpre,hlen⟩:pre∧x'.len=x.len:=hob
         obtain ⟨_,hx⟩:=on_live ho hv0
         obtain ⟨nd,u,q1,q2,rfl⟩:=hx rfl
         obtain ⟨hm,hT,x0,k1,k2,k3⟩:=tr_at (h.ob o _ ho) q1 q2
         rw [hx1] at k1
         cases k1
         have Bu:=own_blocks k2
         have Bm:(mu o).blocks=bks es.length nd:=by rw [hm];exact own_blocks hT
         have hnd:=(h.nd o _ ho).1
         have hndu:=sub_nodup hT (by rw [←Bm];exact hnd) q2
         have hwr:wrOb (.tr 0 (es.drop p.length) x) (.tr (es.drop p.length) x')=some (.tr 0 (es.drop p.length) x',x'.len=x.len):=by simp only [wrOb,hes]
         refine (hf.run w (hide w ([o].flatMap fun o=>(mu o).blocks)) (ndHd u::vs) (.c x::ads) ⟨pre,.c rc,[.tr (es.drop p.length) x']⟩ [imgT (es.drop p.length).length u] [.tr 0 (es.drop p.length) x] hpost hpre (by simp [hvl,hal]) rfl rfl rfl ?_ ?_ ?_ ?_ ?_).mono ?_
         ·intro y m ob hx hox
          cases y with
          | zero=>simp at hx hox;subst hx;subst hox;exact ⟨⟨u,by rw [List.length_drop],k2⟩,by rw [←List.length_drop,Bu];exact hndu⟩
          | succ x=>simp at hx
         ·intro y y' m m' hne hx hx'
          cases y with
          | zero =>
           cases y' with
           | zero=>exact absurd rfl hne
           | succ x'=>simp at hx'
          | succ x=>simp at hx
         ·intro y ob rc' hx hrc'
          cases y with
          | zero =>
           simp at hx hrc';subst hx;subst hrc'
           exact ⟨_,_,hwr,hlen⟩
          | succ x=>simp at hx
         ·intro q u' hp'
          obtain ⟨h1,h2⟩:=hw.kept q u' hp'
          exact ⟨h1,fun m hm' hb=>by
           simp only [List.mem_singleton] at hm';subst hm'
           rw [Bu] at hb
           exact h2 o (by simp) (k3 _ hb)⟩
         ·intro j ad hj
          cases j with
          | zero =>
           simp at hj;subst hj
           exact ⟨ndHd u,rfl,k2.one,_,_,rfl,rfl,rfl,rfl⟩
          | succ j =>
           obtain ⟨sv,h1,h2⟩:=har j ad (by simpa using hj)
           obtain ⟨v,h3,h4⟩:=hvs j sv h1
           have h5:=h2 v h4
           rw [Nat.add_comm] at h5
           exact ⟨v,by simpa using h3,argRep_ms (fun j'=>by have:=hmt j j';rwa [Nat.add_comm] at this) h5⟩
         ·rintro e0 w' ⟨v,ms',img,wG,rfl,haft,hml,hms,_,hret⟩
          refine ⟨v,rfl,?_⟩
          have hlt1:0<ms'.length:=by rw [hml];simp
          obtain ⟨z1,z2,z3,z4,ob3,q4,z5,z6⟩:=hms 0 _ _ _ _ rfl (List.getElem?_eq_getElem hlt1) rfl rfl rfl
          rw [hwr] at z5
          simp only [Option.some.injEq,Prod.mk.injEq] at z5
          obtain ⟨rfl,rfl⟩:=z5
          rw [z1] at z6
          obtain ⟨nd2,z7,z8⟩:=z6
          have hnd2:u=nd2:=by
           have:=congrArg (fun m:Img=>m.ins.head?) z7
           simpa [imgT] using this
          subst hnd2
          have hval:∀E,RepV C.P E (.c c) v:=fun E=>by
           have h1:=hret.val
           cases rc <;> simp only [rcSC,reduceCtorEq,Option.some.injEq] at hrc <;> subst hrc
           ·exact h1
           ·exact h1
          have hin:∀b,(∀m∈[imgT (es.drop p.length).length u],b ∉ m.blocks)↔b ∉ bks (es.drop p.length).length u:=fun b=>by
           simp only [List.mem_singleton,forall_eq,Bu]
          obtain ⟨r1,_,_,_⟩:=own_set (w':=w') (u':=u) hT (by rw [←Bm];exact hnd) q2 hp rfl (fun b hb hbn=>haft.block b (hT.block b hb) ((hin b).2 hbn)) z8 hndu (fun b hb=>.inl hb)
          rw [ndSet_self hT q2] at r1
          exact h.setV hd ho [] (by simp) (m:=mu o) hval haft.os haft.tape haft.output haft.size (fun b hb hn=>haft.block b hb ((hin b).2 fun hc=>hn (k3 b hc))) (putP_len hx1 hp hlen) rfl (Nat.le_refl _) (fun _=>⟨rfl,rfl⟩) ⟨nd,hm,r1⟩ hnd (fun b hb=>.inl hb)
        ·simp [Rd.run] at hr3
       ·simp [Rd.run] at hr3
      ·simp [Rd.run] at hr3
     ·simp [Rd.run] at hr3
    ·simp [Rd.run] at hr2
   ·simp [Rd.run] at hr2
  ·simp [Rd.run] at hr2
 ·simp [Rd.run] at hr
theorem sopCallCut_ok {Γ:FuncId→Option Ctr} (hΓ:GOk C.P Γ) {f:FuncId} {o off n:Nat} {svs:List SV} {ts:List TypeId} {eff:Eff} (hr:(sopCallCut C.P Γ f o off n svs ts).run σ=some eff) (hob:eff.obl) (h:St C σ mu a w)
  {v0:Value} (hv0:RepC (σ.env C.wF mu) (.sub o off n) v0)
  {vs:List Value} (hvl:vs.length=svs.length) (hvs:∀(i:Nat) (sv:SV),svs[i]?=some sv→∃v,vs[i]?=some v∧RepV C.P (σ.env C.wF mu) sv v) {dst:Option Nat} (hd:∀d,dst=some d→d<C.N) :
  (∃fn,C.P.funcs[f]?=some fn∧fn.body.isSome=true∧(fn.name == "runtime.NumGoroutine")=false) ∧
  Calls C.P f (v0::vs).toArray w fun e w'=>∃v,e=.returned v∧StE C (σ.app dst eff) (a.put dst v) w':=by
 unfold sopCallCut at hr
 split at hr
 ·rename_i ct hct
  have hf:=hΓ f _ hct
  refine ⟨hf.fn,?_⟩
  obtain ⟨ob,ho,hr2⟩:=run_h hr
  clear hr
  split at hr2
  ·rename_i ver e ei k l
   have hw:=hidW_of h [o] (fun x hx=>by simp at hx;subst hx;exact ⟨_,ho⟩)
   have hmt:∀y j,mtAt [(0,0)] (1+y) j=none:=fun y j=>by
    simp only [mtAt]
    rw [if_neg (by omega)]
    rfl
   obtain ⟨ads,hr3,hal,har⟩:=rdArgs_run hΓ h hw svs 1 ts _ _ (fun y sv _ x j hx=>by rw [hmt y j] at hx;cases hx) hr2
   split at hr3
   ·rename_i pre rc e' ei' k' l' hpost
    split at hr3
    ·rename_i c hrc
     split at hr3
     ·rename_i hek
      obtain ⟨rfl,rfl,rfl⟩:=hek
      simp only [Rd.run,Option.some.injEq] at hr3
      subst hr3
      obtain ⟨hpre,hlen⟩:pre∧l'.map List.length=l.map List.length:=hob
      have hx:=on_live ho hv0
      obtain ⟨hi,hview⟩:=hx
      have hview:ViewV (mu o).hd off n v0:=hview
      have hi':off+n≤l.length:=hi
      have hll:l'.length=l.length:=by
       have:=congrArg List.length hlen
       simpa using this
      have q:=h.ob o _ ho
      have hnd0:=(h.nd o _ ho).1
      have hone:v0.oneCell'=true:=hv0.1
      have hhd:(mu o).hd.oneCell'=true:=by
       rcases hview with ⟨h1,_⟩ | ⟨g,len,cap,ao,h1,_⟩ <;> rw [h1] <;> rfl
      have hwr:wrOb (.rows ver e ei k l) (.rows e ei k l')=some (.rows ver e ei k l',l'.map List.length=l.map List.length):=by simp only [wrOb,and_self,if_true]
      refine (hf.run w (hide w ([o].flatMap fun o=>(mu o).blocks)) (v0::vs) (.cut off n (.rows k l)::ads) ⟨pre,.c rc,[.rows e ei k l']⟩ [mu o] [.rows ver e ei k l] hpost hpre (by simp [hvl,hal]) rfl rfl rfl ?_ ?_ ?_ ?_ ?_).mono ?_
      ·intro x m ob hx hox
       cases x with
       | zero=>simp at hx hox;subst hx;subst hox;exact ⟨q,hnd0⟩
       | succ x=>simp at hx
      ·intro x x' m m' hne hx hx'
       cases x with
       | zero =>
        cases x' with
        | zero=>exact absurd rfl hne
        | succ x'=>simp at hx'
       | succ x=>simp at hx
      ·intro x ob rc' hx hrc'
       cases x with
       | zero =>
        simp at hx hrc';subst hx;subst hrc'
        exact ⟨_,_,hwr,hlen⟩
       | succ x=>simp at hx
      ·intro p u hp
       obtain ⟨h1,h2⟩:=hw.kept p u hp
       exact ⟨h1,fun m hm hb=>by
        simp at hm;subst hm
        exact h2 o (by simp) hb⟩
      ·intro j ad hj
       cases j with
       | zero =>
        simp at hj;subst hj
        exact ⟨v0,rfl,mu o,_,rfl,rfl,rfl,hi',hview,hone,hhd⟩
       | succ j =>
        obtain ⟨sv,h1,h2⟩:=har j ad (by simpa using hj)
        obtain ⟨v,h3,h4⟩:=hvs j sv h1
        have h5:=h2 v h4
        rw [Nat.add_comm] at h5
        exact ⟨v,by simpa using h3,argRep_ms (fun j'=>by have:=hmt j j';rwa [Nat.add_comm] at this) h5⟩
      ·rintro e0 w' ⟨v,ms',img,wG,rfl,haft,hml,hms,_,hret⟩
       refine ⟨v,rfl,?_⟩
       have hlt1:0<ms'.length:=by rw [hml];simp
       obtain ⟨k0,k1,k2,k3,ob3,q4,k4,k5⟩:=hms 0 _ _ _ _ rfl (List.getElem?_eq_getElem hlt1) rfl rfl rfl
       rw [hwr] at k4
       simp only [Option.some.injEq,Prod.mk.injEq] at k4
       obtain ⟨rfl,rfl⟩:=k4
       rw [k0] at k5
       have hval:∀E,RepV C.P E (.c c) v:=fun E=>by
        have h1:=hret.val
        cases rc <;> simp only [rcSC,reduceCtorEq,Option.some.injEq] at hrc <;> subst hrc
        ·exact h1
        ·exact h1
       exact h.setV hd ho [] (by simp) (m:=mu o) hval haft.os haft.tape haft.output haft.size (fun b hb hn=>haft.block b hb fun m hm hbm=>hn (by simp at hm;subst hm;exact hbm)) hll rfl (Nat.le_refl _) (fun _=>⟨rfl,hlen⟩) k5 hnd0 (fun b hb=>.inl hb)
     ·simp [Rd.run] at hr3
    ·simp [Rd.run] at hr3
   ·simp [Rd.run] at hr3
  ·simp [Rd.run] at hr2
 ·simp [Rd.run] at hr
theorem sopCallRow1_ok {Γ:FuncId→Option Ctr} (hΓ:GOk C.P Γ) {f:FuncId} {k0:IntKind} {n0:Int} {o ver i:Nat} {svs:List SV} {ts:List TypeId} {eff:Eff} (hr:(sopCallRow1 C.P Γ f k0 n0 o ver i svs ts).run σ=some eff) (hob:eff.obl) (h:St C σ mu a w)
  {v0:Value} (hv0:RepC (σ.env C.wF mu) (.row o ver i) v0)
  {vs:List Value} (hvl:vs.length=svs.length) (hvs:∀(i:Nat) (sv:SV),svs[i]?=some sv→∃v,vs[i]?=some v∧RepV C.P (σ.env C.wF mu) sv v) {dst:Option Nat} (hd:∀d,dst=some d→d<C.N) :
  (∃fn,C.P.funcs[f]?=some fn∧fn.body.isSome=true∧(fn.name == "runtime.NumGoroutine")=false) ∧
  Calls C.P f (.int k0 n0::v0::vs).toArray w fun e w'=>∃v,e=.returned v∧StE C (σ.app dst eff) (a.put dst v) w':=by
 unfold sopCallRow1 at hr
 split at hr
 ·rename_i ct hct
  have hf:=hΓ f _ hct
  refine ⟨hf.fn,?_⟩
  obtain ⟨ob,ho,hr2⟩:=run_h hr
  clear hr
  split at hr2
  ·rename_i ver' e ei k l
   split at hr2
   ·rename_i hver
    have hver:=Nat.eq_of_beq_eq_true hver
    subst hver
    have hw:=hidW_of h [o] (fun x hx=>by simp at hx;subst hx;exact ⟨_,ho⟩)
    have hmt:∀y j,mtAt [(1,0)] (2+y) j=none:=fun y j=>by
     simp only [mtAt]
     rw [if_neg (by omega)]
     rfl
    obtain ⟨ads,hr3,hal,har⟩:=rdArgs_run hΓ h hw svs 2 ts _ _ (fun y sv _ x j hx=>by rw [hmt y j] at hx;cases hx) hr2
    split at hr3
    ·rename_i pre rv e' k' r hpost
     split at hr3
     ·split at hr3
      ·rename_i hek
       obtain ⟨rfl,rfl⟩:=hek
       simp only [Rd.run,Option.some.injEq] at hr3
       subst hr3
       obtain ⟨hpre,hlen⟩:pre∧r.length=(l.getD i []).length:=hob
       have hx:=on_live ho hv0
       obtain ⟨hins,hi⟩:=hx.2 rfl
       have hi':i<l.length:=hi
       obtain ⟨q1,q2,q3⟩:=h.ob o _ ho
       have hgd:l.getD i []=l[i]:=by simp [List.getD,hi']
       have hrow:=q3 i v0 _ hins (List.getElem?_eq_getElem hi')
       rw [←hgd] at hrow
       have hsub:∀b∈(⟨v0,[]⟩:Img).blocks,hdBlock v0=some b:=fun b hb=>by
        simpa [Img.blocks] using hb
       have hin:∀b∈(⟨v0,[]⟩:Img).blocks,b∈(mu o).blocks:=fun b hb=>mem_blocks_ins hins (hsub b hb)
       have hnd0:(⟨v0,[]⟩:Img).blocks.Nodup:=by
        simp only [Img.blocks,List.filterMap_nil,List.append_nil]
        cases hdBlock v0 <;> simp
       have hone:v0.oneCell'=true:=hv0.1
       refine (hf.run w (hide w ([o].flatMap fun o=>(mu o).blocks)) (.int k0 n0::v0::vs) (.c (.int k0 n0)::.c (.ints k (l.getD i []))::ads) ⟨pre,.tup [],[.ints ei k r]⟩ [⟨v0,[]⟩] [.ints ei k (l.getD i [])] hpost hpre (by simp [hvl,hal]) rfl rfl rfl ?_ ?_ ?_ ?_ ?_).mono ?_
       ·intro x m ob hx hox
        cases x with
        | zero=>simp at hx hox;subst hx;subst hox;exact ⟨⟨rfl,hrow⟩,hnd0⟩
        | succ x=>simp at hx
       ·intro x x' m m' hne hx hx'
        cases x with
        | zero =>
         cases x' with
         | zero=>exact absurd rfl hne
         | succ x'=>simp at hx'
        | succ x=>simp at hx
       ·intro x ob rc' hx hrc'
        cases x with
        | zero =>
         simp at hx hrc';subst hx;subst hrc'
         exact ⟨.ints ei k r,r.length=(l.getD i []).length,by simp only [wrOb,and_self,if_true];rfl,hlen⟩
        | succ x=>simp at hx
       ·intro p u hp
        obtain ⟨h1,h2⟩:=hw.kept p u hp
        exact ⟨h1,fun m hm hb=>by
         simp at hm;subst hm
         exact h2 o (by simp) (hin _ hb)⟩
       ·intro j ad hj
        match j,hj with
        | 0,hj =>
         simp at hj;subst hj
         exact ⟨.int k0 n0,rfl,rfl,rfl⟩
        | 1,hj =>
         simp at hj;subst hj
         exact ⟨v0,rfl,hone,_,_,rfl,rfl,rfl,rfl⟩
        | j+2,hj =>
         obtain ⟨sv,h1,h2⟩:=har j ad (by simpa using hj)
         obtain ⟨v,h3,h4⟩:=hvs j sv h1
         have h5:=h2 v h4
         rw [Nat.add_comm] at h5
         exact ⟨v,by simpa using h3,argRep_ms (fun j'=>by have:=hmt j j';rwa [Nat.add_comm] at this) h5⟩
       ·rintro e0 w' ⟨v,ms',img,wG,rfl,haft,hml,hms,_,hret⟩
        refine ⟨v,rfl,?_⟩
        have hlt1:0<ms'.length:=by rw [hml];simp
        obtain ⟨_,k1,k2,k3,ob3,q4,k4,k5⟩:=hms 0 _ _ _ _ rfl (List.getElem?_eq_getElem hlt1) rfl rfl rfl
        simp only [wrOb,and_self,if_true,Option.some.injEq,Prod.mk.injEq] at k4
        obtain ⟨rfl,rfl⟩:=k4
        have hrow':w'.ownsRow 0 ei 1 v0 r.length (r.map (.int k)):=by
         have:=k5.2
         rw [k1] at this
         exact this
        have hval:∀E,RepV C.P E (.tup []) v:=fun E=>by
         obtain ⟨arr,h1,h2,_⟩:=hret.val
         exact ⟨arr,h1,h2,fun i c hi=>by simp at hi⟩
        have hkeep:∀b,b∈(mu o).blocks→hdBlock v0≠some b→w'.heap[b]?=w.heap[b]?:=fun b hb hne =>
         haft.block b ((h.ob o _ ho).block b hb) fun m hm hbm=>by
          simp at hm;subst hm
          exact hne (hsub b hbm)
        have hrl:(l.set i r).map List.length=l.map List.length:=by
         rw [List.map_set,hlen,hgd]
         apply List.ext_getElem?
         intro x
         rw [List.getElem?_set]
         split
         ·rename_i hx;subst hx;simp [hi']
         ·rfl
        refine h.setV hd ho [] (by simp) (m:=mu o) hval haft.os haft.tape haft.output haft.size (fun b hb hn=>haft.block b hb fun m hm hbm=>?_) (by simp [Ob.shp]) rfl (Nat.le_refl _) (fun _=>⟨rfl,hrl⟩) ⟨?_,by simp [q2],fun x u s hxx hs=>?_⟩ (h.nd o _ ho).1 (fun b hb=>.inl hb)
        ·simp at hm;subst hm
         exact hn (hin b hbm)
        ·rw [List.length_set]
         refine ownsRow_keep q1 fun b' hb'=>hkeep b' (mem_blocks_hd hb') fun hc=>?_
         exact (nodup_blocks_ins (h.nd o _ ho).1).2 _ hb' (List.mem_filterMap.2 ⟨v0,List.mem_of_getElem? hins,hc⟩)
        ·rw [List.getElem?_set] at hs
         by_cases hix:i=x
         ·subst hix
          rw [if_pos rfl,if_pos hi'] at hs
          cases hs
          have hrv:u=v0:=Option.some.inj (hxx.symm.trans hins)
          subst hrv
          exact hrow'
         ·rw [if_neg hix] at hs
          refine ownsRow_keep (q3 x u s hxx hs) fun b' hb'=>hkeep b' (mem_blocks_ins hxx hb') fun hc=>?_
          exact row_block_ne (h.nd o _ ho).1 hins hxx hix hc hb'
      ·simp [Rd.run] at hr3
     ·simp [Rd.run] at hr3
    ·simp [Rd.run] at hr3
   ·simp [Rd.run] at hr2
  ·simp [Rd.run] at hr2
 ·simp [Rd.run] at hr
theorem sopSort_ok {Γ:FuncId→Option Ctr} (hΓ:GOk C.P Γ) {f:FuncId} {svs:List SV} {eff:Eff} (hm:isSo (Γ f)=true) (hr:(sopSort (Γ f) svs).run σ=some eff) (hob:eff.obl) (h:St C σ mu a w)
  {vs:List Value} (hvl:vs.length=svs.length) (hvs:∀(i:Nat) (sv:SV),svs[i]?=some sv→∃v,vs[i]?=some v∧RepV C.P (σ.env C.wF mu) sv v) {dst:Option Nat} (hd:∀d,dst=some d→d<C.N) :
  (∃fn,C.P.funcs[f]?=some fn∧fn.body.isSome=true∧(fn.name == "runtime.NumGoroutine")=false) ∧
  Calls C.P f vs.toArray w fun e w'=>∃v,e=.returned v∧StE C (σ.app dst eff) (a.put dst v) w':=by
 unfold isSo at hm
 split at hm
 ·rename_i ct hct
  have hf:=hΓ f _ hct
  refine ⟨hf.fn,?_⟩
  unfold sopSort at hr
  rw [hct] at hr
  simp only at hr
  split at hr
  ·rename_i o g
   obtain ⟨ob,ho,hr2⟩:=run_h hr
   clear hr
   split at hr2
   ·rename_i ver e ei l
    split at hr2
    ·rename_i pre g' x l' ws hpost
     split at hr2
     ·rename_i hg
      have hg:=Nat.eq_of_beq_eq_true hg
      subst hg
      simp only [Rd.run,Option.some.injEq] at hr2
      subst hr2
      obtain ⟨hpre,hlen⟩:pre∧l'.length=l.length:=hob
      obtain ⟨v0,e0,r0⟩:=hvs 0 _ rfl
      obtain ⟨v1,e1,r1⟩:=hvs 1 _ rfl
      have hv0:v0=(mu o).hd:=on_live ho r0
      obtain ⟨arr,hv1,harr⟩:=r1
      have harr0:arr=#[]:=Array.eq_empty_of_size_eq_zero harr.1
      subst harr0
      have hvs':vs=[v0,v1]:=by
       match vs,hvl,e0,e1 with
       | [a,b],_,e0,e1=>simp at e0 e1;subst e0;subst e1;rfl
      subst hvs'
      subst hv1
      obtain ⟨q1,q2,q3⟩:=h.ob o _ ho
      have hnd:=(h.nd o _ ho).1
      refine Calls.mono (hf.so rfl l pre g' x l' ws hpost hpre w e ei v0 (mu o).ins (by rw [hv0];exact q1) q2 (fun i u r hi hr=>q3 i u r hi hr) (by rw [hv0];exact hnd)) ?_
      rintro r w' ⟨rfl,ins',k1,k2,k3,k4,k5,k6,k7,k8,k9⟩
      refine ⟨_,rfl,?_⟩
      have hperm:(⟨(mu o).hd,ins'⟩:Img).blocks.Perm (mu o).blocks:=by
       unfold Img.blocks
       exact List.Perm.append_left _ (k4.filterMap _)
      refine h.setV hd ho [] (by simp) (m:=⟨(mu o).hd,ins'⟩) (fun E=>⟨#[],rfl,rfl,fun i c hi=>by simp at hi⟩) k5 k6 k7 k8 (fun b hb hn=>k9 b hb fun hc=>hn (mem_blocks_hd (by rw [←hv0];exact hc))) hlen rfl (Nat.le_succ _) (fun hv=>by have:ver+1=ver:=hv;omega)
       ⟨by rw [←hv0];exact k1,k2,fun i u r hi hr=>?_⟩ (hperm.nodup_iff.2 hnd) (fun b hb=>.inl (hperm.mem_iff.1 hb))
      have hmem:u∈(mu o).ins:=k4.mem_iff.1 (List.mem_of_getElem? hi)
      obtain ⟨y,hy⟩:=List.getElem?_of_mem hmem
      refine ownsRow_keep (k3 i u r hi hr) fun b hb=>k9 b ((h.ob o _ ho).block b (mem_blocks_ins hy hb)) fun hc=>?_
      rw [hv0] at hc
      exact (nodup_blocks_ins hnd).2 _ hc (List.mem_filterMap.2 ⟨u,hmem,hb⟩)
     ·simp [Rd.run] at hr2
    ·simp [Rd.run] at hr2
   ·simp [Rd.run] at hr2
  ·simp [Rd.run] at hr
 ·cases hm
theorem sopDelF_ok {Γ:FuncId→Option Ctr} (hΓ:GOk C.P Γ) {f:FuncId} {svs:List SV} {eff:Eff} (hm:isDf (Γ f)=true) (hr:(sopDelF (Γ f) svs).run σ=some eff) (hob:eff.obl) (h:St C σ mu a w)
  {vs:List Value} (hvl:vs.length=svs.length) (hvs:∀(i:Nat) (sv:SV),svs[i]?=some sv→∃v,vs[i]?=some v∧RepV C.P (σ.env C.wF mu) sv v) {dst:Option Nat} (hd:∀d,dst=some d→d<C.N) :
  (∃fn,C.P.funcs[f]?=some fn∧fn.body.isSome=true∧(fn.name == "runtime.NumGoroutine")=false) ∧
  Calls C.P f vs.toArray w fun e w'=>∃v,e=.returned v∧StE C (σ.app dst eff) (a.put dst v) w':=by
 unfold isDf at hm
 split at hm
 ·rename_i ct hct
  have hf:=hΓ f _ hct
  refine ⟨hf.fn,?_⟩
  unfold sopDelF at hr
  rw [hct] at hr
  simp only at hr
  split at hr
  ·rename_i o off n g
   obtain ⟨ob,ho,hr2⟩:=run_h hr
   clear hr
   split at hr2
   ·rename_i ver e ei l
    split at hr2
    ·rename_i pre g' x k ws hpost
     split at hr2
     ·rename_i hg
      have hg:=Nat.eq_of_beq_eq_true hg
      subst hg
      simp only [Rd.run,Option.some.injEq] at hr2
      subst hr2
      have hpre:pre:=hob
      obtain ⟨v0,e0,r0⟩:=hvs 0 _ rfl
      obtain ⟨v1,e1,r1⟩:=hvs 1 _ rfl
      obtain ⟨hle,hview⟩:=on_live ho r0
      have hle:off+n≤l.length:=hle
      obtain ⟨arr,hv1,harr⟩:=r1
      have harr0:arr=#[]:=Array.eq_empty_of_size_eq_zero harr.1
      subst harr0
      have hvs':vs=[v0,v1]:=by
       match vs,hvl,e0,e1 with
       | [a,b],_,e0,e1=>simp at e0 e1;subst e0;subst e1;rfl
      subst hvs'
      subst hv1
      obtain ⟨q1,q2,q3⟩:=h.ob o _ ho
      have hnd:=(h.nd o _ ho).1
      obtain ⟨kn,cut⟩:=hf.df rfl l off n pre g' x k ws hpost hpre
      refine Calls.mono (cut w e ei (mu o).hd v0 (mu o).ins q1 q2 (fun i u r hi hr=>q3 i u r hi hr) hnd hle hview) ?_
      rintro r w' ⟨v2,rfl,one,view,ins',k1,k2,k3,k4,k5,k6,k7,k8,k9,k10⟩
      refine ⟨v2,rfl,?_⟩
      have ll:(l.take (off+k.length)++List.replicate (n - k.length) []++l.drop (off+n)).length=l.length:=by
       simp only [List.length_append,List.length_take,List.length_replicate,List.length_drop];omega
      refine h.setVE hd ho [] (by simp) (m:=⟨(mu o).hd,ins'⟩) (fun E hE hmu=>⟨one,?_⟩) k6 k7 k8 k9 (fun b hb hn=>k10 b hb fun hc=>hn (mem_blocks_hd hc)) ll rfl (Nat.le_succ _) (fun hv=>by have:ver+1=ver:=hv;omega)
       ⟨by rw [ll];exact k1,by rw [ll];exact k2,fun i u r hi hr=>?_⟩ k4 (fun b hb=>.inl (k5 b hb))
      ·rw [hE]
       show off+k.length≤_∧ViewV (E.mu o).hd off k.length v2
       rw [hmu]
       exact ⟨by show off+k.length≤(l.take (off+k.length)++List.replicate (n - k.length) []++l.drop (off+n)).length;omega,view⟩
      ·have hin:∀b,hdBlock u=some b→b∈(⟨(mu o).hd,ins'⟩:Img).blocks:=fun b hb=>mem_blocks_ins hi hb
       refine ownsRow_keep (k3 i u r hi hr) fun b hb=>k10 b ((h.ob o _ ho).block b (k5 b (hin b hb))) fun hc=>?_
       exact (nodup_blocks_ins k4).2 _ hc (List.mem_filterMap.2 ⟨u,List.mem_of_getElem? hi,hb⟩)
     ·simp [Rd.run] at hr2
    ·simp [Rd.run] at hr2
   ·simp [Rd.run] at hr2
  ·simp [Rd.run] at hr
 ·cases hm
theorem sopDel_ok {Γ:FuncId→Option Ctr} (hΓ:GOk C.P Γ) {d:Nat} {f:FuncId} {svs:List SV} {eff:Eff} (hm:isMv (Γ f)=true) (hr:(sopDel d svs).run σ=some eff) (hob:eff.obl) (h:St C σ mu a w)
  {vs:List Value} (hvl:vs.length=svs.length) (hvs:∀(i:Nat) (sv:SV),svs[i]?=some sv→∃v,vs[i]?=some v∧RepV C.P (σ.env C.wF mu) sv v) {dst:Option Nat} (hd:∀d,dst=some d→d<C.N) :
  (∃fn,C.P.funcs[f]?=some fn∧fn.body.isSome=true∧(fn.name == "runtime.NumGoroutine")=false) ∧
  Calls C.P f vs.toArray w fun e w'=>∃v,e=.returned v∧StE C (σ.app dst eff) (a.put dst v) w':=by
 unfold isMv at hm
 split at hm
 ·rename_i ct hct
  have hf:=hΓ f _ hct
  refine ⟨hf.fn,?_⟩
  have hdel:=hf.mv rfl
  unfold sopDel at hr
  split at hr
  ·rename_i o i j
   obtain ⟨ob,ho,hr2⟩:=run_h hr
   clear hr
   split at hr2
   ·rename_i e l
    obtain ⟨habs,hr3⟩:=run_abs hr2
    simp only [Rd.run,Option.some.injEq] at hr3
    subst hr3
    obtain ⟨h0,hij,hjl⟩:0≤i∧i<j∧j≤(l.length:Int):=hob
    obtain ⟨v0,e0,r0⟩:=hvs 0 _ rfl
    obtain ⟨v1,e1,r1⟩:=hvs 1 _ rfl
    obtain ⟨v2,e2,r2⟩:=hvs 2 _ rfl
    have hv0:v0=(mu o).hd:=on_live ho r0
    have hv1:v1=.int .i64 i:=r1
    have hv2:v2=.int .i64 j:=r2
    have hvs':vs=[v0,v1,v2]:=by
     match vs,hvl,e0,e1,e2 with
     | [a,b,c],_,e0,e1,e2=>simp at e0 e1 e2;subst e0;subst e1;subst e2;rfl
    subst hvs'
    obtain ⟨q1,q2⟩:=h.ob o _ ho
    have:=hdel w e v0 l i.toNat j.toNat (by rw [hv0];exact q2) (by omega) (by omega)
    rw [show ((i.toNat:Nat):Int)=i by omega,show ((j.toNat:Nat):Int)=j by omega] at this
    subst hv1;subst hv2
    refine Calls.mono this ?_
    rintro r w' ⟨v',rfl,k1,k2,k3,k4,k5,k6,k7⟩
    refine ⟨v',rfl,?_⟩
    refine h.move hd habs [o] (fun o' ho'=>by simp at ho';subst ho';exact ⟨_,ho⟩) (m:=⟨v',[]⟩) k3 k4 k5 (by omega) ?_ ⟨rfl,k1⟩ ?_ ?_ rfl (ownsRow_one k1)
    ·intro b _ hk
     refine k7 b fun hc=>hk o (by simp) (mem_blocks_hd (by rw [←hv0];exact hc))
    ·simp only [Img.blocks,List.filterMap_nil,List.append_nil]
     cases hdBlock v' <;> simp
    ·intro b hb
     simp only [Img.blocks,List.filterMap_nil,List.append_nil,Option.mem_toList] at hb
     rw [k2] at hb
     exact .inl ⟨o,by simp,mem_blocks_hd (by rw [←hv0];exact hb)⟩
   ·simp [Rd.run] at hr2
  ·simp [Rd.run] at hr
 ·cases hm
theorem sopGrow_ok {Γ:FuncId→Option Ctr} (hΓ:GOk C.P Γ) {d:Nat} {f:FuncId} {e:TypeId} {svs:List SV} {eff:Eff} (hm:grE (Γ f)=some e) (hr:(sopGrow d e svs).run σ=some eff) (hob:eff.obl) (h:St C σ mu a w)
  {vs:List Value} (hvl:vs.length=svs.length) (hvs:∀(i:Nat) (sv:SV),svs[i]?=some sv→∃v,vs[i]?=some v∧RepV C.P (σ.env C.wF mu) sv v) {dst:Option Nat} (hd:∀d,dst=some d→d<C.N) :
  (∃fn,C.P.funcs[f]?=some fn∧fn.body.isSome=true∧(fn.name == "runtime.NumGoroutine")=false) ∧
  Calls C.P f vs.toArray w fun r w'=>∃v,r=.returned v∧StE C (σ.app dst eff) (a.put dst v) w':=by
 unfold grE at hm
 split at hm
 ·rename_i ct hct
  split at hm
  ·rename_i q e' ws hct2
   cases hm
   have hf:=hΓ f _ hct
   refine ⟨hf.fn,?_⟩
   have hgr:=hf.gr rfl q e ws hct2
   unfold sopGrow at hr
   split at hr
   ·rename_i n
    obtain ⟨habs,hr3⟩:=run_abs hr
    simp only [Rd.run,Option.some.injEq] at hr3
    subst hr3
    obtain ⟨h0,hn⟩:0≤n∧n≤1099511627776:=hob
    obtain ⟨v0,e0,r0⟩:=hvs 0 _ rfl
    obtain ⟨v1,e1,r1⟩:=hvs 1 _ rfl
    have hv0:v0=.slice none 0 0:=r0
    have hv1:v1=.int .i64 n:=r1
    have hvs':vs=[v0,v1]:=by
     match vs,hvl,e0,e1 with
     | [a,b],_,e0,e1=>simp at e0 e1;subst e0;subst e1;rfl
    subst hvs'
    have:=hgr w n.toNat (by omega)
    rw [show ((n.toNat:Nat):Int)=n by omega] at this
    subst hv0;subst hv1
    refine Calls.mono this ?_
    rintro r w' ⟨v',rfl,k1,k2,k3,k4,k5,k6,k7⟩
    refine ⟨v',rfl,?_⟩
    refine h.move hd habs [] (fun o' ho'=>by simp at ho') (m:=⟨v',[]⟩) k3 k4 k5 k6 (fun b hb _=>k7 b hb) ⟨rfl,k1⟩ ?_ ?_ rfl (ownsRow_one k1)
    ·simp only [Img.blocks,List.filterMap_nil,List.append_nil]
     cases hdBlock v' <;> simp
    ·intro b hb
     simp only [Img.blocks,List.filterMap_nil,List.append_nil,Option.mem_toList] at hb
     exact .inr (k2 b hb)
   ·simp [Rd.run] at hr
  ·cases hm
 ·cases hm
end
end Go.Sx
end
section
namespace Go.Sx
open Go.RowKit
theorem blocks_ptr {m:Img} (h:∀u∈m.ins,hdBlock u=none):m.blocks=(hdBlock m.hd).toList:=by
 unfold Img.blocks
 rw [show m.ins.filterMap hdBlock=[] from List.filterMap_eq_nil_iff.2 h,List.append_nil]
theorem bxCells_len:∀{cs:List SC} {ds:List FC},ds.length=cs.length→(bxCells cs ds).length=cs.length
 | [],[],_=>rfl
 | c::cs,d::ds,h=>by simp [bxCells,bxCells_len (cs:=cs) (ds:=ds) (by simpa using h)]
 | [],_::_,h=>by simp at h
 | _::_,[],h=>by simp at h
theorem bxCells_get:∀{cs:List SC} {ds:List FC} {j:Nat} {c:SC},(bxCells cs ds)[j]?=some c→∃x d,cs[j]?=some x∧ds[j]?=some d∧c=if isScal d then scOf d else x
 | [],_,j,c,h=>by simp [bxCells] at h
 | _::_,[],j,c,h=>by simp [bxCells] at h
 | x::cs,d::ds,0,c,h=>by simp [bxCells] at h;exact ⟨x,d,rfl,rfl,h.symm⟩
 | x::cs,d::ds,j+1,c,h=>by
  simp only [bxCells,List.getElem?_cons_succ] at h
  obtain ⟨y,e,h1,h2,h3⟩:=bxCells_get h
  exact ⟨y,e,by simpa using h1,by simpa using h2,h3⟩
theorem bxC_scal {m:Img} {j:Nat} {d:FC} {u:Value} (h:BxC m j d u) (hs:isScal d=true) (E:Env):RepC E (scOf d) u:=by
 cases d with
 | int k n=>exact h
 | bool b=>exact h
 | str l=>exact h
 | _=>cases hs
theorem bxC_not {m:Img} {j:Nat} {d:FC} {u:Value} (h:BxC m j d u) (hs:isScal d=false):m.ins[j]?=some (.agg #[u]):=by
 cases d with
 | int k n=>cases hs
 | bool b=>cases hs
 | str l=>cases hs
 | _=>exact h
theorem bxC_of {w:World} {m:Img} {j:Nat} {d:FC} {u:Value} (h:Reads w u d) (hi:m.ins[j]?=some (.agg #[u])):BxC m j d u:=by
 cases d with
 | int k n=>exact h
 | bool b=>exact h
 | str l=>exact h
 | _=>exact hi
theorem reads_slice {w:World} {d:FC} {u:Value} (h:Reads w u d) (hs:isScal d=false):∃a n c,u=.slice a n c∧n≤c:=by
 cases d with
 | int k n=>cases hs
 | bool b=>cases hs
 | str l=>cases hs
 | _=>exact h.slice
section
variable {C:Cx} {σ:State} {mu:Nat→Img} {a:Act} {w:World}
theorem roC_ok {c:SC} {d:FC} (h:roC c=some d) {v:Value} (hv:RepC (σ.env C.wF mu) c v):Reads C.wF v d:=by
 unfold roC at h
 split at h
 ·cases h;simp only [RepC] at hv;subst hv;rfl
 ·cases h;simp only [RepC] at hv;subst hv;rfl
 ·cases h;simp only [RepC] at hv;subst hv;rfl
 ·cases h;exact hv.2
 ·cases h;exact hv.1.2
 ·cases h
theorem roAD_mt {sv:SV} {ad:AD} (h:roAD sv=some ad) {v:Value} (hv:RepV C.P (σ.env C.wF mu) sv v) {mt:List (Nat×Nat)} {ms:List Img} {obs:List Ob} {i:Nat} (hn:∀j,mtAt mt i j=none):ArgRep C.P C.wF mt ms obs i ad v:=by
 have cell:∀{j:Nat} {d:FC} {u:Value},u.oneCell'=true∧Reads C.wF u d→CellRep C.wF mt ms obs i j d u:=fun {j d u} q=>by
  unfold CellRep
  rw [hn j]
  exact q
 unfold roAD at h
 split at h
 ·split at h
  ·rename_i d hd
   cases h
   exact cell (roD_ok rfl hd hv)
  ·cases h
 ·split at h
  ·rename_i ds hds
   cases h
   obtain ⟨arr,rfl,h1,h2⟩:=hv
   obtain ⟨h3,h4⟩:=allSome_spec hds
   refine ⟨arr,rfl,by rw [h1,h3],fun j d hj=>?_⟩
   obtain ⟨c,h5,h6⟩:=h4 j d hj
   obtain ⟨u,h7,h8,h9⟩:=h2 j c h5
   exact ⟨u,h7,cell (roD_ok rfl h6 h9)⟩
  ·cases h
 ·cases h
theorem sopCallBoxRo_ok {Γ:FuncId→Option Ctr} (hΓ:GOk C.P Γ) {d:Nat} {f:FuncId} {o:Nat} {svs:List SV} {eff:Eff} (hr:(sopCallBoxRo C.P Γ d f o svs).run σ=some eff) (hob:eff.obl) (h:St C σ mu a w)
  {v0:Value} (hv0:RepC (σ.env C.wF mu) (.ptr o 0) v0)
  {vs:List Value} (hvl:vs.length=svs.length) (hvs:∀(i:Nat) (sv:SV),svs[i]?=some sv→∃v,vs[i]?=some v∧RepV C.P (σ.env C.wF mu) sv v) {dst:Option Nat} (hd:∀d,dst=some d→d<C.N) :
  Calls C.P f (v0::vs).toArray w fun e w'=>∃v,e=.returned v∧StE C (σ.app dst eff) (a.put dst v) w':=by
 unfold sopCallBoxRo at hr
 split at hr
 ·rename_i ct hct
  have hf:=hΓ f _ hct
  obtain ⟨ob,ho,hr2⟩:=run_h hr
  clear hr
  split at hr2
  ·rename_i xs
   split at hr2
   ·rename_i fcs hfcs
    obtain ⟨hfl,hfc⟩:=allSome_spec hfcs
    split at hr2
    ·rename_i ads hads
     obtain ⟨hal,har⟩:=allSome_spec hads
     split at hr2
     ·rename_i pre ret fcs' hpost
      split at hr2
      ·rename_i q hq
       obtain ⟨hr5,habs⟩:=absAll_run hr2
       simp only [Rd.run,Option.some.injEq] at hr5
       subst hr5
       obtain ⟨g,arr,ty,h1,h2,h3,h4,h5⟩:=box_cell h ho
       have hv0':v0=(mu o).hd:=by
        obtain ⟨_,b,hb,hv⟩:=on_live ho hv0
        have hb:hdBlock (mu o).hd=some b:=hb
        rw [h1] at hb ⊢
        simp [hdBlock] at hb
        rw [hv,hb]
       let m:Img:=⟨(mu o).hd,arr.toList.map fun u=>.agg #[u]⟩
       have hmi:∀u∈m.ins,hdBlock u=none:=fun u hu=>by
        obtain ⟨x,_,rfl⟩:=List.mem_map.1 hu
        rfl
       have hmb:m.blocks=(mu o).blocks:=by rw [blocks_ptr hmi,blocks_ptr h2]
       have hins:∀(j:Nat) (u:Value),arr[j]?=some u→m.ins[j]?=some (.agg #[u]):=fun j u hu=>by
        show (arr.toList.map fun u=>Value.agg #[u])[j]?=_
        rw [List.getElem?_map]
        simp [hu]
       have hcell:∀(j:Nat) (dd:FC),fcs[j]?=some dd→∃u,arr[j]?=some u∧u.oneCell'=true∧Reads C.wF u dd:=fun j dd hj=>by
        obtain ⟨c,k1,k2⟩:=hfc j dd hj
        obtain ⟨u,k3,k4,k5⟩:=h5 j c k1
        exact ⟨u,k3,k4,roC_ok k2 k5⟩
       have hl':=bxSame_len hq
       have hmt:∀y j,mtAt [(0,0)] (1+y) j=none:=fun y j=>by
        simp only [mtAt]
        rw [if_neg (by omega)]
        rfl
       refine call_core hf h (hid:=[o]) (by simp) rfl (ms:=[m]) (obs:=[.bx fcs]) rfl rfl hpost hob.1 hob.2 rfl (fun o' ho'=>?_) (fun x o' rc hx hrc=>?_) habs (wF:=C.wF) (fun p u hp=>⟨(h.cells p u hp).2,fun o' ho'=>by simp at ho';subst ho';exact (h.cells p u hp).1 _ _ ho⟩) (fun _=>rfl) (by simp [hvl,hal]) (fun i ad hi=>?_) hd
       ·rw [lk_cons,if_neg (fun hc=>ho' (by simp [hc]))];rfl
       ·cases x with
        | succ x=>simp at hx
        | zero =>
         simp at hx hrc
         subst hx;subst hrc
         refine ⟨m,.bx fcs,.bx fcs',.box xs,q,rfl,rfl,⟨g,arr,ty,h1,hmi,h3,by rw [h4,hfl],fun j dd hj=>?_⟩,hmb,by simp [wrOb,hq],id,ho,rfl,.inr ⟨rfl,.box (bxCells xs fcs'),by simp [lk_cons],rfl,⟨?_,Nat.le_refl _,fun _=>rfl⟩,fun E w' _ hEE hrep=>?_⟩⟩
         ·obtain ⟨u,k1,k2,k3⟩:=hcell j dd hj
          exact ⟨u,k1,k2,bxC_of k3 (hins j u k1)⟩
         ·show (bxCells xs fcs').length=xs.length
          exact bxCells_len (by rw [hl',hfl])
         ·obtain ⟨b',arr',t',k1,k2,k3,k4,k5⟩:=hrep
          refine ⟨b',arr',t',k1,h2,k3,by rw [k4,bxCells_len (by rw [hl',hfl]),hl',hfl],fun j c hj=>?_⟩
          obtain ⟨x,dd,r1,r2,rfl⟩:=bxCells_get hj
          obtain ⟨u,r3,r4,r5⟩:=k5 j dd r2
          refine ⟨u,r3,r4,?_⟩
          cases hs:isScal dd with
          | true=>simp only [if_true];exact bxC_scal r5 hs _
          | false =>
           simp only [Bool.false_eq_true,if_false]
           have r6:=bxC_not r5 hs
           obtain ⟨u',r7,_,r8⟩:=h5 j x r1
           rw [hins j u' r7] at r6
           simp at r6
           rw [←r6];exact r8.mono hEE
       ·cases i with
        | zero =>
         simp at hi;subst hi
         refine ⟨v0,rfl,m,rfl,rfl,hv0',fun j dd hj hs=>?_⟩
         obtain ⟨u,k1,_,k3⟩:=hcell j dd hj
         exact ⟨u,hins j u k1,reads_slice k3 hs,k3⟩
        | succ i =>
         obtain ⟨sv,k1,k2⟩:=har i ad (by simpa using hi)
         obtain ⟨v,k3,k4⟩:=hvs i sv k1
         exact ⟨v,by simpa using k3,roAD_mt k2 k4 (fun j'=>by have:=hmt i j';rwa [Nat.add_comm] at this)⟩
      ·simp [Rd.run] at hr2
     ·simp [Rd.run] at hr2
    ·simp [Rd.run] at hr2
   ·simp [Rd.run] at hr2
  ·simp [Rd.run] at hr2
 ·simp [Rd.run] at hr
theorem sopCallBox_ok {Γ:FuncId→Option Ctr} (hΓ:GOk C.P Γ) {d:Nat} {f:FuncId} {o:Nat} {svs:List SV} {ts:List TypeId} {eff:Eff} (hr:(sopCallBox C.P Γ d f o svs ts).run σ=some eff) (hob:eff.obl) (h:St C σ mu a w)
  {v0:Value} (hv0:RepC (σ.env C.wF mu) (.ptr o 0) v0)
  {vs:List Value} (hvl:vs.length=svs.length) (hvs:∀(i:Nat) (sv:SV),svs[i]?=some sv→∃v,vs[i]?=some v∧RepV C.P (σ.env C.wF mu) sv v) {dst:Option Nat} (hd:∀d,dst=some d→d<C.N) :
  (∃fn,C.P.funcs[f]?=some fn∧fn.body.isSome=true∧(fn.name == "runtime.NumGoroutine")=false) ∧
  Calls C.P f (v0::vs).toArray w fun e w'=>∃v,e=.returned v∧StE C (σ.app dst eff) (a.put dst v) w':=by
 unfold sopCallBox at hr
 split at hr
 ·rename_i ct hct
  have hf:=hΓ f _ hct
  refine ⟨hf.fn,?_⟩
  obtain ⟨ob,ho,hr2⟩:=run_h hr
  clear hr
  split at hr2
  ·rename_i xs
   have hw:=hidW_of h [o] (fun x hx=>by simp at hx;subst hx;exact ⟨_,ho⟩)
   have hmt:∀y j,mtAt [(0,0)] (1+y) j=none:=fun y j=>by
    simp only [mtAt]
    rw [if_neg (by omega)]
    rfl
   obtain ⟨fcs,hr3,hfl,hfc⟩:=rdFCs_run h hw (mt:=[]) (i:=0) xs 0 _ _ _ (fun x c _ y hy=>by simp [mtAt] at hy) hr2
   obtain ⟨ads,hr4,hal,har⟩:=rdArgs_run hΓ h hw svs 1 _ _ _ (fun y sv _ x j hx=>by rw [hmt y j] at hx;cases hx) hr3
   split at hr4
   ·rename_i pre ret fcs' hpost
    split at hr4
    ·exact sopCallBoxRo_ok hΓ hr4 hob h hv0 hvl hvs hd
    rename_i hnro
    split at hr4
    ·rename_i q hq
     obtain ⟨hr5,habs⟩:=absAll_run hr4
     simp only [Rd.run,Option.some.injEq] at hr5
     subst hr5
     obtain ⟨g,arr,ty,h1,h2,h3,h4,h5⟩:=box_cell h ho
     have hv0':v0=(mu o).hd:=by
      obtain ⟨_,b,hb,hv⟩:=on_live ho hv0
      have hb:hdBlock (mu o).hd=some b:=hb
      rw [h1] at hb ⊢
      simp [hdBlock] at hb
      rw [hv,hb]
     let m:Img:=⟨(mu o).hd,arr.toList.map fun u=>.agg #[u]⟩
     have hmi:∀u∈m.ins,hdBlock u=none:=fun u hu=>by
      obtain ⟨x,_,rfl⟩:=List.mem_map.1 hu
      rfl
     have hmb:m.blocks=(mu o).blocks:=by rw [blocks_ptr hmi,blocks_ptr h2]
     have hins:∀(j:Nat) (u:Value),arr[j]?=some u→m.ins[j]?=some (.agg #[u]):=fun j u hu=>by
      show (arr.toList.map fun u=>Value.agg #[u])[j]?=_
      rw [List.getElem?_map]
      simp [hu]
     have hcell:∀(j:Nat) (dd:FC),fcs[j]?=some dd→∃u,arr[j]?=some u∧u.oneCell'=true∧Reads (hide w ([o].flatMap fun o=>(mu o).blocks)) u dd:=fun j dd hj=>by
      obtain ⟨c,k1,k2⟩:=hfc j dd hj
      obtain ⟨u,k3,k4,k5⟩:=h5 j c k1
      exact ⟨u,k3,k4,cellRep_nil (k2 u k5)⟩
     have hl':=bxSame_len hq
     refine call_core hf h (hid:=[o]) (by simp) rfl (ms:=[m]) (obs:=[.bx fcs]) rfl rfl hpost hob.1 hob.2 rfl (fun o' ho'=>?_) (fun x o' rc hx hrc=>?_) habs hw.kept (fun hc=>by rw [hnro] at hc;cases hc) (by simp [hvl,hal]) (fun i ad hi=>?_) hd
     ·rw [lk_cons,if_neg (fun hc=>ho' (by simp [hc]))];rfl
     ·cases x with
      | succ x=>simp at hx
      | zero =>
       simp at hx hrc
       subst hx;subst hrc
       refine ⟨m,.bx fcs,.bx fcs',.box xs,q,rfl,rfl,⟨g,arr,ty,h1,hmi,h3,by rw [h4,hfl],fun j dd hj=>?_⟩,hmb,by simp [wrOb,hq],id,ho,rfl,.inr ⟨rfl,.box (bxCells xs fcs'),by simp [lk_cons],rfl,⟨?_,Nat.le_refl _,fun _=>rfl⟩,fun E w' _ hEE hrep=>?_⟩⟩
       ·obtain ⟨u,k1,k2,k3⟩:=hcell j dd hj
        exact ⟨u,k1,k2,bxC_of k3 (hins j u k1)⟩
       ·show (bxCells xs fcs').length=xs.length
        exact bxCells_len (by rw [hl',hfl])
       ·obtain ⟨b',arr',t',k1,k2,k3,k4,k5⟩:=hrep
        refine ⟨b',arr',t',k1,h2,k3,by rw [k4,bxCells_len (by rw [hl',hfl]),hl',hfl],fun j c hj=>?_⟩
        obtain ⟨x,dd,r1,r2,rfl⟩:=bxCells_get hj
        obtain ⟨u,r3,r4,r5⟩:=k5 j dd r2
        refine ⟨u,r3,r4,?_⟩
        cases hs:isScal dd with
        | true=>simp only [if_true];exact bxC_scal r5 hs _
        | false =>
         simp only [Bool.false_eq_true,if_false]
         have r6:=bxC_not r5 hs
         obtain ⟨u',r7,_,r8⟩:=h5 j x r1
         rw [hins j u' r7] at r6
         simp at r6
         rw [←r6];exact r8.mono hEE
     ·cases i with
      | zero =>
       simp at hi;subst hi
       refine ⟨v0,rfl,m,rfl,rfl,hv0',fun j dd hj hs=>?_⟩
       obtain ⟨u,k1,_,k3⟩:=hcell j dd hj
       exact ⟨u,hins j u k1,reads_slice k3 hs,k3⟩
      | succ i =>
       obtain ⟨sv,k1,k2⟩:=har i ad (by simpa using hi)
       obtain ⟨v,k3,k4⟩:=hvs i sv k1
       have k5:=k2 v k4
       rw [Nat.add_comm] at k5
       exact ⟨v,by simpa using k3,argRep_ms (fun j'=>by have:=hmt i j';rwa [Nat.add_comm] at this) k5⟩
    ·simp [Rd.run] at hr4
   ·simp [Rd.run] at hr4
  ·simp [Rd.run] at hr2
 ·simp [Rd.run] at hr
end
end Go.Sx
end
section
namespace Go.Sx
open Go.RowKit
theorem splitAt_ok:∀{n:Nat} {l a b:List SC} {o:Nat},splitAt n l=some (a,o,b)→l=a++.ptr o 0::b∧a.length=n
 | 0,[],a,b,o,h=>by simp [splitAt] at h
 | 0,c::l,a,b,o,h=>by
  unfold splitAt at h
  split at h
  ·rename_i h1 h2;cases h;cases h2;exact ⟨rfl,rfl⟩
  ·rename_i h1 _;cases h1
  ·cases h
 | n+1,[],a,b,o,h=>by simp [splitAt] at h
 | n+1,c::l,a,b,o,h=>by
  unfold splitAt at h
  split at h
  ·rename_i h3
   cases h
   obtain ⟨k1,k2⟩:=splitAt_ok h3
   exact ⟨by rw [k1];rfl,by simp [k2]⟩
  ·cases h
theorem stQ_ok {o:Option Post} (h:stQ o):∃p n s,o=some ⟨p,.c (.int .i64 n),[.bx [.int .i64 s]]⟩∧p∧stP o=n∧stN o=s:=by
 unfold stQ at h
 split at h
 ·exact ⟨_,_,_,rfl,h,rfl,rfl⟩
 ·exact h.elim
section
variable {C:Cx} {σ:State} {mu:Nat→Img} {a:Act} {w:World}
theorem caps_at {σ:State} {mu:Nat→Img} {wF:World} {cs:List SC} {ds:List AD} (h2:∀(x:Nat) (d:AD),ds[x]?=some d→∃c,cs[x]?=some c∧∀i v,RepC (σ.env C.wF mu) c v→ArgRep C.P wF [] [] [] i d v)
  {arr:Array Value} {off:Nat} (hr:∀(x:Nat) (c:SC),cs[x]?=some c→∃u,arr[off+x]?=some u∧RepC (σ.env C.wF mu) c u) :
  ∀(x:Nat) (d:AD),ds[x]?=some d→∃u,arr[off+x]?=some u∧∀i,ArgRep C.P wF [] [] [] i d u:=fun x d hx=>by
 obtain ⟨c,h3,h4⟩:=h2 x d hx
 obtain ⟨u,h5,h6⟩:=hr x c h3
 exact ⟨u,h5,fun i=>h4 i u h6⟩
theorem argRep_mt {P:Program} {wF:World} {mt:List (Nat×Nat)} {ms:List Img} {obs:List Ob} {i:Nat} (hm:∀j,mtAt mt i j=none) {d:AD} {v:Value} (h:ArgRep P wF [] [] [] i d v):ArgRep P wF mt ms obs i d v:=by
 have hcell:∀{j d u},CellRep wF [] [] [] i j d u→CellRep wF mt ms obs i j d u:=fun {j d u} h=>by
  refine ⟨h.1,?_⟩
  rw [hm j]
  exact cellRep_nil h
 cases d with
 | c d=>exact hcell (j:=0) h
 | agg cs =>
  obtain ⟨arr,rfl,h1,h2⟩:=h
  exact ⟨arr,rfl,h1,fun j d hj=>let ⟨u,h3,h4⟩:=h2 j d hj;⟨u,h3,hcell h4⟩⟩
 | box cs =>
  simp only [ArgRep,hm 0]
  exact h
 | fv F=>exact h
 | fvs F s=>exact (show False from h).elim
 | cut off n d=>exact (show False from h).elim
 | ma x=>exact (show False from h).elim
theorem clos_st {wF:World} {g:FuncId} {k:Nat} {ctg:List AD→Option Post} (hg:Fits C.P g ⟨[(k+2,0)],ctg⟩) {A B:List AD} (hA:A.length=k) {arr:Array Value} (hsz:arr.size=k+1+B.length)
  (ha:∀(x:Nat) (d:AD),A[x]?=some d→∃u,arr[0+x]?=some u∧∀i,ArgRep C.P wF [] [] [] i d u) (hb:∀(x:Nat) (d:AD),B[x]?=some d→∃u,arr[k+1+x]?=some u∧∀i,ArgRep C.P wF [] [] [] i d u)
  {b:Nat} (hp:arr[k]?=some (.pointer (some ⟨b,0,none⟩))) (hnb:∀p u,wF.cell? p=some u→p.block≠b):ClosS C.P wF b (mkSF ctg A B) (.func (.func g) #[] arr):=by
 obtain ⟨fn,hfn1,hfn2,hfn3⟩:=fits_clos hg
 refine ⟨g,arr,fn,rfl,hfn1,hfn2,hfn3,fun w s x y hk ⟨t,ht⟩ hq=>?_⟩
 obtain ⟨pre,n,s',h1,h2,h3,h4⟩:=stQ_ok hq
 let m:Img:=⟨.pointer (some ⟨b,0,none⟩),[]⟩
 have hmb:m.blocks=[b]:=rfl
 have hmt:∀i j,i≠k+2→mtAt [(k+2,0)] i j=none:=fun i j hi=>by
  simp only [mtAt]
  rw [if_neg (by omega)]
  rfl
 have hx0:mtAt [(k+2,0)] (k+2) 0=some 0:=by simp [mtAt]
 have hrep:∀{w:World} {s:Int} {t:TypeId},w.heap[b]?=some (.cells #[.int .i64 s] t (0,0))→RepO (E0 w) w m (.bx [.int .i64 s]):=fun {w s t} ht =>
  ⟨b,_,t,rfl,by simp [m],ht,rfl,fun j d hj=>by
   match j,hj with
   | 0,hj=>simp at hj;subst hj;exact ⟨_,rfl,rfl,rfl⟩
   | j+1,hj=>simp at hj⟩
 have hlen:([Value.int .i64 x,.int .i64 y]++arr.toList).length=([AD.c (.int .i64 x),.c (.int .i64 y)]++(A++.box [.int .i64 s]::B)).length:=by
  simp only [List.length_append,List.length_cons,List.length_nil,Array.length_toList,hsz,hA]
  omega
 have:=hg.run w wF ([.int .i64 x,.int .i64 y]++arr.toList) ([.c (.int .i64 x),.c (.int .i64 y)]++(A++.box [.int .i64 s]::B)) _ [m] [.bx [.int .i64 s]] h1 h2 hlen rfl rfl rfl
  (fun z m' ob hz hz2=>by
   cases z with
   | zero=>simp at hz hz2;subst hz;subst hz2;exact ⟨hrep ht,by rw [hmb];simp⟩
   | succ z=>simp at hz)
  (fun z z' m1 m2 hne hz hz'=>by
   cases z with
   | zero =>
    cases z' with
    | zero=>exact absurd rfl hne
    | succ z'=>simp at hz'
   | succ z=>simp at hz)
  (fun z ob rc hz hz2=>by
   cases z with
   | zero=>simp at hz hz2;subst hz;subst hz2;exact ⟨_,_,by simp only [wrOb,bxSame,if_true];rfl,trivial⟩
   | succ z=>simp at hz)
  (fun p u hpu=>⟨hk p u hpu,fun m' hm'=>by
   simp at hm';subst hm'
   rw [hmb]
   simpa using hnb p u hpu⟩)
  (fun i d hi=>by
   match i,hi with
   | 0,hi=>simp at hi;subst hi;exact ⟨_,rfl,rfl,by rw [hmt 0 0 (by omega)];rfl⟩
   | 1,hi=>simp at hi;subst hi;exact ⟨_,rfl,rfl,by rw [hmt 1 0 (by omega)];rfl⟩
   | i+2,hi =>
    simp only [List.cons_append,List.nil_append,List.getElem?_cons_succ] at hi
    by_cases h5:i<A.length
    ·rw [List.getElem?_append_left h5] at hi
     obtain ⟨u,k1,k2⟩:=ha i d hi
     refine ⟨u,?_,argRep_mt (fun j=>hmt _ j (by omega)) (k2 _)⟩
     rw [Nat.zero_add] at k1
     simpa using k1
    ·rw [List.getElem?_append_right (by omega)] at hi
     by_cases h6:i=k
     ·subst h6
      rw [hA,Nat.sub_self] at hi
      simp at hi
      subst hi
      refine ⟨_,by simpa using hp,?_⟩
      simp only [ArgRep]
      rw [hx0]
      refine ⟨m,rfl,rfl,rfl,fun j d hj hs=>?_⟩
      match j,hj with
      | 0,hj=>simp at hj;subst hj;cases hs
      | j+1,hj=>simp at hj
     ·obtain ⟨z,hz⟩:∃z,i - A.length=z+1:=⟨i - A.length - 1,by omega⟩
      rw [hz,List.getElem?_cons_succ] at hi
      obtain ⟨u,k1,k2⟩:=hb z d hi
      refine ⟨u,?_,argRep_mt (fun j=>hmt _ j (by omega)) (k2 _)⟩
      rw [show k+1+z=i by omega] at k1
      simpa using k1)
 rw [show ([Value.int .i64 x,.int .i64 y]++arr.toList).toArray=#[.int .i64 x,.int .i64 y]++arr by apply Array.ext';simp] at this
 refine this.mono ?_
 rintro e w' ⟨v,ms',img,wG,rfl,haft,hml,hms,_,hret⟩
 have hlt1:0<ms'.length:=by rw [hml];simp
 obtain ⟨j0,_,_,_,ob3,q4,j4,j5⟩:=hms 0 _ _ _ _ rfl (List.getElem?_eq_getElem hlt1) rfl rfl rfl
 simp only [wrOb,bxSame,if_true,Option.some.injEq,Prod.mk.injEq] at j4
 obtain ⟨rfl,_⟩:=j4
 rw [j0] at j5
 obtain ⟨b',arr',t',r1,_,r3,r4,r5⟩:=j5
 have hbb:b'=b:=by simpa [m] using r1.symm
 subst hbb
 obtain ⟨u,r6,_,r7⟩:=r5 0 _ rfl
 have harr:arr'=#[.int .i64 s']:=by
  apply Array.ext
  ·rw [r4];rfl
  ·intro z hz1 hz2
   have:z=0:=by simp at hz2;omega
   subst this
   have h8:arr'[0]?=some u:=r6
   rw [Array.getElem?_eq_getElem hz1] at h8
   cases h8
   exact r7
 have hv:v=.int .i64 n:=hret.val
 refine ⟨by rw [hv];congr 1;exact (congrArg (Value.int .i64) h3.symm),haft.os,haft.tape,haft.output,haft.size,fun z hz hne=>haft.block z hz fun m' hm'=>by
  simp at hm';subst hm'
  rw [hmb];simpa using hne,t',?_⟩
 rw [r3,harr]
 have:(mkSF ctg A B).nx s x y=s':=h4
 rw [this]
theorem sopCallF_ok {o:Nat} {F:SFV} {svs:List SV} {eff:Eff} (hr:(sopCallF o F svs).run σ=some eff) (hob:eff.obl) (h:St C σ mu a w) {v0:Value} (hv0:RepV C.P (σ.env C.wF mu) (.fvs o F) v0)
  {vs:List Value} (hvl:vs.length=svs.length) (hvs:∀(i:Nat) (sv:SV),svs[i]?=some sv→∃v,vs[i]?=some v∧RepV C.P (σ.env C.wF mu) sv v) {dst:Option Nat} (hd:∀d,dst=some d→d<C.N) :
  ∃g caps,v0=.func (.func g) #[] caps∧(∃fn,C.P.funcs[g]?=some fn∧fn.body.isSome=true∧(fn.name == "runtime.NumGoroutine")=false) ∧
  Calls C.P g (vs.toArray++caps) w fun e w'=>∃v,e=.returned v∧StE C (σ.app dst eff) (a.put dst v) w':=by
 unfold sopCallF at hr
 split at hr
 ·rename_i x y
  obtain ⟨ob,ho,hr2⟩:=run_h hr
  split at hr2
  ·rename_i s
   simp only [Rd.run,Option.some.injEq] at hr2
   subst hr2
   obtain ⟨b,hb,g,caps,fn,rfl,k1,k2,k3,k4⟩:=on_live ho hv0
   obtain ⟨g',arr,ty,h1,h2,h3,h4,h5⟩:=box_cell h ho
   have hgb:g'=b:=by
    have hb:(mu o).hd=_:=hb
    rw [h1] at hb
    simpa using hb
   subst hgb
   have harr:arr=#[.int .i64 s]:=by
    obtain ⟨u,r6,_,r7⟩:=h5 0 _ rfl
    apply Array.ext
    ·rw [h4];rfl
    ·intro z hz1 hz2
     have:z=0:=by simp at hz2;omega
     subst this
     rw [Array.getElem?_eq_getElem hz1] at r6
     cases r6
     exact r7
   subst harr
   have hb0:g'∈(mu o).blocks:=mem_blocks_hd (by rw [h1];rfl)
   obtain ⟨u0,q1,q2⟩:=hvs 0 _ rfl
   obtain ⟨u1,q3,q4⟩:=hvs 1 _ rfl
   have q2:u0=.int .i64 x:=q2
   have q4:u1=.int .i64 y:=q4
   subst q2;subst q4
   have hvv:vs=[.int .i64 x,.int .i64 y]:=by
    match vs,hvl,q1,q3 with
    | [_,_],_,q1,q3=>simp at q1 q3;rw [q1,q3]
   subst hvv
   refine ⟨g,caps,rfl,⟨fn,k1,k2,by simpa using k3⟩,?_⟩
   refine (k4 w s x y (fun p u hp=>(h.cells p u hp).2) ⟨ty,h3⟩ hob).mono ?_
   rintro e w' ⟨rfl,t1,t2,t3,t4,t5,ty',t6⟩
   refine ⟨_,rfl,?_⟩
   refine h.setV hd ho [] (by simp) (m:=mu o) (fun E=>rfl) t1 t2 t3 t4 (fun z hz hn=>t5 z hz fun hc=>hn (by rw [hc];exact hb0)) rfl rfl (Nat.le_refl _) (fun _=>⟨rfl,rfl⟩) ⟨g',_,ty',h1,h2,t6,rfl,fun j c hj=>?_⟩ (h.nd o _ ho).1 (fun z hz=>.inl hz)
   match j,hj with
   | 0,hj=>simp at hj;subst hj;exact ⟨_,rfl,rfl,rfl⟩
   | j+1,hj=>simp at hj
  ·simp [Rd.run] at hr2
 ·simp [Rd.run] at hr
theorem sopCallSt_ok {Γ:FuncId→Option Ctr} (hΓ:GOk C.P Γ) {d:Nat} {f:FuncId} {svs:List SV} {eff:Eff} (hr:(sopCallSt C.P Γ d f svs).run σ=some eff) (hob:eff.obl) (h:St C σ mu a w)
  {vs:List Value} (hvl:vs.length=svs.length) (hvs:∀(i:Nat) (sv:SV),svs[i]?=some sv→∃v,vs[i]?=some v∧RepV C.P (σ.env C.wF mu) sv v) {dst:Option Nat} (hd:∀d,dst=some d→d<C.N) :
  (∃fn,C.P.funcs[f]?=some fn∧fn.body.isSome=true∧(fn.name == "runtime.NumGoroutine")=false) ∧
  Calls C.P f vs.toArray w fun e w'=>∃v,e=.returned v∧StE C (σ.app dst eff) (a.put dst v) w':=by
 unfold sopCallSt at hr
 split at hr
 ·rename_i ct hct
  have hf:=hΓ f _ hct
  refine ⟨hf.fn,?_⟩
  split at hr
  ·rename_i n g caps
   split at hr
   ·rename_i k0 ctg hctg
    have hg:=hΓ g _ hctg
    split at hr
    ·rename_i k
     split at hr
     ·rename_i ca o cb hsp
      obtain ⟨hcs,hcl⟩:=splitAt_ok hsp
      obtain ⟨ob,ho,hr2⟩:=run_h hr
      clear hr
      split at hr2
      ·rename_i s
       have hw:=hidW_of h [o] (fun x hx=>by simp at hx;subst hx;exact ⟨_,ho⟩)
       obtain ⟨A,hr3,hAl,hA⟩:=rdCaps_run h hw ca _ _ hr2
       obtain ⟨B,hr4,hBl,hB⟩:=rdCaps_run h hw cb _ _ hr3
       split at hr4
       ·rename_i pre ret s' hpost
        split at hr4
        ·simp [Rd.run] at hr4
        rename_i hnro
        obtain ⟨hr5,habs⟩:=absAll_run hr4
        simp only [Rd.run,Option.some.injEq] at hr5
        subst hr5
        obtain ⟨u0,q1,q2⟩:=hvs 0 _ rfl
        obtain ⟨u1,q3,arr,rfl,hasz,harr⟩:=hvs 1 _ rfl
        have q2:u0=.int .i64 n:=q2
        subst q2
        obtain ⟨bb,arr0,ty,h1,h2,h3,h4,h5⟩:=box_cell h ho
        have harr0:arr0=#[.int .i64 s]:=by
         obtain ⟨u,r6,_,r7⟩:=h5 0 _ rfl
         apply Array.ext
         ·rw [h4];rfl
         ·intro z hz1 hz2
          have:z=0:=by simp at hz2;omega
          subst this
          rw [Array.getElem?_eq_getElem hz1] at r6
          cases r6
          exact r7
        subst harr0
        let m:Img:=⟨(mu o).hd,[]⟩
        have hmb:m.blocks=(mu o).blocks:=by rw [blocks_ptr (m:=m) (by simp [m]),blocks_ptr h2]
        have hb0:bb∈(mu o).blocks:=mem_blocks_hd (by rw [h1];rfl)
        have hcap:∀(z:Nat) (c:SC),(ca++.ptr o 0::cb)[z]?=some c→∃u,arr[z]?=some u∧RepC (σ.env C.wF mu) c u:=fun z c hz=>by
         rw [←hcs] at hz
         obtain ⟨u,k1,_,k3⟩:=harr z c hz
         exact ⟨u,k1,k3⟩
        have hpt:arr[k]?=some (.pointer (some ⟨bb,0,none⟩)):=by
         obtain ⟨u,k1,k2⟩:=hcap k (.ptr o 0) (by rw [List.getElem?_append_right (by omega),hcl,Nat.sub_self];rfl)
         obtain ⟨_,b',k3,k4⟩:=on_live ho k2
         have k3:hdBlock (mu o).hd=some b':=k3
         rw [h1] at k3
         have:bb=b':=by simpa [hdBlock] using k3
         rw [k1,k4,this]
        have hcl2:=clos_st (wF:=hide w ([o].flatMap fun o=>(mu o).blocks)) hg (A:=A) (B:=B) (by rw [hAl,hcl]) (arr:=arr) (by rw [hasz,hcs];simp [hcl,hBl];omega)
         (caps_at (σ:=σ) (mu:=mu) hA fun z c hz=>by
          rw [Nat.zero_add]
          exact hcap z c (by rw [List.getElem?_append_left (List.getElem?_eq_some_iff.1 hz).1];exact hz))
         (caps_at (σ:=σ) (mu:=mu) hB fun z c hz=>hcap (k+1+z) c (by rw [List.getElem?_append_right (by omega),show k+1+z - ca.length=z+1 by omega];simpa using hz))
         hpt (fun p u hp hc=>(hw.kept p u hp).2 o (by simp) (by rw [hc];exact hb0))
        refine call_core hf h (hid:=[o]) (by simp) rfl (ms:=[m]) (obs:=[.bx [.int .i64 s]]) rfl rfl hpost hob.1 hob.2 rfl (fun o' ho'=>?_) (fun x o' rc hx hrc=>?_) habs hw.kept (fun hc=>by rw [hnro] at hc;cases hc) (by rw [hvl];rfl) (fun i ad hi=>?_) hd
        ·rw [lk_cons,if_neg (fun hc=>ho' (by simp [hc]))];rfl
        ·cases x with
         | succ x=>simp at hx
         | zero =>
          simp at hx hrc
          subst hx;subst hrc
          refine ⟨m,.bx [.int .i64 s],.bx [.int .i64 s'],.box [.int .i64 s],True,rfl,rfl,⟨bb,_,ty,h1,by simp [m],h3,rfl,fun j dd hj=>?_⟩,hmb,by simp only [wrOb,bxSame,if_true],fun _=>trivial,ho,rfl,.inr ⟨rfl,.box [.int .i64 s'],by simp [lk_cons],rfl,⟨rfl,Nat.le_refl _,fun _=>rfl⟩,fun E w' _ _ hrep=>?_⟩⟩
          ·match j,hj with
           | 0,hj=>simp at hj;subst hj;exact ⟨_,rfl,rfl,rfl⟩
           | j+1,hj=>simp at hj
          ·obtain ⟨b',arr',t',k1,k2,k3,k4,k5⟩:=hrep
           refine ⟨b',arr',t',k1,h2,k3,k4,fun j c hj=>?_⟩
           match j,hj with
           | 0,hj =>
            simp at hj;subst hj
            obtain ⟨u,r3,r4,r5⟩:=k5 0 _ rfl
            exact ⟨u,r3,r4,r5⟩
           | j+1,hj=>simp at hj
        ·match i,hi with
         | 0,hi=>simp at hi;subst hi;exact ⟨_,q1,rfl,rfl⟩
         | 1,hi=>simp at hi;subst hi;exact ⟨_,q3,m,bb,rfl,rfl,h1,rfl,hcl2⟩
         | i+2,hi=>simp at hi
       ·simp [Rd.run] at hr4
      ·simp [Rd.run] at hr2
     ·simp [Rd.run] at hr
    ·simp [Rd.run] at hr
   ·simp [Rd.run] at hr
  ·simp [Rd.run] at hr
 ·simp [Rd.run] at hr
end
end Go.Sx
end
section
namespace Go.Sx
open Go.RowKit
set_option linter.unusedSimpArgs false
set_option linter.unusedVariables false
section
variable {C:Cx} {σ:State} {mu mu':Nat→Img} {a:Act} {w w':World}
theorem take_H {id o ver:Nat} {e ei:TypeId} {k:IntKind} {l:List (List Int)} {hs:List Nat} {i:Nat} (x:Nat) :
  (State.mk σ.fr (takeR id o ver e ei k l hs i++σ.hp)).H x=if id=x then some (some (.ints ei k (l.getD i []))) else if o=x then some (some (.rowsH ver e ei k l hs)) else σ.H x:=by
 show lk ((id,_)::(o,_)::σ.hp) x=_
 rw [lk_cons,lk_cons];rfl
theorem slots_mod (d:Nat):∀(l:List (Nat×RC)) (x:Nat) (y:Option Ob),lk (retUps d l) x=some y→∃i,x=d+1000 * i
 | [],x,y,h=>by simp [retUps,lk] at h
 | (i,rc)::l,x,y,h=>by
  simp only [retUps] at h
  split at h
  ·rw [lk_cons] at h
   split at h
   ·exact ⟨i,by omega⟩
   ·exact slots_mod d l x y h
  ·exact slots_mod d l x y h
theorem sopCallTk_ok {Γ:FuncId→Option Ctr} (hΓ:GOk C.P Γ) {d:Nat} {f:FuncId} {o ver i j:Nat} {ts:List TypeId} {eff:Eff} (hr:(sopCallTk C.P Γ d f o ver i j ts).run σ=some eff) (hob:eff.obl) (h:St C σ mu a w)
  {v0 v1:Value} (hv0:RepV C.P (σ.env C.wF mu) (.c (.row o ver i)) v0) (hv1:RepV C.P (σ.env C.wF mu) (.c (.row o ver j)) v1) {dst:Option Nat} (hd:∀d,dst=some d→d<C.N) :
  (∃fn,C.P.funcs[f]?=some fn∧fn.body.isSome=true∧(fn.name == "runtime.NumGoroutine")=false) ∧
  Calls C.P f [v0,v1].toArray w fun e w'=>∃v,e=.returned v∧StE C (σ.app dst eff) (a.put dst v) w':=by
 unfold sopCallTk at hr
 obtain ⟨ob,ho,hr2⟩:=run_h hr
 clear hr
 split at hr2
 ·rename_i ver' e ei k l
  split at hr2
  ·rename_i hver
   have hver:=Nat.eq_of_beq_eq_true hver
   subst hver
   split at hr2
   ·rename_i ct hct
    have hf:=hΓ f _ hct
    refine ⟨hf.fn,?_⟩
    split at hr2
    ·rename_i pre ret e1 k1 l1 e2 k2 l2 hpost
     split at hr2
     ·simp [Rd.run] at hr2
     ·rename_i hnro
      split at hr2
      ·rename_i hek
       obtain ⟨he1,he2,hk1,hk2⟩:=hek
       subst he1;subst he2;subst hk1;subst hk2
       obtain ⟨hab1,hr3⟩:=run_abs hr2
       obtain ⟨hab0,hr4⟩:=run_abs hr3
       obtain ⟨hr5,habs⟩:=absAll_run hr4
       simp only [Rd.run,Option.some.injEq] at hr5
       subst hr5
       obtain ⟨hpre,hij⟩:(pre∧True∧True)∧i≠j:=hob
       obtain ⟨hi,hil⟩:=(on_live ho hv0).2 rfl
       obtain ⟨hj,hjl⟩:=(on_live ho hv1).2 rfl
       have hi:(mu o).ins[i]?=some v0:=hi
       have hj:(mu o).ins[j]?=some v1:=hj
       have hne1:d+500501≠o:=fun hc=>by rw [hc,ho] at hab1;cases hab1
       have hne0:d+500500≠o:=fun hc=>by rw [hc,ho] at hab0;cases hab0
       obtain ⟨r1,s1⟩:=h.take ho rfl (rowH_of (h.ob o _ ho)) hab1 hj (by simp)
       have ho1:(State.mk σ.fr (takeR (d+500501) o (ver'+1) e ei k l [j] j++σ.hp)).H o=some (some (.rowsH (ver'+1) e ei k l [j])):=by rw [take_H,if_neg hne1,if_pos rfl]
       have hab0':(State.mk σ.fr (takeR (d+500501) o (ver'+1) e ei k l [j] j++σ.hp)).H (d+500500)=none:=by rw [take_H,if_neg (by omega),if_neg (Ne.symm hne0)];exact hab0
       obtain ⟨r2,s2⟩:=s1.take (id:=d+500500) (i:=i) (v:=v0) ho1 rfl (by rw [if_neg (Ne.symm hne1),if_pos rfl];exact r1) hab0' (by rw [if_neg (Ne.symm hne1),if_pos rfl];show ((mu o).ins.set j (.slice none 0 0))[i]?=_;rw [List.getElem?_set_ne (Ne.symm hij)];exact hi) (by simp;exact hij)
       generalize hmu2:(fun x=>if x=d+500500 then (⟨v0,[]⟩:Img) else if x=o then _ else if x=d+500501 then _ else _)=mu2 at s2
       have hm0:mu2 (d+500500)=⟨v0,[]⟩:=by rw [←hmu2];simp
       have hm1:mu2 (d+500501)=⟨v1,[]⟩:=by rw [←hmu2];simp [hne1]
       generalize hσ2:State.mk (State.mk σ.fr (takeR (d+500501) o (ver'+1) e ei k l [j] j++σ.hp)).fr (takeR (d+500500) o (ver'+1+1) e ei k l [i,j] i++(State.mk σ.fr (takeR (d+500501) o (ver'+1) e ei k l [j] j++σ.hp)).hp)=σ2 at s2
       have hH0:σ2.H (d+500500)=some (some (.ints ei k (l.getD i []))):=by rw [←hσ2,take_H,if_pos rfl]
       have hH1:σ2.H (d+500501)=some (some (.ints ei k (l.getD j []))):=by rw [←hσ2,take_H,if_neg (by omega),if_neg (Ne.symm hne1),take_H,if_pos rfl]
       have hHx:∀x,x≠d+500500→x≠d+500501→x≠o→σ2.H x=σ.H x:=fun x a b c=>by
        rw [←hσ2,take_H,if_neg (Ne.symm a),if_neg (Ne.symm c),take_H,if_neg (Ne.symm b),if_neg (Ne.symm c)]
       have hw:=hidW_of s2 [d+500500,d+500501] (fun x hx=>by
        simp only [List.mem_cons,List.not_mem_nil,or_false] at hx
        rcases hx with hx | hx
        ·subst hx;exact ⟨_,hH0⟩
        ·subst hx;exact ⟨_,hH1⟩)
       have q0:=s2.ob _ _ hH0
       have q1:=s2.ob _ _ hH1
       rw [hm0] at q0
       rw [hm1] at q1
       have eapp:∀val pp,σ2.app dst ⟨val,retUps d (slotsV ret)++[(d+500500,none),(d+500501,none)],pp⟩ =
         σ.app dst ⟨val,(retUps d (slotsV ret)++[(d+500500,none),(d+500501,none)])++(takeR (d+500500) o (ver'+2) e ei k l [i,j] i++takeR (d+500501) o (ver'+1) e ei k l [j] j),pp⟩:=fun val pp=>by
        rw [←hσ2]
        simp only [State.app,List.append_assoc]
       have core:=call_core (d:=d) hf s2 (hid:=[d+500500,d+500501]) (by simp) rfl (ms:=[⟨v0,[]⟩,⟨v1,[]⟩]) (obs:=[.ints ei k (l.getD i []),.ints ei k (l.getD j [])]) rfl rfl hpost hpre.1 (q:=True) trivial rfl
        (ups:=[(d+500500,none),(d+500501,none)]) (fun x hx=>by
         simp only [List.mem_cons,List.not_mem_nil,or_false,not_or] at hx
         rw [lk_cons,if_neg (Ne.symm hx.1),lk_cons,if_neg (Ne.symm hx.2)];rfl) (wF:=hide w ([d+500500,d+500501].flatMap fun o=>(mu2 o).blocks))
        (fun x o' rc hx hrc=>by
         match x,hx,hrc with
         | 0,hx,hrc =>
          simp at hx hrc;subst hx;subst hrc
          exact ⟨_,_,_,_,_,rfl,rfl,q0.env,by rw [hm0],by simp only [wrOb,and_self,if_true];rfl,fun _=>trivial,hH0,rfl,.inl ⟨rfl,by rw [lk_cons,if_pos rfl]⟩⟩
         | 1,hx,hrc =>
          simp at hx hrc;subst hx;subst hrc
          exact ⟨_,_,_,_,_,rfl,rfl,q1.env,by rw [hm1],by simp only [wrOb,and_self,if_true];rfl,fun _=>trivial,hH1,rfl,.inl ⟨rfl,by rw [lk_cons,if_neg (by omega),lk_cons,if_pos rfl]⟩⟩
         | x+2,hx,_=>simp at hx)
        (fun x y hx=>by
         obtain ⟨n,hn⟩:=slots_mod d _ x y hx
         have:=habs x y hx
         rw [hHx x (by omega) (by omega) (fun hc=>by rw [hc,ho] at this;cases this)]
         exact this) hw.kept (fun hc=>by rw [hnro] at hc;cases hc) (vs:=[v0,v1]) rfl
        (fun x ad hx=>by
         match x,hx with
         | 0,hx =>
          simp at hx;subst hx
          exact ⟨v0,rfl,hv0.1,_,_,rfl,rfl,rfl,rfl⟩
         | 1,hx =>
          simp at hx;subst hx
          exact ⟨v1,rfl,hv1.1,_,_,rfl,rfl,rfl,rfl⟩
         | x+2,hx=>simp at hx) (pp:=some ((pre∧True∧True)∧i≠j)) hd
       rw [eapp] at core
       exact core
      ·simp [Rd.run] at hr2
    ·simp [Rd.run] at hr2
   ·simp [Rd.run] at hr2
  ·simp [Rd.run] at hr2
 ·simp [Rd.run] at hr2
end
end Go.Sx
end
section
namespace Go.Sx
open Go.RowKit
section
variable {C:Cx} {σ:State} {mu:Nat→Img} {a:Act} {w:World}
structure GoodT (C:Cx) (mu:Nat→Img) (tot:Tr) (E':Env):Prop where
 wF:E'.wF=C.wF
 at':∀k x ob,(k,x,ob)∈tot→E'.st k=.live (ver0 ob).shp∧match x with
  | some o=>E'.mu k=mu o
  | none=>(E'.mu k).hd=.slice none 0 0
def TrOk (C:Cx) (σ:State) (mu:Nat→Img) (tot os:Tr):Prop:=∀k x ob,(k,x,ob)∈os→match x with
 | some o=>∃ob0,σ.H o=some (some ob0)∧ob0.isFz=false∧((okMC ob0=true∧ob=ob0) ∨
   ∃cs cs',ob0=.box cs∧ob=.box cs'∧cs'.length=cs.length∧∀E',GoodT C mu tot E'→∀arr,RepL (σ.env C.wF mu) cs arr→RepL E' cs' arr)
 | none=>∃t,nilOb C.P t=some ob
theorem GoodT.sub {tot tot':Tr} {E':Env} (h:GoodT C mu tot E') (hs:∀t∈tot',t∈tot):GoodT C mu tot' E':=⟨h.wF,fun k x ob hm=>h.at' k x ob (hs _ hm)⟩
theorem TrOk.up {tot tot' os:Tr} (h:TrOk C σ mu tot os) (hs:∀t∈tot,t∈tot'):TrOk C σ mu tot' os:=fun k x ob hm=>by
 have h1:=h k x ob hm
 cases x with
 | none=>exact h1
 | some o =>
  obtain ⟨ob0,q1,q2,q3⟩:=h1
  refine ⟨ob0,q1,q2,q3.imp id ?_⟩
  rintro ⟨cs,cs',z1,z2,z3,z4⟩
  exact ⟨cs,cs',z1,z2,z3,fun E' hg=>z4 E' (hg.sub hs)⟩
theorem TrOk.app {tot os os':Tr} (h:TrOk C σ mu tot os) (h':TrOk C σ mu tot os'):TrOk C σ mu tot (os++os'):=fun k x ob hm=>by
 rcases List.mem_append.1 hm with hm | hm
 ·exact h k x ob hm
 ·exact h' k x ob hm
def trH (os:Tr):List (Nat×Option Ob):=os.map fun t=>(t.1,some (ver0 t.2.2))
theorem trH_app (os os':Tr):trH (os++os')=trH os++trH os':=List.map_append
theorem nilOb_ver {P:Program} {t:TypeId} {ob:Ob} (h:nilOb P t=some ob):ver0 ob=ob:=by
 unfold nilOb at h
 repeat' split at h
 all_goals first | cases h;done | (cases h;rfl)
theorem rdMC_run {α:Type} {k:Nat} {nl:Option Ob} (hnl:∀ob,nl=some ob→∃t,nilOb C.P t=some ob) {c:SC} {K:MC→Tr→Rd α} {r:α} (hr:(rdMC k nl c K).run σ=some r) :
  ∃x os,(K x os).run σ=some r∧trH os=mcH k x∧(∀tot,TrOk C σ mu tot os)∧∀tot E' v,(∀t∈os,t∈tot)→GoodT C mu tot E'→RepC (σ.env C.wF mu) c v→RepC E' (mcS k x) v:=by
 have nilT:∀tot:Tr,TrOk C σ mu tot []:=fun tot k x ob hm=>by cases hm
 unfold rdMC at hr
 split at hr
 ·exact ⟨_,_,hr,rfl,nilT,fun tot E' v _ _ hv=>hv⟩
 ·exact ⟨_,_,hr,rfl,nilT,fun tot E' v _ _ hv=>hv⟩
 ·exact ⟨_,_,hr,rfl,nilT,fun tot E' v _ _ hv=>hv⟩
 ·refine ⟨_,_,hr,rfl,nilT,fun tot E' v _ hg hv=>(scOf_rep ?_).1⟩
  rw [hg.wF];exact hv.2
 ·refine ⟨_,_,hr,rfl,nilT,fun tot E' v _ hg hv=>(scOf_rep ?_).1⟩
  rw [hg.wF];exact hv.1.2
 ·rename_i o
  obtain ⟨ob,ho,hr⟩:=run_h hr
  split at hr
  ·rename_i d
   refine ⟨_,_,hr,rfl,nilT,fun tot E' v _ hg hv=>(scOf_rep ?_).1⟩
   have h3:=hv.2
   have e:(σ.env C.wF mu).st o=.frz d:=ost_frz ho
   rw [e] at h3
   rw [hg.wF];exact h3.2
  ·rename_i hnf0
   have hnf:ob.isFz=false:=by cases ob <;> first | rfl | exact absurd rfl (hnf0 _)
   split at hr
   ·rename_i hok
    refine ⟨_,_,hr,rfl,fun tot k' x ob' hm=>?_,fun tot E' v hs hg hv=>?_⟩
    ·simp only [List.mem_singleton,Prod.mk.injEq] at hm
     obtain ⟨rfl,rfl,rfl⟩:=hm
     exact ⟨ob',ho,hnf,.inl ⟨hok,rfl⟩⟩
    ·have h1:=on_live ho hv hnf
     obtain ⟨h2,h3⟩:=hg.at' k (some o) ob (hs _ (by simp))
     refine ⟨hv.1,?_⟩
     rw [h2]
     show v=(E'.mu k).hd
     rw [h3];exact h1
   ·cases hr
 ·split at hr
  ·rename_i ob
   refine ⟨_,_,hr,?_,fun tot k' x ob' hm=>?_,fun tot E' v hs hg hv=>?_⟩
   ·obtain ⟨t,ht⟩:=hnl ob rfl
    show [(k,some (ver0 ob))]=[(k,some ob)]
    rw [nilOb_ver ht]
   ·simp only [List.mem_singleton,Prod.mk.injEq] at hm
    obtain ⟨rfl,rfl,rfl⟩:=hm
    exact hnl _ rfl
   ·have hv':v=.slice none 0 0:=hv
    obtain ⟨h2,h3⟩:=hg.at' k none ob (hs _ (by simp))
    subst hv'
    refine ⟨rfl,?_⟩
    rw [h2]
    exact h3.symm
  ·cases hr
 ·cases hr
theorem nilObH_ok {P:Program} {ts:List TypeId} {ob:Ob} (h:nilObH P ts=some ob):∃t,nilOb P t=some ob:=by
 cases ts with
 | nil=>cases h
 | cons t ts=>exact ⟨t,h⟩
theorem mcsS_len:∀(k:Nat) (l:List MC),(mcsS k l).length=l.length
 | _,[]=>rfl
 | k,x::l=>by simp [mcsS,mcsS_len (k+1) l]
theorem rdMCs_run {α:Type}:∀(cs:List SC) (k:Nat) (ts:List TypeId) (K:List MC→Tr→Rd α) (r:α) (_:(rdMCs C.P k cs ts K).run σ=some r),
  ∃l os,(K l os).run σ=some r∧trH os=mcsH k l∧l.length=cs.length∧(∀tot,TrOk C σ mu tot os)∧∀tot E',(∀t∈os,t∈tot)→GoodT C mu tot E' →
   ∀(j:Nat) (c':SC),(mcsS k l)[j]?=some c'→∃c,cs[j]?=some c∧∀v,RepC (σ.env C.wF mu) c v→RepC E' c' v
 | [],k,ts,K,r,hr=>⟨[],[],hr,rfl,rfl,fun tot k x ob hm=>(by cases hm),fun _ _ _ _ j c' hj=>by simp [mcsS] at hj⟩
 | c::cs,k,ts,K,r,hr=>by
  simp only [rdMCs] at hr
  obtain ⟨x,os,h1,h2,h3,h4⟩:=rdMC_run (C:=C) (mu:=mu) (fun ob h=>nilObH_ok h) hr
  obtain ⟨l,os',q1,q2,q3,q4,q5⟩:=rdMCs_run cs (k+1) ts.tail _ r h1
  refine ⟨x::l,os++os',q1,by rw [trH_app,h2,q2];rfl,by simp [q3],fun tot=>(h3 tot).app (q4 tot),fun tot E' hs hg j c' hj=>?_⟩
  cases j with
  | zero =>
   simp only [mcsS,List.getElem?_cons_zero,Option.some.injEq] at hj
   subst hj
   exact ⟨c,rfl,fun v hv=>h4 tot E' v (fun t ht=>hs t (List.mem_append_left _ ht)) hg hv⟩
  | succ j =>
   simp only [mcsS,List.getElem?_cons_succ] at hj
   obtain ⟨c2,z1,z2⟩:=q5 tot E' (fun t ht=>hs t (List.mem_append_right _ ht)) hg j c' hj
   exact ⟨c2,by simpa using z1,z2⟩
theorem rdMA_run {α:Type} {k:Nat} {t:TypeId} {sv:SV} {K:MA→Tr→Rd α} {r:α} (hr:(rdMA C.P k t sv K).run σ=some r) :
  ∃x os,(K x os).run σ=some r∧trH os=maH k x∧(∀tot,(∀t∈os,t∈tot)→TrOk C σ mu tot os)∧∀tot E' v,(∀t∈os,t∈tot)→GoodT C mu tot E'→RepV C.P (σ.env C.wF mu) sv v→RepV C.P E' (maS k x) v:=by
 unfold rdMA at hr
 split at hr
 ·split at hr
  ·rename_i o i
   split at hr
   ·obtain ⟨ob,ho,hr⟩:=run_h hr
    split at hr
    ·rename_i cs
     obtain ⟨l,os,q1,q2,q3,q4,q5⟩:=rdMCs_run (C:=C) (mu:=mu) cs (k+1) _ _ r hr
     refine ⟨_,_,q1,?_,fun tot hs k' x ob' hm=>?_,fun tot E' v hs hg hv=>?_⟩
     ·show (k,some (Ob.box (mcsS (k+1) l)))::trH os=_
      rw [q2];rfl
     ·rcases List.mem_cons.1 hm with hm | hm
      ·simp only [Prod.mk.injEq] at hm
       obtain ⟨rfl,rfl,rfl⟩:=hm
       refine ⟨_,ho,rfl,.inr ⟨cs,_,rfl,rfl,by rw [mcsS_len,q3],fun E' hg arr hrep=>⟨by rw [mcsS_len,q3];exact hrep.1,fun j c' hj=>?_⟩⟩⟩
       obtain ⟨c,z1,z2⟩:=q5 tot E' (fun t ht=>hs t (List.mem_cons_of_mem _ ht)) hg j c' hj
       obtain ⟨u,z3,z4,z5⟩:=hrep.2 j c z1
       exact ⟨u,z3,z4,z2 u z5⟩
      ·exact q4 tot k' x ob' hm
     ·obtain ⟨h2,h3⟩:=hg.at' k (some o) _ (hs _ List.mem_cons_self)
      obtain ⟨h4,h5⟩:=on_live ho hv
      refine ⟨hv.1,?_⟩
      rw [h2]
      refine ⟨?_,?_⟩
      ·show 0<(mcsS (k+1) l).length
       rw [mcsS_len,q3];exact h4
      ·rw [h3];exact h5
    ·cases hr
   ·cases hr
  ·obtain ⟨x,os,h1,h2,h3,h4⟩:=rdMC_run (C:=C) (mu:=mu) (fun ob h=>⟨t,h⟩) hr
   exact ⟨_,_,h1,h2,fun tot _=>h3 tot,h4⟩
 ·cases hr
theorem masF_lk:∀{mas:List MA} {i t:Nat} {sv:SV},lk (masF i mas) t=some sv→∃j x,mas[j]?=some x∧t=i+j∧sv=maS (bid t) x
 | [],i,t,sv,h=>by cases h
 | x::l,i,t,sv,h=>by
  simp only [masF,lk_cons] at h
  split at h
  ·rename_i he
   subst he
   cases h
   exact ⟨0,x,rfl,rfl,rfl⟩
  ·obtain ⟨j,y,h1,h2,h3⟩:=masF_lk h
   exact ⟨j+1,y,by simpa using h1,by omega,h3⟩
theorem rdMAs_run {α:Type}:∀(svs:List SV) (i:Nat) (ts:List TypeId) (K:List MA→Tr→Rd α) (r:α) (_:(rdMAs C.P i svs ts K).run σ=some r),
  ∃mas os,(K mas os).run σ=some r∧trH os=masH i mas∧mas.length=svs.length∧(∀tot,(∀t∈os,t∈tot)→TrOk C σ mu tot os)∧∀tot E',(∀t∈os,t∈tot)→GoodT C mu tot E' →
   ∀(j:Nat) (x:MA),mas[j]?=some x→∃sv,svs[j]?=some sv∧∀v,RepV C.P (σ.env C.wF mu) sv v→RepV C.P E' (maS (bid (i+j)) x) v
 | [],i,ts,K,r,hr=>⟨[],[],hr,rfl,rfl,fun tot _ k x ob hm=>(by cases hm),fun _ _ _ _ j x hj=>by simp at hj⟩
 | sv::svs,i,ts,K,r,hr=>by
  simp only [rdMAs] at hr
  obtain ⟨x,os,h1,h2,h3,h4⟩:=rdMA_run (C:=C) (mu:=mu) hr
  obtain ⟨l,os',q1,q2,q3,q4,q5⟩:=rdMAs_run svs (i+1) ts.tail _ r h1
  refine ⟨x::l,os++os',q1,by rw [trH_app,h2,q2];rfl,by simp [q3],
   fun tot hs=>(h3 tot fun t ht=>hs t (List.mem_append_left _ ht)).app (q4 tot fun t ht=>hs t (List.mem_append_right _ ht)),fun tot E' hs hg j y hj=>?_⟩
  cases j with
  | zero =>
   simp only [List.getElem?_cons_zero,Option.some.injEq] at hj
   subst hj
   exact ⟨sv,rfl,fun v hv=>h4 tot E' v (fun t ht=>hs t (List.mem_append_left _ ht)) hg hv⟩
  | succ j =>
   simp only [List.getElem?_cons_succ] at hj
   obtain ⟨sv2,z1,z2⟩:=q5 tot E' (fun t ht=>hs t (List.mem_append_right _ ht)) hg j y hj
   exact ⟨sv2,by simpa using z1,by rw [show i+(j+1)=i+1+j by omega];exact z2⟩
theorem repO_ver {E E':Env} (hE:E'.wF=E.wF) {w:World} {m:Img} {ob:Ob} (h:RepO E w m ob) (hok:okMC ob=true):RepO E' w m (ver0 ob):=by
 cases ob with
 | ints e k l=>exact h
 | bools e l=>exact h
 | rows v e ei k l=>exact h
 | tr v es d=>exact h
 | lst v e d =>
  obtain ⟨q1,vs,q2,q3⟩:=h
  exact ⟨q1,vs,q2,fun i u hi=>let ⟨r1,fc,r2,r3⟩:=q3 i u hi;⟨r1,fc,r2,by rw [hE];exact r3⟩⟩
 | yd v Y pre g=>exact ⟨h.1,by rw [hE];exact h.2.1,h.2.2⟩
 | _=>cases hok
def nilImg:Ob→Img
 | .tr _ es _=>imgT es.length (mkNd (.slice none 0 0) [])
 | _=>⟨.slice none 0 0,[]⟩
theorem nilImg_hd (ob:Ob):(nilImg ob).hd=.slice none 0 0:=by cases ob <;> rfl
theorem nilOb_ok {P:Program} {t:TypeId} {ob:Ob} (h:nilOb P t=some ob) (E:Env) (w:World):RepO E w (nilImg ob) ob∧(nilImg ob).blocks=[]∧ob.isFz=false:=by
 unfold nilOb at h
 split at h
 ·cases h
 ·split at h
  ·cases h;exact ⟨⟨rfl,World.ownsRow_nil _ _ _ _⟩,rfl,rfl⟩
  ·cases h;exact ⟨⟨rfl,World.ownsRow_nil _ _ _ _⟩,rfl,rfl⟩
  ·split at h
   ·cases h;exact ⟨⟨rfl,[],World.ownsRow_nil _ _ _ _,fun i u hi=>by simp at hi⟩,rfl,rfl⟩
   ·split at h
    ·rename_i k l _
     split at h
     ·rename_i a b c _ _
      cases h
      have hT:OwnT w [a,b,c] (mkNd (.slice none 0 0) []) (.r3 k []):=nil_own rfl rfl fun h0=>by cases h0
      exact ⟨⟨_,rfl,hT⟩,(own_blocks hT).trans (nil_bks _),rfl⟩
     ·cases h
    ·cases h
  ·cases h
theorem lkTr_mem:∀{os:Tr} {k:Nat} {x:Option Nat×Ob},lkTr os k=some x→(k,x)∈os
 | [],k,x,h=>by cases h
 | (k',y)::os,k,x,h=>by
  simp only [lkTr] at h
  split at h
  ·rename_i hb
   have:=Nat.eq_of_beq_eq_true hb
   subst this
   cases h
   exact List.mem_cons_self
  ·exact List.mem_cons_of_mem _ (lkTr_mem h)
theorem lkTr_of:∀{os:Tr} {k:Nat} {x:Option Nat×Ob},(os.map (·.1)).Nodup→(k,x)∈os→lkTr os k=some x
 | (k',y)::os,k,x,hn,h=>by
  simp only [List.map_cons,List.nodup_cons] at hn
  simp only [lkTr]
  rcases List.mem_cons.1 h with h | h
  ·cases h
   rw [show Nat.beq k' k'=true from Nat.beq_refl k']
  ·have:k'≠k:=fun e=>hn.1 (e ▸ List.mem_map.2 ⟨(k,x),h,rfl⟩)
   rw [show Nat.beq k' k=false from by
    cases hb:Nat.beq k' k with
    | false=>rfl
    | true=>exact absurd (Nat.eq_of_beq_eq_true hb) this]
   exact lkTr_of hn.2 h
theorem lk_trH {os:Tr} {k:Nat}:lk (trH os) k=(lkTr os k).map fun x=>some (ver0 x.2):=by
 induction os with
 | nil=>rfl
 | cons t os ih =>
  obtain ⟨k',x,ob⟩:=t
  show lk ((k',some (ver0 ob))::trH os) k=_
  rw [lk_cons,ih]
  simp only [lkTr]
  by_cases h:k'=k
  ·subst h;simp
  ·have:Nat.beq k' k=false:=by
    cases hb:Nat.beq k' k with
    | false=>rfl
    | true=>exact absurd (Nat.eq_of_beq_eq_true hb) h
   simp [h,this]
theorem trOs_mem:∀{os:Tr} {o:Nat},o∈trOs os↔∃k ob,(k,some o,ob)∈os
 | [],o=>by simp [trOs]
 | (k,some o',ob)::os,o=>by
  simp only [trOs,List.mem_cons,trOs_mem,Prod.mk.injEq,Option.some.injEq]
  constructor
  ·rintro (rfl | ⟨k',ob',h⟩)
   ·exact ⟨k,ob,.inl ⟨rfl,rfl,rfl⟩⟩
   ·exact ⟨k',ob',.inr h⟩
  ·rintro ⟨k',ob',⟨rfl,rfl,rfl⟩ | h⟩
   ·exact .inl rfl
   ·exact .inr ⟨k',ob',h⟩
 | (k,none,ob)::os,o=>by
  simp only [trOs,trOs_mem,List.mem_cons,Prod.mk.injEq]
  constructor
  ·rintro ⟨k',ob',h⟩;exact ⟨k',ob',.inr h⟩
  ·rintro ⟨k',ob',⟨_,h,_⟩ | h⟩
   ·cases h
   ·exact ⟨k',ob',h⟩
theorem trOs_inj {o k k':Nat} {ob ob':Ob}:∀{os:Tr},(trOs os).Nodup→(k,some o,ob)∈os→(k',some o,ob')∈os→k=k'
 | [],_,h,_=>by cases h
 | (k0,none,ob0)::os,hn,h,h'=>by
  have h1:(k,some o,ob)∈os:=by simpa using h
  have h2:(k',some o,ob')∈os:=by simpa using h'
  exact trOs_inj (os:=os) hn h1 h2
 | (k0,some o0,ob0)::os,hn,h,h'=>by
  obtain ⟨hn1,hn2⟩:=List.nodup_cons.1 (show (o0::trOs os).Nodup from hn)
  rcases List.mem_cons.1 h with h | h
  ·injection h with e1 e2
   injection e2 with e2 e3
   injection e2 with e2
   rcases List.mem_cons.1 h' with h' | h'
   ·injection h' with f1 _
    rw [e1,f1]
   ·exact absurd (trOs_mem.2 ⟨_,_,e2 ▸ h'⟩) hn1
  ·rcases List.mem_cons.1 h' with h' | h'
   ·injection h' with f1 f2
    injection f2 with f2 f3
    injection f2 with f2
    exact absurd (trOs_mem.2 ⟨_,_,f2 ▸ h⟩) hn1
   ·exact trOs_inj (os:=os) hn2 h h'
theorem renC_ok {f:Nat→Nat} {E E':Env} (hw:Kept E.wF E'.wF) (hst:∀k,E.st k=.absent∨∃s s',E.st k=.live s∧E'.st (f k)=.live s'∧s'.len=s.len∧(E'.mu (f k)).hd=(E.mu k).hd)
  {c c':SC} (h:renC f c=some c') {v:Value} (hv:RepC E c v):RepC E' c' v:=by
 unfold renC at h
 split at h
 all_goals first | (cases h;exact hv) | skip
 ·cases h;exact ⟨hv.1,hv.2.mono hw⟩
 ·rename_i k
  cases h
  obtain ⟨h1,h2⟩:=hv
  rcases hst k with h3 | ⟨s,s',h3,h4,h5,h6⟩
  ·rw [h3] at h2;exact h2.elim
  ·rw [h3] at h2
   refine ⟨h1,?_⟩
   rw [h4]
   show v=_
   rw [h6];exact h2
 ·rename_i k i
  cases h
  obtain ⟨h1,h2⟩:=hv
  rcases hst k with h3 | ⟨s,s',h3,h4,h5,h6⟩
  ·rw [h3] at h2;exact h2.elim
  ·rw [h3] at h2
   obtain ⟨z1,z2⟩:=h2
   refine ⟨h1,?_⟩
   rw [h4]
   refine ⟨by rw [h5];exact z1,?_⟩
   rw [h6];exact z2
 ·cases h
theorem renL_ok {f:Nat→Nat} {E E':Env} (hw:Kept E.wF E'.wF) (hst:∀k,E.st k=.absent∨∃s s',E.st k=.live s∧E'.st (f k)=.live s'∧s'.len=s.len∧(E'.mu (f k)).hd=(E.mu k).hd)
  {cs cs':List SC} (h:allSome (renC f) cs=some cs') {arr:Array Value} (hv:RepL E cs arr):RepL E' cs' arr:=by
 obtain ⟨h1,h2⟩:=allSome_spec h
 refine ⟨by rw [h1];exact hv.1,fun i c hi=>?_⟩
 obtain ⟨x,h3,h4⟩:=h2 i c hi
 obtain ⟨u,h5,h6,h7⟩:=hv.2 i x h3
 exact ⟨u,h5,h6,renC_ok hw hst h4 h7⟩
theorem renV_ok {P:Program} {f:Nat→Nat} {E E':Env} (hw:Kept E.wF E'.wF) (hst:∀k,E.st k=.absent∨∃s s',E.st k=.live s∧E'.st (f k)=.live s'∧s'.len=s.len∧(E'.mu (f k)).hd=(E.mu k).hd)
  {c c':SV} (h:renV f c=some c') {v:Value} (hv:RepV P E c v):RepV P E' c' v:=by
 unfold renV at h
 split at h
 ·split at h
  ·rename_i h1;cases h;exact renC_ok hw hst h1 hv
  ·cases h
 ·split at h
  ·rename_i h1;cases h;obtain ⟨arr,h2,h3⟩:=hv;exact ⟨arr,h2,renL_ok hw hst h1 h3⟩
  ·cases h
 ·split at h
  ·cases h;obtain ⟨arr,h2,h3,h4⟩:=hv;exact ⟨arr,h2,h3,fun i c hi=>by simp at hi⟩
  ·cases h
 ·cases h
theorem renO_ok {f:Nat→Nat} {E E':Env} (hw:Kept E.wF E'.wF) (hst:∀k,E.st k=.absent∨∃s s',E.st k=.live s∧E'.st (f k)=.live s'∧s'.len=s.len∧(E'.mu (f k)).hd=(E.mu k).hd)
  {ob ob':Ob} (h:renO f ob=some ob') {w:World} {m:Img} (hv:RepO E w m ob):RepO E' w m ob':=by
 unfold renO at h
 split at h
 ·split at h
  ·rename_i h1
   cases h
   obtain ⟨b,arr,t,z1,z2,z3,z4⟩:=hv
   exact ⟨b,arr,t,z1,z2,z3,renL_ok hw hst h1 z4⟩
  ·cases h
 ·split at h
  ·rename_i hok
   cases h
   cases ob with
   | lst v e d =>
    obtain ⟨q1,vs,q2,q3⟩:=hv
    exact ⟨q1,vs,q2,fun i u hi=>let ⟨r1,fc,r2,r3⟩:=q3 i u hi;⟨r1,fc,r2,r3.mono hw⟩⟩
   | yd v Y pre g=>exact ⟨hv.1,hv.2.1.trans hw,hv.2.2⟩
   | ints e k l=>exact hv
   | bools e l=>exact hv
   | rows v e ei k l=>exact hv
   | tr v es d=>exact hv
   | _=>cases hok
  ·cases h
theorem renO_shp {f:Nat→Nat} {ob ob':Ob} (h:renO f ob=some ob'):ob'.shp=ob.shp∧ob'.isFz=false∧ob.isFz=false:=by
 unfold renO at h
 split at h
 ·split at h
  ·rename_i h1
   cases h
   exact ⟨by show (⟨_,_,_⟩:Shp)=⟨_,_,_⟩;rw [(allSome_spec h1).1],rfl,rfl⟩
  ·cases h
 ·split at h
  ·rename_i hok
   cases h
   refine ⟨rfl,?_,?_⟩ <;> cases ob <;> first | rfl | cases hok
  ·cases h
theorem keepO_rep {E:Env} {w:World} {m:Img} {ob0 ob:Ob} (h:RepO E w m ob):RepO E w m (keepO ob0 ob):=by
 unfold keepO
 split
 ·exact h
 ·exact h
theorem keepO_len {ob0 ob:Ob}:(keepO ob0 ob).shp.len=ob.shp.len:=by
 unfold keepO
 split <;> rfl
theorem keepO_nf {ob0 ob:Ob} (h:ob.isFz=false):(keepO ob0 ob).isFz=false:=by
 unfold keepO
 split
 ·rfl
 ·exact h
theorem upsTr_spec {d:Nat} {os:Tr}:∀{O kept new:List (Nat×Option Ob)},upsTr d os O=some (kept,new) →
  (∀k x,(k,x)∈O→∃ob ob',x=some ob∧renO (nmTr d os) ob=some ob'∧((∃o ob0,lkTr os k=some (some o,ob0)∧okKeep ob0 ob=true∧(o,some (keepO ob0 ob'))∈kept)∨(lkTr os k=none∧(d+1000 * k,some ob')∈new))) ∧
  (∀o y,(o,y)∈kept→∃k ob ob' ob0,(k,some ob)∈O∧lkTr os k=some (some o,ob0)∧renO (nmTr d os) ob=some ob'∧okKeep ob0 ob=true∧y=some (keepO ob0 ob')) ∧
  (∀o y,(o,y)∈new→∃k ob ob',(k,some ob)∈O∧lkTr os k=none∧o=d+1000 * k∧renO (nmTr d os) ob=some ob'∧y=some ob')
 | [],kept,new,h=>by
  cases h
  exact ⟨fun k x hm=>(by cases hm),fun o y hm=>(by cases hm),fun o y hm=>(by cases hm)⟩
 | (k,none)::O,kept,new,h=>by cases h
 | (k,some ob)::O,kept,new,h=>by
  simp only [upsTr] at h
  split at h
  ·cases h
  ·rename_i ob' hr
   split at h
   ·cases h
   ·rename_i kept' new' hu
    obtain ⟨i1,i2,i3⟩:=upsTr_spec hu
    split at h
    ·rename_i o ob0 hlk
     split at h
     ·rename_i hok
      cases h
      refine ⟨fun k' x hm=>?_,fun o' y hm=>?_,fun o' y hm=>?_⟩
      ·rcases List.mem_cons.1 hm with hm | hm
       ·cases hm
        exact ⟨_,_,rfl,hr,.inl ⟨o,ob0,hlk,hok,List.mem_cons_self⟩⟩
       ·obtain ⟨a1,a2,b1,b2,b3⟩:=i1 k' x hm
        refine ⟨a1,a2,b1,b2,b3.imp ?_ id⟩
        rintro ⟨o2,ob2,c1,c2,c3⟩
        exact ⟨o2,ob2,c1,c2,List.mem_cons_of_mem _ c3⟩
      ·rcases List.mem_cons.1 hm with hm | hm
       ·cases hm
        exact ⟨k,ob,ob',ob0,List.mem_cons_self,hlk,hr,hok,rfl⟩
       ·obtain ⟨k2,a1,a2,a3,b1,b2⟩:=i2 o' y hm
        exact ⟨k2,a1,a2,a3,List.mem_cons_of_mem _ b1,b2⟩
      ·obtain ⟨k2,a1,a2,b1,b2⟩:=i3 o' y hm
       exact ⟨k2,a1,a2,List.mem_cons_of_mem _ b1,b2⟩
     ·cases h
    ·cases h
    ·rename_i hlk
     cases h
     refine ⟨fun k' x hm=>?_,fun o' y hm=>?_,fun o' y hm=>?_⟩
     ·rcases List.mem_cons.1 hm with hm | hm
      ·cases hm
       exact ⟨_,_,rfl,hr,.inr ⟨hlk,List.mem_cons_self⟩⟩
      ·obtain ⟨a1,a2,b1,b2,b3⟩:=i1 k' x hm
       refine ⟨a1,a2,b1,b2,b3.imp id ?_⟩
       rintro ⟨c1,c2⟩
       exact ⟨c1,List.mem_cons_of_mem _ c2⟩
     ·obtain ⟨k2,a1,a2,a3,b1,b2⟩:=i2 o' y hm
      exact ⟨k2,a1,a2,a3,List.mem_cons_of_mem _ b1,b2⟩
     ·rcases List.mem_cons.1 hm with hm | hm
      ·cases hm
       exact ⟨k,ob,ob',List.mem_cons_self,hlk,rfl,hr,rfl⟩
      ·obtain ⟨k2,a1,a2,b1,b2⟩:=i3 o' y hm
       exact ⟨k2,a1,a2,List.mem_cons_of_mem _ b1,b2⟩
theorem deadTr_spec {hp:List (Nat×Option Ob)}:∀{os:Tr} {o:Nat} {y:Option Ob},(o,y)∈deadTr hp os↔y=none∧∃k ob,(k,some o,ob)∈os∧lk hp k=none
 | [],o,y=>by simp [deadTr]
 | (k0,none,ob0)::os,o,y=>by
  rw [show deadTr hp ((k0,none,ob0)::os)=deadTr hp os from rfl,deadTr_spec]
  simp
 | (k0,some o0,ob0)::os,o,y=>by
  simp only [deadTr]
  cases hl:lk hp k0 with
  | none =>
   simp only [List.mem_cons,deadTr_spec,Prod.mk.injEq]
   constructor
   ·rintro (⟨rfl,rfl⟩ | ⟨rfl,k,ob,h1,h2⟩)
    ·exact ⟨rfl,k0,ob0,.inl ⟨rfl,rfl,rfl⟩,hl⟩
    ·exact ⟨rfl,k,ob,.inr h1,h2⟩
   ·rintro ⟨rfl,k,ob,⟨rfl,h1,rfl⟩ | h1,h2⟩
    ·injection h1 with h1;exact .inl ⟨h1,rfl⟩
    ·exact .inr ⟨rfl,k,ob,h1,h2⟩
  | some z =>
   simp only [deadTr_spec,List.mem_cons,Prod.mk.injEq]
   constructor
   ·rintro ⟨rfl,k,ob,h1,h2⟩;exact ⟨rfl,k,ob,.inr h1,h2⟩
   ·rintro ⟨rfl,k,ob,⟨rfl,_,_⟩ | h1,h2⟩
    ·rw [hl] at h2;cases h2
    ·exact ⟨rfl,k,ob,h1,h2⟩
def keyOf:Tr→Nat→Option Nat
 | [],_=>none
 | (k,some o',_)::l,o=>match Nat.beq o' o with
  | true=>some k
  | false=>keyOf l o
 | (_,none,_)::l,o=>keyOf l o
theorem keyOf_of {o k:Nat} {ob:Ob}:∀{os:Tr},(trOs os).Nodup→(k,some o,ob)∈os→keyOf os o=some k
 | [],_,h=>by cases h
 | (k0,none,ob0)::os,hn,h=>keyOf_of (os:=os) hn (by simpa using h)
 | (k0,some o0,ob0)::os,hn,h=>by
  obtain ⟨hn1,hn2⟩:=List.nodup_cons.1 (show (o0::trOs os).Nodup from hn)
  simp only [keyOf]
  rcases List.mem_cons.1 h with h | h
  ·injection h with e1 e2
   injection e2 with e2 e3
   injection e2 with e2
   rw [e2,show Nat.beq o0 o0=true from Nat.beq_refl o0,e1]
  ·have:o0≠o:=fun e=>hn1 (e ▸ trOs_mem.2 ⟨_,_,h⟩)
   rw [show Nat.beq o0 o=false from by
    cases hb:Nat.beq o0 o with
    | false=>rfl
    | true=>exact absurd (Nat.eq_of_beq_eq_true hb) this]
   exact keyOf_of hn2 h
theorem lk_of {α:Type}:∀{l:List (Nat×α)} {k:Nat} {x:α},(l.map (·.1)).Nodup→(k,x)∈l→lk l k=some x
 | [],k,x,_,h=>by cases h
 | (k',y)::l,k,x,hn,h=>by
  simp only [List.map_cons,List.nodup_cons] at hn
  rw [lk_cons]
  rcases List.mem_cons.1 h with h | h
  ·cases h;rw [if_pos rfl]
  ·have hne:¬ k'=k:=by
    intro e
    subst e
    exact hn.1 (List.mem_map.2 ⟨_,h,rfl⟩)
   rw [if_neg hne]
   exact lk_of hn.2 h
theorem lk_to {α:Type}:∀{l:List (Nat×α)} {k:Nat} {x:α},lk l k=some x→(k,x)∈l
 | [],k,x,h=>by cases h
 | (k',y)::l,k,x,h=>by
  rw [lk_cons] at h
  split at h
  ·rename_i e;subst e;cases h;exact List.mem_cons_self
  ·exact List.mem_cons_of_mem _ (lk_to h)
theorem lk_has {α:Type}:∀{l:List (Nat×α)} {o:Nat},o∈l.map (·.1)→∃x,lk l o=some x
 | [],o,h=>by simp at h
 | (k,v)::l,o,h=>by
  rw [lk_cons]
  by_cases hk:k=o
  ·exact ⟨v,by rw [if_pos hk]⟩
  ·rw [if_neg hk]
   refine lk_has ?_
   simp only [List.map_cons,List.mem_cons] at h
   rcases h with h | h
   ·exact absurd h.symm hk
   ·exact h
theorem ver0_shp (ob:Ob):(ver0 ob).isFz=ob.isFz:=by cases ob <;> rfl
theorem callS_core {d:Nat} {f:FuncId} {mas:List MA} {os:Tr} {sv sv':SV} {O kept new:List (Nat×Option Ob)} (hrun:SRun C.P f mas sv O) (h:St C σ mu a w)
  (hH:trH os=masH 0 mas) (hok:TrOk C σ mu os os) (hk:(os.map (·.1)).Nodup) (ho:(trOs os).Nodup) (hO:(O.map (·.1)).Nodup)
  (hv:renV (nmTr d os) sv=some sv') (hu:upsTr d os O=some (kept,new)) (habs:∀o x,lk new o=some x→σ.H o=none)
  {vs:List Value} (hvl:vs.length=mas.length)
  (hargs:∀E',GoodT C mu os E'→∀(j:Nat) (x:MA),mas[j]?=some x→∃v,vs[j]?=some v∧RepV C.P E' (maS (bid j) x) v)
  {pp:Option Prop} {dst:Option Nat} (hd:∀d,dst=some d→d<C.N) :
  Calls C.P f vs.toArray w fun e w'=>∃v,e=.returned v∧StE C (σ.app dst ⟨sv',new++(kept++deadTr O os),pp⟩) (a.put dst v) w':=by
 obtain ⟨muc,hmuc⟩:∃muc:Nat→Img,muc=fun k=>match lkTr os k with
  | some (some o,_)=>mu o
  | some (none,ob)=>nilImg ob
  | none=>⟨undef,[]⟩:=⟨_,rfl⟩
 obtain ⟨M,hM⟩:∃M:Nat→Prop,M=fun b=>∃k o ob,(k,some o,ob)∈os∧b∈(mu o).blocks:=⟨_,rfl⟩
 let C1:Cx:=⟨C.P,mas.length,w,C.wF,M,fun k=>match (lkTr os k).isSome&&(lk O k).isSome with | true=>some (muc k) | false=>none⟩
 have hHk:∀k,(inSt mas).H k=(lkTr os k).map fun x=>some (ver0 x.2):=fun k=>by
  show lk (masH 0 mas) k=_
  rw [←hH,lk_trH]
 have hlive:∀k o ob,(k,some o,ob)∈os→∃ob0,σ.H o=some (some ob0)∧ob0.isFz=false∧ob.isFz=false∧muc k=mu o:=fun k o ob hm=>by
  obtain ⟨ob0,q1,q2,q3⟩:=hok k (some o) ob hm
  refine ⟨ob0,q1,q2,?_,by rw [hmuc];simp only [lkTr_of hk hm]⟩
  rcases q3 with ⟨_,rfl⟩ | ⟨cs,cs',_,rfl,_⟩
  ·exact q2
  ·rfl
 have hnil:∀k ob,(k,none,ob)∈os→(∃t,nilOb C.P t=some ob)∧muc k=nilImg ob:=fun k ob hm =>
  ⟨hok k none ob hm,by rw [hmuc];simp only [lkTr_of hk hm]⟩
 have hkey:∀k ob,(inSt mas).H k=some (some ob)→∃x ob1,(k,x,ob1)∈os∧ob=ver0 ob1:=fun k ob hq=>by
  rw [hHk] at hq
  cases hl:lkTr os k with
  | none=>rw [hl] at hq;cases hq
  | some y =>
   rw [hl] at hq
   simp only [Option.map_some,Option.some.injEq] at hq
   exact ⟨y.1,y.2,lkTr_mem hl,hq.symm⟩
 have hnf:∀k x ob,(k,x,ob)∈os→ob.isFz=false:=fun k x ob hm=>by
  cases x with
  | some o=>obtain ⟨_,_,_,q,_⟩:=hlive k o ob hm;exact q
  | none=>obtain ⟨t,ht⟩:=(hnil k ob hm).1;exact (nilOb_ok ht (E0 w) w).2.2
 have hgood:GoodT C mu os ((inSt mas).env C.wF muc):=⟨rfl,fun k x ob hm=>by
  have hl:=lkTr_of hk hm
  refine ⟨?_,?_⟩
  ·show (inSt mas).ost k=_
   have:(inSt mas).H k=some (some (ver0 ob)):=by rw [hHk,hl];rfl
   exact ost_live this (by rw [ver0_shp];exact hnf k x ob hm)
  ·cases x with
   | some o=>obtain ⟨_,_,_,_,q⟩:=hlive k o ob hm;exact q
   | none=>show (muc k).hd=_;rw [(hnil k ob hm).2];exact nilImg_hd ob⟩
 have hbl:∀k x ob,(k,x,ob)∈os→∀b∈(muc k).blocks,∃o ob0,x=some o∧σ.H o=some (some ob0)∧b∈(mu o).blocks:=fun k x ob hm b hb=>by
  cases x with
  | some o=>obtain ⟨ob0,q1,_,_,q⟩:=hlive k o ob hm;exact ⟨o,ob0,rfl,q1,by rw [←q];exact hb⟩
  | none =>
   obtain ⟨⟨t,ht⟩,q⟩:=hnil k ob hm
   rw [q,(nilOb_ok ht (E0 w) w).2.1] at hb;cases hb
 have hst:St C1 (inSt mas) muc ⟨vs.toArray,[]⟩ w:=by
  refine ⟨.refl _,rfl,rfl,Nat.le_refl _,fun _ _ _=>rfl,fun p u hp=>⟨fun k ob hk2 hb=>?_,(h.cells p u hp).2⟩,by simp [C1,hvl],.nil,fun t sv ht=>?_,fun k ob hk2=>?_,fun k ob hk2=>⟨?_,fun b hb=>?_⟩,fun k k' ob ob' hne hk2 hk2' b hb hb'=>?_,fun k m hm=>?_⟩
  ·obtain ⟨x,ob1,q1,_⟩:=hkey k ob hk2
   obtain ⟨o,ob0,_,q3,q4⟩:=hbl k x ob1 q1 _ hb
   exact (h.cells p u hp).1 o ob0 q3 q4
  ·obtain ⟨j,x,q1,q2,rfl⟩:=masF_lk ht
   rw [Nat.zero_add] at q2
   subst q2
   obtain ⟨v,q3,q4⟩:=hargs _ hgood t x q1
   have hlt:=(List.getElem?_eq_some_iff.1 q3).1
   have:(vs.toArray).getD t undef=v:=by
    rw [Array.getD_eq_getD_getElem?]
    simp [q3]
   rw [this];exact q4
  ·obtain ⟨x,ob1,q1,rfl⟩:=hkey k ob hk2
   cases x with
   | some o =>
    obtain ⟨ob0,z1,z2,z3⟩:=hok k (some o) ob1 q1
    obtain ⟨_,_,_,_,z4⟩:=hlive k o ob1 q1
    rw [z4]
    rcases z3 with ⟨z5,rfl⟩ | ⟨cs,cs',rfl,rfl,_,z5⟩
    ·exact repO_ver (E:=σ.env C.wF mu) (E':=(inSt mas).env C1.wF muc) rfl (h.ob o _ z1) z5
    ·obtain ⟨b,arr,t,y1,y2,y3,y4⟩:=h.ob o _ z1
     exact ⟨b,arr,t,y1,y2,y3,z5 _ hgood arr y4⟩
   | none =>
    obtain ⟨⟨t,ht⟩,z4⟩:=hnil k ob1 q1
    rw [z4,nilOb_ver ht]
    exact (nilOb_ok ht _ w).1
  ·obtain ⟨x,ob1,q1,rfl⟩:=hkey k ob hk2
   cases x with
   | some o=>obtain ⟨ob0,z1,_,_,z4⟩:=hlive k o ob1 q1;rw [z4];exact (h.nd o ob0 z1).1
   | none=>obtain ⟨⟨t,ht⟩,z4⟩:=hnil k ob1 q1;rw [z4,(nilOb_ok ht (E0 w) w).2.1];exact .nil
  ·obtain ⟨x,ob1,q1,rfl⟩:=hkey k ob hk2
   obtain ⟨o,ob0,rfl,_,q4⟩:=hbl k x ob1 q1 b hb
   exact .inl (by show M b;rw [hM];exact ⟨k,o,ob1,q1,q4⟩)
  ·obtain ⟨x,ob1,q1,rfl⟩:=hkey k ob hk2
   obtain ⟨x',ob1',q1',rfl⟩:=hkey k' ob' hk2'
   obtain ⟨o,ob0,rfl,q3,q4⟩:=hbl k x ob1 q1 b hb
   obtain ⟨o',ob0',rfl,q3',q4'⟩:=hbl k' x' ob1' q1' b hb'
   refine h.sep o o' ob0 ob0' (fun e=>hne ?_) q3 q3' b q4 q4'
   subst e
   exact trOs_inj ho q1 q1'
  ·have hm:(match (lkTr os k).isSome&&(lk O k).isSome with | true=>some (muc k) | false=>none)=some m:=hm
   split at hm
   ·rename_i hb
    cases hm
    simp only [Bool.and_eq_true] at hb
    obtain ⟨y,hy⟩:=Option.isSome_iff_exists.1 hb.1
    have hl:(inSt mas).H k=some (some (ver0 y.2)):=by rw [hHk,hy];rfl
    rw [ost_live hl (by rw [ver0_shp];exact hnf k y.1 y.2 (lkTr_mem hy))]
    exact ⟨rfl,fun _=>rfl⟩
   ·cases hm
 have hpin:∀o m,C1.pin o=some m→o∈pinO mas O:=fun k m hm=>by
  have hm:(match (lkTr os k).isSome&&(lk O k).isSome with | true=>some (muc k) | false=>none)=some m:=hm
  split at hm
  ·rename_i hb
   simp only [Bool.and_eq_true] at hb
   unfold pinO
   rw [List.mem_filter]
   refine ⟨?_,hb.2⟩
   obtain ⟨y,hy⟩:=Option.isSome_iff_exists.1 hb.1
   rw [←hH]
   exact List.mem_map.2 ⟨(k,some (ver0 y.2)),List.mem_map.2 ⟨(k,y),lkTr_mem hy,rfl⟩,rfl⟩
  ·cases hm
 refine (hrun C1 muc vs w rfl rfl rfl hvl hpin hst).mono ?_
 rintro e w' ⟨v,rfl,wG,muo,hg,hst2⟩
 refine ⟨v,rfl,?_⟩
 obtain ⟨u1,u2,u3⟩:=upsTr_spec hu
 obtain ⟨mu',hmu'⟩:∃mu':Nat→Img,mu'=fun o=>match lk new o with
  | some _=>muo ((o - d) / 1000)
  | none=>match lk kept o with
   | some _=>(match keyOf os o with | some k=>muo k | none=>mu o)
   | none=>mu o:=⟨_,rfl⟩
 have hnew:∀o y,lk new o=some y→∃k ob ob',lk O k=some (some ob)∧lkTr os k=none∧o=d+1000 * k∧renO (nmTr d os) ob=some ob'∧y=some ob'∧mu' o=muo k:=fun o y hy=>by
  obtain ⟨k,ob,ob',q1,q2,q3,q4,q5⟩:=u3 o y (lk_to hy)
  refine ⟨k,ob,ob',lk_of hO q1,q2,q3,q4,q5,?_⟩
  rw [hmu']
  simp only [hy]
  rw [show (o - d) / 1000=k by omega]
 have hkpt:∀o y,lk new o=none→lk kept o=some y→∃k ob ob' ob0 obx,lk O k=some (some ob)∧(k,some o,ob0)∈os∧renO (nmTr d os) ob=some ob'∧okKeep ob0 ob=true∧y=some (keepO ob0 ob')∧mu' o=muo k∧σ.H o=some (some obx)∧obx.isFz=false∧muc k=mu o:=fun o y hn hy=>by
  obtain ⟨k,ob,ob',ob0,q1,q2,q3,q4,q5⟩:=u2 o y (lk_to hy)
  have hm:=lkTr_mem q2
  obtain ⟨obx,z1,z2,_,z4⟩:=hlive k o ob0 hm
  refine ⟨k,ob,ob',ob0,obx,lk_of hO q1,hm,q3,q4,q5,?_,z1,z2,z4⟩
  rw [hmu']
  simp only [hn,hy,keyOf_of ho hm]
 have hdead:∀o y,lk (deadTr O os) o=some y→y=none∧∃k ob obx,(k,some o,ob)∈os∧σ.H o=some (some obx):=fun o y hy=>by
  obtain ⟨rfl,k,ob,q1,_⟩:=deadTr_spec.1 (lk_to hy)
  obtain ⟨obx,z1,_⟩:=hlive k o ob q1
  exact ⟨rfl,k,ob,obx,q1,z1⟩
 have hσ':∀o,(σ.app dst ⟨sv',new++(kept++deadTr O os),pp⟩).H o=match lk new o with
   | some y=>some y
   | none=>match lk kept o with
    | some y=>some y
    | none=>match lk (deadTr O os) o with
     | some y=>some y
     | none=>σ.H o:=fun o=>by
  show lk ((new++(kept++deadTr O os))++σ.hp) o=_
  rw [lk_append,lk_append,lk_append]
  cases lk new o with
  | some y=>rfl
  | none =>
   cases lk kept o with
   | some y=>rfl
   | none=>cases lk (deadTr O os) o <;> rfl
 have hout:∀k ob,lk O k=some (some ob)→∃ob',renO (nmTr d os) ob=some ob'∧ob.isFz=false∧(outSt sv O).H k=some (some ob):=fun k ob hl=>by
  obtain ⟨ob1,ob',e1,e2,_⟩:=u1 k _ (lk_to hl)
  cases e1
  exact ⟨ob',e2,(renO_shp e2).2.2,hl⟩
 have hnm:∀k ob,lk O k=some (some ob)→∃ob',(σ.app dst ⟨sv',new++(kept++deadTr O os),pp⟩).H (nmTr d os k)=some (some ob')∧ob'.isFz=false∧ob'.shp.len=ob.shp.len∧mu' (nmTr d os k)=muo k:=fun k ob hl=>by
  obtain ⟨ob1,ob',e1,e2,e3⟩:=u1 k _ (lk_to hl)
  cases e1
  obtain ⟨s1,s2,s3⟩:=renO_shp e2
  rcases e3 with ⟨o,ob0,z1,z2,z3⟩ | ⟨z1,z2⟩
  ·have hm:=lkTr_mem z1
   obtain ⟨obx,y1,_⟩:=hlive k o ob0 hm
   have hn:lk new o=none:=by
    cases hq:lk new o with
    | none=>rfl
    | some y=>have:=habs o y hq;rw [y1] at this;cases this
   have hnmk:nmTr d os k=o:=by simp only [nmTr,z1]
   rw [hnmk]
   obtain ⟨y,hy⟩:=lk_has (List.mem_map.2 ⟨_,z3,rfl⟩)
   obtain ⟨k2,ob2,ob2',ob02,obx2,r1,r2,r3,r4,r5,r6,_⟩:=hkpt o y hn hy
   have:k2=k:=trOs_inj ho r2 hm
   subst this
   rw [hl] at r1;cases r1
   rw [e2] at r3;cases r3
   refine ⟨keepO ob02 ob',by rw [hσ',hn];simp only [hy,r5],keepO_nf s2,?_,r6⟩
   rw [keepO_len,s1]
  ·have hnmk:nmTr d os k=d+1000 * k:=by simp only [nmTr,z1]
   rw [hnmk]
   obtain ⟨y,hy⟩:=lk_has (List.mem_map.2 ⟨_,z2,rfl⟩)
   obtain ⟨k2,ob2,ob2',r1,r2,r3,r4,r5,r6⟩:=hnew _ y hy
   have:k2=k:=by omega
   subst this
   rw [hl] at r1;cases r1
   rw [e2] at r4;cases r4
   exact ⟨ob',by rw [hσ',hy,r5],s2,by rw [s1],r6⟩
 have hkG:Kept C.wF wG:=hg.kept
 have hstE:∀k,((outSt sv O).env wG muo).st k=.absent∨∃s s',((outSt sv O).env wG muo).st k=.live s∧((σ.app dst ⟨sv',new++(kept++deadTr O os),pp⟩).env wG mu').st (nmTr d os k)=.live s'∧s'.len=s.len∧(mu' (nmTr d os k)).hd=(muo k).hd:=fun k=>by
  cases hl:lk O k with
  | none=>left;show (outSt sv O).ost k=_;simp only [State.ost,show (outSt sv O).H k=none from hl]
  | some y =>
   cases y with
   | none=>obtain ⟨_,_,e1,_⟩:=u1 k _ (lk_to hl);cases e1
   | some ob =>
    obtain ⟨ob',z1,z2,z3⟩:=hout k ob hl
    obtain ⟨ob2,y1,y2,y3,y4⟩:=hnm k ob hl
    exact .inr ⟨_,_,ost_live z3 z2,ost_live y1 y2,y3,by rw [y4]⟩
 have hMo:∀b,M b→∃o ob0,σ.H o=some (some ob0)∧b∈(mu o).blocks:=fun b hb=>by
  rw [hM] at hb
  obtain ⟨k,o,ob,q1,q2⟩:=hb
  obtain ⟨ob0,z1,_⟩:=hlive k o ob q1
  exact ⟨o,ob0,z1,q2⟩
 have hblk:∀k ob,lk O k=some (some ob)→(muo k).blocks.Nodup∧∀b∈(muo k).blocks,M b∨w.heap.size≤b:=fun k ob hl=>hst2.nd k ob (hout k ob hl).choose_spec.2.2
 have hfar:∀o ob,σ.H o=some (some ob)→lk new o=none→lk kept o=none→lk (deadTr O os) o=none→∀b,b∈(mu o).blocks→¬ M b:=fun o ob ho1 hn1 hn2 hn3 b hb hMb=>by
  rw [hM] at hMb
  obtain ⟨k,o2,ob2,q1,q2⟩:=hMb
  obtain ⟨obx,z1,_⟩:=hlive k o2 ob2 q1
  have:o=o2:=Classical.byContradiction fun hne=>h.sep o o2 ob obx hne ho1 z1 b hb q2
  subst this
  cases hl:lk O k with
  | none =>
   obtain ⟨y,hy⟩:=lk_has (List.mem_map.2 ⟨_,(deadTr_spec (hp:=O)).2 ⟨rfl,k,ob2,q1,hl⟩,rfl⟩)
   rw [hy] at hn3;cases hn3
  | some y =>
   obtain ⟨ob1,ob',e1,e2,e3⟩:=u1 k _ (lk_to hl)
   rcases e3 with ⟨o3,ob03,y1,y2,y3⟩ | ⟨y1,_⟩
   ·rw [lkTr_of hk q1] at y1
    cases y1
    obtain ⟨y,hy⟩:=lk_has (List.mem_map.2 ⟨_,y3,rfl⟩)
    rw [hy] at hn2;cases hn2
   ·rw [lkTr_of hk q1] at y1;cases y1
 have hcase:∀o ob,(σ.app dst ⟨sv',new++(kept++deadTr O os),pp⟩).H o=some (some ob) →
   (∃k ob1,lk O k=some (some ob1)∧mu' o=muo k∧nmTr d os k=o∧RepO ((σ.app dst ⟨sv',new++(kept++deadTr O os),pp⟩).env wG mu') w' (muo k) ob) ∨
   (σ.H o=some (some ob)∧mu' o=mu o∧lk new o=none∧lk kept o=none∧lk (deadTr O os) o=none):=fun o ob hq=>by
  rw [hσ'] at hq
  cases hn1:lk new o with
  | some y =>
   rw [hn1] at hq
   obtain ⟨k,ob1,ob',q1,q2,q3,q4,q5,q6⟩:=hnew o y hn1
   have hq:y=some ob:=by simpa using hq
   rw [q5] at hq;cases hq
   have z3:=(hout k ob1 q1).choose_spec.2.2
   exact .inl ⟨k,ob1,q1,q6,by simp only [nmTr,q2];exact q3.symm,renO_ok (E:=(outSt sv O).env wG muo) (E':=(σ.app dst ⟨sv',new++(kept++deadTr O os),pp⟩).env wG mu') (fun _ _ h=>h) hstE q4 (hst2.ob k ob1 z3)⟩
  | none =>
   rw [hn1] at hq
   cases hn2:lk kept o with
   | some y =>
    rw [hn2] at hq
    obtain ⟨k,ob1,ob',ob0,obx,q1,q2,q3,q4,q5,q6,_⟩:=hkpt o y hn1 hn2
    have hq:y=some ob:=by simpa using hq
    rw [q5] at hq;cases hq
    have z3:=(hout k ob1 q1).choose_spec.2.2
    exact .inl ⟨k,ob1,q1,q6,by simp only [nmTr,lkTr_of hk q2],keepO_rep (renO_ok (E:=(outSt sv O).env wG muo) (E':=(σ.app dst ⟨sv',new++(kept++deadTr O os),pp⟩).env wG mu') (fun _ _ h=>h) hstE q3 (hst2.ob k ob1 z3))⟩
   | none =>
    rw [hn2] at hq
    cases hn3:lk (deadTr O os) o with
    | some y =>
     rw [hn3] at hq
     obtain ⟨rfl,_⟩:=hdead o y hn3
     cases hq
    | none =>
     rw [hn3] at hq
     exact .inr ⟨hq,by rw [hmu'];simp only [hn1,hn2],rfl,rfl,rfl⟩
 refine ⟨wG,mu',⟨hkG,fun p u hp=>?_⟩,h.updG (mu':=mu') M hst2.os hst2.tape hst2.output hst2.size hMo (fun b hb hnM=>hst2.block b hb hnM) hkG (fun p u hp=>?_) (fun o=>?_) (fun o ob hq=>?_) (by rw [size_put];exact h.sz) (defers_put _ _ _)
  (fr_app h hd (renV_ok (E:=(outSt sv O).env wG muo) (E':=(σ.app dst ⟨sv',new++(kept++deadTr O os),pp⟩).env wG mu') (fun _ _ h=>h) hstE hv (hst2.fr 0 sv rfl)))⟩
 ·rcases hg.new p u hp with q | q | q
  ·exact .inl q
  ·exact .inr (.inl (Nat.le_trans h.size q))
  ·obtain ⟨o,ob0,z1,z2⟩:=hMo _ q
   exact .inr ((h.nd o ob0 z1).2 _ z2).symm
 ·rcases hg.new p u hp with q | q
  ·exact .inl q
  ·refine .inr ⟨(hst2.cells p u hp).2,fun o ob hq hb=>?_⟩
   rcases hcase o ob hq with ⟨k,ob1,z1,z2,_,_⟩ | ⟨z1,z2,z3,z4,z5⟩
   ·rw [z2] at hb
    exact (hst2.cells p u hp).1 k ob1 z1 hb
   ·rw [z2] at hb
    rcases q with q | q
    ·have:=(h.ob o ob z1).block _ hb
     have q:w.heap.size≤p.block:=q
     omega
    ·exact hfar o ob z1 z3 z4 z5 _ hb q
 ·show OLeF wG (σ.ost o) (State.ost _ o) (mu o) (mu' o)
  cases hn1:lk new o with
  | some y =>
   have:=habs o y hn1
   rw [show σ.ost o=.absent by simp only [State.ost,this]]
   exact .inl trivial
  | none =>
   cases hn2:lk kept o with
   | some y =>
    obtain ⟨k,ob1,ob',ob0,obx,q1,q2,q3,q4,q5,q6,q7,q8,q9⟩:=hkpt o y hn1 hn2
    have hq:(σ.app dst ⟨sv',new++(kept++deadTr O os),pp⟩).H o=some (some (keepO ob0 ob')):=by rw [hσ',hn1];simp only [hn2,q5]
    obtain ⟨s1,s2,s3⟩:=renO_shp q3
    rw [ost_live q7 q8,ost_live hq (keepO_nf s2)]
    have hp1:=hst2.pins k (mu o) (by
     show (match (lkTr os k).isSome&&(lk O k).isSome with | true=>some (muc k) | false=>none)=_
     rw [lkTr_of hk q2,q1];simp [q9])
    have hoE:=(hout k ob1 q1).choose_spec.2
    rw [ost_live hoE.2 hoE.1] at hp1
    obtain ⟨hp2,hp3⟩:=hp1
    obtain ⟨ob00,z1,z2,z3⟩:=hok k (some o) ob0 q2
    rw [q7] at z1;cases z1
    refine .inl ?_
    show (keepO ob0 ob').shp.len=obx.shp.len∧(mu' o).hd=(mu o).hd∧obx.shp.ver≤(keepO ob0 ob').shp.ver∧((keepO ob0 ob').shp.ver=obx.shp.ver→mu' o=mu o∧(keepO ob0 ob').shp.rl=obx.shp.rl)
    rw [q6]
    unfold okKeep at q4
    split at q4
    ·rename_i cs0 cs1
     rcases z3 with ⟨z5,rfl⟩ | ⟨cs,cs',rfl,z5,z6,_⟩
     ·cases z5
     ·cases z5
      have hl:=Nat.eq_of_beq_eq_true q4
      show ob'.shp.len=cs.length∧(muo k).hd=(mu o).hd∧0≤ob'.shp.ver∧(ob'.shp.ver=0→muo k=mu o∧ob'.shp.rl=[])
      rw [s1]
      exact ⟨by show cs1.length=cs.length;omega,hp2,Nat.zero_le _,fun _=>⟨hp3 rfl,rfl⟩⟩
    ·rename_i v0 Y0 p0 b0 v1 Y1 p1 b1
     rcases z3 with ⟨z5,rfl⟩ | ⟨cs,cs',rfl,z5,z6,_⟩
     ·have:ob'=.yd v1 Y1 p1 b1:=by
       have q3':some (Ob.yd v1 Y1 p1 b1)=some ob':=q3
       exact (Option.some.inj q3').symm
      subst this
      show (0:Nat)=0∧(muo k).hd=(mu o).hd∧v0≤v0+v1∧(v0+v1=v0→muo k=mu o∧([]:List Nat)=[])
      exact ⟨rfl,hp2,by omega,fun hvv=>⟨hp3 (show v1=0 by omega),rfl⟩⟩
     ·cases z5
    ·cases q4
   | none =>
    cases hn3:lk (deadTr O os) o with
    | some y =>
     obtain ⟨rfl,k,ob1,obx,q1,q2⟩:=hdead o y hn3
     have hq:(σ.app dst ⟨sv',new++(kept++deadTr O os),pp⟩).H o=some none:=by rw [hσ',hn1];simp only [hn2,hn3]
     rw [show State.ost (σ.app dst ⟨sv',new++(kept++deadTr O os),pp⟩) o=.dead by simp only [State.ost,hq]]
     exact .inl (ole_dead q2)
    | none =>
     have hq:(σ.app dst ⟨sv',new++(kept++deadTr O os),pp⟩).H o=σ.H o:=by rw [hσ',hn1];simp only [hn2,hn3]
     rw [show State.ost (σ.app dst ⟨sv',new++(kept++deadTr O os),pp⟩) o=σ.ost o by simp only [State.ost,hq],show mu' o=mu o by rw [hmu'];simp only [hn1,hn2]]
     exact OLeF.refl _ _ _
 ·rcases hcase o ob hq with ⟨k,ob1,z1,z2,z3,z4⟩ | ⟨z1,z2,z3,z4,z5⟩
  ·refine .inr ⟨by rw [z2];exact z4,by rw [z2];exact (hblk k ob1 z1).1,by rw [z2];exact (hblk k ob1 z1).2,fun o' ob' hne hq'=>?_⟩
   rcases hcase o' ob' hq' with ⟨k',ob1',y1,y2,y3,y4⟩ | ⟨y1,y2,y3,y4,y5⟩
   ·refine .inr fun b hb hb'=>?_
    rw [z2] at hb;rw [y2] at hb'
    exact hst2.sep k k' ob1 ob1' (fun e=>hne (by rw [←z3,←y3,e])) z1 y1 b hb hb'
   ·exact .inl ⟨y1,y2,hfar o' ob' y1 y3 y4 y5⟩
  ·exact .inl ⟨z1,z2,hfar o ob z1 z3 z4 z5⟩
theorem sopCallS_ok {Γ:FuncId→Option Ctr} (hΓ:GOk C.P Γ) {d:Nat} {f:FuncId} {svs:List SV} {ts:List TypeId} {eff:Eff} (hm:isSR (Γ f)=true) (hr:(sopCallS C.P d (Γ f) svs ts).run σ=some eff) (hob:eff.obl) (h:St C σ mu a w)
  {vs:List Value} (hvl:vs.length=svs.length) (hvs:∀(i:Nat) (sv:SV),svs[i]?=some sv→∃v,vs[i]?=some v∧RepV C.P (σ.env C.wF mu) sv v) {dst:Option Nat} (hd:∀d,dst=some d→d<C.N) :
  (∃fn,C.P.funcs[f]?=some fn∧fn.body.isSome=true∧(fn.name == "runtime.NumGoroutine")=false) ∧
  Calls C.P f vs.toArray w fun e w'=>∃v,e=.returned v∧StE C (σ.app dst eff) (a.put dst v) w':=by
 unfold isSR at hm
 split at hm
 ·rename_i ct hct
  have hf:=hΓ f _ hct
  refine ⟨hf.fn,?_⟩
  rw [hct] at hr
  simp only [sopCallS] at hr
  obtain ⟨mas,os,h1,h2,h3,h4,h5⟩:=rdMAs_run (C:=C) (mu:=mu) svs 0 ts _ _ hr
  split at h1
  ·rename_i pre sv ex outs hpost
   split at h1
   ·rename_i hnd
    simp only [Bool.and_eq_true] at hnd
    split at h1
    ·rename_i sv' kept new hv hu
     obtain ⟨h6,habs⟩:=absAll_run h1
     simp only [Rd.run,Option.some.injEq] at h6
     subst h6
     refine callS_core (hf.st rfl mas pre sv ex outs hpost hob) h h2 (h4 os fun t ht=>ht) (nodupB_ok hnd.1.1) (nodupB_ok hnd.1.2) (nodupB_ok hnd.2) hv hu habs (by rw [hvl,h3]) (fun E' hg j x hj=>?_) hd
     obtain ⟨sv2,q1,q2⟩:=h5 os E' (fun t ht=>ht) hg j x hj
     obtain ⟨v,q3,q4⟩:=hvs j sv2 q1
     rw [Nat.zero_add] at q2
     exact ⟨v,q3,q2 v q4⟩
    ·cases h1
   ·cases h1
  ·cases h1
 ·cases hm
theorem sopYield_ok {o i:Nat} {eff:Eff} (hr:(sopYield C.P o i).run σ=some eff) (hob:eff.obl) (h:St C σ mu a w) {v0 v:Value} (h0:RepC (σ.env C.wF mu) (.own o) v0) (hv:RepC (σ.env C.wF mu) (.own i) v)
  {dst:Option Nat} (hd:∀d,dst=some d→d<C.N):∃l,v0=.func (.yield l) #[] #[]∧YieldAt Fence.wide 0 C.P l #[v] w fun e w'=>∃u,e=.returned u∧StE C (σ.app dst eff) (a.put dst u) w':=by
 unfold sopYield at hr
 split at hr
 ·cases hr
 ·rename_i hne
  have hne:o≠i:=Nat.ne_of_beq_eq_false hne
  obtain ⟨ob,ho,hr⟩:=run_h hr
  split at hr
  ·rename_i yv Y pre b
   obtain ⟨ob2,hi,hr⟩:=run_h hr
   split at hr
   ·rename_i e k x
    split at hr
    ·simp only [Rd.run,Option.some.injEq] at hr
     subst hr
     obtain ⟨hP,rfl,rfl,hok⟩:Y.P=C.P∧Y.e=e∧b=true∧Y.ok pre x:=hob
     have hv0:v0=(mu o).hd:=on_live ho h0
     have hvi:v=(mu i).hd:=on_live hi hv
     obtain ⟨y1,y2,y3,y4⟩:=h.ob o _ ho
     obtain ⟨z1,z2⟩:=h.ob i _ hi
     rw [←hvi] at z2
     have hbi:∀b,hdBlock v=some b→b∈(mu i).blocks:=fun b hb=>mem_blocks_hd (by rw [←hvi];exact hb)
     refine ⟨Y.l,by rw [hv0,y1],?_⟩
     have hsp:=Y.spec pre x w (mu o).blocks v y3 hok (h.nd o _ ho).1 y4 hv.1 z2 (fun k hk hc=>h.sep o i _ _ hne ho hi k hk (hbi k hc)) (fun p u hp=>⟨(h.cells p u (y2 p u hp)).2,fun hc=>(h.cells p u (y2 p u hp)).1 i _ hi (hbi _ hc)⟩)
     rw [hP] at hsp
     obtain ⟨fn,tmps,assign,body,s1,s2⟩:=hsp
     refine ⟨fn,tmps,assign,body,s1,s2.mono ?_⟩
     rintro e w' ⟨S',rfl,q1,q2,q3,q4,q5,q6,q7,q8,q9,q10⟩
     refine ⟨_,rfl,?_⟩
     let m':Img:=⟨.func (.yield Y.l) #[] #[],S'.map fun b=>.pointer (some ⟨b,0,none⟩)⟩
     have hm':m'.blocks=S':=by
      show (hdBlock (.func (.yield Y.l) #[] #[])).toList++(S'.map fun b=>Value.pointer (some ⟨b,0,none⟩)).filterMap hdBlock=S'
      rw [List.filterMap_map]
      show []++S'.filterMap (fun b=>some b)=S'
      simp
     let mu':Nat→Img:=fun x=>if x=o then m' else mu x
     have hmo:mu' o=m':=if_pos rfl
     have hmx:∀x,x≠o→mu' x=mu x:=fun x hx=>if_neg hx
     obtain ⟨eff,heff⟩:∃eff:Eff,eff=⟨.c (.bool (Y.go pre x)),[(o,some (.yd (yv+1) Y (pre++[x]) (Y.go pre x)))],some (Y.P=C.P∧Y.e=Y.e∧true=true∧Y.ok pre x)⟩:=⟨_,rfl⟩
     rw [←heff]
     have hH:∀y,(σ.app dst eff).H y=if o=y then some (some (.yd (yv+1) Y (pre++[x]) (Y.go pre x))) else σ.H y:=fun y=>by
      rw [heff]
      show lk ([(o,_)]++σ.hp) y=_
      rw [lk_append,lk_cons]
      by_cases hy:o=y
      ·rw [if_pos hy,if_pos hy]
      ·rw [if_neg hy,if_neg hy];rfl
     have hHo:(σ.app dst eff).H o=some (some (.yd (yv+1) Y (pre++[x]) (Y.go pre x))):=by rw [hH,if_pos rfl]
     have hHx:∀y,y≠o→(σ.app dst eff).H y=σ.H y:=fun y hy=>by rw [hH,if_neg (fun e=>hy e.symm)]
     have hblt:∀y ob',σ.H y=some (some ob')→∀b∈(mu y).blocks,b<w.heap.size:=fun y ob' hy=>(h.ob y ob' hy).block
     have hfar:∀y ob',y≠o→y≠i→σ.H y=some (some ob')→∀b∈(mu y).blocks,¬ (b∈(mu o).blocks∨b∈(mu i).blocks):=fun y ob' hyo hyi hy b hb hc=>by
      rcases hc with hc | hc
      ·exact h.sep y o ob' _ hyo hy ho b hb hc
      ·exact h.sep y i ob' _ hyi hy hi b hb hc
     have hoi:∀b∈S',b ∉ (mu i).blocks:=fun b hb hc=>by
      rcases (q4 b hb).1 with z | z
      ·exact h.sep o i _ _ hne ho hi b z hc
      ·have:=hblt i _ hi b hc;omega
     refine St.ex (h.upd (fun k=>k∈(mu o).blocks∨k∈(mu i).blocks) q6 q7 q8 q9 ?_ ?_ (mu':=mu') ?_ ?_ (by rw [size_put];exact h.sz) (defers_put _ _ _) (fr_app h hd (by rw [heff];rfl)))
     ·rintro k (hk | hk)
      ·exact ⟨o,_,ho,hk⟩
      ·exact ⟨i,_,hi,hk⟩
     ·intro k hk hS
      exact q10 k hk (fun hc=>hS (.inl hc)) (fun hc=>hS (.inr (hbi k hc)))
     ·intro y
      by_cases hy:y=o
      ·subst hy
       rw [ost_live ho,ost_live hHo,hmo]
       exact ⟨rfl,y1.symm,by show yv≤yv+1;omega,fun hc=>by have hc:yv+1=yv:=hc;omega⟩
      ·rw [hmx y hy,show State.ost (σ.app dst eff) y=σ.ost y by simp only [State.ost,hHx y hy]]
       exact OLe.refl _ _
     ·intro y ob' hy
      by_cases hyo:y=o
      ·subst hyo
       rw [hHo] at hy
       cases hy
       refine .inr ⟨by rw [hmo];exact ⟨rfl,y2,by rw [hm'];exact q1,by rw [hm'];exact fun k hk=>(q4 k hk).2⟩,by rw [hmo,hm'];exact q2,fun k hk=>?_,fun y' ob2 hne' hy'=>?_⟩
       ·rw [hmo,hm'] at hk
        exact (q4 k hk).1.imp .inl id
       ·rw [hHx y' (fun e=>hne' e.symm)] at hy'
        by_cases hyi:y'=i
        ·subst hyi
         refine .inr fun b hb hc=>?_
         rw [hmo,hm'] at hb
         rw [hmx y' (fun e=>hne' e.symm)] at hc
         exact hoi b hb hc
        ·exact .inl ⟨hy',hmx y' (fun e=>hne' e.symm),hfar y' ob2 (fun e=>hne' e.symm) hyi hy'⟩
      ·rw [hHx y hyo] at hy
       by_cases hyi:y=i
       ·subst hyi
        rw [hi] at hy
        cases hy
        rw [hmx y hyo]
        refine .inr ⟨⟨z1,by rw [←hvi];exact q5⟩,(h.nd y _ hi).1,fun k hk=>.inl (.inr hk),fun y' ob2 hne' hy'=>?_⟩
        by_cases hyo':y'=o
        ·subst hyo'
         refine .inr fun b hb hc=>?_
         rw [hmo,hm'] at hc
         exact hoi b hc hb
        ·rw [hHx y' hyo'] at hy'
         exact .inl ⟨hy',hmx y' hyo',hfar y' ob2 hyo' (fun e=>hne' e.symm) hy'⟩
       ·exact .inl ⟨hy,hmx y hyo,hfar y ob' hyo hyi hy⟩
    ·cases hr
   ·cases hr
  ·cases hr
end
end Go.Sx
end
