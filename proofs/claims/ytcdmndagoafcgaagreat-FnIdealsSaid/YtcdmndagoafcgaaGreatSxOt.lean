/- SxOr SxOb SxOs SxOt -/
import Derived.Test.YtcdmndagoafcgaaGreatSxO
section
namespace Go.Sx
open Go.RowKit
section
variable {C:Cx} {σ:State} {mu:Nat→Img} {a:Act} {w w':World}
theorem qB {P:Program} {wF:World} {mt:List (Nat×Nat)} {ms ms':List Img} {obs obs':List Ob} {i:Nat} (hm:∀j,bG mt i j=none) {d:AD} {v:Value} (h:cD P wF mt ms obs i d v):cD P wF mt ms' obs' i d v:=by
 have hcell:∀{j d u},fV wF mt ms obs i j d u→fV wF mt ms' obs' i j d u:=fun {j d u} h=>by
  refine ⟨h.1,?_⟩
  have h2:=h.2
  rw [hm j] at h2 ⊢;exact h2
 cases d with
 | c d=>exact hcell (j:=0) h
 | agg cs =>
  obtain ⟨arr,rfl,h1,h2⟩:=h;exact ⟨arr,rfl,h1,fun j d hj=>let ⟨u,h3,h4⟩:=h2 j d hj;⟨u,h3,hcell h4⟩⟩
 | box cs =>
  simp only [cD,hm 0] at h ⊢;exact h
 | fv F=>exact h
 | fvs F s =>
  simp only [cD,hm 0] at h
 | cut off n d =>
  simp only [cD,hm 0] at h
theorem WT {Γ:FuncId→Option Ctr} (hΓ:dE C.P Γ) {f:FuncId} {o ver i:Nat} {svs:List SV} {ts:List TypeId} {eff:Eff} (hr:(DD C.P Γ f o ver i svs ts).run σ=some eff) (hob:eff.obl) (h:St C σ mu a w)
  {v0:Value} (hv0:ap (σ.env C.wF mu) (.row o ver i) v0)
  {vs:List Value} (hvl:vs.length=svs.length) (hvs:∀(i:Nat) (sv:SV),svs[i]?=some sv→∃v,vs[i]?=some v∧aB C.P (σ.env C.wF mu) sv v) {dst:Option Nat} (hd:∀d,dst=some d→d<C.N) :
  (∃fn,C.P.funcs[f]?=some fn∧fn.body.isSome=true∧(fn.name == "runtime.NumGoroutine")=false) ∧
  Calls C.P f (v0::vs).toArray w fun e w'=>∃v,e=.returned v∧aN C (σ.app dst eff) (a.put dst v) w':=by
 unfold DD at hr;split at hr
 ·rename_i ct hct
  have hf:=hΓ f _ hct
  refine ⟨hf.fn,?_⟩
  obtain ⟨ob,ho,hr2⟩:=bd hr;clear hr;split at hr2
  ·rename_i ver' e ei k l
   split at hr2
   ·rename_i hver
    have hver:=Nat.eq_of_beq_eq_true hver
    subst hver;have hw:=jm h [o] (fun x hx=>by simp at hx;subst hx;exact ⟨_,ho⟩)
    have hmt:∀y j,bG [(0,0)] (1+y) j=none:=fun y j=>by
     simp only [bG];rw [if_neg (by omega)]
     rfl
    obtain ⟨ads,hr3,hal,har⟩:=mK hΓ h hw svs 1 ts _ _ (fun y sv _ x j hx=>by rw [hmt y j] at hx;cases hx) hr2
    split at hr3
    ·rename_i pre rc e' k' r hpost
     split at hr3
     ·rename_i c hrc
      split at hr3
      ·rename_i hek
       obtain ⟨rfl,rfl⟩:=hek;simp only [Rd.run,Option.some.injEq] at hr3;subst hr3;obtain ⟨Yh,hlen⟩:pre∧r.length=(l.getD i []).length:=hob;have hx:=aV ho hv0
       obtain ⟨hins,hi⟩:=hx.2 rfl;have hi':i<l.length:=hi
       obtain ⟨q1,q2,q3⟩:=h.ob o _ ho;have hgd:l.getD i []=l[i]:=by simp [List.getD,hi']
       have hrow:=q3 i v0 _ hins (List.getElem?_eq_getElem hi')
       rw [←hgd] at hrow;have hsub:∀b∈(⟨v0,[]⟩:Img).blocks,ai v0=some b:=fun b hb=>by
        simpa [Img.blocks] using hb
       have hin:∀b∈(⟨v0,[]⟩:Img).blocks,b∈(mu o).blocks:=fun b hb=>jg hins (hsub b hb)
       have hnd0:(⟨v0,[]⟩:Img).blocks.Nodup:=by
        simp only [Img.blocks,List.filterMap_nil,List.append_nil];cases ai v0 <;> simp
       have hone:v0.oneCell'=true:=hv0.1
       refine (hf.run w (iQ w ([o].flatMap fun o=>(mu o).blocks)) (v0::vs) (.c (.ints k (l.getD i []))::ads) ⟨pre,.c rc,[.ints ei k r]⟩ [⟨v0,[]⟩] [.ints ei k (l.getD i [])] hpost Yh (by simp [hvl,hal]) rfl rfl rfl ?_ ?_ ?_ ?_ ?_).mono ?_
       ·intro x m ob hx hox
        cases x with
        | zero=>simp at hx hox;subst hx;subst hox;exact ⟨⟨rfl,hrow⟩,hnd0⟩
        | succ x=>simp at hx
       ·intro x x' m m' hne hx hx'
        cases x with
        | zero =>
         cases x' with
         | zero=>exact absurd rfl hne
         | succ x'=>simp at hx'
        | succ x=>simp at hx
       ·intro x ob rc' hx hrc'
        cases x with
        | zero =>
         simp at hx hrc';subst hx;subst hrc'
         exact ⟨.ints ei k r,r.length=(l.getD i []).length,by simp only [cp,and_self,if_true];rfl,hlen⟩
        | succ x=>simp at hx
       ·intro p u hp
        obtain ⟨h1,h2⟩:=hw.kept p u hp;exact ⟨h1,fun m hm hb=>by
         simp at hm;subst hm
         exact h2 o (by simp) (hin _ hb)⟩
       ·intro j ad hj
        cases j with
        | zero =>
         simp at hj;subst hj
         exact ⟨v0,rfl,hone,_,_,rfl,rfl,rfl,rfl⟩
        | succ j =>
         obtain ⟨sv,h1,h2⟩:=har j ad (by simpa using hj)
         obtain ⟨v,h3,h4⟩:=hvs j sv h1;have h5:=h2 v h4
         rw [Nat.add_comm] at h5;exact ⟨v,by simpa using h3,qB (fun j'=>by have:=hmt j j';rwa [Nat.add_comm] at this) h5⟩
       ·rintro e0 w' ⟨v,ms',img,wG,rfl,haft,hml,hms,_,hret⟩
        refine ⟨v,rfl,?_⟩
        have hlt1:0<ms'.length:=by rw [hml];simp
        obtain ⟨_,k1,k2,k3,ob3,q4,k4,k5⟩:=hms 0 _ _ _ _ rfl (List.getElem?_eq_getElem hlt1) rfl rfl rfl;simp only [cp,and_self,if_true,Option.some.injEq,Prod.mk.injEq] at k4;obtain ⟨rfl,rfl⟩:=k4;have hrow':w'.ownsRow 0 ei 1 v0 r.length (r.map (.int k)):=by
         have:=k5.2
         rw [k1] at this;exact this
        have hval:∀E,aB C.P E (.c c) v:=fun E=>by
         have h1:=hret.val
         cases rc <;> simp only [fU,reduceCtorEq,Option.some.injEq] at hrc <;> subst hrc
         ·exact h1
         ·exact h1
        have hkeep:∀b,b∈(mu o).blocks→ai v0≠some b→w'.heap[b]?=w.heap[b]?:=fun b hb hne =>
         haft.block b ((h.ob o _ ho).block b hb) fun m hm hbm=>by
          simp at hm;subst hm
          exact hne (hsub b hbm)
        have hrl:(l.set i r).map List.length=l.map List.length:=by
         rw [List.map_set,hlen,hgd];apply List.ext_getElem?
         intro x
         rw [List.getElem?_set];split
         ·rename_i hx;subst hx;simp [hi']
         ·rfl
        refine h.setV hd ho [] (by simp) (m:=mu o) hval haft.os haft.tape haft.output haft.size (fun b hb hn=>haft.block b hb fun m hm hbm=>?_) (by simp [Ob.shp]) rfl (Nat.le_refl _) (fun _=>⟨rfl,hrl⟩) ⟨?_,by simp [q2],fun x u s hxx hs=>?_⟩ (h.nd o _ ho).1 (fun b hb=>.inl hb)
        ·simp at hm;subst hm
         exact hn (hin b hbm)
        ·rw [List.length_set]
         refine dM q1 fun b' hb'=>hkeep b' (b9 hb') fun hc=>?_
         exact (iP (h.nd o _ ho).1).2 _ hb' (List.mem_filterMap.2 ⟨v0,List.mem_of_getElem? hins,hc⟩)
        ·rw [List.getElem?_set] at hs
         by_cases hix:i=x
         ·subst hix
          rw [if_pos rfl,if_pos hi'] at hs;cases hs;have hrv:u=v0:=Option.some.inj (hxx.symm.trans hins)
          subst hrv;exact hrow'
         ·rw [if_neg hix] at hs
          refine dM (q3 x u s hxx hs) fun b' hb'=>hkeep b' (jg hxx hb') fun hc=>?_
          exact wo (h.nd o _ ho).1 hins hxx hix hc hb'
      ·simp [Rd.run] at hr3
     ·simp [Rd.run] at hr3
    ·simp [Rd.run] at hr3
   ·simp [Rd.run] at hr2
  ·simp [Rd.run] at hr2
 ·simp [Rd.run] at hr
theorem WU {Γ:FuncId→Option Ctr} (hΓ:dE C.P Γ) {f:FuncId} {o ver:Nat} {p:List Nat} {svs:List SV} {ts:List TypeId} {eff:Eff} (hr:(DE C.P Γ f o ver p svs ts).run σ=some eff) (hob:eff.obl) (h:St C σ mu a w)
  {v0:Value} (hv0:ap (σ.env C.wF mu) (.kid o ver p) v0)
  {vs:List Value} (hvl:vs.length=svs.length) (hvs:∀(i:Nat) (sv:SV),svs[i]?=some sv→∃v,vs[i]?=some v∧aB C.P (σ.env C.wF mu) sv v) {dst:Option Nat} (hd:∀d,dst=some d→d<C.N) :
  (∃fn,C.P.funcs[f]?=some fn∧fn.body.isSome=true∧(fn.name == "runtime.NumGoroutine")=false) ∧
  Calls C.P f (v0::vs).toArray w fun e w'=>∃v,e=.returned v∧aN C (σ.app dst eff) (a.put dst v) w':=by
 unfold DE at hr;split at hr
 ·rename_i ct hct
  have hf:=hΓ f _ hct
  refine ⟨hf.fn,?_⟩
  obtain ⟨ob,ho,hr2⟩:=bd hr;clear hr;split at hr2
  ·rename_i ver' es d
   split at hr2
   ·rename_i hver
    have hver:=Nat.eq_of_beq_eq_true hver
    subst hver;split at hr2
    ·rename_i x hx1
     have hw:=jm h [o] (fun x hx=>by simp at hx;subst hx;exact ⟨_,ho⟩)
     have hmt:∀y j,bG [(0,0)] (1+y) j=none:=fun y j=>by
      simp only [bG];rw [if_neg (by omega)]
      rfl
     obtain ⟨ads,hr3,hal,har⟩:=mK hΓ h hw svs 1 ts _ _ (fun y sv _ x j hx=>by rw [hmt y j] at hx;cases hx) hr2
     split at hr3
     ·rename_i pre rc es' x' hpost
      split at hr3
      ·rename_i c hrc
       split at hr3
       ·rename_i hes
        have hes0:=jB hes
        subst hes0;split at hr3
        ·rename_i d' hp
         simp only [Rd.run,Option.some.injEq] at hr3;subst hr3;obtain ⟨Yh,hlen⟩:pre∧x'.len=x.len:=hob;obtain ⟨_,hx⟩:=aV ho hv0;obtain ⟨nd,u,q1,q2,rfl⟩:=hx rfl;obtain ⟨hm,hT,x0,k1,k2,k3⟩:=lw (h.ob o _ ho) q1 q2;rw [hx1] at k1;cases k1;have Bu:=fm k2
         have Bm:(mu o).blocks=bm es.length nd:=by rw [hm];exact fm hT
         have hnd:=(h.nd o _ ho).1
         have hndu:=ww hT (by rw [←Bm];exact hnd) q2
         have hwr:cp (.tr 0 (es.drop p.length) x) (.tr (es.drop p.length) x')=some (.tr 0 (es.drop p.length) x',x'.len=x.len):=by simp only [cp,hes]
         refine (hf.run w (iQ w ([o].flatMap fun o=>(mu o).blocks)) (bc u::vs) (.c x::ads) ⟨pre,.c rc,[.tr (es.drop p.length) x']⟩ [fk (es.drop p.length).length u] [.tr 0 (es.drop p.length) x] hpost Yh (by simp [hvl,hal]) rfl rfl rfl ?_ ?_ ?_ ?_ ?_).mono ?_
         ·intro y m ob hx hox
          cases y with
          | zero=>simp at hx hox;subst hx;subst hox;exact ⟨⟨u,by rw [List.length_drop],k2⟩,by rw [←List.length_drop,Bu];exact hndu⟩
          | succ x=>simp at hx
         ·intro y y' m m' hne hx hx'
          cases y with
          | zero =>
           cases y' with
           | zero=>exact absurd rfl hne
           | succ x'=>simp at hx'
          | succ x=>simp at hx
         ·intro y ob rc' hx hrc'
          cases y with
          | zero =>
           simp at hx hrc';subst hx;subst hrc'
           exact ⟨_,_,hwr,hlen⟩
          | succ x=>simp at hx
         ·intro q u' hp'
          obtain ⟨h1,h2⟩:=hw.kept q u' hp';exact ⟨h1,fun m hm' hb=>by
           simp only [List.mem_singleton] at hm';subst hm';rw [Bu] at hb;exact h2 o (by simp) (k3 _ hb)⟩
         ·intro j ad hj
          cases j with
          | zero =>
           simp at hj;subst hj
           exact ⟨bc u,rfl,k2.one,_,_,rfl,rfl,rfl,rfl⟩
          | succ j =>
           obtain ⟨sv,h1,h2⟩:=har j ad (by simpa using hj)
           obtain ⟨v,h3,h4⟩:=hvs j sv h1;have h5:=h2 v h4
           rw [Nat.add_comm] at h5;exact ⟨v,by simpa using h3,qB (fun j'=>by have:=hmt j j';rwa [Nat.add_comm] at this) h5⟩
         ·rintro e0 w' ⟨v,ms',img,wG,rfl,haft,hml,hms,_,hret⟩
          refine ⟨v,rfl,?_⟩
          have hlt1:0<ms'.length:=by rw [hml];simp
          obtain ⟨z1,z2,z3,z4,ob3,q4,z5,z6⟩:=hms 0 _ _ _ _ rfl (List.getElem?_eq_getElem hlt1) rfl rfl rfl;rw [hwr] at z5;simp only [Option.some.injEq,Prod.mk.injEq] at z5;obtain ⟨rfl,rfl⟩:=z5;rw [z1] at z6;obtain ⟨nd2,z7,z8⟩:=z6;have hnd2:u=nd2:=by
           have:=congrArg (fun m:Img=>m.ins.head?) z7
           simpa [fk] using this
          subst hnd2;have hval:∀E,aB C.P E (.c c) v:=fun E=>by
           have h1:=hret.val
           cases rc <;> simp only [fU,reduceCtorEq,Option.some.injEq] at hrc <;> subst hrc
           ·exact h1
           ·exact h1
          have hin:∀b,(∀m∈[fk (es.drop p.length).length u],b ∉ m.blocks)↔b ∉ bm (es.drop p.length).length u:=fun b=>by
           simp only [List.mem_singleton,forall_eq,Bu]
          obtain ⟨r1,_,_,_⟩:=vH (w':=w') (u':=u) hT (by rw [←Bm];exact hnd) q2 hp rfl (fun b hb hbn=>haft.block b (hT.block b hb) ((hin b).2 hbn)) z8 hndu (fun b hb=>.inl hb)
          rw [En hT q2] at r1;exact h.setV hd ho [] (by simp) (m:=mu o) hval haft.os haft.tape haft.output haft.size (fun b hb hn=>haft.block b hb ((hin b).2 fun hc=>hn (k3 b hc))) (Eo hx1 hp hlen) rfl (Nat.le_refl _) (fun _=>⟨rfl,rfl⟩) ⟨nd,hm,r1⟩ hnd (fun b hb=>.inl hb)
        ·simp [Rd.run] at hr3
       ·simp [Rd.run] at hr3
      ·simp [Rd.run] at hr3
     ·simp [Rd.run] at hr3
    ·simp [Rd.run] at hr2
   ·simp [Rd.run] at hr2
  ·simp [Rd.run] at hr2
 ·simp [Rd.run] at hr
theorem WV {Γ:FuncId→Option Ctr} (hΓ:dE C.P Γ) {f:FuncId} {o off n:Nat} {svs:List SV} {ts:List TypeId} {eff:Eff} (hr:(DF C.P Γ f o off n svs ts).run σ=some eff) (hob:eff.obl) (h:St C σ mu a w)
  {v0:Value} (hv0:ap (σ.env C.wF mu) (.sub o off n) v0)
  {vs:List Value} (hvl:vs.length=svs.length) (hvs:∀(i:Nat) (sv:SV),svs[i]?=some sv→∃v,vs[i]?=some v∧aB C.P (σ.env C.wF mu) sv v) {dst:Option Nat} (hd:∀d,dst=some d→d<C.N) :
  (∃fn,C.P.funcs[f]?=some fn∧fn.body.isSome=true∧(fn.name == "runtime.NumGoroutine")=false) ∧
  Calls C.P f (v0::vs).toArray w fun e w'=>∃v,e=.returned v∧aN C (σ.app dst eff) (a.put dst v) w':=by
 unfold DF at hr;split at hr
 ·rename_i ct hct
  have hf:=hΓ f _ hct
  refine ⟨hf.fn,?_⟩
  obtain ⟨ob,ho,hr2⟩:=bd hr;clear hr;split at hr2
  ·rename_i ver e ei k l
   have hw:=jm h [o] (fun x hx=>by simp at hx;subst hx;exact ⟨_,ho⟩)
   have hmt:∀y j,bG [(0,0)] (1+y) j=none:=fun y j=>by
    simp only [bG];rw [if_neg (by omega)]
    rfl
   obtain ⟨ads,hr3,hal,har⟩:=mK hΓ h hw svs 1 ts _ _ (fun y sv _ x j hx=>by rw [hmt y j] at hx;cases hx) hr2
   split at hr3
   ·rename_i pre rc e' ei' k' l' hpost
    split at hr3
    ·rename_i c hrc
     split at hr3
     ·rename_i hek
      obtain ⟨rfl,rfl,rfl⟩:=hek;simp only [Rd.run,Option.some.injEq] at hr3;subst hr3;obtain ⟨Yh,hlen⟩:pre∧l'.map List.length=l.map List.length:=hob;have hx:=aV ho hv0
      obtain ⟨hi,hview⟩:=hx;have hview:cH (mu o).hd off n v0:=hview
      have hi':off+n≤l.length:=hi
      have hll:l'.length=l.length:=by
       have:=congrArg List.length hlen
       simpa using this
      have q:=h.ob o _ ho
      have hnd0:=(h.nd o _ ho).1
      have hone:v0.oneCell'=true:=hv0.1
      have hhd:(mu o).hd.oneCell'=true:=by
       rcases hview with ⟨h1,_⟩ | ⟨g,len,cap,ao,h1,_⟩ <;> rw [h1] <;> rfl
      have hwr:cp (.rows ver e ei k l) (.rows e ei k l')=some (.rows ver e ei k l',l'.map List.length=l.map List.length):=by simp only [cp,and_self,if_true]
      refine (hf.run w (iQ w ([o].flatMap fun o=>(mu o).blocks)) (v0::vs) (.cut off n (.rows k l)::ads) ⟨pre,.c rc,[.rows e ei k l']⟩ [mu o] [.rows ver e ei k l] hpost Yh (by simp [hvl,hal]) rfl rfl rfl ?_ ?_ ?_ ?_ ?_).mono ?_
      ·intro x m ob hx hox
       cases x with
       | zero=>simp at hx hox;subst hx;subst hox;exact ⟨q,hnd0⟩
       | succ x=>simp at hx
      ·intro x x' m m' hne hx hx'
       cases x with
       | zero =>
        cases x' with
        | zero=>exact absurd rfl hne
        | succ x'=>simp at hx'
       | succ x=>simp at hx
      ·intro x ob rc' hx hrc'
       cases x with
       | zero =>
        simp at hx hrc';subst hx;subst hrc'
        exact ⟨_,_,hwr,hlen⟩
       | succ x=>simp at hx
      ·intro p u hp
       obtain ⟨h1,h2⟩:=hw.kept p u hp;exact ⟨h1,fun m hm hb=>by
        simp at hm;subst hm
        exact h2 o (by simp) hb⟩
      ·intro j ad hj
       cases j with
       | zero =>
        simp at hj;subst hj
        exact ⟨v0,rfl,mu o,_,rfl,rfl,rfl,hi',hview,hone,hhd⟩
       | succ j =>
        obtain ⟨sv,h1,h2⟩:=har j ad (by simpa using hj)
        obtain ⟨v,h3,h4⟩:=hvs j sv h1;have h5:=h2 v h4
        rw [Nat.add_comm] at h5;exact ⟨v,by simpa using h3,qB (fun j'=>by have:=hmt j j';rwa [Nat.add_comm] at this) h5⟩
      ·rintro e0 w' ⟨v,ms',img,wG,rfl,haft,hml,hms,_,hret⟩
       refine ⟨v,rfl,?_⟩
       have hlt1:0<ms'.length:=by rw [hml];simp
       obtain ⟨k0,k1,k2,k3,ob3,q4,k4,k5⟩:=hms 0 _ _ _ _ rfl (List.getElem?_eq_getElem hlt1) rfl rfl rfl;rw [hwr] at k4;simp only [Option.some.injEq,Prod.mk.injEq] at k4;obtain ⟨rfl,rfl⟩:=k4;rw [k0] at k5;have hval:∀E,aB C.P E (.c c) v:=fun E=>by
        have h1:=hret.val
        cases rc <;> simp only [fU,reduceCtorEq,Option.some.injEq] at hrc <;> subst hrc
        ·exact h1
        ·exact h1
       exact h.setV hd ho [] (by simp) (m:=mu o) hval haft.os haft.tape haft.output haft.size (fun b hb hn=>haft.block b hb fun m hm hbm=>hn (by simp at hm;subst hm;exact hbm)) hll rfl (Nat.le_refl _) (fun _=>⟨rfl,hlen⟩) k5 hnd0 (fun b hb=>.inl hb)
     ·simp [Rd.run] at hr3
    ·simp [Rd.run] at hr3
   ·simp [Rd.run] at hr3
  ·simp [Rd.run] at hr2
 ·simp [Rd.run] at hr
theorem WW {Γ:FuncId→Option Ctr} (hΓ:dE C.P Γ) {f:FuncId} {k0:IntKind} {n0:Int} {o ver i:Nat} {svs:List SV} {ts:List TypeId} {eff:Eff} (hr:(DG C.P Γ f k0 n0 o ver i svs ts).run σ=some eff) (hob:eff.obl) (h:St C σ mu a w)
  {v0:Value} (hv0:ap (σ.env C.wF mu) (.row o ver i) v0)
  {vs:List Value} (hvl:vs.length=svs.length) (hvs:∀(i:Nat) (sv:SV),svs[i]?=some sv→∃v,vs[i]?=some v∧aB C.P (σ.env C.wF mu) sv v) {dst:Option Nat} (hd:∀d,dst=some d→d<C.N) :
  (∃fn,C.P.funcs[f]?=some fn∧fn.body.isSome=true∧(fn.name == "runtime.NumGoroutine")=false) ∧
  Calls C.P f (.int k0 n0::v0::vs).toArray w fun e w'=>∃v,e=.returned v∧aN C (σ.app dst eff) (a.put dst v) w':=by
 unfold DG at hr;split at hr
 ·rename_i ct hct
  have hf:=hΓ f _ hct
  refine ⟨hf.fn,?_⟩
  obtain ⟨ob,ho,hr2⟩:=bd hr;clear hr;split at hr2
  ·rename_i ver' e ei k l
   split at hr2
   ·rename_i hver
    have hver:=Nat.eq_of_beq_eq_true hver
    subst hver;have hw:=jm h [o] (fun x hx=>by simp at hx;subst hx;exact ⟨_,ho⟩)
    have hmt:∀y j,bG [(1,0)] (2+y) j=none:=fun y j=>by
     simp only [bG];rw [if_neg (by omega)]
     rfl
    obtain ⟨ads,hr3,hal,har⟩:=mK hΓ h hw svs 2 ts _ _ (fun y sv _ x j hx=>by rw [hmt y j] at hx;cases hx) hr2
    split at hr3
    ·rename_i pre rv e' k' r hpost
     split at hr3
     ·split at hr3
      ·rename_i hek
       obtain ⟨rfl,rfl⟩:=hek;simp only [Rd.run,Option.some.injEq] at hr3;subst hr3;obtain ⟨Yh,hlen⟩:pre∧r.length=(l.getD i []).length:=hob;have hx:=aV ho hv0
       obtain ⟨hins,hi⟩:=hx.2 rfl;have hi':i<l.length:=hi
       obtain ⟨q1,q2,q3⟩:=h.ob o _ ho;have hgd:l.getD i []=l[i]:=by simp [List.getD,hi']
       have hrow:=q3 i v0 _ hins (List.getElem?_eq_getElem hi')
       rw [←hgd] at hrow;have hsub:∀b∈(⟨v0,[]⟩:Img).blocks,ai v0=some b:=fun b hb=>by
        simpa [Img.blocks] using hb
       have hin:∀b∈(⟨v0,[]⟩:Img).blocks,b∈(mu o).blocks:=fun b hb=>jg hins (hsub b hb)
       have hnd0:(⟨v0,[]⟩:Img).blocks.Nodup:=by
        simp only [Img.blocks,List.filterMap_nil,List.append_nil];cases ai v0 <;> simp
       have hone:v0.oneCell'=true:=hv0.1
       refine (hf.run w (iQ w ([o].flatMap fun o=>(mu o).blocks)) (.int k0 n0::v0::vs) (.c (.int k0 n0)::.c (.ints k (l.getD i []))::ads) ⟨pre,.tup [],[.ints ei k r]⟩ [⟨v0,[]⟩] [.ints ei k (l.getD i [])] hpost Yh (by simp [hvl,hal]) rfl rfl rfl ?_ ?_ ?_ ?_ ?_).mono ?_
       ·intro x m ob hx hox
        cases x with
        | zero=>simp at hx hox;subst hx;subst hox;exact ⟨⟨rfl,hrow⟩,hnd0⟩
        | succ x=>simp at hx
       ·intro x x' m m' hne hx hx'
        cases x with
        | zero =>
         cases x' with
         | zero=>exact absurd rfl hne
         | succ x'=>simp at hx'
        | succ x=>simp at hx
       ·intro x ob rc' hx hrc'
        cases x with
        | zero =>
         simp at hx hrc';subst hx;subst hrc'
         exact ⟨.ints ei k r,r.length=(l.getD i []).length,by simp only [cp,and_self,if_true];rfl,hlen⟩
        | succ x=>simp at hx
       ·intro p u hp
        obtain ⟨h1,h2⟩:=hw.kept p u hp;exact ⟨h1,fun m hm hb=>by
         simp at hm;subst hm
         exact h2 o (by simp) (hin _ hb)⟩
       ·intro j ad hj
        match j,hj with
        | 0,hj =>
         simp at hj;subst hj
         exact ⟨.int k0 n0,rfl,rfl,rfl⟩
        | 1,hj =>
         simp at hj;subst hj
         exact ⟨v0,rfl,hone,_,_,rfl,rfl,rfl,rfl⟩
        | j+2,hj =>
         obtain ⟨sv,h1,h2⟩:=har j ad (by simpa using hj)
         obtain ⟨v,h3,h4⟩:=hvs j sv h1;have h5:=h2 v h4
         rw [Nat.add_comm] at h5;exact ⟨v,by simpa using h3,qB (fun j'=>by have:=hmt j j';rwa [Nat.add_comm] at this) h5⟩
       ·rintro e0 w' ⟨v,ms',img,wG,rfl,haft,hml,hms,_,hret⟩
        refine ⟨v,rfl,?_⟩
        have hlt1:0<ms'.length:=by rw [hml];simp
        obtain ⟨_,k1,k2,k3,ob3,q4,k4,k5⟩:=hms 0 _ _ _ _ rfl (List.getElem?_eq_getElem hlt1) rfl rfl rfl;simp only [cp,and_self,if_true,Option.some.injEq,Prod.mk.injEq] at k4;obtain ⟨rfl,rfl⟩:=k4;have hrow':w'.ownsRow 0 ei 1 v0 r.length (r.map (.int k)):=by
         have:=k5.2
         rw [k1] at this;exact this
        have hval:∀E,aB C.P E (.tup []) v:=fun E=>by
         obtain ⟨arr,h1,h2,_⟩:=hret.val;exact ⟨arr,h1,h2,fun i c hi=>by simp at hi⟩
        have hkeep:∀b,b∈(mu o).blocks→ai v0≠some b→w'.heap[b]?=w.heap[b]?:=fun b hb hne =>
         haft.block b ((h.ob o _ ho).block b hb) fun m hm hbm=>by
          simp at hm;subst hm
          exact hne (hsub b hbm)
        have hrl:(l.set i r).map List.length=l.map List.length:=by
         rw [List.map_set,hlen,hgd];apply List.ext_getElem?
         intro x
         rw [List.getElem?_set];split
         ·rename_i hx;subst hx;simp [hi']
         ·rfl
        refine h.setV hd ho [] (by simp) (m:=mu o) hval haft.os haft.tape haft.output haft.size (fun b hb hn=>haft.block b hb fun m hm hbm=>?_) (by simp [Ob.shp]) rfl (Nat.le_refl _) (fun _=>⟨rfl,hrl⟩) ⟨?_,by simp [q2],fun x u s hxx hs=>?_⟩ (h.nd o _ ho).1 (fun b hb=>.inl hb)
        ·simp at hm;subst hm
         exact hn (hin b hbm)
        ·rw [List.length_set]
         refine dM q1 fun b' hb'=>hkeep b' (b9 hb') fun hc=>?_
         exact (iP (h.nd o _ ho).1).2 _ hb' (List.mem_filterMap.2 ⟨v0,List.mem_of_getElem? hins,hc⟩)
        ·rw [List.getElem?_set] at hs
         by_cases hix:i=x
         ·subst hix
          rw [if_pos rfl,if_pos hi'] at hs;cases hs;have hrv:u=v0:=Option.some.inj (hxx.symm.trans hins)
          subst hrv;exact hrow'
         ·rw [if_neg hix] at hs
          refine dM (q3 x u s hxx hs) fun b' hb'=>hkeep b' (jg hxx hb') fun hc=>?_
          exact wo (h.nd o _ ho).1 hins hxx hix hc hb'
      ·simp [Rd.run] at hr3
     ·simp [Rd.run] at hr3
    ·simp [Rd.run] at hr3
   ·simp [Rd.run] at hr2
  ·simp [Rd.run] at hr2
 ·simp [Rd.run] at hr
theorem WX {Γ:FuncId→Option Ctr} (hΓ:dE C.P Γ) {f:FuncId} {svs:List SV} {eff:Eff} (hm:DO (Γ f)=true) (hr:(DP (Γ f) svs).run σ=some eff) (hob:eff.obl) (h:St C σ mu a w)
  {vs:List Value} (hvl:vs.length=svs.length) (hvs:∀(i:Nat) (sv:SV),svs[i]?=some sv→∃v,vs[i]?=some v∧aB C.P (σ.env C.wF mu) sv v) {dst:Option Nat} (hd:∀d,dst=some d→d<C.N) :
  (∃fn,C.P.funcs[f]?=some fn∧fn.body.isSome=true∧(fn.name == "runtime.NumGoroutine")=false) ∧
  Calls C.P f vs.toArray w fun e w'=>∃v,e=.returned v∧aN C (σ.app dst eff) (a.put dst v) w':=by
 unfold DO at hm;split at hm
 ·rename_i ct hct
  have hf:=hΓ f _ hct
  refine ⟨hf.fn,?_⟩
  unfold DP at hr;rw [hct] at hr;simp only at hr;split at hr
  ·rename_i o g
   obtain ⟨ob,ho,hr2⟩:=bd hr;clear hr;split at hr2
   ·rename_i ver e ei l
    split at hr2
    ·rename_i pre g' x l' ws hpost
     split at hr2
     ·rename_i hg
      have hg:=Nat.eq_of_beq_eq_true hg
      subst hg;simp only [Rd.run,Option.some.injEq] at hr2;subst hr2;obtain ⟨Yh,hlen⟩:pre∧l'.length=l.length:=hob;obtain ⟨v0,e0,r0⟩:=hvs 0 _ rfl;obtain ⟨v1,e1,r1⟩:=hvs 1 _ rfl;have hv0:v0=(mu o).hd:=aV ho r0
      obtain ⟨arr,hv1,harr⟩:=r1;have harr0:arr=#[]:=Array.eq_empty_of_size_eq_zero harr.1
      subst harr0;have hvs':vs=[v0,v1]:=by
       match vs,hvl,e0,e1 with
       | [a,b],_,e0,e1=>simp at e0 e1;subst e0;subst e1;rfl
      subst hvs';subst hv1;obtain ⟨q1,q2,q3⟩:=h.ob o _ ho;have hnd:=(h.nd o _ ho).1
      refine Calls.mono (hf.so rfl l pre g' x l' ws hpost Yh w e ei v0 (mu o).ins (by rw [hv0];exact q1) q2 (fun i u r hi hr=>q3 i u r hi hr) (by rw [hv0];exact hnd)) ?_
      rintro r w' ⟨rfl,ins',k1,k2,k3,k4,k5,k6,k7,k8,k9⟩
      refine ⟨_,rfl,?_⟩
      have hperm:(⟨(mu o).hd,ins'⟩:Img).blocks.Perm (mu o).blocks:=by
       unfold Img.blocks;exact List.Perm.append_left _ (k4.filterMap _)
      refine h.setV hd ho [] (by simp) (m:=⟨(mu o).hd,ins'⟩) (fun E=>⟨#[],rfl,rfl,fun i c hi=>by simp at hi⟩) k5 k6 k7 k8 (fun b hb hn=>k9 b hb fun hc=>hn (b9 (by rw [←hv0];exact hc))) hlen rfl (Nat.le_succ _) (fun hv=>by have:ver+1=ver:=hv;omega)
       ⟨by rw [←hv0];exact k1,k2,fun i u r hi hr=>?_⟩ (hperm.nodup_iff.2 hnd) (fun b hb=>.inl (hperm.mem_iff.1 hb))
      have hmem:u∈(mu o).ins:=k4.mem_iff.1 (List.mem_of_getElem? hi)
      obtain ⟨y,hy⟩:=List.getElem?_of_mem hmem;refine dM (k3 i u r hi hr) fun b hb=>k9 b ((h.ob o _ ho).block b (jg hy hb)) fun hc=>?_
      rw [hv0] at hc;exact (iP hnd).2 _ hc (List.mem_filterMap.2 ⟨u,hmem,hb⟩)
     ·simp [Rd.run] at hr2
    ·simp [Rd.run] at hr2
   ·simp [Rd.run] at hr2
  ·simp [Rd.run] at hr
 ·cases hm
theorem WY {Γ:FuncId→Option Ctr} (hΓ:dE C.P Γ) {f:FuncId} {svs:List SV} {eff:Eff} (hm:DQ (Γ f)=true) (hr:(DR (Γ f) svs).run σ=some eff) (hob:eff.obl) (h:St C σ mu a w)
  {vs:List Value} (hvl:vs.length=svs.length) (hvs:∀(i:Nat) (sv:SV),svs[i]?=some sv→∃v,vs[i]?=some v∧aB C.P (σ.env C.wF mu) sv v) {dst:Option Nat} (hd:∀d,dst=some d→d<C.N) :
  (∃fn,C.P.funcs[f]?=some fn∧fn.body.isSome=true∧(fn.name == "runtime.NumGoroutine")=false) ∧
  Calls C.P f vs.toArray w fun e w'=>∃v,e=.returned v∧aN C (σ.app dst eff) (a.put dst v) w':=by
 unfold DQ at hm;split at hm
 ·rename_i ct hct
  have hf:=hΓ f _ hct
  refine ⟨hf.fn,?_⟩
  unfold DR at hr;rw [hct] at hr;simp only at hr;split at hr
  ·rename_i o off n g
   obtain ⟨ob,ho,hr2⟩:=bd hr;clear hr;split at hr2
   ·rename_i ver e ei l
    split at hr2
    ·rename_i pre g' x k ws hpost
     split at hr2
     ·rename_i hg
      have hg:=Nat.eq_of_beq_eq_true hg
      subst hg;simp only [Rd.run,Option.some.injEq] at hr2;subst hr2;have Yh:pre:=hob
      obtain ⟨v0,e0,r0⟩:=hvs 0 _ rfl;obtain ⟨v1,e1,r1⟩:=hvs 1 _ rfl;obtain ⟨hle,hview⟩:=aV ho r0;have hle:off+n≤l.length:=hle
      obtain ⟨arr,hv1,harr⟩:=r1;have harr0:arr=#[]:=Array.eq_empty_of_size_eq_zero harr.1
      subst harr0;have hvs':vs=[v0,v1]:=by
       match vs,hvl,e0,e1 with
       | [a,b],_,e0,e1=>simp at e0 e1;subst e0;subst e1;rfl
      subst hvs';subst hv1;obtain ⟨q1,q2,q3⟩:=h.ob o _ ho;have hnd:=(h.nd o _ ho).1
      obtain ⟨kn,cut⟩:=hf.df rfl l off n pre g' x k ws hpost Yh;refine Calls.mono (cut w e ei (mu o).hd v0 (mu o).ins q1 q2 (fun i u r hi hr=>q3 i u r hi hr) hnd hle hview) ?_
      rintro r w' ⟨v2,rfl,one,view,ins',k1,k2,k3,k4,k5,k6,k7,k8,k9,k10⟩
      refine ⟨v2,rfl,?_⟩
      have ll:(l.take (off+k.length)++List.replicate (n - k.length) []++l.drop (off+n)).length=l.length:=by
       simp only [List.length_append,List.length_take,List.length_replicate,List.length_drop];omega
      refine h.setVE hd ho [] (by simp) (m:=⟨(mu o).hd,ins'⟩) (fun E hE hmu=>⟨one,?_⟩) k6 k7 k8 k9 (fun b hb hn=>k10 b hb fun hc=>hn (b9 hc)) ll rfl (Nat.le_succ _) (fun hv=>by have:ver+1=ver:=hv;omega)
       ⟨by rw [ll];exact k1,by rw [ll];exact k2,fun i u r hi hr=>?_⟩ k4 (fun b hb=>.inl (k5 b hb))
      ·rw [hE]
       show off+k.length≤_∧cH (E.mu o).hd off k.length v2
       rw [hmu];exact ⟨by show off+k.length≤(l.take (off+k.length)++List.replicate (n - k.length) []++l.drop (off+n)).length;omega,view⟩
      ·have hin:∀b,ai u=some b→b∈(⟨(mu o).hd,ins'⟩:Img).blocks:=fun b hb=>jg hi hb
       refine dM (k3 i u r hi hr) fun b hb=>k10 b ((h.ob o _ ho).block b (k5 b (hin b hb))) fun hc=>?_
       exact (iP k4).2 _ hc (List.mem_filterMap.2 ⟨u,List.mem_of_getElem? hi,hb⟩)
     ·simp [Rd.run] at hr2
    ·simp [Rd.run] at hr2
   ·simp [Rd.run] at hr2
  ·simp [Rd.run] at hr
 ·cases hm
theorem WZ {Γ:FuncId→Option Ctr} (hΓ:dE C.P Γ) {d:Nat} {f:FuncId} {svs:List SV} {eff:Eff} (hm:DS (Γ f)=true) (hr:(DT d svs).run σ=some eff) (hob:eff.obl) (h:St C σ mu a w)
  {vs:List Value} (hvl:vs.length=svs.length) (hvs:∀(i:Nat) (sv:SV),svs[i]?=some sv→∃v,vs[i]?=some v∧aB C.P (σ.env C.wF mu) sv v) {dst:Option Nat} (hd:∀d,dst=some d→d<C.N) :
  (∃fn,C.P.funcs[f]?=some fn∧fn.body.isSome=true∧(fn.name == "runtime.NumGoroutine")=false) ∧
  Calls C.P f vs.toArray w fun e w'=>∃v,e=.returned v∧aN C (σ.app dst eff) (a.put dst v) w':=by
 unfold DS at hm;split at hm
 ·rename_i ct hct
  have hf:=hΓ f _ hct
  refine ⟨hf.fn,?_⟩
  have hdel:=hf.mv rfl
  unfold DT at hr;split at hr
  ·rename_i o i j
   obtain ⟨ob,ho,hr2⟩:=bd hr;clear hr;split at hr2
   ·rename_i e l
    obtain ⟨Yj,hr3⟩:=cd hr2;simp only [Rd.run,Option.some.injEq] at hr3;subst hr3;obtain ⟨h0,hij,hjl⟩:0≤i∧i<j∧j≤(l.length:Int):=hob;obtain ⟨v0,e0,r0⟩:=hvs 0 _ rfl;obtain ⟨v1,e1,r1⟩:=hvs 1 _ rfl;obtain ⟨v2,e2,r2⟩:=hvs 2 _ rfl;have hv0:v0=(mu o).hd:=aV ho r0
    have hv1:v1=.int .i64 i:=r1
    have hv2:v2=.int .i64 j:=r2
    have hvs':vs=[v0,v1,v2]:=by
     match vs,hvl,e0,e1,e2 with
     | [a,b,c],_,e0,e1,e2=>simp at e0 e1 e2;subst e0;subst e1;subst e2;rfl
    subst hvs';obtain ⟨q1,q2⟩:=h.ob o _ ho;have:=hdel w e v0 l i.toNat j.toNat (by rw [hv0];exact q2) (by omega) (by omega)
    rw [show ((i.toNat:Nat):Int)=i by omega,show ((j.toNat:Nat):Int)=j by omega] at this
    subst hv1;subst hv2;refine Calls.mono this ?_
    rintro r w' ⟨v',rfl,k1,k2,k3,k4,k5,k6,k7⟩
    refine ⟨v',rfl,?_⟩
    refine h.move hd Yj [o] (fun o' ho'=>by simp at ho';subst ho';exact ⟨_,ho⟩) (m:=⟨v',[]⟩) k3 k4 k5 (by omega) ?_ ⟨rfl,k1⟩ ?_ ?_ rfl (fq k1)
    ·intro b _ hk
     refine k7 b fun hc=>hk o (by simp) (b9 (by rw [←hv0];exact hc))
    ·simp only [Img.blocks,List.filterMap_nil,List.append_nil]
     cases ai v' <;> simp
    ·intro b hb
     simp only [Img.blocks,List.filterMap_nil,List.append_nil,Option.mem_toList] at hb;rw [k2] at hb;exact .inl ⟨o,by simp,b9 (by rw [←hv0];exact hb)⟩
   ·simp [Rd.run] at hr2
  ·simp [Rd.run] at hr
 ·cases hm
theorem W0 {Γ:FuncId→Option Ctr} (hΓ:dE C.P Γ) {d:Nat} {f:FuncId} {e:TypeId} {svs:List SV} {eff:Eff} (hm:DU (Γ f)=some e) (hr:(DV d e svs).run σ=some eff) (hob:eff.obl) (h:St C σ mu a w)
  {vs:List Value} (hvl:vs.length=svs.length) (hvs:∀(i:Nat) (sv:SV),svs[i]?=some sv→∃v,vs[i]?=some v∧aB C.P (σ.env C.wF mu) sv v) {dst:Option Nat} (hd:∀d,dst=some d→d<C.N) :
  (∃fn,C.P.funcs[f]?=some fn∧fn.body.isSome=true∧(fn.name == "runtime.NumGoroutine")=false) ∧
  Calls C.P f vs.toArray w fun r w'=>∃v,r=.returned v∧aN C (σ.app dst eff) (a.put dst v) w':=by
 unfold DU at hm;split at hm
 ·rename_i ct hct
  split at hm
  ·rename_i q e' ws hct2
   cases hm;have hf:=hΓ f _ hct
   refine ⟨hf.fn,?_⟩
   have hgr:=hf.gr rfl q e ws hct2
   unfold DV at hr;split at hr
   ·rename_i n
    obtain ⟨Yj,hr3⟩:=cd hr;simp only [Rd.run,Option.some.injEq] at hr3;subst hr3;obtain ⟨h0,hn⟩:0≤n∧n≤1099511627776:=hob;obtain ⟨v0,e0,r0⟩:=hvs 0 _ rfl;obtain ⟨v1,e1,r1⟩:=hvs 1 _ rfl;have hv0:v0=.slice none 0 0:=r0
    have hv1:v1=.int .i64 n:=r1
    have hvs':vs=[v0,v1]:=by
     match vs,hvl,e0,e1 with
     | [a,b],_,e0,e1=>simp at e0 e1;subst e0;subst e1;rfl
    subst hvs';have:=hgr w n.toNat (by omega)
    rw [show ((n.toNat:Nat):Int)=n by omega] at this
    subst hv0;subst hv1;refine Calls.mono this ?_
    rintro r w' ⟨v',rfl,k1,k2,k3,k4,k5,k6,k7⟩
    refine ⟨v',rfl,?_⟩
    refine h.move hd Yj [] (fun o' ho'=>by simp at ho') (m:=⟨v',[]⟩) k3 k4 k5 k6 (fun b hb _=>k7 b hb) ⟨rfl,k1⟩ ?_ ?_ rfl (fq k1)
    ·simp only [Img.blocks,List.filterMap_nil,List.append_nil]
     cases ai v' <;> simp
    ·intro b hb
     simp only [Img.blocks,List.filterMap_nil,List.append_nil,Option.mem_toList] at hb;exact .inr (k2 b hb)
   ·simp [Rd.run] at hr
  ·cases hm
 ·cases hm
end
end Go.Sx
end
section
namespace Go.Sx
open Go.RowKit
theorem ox {m:Img} (h:∀u∈m.ins,ai u=none):m.blocks=(ai m.hd).toList:=by
 unfold Img.blocks;rw [show m.ins.filterMap ai=[] from List.filterMap_eq_nil_iff.2 h,List.append_nil]
theorem qC:∀{cs:List SC} {ds:List FC},ds.length=cs.length→(gF cs ds).length=cs.length
 | [],[],_=>rfl
 | c::cs,d::ds,h=>by simp [gF,qC (cs:=cs) (ds:=ds) (by simpa using h)]
 | [],_::_,h=>by simp at h
 | _::_,[],h=>by simp at h
theorem EI:∀{cs:List SC} {ds:List FC} {j:Nat} {c:SC},(gF cs ds)[j]?=some c→∃x d,cs[j]?=some x∧ds[j]?=some d∧c=if dv d then fE d else x
 | [],_,j,c,h=>by simp [gF] at h
 | _::_,[],j,c,h=>by simp [gF] at h
 | x::cs,d::ds,0,c,h=>by simp [gF] at h;exact ⟨x,d,rfl,rfl,h.symm⟩
 | x::cs,d::ds,j+1,c,h=>by
  simp only [gF,List.getElem?_cons_succ] at h;obtain ⟨y,e,h1,h2,h3⟩:=EI h;exact ⟨y,e,by simpa using h1,by simpa using h2,h3⟩
theorem EJ {m:Img} {j:Nat} {d:FC} {u:Value} (h:ld m j d u) (hs:dv d=true) (E:Env):ap E (fE d) u:=by
 cases d with
 | int k n=>exact h
 | bool b=>exact h
 | str l=>exact h
 | _=>cases hs
theorem EK {m:Img} {j:Nat} {d:FC} {u:Value} (h:ld m j d u) (hs:dv d=false):m.ins[j]?=some (.agg #[u]):=by
 cases d with
 | int k n=>cases hs
 | bool b=>cases hs
 | str l=>cases hs
 | _=>exact h
theorem L7 {w:World} {m:Img} {j:Nat} {d:FC} {u:Value} (h:bw w u d) (hi:m.ins[j]?=some (.agg #[u])):ld m j d u:=by
 cases d with
 | int k n=>exact h
 | bool b=>exact h
 | str l=>exact h
 | _=>exact hi
theorem L8 {w:World} {d:FC} {u:Value} (h:bw w u d) (hs:dv d=false):∃a n c,u=.slice a n c∧n≤c:=by
 cases d with
 | int k n=>cases hs
 | bool b=>cases hs
 | str l=>cases hs
 | _=>exact h.slice
section
variable {C:Cx} {σ:State} {mu:Nat→Img} {a:Act} {w:World}
theorem W1 {c:SC} {d:FC} (h:DH c=some d) {v:Value} (hv:ap (σ.env C.wF mu) c v):bw C.wF v d:=by
 unfold DH at h;split at h
 ·cases h;simp only [ap] at hv;subst hv;rfl
 ·cases h;simp only [ap] at hv;subst hv;rfl
 ·cases h;simp only [ap] at hv;subst hv;rfl
 ·cases h;exact hv.2
 ·cases h;exact hv.1.2
 ·cases h
theorem W2 {sv:SV} {ad:AD} (h:n9 sv=some ad) {v:Value} (hv:aB C.P (σ.env C.wF mu) sv v) {mt:List (Nat×Nat)} {ms:List Img} {obs:List Ob} {i:Nat} (hn:∀j,bG mt i j=none):cD C.P C.wF mt ms obs i ad v:=by
 have cell:∀{j:Nat} {d:FC} {u:Value},u.oneCell'=true∧bw C.wF u d→fV C.wF mt ms obs i j d u:=fun {j d u} q=>by
  unfold fV;rw [hn j];exact q
 unfold n9 at h;split at h
 ·split at h
  ·rename_i d hd
   cases h;exact cell (wP rfl hd hv)
  ·cases h
 ·split at h
  ·rename_i ds hds
   cases h;obtain ⟨arr,rfl,h1,h2⟩:=hv;obtain ⟨h3,h4⟩:=ji hds;refine ⟨arr,rfl,by rw [h1,h3],fun j d hj=>?_⟩
   obtain ⟨c,h5,h6⟩:=h4 j d hj;obtain ⟨u,h7,h8,h9⟩:=h2 j c h5;exact ⟨u,h7,cell (wP rfl h6 h9)⟩
  ·cases h
 ·cases h
theorem W3 {Γ:FuncId→Option Ctr} (hΓ:dE C.P Γ) {d:Nat} {f:FuncId} {o:Nat} {svs:List SV} {eff:Eff} (hr:(DI C.P Γ d f o svs).run σ=some eff) (hob:eff.obl) (h:St C σ mu a w)
  {v0:Value} (hv0:ap (σ.env C.wF mu) (.ptr o 0) v0)
  {vs:List Value} (hvl:vs.length=svs.length) (hvs:∀(i:Nat) (sv:SV),svs[i]?=some sv→∃v,vs[i]?=some v∧aB C.P (σ.env C.wF mu) sv v) {dst:Option Nat} (hd:∀d,dst=some d→d<C.N) :
  Calls C.P f (v0::vs).toArray w fun e w'=>∃v,e=.returned v∧aN C (σ.app dst eff) (a.put dst v) w':=by
 unfold DI at hr;split at hr
 ·rename_i ct hct
  have hf:=hΓ f _ hct
  obtain ⟨ob,ho,hr2⟩:=bd hr;clear hr;split at hr2
  ·rename_i xs
   split at hr2
   ·rename_i fcs hfcs
    obtain ⟨hfl,hfc⟩:=ji hfcs;split at hr2
    ·rename_i ads hads
     obtain ⟨hal,har⟩:=ji hads;split at hr2
     ·rename_i pre ret fcs' hpost
      split at hr2
      ·rename_i q hq
       obtain ⟨hr5,Yj⟩:=lE hr2;simp only [Rd.run,Option.some.injEq] at hr5;subst hr5;obtain ⟨g,arr,ty,h1,h2,h3,h4,h5⟩:=kz h ho;have hv0':v0=(mu o).hd:=by
        obtain ⟨_,b,hb,hv⟩:=aV ho hv0;have hb:ai (mu o).hd=some b:=hb
        rw [h1] at hb ⊢;simp [ai] at hb
        rw [hv,hb]
       let m:Img:=⟨(mu o).hd,arr.toList.map fun u=>.agg #[u]⟩
       have hmi:∀u∈m.ins,ai u=none:=fun u hu=>by
        obtain ⟨x,_,rfl⟩:=List.mem_map.1 hu;rfl
       have hmb:m.blocks=(mu o).blocks:=by rw [ox hmi,ox h2]
       have hins:∀(j:Nat) (u:Value),arr[j]?=some u→m.ins[j]?=some (.agg #[u]):=fun j u hu=>by
        show (arr.toList.map fun u=>Value.agg #[u])[j]?=_
        rw [List.getElem?_map];simp [hu]
       have hcell:∀(j:Nat) (dd:FC),fcs[j]?=some dd→∃u,arr[j]?=some u∧u.oneCell'=true∧bw C.wF u dd:=fun j dd hj=>by
        obtain ⟨c,k1,k2⟩:=hfc j dd hj;obtain ⟨u,k3,k4,k5⟩:=h5 j c k1;exact ⟨u,k3,k4,W1 k2 k5⟩
       have hl':=kG hq
       have hmt:∀y j,bG [(0,0)] (1+y) j=none:=fun y j=>by
        simp only [bG];rw [if_neg (by omega)]
        rfl
       refine mL hf h (hid:=[o]) (by simp) rfl (ms:=[m]) (obs:=[.bx fcs]) rfl rfl hpost hob.1 hob.2 rfl (fun o' ho'=>?_) (fun x o' rc hx hrc=>?_) Yj (wF:=C.wF) (fun p u hp=>⟨(h.cells p u hp).2,fun o' ho'=>by simp at ho';subst ho';exact (h.cells p u hp).1 _ _ ho⟩) (fun _=>rfl) (by simp [hvl,hal]) (fun i ad hi=>?_) hd
       ·rw [bC,if_neg (fun hc=>ho' (by simp [hc]))];rfl
       ·cases x with
        | succ x=>simp at hx
        | zero =>
         simp at hx hrc
         subst hx;subst hrc;refine ⟨m,.bx fcs,.bx fcs',.box xs,q,rfl,rfl,⟨g,arr,ty,h1,hmi,h3,by rw [h4,hfl],fun j dd hj=>?_⟩,hmb,by simp [cp,hq],id,ho,rfl,.inr ⟨rfl,.box (gF xs fcs'),by simp [bC],rfl,⟨?_,Nat.le_refl _,fun _=>rfl⟩,fun E w' _ hEE hrep=>?_⟩⟩
         ·obtain ⟨u,k1,k2,k3⟩:=hcell j dd hj
          exact ⟨u,k1,k2,L7 k3 (hins j u k1)⟩
         ·show (gF xs fcs').length=xs.length
          exact qC (by rw [hl',hfl])
         ·obtain ⟨b',arr',t',k1,k2,k3,k4,k5⟩:=hrep
          refine ⟨b',arr',t',k1,h2,k3,by rw [k4,qC (by rw [hl',hfl]),hl',hfl],fun j c hj=>?_⟩
          obtain ⟨x,dd,r1,r2,rfl⟩:=EI hj;obtain ⟨u,r3,r4,r5⟩:=k5 j dd r2;refine ⟨u,r3,r4,?_⟩
          cases hs:dv dd with
          | true=>simp only [if_true];exact EJ r5 hs _
          | false =>
           simp only [Bool.false_eq_true,if_false];have r6:=EK r5 hs
           obtain ⟨u',r7,_,r8⟩:=h5 j x r1;rw [hins j u' r7] at r6;simp at r6
           rw [←r6];exact r8.mono hEE
       ·cases i with
        | zero =>
         simp at hi;subst hi
         refine ⟨v0,rfl,m,rfl,rfl,hv0',fun j dd hj hs=>?_⟩
         obtain ⟨u,k1,_,k3⟩:=hcell j dd hj;exact ⟨u,hins j u k1,L8 k3 hs,k3⟩
        | succ i =>
         obtain ⟨sv,k1,k2⟩:=har i ad (by simpa using hi)
         obtain ⟨v,k3,k4⟩:=hvs i sv k1;exact ⟨v,by simpa using k3,W2 k2 k4 (fun j'=>by have:=hmt i j';rwa [Nat.add_comm] at this)⟩
      ·simp [Rd.run] at hr2
     ·simp [Rd.run] at hr2
    ·simp [Rd.run] at hr2
   ·simp [Rd.run] at hr2
  ·simp [Rd.run] at hr2
 ·simp [Rd.run] at hr
theorem W4 {Γ:FuncId→Option Ctr} (hΓ:dE C.P Γ) {d:Nat} {f:FuncId} {o:Nat} {svs:List SV} {ts:List TypeId} {eff:Eff} (hr:(DJ C.P Γ d f o svs ts).run σ=some eff) (hob:eff.obl) (h:St C σ mu a w)
  {v0:Value} (hv0:ap (σ.env C.wF mu) (.ptr o 0) v0)
  {vs:List Value} (hvl:vs.length=svs.length) (hvs:∀(i:Nat) (sv:SV),svs[i]?=some sv→∃v,vs[i]?=some v∧aB C.P (σ.env C.wF mu) sv v) {dst:Option Nat} (hd:∀d,dst=some d→d<C.N) :
  (∃fn,C.P.funcs[f]?=some fn∧fn.body.isSome=true∧(fn.name == "runtime.NumGoroutine")=false) ∧
  Calls C.P f (v0::vs).toArray w fun e w'=>∃v,e=.returned v∧aN C (σ.app dst eff) (a.put dst v) w':=by
 unfold DJ at hr;split at hr
 ·rename_i ct hct
  have hf:=hΓ f _ hct
  refine ⟨hf.fn,?_⟩
  obtain ⟨ob,ho,hr2⟩:=bd hr;clear hr;split at hr2
  ·rename_i xs
   have hw:=jm h [o] (fun x hx=>by simp at hx;subst hx;exact ⟨_,ho⟩)
   have hmt:∀y j,bG [(0,0)] (1+y) j=none:=fun y j=>by
    simp only [bG];rw [if_neg (by omega)]
    rfl
   obtain ⟨fcs,hr3,hfl,hfc⟩:=ou h hw (mt:=[]) (i:=0) xs 0 _ _ _ (fun x c _ y hy=>by simp [bG] at hy) hr2
   obtain ⟨ads,hr4,hal,har⟩:=mK hΓ h hw svs 1 _ _ _ (fun y sv _ x j hx=>by rw [hmt y j] at hx;cases hx) hr3
   split at hr4
   ·rename_i pre ret fcs' hpost
    split at hr4
    ·exact W3 hΓ hr4 hob h hv0 hvl hvs hd
    rename_i hnro;split at hr4
    ·rename_i q hq
     obtain ⟨hr5,Yj⟩:=lE hr4;simp only [Rd.run,Option.some.injEq] at hr5;subst hr5;obtain ⟨g,arr,ty,h1,h2,h3,h4,h5⟩:=kz h ho;have hv0':v0=(mu o).hd:=by
      obtain ⟨_,b,hb,hv⟩:=aV ho hv0;have hb:ai (mu o).hd=some b:=hb
      rw [h1] at hb ⊢;simp [ai] at hb
      rw [hv,hb]
     let m:Img:=⟨(mu o).hd,arr.toList.map fun u=>.agg #[u]⟩
     have hmi:∀u∈m.ins,ai u=none:=fun u hu=>by
      obtain ⟨x,_,rfl⟩:=List.mem_map.1 hu;rfl
     have hmb:m.blocks=(mu o).blocks:=by rw [ox hmi,ox h2]
     have hins:∀(j:Nat) (u:Value),arr[j]?=some u→m.ins[j]?=some (.agg #[u]):=fun j u hu=>by
      show (arr.toList.map fun u=>Value.agg #[u])[j]?=_
      rw [List.getElem?_map];simp [hu]
     have hcell:∀(j:Nat) (dd:FC),fcs[j]?=some dd→∃u,arr[j]?=some u∧u.oneCell'=true∧bw (iQ w ([o].flatMap fun o=>(mu o).blocks)) u dd:=fun j dd hj=>by
      obtain ⟨c,k1,k2⟩:=hfc j dd hj;obtain ⟨u,k3,k4,k5⟩:=h5 j c k1;exact ⟨u,k3,k4,qw (k2 u k5)⟩
     have hl':=kG hq
     refine mL hf h (hid:=[o]) (by simp) rfl (ms:=[m]) (obs:=[.bx fcs]) rfl rfl hpost hob.1 hob.2 rfl (fun o' ho'=>?_) (fun x o' rc hx hrc=>?_) Yj hw.kept (fun hc=>by rw [hnro] at hc;cases hc) (by simp [hvl,hal]) (fun i ad hi=>?_) hd
     ·rw [bC,if_neg (fun hc=>ho' (by simp [hc]))];rfl
     ·cases x with
      | succ x=>simp at hx
      | zero =>
       simp at hx hrc
       subst hx;subst hrc;refine ⟨m,.bx fcs,.bx fcs',.box xs,q,rfl,rfl,⟨g,arr,ty,h1,hmi,h3,by rw [h4,hfl],fun j dd hj=>?_⟩,hmb,by simp [cp,hq],id,ho,rfl,.inr ⟨rfl,.box (gF xs fcs'),by simp [bC],rfl,⟨?_,Nat.le_refl _,fun _=>rfl⟩,fun E w' _ hEE hrep=>?_⟩⟩
       ·obtain ⟨u,k1,k2,k3⟩:=hcell j dd hj
        exact ⟨u,k1,k2,L7 k3 (hins j u k1)⟩
       ·show (gF xs fcs').length=xs.length
        exact qC (by rw [hl',hfl])
       ·obtain ⟨b',arr',t',k1,k2,k3,k4,k5⟩:=hrep
        refine ⟨b',arr',t',k1,h2,k3,by rw [k4,qC (by rw [hl',hfl]),hl',hfl],fun j c hj=>?_⟩
        obtain ⟨x,dd,r1,r2,rfl⟩:=EI hj;obtain ⟨u,r3,r4,r5⟩:=k5 j dd r2;refine ⟨u,r3,r4,?_⟩
        cases hs:dv dd with
        | true=>simp only [if_true];exact EJ r5 hs _
        | false =>
         simp only [Bool.false_eq_true,if_false];have r6:=EK r5 hs
         obtain ⟨u',r7,_,r8⟩:=h5 j x r1;rw [hins j u' r7] at r6;simp at r6
         rw [←r6];exact r8.mono hEE
     ·cases i with
      | zero =>
       simp at hi;subst hi
       refine ⟨v0,rfl,m,rfl,rfl,hv0',fun j dd hj hs=>?_⟩
       obtain ⟨u,k1,_,k3⟩:=hcell j dd hj;exact ⟨u,hins j u k1,L8 k3 hs,k3⟩
      | succ i =>
       obtain ⟨sv,k1,k2⟩:=har i ad (by simpa using hi)
       obtain ⟨v,k3,k4⟩:=hvs i sv k1;have k5:=k2 v k4
       rw [Nat.add_comm] at k5;exact ⟨v,by simpa using k3,qB (fun j'=>by have:=hmt i j';rwa [Nat.add_comm] at this) k5⟩
    ·simp [Rd.run] at hr4
   ·simp [Rd.run] at hr4
  ·simp [Rd.run] at hr2
 ·simp [Rd.run] at hr
end
end Go.Sx
end
section
namespace Go.Sx
open Go.RowKit
theorem L9:∀{n:Nat} {l a b:List SC} {o:Nat},my n l=some (a,o,b)→l=a++.ptr o 0::b∧a.length=n
 | 0,[],a,b,o,h=>by simp [my] at h
 | 0,c::l,a,b,o,h=>by
  unfold my at h;split at h
  ·rename_i h1 h2;cases h;cases h2;exact ⟨rfl,rfl⟩
  ·rename_i h1 _;cases h1
  ·cases h
 | n+1,[],a,b,o,h=>by simp [my] at h
 | n+1,c::l,a,b,o,h=>by
  unfold my at h;split at h
  ·rename_i h3
   cases h;obtain ⟨k1,k2⟩:=L9 h3;exact ⟨by rw [k1];rfl,by simp [k2]⟩
  ·cases h
theorem W5 {o:Option Post} (h:DK o):∃p n s,o=some ⟨p,.c (.int .i64 n),[.bx [.int .i64 s]]⟩∧p∧KX o=n∧KY o=s:=by
 unfold DK at h;split at h
 ·exact ⟨_,_,_,rfl,h,rfl,rfl⟩
 ·exact h.elim
section
variable {C:Cx} {σ:State} {mu:Nat→Img} {a:Act} {w:World}
theorem Ma {σ:State} {mu:Nat→Img} {wF:World} {cs:List SC} {ds:List AD} (h2:∀(x:Nat) (d:AD),ds[x]?=some d→∃c,cs[x]?=some c∧∀i v,ap (σ.env C.wF mu) c v→cD C.P wF [] [] [] i d v)
  {arr:Array Value} {off:Nat} (hr:∀(x:Nat) (c:SC),cs[x]?=some c→∃u,arr[off+x]?=some u∧ap (σ.env C.wF mu) c u) :
  ∀(x:Nat) (d:AD),ds[x]?=some d→∃u,arr[off+x]?=some u∧∀i,cD C.P wF [] [] [] i d u:=fun x d hx=>by
 obtain ⟨c,h3,h4⟩:=h2 x d hx;obtain ⟨u,h5,h6⟩:=hr x c h3;exact ⟨u,h5,fun i=>h4 i u h6⟩
theorem Mb {P:Program} {wF:World} {mt:List (Nat×Nat)} {ms:List Img} {obs:List Ob} {i:Nat} (hm:∀j,bG mt i j=none) {d:AD} {v:Value} (h:cD P wF [] [] [] i d v):cD P wF mt ms obs i d v:=by
 have hcell:∀{j d u},fV wF [] [] [] i j d u→fV wF mt ms obs i j d u:=fun {j d u} h=>by
  refine ⟨h.1,?_⟩
  rw [hm j];exact qw h
 cases d with
 | c d=>exact hcell (j:=0) h
 | agg cs =>
  obtain ⟨arr,rfl,h1,h2⟩:=h;exact ⟨arr,rfl,h1,fun j d hj=>let ⟨u,h3,h4⟩:=h2 j d hj;⟨u,h3,hcell h4⟩⟩
 | box cs =>
  simp only [cD,hm 0];exact h
 | fv F=>exact h
 | fvs F s=>exact (show False from h).elim
 | cut off n d=>exact (show False from h).elim
theorem W6 {wF:World} {g:FuncId} {k:Nat} {ctg:List AD→Option Post} (hg:Fits C.P g ⟨[(k+2,0)],ctg⟩) {A B:List AD} (hA:A.length=k) {arr:Array Value} (hsz:arr.size=k+1+B.length)
  (ha:∀(x:Nat) (d:AD),A[x]?=some d→∃u,arr[0+x]?=some u∧∀i,cD C.P wF [] [] [] i d u) (hb:∀(x:Nat) (d:AD),B[x]?=some d→∃u,arr[k+1+x]?=some u∧∀i,cD C.P wF [] [] [] i d u)
  {b:Nat} (hp:arr[k]?=some (.pointer (some ⟨b,0,none⟩))) (hnb:∀p u,wF.cell? p=some u→p.block≠b):nS C.P wF b (DL ctg A B) (.func (.func g) #[] arr):=by
 obtain ⟨fn,hfn1,hfn2,hfn3⟩:=LT hg;refine ⟨g,arr,fn,rfl,hfn1,hfn2,hfn3,fun w s x y hk ⟨t,ht⟩ hq=>?_⟩
 obtain ⟨pre,n,s',h1,h2,h3,h4⟩:=W5 hq
 let m:Img:=⟨.pointer (some ⟨b,0,none⟩),[]⟩
 have hmb:m.blocks=[b]:=rfl
 have hmt:∀i j,i≠k+2→bG [(k+2,0)] i j=none:=fun i j hi=>by
  simp only [bG];rw [if_neg (by omega)]
  rfl
 have hx0:bG [(k+2,0)] (k+2) 0=some 0:=by simp [bG]
 have hrep:∀{w:World} {s:Int} {t:TypeId},w.heap[b]?=some (.cells #[.int .i64 s] t (0,0))→bn (E0 w) w m (.bx [.int .i64 s]):=fun {w s t} ht =>
  ⟨b,_,t,rfl,by simp [m],ht,rfl,fun j d hj=>by
   match j,hj with
   | 0,hj=>simp at hj;subst hj;exact ⟨_,rfl,rfl,rfl⟩
   | j+1,hj=>simp at hj⟩
 have hlen:([Value.int .i64 x,.int .i64 y]++arr.toList).length=([AD.c (.int .i64 x),.c (.int .i64 y)]++(A++.box [.int .i64 s]::B)).length:=by
  simp only [List.length_append,List.length_cons,List.length_nil,Array.length_toList,hsz,hA];omega
 have:=hg.run w wF ([.int .i64 x,.int .i64 y]++arr.toList) ([.c (.int .i64 x),.c (.int .i64 y)]++(A++.box [.int .i64 s]::B)) _ [m] [.bx [.int .i64 s]] h1 h2 hlen rfl rfl rfl
  (fun z m' ob hz hz2=>by
   cases z with
   | zero=>simp at hz hz2;subst hz;subst hz2;exact ⟨hrep ht,by rw [hmb];simp⟩
   | succ z=>simp at hz)
  (fun z z' m1 m2 hne hz hz'=>by
   cases z with
   | zero =>
    cases z' with
    | zero=>exact absurd rfl hne
    | succ z'=>simp at hz'
   | succ z=>simp at hz)
  (fun z ob rc hz hz2=>by
   cases z with
   | zero=>simp at hz hz2;subst hz;subst hz2;exact ⟨_,_,by simp only [cp,fp,if_true];rfl,trivial⟩
   | succ z=>simp at hz)
  (fun p u hpu=>⟨hk p u hpu,fun m' hm'=>by
   simp at hm';subst hm'
   rw [hmb]
   simpa using hnb p u hpu⟩)
  (fun i d hi=>by
   match i,hi with
   | 0,hi=>simp at hi;subst hi;exact ⟨_,rfl,rfl,by rw [hmt 0 0 (by omega)];rfl⟩
   | 1,hi=>simp at hi;subst hi;exact ⟨_,rfl,rfl,by rw [hmt 1 0 (by omega)];rfl⟩
   | i+2,hi =>
    simp only [List.cons_append,List.nil_append,List.getElem?_cons_succ] at hi;by_cases h5:i<A.length
    ·rw [List.getElem?_append_left h5] at hi
     obtain ⟨u,k1,k2⟩:=ha i d hi;refine ⟨u,?_,Mb (fun j=>hmt _ j (by omega)) (k2 _)⟩
     rw [Nat.zero_add] at k1
     simpa using k1
    ·rw [List.getElem?_append_right (by omega)] at hi
     by_cases h6:i=k
     ·subst h6
      rw [hA,Nat.sub_self] at hi;simp at hi
      subst hi;refine ⟨_,by simpa using hp,?_⟩
      simp only [cD];rw [hx0];refine ⟨m,rfl,rfl,rfl,fun j d hj hs=>?_⟩
      match j,hj with
      | 0,hj=>simp at hj;subst hj;cases hs
      | j+1,hj=>simp at hj
     ·obtain ⟨z,hz⟩:∃z,i - A.length=z+1:=⟨i - A.length - 1,by omega⟩
      rw [hz,List.getElem?_cons_succ] at hi;obtain ⟨u,k1,k2⟩:=hb z d hi;refine ⟨u,?_,Mb (fun j=>hmt _ j (by omega)) (k2 _)⟩
      rw [show k+1+z=i by omega] at k1
      simpa using k1)
 rw [show ([Value.int .i64 x,.int .i64 y]++arr.toList).toArray=#[.int .i64 x,.int .i64 y]++arr by apply Array.ext';simp] at this
 refine this.mono ?_
 rintro e w' ⟨v,ms',img,wG,rfl,haft,hml,hms,_,hret⟩
 have hlt1:0<ms'.length:=by rw [hml];simp
 obtain ⟨j0,_,_,_,ob3,q4,j4,j5⟩:=hms 0 _ _ _ _ rfl (List.getElem?_eq_getElem hlt1) rfl rfl rfl;simp only [cp,fp,if_true,Option.some.injEq,Prod.mk.injEq] at j4;obtain ⟨rfl,_⟩:=j4;rw [j0] at j5;obtain ⟨b',arr',t',r1,_,r3,r4,r5⟩:=j5;have hbb:b'=b:=by simpa [m] using r1.symm
 subst hbb;obtain ⟨u,r6,_,r7⟩:=r5 0 _ rfl;have harr:arr'=#[.int .i64 s']:=by
  apply Array.ext
  ·rw [r4];rfl
  ·intro z hz1 hz2
   have:z=0:=by simp at hz2;omega
   subst this;have h8:arr'[0]?=some u:=r6
   rw [Array.getElem?_eq_getElem hz1] at h8;cases h8;exact r7
 have hv:v=.int .i64 n:=hret.val
 refine ⟨by rw [hv];congr 1;exact (congrArg (Value.int .i64) h3.symm),haft.os,haft.tape,haft.output,haft.size,fun z hz hne=>haft.block z hz fun m' hm'=>by
  simp at hm';subst hm'
  rw [hmb];simpa using hne,t',?_⟩
 rw [r3,harr];have:(DL ctg A B).nx s x y=s':=h4
 rw [this]
theorem W7 {o:Nat} {F:SFV} {svs:List SV} {eff:Eff} (hr:(DN o F svs).run σ=some eff) (hob:eff.obl) (h:St C σ mu a w) {v0:Value} (hv0:aB C.P (σ.env C.wF mu) (.fvs o F) v0)
  {vs:List Value} (hvl:vs.length=svs.length) (hvs:∀(i:Nat) (sv:SV),svs[i]?=some sv→∃v,vs[i]?=some v∧aB C.P (σ.env C.wF mu) sv v) {dst:Option Nat} (hd:∀d,dst=some d→d<C.N) :
  ∃g caps,v0=.func (.func g) #[] caps∧(∃fn,C.P.funcs[g]?=some fn∧fn.body.isSome=true∧(fn.name == "runtime.NumGoroutine")=false) ∧
  Calls C.P g (vs.toArray++caps) w fun e w'=>∃v,e=.returned v∧aN C (σ.app dst eff) (a.put dst v) w':=by
 unfold DN at hr;split at hr
 ·rename_i x y
  obtain ⟨ob,ho,hr2⟩:=bd hr;split at hr2
  ·rename_i s
   simp only [Rd.run,Option.some.injEq] at hr2;subst hr2;obtain ⟨b,hb,g,caps,fn,rfl,k1,k2,k3,k4⟩:=aV ho hv0;obtain ⟨g',arr,ty,h1,h2,h3,h4,h5⟩:=kz h ho;have hgb:g'=b:=by
    have hb:(mu o).hd=_:=hb
    rw [h1] at hb
    simpa using hb
   subst hgb;have harr:arr=#[.int .i64 s]:=by
    obtain ⟨u,r6,_,r7⟩:=h5 0 _ rfl;apply Array.ext
    ·rw [h4];rfl
    ·intro z hz1 hz2
     have:z=0:=by simp at hz2;omega
     subst this;rw [Array.getElem?_eq_getElem hz1] at r6;cases r6;exact r7
   subst harr;have hb0:g'∈(mu o).blocks:=b9 (by rw [h1];rfl)
   obtain ⟨u0,q1,q2⟩:=hvs 0 _ rfl;obtain ⟨u1,q3,q4⟩:=hvs 1 _ rfl;have q2:u0=.int .i64 x:=q2
   have q4:u1=.int .i64 y:=q4
   subst q2;subst q4;have hvv:vs=[.int .i64 x,.int .i64 y]:=by
    match vs,hvl,q1,q3 with
    | [_,_],_,q1,q3=>simp at q1 q3;rw [q1,q3]
   subst hvv;refine ⟨g,caps,rfl,⟨fn,k1,k2,by simpa using k3⟩,?_⟩
   refine (k4 w s x y (fun p u hp=>(h.cells p u hp).2) ⟨ty,h3⟩ hob).mono ?_
   rintro e w' ⟨rfl,t1,t2,t3,t4,t5,ty',t6⟩
   refine ⟨_,rfl,?_⟩
   refine h.setV hd ho [] (by simp) (m:=mu o) (fun E=>rfl) t1 t2 t3 t4 (fun z hz hn=>t5 z hz fun hc=>hn (by rw [hc];exact hb0)) rfl rfl (Nat.le_refl _) (fun _=>⟨rfl,rfl⟩) ⟨g',_,ty',h1,h2,t6,rfl,fun j c hj=>?_⟩ (h.nd o _ ho).1 (fun z hz=>.inl hz)
   match j,hj with
   | 0,hj=>simp at hj;subst hj;exact ⟨_,rfl,rfl,rfl⟩
   | j+1,hj=>simp at hj
  ·simp [Rd.run] at hr2
 ·simp [Rd.run] at hr
theorem W8 {Γ:FuncId→Option Ctr} (hΓ:dE C.P Γ) {d:Nat} {f:FuncId} {svs:List SV} {eff:Eff} (hr:(DM C.P Γ d f svs).run σ=some eff) (hob:eff.obl) (h:St C σ mu a w)
  {vs:List Value} (hvl:vs.length=svs.length) (hvs:∀(i:Nat) (sv:SV),svs[i]?=some sv→∃v,vs[i]?=some v∧aB C.P (σ.env C.wF mu) sv v) {dst:Option Nat} (hd:∀d,dst=some d→d<C.N) :
  (∃fn,C.P.funcs[f]?=some fn∧fn.body.isSome=true∧(fn.name == "runtime.NumGoroutine")=false) ∧
  Calls C.P f vs.toArray w fun e w'=>∃v,e=.returned v∧aN C (σ.app dst eff) (a.put dst v) w':=by
 unfold DM at hr;split at hr
 ·rename_i ct hct
  have hf:=hΓ f _ hct
  refine ⟨hf.fn,?_⟩
  split at hr
  ·rename_i n g caps
   split at hr
   ·rename_i k0 ctg hctg
    have hg:=hΓ g _ hctg
    split at hr
    ·rename_i k
     split at hr
     ·rename_i ca o cb hsp
      obtain ⟨hcs,hcl⟩:=L9 hsp;obtain ⟨ob,ho,hr2⟩:=bd hr;clear hr;split at hr2
      ·rename_i s
       have hw:=jm h [o] (fun x hx=>by simp at hx;subst hx;exact ⟨_,ho⟩)
       obtain ⟨A,hr3,hAl,hA⟩:=qx h hw ca _ _ hr2;obtain ⟨B,hr4,hBl,hB⟩:=qx h hw cb _ _ hr3;split at hr4
       ·rename_i pre ret s' hpost
        split at hr4
        ·simp [Rd.run] at hr4
        rename_i hnro;obtain ⟨hr5,Yj⟩:=lE hr4;simp only [Rd.run,Option.some.injEq] at hr5;subst hr5;obtain ⟨u0,q1,q2⟩:=hvs 0 _ rfl;obtain ⟨u1,q3,arr,rfl,hasz,harr⟩:=hvs 1 _ rfl;have q2:u0=.int .i64 n:=q2
        subst q2;obtain ⟨bb,arr0,ty,h1,h2,h3,h4,h5⟩:=kz h ho;have harr0:arr0=#[.int .i64 s]:=by
         obtain ⟨u,r6,_,r7⟩:=h5 0 _ rfl;apply Array.ext
         ·rw [h4];rfl
         ·intro z hz1 hz2
          have:z=0:=by simp at hz2;omega
          subst this;rw [Array.getElem?_eq_getElem hz1] at r6;cases r6;exact r7
        subst harr0
        let m:Img:=⟨(mu o).hd,[]⟩
        have hmb:m.blocks=(mu o).blocks:=by rw [ox (m:=m) (by simp [m]),ox h2]
        have hb0:bb∈(mu o).blocks:=b9 (by rw [h1];rfl)
        have hcap:∀(z:Nat) (c:SC),(ca++.ptr o 0::cb)[z]?=some c→∃u,arr[z]?=some u∧ap (σ.env C.wF mu) c u:=fun z c hz=>by
         rw [←hcs] at hz;obtain ⟨u,k1,_,k3⟩:=harr z c hz;exact ⟨u,k1,k3⟩
        have hpt:arr[k]?=some (.pointer (some ⟨bb,0,none⟩)):=by
         obtain ⟨u,k1,k2⟩:=hcap k (.ptr o 0) (by rw [List.getElem?_append_right (by omega),hcl,Nat.sub_self];rfl)
         obtain ⟨_,b',k3,k4⟩:=aV ho k2;have k3:ai (mu o).hd=some b':=k3
         rw [h1] at k3;have:bb=b':=by simpa [ai] using k3
         rw [k1,k4,this]
        have hcl2:=W6 (wF:=iQ w ([o].flatMap fun o=>(mu o).blocks)) hg (A:=A) (B:=B) (by rw [hAl,hcl]) (arr:=arr) (by rw [hasz,hcs];simp [hcl,hBl];omega)
         (Ma (σ:=σ) (mu:=mu) hA fun z c hz=>by
          rw [Nat.zero_add];exact hcap z c (by rw [List.getElem?_append_left (List.getElem?_eq_some_iff.1 hz).1];exact hz))
         (Ma (σ:=σ) (mu:=mu) hB fun z c hz=>hcap (k+1+z) c (by rw [List.getElem?_append_right (by omega),show k+1+z - ca.length=z+1 by omega];simpa using hz))
         hpt (fun p u hp hc=>(hw.kept p u hp).2 o (by simp) (by rw [hc];exact hb0))
        refine mL hf h (hid:=[o]) (by simp) rfl (ms:=[m]) (obs:=[.bx [.int .i64 s]]) rfl rfl hpost hob.1 hob.2 rfl (fun o' ho'=>?_) (fun x o' rc hx hrc=>?_) Yj hw.kept (fun hc=>by rw [hnro] at hc;cases hc) (by rw [hvl];rfl) (fun i ad hi=>?_) hd
        ·rw [bC,if_neg (fun hc=>ho' (by simp [hc]))];rfl
        ·cases x with
         | succ x=>simp at hx
         | zero =>
          simp at hx hrc
          subst hx;subst hrc;refine ⟨m,.bx [.int .i64 s],.bx [.int .i64 s'],.box [.int .i64 s],True,rfl,rfl,⟨bb,_,ty,h1,by simp [m],h3,rfl,fun j dd hj=>?_⟩,hmb,by simp only [cp,fp,if_true],fun _=>trivial,ho,rfl,.inr ⟨rfl,.box [.int .i64 s'],by simp [bC],rfl,⟨rfl,Nat.le_refl _,fun _=>rfl⟩,fun E w' _ _ hrep=>?_⟩⟩
          ·match j,hj with
           | 0,hj=>simp at hj;subst hj;exact ⟨_,rfl,rfl,rfl⟩
           | j+1,hj=>simp at hj
          ·obtain ⟨b',arr',t',k1,k2,k3,k4,k5⟩:=hrep
           refine ⟨b',arr',t',k1,h2,k3,k4,fun j c hj=>?_⟩
           match j,hj with
           | 0,hj =>
            simp at hj;subst hj
            obtain ⟨u,r3,r4,r5⟩:=k5 0 _ rfl;exact ⟨u,r3,r4,r5⟩
           | j+1,hj=>simp at hj
        ·match i,hi with
         | 0,hi=>simp at hi;subst hi;exact ⟨_,q1,rfl,rfl⟩
         | 1,hi=>simp at hi;subst hi;exact ⟨_,q3,m,bb,rfl,rfl,h1,rfl,hcl2⟩
         | i+2,hi=>simp at hi
       ·simp [Rd.run] at hr4
      ·simp [Rd.run] at hr2
     ·simp [Rd.run] at hr
    ·simp [Rd.run] at hr
   ·simp [Rd.run] at hr
  ·simp [Rd.run] at hr
 ·simp [Rd.run] at hr
end
end Go.Sx
end
section
namespace Go.Sx
open Go.RowKit
set_option linter.unusedSimpArgs false
set_option linter.unusedVariables false
section
variable {C:Cx} {σ:State} {mu mu':Nat→Img} {a:Act} {w w':World}
theorem mM {id o ver:Nat} {e ei:TypeId} {k:IntKind} {l:List (List Int)} {hs:List Nat} {i:Nat} (x:Nat) :
  (State.mk σ.fr (eQ id o ver e ei k l hs i++σ.hp)).H x=if id=x then some (some (.ints ei k (l.getD i []))) else if o=x then some (some (.rowsH ver e ei k l hs)) else σ.H x:=by
 show lk ((id,_)::(o,_)::σ.hp) x=_
 rw [bC,bC];rfl
theorem EL (d:Nat):∀(l:List (Nat×RC)) (x:Nat) (y:Option Ob),lk (db d l) x=some y→∃i,x=d+1000 * i
 | [],x,y,h=>by simp [db,lk] at h
 | (i,rc)::l,x,y,h=>by
  simp only [db] at h;split at h
  ·rw [bC] at h
   split at h
   ·exact ⟨i,by omega⟩
   ·exact EL d l x y h
  ·exact EL d l x y h
theorem W9 {Γ:FuncId→Option Ctr} (hΓ:dE C.P Γ) {d:Nat} {f:FuncId} {o ver i j:Nat} {ts:List TypeId} {eff:Eff} (hr:(DW C.P Γ d f o ver i j ts).run σ=some eff) (hob:eff.obl) (h:St C σ mu a w)
  {v0 v1:Value} (hv0:aB C.P (σ.env C.wF mu) (.c (.row o ver i)) v0) (hv1:aB C.P (σ.env C.wF mu) (.c (.row o ver j)) v1) {dst:Option Nat} (hd:∀d,dst=some d→d<C.N) :
  (∃fn,C.P.funcs[f]?=some fn∧fn.body.isSome=true∧(fn.name == "runtime.NumGoroutine")=false) ∧
  Calls C.P f [v0,v1].toArray w fun e w'=>∃v,e=.returned v∧aN C (σ.app dst eff) (a.put dst v) w':=by
 unfold DW at hr;obtain ⟨ob,ho,hr2⟩:=bd hr;clear hr;split at hr2
 ·rename_i ver' e ei k l
  split at hr2
  ·rename_i hver
   have hver:=Nat.eq_of_beq_eq_true hver
   subst hver;split at hr2
   ·rename_i ct hct
    have hf:=hΓ f _ hct
    refine ⟨hf.fn,?_⟩
    split at hr2
    ·rename_i pre ret e1 k1 l1 e2 k2 l2 hpost
     split at hr2
     ·simp [Rd.run] at hr2
     ·rename_i hnro
      split at hr2
      ·rename_i hek
       obtain ⟨he1,he2,hk1,hk2⟩:=hek;subst he1;subst he2;subst hk1;subst hk2;obtain ⟨hab1,hr3⟩:=cd hr2;obtain ⟨hab0,hr4⟩:=cd hr3;obtain ⟨hr5,Yj⟩:=lE hr4;simp only [Rd.run,Option.some.injEq] at hr5;subst hr5;obtain ⟨Yh,hij⟩:(pre∧True∧True)∧i≠j:=hob;obtain ⟨hi,hil⟩:=(aV ho hv0).2 rfl;obtain ⟨hj,hjl⟩:=(aV ho hv1).2 rfl;have hi:(mu o).ins[i]?=some v0:=hi
       have hj:(mu o).ins[j]?=some v1:=hj
       have hne1:d+500501≠o:=fun hc=>by rw [hc,ho] at hab1;cases hab1
       have hne0:d+500500≠o:=fun hc=>by rw [hc,ho] at hab0;cases hab0
       obtain ⟨r1,s1⟩:=h.take ho rfl (Ln (h.ob o _ ho)) hab1 hj (by simp)
       have ho1:(State.mk σ.fr (eQ (d+500501) o (ver'+1) e ei k l [j] j++σ.hp)).H o=some (some (.rowsH (ver'+1) e ei k l [j])):=by rw [mM,if_neg hne1,if_pos rfl]
       have hab0':(State.mk σ.fr (eQ (d+500501) o (ver'+1) e ei k l [j] j++σ.hp)).H (d+500500)=none:=by rw [mM,if_neg (by omega),if_neg (Ne.symm hne0)];exact hab0
       obtain ⟨r2,s2⟩:=s1.take (id:=d+500500) (i:=i) (v:=v0) ho1 rfl (by rw [if_neg (Ne.symm hne1),if_pos rfl];exact r1) hab0' (by rw [if_neg (Ne.symm hne1),if_pos rfl];show ((mu o).ins.set j (.slice none 0 0))[i]?=_;rw [List.getElem?_set_ne (Ne.symm hij)];exact hi) (by simp;exact hij)
       generalize hmu2:(fun x=>if x=d+500500 then (⟨v0,[]⟩:Img) else if x=o then _ else if x=d+500501 then _ else _)=mu2 at s2
       have hm0:mu2 (d+500500)=⟨v0,[]⟩:=by rw [←hmu2];simp
       have hm1:mu2 (d+500501)=⟨v1,[]⟩:=by rw [←hmu2];simp [hne1]
       generalize hσ2:State.mk (State.mk σ.fr (eQ (d+500501) o (ver'+1) e ei k l [j] j++σ.hp)).fr (eQ (d+500500) o (ver'+1+1) e ei k l [i,j] i++(State.mk σ.fr (eQ (d+500501) o (ver'+1) e ei k l [j] j++σ.hp)).hp)=σ2 at s2
       have hH0:σ2.H (d+500500)=some (some (.ints ei k (l.getD i []))):=by rw [←hσ2,mM,if_pos rfl]
       have hH1:σ2.H (d+500501)=some (some (.ints ei k (l.getD j []))):=by rw [←hσ2,mM,if_neg (by omega),if_neg (Ne.symm hne1),mM,if_pos rfl]
       have hHx:∀x,x≠d+500500→x≠d+500501→x≠o→σ2.H x=σ.H x:=fun x a b c=>by
        rw [←hσ2,mM,if_neg (Ne.symm a),if_neg (Ne.symm c),mM,if_neg (Ne.symm b),if_neg (Ne.symm c)]
       have hw:=jm s2 [d+500500,d+500501] (fun x hx=>by
        simp only [List.mem_cons,List.not_mem_nil,or_false] at hx;rcases hx with hx | hx
        ·subst hx;exact ⟨_,hH0⟩
        ·subst hx;exact ⟨_,hH1⟩)
       have q0:=s2.ob _ _ hH0
       have q1:=s2.ob _ _ hH1
       rw [hm0] at q0;rw [hm1] at q1;have eapp:∀val pp,σ2.app dst ⟨val,db d (cL ret)++[(d+500500,none),(d+500501,none)],pp⟩ =
         σ.app dst ⟨val,(db d (cL ret)++[(d+500500,none),(d+500501,none)])++(eQ (d+500500) o (ver'+2) e ei k l [i,j] i++eQ (d+500501) o (ver'+1) e ei k l [j] j),pp⟩:=fun val pp=>by
        rw [←hσ2];simp only [State.app,List.append_assoc]
       have core:=mL (d:=d) hf s2 (hid:=[d+500500,d+500501]) (by simp) rfl (ms:=[⟨v0,[]⟩,⟨v1,[]⟩]) (obs:=[.ints ei k (l.getD i []),.ints ei k (l.getD j [])]) rfl rfl hpost Yh.1 (q:=True) trivial rfl
        (ups:=[(d+500500,none),(d+500501,none)]) (fun x hx=>by
         simp only [List.mem_cons,List.not_mem_nil,or_false,not_or] at hx;rw [bC,if_neg (Ne.symm hx.1),bC,if_neg (Ne.symm hx.2)];rfl) (wF:=iQ w ([d+500500,d+500501].flatMap fun o=>(mu2 o).blocks))
        (fun x o' rc hx hrc=>by
         match x,hx,hrc with
         | 0,hx,hrc =>
          simp at hx hrc;subst hx;subst hrc
          exact ⟨_,_,_,_,_,rfl,rfl,q0.env,by rw [hm0],by simp only [cp,and_self,if_true];rfl,fun _=>trivial,hH0,rfl,.inl ⟨rfl,by rw [bC,if_pos rfl]⟩⟩
         | 1,hx,hrc =>
          simp at hx hrc;subst hx;subst hrc
          exact ⟨_,_,_,_,_,rfl,rfl,q1.env,by rw [hm1],by simp only [cp,and_self,if_true];rfl,fun _=>trivial,hH1,rfl,.inl ⟨rfl,by rw [bC,if_neg (by omega),bC,if_pos rfl]⟩⟩
         | x+2,hx,_=>simp at hx)
        (fun x y hx=>by
         obtain ⟨n,hn⟩:=EL d _ x y hx;have:=Yj x y hx
         rw [hHx x (by omega) (by omega) (fun hc=>by rw [hc,ho] at this;cases this)]
         exact this) hw.kept (fun hc=>by rw [hnro] at hc;cases hc) (vs:=[v0,v1]) rfl
        (fun x ad hx=>by
         match x,hx with
         | 0,hx =>
          simp at hx;subst hx
          exact ⟨v0,rfl,hv0.1,_,_,rfl,rfl,rfl,rfl⟩
         | 1,hx =>
          simp at hx;subst hx
          exact ⟨v1,rfl,hv1.1,_,_,rfl,rfl,rfl,rfl⟩
         | x+2,hx=>simp at hx) (pp:=some ((pre∧True∧True)∧i≠j)) hd
       rw [eapp] at core;exact core
      ·simp [Rd.run] at hr2
    ·simp [Rd.run] at hr2
   ·simp [Rd.run] at hr2
  ·simp [Rd.run] at hr2
 ·simp [Rd.run] at hr2
end
end Go.Sx
end
