/- SxOr SxOb SxOs SxOt SxOv -/
import Derived.Test.YtkmldclpaniclaaSxO
section
namespace Go.Sx
open Go.RowKit
section
variable {C:Cx} {σ:State} {mu:Nat→Img} {a:Act} {w w':World}
theorem oe {P:Program} {wF:World} {mt:List (Nat×Nat)} {ms ms':List Img} {obs obs':List Ob} {i:Nat} (hm:∀j,bh mt i j=none) {d:AD} {v:Value} (h:bT P wF mt ms obs i d v):bT P wF mt ms' obs' i d v:=by
 have hcell:∀{j d u},eo wF mt ms obs i j d u→eo wF mt ms' obs' i j d u:=fun {j d u} h=>by
  refine ⟨h.1,?_⟩
  have h2:=h.2
  rw [hm j] at h2 ⊢;exact h2
 cases d with
 | c d=>exact hcell (j:=0) h
 | agg cs =>
  obtain ⟨arr,rfl,h1,h2⟩:=h;exact ⟨arr,rfl,h1,fun j d hj=>let ⟨u,h3,h4⟩:=h2 j d hj;⟨u,h3,hcell h4⟩⟩
 | box cs =>
  simp only [bT,hm 0] at h ⊢;exact h
 | bb cs=>exact h
 | fv F=>exact h
 | fvs F s =>
  simp only [bT,hm 0] at h
 | cut off n d =>
  simp only [bT,hm 0] at h
 | ma x=>exact (show False from h).elim
theorem OT {Γ:FuncId→Option Ctr} (hΓ:cB C.P Γ) {f:FuncId} {o ver i:Nat} {svs:List SV} {ts:List TypeId} {eff:Eff} (hr:(yh C.P Γ f o ver i svs ts).run σ=some eff) (hob:eff.obl) (h:St C σ mu a w)
  {v0:Value} (hv0:ac (σ.env C.wF mu) (.row o ver i) v0)
  {vs:List Value} (hvl:vs.length=svs.length) (hvs:∀(i:Nat) (sv:SV),svs[i]?=some sv→∃v,vs[i]?=some v∧ak C.P (σ.env C.wF mu) sv v) {dst:Option Nat} (hd:∀d,dst=some d→d<C.N) :
  (∃fn,C.P.funcs[f]?=some fn∧fn.body.isSome=true∧(fn.name == "runtime.NumGoroutine")=false) ∧
  Calls C.P f (v0::vs).toArray w fun e w'=>∃v,e=.returned v∧aq C (σ.app dst eff) (a.put dst v) w':=by
 unfold yh at hr;split at hr
 ·rename_i ct hct
  have hf:=hΓ f _ hct
  refine ⟨hf.fn,?_⟩
  obtain ⟨ob,ho,hr2⟩:=aG hr;clear hr;split at hr2
  ·rename_i ver' e ei k l
   split at hr2
   ·rename_i hver
    have hver:=Nat.eq_of_beq_eq_true hver
    subst hver;have hw:=gQ h [o] (fun x hx=>by simp at hx;subst hx;exact ⟨_,ho⟩)
    have hmt:∀y j,bh [(0,0)] (1+y) j=none:=fun y j=>by
     simp only [bh];rw [if_neg (by omega)]
     rfl
    obtain ⟨ads,hr3,hal,har⟩:=kO hΓ h hw svs 1 ts _ _ (fun y sv _ x j hx=>by rw [hmt y j] at hx;cases hx) hr2
    split at hr3
    ·rename_i pre rc e' k' r hpost
     split at hr3
     ·rename_i c hrc
      split at hr3
      ·rename_i hek
       obtain ⟨rfl,rfl⟩:=hek;simp only [Rd.run,Option.some.injEq] at hr3;subst hr3;obtain ⟨Yh,hlen⟩:pre∧r.length=(l.getD i []).length:=hob;have hx:=az ho hv0
       obtain ⟨hins,hi⟩:=hx.2 rfl;have hi':i<l.length:=hi
       obtain ⟨q1,q2,q3⟩:=h.ob o _ ho;have hgd:l.getD i []=l[i]:=by simp [List.getD,hi']
       have hrow:=q3 i v0 _ hins (List.getElem?_eq_getElem hi')
       rw [←hgd] at hrow;have hsub:∀b∈(⟨v0,[]⟩:Img).blocks,ab v0=some b:=fun b hb=>by
        simpa [Img.blocks] using hb
       have hin:∀b∈(⟨v0,[]⟩:Img).blocks,b∈(mu o).blocks:=fun b hb=>gH hins (hsub b hb)
       have hnd0:(⟨v0,[]⟩:Img).blocks.Nodup:=by
        simp only [Img.blocks,List.filterMap_nil,List.append_nil];cases ab v0 <;> simp
       have hone:v0.oneCell'=true:=hv0.1
       refine (hf.run w (gx w ([o].flatMap fun o=>(mu o).blocks)) (v0::vs) (.c (.ints k (l.getD i []))::ads) ⟨pre,.c rc,[.ints ei k r]⟩ [⟨v0,[]⟩] [.ints ei k (l.getD i [])] hpost Yh (by simp [hvl,hal]) rfl rfl rfl ?_ ?_ ?_ ?_ ?_).mono ?_
       ·intro x m ob hx hox
        cases x with
        | zero=>simp at hx hox;subst hx;subst hox;exact ⟨⟨rfl,hrow⟩,hnd0⟩
        | succ x=>simp at hx
       ·intro x x' m m' hne hx hx'
        cases x with
        | zero =>
         cases x' with
         | zero=>exact absurd rfl hne
         | succ x'=>simp at hx'
        | succ x=>simp at hx
       ·intro x ob rc' hx hrc'
        cases x with
        | zero =>
         simp at hx hrc';subst hx;subst hrc'
         exact ⟨.ints ei k r,r.length=(l.getD i []).length,by simp only [bK,and_self,if_true];rfl,hlen⟩
        | succ x=>simp at hx
       ·intro p u hp
        obtain ⟨h1,h2⟩:=hw.kept p u hp;exact ⟨h1,fun m hm hb=>by
         simp at hm;subst hm
         exact h2 o (by simp) (hin _ hb)⟩
       ·intro j ad hj
        cases j with
        | zero =>
         simp at hj;subst hj
         exact ⟨v0,rfl,hone,_,_,rfl,rfl,rfl,rfl⟩
        | succ j =>
         obtain ⟨sv,h1,h2⟩:=har j ad (by simpa using hj)
         obtain ⟨v,h3,h4⟩:=hvs j sv h1;have h5:=h2 v h4
         rw [Nat.add_comm] at h5;exact ⟨v,by simpa using h3,oe (fun j'=>by have:=hmt j j';rwa [Nat.add_comm] at this) h5⟩
       ·rintro e0 w' ⟨v,ms',img,wG,rfl,haft,hml,hms,_,hret⟩
        refine ⟨v,rfl,?_⟩
        have hlt1:0<ms'.length:=by rw [hml];simp
        obtain ⟨_,k1,k2,k3,ob3,q4,k4,k5⟩:=hms 0 _ _ _ _ rfl (List.getElem?_eq_getElem hlt1) rfl rfl rfl;simp only [bK,and_self,if_true,Option.some.injEq,Prod.mk.injEq] at k4;obtain ⟨rfl,rfl⟩:=k4;have hrow':w'.ownsRow 0 ei 1 v0 r.length (r.map (.int k)):=by
         have:=k5.2
         rw [k1] at this;exact this
        have hval:∀E,ak C.P E (.c c) v:=fun E=>by
         have h1:=hret.val
         cases rc <;> simp only [eI,reduceCtorEq,Option.some.injEq] at hrc <;> subst hrc
         ·exact h1
         ·exact h1
        have hkeep:∀b,b∈(mu o).blocks→ab v0≠some b→w'.heap[b]?=w.heap[b]?:=fun b hb hne =>
         haft.block b ((h.ob o _ ho).block b hb) fun m hm hbm=>by
          simp at hm;subst hm
          exact hne (hsub b hbm)
        have hrl:(l.set i r).map List.length=l.map List.length:=by
         rw [List.map_set,hlen,hgd];apply List.ext_getElem?
         intro x
         rw [List.getElem?_set];split
         ·rename_i hx;subst hx;simp [hi']
         ·rfl
        refine h.setV hd ho [] (by simp) (m:=mu o) hval haft.os haft.tape haft.output haft.size (fun b hb hn=>haft.block b hb fun m hm hbm=>?_) (by simp [Ob.shp]) rfl (Nat.le_refl _) (fun _=>⟨rfl,hrl⟩) ⟨?_,by simp [q2],fun x u s hxx hs=>?_⟩ (h.nd o _ ho).1 (fun b hb=>.inl hb)
        ·simp at hm;subst hm
         exact hn (hin b hbm)
        ·rw [List.length_set]
         refine cK q1 fun b' hb'=>hkeep b' (bz hb') fun hc=>?_
         exact (gw (h.nd o _ ho).1).2 _ hb' (List.mem_filterMap.2 ⟨v0,List.mem_of_getElem? hins,hc⟩)
        ·rw [List.getElem?_set] at hs
         by_cases hix:i=x
         ·subst hix
          rw [if_pos rfl,if_pos hi'] at hs;cases hs;have hrv:u=v0:=Option.some.inj (hxx.symm.trans hins)
          subst hrv;exact hrow'
         ·rw [if_neg hix] at hs
          refine cK (q3 x u s hxx hs) fun b' hb'=>hkeep b' (gH hxx hb') fun hc=>?_
          exact rU (h.nd o _ ho).1 hins hxx hix hc hb'
      ·simp [Rd.run] at hr3
     ·simp [Rd.run] at hr3
    ·simp [Rd.run] at hr3
   ·simp [Rd.run] at hr2
  ·simp [Rd.run] at hr2
 ·simp [Rd.run] at hr
theorem OU {Γ:FuncId→Option Ctr} (hΓ:cB C.P Γ) {f:FuncId} {o ver:Nat} {p:List Nat} {svs:List SV} {ts:List TypeId} {eff:Eff} (hr:(yi C.P Γ f o ver p svs ts).run σ=some eff) (hob:eff.obl) (h:St C σ mu a w)
  {v0:Value} (hv0:ac (σ.env C.wF mu) (.kid o ver p) v0)
  {vs:List Value} (hvl:vs.length=svs.length) (hvs:∀(i:Nat) (sv:SV),svs[i]?=some sv→∃v,vs[i]?=some v∧ak C.P (σ.env C.wF mu) sv v) {dst:Option Nat} (hd:∀d,dst=some d→d<C.N) :
  (∃fn,C.P.funcs[f]?=some fn∧fn.body.isSome=true∧(fn.name == "runtime.NumGoroutine")=false) ∧
  Calls C.P f (v0::vs).toArray w fun e w'=>∃v,e=.returned v∧aq C (σ.app dst eff) (a.put dst v) w':=by
 unfold yi at hr;split at hr
 ·rename_i ct hct
  have hf:=hΓ f _ hct
  refine ⟨hf.fn,?_⟩
  obtain ⟨ob,ho,hr2⟩:=aG hr;clear hr;split at hr2
  ·rename_i ver' es d
   split at hr2
   ·rename_i hver
    have hver:=Nat.eq_of_beq_eq_true hver
    subst hver;split at hr2
    ·rename_i x hx1
     have hw:=gQ h [o] (fun x hx=>by simp at hx;subst hx;exact ⟨_,ho⟩)
     have hmt:∀y j,bh [(0,0)] (1+y) j=none:=fun y j=>by
      simp only [bh];rw [if_neg (by omega)]
      rfl
     obtain ⟨ads,hr3,hal,har⟩:=kO hΓ h hw svs 1 ts _ _ (fun y sv _ x j hx=>by rw [hmt y j] at hx;cases hx) hr2
     split at hr3
     ·rename_i pre rc es' x' hpost
      split at hr3
      ·rename_i c hrc
       split at hr3
       ·rename_i hes
        have hes0:=g8 hes
        subst hes0;split at hr3
        ·rename_i d' hp
         simp only [Rd.run,Option.some.injEq] at hr3;subst hr3;obtain ⟨Yh,hlen⟩:pre∧x'.len=x.len:=hob;obtain ⟨_,hx⟩:=az ho hv0;obtain ⟨nd,u,q1,q2,rfl⟩:=hx rfl;obtain ⟨hm,hT,x0,k1,k2,k3⟩:=jv (h.ob o _ ho) q1 q2;rw [hx1] at k1;cases k1;have Bu:=dH k2
         have Bm:(mu o).blocks=aN es.length nd:=by rw [hm];exact dH hT
         have hnd:=(h.nd o _ ho).1
         have hndu:=rZ hT (by rw [←Bm];exact hnd) q2
         have hwr:bK (.tr 0 (es.drop p.length) x) (.tr (es.drop p.length) x')=some (.tr 0 (es.drop p.length) x',x'.len=x.len):=by simp only [bK,hes]
         refine (hf.run w (gx w ([o].flatMap fun o=>(mu o).blocks)) (ay u::vs) (.c x::ads) ⟨pre,.c rc,[.tr (es.drop p.length) x']⟩ [dm (es.drop p.length).length u] [.tr 0 (es.drop p.length) x] hpost Yh (by simp [hvl,hal]) rfl rfl rfl ?_ ?_ ?_ ?_ ?_).mono ?_
         ·intro y m ob hx hox
          cases y with
          | zero=>simp at hx hox;subst hx;subst hox;exact ⟨⟨u,by rw [List.length_drop],k2⟩,by rw [←List.length_drop,Bu];exact hndu⟩
          | succ x=>simp at hx
         ·intro y y' m m' hne hx hx'
          cases y with
          | zero =>
           cases y' with
           | zero=>exact absurd rfl hne
           | succ x'=>simp at hx'
          | succ x=>simp at hx
         ·intro y ob rc' hx hrc'
          cases y with
          | zero =>
           simp at hx hrc';subst hx;subst hrc'
           exact ⟨_,_,hwr,hlen⟩
          | succ x=>simp at hx
         ·intro q u' hp'
          obtain ⟨h1,h2⟩:=hw.kept q u' hp';exact ⟨h1,fun m hm' hb=>by
           simp only [List.mem_singleton] at hm';subst hm';rw [Bu] at hb;exact h2 o (by simp) (k3 _ hb)⟩
         ·intro j ad hj
          cases j with
          | zero =>
           simp at hj;subst hj
           exact ⟨ay u,rfl,k2.one,_,_,rfl,rfl,rfl,rfl⟩
          | succ j =>
           obtain ⟨sv,h1,h2⟩:=har j ad (by simpa using hj)
           obtain ⟨v,h3,h4⟩:=hvs j sv h1;have h5:=h2 v h4
           rw [Nat.add_comm] at h5;exact ⟨v,by simpa using h3,oe (fun j'=>by have:=hmt j j';rwa [Nat.add_comm] at this) h5⟩
         ·rintro e0 w' ⟨v,ms',img,wG,rfl,haft,hml,hms,_,hret⟩
          refine ⟨v,rfl,?_⟩
          have hlt1:0<ms'.length:=by rw [hml];simp
          obtain ⟨z1,z2,z3,z4,ob3,q4,z5,z6⟩:=hms 0 _ _ _ _ rfl (List.getElem?_eq_getElem hlt1) rfl rfl rfl;rw [hwr] at z5;simp only [Option.some.injEq,Prod.mk.injEq] at z5;obtain ⟨rfl,rfl⟩:=z5;rw [z1] at z6;obtain ⟨nd2,z7,z8⟩:=z6;have hnd2:u=nd2:=by
           have:=congrArg (fun m:Img=>m.ins.head?) z7
           simpa [dm] using this
          subst hnd2;have hval:∀E,ak C.P E (.c c) v:=fun E=>by
           have h1:=hret.val
           cases rc <;> simp only [eI,reduceCtorEq,Option.some.injEq] at hrc <;> subst hrc
           ·exact h1
           ·exact h1
          have hin:∀b,(∀m∈[dm (es.drop p.length).length u],b ∉ m.blocks)↔b ∉ aN (es.drop p.length).length u:=fun b=>by
           simp only [List.mem_singleton,forall_eq,Bu]
          obtain ⟨r1,_,_,_⟩:=qS (w':=w') (u':=u) hT (by rw [←Bm];exact hnd) q2 hp rfl (fun b hb hbn=>haft.block b (hT.block b hb) ((hin b).2 hbn)) z8 hndu (fun b hb=>.inl hb)
          rw [za hT q2] at r1;exact h.setV hd ho [] (by simp) (m:=mu o) hval haft.os haft.tape haft.output haft.size (fun b hb hn=>haft.block b hb ((hin b).2 fun hc=>hn (k3 b hc))) (zb hx1 hp hlen) rfl (Nat.le_refl _) (fun _=>⟨rfl,rfl⟩) ⟨nd,hm,r1⟩ hnd (fun b hb=>.inl hb)
        ·simp [Rd.run] at hr3
       ·simp [Rd.run] at hr3
      ·simp [Rd.run] at hr3
     ·simp [Rd.run] at hr3
    ·simp [Rd.run] at hr2
   ·simp [Rd.run] at hr2
  ·simp [Rd.run] at hr2
 ·simp [Rd.run] at hr
theorem OW {Γ:FuncId→Option Ctr} (hΓ:cB C.P Γ) {f:FuncId} {o off n:Nat} {svs:List SV} {ts:List TypeId} {eff:Eff} (hr:(yj C.P Γ f o off n svs ts).run σ=some eff) (hob:eff.obl) (h:St C σ mu a w)
  {v0:Value} (hv0:ac (σ.env C.wF mu) (.sub o off n) v0)
  {vs:List Value} (hvl:vs.length=svs.length) (hvs:∀(i:Nat) (sv:SV),svs[i]?=some sv→∃v,vs[i]?=some v∧ak C.P (σ.env C.wF mu) sv v) {dst:Option Nat} (hd:∀d,dst=some d→d<C.N) :
  (∃fn,C.P.funcs[f]?=some fn∧fn.body.isSome=true∧(fn.name == "runtime.NumGoroutine")=false) ∧
  Calls C.P f (v0::vs).toArray w fun e w'=>∃v,e=.returned v∧aq C (σ.app dst eff) (a.put dst v) w':=by
 unfold yj at hr;split at hr
 ·rename_i ct hct
  have hf:=hΓ f _ hct
  refine ⟨hf.fn,?_⟩
  obtain ⟨ob,ho,hr2⟩:=aG hr;clear hr;split at hr2
  ·rename_i ver e ei k l
   have hw:=gQ h [o] (fun x hx=>by simp at hx;subst hx;exact ⟨_,ho⟩)
   have hmt:∀y j,bh [(0,0)] (1+y) j=none:=fun y j=>by
    simp only [bh];rw [if_neg (by omega)]
    rfl
   obtain ⟨ads,hr3,hal,har⟩:=kO hΓ h hw svs 1 ts _ _ (fun y sv _ x j hx=>by rw [hmt y j] at hx;cases hx) hr2
   split at hr3
   ·rename_i pre rc e' ei' k' l' hpost
    split at hr3
    ·rename_i c hrc
     split at hr3
     ·rename_i hek
      obtain ⟨rfl,rfl,rfl⟩:=hek;simp only [Rd.run,Option.some.injEq] at hr3;subst hr3;obtain ⟨Yh,hlen⟩:pre∧l'.map List.length=l.map List.length:=hob;have hx:=az ho hv0
      obtain ⟨hi,hview⟩:=hx;have hview:bX (mu o).hd off n v0:=hview
      have hi':off+n≤l.length:=hi
      have hll:l'.length=l.length:=by
       have:=congrArg List.length hlen
       simpa using this
      have q:=h.ob o _ ho
      have hnd0:=(h.nd o _ ho).1
      have hone:v0.oneCell'=true:=hv0.1
      have hhd:(mu o).hd.oneCell'=true:=by
       rcases hview with ⟨h1,_⟩ | ⟨g,len,cap,ao,h1,_⟩ <;> rw [h1] <;> rfl
      have hwr:bK (.rows ver e ei k l) (.rows e ei k l')=some (.rows ver e ei k l',l'.map List.length=l.map List.length):=by simp only [bK,and_self,if_true]
      refine (hf.run w (gx w ([o].flatMap fun o=>(mu o).blocks)) (v0::vs) (.cut off n (.rows k l)::ads) ⟨pre,.c rc,[.rows e ei k l']⟩ [mu o] [.rows ver e ei k l] hpost Yh (by simp [hvl,hal]) rfl rfl rfl ?_ ?_ ?_ ?_ ?_).mono ?_
      ·intro x m ob hx hox
       cases x with
       | zero=>simp at hx hox;subst hx;subst hox;exact ⟨q,hnd0⟩
       | succ x=>simp at hx
      ·intro x x' m m' hne hx hx'
       cases x with
       | zero =>
        cases x' with
        | zero=>exact absurd rfl hne
        | succ x'=>simp at hx'
       | succ x=>simp at hx
      ·intro x ob rc' hx hrc'
       cases x with
       | zero =>
        simp at hx hrc';subst hx;subst hrc'
        exact ⟨_,_,hwr,hlen⟩
       | succ x=>simp at hx
      ·intro p u hp
       obtain ⟨h1,h2⟩:=hw.kept p u hp;exact ⟨h1,fun m hm hb=>by
        simp at hm;subst hm
        exact h2 o (by simp) hb⟩
      ·intro j ad hj
       cases j with
       | zero =>
        simp at hj;subst hj
        exact ⟨v0,rfl,mu o,_,rfl,rfl,rfl,hi',hview,hone,hhd⟩
       | succ j =>
        obtain ⟨sv,h1,h2⟩:=har j ad (by simpa using hj)
        obtain ⟨v,h3,h4⟩:=hvs j sv h1;have h5:=h2 v h4
        rw [Nat.add_comm] at h5;exact ⟨v,by simpa using h3,oe (fun j'=>by have:=hmt j j';rwa [Nat.add_comm] at this) h5⟩
      ·rintro e0 w' ⟨v,ms',img,wG,rfl,haft,hml,hms,_,hret⟩
       refine ⟨v,rfl,?_⟩
       have hlt1:0<ms'.length:=by rw [hml];simp
       obtain ⟨k0,k1,k2,k3,ob3,q4,k4,k5⟩:=hms 0 _ _ _ _ rfl (List.getElem?_eq_getElem hlt1) rfl rfl rfl;rw [hwr] at k4;simp only [Option.some.injEq,Prod.mk.injEq] at k4;obtain ⟨rfl,rfl⟩:=k4;rw [k0] at k5;have hval:∀E,ak C.P E (.c c) v:=fun E=>by
        have h1:=hret.val
        cases rc <;> simp only [eI,reduceCtorEq,Option.some.injEq] at hrc <;> subst hrc
        ·exact h1
        ·exact h1
       exact h.setV hd ho [] (by simp) (m:=mu o) hval haft.os haft.tape haft.output haft.size (fun b hb hn=>haft.block b hb fun m hm hbm=>hn (by simp at hm;subst hm;exact hbm)) hll rfl (Nat.le_refl _) (fun _=>⟨rfl,hlen⟩) k5 hnd0 (fun b hb=>.inl hb)
     ·simp [Rd.run] at hr3
    ·simp [Rd.run] at hr3
   ·simp [Rd.run] at hr3
  ·simp [Rd.run] at hr2
 ·simp [Rd.run] at hr
theorem OX {Γ:FuncId→Option Ctr} (hΓ:cB C.P Γ) {f:FuncId} {k0:IntKind} {n0:Int} {o ver i:Nat} {svs:List SV} {ts:List TypeId} {eff:Eff} (hr:(yk C.P Γ f k0 n0 o ver i svs ts).run σ=some eff) (hob:eff.obl) (h:St C σ mu a w)
  {v0:Value} (hv0:ac (σ.env C.wF mu) (.row o ver i) v0)
  {vs:List Value} (hvl:vs.length=svs.length) (hvs:∀(i:Nat) (sv:SV),svs[i]?=some sv→∃v,vs[i]?=some v∧ak C.P (σ.env C.wF mu) sv v) {dst:Option Nat} (hd:∀d,dst=some d→d<C.N) :
  (∃fn,C.P.funcs[f]?=some fn∧fn.body.isSome=true∧(fn.name == "runtime.NumGoroutine")=false) ∧
  Calls C.P f (.int k0 n0::v0::vs).toArray w fun e w'=>∃v,e=.returned v∧aq C (σ.app dst eff) (a.put dst v) w':=by
 unfold yk at hr;split at hr
 ·rename_i ct hct
  have hf:=hΓ f _ hct
  refine ⟨hf.fn,?_⟩
  obtain ⟨ob,ho,hr2⟩:=aG hr;clear hr;split at hr2
  ·rename_i ver' e ei k l
   split at hr2
   ·rename_i hver
    have hver:=Nat.eq_of_beq_eq_true hver
    subst hver;have hw:=gQ h [o] (fun x hx=>by simp at hx;subst hx;exact ⟨_,ho⟩)
    have hmt:∀y j,bh [(1,0)] (2+y) j=none:=fun y j=>by
     simp only [bh];rw [if_neg (by omega)]
     rfl
    obtain ⟨ads,hr3,hal,har⟩:=kO hΓ h hw svs 2 ts _ _ (fun y sv _ x j hx=>by rw [hmt y j] at hx;cases hx) hr2
    split at hr3
    ·rename_i pre rv e' k' r hpost
     split at hr3
     ·split at hr3
      ·rename_i hek
       obtain ⟨rfl,rfl⟩:=hek;simp only [Rd.run,Option.some.injEq] at hr3;subst hr3;obtain ⟨Yh,hlen⟩:pre∧r.length=(l.getD i []).length:=hob;have hx:=az ho hv0
       obtain ⟨hins,hi⟩:=hx.2 rfl;have hi':i<l.length:=hi
       obtain ⟨q1,q2,q3⟩:=h.ob o _ ho;have hgd:l.getD i []=l[i]:=by simp [List.getD,hi']
       have hrow:=q3 i v0 _ hins (List.getElem?_eq_getElem hi')
       rw [←hgd] at hrow;have hsub:∀b∈(⟨v0,[]⟩:Img).blocks,ab v0=some b:=fun b hb=>by
        simpa [Img.blocks] using hb
       have hin:∀b∈(⟨v0,[]⟩:Img).blocks,b∈(mu o).blocks:=fun b hb=>gH hins (hsub b hb)
       have hnd0:(⟨v0,[]⟩:Img).blocks.Nodup:=by
        simp only [Img.blocks,List.filterMap_nil,List.append_nil];cases ab v0 <;> simp
       have hone:v0.oneCell'=true:=hv0.1
       refine (hf.run w (gx w ([o].flatMap fun o=>(mu o).blocks)) (.int k0 n0::v0::vs) (.c (.int k0 n0)::.c (.ints k (l.getD i []))::ads) ⟨pre,.tup [],[.ints ei k r]⟩ [⟨v0,[]⟩] [.ints ei k (l.getD i [])] hpost Yh (by simp [hvl,hal]) rfl rfl rfl ?_ ?_ ?_ ?_ ?_).mono ?_
       ·intro x m ob hx hox
        cases x with
        | zero=>simp at hx hox;subst hx;subst hox;exact ⟨⟨rfl,hrow⟩,hnd0⟩
        | succ x=>simp at hx
       ·intro x x' m m' hne hx hx'
        cases x with
        | zero =>
         cases x' with
         | zero=>exact absurd rfl hne
         | succ x'=>simp at hx'
        | succ x=>simp at hx
       ·intro x ob rc' hx hrc'
        cases x with
        | zero =>
         simp at hx hrc';subst hx;subst hrc'
         exact ⟨.ints ei k r,r.length=(l.getD i []).length,by simp only [bK,and_self,if_true];rfl,hlen⟩
        | succ x=>simp at hx
       ·intro p u hp
        obtain ⟨h1,h2⟩:=hw.kept p u hp;exact ⟨h1,fun m hm hb=>by
         simp at hm;subst hm
         exact h2 o (by simp) (hin _ hb)⟩
       ·intro j ad hj
        match j,hj with
        | 0,hj =>
         simp at hj;subst hj
         exact ⟨.int k0 n0,rfl,rfl,rfl⟩
        | 1,hj =>
         simp at hj;subst hj
         exact ⟨v0,rfl,hone,_,_,rfl,rfl,rfl,rfl⟩
        | j+2,hj =>
         obtain ⟨sv,h1,h2⟩:=har j ad (by simpa using hj)
         obtain ⟨v,h3,h4⟩:=hvs j sv h1;have h5:=h2 v h4
         rw [Nat.add_comm] at h5;exact ⟨v,by simpa using h3,oe (fun j'=>by have:=hmt j j';rwa [Nat.add_comm] at this) h5⟩
       ·rintro e0 w' ⟨v,ms',img,wG,rfl,haft,hml,hms,_,hret⟩
        refine ⟨v,rfl,?_⟩
        have hlt1:0<ms'.length:=by rw [hml];simp
        obtain ⟨_,k1,k2,k3,ob3,q4,k4,k5⟩:=hms 0 _ _ _ _ rfl (List.getElem?_eq_getElem hlt1) rfl rfl rfl;simp only [bK,and_self,if_true,Option.some.injEq,Prod.mk.injEq] at k4;obtain ⟨rfl,rfl⟩:=k4;have hrow':w'.ownsRow 0 ei 1 v0 r.length (r.map (.int k)):=by
         have:=k5.2
         rw [k1] at this;exact this
        have hval:∀E,ak C.P E (.tup []) v:=fun E=>by
         obtain ⟨arr,h1,h2,_⟩:=hret.val;exact ⟨arr,h1,h2,fun i c hi=>by simp at hi⟩
        have hkeep:∀b,b∈(mu o).blocks→ab v0≠some b→w'.heap[b]?=w.heap[b]?:=fun b hb hne =>
         haft.block b ((h.ob o _ ho).block b hb) fun m hm hbm=>by
          simp at hm;subst hm
          exact hne (hsub b hbm)
        have hrl:(l.set i r).map List.length=l.map List.length:=by
         rw [List.map_set,hlen,hgd];apply List.ext_getElem?
         intro x
         rw [List.getElem?_set];split
         ·rename_i hx;subst hx;simp [hi']
         ·rfl
        refine h.setV hd ho [] (by simp) (m:=mu o) hval haft.os haft.tape haft.output haft.size (fun b hb hn=>haft.block b hb fun m hm hbm=>?_) (by simp [Ob.shp]) rfl (Nat.le_refl _) (fun _=>⟨rfl,hrl⟩) ⟨?_,by simp [q2],fun x u s hxx hs=>?_⟩ (h.nd o _ ho).1 (fun b hb=>.inl hb)
        ·simp at hm;subst hm
         exact hn (hin b hbm)
        ·rw [List.length_set]
         refine cK q1 fun b' hb'=>hkeep b' (bz hb') fun hc=>?_
         exact (gw (h.nd o _ ho).1).2 _ hb' (List.mem_filterMap.2 ⟨v0,List.mem_of_getElem? hins,hc⟩)
        ·rw [List.getElem?_set] at hs
         by_cases hix:i=x
         ·subst hix
          rw [if_pos rfl,if_pos hi'] at hs;cases hs;have hrv:u=v0:=Option.some.inj (hxx.symm.trans hins)
          subst hrv;exact hrow'
         ·rw [if_neg hix] at hs
          refine cK (q3 x u s hxx hs) fun b' hb'=>hkeep b' (gH hxx hb') fun hc=>?_
          exact rU (h.nd o _ ho).1 hins hxx hix hc hb'
      ·simp [Rd.run] at hr3
     ·simp [Rd.run] at hr3
    ·simp [Rd.run] at hr3
   ·simp [Rd.run] at hr2
  ·simp [Rd.run] at hr2
 ·simp [Rd.run] at hr
theorem OY {Γ:FuncId→Option Ctr} (hΓ:cB C.P Γ) {f:FuncId} {svs:List SV} {eff:Eff} (hm:yz (Γ f)=true) (hr:(yA (Γ f) svs).run σ=some eff) (hob:eff.obl) (h:St C σ mu a w)
  {vs:List Value} (hvl:vs.length=svs.length) (hvs:∀(i:Nat) (sv:SV),svs[i]?=some sv→∃v,vs[i]?=some v∧ak C.P (σ.env C.wF mu) sv v) {dst:Option Nat} (hd:∀d,dst=some d→d<C.N) :
  (∃fn,C.P.funcs[f]?=some fn∧fn.body.isSome=true∧(fn.name == "runtime.NumGoroutine")=false) ∧
  Calls C.P f vs.toArray w fun e w'=>∃v,e=.returned v∧aq C (σ.app dst eff) (a.put dst v) w':=by
 unfold yz at hm;split at hm
 ·rename_i ct hct
  have hf:=hΓ f _ hct
  refine ⟨hf.fn,?_⟩
  unfold yA at hr;rw [hct] at hr;simp only at hr;split at hr
  ·rename_i o g
   obtain ⟨ob,ho,hr2⟩:=aG hr;clear hr;split at hr2
   ·rename_i ver e ei l
    split at hr2
    ·rename_i pre g' x l' ws hpost
     split at hr2
     ·rename_i hg
      have hg:=Nat.eq_of_beq_eq_true hg
      subst hg;simp only [Rd.run,Option.some.injEq] at hr2;subst hr2;obtain ⟨Yh,hlen⟩:pre∧l'.length=l.length:=hob;obtain ⟨v0,e0,r0⟩:=hvs 0 _ rfl;obtain ⟨v1,e1,r1⟩:=hvs 1 _ rfl;have hv0:v0=(mu o).hd:=az ho r0
      obtain ⟨arr,hv1,harr⟩:=r1;have harr0:arr=#[]:=Array.eq_empty_of_size_eq_zero harr.1
      subst harr0;have hvs':vs=[v0,v1]:=by
       match vs,hvl,e0,e1 with
       | [a,b],_,e0,e1=>simp at e0 e1;subst e0;subst e1;rfl
      subst hvs';subst hv1;obtain ⟨q1,q2,q3⟩:=h.ob o _ ho;have hnd:=(h.nd o _ ho).1
      refine Calls.mono ((hf.so rfl).1 l pre g' x l' ws hpost Yh w e ei v0 (mu o).ins (by rw [hv0];exact q1) q2 (fun i u r hi hr=>q3 i u r hi hr) (by rw [hv0];exact hnd)) ?_
      rintro r w' ⟨rfl,ins',k1,k2,k3,k4,k5,k6,k7,k8,k9⟩
      refine ⟨_,rfl,?_⟩
      have hperm:(⟨(mu o).hd,ins'⟩:Img).blocks.Perm (mu o).blocks:=by
       unfold Img.blocks;exact List.Perm.append_left _ (k4.filterMap _)
      refine h.setV hd ho [] (by simp) (m:=⟨(mu o).hd,ins'⟩) (fun E=>⟨#[],rfl,rfl,fun i c hi=>by simp at hi⟩) k5 k6 k7 k8 (fun b hb hn=>k9 b hb fun hc=>hn (bz (by rw [←hv0];exact hc))) hlen rfl (Nat.le_succ _) (fun hv=>by have:ver+1=ver:=hv;omega)
       ⟨by rw [←hv0];exact k1,k2,fun i u r hi hr=>?_⟩ (hperm.nodup_iff.2 hnd) (fun b hb=>.inl (hperm.mem_iff.1 hb))
      have hmem:u∈(mu o).ins:=k4.mem_iff.1 (List.mem_of_getElem? hi)
      obtain ⟨y,hy⟩:=List.getElem?_of_mem hmem;refine cK (k3 i u r hi hr) fun b hb=>k9 b ((h.ob o _ ho).block b (gH hy hb)) fun hc=>?_
      rw [hv0] at hc;exact (gw hnd).2 _ hc (List.mem_filterMap.2 ⟨u,hmem,hb⟩)
     ·simp [Rd.run] at hr2
    ·simp [Rd.run] at hr2
   ·rename_i ver e e2 e3 l
    split at hr2
    ·rename_i pre g' l' ws hpost
     split at hr2
     ·rename_i hg
      have hg:=Nat.eq_of_beq_eq_true hg
      subst hg;simp only [Rd.run,Option.some.injEq] at hr2;subst hr2;obtain ⟨Yh,hlen⟩:pre∧l'.length=l.length:=hob;obtain ⟨v0,e0,r0⟩:=hvs 0 _ rfl;obtain ⟨v1,e1,r1⟩:=hvs 1 _ rfl;have hv0:v0=(mu o).hd:=az ho r0
      obtain ⟨arr,hv1,harr⟩:=r1;have harr0:arr=#[]:=Array.eq_empty_of_size_eq_zero harr.1
      subst harr0;have hvs':vs=[v0,v1]:=by
       match vs,hvl,e0,e1 with
       | [a,b],_,e0,e1=>simp at e0 e1;subst e0;subst e1;rfl
      subst hvs';subst hv1;obtain ⟨nd,q1,q2⟩:=h.ob o _ ho;have hnd:=(h.nd o _ ho).1
      have q1:mu o=dm 3 nd:=q1
      have hbk:(mu o).blocks=aN 3 nd:=by rw [q1];exact dH q2
      have hhd:(mu o).hd=ay nd:=by rw [q1];rfl
      have hHd:∀ks',ay (bp (ay nd) ks')=ay nd:=fun ks'=>rfl
      have hKs:∀ks',aU (bp (ay nd) ks')=ks':=fun ks'=>rfl
      refine Calls.mono (by rw [hv0,hhd];exact (hf.so rfl).2 l pre g' l' ws hpost Yh w e e2 e3 nd q2 (by rw [←hbk];exact hnd)) ?_
      rintro r w' ⟨rfl,ks',k1,k4,k5,k6,k7,k8,k9⟩
      refine ⟨_,rfl,?_⟩
      have hperm:(dm 3 (bp (ay nd) ks')).blocks.Perm (mu o).blocks:=by
       have hb2:(dm 3 (bp (ay nd) ks')).blocks=aN 3 (bp (ay nd) ks'):=dH k1
       rw [hb2,hbk,dn,dn,hHd,hKs];exact List.Perm.append_left _ (k4.flatMap_right _)
      refine h.setV hd ho [] (by simp) (m:=dm 3 (bp (ay nd) ks')) (fun E=>⟨#[],rfl,rfl,fun i c hi=>by simp at hi⟩) k5 k6 k7 k8 (fun b hb hn=>k9 b hb fun hc=>hn (bz (by rw [hhd];exact hc))) hlen (by rw [hhd];rfl) (Nat.le_succ _) (fun hv=>by have:ver+1=ver:=hv;omega)
       ⟨_,rfl,k1⟩ (hperm.nodup_iff.2 hnd) (fun b hb=>.inl (hperm.mem_iff.1 hb))
     ·simp [Rd.run] at hr2
    ·simp [Rd.run] at hr2
   ·simp [Rd.run] at hr2
  ·simp [Rd.run] at hr
 ·cases hm
theorem OZ {Γ:FuncId→Option Ctr} (hΓ:cB C.P Γ) {f:FuncId} {svs:List SV} {eff:Eff} (hm:yB (Γ f)=true) (hr:(yC (Γ f) svs).run σ=some eff) (hob:eff.obl) (h:St C σ mu a w)
  {vs:List Value} (hvl:vs.length=svs.length) (hvs:∀(i:Nat) (sv:SV),svs[i]?=some sv→∃v,vs[i]?=some v∧ak C.P (σ.env C.wF mu) sv v) {dst:Option Nat} (hd:∀d,dst=some d→d<C.N) :
  (∃fn,C.P.funcs[f]?=some fn∧fn.body.isSome=true∧(fn.name == "runtime.NumGoroutine")=false) ∧
  Calls C.P f vs.toArray w fun e w'=>∃v,e=.returned v∧aq C (σ.app dst eff) (a.put dst v) w':=by
 unfold yB at hm;split at hm
 ·rename_i ct hct
  have hf:=hΓ f _ hct
  refine ⟨hf.fn,?_⟩
  unfold yC at hr;rw [hct] at hr;simp only at hr;split at hr
  ·rename_i o off n g
   obtain ⟨ob,ho,hr2⟩:=aG hr;clear hr;split at hr2
   ·rename_i ver e ei l
    split at hr2
    ·rename_i pre g' x k ws hpost
     split at hr2
     ·rename_i hg
      have hg:=Nat.eq_of_beq_eq_true hg
      subst hg;simp only [Rd.run,Option.some.injEq] at hr2;subst hr2;have Yh:pre:=hob
      obtain ⟨v0,e0,r0⟩:=hvs 0 _ rfl;obtain ⟨v1,e1,r1⟩:=hvs 1 _ rfl;obtain ⟨hle,hview⟩:=az ho r0;have hle:off+n≤l.length:=hle
      obtain ⟨arr,hv1,harr⟩:=r1;have harr0:arr=#[]:=Array.eq_empty_of_size_eq_zero harr.1
      subst harr0;have hvs':vs=[v0,v1]:=by
       match vs,hvl,e0,e1 with
       | [a,b],_,e0,e1=>simp at e0 e1;subst e0;subst e1;rfl
      subst hvs';subst hv1;obtain ⟨q1,q2,q3⟩:=h.ob o _ ho;have hnd:=(h.nd o _ ho).1
      obtain ⟨kn,cut⟩:=hf.df rfl l off n pre g' x k ws hpost Yh;refine Calls.mono (cut w e ei (mu o).hd v0 (mu o).ins q1 q2 (fun i u r hi hr=>q3 i u r hi hr) hnd hle hview) ?_
      rintro r w' ⟨v2,rfl,one,view,ins',k1,k2,k3,k4,k5,k6,k7,k8,k9,k10⟩
      refine ⟨v2,rfl,?_⟩
      have ll:(l.take (off+k.length)++List.replicate (n - k.length) []++l.drop (off+n)).length=l.length:=by
       simp only [List.length_append,List.length_take,List.length_replicate,List.length_drop];omega
      refine h.setVE hd ho [] (by simp) (m:=⟨(mu o).hd,ins'⟩) (fun E hE hmu=>⟨one,?_⟩) k6 k7 k8 k9 (fun b hb hn=>k10 b hb fun hc=>hn (bz hc)) ll rfl (Nat.le_succ _) (fun hv=>by have:ver+1=ver:=hv;omega)
       ⟨by rw [ll];exact k1,by rw [ll];exact k2,fun i u r hi hr=>?_⟩ k4 (fun b hb=>.inl (k5 b hb))
      ·rw [hE]
       show off+k.length≤_∧bX (E.mu o).hd off k.length v2
       rw [hmu];exact ⟨by show off+k.length≤(l.take (off+k.length)++List.replicate (n - k.length) []++l.drop (off+n)).length;omega,view⟩
      ·have hin:∀b,ab u=some b→b∈(⟨(mu o).hd,ins'⟩:Img).blocks:=fun b hb=>gH hi hb
       refine cK (k3 i u r hi hr) fun b hb=>k10 b ((h.ob o _ ho).block b (k5 b (hin b hb))) fun hc=>?_
       exact (gw k4).2 _ hc (List.mem_filterMap.2 ⟨u,List.mem_of_getElem? hi,hb⟩)
     ·simp [Rd.run] at hr2
    ·simp [Rd.run] at hr2
   ·simp [Rd.run] at hr2
  ·simp [Rd.run] at hr
 ·cases hm
theorem O0 {Γ:FuncId→Option Ctr} (hΓ:cB C.P Γ) {d:Nat} {f:FuncId} {svs:List SV} {eff:Eff} (hm:yD (Γ f)=true) (hr:(yE d svs).run σ=some eff) (hob:eff.obl) (h:St C σ mu a w)
  {vs:List Value} (hvl:vs.length=svs.length) (hvs:∀(i:Nat) (sv:SV),svs[i]?=some sv→∃v,vs[i]?=some v∧ak C.P (σ.env C.wF mu) sv v) {dst:Option Nat} (hd:∀d,dst=some d→d<C.N) :
  (∃fn,C.P.funcs[f]?=some fn∧fn.body.isSome=true∧(fn.name == "runtime.NumGoroutine")=false) ∧
  Calls C.P f vs.toArray w fun e w'=>∃v,e=.returned v∧aq C (σ.app dst eff) (a.put dst v) w':=by
 unfold yD at hm;split at hm
 ·rename_i ct hct
  have hf:=hΓ f _ hct
  refine ⟨hf.fn,?_⟩
  have hdel:=hf.mv rfl
  unfold yE at hr;split at hr
  ·rename_i o i j
   obtain ⟨ob,ho,hr2⟩:=aG hr;clear hr;split at hr2
   ·rename_i e l
    obtain ⟨Yj,hr3⟩:=bD hr2;simp only [Rd.run,Option.some.injEq] at hr3;subst hr3;obtain ⟨h0,hij,hjl⟩:0≤i∧i<j∧j≤(l.length:Int):=hob;obtain ⟨v0,e0,r0⟩:=hvs 0 _ rfl;obtain ⟨v1,e1,r1⟩:=hvs 1 _ rfl;obtain ⟨v2,e2,r2⟩:=hvs 2 _ rfl;have hv0:v0=(mu o).hd:=az ho r0
    have hv1:v1=.int .i64 i:=r1
    have hv2:v2=.int .i64 j:=r2
    have hvs':vs=[v0,v1,v2]:=by
     match vs,hvl,e0,e1,e2 with
     | [a,b,c],_,e0,e1,e2=>simp at e0 e1 e2;subst e0;subst e1;subst e2;rfl
    subst hvs';obtain ⟨q1,q2⟩:=h.ob o _ ho;have:=hdel w e v0 l i.toNat j.toNat (by rw [hv0];exact q2) (by omega) (by omega)
    rw [show ((i.toNat:Nat):Int)=i by omega,show ((j.toNat:Nat):Int)=j by omega] at this
    subst hv1;subst hv2;refine Calls.mono this ?_
    rintro r w' ⟨v',rfl,k1,k2,k3,k4,k5,k6,k7⟩
    refine ⟨v',rfl,?_⟩
    refine h.move hd Yj [o] (fun o' ho'=>by simp at ho';subst ho';exact ⟨_,ho⟩) (m:=⟨v',[]⟩) k3 k4 k5 (by omega) ?_ ⟨rfl,k1⟩ ?_ ?_ rfl (d5 k1)
    ·intro b _ hk
     refine k7 b fun hc=>hk o (by simp) (bz (by rw [←hv0];exact hc))
    ·simp only [Img.blocks,List.filterMap_nil,List.append_nil]
     cases ab v' <;> simp
    ·intro b hb
     simp only [Img.blocks,List.filterMap_nil,List.append_nil,Option.mem_toList] at hb;rw [k2] at hb;exact .inl ⟨o,by simp,bz (by rw [←hv0];exact hb)⟩
   ·simp [Rd.run] at hr2
  ·simp [Rd.run] at hr
 ·cases hm
theorem O5 {Γ:FuncId→Option Ctr} (hΓ:cB C.P Γ) {d:Nat} {f:FuncId} {e:TypeId} {svs:List SV} {eff:Eff} (hm:yF (Γ f)=some e) (hr:(yG d e svs).run σ=some eff) (hob:eff.obl) (h:St C σ mu a w)
  {vs:List Value} (hvl:vs.length=svs.length) (hvs:∀(i:Nat) (sv:SV),svs[i]?=some sv→∃v,vs[i]?=some v∧ak C.P (σ.env C.wF mu) sv v) {dst:Option Nat} (hd:∀d,dst=some d→d<C.N) :
  (∃fn,C.P.funcs[f]?=some fn∧fn.body.isSome=true∧(fn.name == "runtime.NumGoroutine")=false) ∧
  Calls C.P f vs.toArray w fun r w'=>∃v,r=.returned v∧aq C (σ.app dst eff) (a.put dst v) w':=by
 unfold yF at hm;split at hm
 ·rename_i ct hct
  split at hm
  ·rename_i q e' ws hct2
   cases hm;have hf:=hΓ f _ hct
   refine ⟨hf.fn,?_⟩
   have hgr:=hf.gr rfl q e ws hct2
   unfold yG at hr;split at hr
   ·rename_i n
    obtain ⟨Yj,hr3⟩:=bD hr;simp only [Rd.run,Option.some.injEq] at hr3;subst hr3;obtain ⟨h0,hn⟩:0≤n∧n≤1099511627776:=hob;obtain ⟨v0,e0,r0⟩:=hvs 0 _ rfl;obtain ⟨v1,e1,r1⟩:=hvs 1 _ rfl;have hv0:v0=.slice none 0 0:=r0
    have hv1:v1=.int .i64 n:=r1
    have hvs':vs=[v0,v1]:=by
     match vs,hvl,e0,e1 with
     | [a,b],_,e0,e1=>simp at e0 e1;subst e0;subst e1;rfl
    subst hvs';have:=hgr w n.toNat (by omega)
    rw [show ((n.toNat:Nat):Int)=n by omega] at this
    subst hv0;subst hv1;refine Calls.mono this ?_
    rintro r w' ⟨v',rfl,k1,k2,k3,k4,k5,k6,k7⟩
    refine ⟨v',rfl,?_⟩
    refine h.move hd Yj [] (fun o' ho'=>by simp at ho') (m:=⟨v',[]⟩) k3 k4 k5 k6 (fun b hb _=>k7 b hb) ⟨rfl,k1⟩ ?_ ?_ rfl (d5 k1)
    ·simp only [Img.blocks,List.filterMap_nil,List.append_nil]
     cases ab v' <;> simp
    ·intro b hb
     simp only [Img.blocks,List.filterMap_nil,List.append_nil,Option.mem_toList] at hb;exact .inr (k2 b hb)
   ·simp [Rd.run] at hr
  ·cases hm
 ·cases hm
end
end Go.Sx
end
section
namespace Go.Sx
open Go.RowKit
theorem mC {m:Img} (h:∀u∈m.ins,ab u=none):m.blocks=(ab m.hd).toList:=by
 unfold Img.blocks;rw [show m.ins.filterMap ab=[] from List.filterMap_eq_nil_iff.2 h,List.append_nil]
theorem og:∀{cs:List SC} {ds:List FC},ds.length=cs.length→(fl cs ds).length=cs.length
 | [],[],_=>rfl
 | c::cs,d::ds,h=>by simp [fl,og (cs:=cs) (ds:=ds) (by simpa using h)]
 | [],_::_,h=>by simp at h
 | _::_,[],h=>by simp at h
theorem zw:∀{cs:List SC} {ds:List FC} {j:Nat} {c:SC},(fl cs ds)[j]?=some c→∃x d,cs[j]?=some x∧ds[j]?=some d∧c=if cL d then cI d else x
 | [],_,j,c,h=>by simp [fl] at h
 | _::_,[],j,c,h=>by simp [fl] at h
 | x::cs,d::ds,0,c,h=>by simp [fl] at h;exact ⟨x,d,rfl,rfl,h.symm⟩
 | x::cs,d::ds,j+1,c,h=>by
  simp only [fl,List.getElem?_cons_succ] at h;obtain ⟨y,e,h1,h2,h3⟩:=zw h;exact ⟨y,e,by simpa using h1,by simpa using h2,h3⟩
theorem zx {m:Img} {j:Nat} {d:FC} {u:Value} (h:jk m j d u) (hs:cL d=true) (E:Env):ac E (cI d) u:=by
 cases d with
 | int k n=>exact h
 | bool b=>exact h
 | str l=>exact h
 | _=>cases hs
theorem zy {m:Img} {j:Nat} {d:FC} {u:Value} (h:jk m j d u) (hs:cL d=false):m.ins[j]?=some (.agg #[u]):=by
 cases d with
 | int k n=>cases hs
 | bool b=>cases hs
 | str l=>cases hs
 | _=>exact h
theorem Gc {w:World} {m:Img} {j:Nat} {d:FC} {u:Value} (h:aX w u d) (hi:m.ins[j]?=some (.agg #[u])):jk m j d u:=by
 cases d with
 | int k n=>exact h
 | bool b=>exact h
 | str l=>exact h
 | _=>exact hi
theorem Gd {w:World} {d:FC} {u:Value} (h:aX w u d) (hs:cL d=false):∃a n c,u=.slice a n c∧n≤c:=by
 cases d with
 | int k n=>cases hs
 | bool b=>cases hs
 | str l=>cases hs
 | _=>exact h.slice
section
variable {C:Cx} {σ:State} {mu:Nat→Img} {a:Act} {w:World}
theorem O6 {c:SC} {d:FC} (h:yl c=some d) {v:Value} (hv:ac (σ.env C.wF mu) c v):aX C.wF v d:=by
 unfold yl at h;split at h
 ·cases h;simp only [ac] at hv;subst hv;rfl
 ·cases h;simp only [ac] at hv;subst hv;rfl
 ·cases h;simp only [ac] at hv;subst hv;rfl
 ·cases h;exact hv.2
 ·cases h;exact hv.1.2
 ·cases h
theorem O7 {sv:SV} {ad:AD} (h:mg sv=some ad) {v:Value} (hv:ak C.P (σ.env C.wF mu) sv v) {mt:List (Nat×Nat)} {ms:List Img} {obs:List Ob} {i:Nat} (hn:∀j,bh mt i j=none):bT C.P C.wF mt ms obs i ad v:=by
 have cell:∀{j:Nat} {d:FC} {u:Value},u.oneCell'=true∧aX C.wF u d→eo C.wF mt ms obs i j d u:=fun {j d u} q=>by
  unfold eo;rw [hn j];exact q
 unfold mg at h;split at h
 ·split at h
  ·rename_i d hd
   cases h;exact cell (sy rfl hd hv)
  ·cases h
 ·split at h
  ·rename_i ds hds
   cases h;obtain ⟨arr,rfl,h1,h2⟩:=hv;obtain ⟨h3,h4⟩:=fQ hds;refine ⟨arr,rfl,by rw [h1,h3],fun j d hj=>?_⟩
   obtain ⟨c,h5,h6⟩:=h4 j d hj;obtain ⟨u,h7,h8,h9⟩:=h2 j c h5;exact ⟨u,h7,cell (sy rfl h6 h9)⟩
  ·cases h
 ·cases h
theorem O8 {Γ:FuncId→Option Ctr} (hΓ:cB C.P Γ) {d:Nat} {f:FuncId} {o:Nat} {svs:List SV} {eff:Eff} (hr:(ym C.P Γ d f o svs).run σ=some eff) (hob:eff.obl) (h:St C σ mu a w)
  {v0:Value} (hv0:ac (σ.env C.wF mu) (.ptr o 0) v0)
  {vs:List Value} (hvl:vs.length=svs.length) (hvs:∀(i:Nat) (sv:SV),svs[i]?=some sv→∃v,vs[i]?=some v∧ak C.P (σ.env C.wF mu) sv v) {dst:Option Nat} (hd:∀d,dst=some d→d<C.N) :
  Calls C.P f (v0::vs).toArray w fun e w'=>∃v,e=.returned v∧aq C (σ.app dst eff) (a.put dst v) w':=by
 unfold ym at hr;split at hr
 ·rename_i ct hct
  have hf:=hΓ f _ hct
  obtain ⟨ob,ho,hr2⟩:=aG hr;clear hr;split at hr2
  ·rename_i xs
   split at hr2
   ·rename_i fcs hfcs
    obtain ⟨hfl,hfc⟩:=fQ hfcs;split at hr2
    ·rename_i ads hads
     obtain ⟨hal,har⟩:=fQ hads;split at hr2
     ·rename_i pre ret fcs' hpost
      split at hr2
      ·rename_i q hq
       obtain ⟨hr5,Yj⟩:=i5 hr2;simp only [Rd.run,Option.some.injEq] at hr5;subst hr5;obtain ⟨g,arr,ty,h1,h2,h3,h4,h5⟩:=ip h ho;have hv0':v0=(mu o).hd:=by
        obtain ⟨_,b,hb,hv⟩:=az ho hv0;have hb:ab (mu o).hd=some b:=hb
        rw [h1] at hb ⊢;simp [ab] at hb
        rw [hv,hb]
       let m:Img:=⟨(mu o).hd,arr.toList.map fun u=>.agg #[u]⟩
       have hmi:∀u∈m.ins,ab u=none:=fun u hu=>by
        obtain ⟨x,_,rfl⟩:=List.mem_map.1 hu;rfl
       have hmb:m.blocks=(mu o).blocks:=by rw [mC hmi,mC h2]
       have hins:∀(j:Nat) (u:Value),arr[j]?=some u→m.ins[j]?=some (.agg #[u]):=fun j u hu=>by
        show (arr.toList.map fun u=>Value.agg #[u])[j]?=_
        rw [List.getElem?_map];simp [hu]
       have hcell:∀(j:Nat) (dd:FC),fcs[j]?=some dd→∃u,arr[j]?=some u∧u.oneCell'=true∧aX C.wF u dd:=fun j dd hj=>by
        obtain ⟨c,k1,k2⟩:=hfc j dd hj;obtain ⟨u,k3,k4,k5⟩:=h5 j c k1;exact ⟨u,k3,k4,O6 k2 k5⟩
       have hl':=i6 hq
       have hmt:∀y j,bh [(0,0)] (1+y) j=none:=fun y j=>by
        simp only [bh];rw [if_neg (by omega)]
        rfl
       refine kP hf h (hid:=[o]) (by simp) rfl (ms:=[m]) (obs:=[.bx fcs]) rfl rfl hpost hob.1 hob.2 rfl (fun o' ho'=>?_) (fun x o' rc hx hrc=>?_) Yj (wF:=C.wF) (fun p u hp=>⟨(h.cells p u hp).2,fun o' ho'=>by simp at ho';subst ho';exact (h.cells p u hp).1 _ _ ho⟩) (fun _=>rfl) (by simp [hvl,hal]) (fun i ad hi=>?_) hd
       ·rw [aP,if_neg (fun hc=>ho' (by simp [hc]))];rfl
       ·cases x with
        | succ x=>simp at hx
        | zero =>
         simp at hx hrc
         subst hx;subst hrc;refine ⟨m,.bx fcs,.bx fcs',.box xs,q,rfl,rfl,⟨g,arr,ty,h1,hmi,h3,by rw [h4,hfl],fun j dd hj=>?_⟩,hmb,by simp [bK,hq],id,ho,rfl,.inr ⟨rfl,.box (fl xs fcs'),by simp [aP],rfl,⟨?_,Nat.le_refl _,fun _=>rfl⟩,fun E w' _ hEE hrep=>?_⟩⟩
         ·obtain ⟨u,k1,k2,k3⟩:=hcell j dd hj
          exact ⟨u,k1,k2,Gc k3 (hins j u k1)⟩
         ·show (fl xs fcs').length=xs.length
          exact og (by rw [hl',hfl])
         ·obtain ⟨b',arr',t',k1,k2,k3,k4,k5⟩:=hrep
          refine ⟨b',arr',t',k1,h2,k3,by rw [k4,og (by rw [hl',hfl]),hl',hfl],fun j c hj=>?_⟩
          obtain ⟨x,dd,r1,r2,rfl⟩:=zw hj;obtain ⟨u,r3,r4,r5⟩:=k5 j dd r2;refine ⟨u,r3,r4,?_⟩
          cases hs:cL dd with
          | true=>simp only [if_true];exact zx r5 hs _
          | false =>
           simp only [Bool.false_eq_true,if_false];have r6:=zy r5 hs
           obtain ⟨u',r7,_,r8⟩:=h5 j x r1;rw [hins j u' r7] at r6;simp at r6
           rw [←r6];exact r8.mono hEE
       ·cases i with
        | zero =>
         simp at hi;subst hi
         refine ⟨v0,rfl,m,rfl,rfl,hv0',fun j dd hj hs=>?_⟩
         obtain ⟨u,k1,_,k3⟩:=hcell j dd hj;exact ⟨u,hins j u k1,Gd k3 hs,k3⟩
        | succ i =>
         obtain ⟨sv,k1,k2⟩:=har i ad (by simpa using hi)
         obtain ⟨v,k3,k4⟩:=hvs i sv k1;exact ⟨v,by simpa using k3,O7 k2 k4 (fun j'=>by have:=hmt i j';rwa [Nat.add_comm] at this)⟩
      ·simp [Rd.run] at hr2
     ·simp [Rd.run] at hr2
    ·simp [Rd.run] at hr2
   ·simp [Rd.run] at hr2
  ·simp [Rd.run] at hr2
 ·simp [Rd.run] at hr
theorem O9 {Γ:FuncId→Option Ctr} (hΓ:cB C.P Γ) {d:Nat} {f:FuncId} {o:Nat} {svs:List SV} {ts:List TypeId} {eff:Eff} (hr:(yn C.P Γ d f o svs ts).run σ=some eff) (hob:eff.obl) (h:St C σ mu a w)
  {v0:Value} (hv0:ac (σ.env C.wF mu) (.ptr o 0) v0)
  {vs:List Value} (hvl:vs.length=svs.length) (hvs:∀(i:Nat) (sv:SV),svs[i]?=some sv→∃v,vs[i]?=some v∧ak C.P (σ.env C.wF mu) sv v) {dst:Option Nat} (hd:∀d,dst=some d→d<C.N) :
  (∃fn,C.P.funcs[f]?=some fn∧fn.body.isSome=true∧(fn.name == "runtime.NumGoroutine")=false) ∧
  Calls C.P f (v0::vs).toArray w fun e w'=>∃v,e=.returned v∧aq C (σ.app dst eff) (a.put dst v) w':=by
 unfold yn at hr;split at hr
 ·rename_i ct hct
  have hf:=hΓ f _ hct
  refine ⟨hf.fn,?_⟩
  obtain ⟨ob,ho,hr2⟩:=aG hr;clear hr;split at hr2
  ·rename_i xs
   have hw:=gQ h [o] (fun x hx=>by simp at hx;subst hx;exact ⟨_,ho⟩)
   have hmt:∀y j,bh [(0,0)] (1+y) j=none:=fun y j=>by
    simp only [bh];rw [if_neg (by omega)]
    rfl
   obtain ⟨fcs,hr3,hfl,hfc⟩:=kN h hw (mt:=[]) (i:=0) xs 0 _ _ _ (fun x c _ y hy=>by simp [bh] at hy) hr2
   obtain ⟨ads,hr4,hal,har⟩:=kO hΓ h hw svs 1 _ _ _ (fun y sv _ x j hx=>by rw [hmt y j] at hx;cases hx) hr3
   split at hr4
   ·rename_i pre ret fcs' hpost
    split at hr4
    ·exact O8 hΓ hr4 hob h hv0 hvl hvs hd
    rename_i hnro;split at hr4
    ·rename_i q hq
     obtain ⟨hr5,Yj⟩:=i5 hr4;simp only [Rd.run,Option.some.injEq] at hr5;subst hr5;obtain ⟨g,arr,ty,h1,h2,h3,h4,h5⟩:=ip h ho;have hv0':v0=(mu o).hd:=by
      obtain ⟨_,b,hb,hv⟩:=az ho hv0;have hb:ab (mu o).hd=some b:=hb
      rw [h1] at hb ⊢;simp [ab] at hb
      rw [hv,hb]
     let m:Img:=⟨(mu o).hd,arr.toList.map fun u=>.agg #[u]⟩
     have hmi:∀u∈m.ins,ab u=none:=fun u hu=>by
      obtain ⟨x,_,rfl⟩:=List.mem_map.1 hu;rfl
     have hmb:m.blocks=(mu o).blocks:=by rw [mC hmi,mC h2]
     have hins:∀(j:Nat) (u:Value),arr[j]?=some u→m.ins[j]?=some (.agg #[u]):=fun j u hu=>by
      show (arr.toList.map fun u=>Value.agg #[u])[j]?=_
      rw [List.getElem?_map];simp [hu]
     have hcell:∀(j:Nat) (dd:FC),fcs[j]?=some dd→∃u,arr[j]?=some u∧u.oneCell'=true∧aX (gx w ([o].flatMap fun o=>(mu o).blocks)) u dd:=fun j dd hj=>by
      obtain ⟨c,k1,k2⟩:=hfc j dd hj;obtain ⟨u,k3,k4,k5⟩:=h5 j c k1;exact ⟨u,k3,k4,n7 (k2 u k5)⟩
     have hl':=i6 hq
     refine kP hf h (hid:=[o]) (by simp) rfl (ms:=[m]) (obs:=[.bx fcs]) rfl rfl hpost hob.1 hob.2 rfl (fun o' ho'=>?_) (fun x o' rc hx hrc=>?_) Yj hw.kept (fun hc=>by rw [hnro] at hc;cases hc) (by simp [hvl,hal]) (fun i ad hi=>?_) hd
     ·rw [aP,if_neg (fun hc=>ho' (by simp [hc]))];rfl
     ·cases x with
      | succ x=>simp at hx
      | zero =>
       simp at hx hrc
       subst hx;subst hrc;refine ⟨m,.bx fcs,.bx fcs',.box xs,q,rfl,rfl,⟨g,arr,ty,h1,hmi,h3,by rw [h4,hfl],fun j dd hj=>?_⟩,hmb,by simp [bK,hq],id,ho,rfl,.inr ⟨rfl,.box (fl xs fcs'),by simp [aP],rfl,⟨?_,Nat.le_refl _,fun _=>rfl⟩,fun E w' _ hEE hrep=>?_⟩⟩
       ·obtain ⟨u,k1,k2,k3⟩:=hcell j dd hj
        exact ⟨u,k1,k2,Gc k3 (hins j u k1)⟩
       ·show (fl xs fcs').length=xs.length
        exact og (by rw [hl',hfl])
       ·obtain ⟨b',arr',t',k1,k2,k3,k4,k5⟩:=hrep
        refine ⟨b',arr',t',k1,h2,k3,by rw [k4,og (by rw [hl',hfl]),hl',hfl],fun j c hj=>?_⟩
        obtain ⟨x,dd,r1,r2,rfl⟩:=zw hj;obtain ⟨u,r3,r4,r5⟩:=k5 j dd r2;refine ⟨u,r3,r4,?_⟩
        cases hs:cL dd with
        | true=>simp only [if_true];exact zx r5 hs _
        | false =>
         simp only [Bool.false_eq_true,if_false];have r6:=zy r5 hs
         obtain ⟨u',r7,_,r8⟩:=h5 j x r1;rw [hins j u' r7] at r6;simp at r6
         rw [←r6];exact r8.mono hEE
     ·cases i with
      | zero =>
       simp at hi;subst hi
       refine ⟨v0,rfl,m,rfl,rfl,hv0',fun j dd hj hs=>?_⟩
       obtain ⟨u,k1,_,k3⟩:=hcell j dd hj;exact ⟨u,hins j u k1,Gd k3 hs,k3⟩
      | succ i =>
       obtain ⟨sv,k1,k2⟩:=har i ad (by simpa using hi)
       obtain ⟨v,k3,k4⟩:=hvs i sv k1;have k5:=k2 v k4
       rw [Nat.add_comm] at k5;exact ⟨v,by simpa using k3,oe (fun j'=>by have:=hmt i j';rwa [Nat.add_comm] at this) k5⟩
    ·simp [Rd.run] at hr4
   ·simp [Rd.run] at hr4
  ·simp [Rd.run] at hr2
 ·simp [Rd.run] at hr
end
end Go.Sx
end
section
namespace Go.Sx
open Go.RowKit
theorem Ge:∀{n:Nat} {l a b:List SC} {o:Nat},kB n l=some (a,o,b)→l=a++.ptr o 0::b∧a.length=n
 | 0,[],a,b,o,h=>by simp [kB] at h
 | 0,c::l,a,b,o,h=>by
  unfold kB at h;split at h
  ·rename_i h1 h2;cases h;cases h2;exact ⟨rfl,rfl⟩
  ·rename_i h1 _;cases h1
  ·cases h
 | n+1,[],a,b,o,h=>by simp [kB] at h
 | n+1,c::l,a,b,o,h=>by
  unfold kB at h;split at h
  ·rename_i h3
   cases h;obtain ⟨k1,k2⟩:=Ge h3;exact ⟨by rw [k1];rfl,by simp [k2]⟩
  ·cases h
theorem Pa {o:Option Post} (h:yu o):∃p n s,o=some ⟨p,.c (.int .i64 n),[.bx [.int .i64 s]]⟩∧p∧E3 o=n∧E4 o=s:=by
 unfold yu at h;split at h
 ·exact ⟨_,_,_,rfl,h,rfl,rfl⟩
 ·exact h.elim
section
variable {C:Cx} {σ:State} {mu:Nat→Img} {a:Act} {w:World}
theorem Gf {σ:State} {mu:Nat→Img} {wF:World} {cs:List SC} {ds:List AD} (h2:∀(x:Nat) (d:AD),ds[x]?=some d→∃c,cs[x]?=some c∧∀i v,ac (σ.env C.wF mu) c v→bT C.P wF [] [] [] i d v)
  {arr:Array Value} {off:Nat} (hr:∀(x:Nat) (c:SC),cs[x]?=some c→∃u,arr[off+x]?=some u∧ac (σ.env C.wF mu) c u) :
  ∀(x:Nat) (d:AD),ds[x]?=some d→∃u,arr[off+x]?=some u∧∀i,bT C.P wF [] [] [] i d u:=fun x d hx=>by
 obtain ⟨c,h3,h4⟩:=h2 x d hx;obtain ⟨u,h5,h6⟩:=hr x c h3;exact ⟨u,h5,fun i=>h4 i u h6⟩
theorem Gg {P:Program} {wF:World} {mt:List (Nat×Nat)} {ms:List Img} {obs:List Ob} {i:Nat} (hm:∀j,bh mt i j=none) {d:AD} {v:Value} (h:bT P wF [] [] [] i d v):bT P wF mt ms obs i d v:=by
 have hcell:∀{j d u},eo wF [] [] [] i j d u→eo wF mt ms obs i j d u:=fun {j d u} h=>by
  refine ⟨h.1,?_⟩
  rw [hm j];exact n7 h
 cases d with
 | c d=>exact hcell (j:=0) h
 | agg cs =>
  obtain ⟨arr,rfl,h1,h2⟩:=h;exact ⟨arr,rfl,h1,fun j d hj=>let ⟨u,h3,h4⟩:=h2 j d hj;⟨u,h3,hcell h4⟩⟩
 | box cs =>
  simp only [bT,hm 0];exact h
 | bb cs=>exact h
 | fv F=>exact h
 | fvs F s=>exact (show False from h).elim
 | cut off n d=>exact (show False from h).elim
 | ma x=>exact (show False from h).elim
theorem Pb {wF:World} {g:FuncId} {k:Nat} {ctg:List AD→Option Post} (hg:Fits C.P g ⟨[(k+2,0)],ctg⟩) {A B:List AD} (hA:A.length=k) {arr:Array Value} (hsz:arr.size=k+1+B.length)
  (ha:∀(x:Nat) (d:AD),A[x]?=some d→∃u,arr[0+x]?=some u∧∀i,bT C.P wF [] [] [] i d u) (hb:∀(x:Nat) (d:AD),B[x]?=some d→∃u,arr[k+1+x]?=some u∧∀i,bT C.P wF [] [] [] i d u)
  {b:Nat} (hp:arr[k]?=some (.pointer (some ⟨b,0,none⟩))) (hnb:∀p u,wF.cell? p=some u→p.block≠b):lW C.P wF b (yw ctg A B) (.func (.func g) #[] arr):=by
 obtain ⟨fn,hfn1,hfn2,hfn3⟩:=F1 hg;refine ⟨g,arr,fn,rfl,hfn1,hfn2,hfn3,fun w s x y hk ⟨t,ht⟩ hq=>?_⟩
 obtain ⟨pre,n,s',h1,h2,h3,h4⟩:=Pa hq
 let m:Img:=⟨.pointer (some ⟨b,0,none⟩),[]⟩
 have hmb:m.blocks=[b]:=rfl
 have hmt:∀i j,i≠k+2→bh [(k+2,0)] i j=none:=fun i j hi=>by
  simp only [bh];rw [if_neg (by omega)]
  rfl
 have hx0:bh [(k+2,0)] (k+2) 0=some 0:=by simp [bh]
 have hrep:∀{w:World} {s:Int} {t:TypeId},w.heap[b]?=some (.cells #[.int .i64 s] t (0,0))→aH (E0 w) w m (.bx [.int .i64 s]):=fun {w s t} ht =>
  ⟨b,_,t,rfl,by simp [m],ht,rfl,fun j d hj=>by
   match j,hj with
   | 0,hj=>simp at hj;subst hj;exact ⟨_,rfl,rfl,rfl⟩
   | j+1,hj=>simp at hj⟩
 have hlen:([Value.int .i64 x,.int .i64 y]++arr.toList).length=([AD.c (.int .i64 x),.c (.int .i64 y)]++(A++.box [.int .i64 s]::B)).length:=by
  simp only [List.length_append,List.length_cons,List.length_nil,Array.length_toList,hsz,hA];omega
 have:=hg.run w wF ([.int .i64 x,.int .i64 y]++arr.toList) ([.c (.int .i64 x),.c (.int .i64 y)]++(A++.box [.int .i64 s]::B)) _ [m] [.bx [.int .i64 s]] h1 h2 hlen rfl rfl rfl
  (fun z m' ob hz hz2=>by
   cases z with
   | zero=>simp at hz hz2;subst hz;subst hz2;exact ⟨hrep ht,by rw [hmb];simp⟩
   | succ z=>simp at hz)
  (fun z z' m1 m2 hne hz hz'=>by
   cases z with
   | zero =>
    cases z' with
    | zero=>exact absurd rfl hne
    | succ z'=>simp at hz'
   | succ z=>simp at hz)
  (fun z ob rc hz hz2=>by
   cases z with
   | zero=>simp at hz hz2;subst hz;subst hz2;exact ⟨_,_,by simp only [bK,d4,if_true];rfl,trivial⟩
   | succ z=>simp at hz)
  (fun p u hpu=>⟨hk p u hpu,fun m' hm'=>by
   simp at hm';subst hm'
   rw [hmb]
   simpa using hnb p u hpu⟩)
  (fun i d hi=>by
   match i,hi with
   | 0,hi=>simp at hi;subst hi;exact ⟨_,rfl,rfl,by rw [hmt 0 0 (by omega)];rfl⟩
   | 1,hi=>simp at hi;subst hi;exact ⟨_,rfl,rfl,by rw [hmt 1 0 (by omega)];rfl⟩
   | i+2,hi =>
    simp only [List.cons_append,List.nil_append,List.getElem?_cons_succ] at hi;by_cases h5:i<A.length
    ·rw [List.getElem?_append_left h5] at hi
     obtain ⟨u,k1,k2⟩:=ha i d hi;refine ⟨u,?_,Gg (fun j=>hmt _ j (by omega)) (k2 _)⟩
     rw [Nat.zero_add] at k1
     simpa using k1
    ·rw [List.getElem?_append_right (by omega)] at hi
     by_cases h6:i=k
     ·subst h6
      rw [hA,Nat.sub_self] at hi;simp at hi
      subst hi;refine ⟨_,by simpa using hp,?_⟩
      simp only [bT];rw [hx0];refine ⟨m,rfl,rfl,rfl,fun j d hj hs=>?_⟩
      match j,hj with
      | 0,hj=>simp at hj;subst hj;cases hs
      | j+1,hj=>simp at hj
     ·obtain ⟨z,hz⟩:∃z,i - A.length=z+1:=⟨i - A.length - 1,by omega⟩
      rw [hz,List.getElem?_cons_succ] at hi;obtain ⟨u,k1,k2⟩:=hb z d hi;refine ⟨u,?_,Gg (fun j=>hmt _ j (by omega)) (k2 _)⟩
      rw [show k+1+z=i by omega] at k1
      simpa using k1)
 rw [show ([Value.int .i64 x,.int .i64 y]++arr.toList).toArray=#[.int .i64 x,.int .i64 y]++arr by apply Array.ext';simp] at this
 refine this.mono ?_
 rintro e w' ⟨v,ms',img,wG,rfl,haft,hml,hms,_,hret⟩
 have hlt1:0<ms'.length:=by rw [hml];simp
 obtain ⟨j0,_,_,_,ob3,q4,j4,j5⟩:=hms 0 _ _ _ _ rfl (List.getElem?_eq_getElem hlt1) rfl rfl rfl;simp only [bK,d4,if_true,Option.some.injEq,Prod.mk.injEq] at j4;obtain ⟨rfl,_⟩:=j4;rw [j0] at j5;obtain ⟨b',arr',t',r1,_,r3,r4,r5⟩:=j5;have hbb:b'=b:=by simpa [m] using r1.symm
 subst hbb;obtain ⟨u,r6,_,r7⟩:=r5 0 _ rfl;have harr:arr'=#[.int .i64 s']:=by
  apply Array.ext
  ·rw [r4];rfl
  ·intro z hz1 hz2
   have:z=0:=by simp at hz2;omega
   subst this;have h8:arr'[0]?=some u:=r6
   rw [Array.getElem?_eq_getElem hz1] at h8;cases h8;exact r7
 have hv:v=.int .i64 n:=hret.val
 refine ⟨by rw [hv];congr 1;exact (congrArg (Value.int .i64) h3.symm),haft.os,haft.tape,haft.output,haft.size,fun z hz hne=>haft.block z hz fun m' hm'=>by
  simp at hm';subst hm'
  rw [hmb];simpa using hne,t',?_⟩
 rw [r3,harr];have:(yw ctg A B).nx s x y=s':=h4
 rw [this]
theorem Pc {o:Nat} {F:SFV} {svs:List SV} {eff:Eff} (hr:(yy o F svs).run σ=some eff) (hob:eff.obl) (h:St C σ mu a w) {v0:Value} (hv0:ak C.P (σ.env C.wF mu) (.fvs o F) v0)
  {vs:List Value} (hvl:vs.length=svs.length) (hvs:∀(i:Nat) (sv:SV),svs[i]?=some sv→∃v,vs[i]?=some v∧ak C.P (σ.env C.wF mu) sv v) {dst:Option Nat} (hd:∀d,dst=some d→d<C.N) :
  ∃g caps,v0=.func (.func g) #[] caps∧(∃fn,C.P.funcs[g]?=some fn∧fn.body.isSome=true∧(fn.name == "runtime.NumGoroutine")=false) ∧
  Calls C.P g (vs.toArray++caps) w fun e w'=>∃v,e=.returned v∧aq C (σ.app dst eff) (a.put dst v) w':=by
 unfold yy at hr;split at hr
 ·rename_i x y
  obtain ⟨ob,ho,hr2⟩:=aG hr;split at hr2
  ·rename_i s
   simp only [Rd.run,Option.some.injEq] at hr2;subst hr2;obtain ⟨b,hb,g,caps,fn,rfl,k1,k2,k3,k4⟩:=az ho hv0;obtain ⟨g',arr,ty,h1,h2,h3,h4,h5⟩:=ip h ho;have hgb:g'=b:=by
    have hb:(mu o).hd=_:=hb
    rw [h1] at hb
    simpa using hb
   subst hgb;have harr:arr=#[.int .i64 s]:=by
    obtain ⟨u,r6,_,r7⟩:=h5 0 _ rfl;apply Array.ext
    ·rw [h4];rfl
    ·intro z hz1 hz2
     have:z=0:=by simp at hz2;omega
     subst this;rw [Array.getElem?_eq_getElem hz1] at r6;cases r6;exact r7
   subst harr;have hb0:g'∈(mu o).blocks:=bz (by rw [h1];rfl)
   obtain ⟨u0,q1,q2⟩:=hvs 0 _ rfl;obtain ⟨u1,q3,q4⟩:=hvs 1 _ rfl;have q2:u0=.int .i64 x:=q2
   have q4:u1=.int .i64 y:=q4
   subst q2;subst q4;have hvv:vs=[.int .i64 x,.int .i64 y]:=by
    match vs,hvl,q1,q3 with
    | [_,_],_,q1,q3=>simp at q1 q3;rw [q1,q3]
   subst hvv;refine ⟨g,caps,rfl,⟨fn,k1,k2,by simpa using k3⟩,?_⟩
   refine (k4 w s x y (fun p u hp=>(h.cells p u hp).2) ⟨ty,h3⟩ hob).mono ?_
   rintro e w' ⟨rfl,t1,t2,t3,t4,t5,ty',t6⟩
   refine ⟨_,rfl,?_⟩
   refine h.setV hd ho [] (by simp) (m:=mu o) (fun E=>rfl) t1 t2 t3 t4 (fun z hz hn=>t5 z hz fun hc=>hn (by rw [hc];exact hb0)) rfl rfl (Nat.le_refl _) (fun _=>⟨rfl,rfl⟩) ⟨g',_,ty',h1,h2,t6,rfl,fun j c hj=>?_⟩ (h.nd o _ ho).1 (fun z hz=>.inl hz)
   match j,hj with
   | 0,hj=>simp at hj;subst hj;exact ⟨_,rfl,rfl,rfl⟩
   | j+1,hj=>simp at hj
  ·simp [Rd.run] at hr2
 ·simp [Rd.run] at hr
theorem Pd {Γ:FuncId→Option Ctr} (hΓ:cB C.P Γ) {d:Nat} {f:FuncId} {svs:List SV} {eff:Eff} (hr:(yx C.P Γ d f svs).run σ=some eff) (hob:eff.obl) (h:St C σ mu a w)
  {vs:List Value} (hvl:vs.length=svs.length) (hvs:∀(i:Nat) (sv:SV),svs[i]?=some sv→∃v,vs[i]?=some v∧ak C.P (σ.env C.wF mu) sv v) {dst:Option Nat} (hd:∀d,dst=some d→d<C.N) :
  (∃fn,C.P.funcs[f]?=some fn∧fn.body.isSome=true∧(fn.name == "runtime.NumGoroutine")=false) ∧
  Calls C.P f vs.toArray w fun e w'=>∃v,e=.returned v∧aq C (σ.app dst eff) (a.put dst v) w':=by
 unfold yx at hr;split at hr
 ·rename_i ct hct
  have hf:=hΓ f _ hct
  refine ⟨hf.fn,?_⟩
  split at hr
  ·rename_i n g caps
   split at hr
   ·rename_i k0 ctg hctg
    have hg:=hΓ g _ hctg
    split at hr
    ·rename_i k
     split at hr
     ·rename_i ca o cb hsp
      obtain ⟨hcs,hcl⟩:=Ge hsp;obtain ⟨ob,ho,hr2⟩:=aG hr;clear hr;split at hr2
      ·rename_i s
       have hw:=gQ h [o] (fun x hx=>by simp at hx;subst hx;exact ⟨_,ho⟩)
       obtain ⟨A,hr3,hAl,hA⟩:=mA h hw ca _ _ hr2;obtain ⟨B,hr4,hBl,hB⟩:=mA h hw cb _ _ hr3;split at hr4
       ·rename_i pre ret s' hpost
        split at hr4
        ·simp [Rd.run] at hr4
        rename_i hnro;obtain ⟨hr5,Yj⟩:=i5 hr4;simp only [Rd.run,Option.some.injEq] at hr5;subst hr5;obtain ⟨u0,q1,q2⟩:=hvs 0 _ rfl;obtain ⟨u1,q3,arr,rfl,hasz,harr⟩:=hvs 1 _ rfl;have q2:u0=.int .i64 n:=q2
        subst q2;obtain ⟨bb,arr0,ty,h1,h2,h3,h4,h5⟩:=ip h ho;have harr0:arr0=#[.int .i64 s]:=by
         obtain ⟨u,r6,_,r7⟩:=h5 0 _ rfl;apply Array.ext
         ·rw [h4];rfl
         ·intro z hz1 hz2
          have:z=0:=by simp at hz2;omega
          subst this;rw [Array.getElem?_eq_getElem hz1] at r6;cases r6;exact r7
        subst harr0
        let m:Img:=⟨(mu o).hd,[]⟩
        have hmb:m.blocks=(mu o).blocks:=by rw [mC (m:=m) (by simp [m]),mC h2]
        have hb0:bb∈(mu o).blocks:=bz (by rw [h1];rfl)
        have hcap:∀(z:Nat) (c:SC),(ca++.ptr o 0::cb)[z]?=some c→∃u,arr[z]?=some u∧ac (σ.env C.wF mu) c u:=fun z c hz=>by
         rw [←hcs] at hz;obtain ⟨u,k1,_,k3⟩:=harr z c hz;exact ⟨u,k1,k3⟩
        have hpt:arr[k]?=some (.pointer (some ⟨bb,0,none⟩)):=by
         obtain ⟨u,k1,k2⟩:=hcap k (.ptr o 0) (by rw [List.getElem?_append_right (by omega),hcl,Nat.sub_self];rfl)
         obtain ⟨_,b',k3,k4⟩:=az ho k2;have k3:ab (mu o).hd=some b':=k3
         rw [h1] at k3;have:bb=b':=by simpa [ab] using k3
         rw [k1,k4,this]
        have hcl2:=Pb (wF:=gx w ([o].flatMap fun o=>(mu o).blocks)) hg (A:=A) (B:=B) (by rw [hAl,hcl]) (arr:=arr) (by rw [hasz,hcs];simp [hcl,hBl];omega)
         (Gf (σ:=σ) (mu:=mu) hA fun z c hz=>by
          rw [Nat.zero_add];exact hcap z c (by rw [List.getElem?_append_left (List.getElem?_eq_some_iff.1 hz).1];exact hz))
         (Gf (σ:=σ) (mu:=mu) hB fun z c hz=>hcap (k+1+z) c (by rw [List.getElem?_append_right (by omega),show k+1+z - ca.length=z+1 by omega];simpa using hz))
         hpt (fun p u hp hc=>(hw.kept p u hp).2 o (by simp) (by rw [hc];exact hb0))
        refine kP hf h (hid:=[o]) (by simp) rfl (ms:=[m]) (obs:=[.bx [.int .i64 s]]) rfl rfl hpost hob.1 hob.2 rfl (fun o' ho'=>?_) (fun x o' rc hx hrc=>?_) Yj hw.kept (fun hc=>by rw [hnro] at hc;cases hc) (by rw [hvl];rfl) (fun i ad hi=>?_) hd
        ·rw [aP,if_neg (fun hc=>ho' (by simp [hc]))];rfl
        ·cases x with
         | succ x=>simp at hx
         | zero =>
          simp at hx hrc
          subst hx;subst hrc;refine ⟨m,.bx [.int .i64 s],.bx [.int .i64 s'],.box [.int .i64 s],True,rfl,rfl,⟨bb,_,ty,h1,by simp [m],h3,rfl,fun j dd hj=>?_⟩,hmb,by simp only [bK,d4,if_true],fun _=>trivial,ho,rfl,.inr ⟨rfl,.box [.int .i64 s'],by simp [aP],rfl,⟨rfl,Nat.le_refl _,fun _=>rfl⟩,fun E w' _ _ hrep=>?_⟩⟩
          ·match j,hj with
           | 0,hj=>simp at hj;subst hj;exact ⟨_,rfl,rfl,rfl⟩
           | j+1,hj=>simp at hj
          ·obtain ⟨b',arr',t',k1,k2,k3,k4,k5⟩:=hrep
           refine ⟨b',arr',t',k1,h2,k3,k4,fun j c hj=>?_⟩
           match j,hj with
           | 0,hj =>
            simp at hj;subst hj
            obtain ⟨u,r3,r4,r5⟩:=k5 0 _ rfl;exact ⟨u,r3,r4,r5⟩
           | j+1,hj=>simp at hj
        ·match i,hi with
         | 0,hi=>simp at hi;subst hi;exact ⟨_,q1,rfl,rfl⟩
         | 1,hi=>simp at hi;subst hi;exact ⟨_,q3,m,bb,rfl,rfl,h1,rfl,hcl2⟩
         | i+2,hi=>simp at hi
       ·simp [Rd.run] at hr4
      ·simp [Rd.run] at hr2
     ·simp [Rd.run] at hr
    ·simp [Rd.run] at hr
   ·simp [Rd.run] at hr
  ·simp [Rd.run] at hr
 ·simp [Rd.run] at hr
end
end Go.Sx
end
section
namespace Go.Sx
open Go.RowKit
set_option linter.unusedSimpArgs false
set_option linter.unusedVariables false
section
variable {C:Cx} {σ:State} {mu mu':Nat→Img} {a:Act} {w w':World}
theorem kQ {id o ver:Nat} {e ei:TypeId} {k:IntKind} {l:List (List Int)} {hs:List Nat} {i:Nat} (x:Nat) :
  (State.mk σ.fr (dP id o ver e ei k l hs i++σ.hp)).H x=if id=x then some (some (.ints ei k (l.getD i []))) else if o=x then some (some (.rowsH ver e ei k l hs)) else σ.H x:=by
 show lk ((id,_)::(o,_)::σ.hp) x=_
 rw [aP,aP];rfl
theorem zA (d:Nat):∀(l:List (Nat×RC)) (x:Nat) (y:Option Ob),lk (cA d l) x=some y→∃i,x=d+1000 * i
 | [],x,y,h=>by simp [cA,lk] at h
 | (i,rc)::l,x,y,h=>by
  simp only [cA] at h;split at h
  ·rw [aP] at h
   split at h
   ·exact ⟨i,by omega⟩
   ·exact zA d l x y h
  ·exact zA d l x y h
theorem Pe {Γ:FuncId→Option Ctr} (hΓ:cB C.P Γ) {d:Nat} {f:FuncId} {o ver i j:Nat} {ts:List TypeId} {eff:Eff} (hr:(yH C.P Γ d f o ver i j ts).run σ=some eff) (hob:eff.obl) (h:St C σ mu a w)
  {v0 v1:Value} (hv0:ak C.P (σ.env C.wF mu) (.c (.row o ver i)) v0) (hv1:ak C.P (σ.env C.wF mu) (.c (.row o ver j)) v1) {dst:Option Nat} (hd:∀d,dst=some d→d<C.N) :
  (∃fn,C.P.funcs[f]?=some fn∧fn.body.isSome=true∧(fn.name == "runtime.NumGoroutine")=false) ∧
  Calls C.P f [v0,v1].toArray w fun e w'=>∃v,e=.returned v∧aq C (σ.app dst eff) (a.put dst v) w':=by
 unfold yH at hr;obtain ⟨ob,ho,hr2⟩:=aG hr;clear hr;split at hr2
 ·rename_i ver' e ei k l
  split at hr2
  ·rename_i hver
   have hver:=Nat.eq_of_beq_eq_true hver
   subst hver;split at hr2
   ·rename_i ct hct
    have hf:=hΓ f _ hct
    refine ⟨hf.fn,?_⟩
    split at hr2
    ·rename_i pre ret e1 k1 l1 e2 k2 l2 hpost
     split at hr2
     ·simp [Rd.run] at hr2
     ·rename_i hnro
      split at hr2
      ·rename_i hek
       obtain ⟨he1,he2,hk1,hk2⟩:=hek;subst he1;subst he2;subst hk1;subst hk2;obtain ⟨hab1,hr3⟩:=bD hr2;obtain ⟨hab0,hr4⟩:=bD hr3;obtain ⟨hr5,Yj⟩:=i5 hr4;simp only [Rd.run,Option.some.injEq] at hr5;subst hr5;obtain ⟨Yh,hij⟩:(pre∧True∧True)∧i≠j:=hob;obtain ⟨hi,hil⟩:=(az ho hv0).2 rfl;obtain ⟨hj,hjl⟩:=(az ho hv1).2 rfl;have hi:(mu o).ins[i]?=some v0:=hi
       have hj:(mu o).ins[j]?=some v1:=hj
       have hne1:d+500501≠o:=fun hc=>by rw [hc,ho] at hab1;cases hab1
       have hne0:d+500500≠o:=fun hc=>by rw [hc,ho] at hab0;cases hab0
       obtain ⟨r1,s1⟩:=h.take ho rfl (Fp (h.ob o _ ho)) hab1 hj (by simp)
       have ho1:(State.mk σ.fr (dP (d+500501) o (ver'+1) e ei k l [j] j++σ.hp)).H o=some (some (.rowsH (ver'+1) e ei k l [j])):=by rw [kQ,if_neg hne1,if_pos rfl]
       have hab0':(State.mk σ.fr (dP (d+500501) o (ver'+1) e ei k l [j] j++σ.hp)).H (d+500500)=none:=by rw [kQ,if_neg (by omega),if_neg (Ne.symm hne0)];exact hab0
       obtain ⟨r2,s2⟩:=s1.take (id:=d+500500) (i:=i) (v:=v0) ho1 rfl (by rw [if_neg (Ne.symm hne1),if_pos rfl];exact r1) hab0' (by rw [if_neg (Ne.symm hne1),if_pos rfl];show ((mu o).ins.set j (.slice none 0 0))[i]?=_;rw [List.getElem?_set_ne (Ne.symm hij)];exact hi) (by simp;exact hij)
       generalize hmu2:(fun x=>if x=d+500500 then (⟨v0,[]⟩:Img) else if x=o then _ else if x=d+500501 then _ else _)=mu2 at s2
       have hm0:mu2 (d+500500)=⟨v0,[]⟩:=by rw [←hmu2];simp
       have hm1:mu2 (d+500501)=⟨v1,[]⟩:=by rw [←hmu2];simp [hne1]
       generalize hσ2:State.mk (State.mk σ.fr (dP (d+500501) o (ver'+1) e ei k l [j] j++σ.hp)).fr (dP (d+500500) o (ver'+1+1) e ei k l [i,j] i++(State.mk σ.fr (dP (d+500501) o (ver'+1) e ei k l [j] j++σ.hp)).hp)=σ2 at s2
       have hH0:σ2.H (d+500500)=some (some (.ints ei k (l.getD i []))):=by rw [←hσ2,kQ,if_pos rfl]
       have hH1:σ2.H (d+500501)=some (some (.ints ei k (l.getD j []))):=by rw [←hσ2,kQ,if_neg (by omega),if_neg (Ne.symm hne1),kQ,if_pos rfl]
       have hHx:∀x,x≠d+500500→x≠d+500501→x≠o→σ2.H x=σ.H x:=fun x a b c=>by
        rw [←hσ2,kQ,if_neg (Ne.symm a),if_neg (Ne.symm c),kQ,if_neg (Ne.symm b),if_neg (Ne.symm c)]
       have hw:=gQ s2 [d+500500,d+500501] (fun x hx=>by
        simp only [List.mem_cons,List.not_mem_nil,or_false] at hx;rcases hx with hx | hx
        ·subst hx;exact ⟨_,hH0⟩
        ·subst hx;exact ⟨_,hH1⟩)
       have q0:=s2.ob _ _ hH0
       have q1:=s2.ob _ _ hH1
       rw [hm0] at q0;rw [hm1] at q1;have eapp:∀val pp,σ2.app dst ⟨val,cA d (bY ret)++[(d+500500,none),(d+500501,none)],pp⟩ =
         σ.app dst ⟨val,(cA d (bY ret)++[(d+500500,none),(d+500501,none)])++(dP (d+500500) o (ver'+2) e ei k l [i,j] i++dP (d+500501) o (ver'+1) e ei k l [j] j),pp⟩:=fun val pp=>by
        rw [←hσ2];simp only [State.app,List.append_assoc]
       have core:=kP (d:=d) hf s2 (hid:=[d+500500,d+500501]) (by simp) rfl (ms:=[⟨v0,[]⟩,⟨v1,[]⟩]) (obs:=[.ints ei k (l.getD i []),.ints ei k (l.getD j [])]) rfl rfl hpost Yh.1 (q:=True) trivial rfl
        (ups:=[(d+500500,none),(d+500501,none)]) (fun x hx=>by
         simp only [List.mem_cons,List.not_mem_nil,or_false,not_or] at hx;rw [aP,if_neg (Ne.symm hx.1),aP,if_neg (Ne.symm hx.2)];rfl) (wF:=gx w ([d+500500,d+500501].flatMap fun o=>(mu2 o).blocks))
        (fun x o' rc hx hrc=>by
         match x,hx,hrc with
         | 0,hx,hrc =>
          simp at hx hrc;subst hx;subst hrc
          exact ⟨_,_,_,_,_,rfl,rfl,q0.env,by rw [hm0],by simp only [bK,and_self,if_true];rfl,fun _=>trivial,hH0,rfl,.inl ⟨rfl,by rw [aP,if_pos rfl]⟩⟩
         | 1,hx,hrc =>
          simp at hx hrc;subst hx;subst hrc
          exact ⟨_,_,_,_,_,rfl,rfl,q1.env,by rw [hm1],by simp only [bK,and_self,if_true];rfl,fun _=>trivial,hH1,rfl,.inl ⟨rfl,by rw [aP,if_neg (by omega),aP,if_pos rfl]⟩⟩
         | x+2,hx,_=>simp at hx)
        (fun x y hx=>by
         obtain ⟨n,hn⟩:=zA d _ x y hx;have:=Yj x y hx
         rw [hHx x (by omega) (by omega) (fun hc=>by rw [hc,ho] at this;cases this)]
         exact this) hw.kept (fun hc=>by rw [hnro] at hc;cases hc) (vs:=[v0,v1]) rfl
        (fun x ad hx=>by
         match x,hx with
         | 0,hx =>
          simp at hx;subst hx
          exact ⟨v0,rfl,hv0.1,_,_,rfl,rfl,rfl,rfl⟩
         | 1,hx =>
          simp at hx;subst hx
          exact ⟨v1,rfl,hv1.1,_,_,rfl,rfl,rfl,rfl⟩
         | x+2,hx=>simp at hx) (pp:=some ((pre∧True∧True)∧i≠j)) hd
       rw [eapp] at core;exact core
      ·simp [Rd.run] at hr2
    ·simp [Rd.run] at hr2
   ·simp [Rd.run] at hr2
  ·simp [Rd.run] at hr2
 ·simp [Rd.run] at hr2
end
end Go.Sx
end
section
namespace Go.Sx
open Go.RowKit
section
variable {C:Cx} {σ:State} {mu:Nat→Img} {a:Act} {w:World}
structure GoodT (C:Cx) (mu:Nat→Img) (tot:Tr) (E':Env):Prop where
 wF:E'.wF=C.wF
 at':∀k x ob,(k,x,ob)∈tot→E'.st k=.live (fm ob).shp∧match x with
  | some o=>E'.mu k=mu o
  | none=>(E'.mu k).hd=.slice none 0 0
def fT (C:Cx) (σ:State) (mu:Nat→Img) (tot os:Tr):Prop:=∀k x ob,(k,x,ob)∈os→match x with
 | some o=>∃ob0,σ.H o=some (some ob0)∧ob0.isFz=false∧((nG ob0=true∧ob=ob0) ∨
   ∃cs cs',ob0=.box cs∧ob=.box cs'∧cs'.length=cs.length∧∀E',GoodT C mu tot E'→∀arr,cw (σ.env C.wF mu) cs arr→cw E' cs' arr)
 | none=>∃t,io C.P t=some ob
theorem GoodT.sub {tot tot':Tr} {E':Env} (h:GoodT C mu tot E') (hs:∀t∈tot',t∈tot):GoodT C mu tot' E':=⟨h.wF,fun k x ob hm=>h.at' k x ob (hs _ hm)⟩
theorem fT.up {tot tot' os:Tr} (h:fT C σ mu tot os) (hs:∀t∈tot,t∈tot'):fT C σ mu tot' os:=fun k x ob hm=>by
 have h1:=h k x ob hm
 cases x with
 | none=>exact h1
 | some o =>
  obtain ⟨ob0,q1,q2,q3⟩:=h1;refine ⟨ob0,q1,q2,q3.imp id ?_⟩
  rintro ⟨cs,cs',z1,z2,z3,z4⟩
  exact ⟨cs,cs',z1,z2,z3,fun E' hg=>z4 E' (hg.sub hs)⟩
theorem fT.app {tot os os':Tr} (h:fT C σ mu tot os) (h':fT C σ mu tot os'):fT C σ mu tot (os++os'):=fun k x ob hm=>by
 rcases List.mem_append.1 hm with hm | hm
 ·exact h k x ob hm
 ·exact h' k x ob hm
def gT (os:Tr):List (Nat×Option Ob):=os.map fun t=>(t.1,some (fm t.2.2))
theorem Gh (os os':Tr):gT (os++os')=gT os++gT os':=List.map_append
theorem Gi {P:Program} {t:TypeId} {ob:Ob} (h:io P t=some ob):fm ob=ob:=by
 unfold io at h
 repeat' split at h
 all_goals first | cases h;done | (cases h;rfl)
theorem Gj {α:Type} {k:Nat} {nl:Option Ob} (hnl:∀ob,nl=some ob→∃t,io C.P t=some ob) {c:SC} {K:MC→Tr→Rd α} {r:α} (hr:(rB k nl c K).run σ=some r) :
  ∃x os,(K x os).run σ=some r∧gT os=qT k x∧(∀tot,fT C σ mu tot os)∧∀tot E' v,(∀t∈os,t∈tot)→GoodT C mu tot E'→ac (σ.env C.wF mu) c v→ac E' (xu k x) v:=by
 have nilT:∀tot:Tr,fT C σ mu tot []:=fun tot k x ob hm=>by cases hm
 unfold rB at hr;split at hr
 ·exact ⟨_,_,hr,rfl,nilT,fun tot E' v _ _ hv=>hv⟩
 ·exact ⟨_,_,hr,rfl,nilT,fun tot E' v _ _ hv=>hv⟩
 ·exact ⟨_,_,hr,rfl,nilT,fun tot E' v _ _ hv=>hv⟩
 ·refine ⟨_,_,hr,rfl,nilT,fun tot E' v _ hg hv=>(kE ?_).1⟩
  rw [hg.wF];exact hv.2
 ·refine ⟨_,_,hr,rfl,nilT,fun tot E' v _ hg hv=>(kE ?_).1⟩
  rw [hg.wF];exact hv.1.2
 ·rename_i o
  obtain ⟨ob,ho,hr⟩:=aG hr;split at hr
  ·rename_i d
   refine ⟨_,_,hr,rfl,nilT,fun tot E' v _ hg hv=>(kE ?_).1⟩
   have h3:=hv.2
   have e:(σ.env C.wF mu).st o=.frz d:=eK ho
   rw [e] at h3;rw [hg.wF];exact h3.2
  ·rename_i hnf0
   have hnf:ob.isFz=false:=by cases ob <;> first | rfl | exact absurd rfl (hnf0 _)
   split at hr
   ·rename_i hok
    refine ⟨_,_,hr,rfl,fun tot k' x ob' hm=>?_,fun tot E' v hs hg hv=>?_⟩
    ·simp only [List.mem_singleton,Prod.mk.injEq] at hm
     obtain ⟨rfl,rfl,rfl⟩:=hm;exact ⟨ob',ho,hnf,.inl ⟨hok,rfl⟩⟩
    ·have h1:=az ho hv hnf
     obtain ⟨h2,h3⟩:=hg.at' k (some o) ob (hs _ (by simp))
     refine ⟨hv.1,?_⟩
     rw [h2]
     show v=(E'.mu k).hd
     rw [h3];exact h1
   ·cases hr
 ·split at hr
  ·rename_i ob
   refine ⟨_,_,hr,?_,fun tot k' x ob' hm=>?_,fun tot E' v hs hg hv=>?_⟩
   ·obtain ⟨t,ht⟩:=hnl ob rfl
    show [(k,some (fm ob))]=[(k,some ob)]
    rw [Gi ht]
   ·simp only [List.mem_singleton,Prod.mk.injEq] at hm
    obtain ⟨rfl,rfl,rfl⟩:=hm;exact hnl _ rfl
   ·have hv':v=.slice none 0 0:=hv
    obtain ⟨h2,h3⟩:=hg.at' k none ob (hs _ (by simp))
    subst hv';refine ⟨rfl,?_⟩
    rw [h2];exact h3.symm
  ·cases hr
 ·cases hr
theorem Pf {P:Program} {ts:List TypeId} {ob:Ob} (h:EZ P ts=some ob):∃t,io P t=some ob:=by
 cases ts with
 | nil=>cases h
 | cons t ts=>exact ⟨t,h⟩
theorem sA:∀(k:Nat) (l:List MC),(eG k l).length=l.length
 | _,[]=>rfl
 | k,x::l=>by simp [eG,sA (k+1) l]
theorem Gk {α:Type}:∀(cs:List SC) (k:Nat) (ts:List TypeId) (K:List MC→Tr→Rd α) (r:α) (_:(rC C.P k cs ts K).run σ=some r),
  ∃l os,(K l os).run σ=some r∧gT os=jn k l∧l.length=cs.length∧(∀tot,fT C σ mu tot os)∧∀tot E',(∀t∈os,t∈tot)→GoodT C mu tot E' →
   ∀(j:Nat) (c':SC),(eG k l)[j]?=some c'→∃c,cs[j]?=some c∧∀v,ac (σ.env C.wF mu) c v→ac E' c' v
 | [],k,ts,K,r,hr=>⟨[],[],hr,rfl,rfl,fun tot k x ob hm=>(by cases hm),fun _ _ _ _ j c' hj=>by simp [eG] at hj⟩
 | c::cs,k,ts,K,r,hr=>by
  simp only [rC] at hr;obtain ⟨x,os,h1,h2,h3,h4⟩:=Gj (C:=C) (mu:=mu) (fun ob h=>Pf h) hr
  obtain ⟨l,os',q1,q2,q3,q4,q5⟩:=Gk cs (k+1) ts.tail _ r h1;refine ⟨x::l,os++os',q1,by rw [Gh,h2,q2];rfl,by simp [q3],fun tot=>(h3 tot).app (q4 tot),fun tot E' hs hg j c' hj=>?_⟩
  cases j with
  | zero =>
   simp only [eG,List.getElem?_cons_zero,Option.some.injEq] at hj;subst hj;exact ⟨c,rfl,fun v hv=>h4 tot E' v (fun t ht=>hs t (List.mem_append_left _ ht)) hg hv⟩
  | succ j =>
   simp only [eG,List.getElem?_cons_succ] at hj;obtain ⟨c2,z1,z2⟩:=q5 tot E' (fun t ht=>hs t (List.mem_append_right _ ht)) hg j c' hj
   exact ⟨c2,by simpa using z1,z2⟩
theorem Pg {α:Type} {k:Nat} {t:TypeId} {sv:SV} {K:MA→Tr→Rd α} {r:α} (hr:(yq C.P k t sv K).run σ=some r) :
  ∃x os,(K x os).run σ=some r∧gT os=EU k x∧(∀tot,(∀t∈os,t∈tot)→fT C σ mu tot os)∧∀tot E' v,(∀t∈os,t∈tot)→GoodT C mu tot E'→ak C.P (σ.env C.wF mu) sv v→ak C.P E' (nu k x) v:=by
 unfold yq at hr;split at hr
 ·split at hr
  ·rename_i o i
   split at hr
   ·obtain ⟨ob,ho,hr⟩:=aG hr
    split at hr
    ·rename_i cs
     obtain ⟨l,os,q1,q2,q3,q4,q5⟩:=Gk (C:=C) (mu:=mu) cs (k+1) _ _ r hr;refine ⟨_,_,q1,?_,fun tot hs k' x ob' hm=>?_,fun tot E' v hs hg hv=>?_⟩
     ·show (k,some (Ob.box (eG (k+1) l)))::gT os=_
      rw [q2];rfl
     ·rcases List.mem_cons.1 hm with hm | hm
      ·simp only [Prod.mk.injEq] at hm
       obtain ⟨rfl,rfl,rfl⟩:=hm;refine ⟨_,ho,rfl,.inr ⟨cs,_,rfl,rfl,by rw [sA,q3],fun E' hg arr hrep=>⟨by rw [sA,q3];exact hrep.1,fun j c' hj=>?_⟩⟩⟩
       obtain ⟨c,z1,z2⟩:=q5 tot E' (fun t ht=>hs t (List.mem_cons_of_mem _ ht)) hg j c' hj
       obtain ⟨u,z3,z4,z5⟩:=hrep.2 j c z1;exact ⟨u,z3,z4,z2 u z5⟩
      ·exact q4 tot k' x ob' hm
     ·obtain ⟨h2,h3⟩:=hg.at' k (some o) _ (hs _ List.mem_cons_self)
      obtain ⟨h4,h5⟩:=az ho hv;refine ⟨hv.1,?_⟩
      rw [h2];refine ⟨?_,?_⟩
      ·show 0<(eG (k+1) l).length
       rw [sA,q3];exact h4
      ·rw [h3];exact h5
    ·cases hr
   ·cases hr
  ·obtain ⟨x,os,h1,h2,h3,h4⟩:=Gj (C:=C) (mu:=mu) (fun ob h=>⟨t,h⟩) hr
   exact ⟨_,_,h1,h2,fun tot _=>h3 tot,h4⟩
 ·cases hr
theorem sB:∀{mas:List MA} {i t:Nat} {sv:SV},lk (qU i mas) t=some sv→∃j x,mas[j]?=some x∧t=i+j∧sv=nu (cz t) x
 | [],i,t,sv,h=>by cases h
 | x::l,i,t,sv,h=>by
  simp only [qU,aP] at h;split at h
  ·rename_i he
   subst he;cases h;exact ⟨0,x,rfl,rfl,rfl⟩
  ·obtain ⟨j,y,h1,h2,h3⟩:=sB h
   exact ⟨j+1,y,by simpa using h1,by omega,h3⟩
theorem Gl {α:Type}:∀(svs:List SV) (i:Nat) (ts:List TypeId) (K:List MA→Tr→Rd α) (r:α) (_:(rD C.P i svs ts K).run σ=some r),
  ∃mas os,(K mas os).run σ=some r∧gT os=gj i mas∧mas.length=svs.length∧(∀tot,(∀t∈os,t∈tot)→fT C σ mu tot os)∧∀tot E',(∀t∈os,t∈tot)→GoodT C mu tot E' →
   ∀(j:Nat) (x:MA),mas[j]?=some x→∃sv,svs[j]?=some sv∧∀v,ak C.P (σ.env C.wF mu) sv v→ak C.P E' (nu (cz (i+j)) x) v
 | [],i,ts,K,r,hr=>⟨[],[],hr,rfl,rfl,fun tot _ k x ob hm=>(by cases hm),fun _ _ _ _ j x hj=>by simp at hj⟩
 | sv::svs,i,ts,K,r,hr=>by
  simp only [rD] at hr;obtain ⟨x,os,h1,h2,h3,h4⟩:=Pg (C:=C) (mu:=mu) hr;obtain ⟨l,os',q1,q2,q3,q4,q5⟩:=Gl svs (i+1) ts.tail _ r h1;refine ⟨x::l,os++os',q1,by rw [Gh,h2,q2];rfl,by simp [q3],
   fun tot hs=>(h3 tot fun t ht=>hs t (List.mem_append_left _ ht)).app (q4 tot fun t ht=>hs t (List.mem_append_right _ ht)),fun tot E' hs hg j y hj=>?_⟩
  cases j with
  | zero =>
   simp only [List.getElem?_cons_zero,Option.some.injEq] at hj;subst hj;exact ⟨sv,rfl,fun v hv=>h4 tot E' v (fun t ht=>hs t (List.mem_append_left _ ht)) hg hv⟩
  | succ j =>
   simp only [List.getElem?_cons_succ] at hj;obtain ⟨sv2,z1,z2⟩:=q5 tot E' (fun t ht=>hs t (List.mem_append_right _ ht)) hg j y hj
   exact ⟨sv2,by simpa using z1,by rw [show i+(j+1)=i+1+j by omega];exact z2⟩
theorem Ph {E E':Env} (hE:E'.wF=E.wF) {w:World} {m:Img} {ob:Ob} (h:aH E w m ob) (hok:nG ob=true):aH E' w m (fm ob):=by
 cases ob with
 | ints e k l=>exact h
 | bools e l=>exact h
 | rows v e ei k l=>exact h
 | tr v es d=>exact h
 | lst v e d =>
  obtain ⟨q1,vs,q2,q3⟩:=h;exact ⟨q1,vs,q2,fun i u hi=>let ⟨r1,fc,r2,r3⟩:=q3 i u hi;⟨r1,fc,r2,by rw [hE];exact r3⟩⟩
 | yd v Y pre g=>exact ⟨h.1,by rw [hE];exact h.2.1,h.2.2⟩
 | _=>cases hok
def oh:Ob→Img
 | .tr _ es _=>dm es.length (bp (.slice none 0 0) [])
 | _=>⟨.slice none 0 0,[]⟩
theorem Pi (ob:Ob):(oh ob).hd=.slice none 0 0:=by cases ob <;> rfl
theorem sC {P:Program} {t:TypeId} {ob:Ob} (h:io P t=some ob) (E:Env) (w:World):aH E w (oh ob) ob∧(oh ob).blocks=[]∧ob.isFz=false:=by
 unfold io at h;split at h
 ·cases h
 ·split at h
  ·cases h;exact ⟨⟨rfl,World.ownsRow_nil _ _ _ _⟩,rfl,rfl⟩
  ·cases h;exact ⟨⟨rfl,World.ownsRow_nil _ _ _ _⟩,rfl,rfl⟩
  ·split at h
   ·cases h;exact ⟨⟨rfl,[],World.ownsRow_nil _ _ _ _,fun i u hi=>by simp at hi⟩,rfl,rfl⟩
   ·split at h
    ·rename_i k l _
     split at h
     ·rename_i a b c _ _
      cases h;have hT:bd w [a,b,c] (bp (.slice none 0 0) []) (.r3 k []):=yW rfl rfl fun h0=>by cases h0
      exact ⟨⟨_,rfl,hT⟩,(dH hT).trans (Fg _),rfl⟩
     ·cases h
    ·cases h
  ·cases h
theorem mD:∀{os:Tr} {k:Nat} {x:Option Nat×Ob},dI os k=some x→(k,x)∈os
 | [],k,x,h=>by cases h
 | (k',y)::os,k,x,h=>by
  simp only [dI] at h;split at h
  ·rename_i hb
   have:=Nat.eq_of_beq_eq_true hb
   subst this;cases h;exact List.mem_cons_self
  ·exact List.mem_cons_of_mem _ (mD h)
theorem jB:∀{os:Tr} {k:Nat} {x:Option Nat×Ob},(os.map (·.1)).Nodup→(k,x)∈os→dI os k=some x
 | (k',y)::os,k,x,hn,h=>by
  simp only [List.map_cons,List.nodup_cons] at hn;simp only [dI];rcases List.mem_cons.1 h with h | h
  ·cases h
   rw [show Nat.beq k' k'=true from Nat.beq_refl k']
  ·have:k'≠k:=fun e=>hn.1 (e ▸ List.mem_map.2 ⟨(k,x),h,rfl⟩)
   rw [show Nat.beq k' k=false from by
    cases hb:Nat.beq k' k with
    | false=>rfl
    | true=>exact absurd (Nat.eq_of_beq_eq_true hb) this]
   exact jB hn.2 h
theorem Pj {os:Tr} {k:Nat}:lk (gT os) k=(dI os k).map fun x=>some (fm x.2):=by
 induction os with
 | nil=>rfl
 | cons t os ih =>
  obtain ⟨k',x,ob⟩:=t
  show lk ((k',some (fm ob))::gT os) k=_
  rw [aP,ih];simp only [dI];by_cases h:k'=k
  ·subst h;simp
  ·have:Nat.beq k' k=false:=by
    cases hb:Nat.beq k' k with
    | false=>rfl
    | true=>exact absurd (Nat.eq_of_beq_eq_true hb) h
   simp [h,this]
theorem ol:∀{os:Tr} {o:Nat},o∈gp os↔∃k ob,(k,some o,ob)∈os
 | [],o=>by simp [gp]
 | (k,some o',ob)::os,o=>by
  simp only [gp,List.mem_cons,ol,Prod.mk.injEq,Option.some.injEq]
  constructor
  ·rintro (rfl | ⟨k',ob',h⟩)
   ·exact ⟨k,ob,.inl ⟨rfl,rfl,rfl⟩⟩
   ·exact ⟨k',ob',.inr h⟩
  ·rintro ⟨k',ob',⟨rfl,rfl,rfl⟩ | h⟩
   ·exact .inl rfl
   ·exact .inr ⟨k',ob',h⟩
 | (k,none,ob)::os,o=>by
  simp only [gp,ol,List.mem_cons,Prod.mk.injEq]
  constructor
  ·rintro ⟨k',ob',h⟩;exact ⟨k',ob',.inr h⟩
  ·rintro ⟨k',ob',⟨_,h,_⟩ | h⟩
   ·cases h
   ·exact ⟨k',ob',h⟩
theorem sD {o k k':Nat} {ob ob':Ob}:∀{os:Tr},(gp os).Nodup→(k,some o,ob)∈os→(k',some o,ob')∈os→k=k'
 | [],_,h,_=>by cases h
 | (k0,none,ob0)::os,hn,h,h'=>by
  have h1:(k,some o,ob)∈os:=by simpa using h
  have h2:(k',some o,ob')∈os:=by simpa using h'
  exact sD (os:=os) hn h1 h2
 | (k0,some o0,ob0)::os,hn,h,h'=>by
  obtain ⟨hn1,hn2⟩:=List.nodup_cons.1 (show (o0::gp os).Nodup from hn)
  rcases List.mem_cons.1 h with h | h
  ·injection h with e1 e2
   injection e2 with e2 e3
   injection e2 with e2
   rcases List.mem_cons.1 h' with h' | h'
   ·injection h' with f1 _
    rw [e1,f1]
   ·exact absurd (ol.2 ⟨_,_,e2 ▸ h'⟩) hn1
  ·rcases List.mem_cons.1 h' with h' | h'
   ·injection h' with f1 f2
    injection f2 with f2 f3
    injection f2 with f2
    exact absurd (ol.2 ⟨_,_,f2 ▸ h⟩) hn1
   ·exact sD (os:=os) hn2 h h'
theorem Gm {f:Nat→Nat} {E E':Env} (hw:bw E.wF E'.wF) (hst:∀k,E.st k=.absent∨∃s s',E.st k=.live s∧E'.st (f k)=.live s'∧s'.len=s.len∧(E'.mu (f k)).hd=(E.mu k).hd)
  {c c':SC} (h:mj f c=some c') {v:Value} (hv:ac E c v):ac E' c' v:=by
 unfold mj at h;split at h
 all_goals first | (cases h;exact hv) | skip
 ·cases h;exact ⟨hv.1,hv.2.mono hw⟩
 ·rename_i k
  cases h;obtain ⟨h1,h2⟩:=hv;rcases hst k with h3 | ⟨s,s',h3,h4,h5,h6⟩
  ·rw [h3] at h2;exact h2.elim
  ·rw [h3] at h2
   refine ⟨h1,?_⟩
   rw [h4]
   show v=_
   rw [h6];exact h2
 ·rename_i k i
  cases h;obtain ⟨h1,h2⟩:=hv;rcases hst k with h3 | ⟨s,s',h3,h4,h5,h6⟩
  ·rw [h3] at h2;exact h2.elim
  ·rw [h3] at h2
   obtain ⟨z1,z2⟩:=h2;refine ⟨h1,?_⟩
   rw [h4];refine ⟨by rw [h5];exact z1,?_⟩
   rw [h6];exact z2
 ·cases h
theorem Gn {f:Nat→Nat} {E E':Env} (hw:bw E.wF E'.wF) (hst:∀k,E.st k=.absent∨∃s s',E.st k=.live s∧E'.st (f k)=.live s'∧s'.len=s.len∧(E'.mu (f k)).hd=(E.mu k).hd)
  {cs cs':List SC} (h:dz (mj f) cs=some cs') {arr:Array Value} (hv:cw E cs arr):cw E' cs' arr:=by
 obtain ⟨h1,h2⟩:=fQ h;refine ⟨by rw [h1];exact hv.1,fun i c hi=>?_⟩
 obtain ⟨x,h3,h4⟩:=h2 i c hi;obtain ⟨u,h5,h6,h7⟩:=hv.2 i x h3;exact ⟨u,h5,h6,Gm hw hst h4 h7⟩
theorem Pk {P:Program} {f:Nat→Nat} {E E':Env} (hw:bw E.wF E'.wF) (hst:∀k,E.st k=.absent∨∃s s',E.st k=.live s∧E'.st (f k)=.live s'∧s'.len=s.len∧(E'.mu (f k)).hd=(E.mu k).hd)
  {c c':SV} (h:rE f c=some c') {v:Value} (hv:ak P E c v):ak P E' c' v:=by
 unfold rE at h;split at h
 ·split at h
  ·rename_i h1;cases h;exact Gm hw hst h1 hv
  ·cases h
 ·split at h
  ·rename_i h1;cases h;obtain ⟨arr,h2,h3⟩:=hv;exact ⟨arr,h2,Gn hw hst h1 h3⟩
  ·cases h
 ·split at h
  ·cases h;obtain ⟨arr,h2,h3,h4⟩:=hv;exact ⟨arr,h2,h3,fun i c hi=>by simp at hi⟩
  ·cases h
 ·cases h
theorem Gp {f:Nat→Nat} {E E':Env} (hw:bw E.wF E'.wF) (hst:∀k,E.st k=.absent∨∃s s',E.st k=.live s∧E'.st (f k)=.live s'∧s'.len=s.len∧(E'.mu (f k)).hd=(E.mu k).hd)
  {ob ob':Ob} (h:gL f ob=some ob') {w:World} {m:Img} (hv:aH E w m ob):aH E' w m ob':=by
 unfold gL at h;split at h
 ·split at h
  ·rename_i h1
   cases h;obtain ⟨b,arr,t,z1,z2,z3,z4⟩:=hv;exact ⟨b,arr,t,z1,z2,z3,Gn hw hst h1 z4⟩
  ·cases h
 ·split at h
  ·rename_i hok
   cases h;cases ob with
   | lst v e d =>
    obtain ⟨q1,vs,q2,q3⟩:=hv;exact ⟨q1,vs,q2,fun i u hi=>let ⟨r1,fc,r2,r3⟩:=q3 i u hi;⟨r1,fc,r2,r3.mono hw⟩⟩
   | yd v Y pre g=>exact ⟨hv.1,hv.2.1.trans hw,hv.2.2⟩
   | ints e k l=>exact hv
   | bools e l=>exact hv
   | rows v e ei k l=>exact hv
   | tr v es d=>exact hv
   | _=>cases hok
  ·cases h
theorem zB {f:Nat→Nat} {ob ob':Ob} (h:gL f ob=some ob'):ob'.shp=ob.shp∧ob'.isFz=false∧ob.isFz=false:=by
 unfold gL at h;split at h
 ·split at h
  ·rename_i h1
   cases h;exact ⟨by show (⟨_,_,_⟩:Shp)=⟨_,_,_⟩;rw [(fQ h1).1],rfl,rfl⟩
  ·cases h
 ·split at h
  ·rename_i hok
   cases h;refine ⟨rfl,?_,?_⟩ <;> cases ob <;> first | rfl | cases hok
  ·cases h
theorem Pl {E:Env} {w:World} {m:Img} {ob0 ob:Ob} (h:aH E w m ob):aH E w m (eJ ob0 ob):=by
 unfold eJ;split
 ·exact h
 ·exact h
theorem Pm {ob0 ob:Ob}:(eJ ob0 ob).shp.len=ob.shp.len:=by
 unfold eJ;split <;> rfl
theorem Gq {ob0 ob:Ob} (h:ob.isFz=false):(eJ ob0 ob).isFz=false:=by
 unfold eJ;split
 ·rfl
 ·exact h
theorem Gr {d:Nat} {os:Tr}:∀{O kept new:List (Nat×Option Ob)},nI d os O=some (kept,new) →
  (∀k x,(k,x)∈O→∃ob ob',x=some ob∧gL (dQ d os) ob=some ob'∧((∃o ob0,dI os k=some (some o,ob0)∧nH ob0 ob=true∧(o,some (eJ ob0 ob'))∈kept)∨(dI os k=none∧(d+1000 * k,some ob')∈new))) ∧
  (∀o y,(o,y)∈kept→∃k ob ob' ob0,(k,some ob)∈O∧dI os k=some (some o,ob0)∧gL (dQ d os) ob=some ob'∧nH ob0 ob=true∧y=some (eJ ob0 ob')) ∧
  (∀o y,(o,y)∈new→∃k ob ob',(k,some ob)∈O∧dI os k=none∧o=d+1000 * k∧gL (dQ d os) ob=some ob'∧y=some ob')
 | [],kept,new,h=>by
  cases h;exact ⟨fun k x hm=>(by cases hm),fun o y hm=>(by cases hm),fun o y hm=>(by cases hm)⟩
 | (k,none)::O,kept,new,h=>by cases h
 | (k,some ob)::O,kept,new,h=>by
  simp only [nI] at h;split at h
  ·cases h
  ·rename_i ob' hr
   split at h
   ·cases h
   ·rename_i kept' new' hu
    obtain ⟨i1,i2,i3⟩:=Gr hu;split at h
    ·rename_i o ob0 hlk
     split at h
     ·rename_i hok
      cases h;refine ⟨fun k' x hm=>?_,fun o' y hm=>?_,fun o' y hm=>?_⟩
      ·rcases List.mem_cons.1 hm with hm | hm
       ·cases hm
        exact ⟨_,_,rfl,hr,.inl ⟨o,ob0,hlk,hok,List.mem_cons_self⟩⟩
       ·obtain ⟨a1,a2,b1,b2,b3⟩:=i1 k' x hm
        refine ⟨a1,a2,b1,b2,b3.imp ?_ id⟩
        rintro ⟨o2,ob2,c1,c2,c3⟩
        exact ⟨o2,ob2,c1,c2,List.mem_cons_of_mem _ c3⟩
      ·rcases List.mem_cons.1 hm with hm | hm
       ·cases hm
        exact ⟨k,ob,ob',ob0,List.mem_cons_self,hlk,hr,hok,rfl⟩
       ·obtain ⟨k2,a1,a2,a3,b1,b2⟩:=i2 o' y hm
        exact ⟨k2,a1,a2,a3,List.mem_cons_of_mem _ b1,b2⟩
      ·obtain ⟨k2,a1,a2,b1,b2⟩:=i3 o' y hm
       exact ⟨k2,a1,a2,List.mem_cons_of_mem _ b1,b2⟩
     ·cases h
    ·cases h
    ·rename_i hlk
     cases h;refine ⟨fun k' x hm=>?_,fun o' y hm=>?_,fun o' y hm=>?_⟩
     ·rcases List.mem_cons.1 hm with hm | hm
      ·cases hm
       exact ⟨_,_,rfl,hr,.inr ⟨hlk,List.mem_cons_self⟩⟩
      ·obtain ⟨a1,a2,b1,b2,b3⟩:=i1 k' x hm
       refine ⟨a1,a2,b1,b2,b3.imp id ?_⟩
       rintro ⟨c1,c2⟩
       exact ⟨c1,List.mem_cons_of_mem _ c2⟩
     ·obtain ⟨k2,a1,a2,a3,b1,b2⟩:=i2 o' y hm
      exact ⟨k2,a1,a2,a3,List.mem_cons_of_mem _ b1,b2⟩
     ·rcases List.mem_cons.1 hm with hm | hm
      ·cases hm
       exact ⟨k,ob,ob',List.mem_cons_self,hlk,rfl,hr,rfl⟩
      ·obtain ⟨k2,a1,a2,b1,b2⟩:=i3 o' y hm
       exact ⟨k2,a1,a2,List.mem_cons_of_mem _ b1,b2⟩
theorem om {hp:List (Nat×Option Ob)}:∀{os:Tr} {o:Nat} {y:Option Ob},(o,y)∈cF hp os↔y=none∧∃k ob,(k,some o,ob)∈os∧lk hp k=none
 | [],o,y=>by simp [cF]
 | (k0,none,ob0)::os,o,y=>by
  rw [show cF hp ((k0,none,ob0)::os)=cF hp os from rfl,om]
  simp
 | (k0,some o0,ob0)::os,o,y=>by
  simp only [cF];cases hl:lk hp k0 with
  | none =>
   simp only [List.mem_cons,om,Prod.mk.injEq]
   constructor
   ·rintro (⟨rfl,rfl⟩ | ⟨rfl,k,ob,h1,h2⟩)
    ·exact ⟨rfl,k0,ob0,.inl ⟨rfl,rfl,rfl⟩,hl⟩
    ·exact ⟨rfl,k,ob,.inr h1,h2⟩
   ·rintro ⟨rfl,k,ob,⟨rfl,h1,rfl⟩ | h1,h2⟩
    ·injection h1 with h1;exact .inl ⟨h1,rfl⟩
    ·exact .inr ⟨rfl,k,ob,h1,h2⟩
  | some z =>
   simp only [om,List.mem_cons,Prod.mk.injEq]
   constructor
   ·rintro ⟨rfl,k,ob,h1,h2⟩;exact ⟨rfl,k,ob,.inr h1,h2⟩
   ·rintro ⟨rfl,k,ob,⟨rfl,_,_⟩ | h1,h2⟩
    ·rw [hl] at h2;cases h2
    ·exact ⟨rfl,k,ob,h1,h2⟩
def oo:Tr→Nat→Option Nat
 | [],_=>none
 | (k,some o',_)::l,o=>match Nat.beq o' o with
  | true=>some k
  | false=>oo l o
 | (_,none,_)::l,o=>oo l o
theorem zC {o k:Nat} {ob:Ob}:∀{os:Tr},(gp os).Nodup→(k,some o,ob)∈os→oo os o=some k
 | [],_,h=>by cases h
 | (k0,none,ob0)::os,hn,h=>zC (os:=os) hn (by simpa using h)
 | (k0,some o0,ob0)::os,hn,h=>by
  obtain ⟨hn1,hn2⟩:=List.nodup_cons.1 (show (o0::gp os).Nodup from hn)
  simp only [oo];rcases List.mem_cons.1 h with h | h
  ·injection h with e1 e2
   injection e2 with e2 e3
   injection e2 with e2
   rw [e2,show Nat.beq o0 o0=true from Nat.beq_refl o0,e1]
  ·have:o0≠o:=fun e=>hn1 (e ▸ ol.2 ⟨_,_,h⟩)
   rw [show Nat.beq o0 o=false from by
    cases hb:Nat.beq o0 o with
    | false=>rfl
    | true=>exact absurd (Nat.eq_of_beq_eq_true hb) this]
   exact zC hn2 h
theorem sE {α:Type}:∀{l:List (Nat×α)} {k:Nat} {x:α},(l.map (·.1)).Nodup→(k,x)∈l→lk l k=some x
 | [],k,x,_,h=>by cases h
 | (k',y)::l,k,x,hn,h=>by
  simp only [List.map_cons,List.nodup_cons] at hn;rw [aP];rcases List.mem_cons.1 h with h | h
  ·cases h;rw [if_pos rfl]
  ·have hne:¬ k'=k:=by
    intro e
    subst e;exact hn.1 (List.mem_map.2 ⟨_,h,rfl⟩)
   rw [if_neg hne];exact sE hn.2 h
theorem jC {α:Type}:∀{l:List (Nat×α)} {k:Nat} {x:α},lk l k=some x→(k,x)∈l
 | [],k,x,h=>by cases h
 | (k',y)::l,k,x,h=>by
  rw [aP] at h;split at h
  ·rename_i e;subst e;cases h;exact List.mem_cons_self
  ·exact List.mem_cons_of_mem _ (jC h)
theorem jD {α:Type}:∀{l:List (Nat×α)} {o:Nat},o∈l.map (·.1)→∃x,lk l o=some x
 | [],o,h=>by simp at h
 | (k,v)::l,o,h=>by
  rw [aP];by_cases hk:k=o
  ·exact ⟨v,by rw [if_pos hk]⟩
  ·rw [if_neg hk]
   refine jD ?_
   simp only [List.map_cons,List.mem_cons] at h;rcases h with h | h
   ·exact absurd h.symm hk
   ·exact h
theorem Gs (ob:Ob):(fm ob).isFz=ob.isFz:=by cases ob <;> rfl
theorem Pn {d:Nat} {f:FuncId} {mas:List MA} {os:Tr} {sv sv':SV} {O kept new:List (Nat×Option Ob)} (hrun:zn C.P f mas sv O) (h:St C σ mu a w)
  (hH:gT os=gj 0 mas) (hok:fT C σ mu os os) (hk:(os.map (·.1)).Nodup) (ho:(gp os).Nodup) (hO:(O.map (·.1)).Nodup)
  (hv:rE (dQ d os) sv=some sv') (hu:nI d os O=some (kept,new)) (Yj:∀o x,lk new o=some x→σ.H o=none)
  {vs:List Value} (hvl:vs.length=mas.length)
  (hargs:∀E',GoodT C mu os E'→∀(j:Nat) (x:MA),mas[j]?=some x→∃v,vs[j]?=some v∧ak C.P E' (nu (cz j) x) v)
  {pp:Option Prop} {dst:Option Nat} (hd:∀d,dst=some d→d<C.N) :
  Calls C.P f vs.toArray w fun e w'=>∃v,e=.returned v∧aq C (σ.app dst ⟨sv',new++(kept++cF O os),pp⟩) (a.put dst v) w':=by
 obtain ⟨muc,hmuc⟩:∃muc:Nat→Img,muc=fun k=>match dI os k with
  | some (some o,_)=>mu o
  | some (none,ob)=>oh ob
  | none=>⟨undef,[]⟩:=⟨_,rfl⟩
 obtain ⟨M,hM⟩:∃M:Nat→Prop,M=fun b=>∃k o ob,(k,some o,ob)∈os∧b∈(mu o).blocks:=⟨_,rfl⟩
 let C1:Cx:=⟨C.P,mas.length,w,C.wF,M,fun k=>match (dI os k).isSome&&(lk O k).isSome with | true=>some (muc k) | false=>none⟩
 have hHk:∀k,(dO mas).H k=(dI os k).map fun x=>some (fm x.2):=fun k=>by
  show lk (gj 0 mas) k=_
  rw [←hH,Pj]
 have hlive:∀k o ob,(k,some o,ob)∈os→∃ob0,σ.H o=some (some ob0)∧ob0.isFz=false∧ob.isFz=false∧muc k=mu o:=fun k o ob hm=>by
  obtain ⟨ob0,q1,q2,q3⟩:=hok k (some o) ob hm;refine ⟨ob0,q1,q2,?_,by rw [hmuc];simp only [jB hk hm]⟩
  rcases q3 with ⟨_,rfl⟩ | ⟨cs,cs',_,rfl,_⟩
  ·exact q2
  ·rfl
 have hnil:∀k ob,(k,none,ob)∈os→(∃t,io C.P t=some ob)∧muc k=oh ob:=fun k ob hm =>
  ⟨hok k none ob hm,by rw [hmuc];simp only [jB hk hm]⟩
 have hkey:∀k ob,(dO mas).H k=some (some ob)→∃x ob1,(k,x,ob1)∈os∧ob=fm ob1:=fun k ob hq=>by
  rw [hHk] at hq;cases hl:dI os k with
  | none=>rw [hl] at hq;cases hq
  | some y =>
   rw [hl] at hq;simp only [Option.map_some,Option.some.injEq] at hq;exact ⟨y.1,y.2,mD hl,hq.symm⟩
 have hnf:∀k x ob,(k,x,ob)∈os→ob.isFz=false:=fun k x ob hm=>by
  cases x with
  | some o=>obtain ⟨_,_,_,q,_⟩:=hlive k o ob hm;exact q
  | none=>obtain ⟨t,ht⟩:=(hnil k ob hm).1;exact (sC ht (E0 w) w).2.2
 have hgood:GoodT C mu os ((dO mas).env C.wF muc):=⟨rfl,fun k x ob hm=>by
  have hl:=jB hk hm
  refine ⟨?_,?_⟩
  ·show (dO mas).ost k=_
   have:(dO mas).H k=some (some (fm ob)):=by rw [hHk,hl];rfl
   exact bL this (by rw [Gs];exact hnf k x ob hm)
  ·cases x with
   | some o=>obtain ⟨_,_,_,_,q⟩:=hlive k o ob hm;exact q
   | none=>show (muc k).hd=_;rw [(hnil k ob hm).2];exact Pi ob⟩
 have hbl:∀k x ob,(k,x,ob)∈os→∀b∈(muc k).blocks,∃o ob0,x=some o∧σ.H o=some (some ob0)∧b∈(mu o).blocks:=fun k x ob hm b hb=>by
  cases x with
  | some o=>obtain ⟨ob0,q1,_,_,q⟩:=hlive k o ob hm;exact ⟨o,ob0,rfl,q1,by rw [←q];exact hb⟩
  | none =>
   obtain ⟨⟨t,ht⟩,q⟩:=hnil k ob hm;rw [q,(sC ht (E0 w) w).2.1] at hb;cases hb
 have hst:St C1 (dO mas) muc ⟨vs.toArray,[]⟩ w:=by
  refine ⟨.refl _,rfl,rfl,Nat.le_refl _,fun _ _ _=>rfl,fun p u hp=>⟨fun k ob hk2 hb=>?_,(h.cells p u hp).2⟩,by simp [C1,hvl],.nil,fun t sv ht=>?_,fun k ob hk2=>?_,fun k ob hk2=>⟨?_,fun b hb=>?_⟩,fun k k' ob ob' hne hk2 hk2' b hb hb'=>?_,fun k m hm=>?_⟩
  ·obtain ⟨x,ob1,q1,_⟩:=hkey k ob hk2
   obtain ⟨o,ob0,_,q3,q4⟩:=hbl k x ob1 q1 _ hb;exact (h.cells p u hp).1 o ob0 q3 q4
  ·obtain ⟨j,x,q1,q2,rfl⟩:=sB ht
   rw [Nat.zero_add] at q2;subst q2;obtain ⟨v,q3,q4⟩:=hargs _ hgood t x q1;have hlt:=(List.getElem?_eq_some_iff.1 q3).1
   have:(vs.toArray).getD t undef=v:=by
    rw [Array.getD_eq_getD_getElem?];simp [q3]
   rw [this];exact q4
  ·obtain ⟨x,ob1,q1,rfl⟩:=hkey k ob hk2
   cases x with
   | some o =>
    obtain ⟨ob0,z1,z2,z3⟩:=hok k (some o) ob1 q1;obtain ⟨_,_,_,_,z4⟩:=hlive k o ob1 q1;rw [z4];rcases z3 with ⟨z5,rfl⟩ | ⟨cs,cs',rfl,rfl,_,z5⟩
    ·exact Ph (E:=σ.env C.wF mu) (E':=(dO mas).env C1.wF muc) rfl (h.ob o _ z1) z5
    ·obtain ⟨b,arr,t,y1,y2,y3,y4⟩:=h.ob o _ z1
     exact ⟨b,arr,t,y1,y2,y3,z5 _ hgood arr y4⟩
   | none =>
    obtain ⟨⟨t,ht⟩,z4⟩:=hnil k ob1 q1;rw [z4,Gi ht];exact (sC ht _ w).1
  ·obtain ⟨x,ob1,q1,rfl⟩:=hkey k ob hk2
   cases x with
   | some o=>obtain ⟨ob0,z1,_,_,z4⟩:=hlive k o ob1 q1;rw [z4];exact (h.nd o ob0 z1).1
   | none=>obtain ⟨⟨t,ht⟩,z4⟩:=hnil k ob1 q1;rw [z4,(sC ht (E0 w) w).2.1];exact .nil
  ·obtain ⟨x,ob1,q1,rfl⟩:=hkey k ob hk2
   obtain ⟨o,ob0,rfl,_,q4⟩:=hbl k x ob1 q1 b hb;exact .inl (by show M b;rw [hM];exact ⟨k,o,ob1,q1,q4⟩)
  ·obtain ⟨x,ob1,q1,rfl⟩:=hkey k ob hk2
   obtain ⟨x',ob1',q1',rfl⟩:=hkey k' ob' hk2';obtain ⟨o,ob0,rfl,q3,q4⟩:=hbl k x ob1 q1 b hb;obtain ⟨o',ob0',rfl,q3',q4'⟩:=hbl k' x' ob1' q1' b hb';refine h.sep o o' ob0 ob0' (fun e=>hne ?_) q3 q3' b q4 q4'
   subst e;exact sD ho q1 q1'
  ·have hm:(match (dI os k).isSome&&(lk O k).isSome with | true=>some (muc k) | false=>none)=some m:=hm
   split at hm
   ·rename_i hb
    cases hm;simp only [Bool.and_eq_true] at hb;obtain ⟨y,hy⟩:=Option.isSome_iff_exists.1 hb.1;have hl:(dO mas).H k=some (some (fm y.2)):=by rw [hHk,hy];rfl
    rw [bL hl (by rw [Gs];exact hnf k y.1 y.2 (mD hy))]
    exact ⟨rfl,fun _=>rfl⟩
   ·cases hm
 have hpin:∀o m,C1.pin o=some m→o∈jo mas O:=fun k m hm=>by
  have hm:(match (dI os k).isSome&&(lk O k).isSome with | true=>some (muc k) | false=>none)=some m:=hm
  split at hm
  ·rename_i hb
   simp only [Bool.and_eq_true] at hb;unfold jo;rw [List.mem_filter];refine ⟨?_,hb.2⟩
   obtain ⟨y,hy⟩:=Option.isSome_iff_exists.1 hb.1;rw [←hH];exact List.mem_map.2 ⟨(k,some (fm y.2)),List.mem_map.2 ⟨(k,y),mD hy,rfl⟩,rfl⟩
  ·cases hm
 refine (hrun C1 muc vs w rfl rfl rfl hvl hpin hst).mono ?_
 rintro e w' ⟨v,rfl,wG,muo,hg,hst2⟩
 refine ⟨v,rfl,?_⟩
 obtain ⟨u1,u2,u3⟩:=Gr hu;obtain ⟨mu',hmu'⟩:∃mu':Nat→Img,mu'=fun o=>match lk new o with
  | some _=>muo ((o - d) / 1000)
  | none=>match lk kept o with
   | some _=>(match oo os o with | some k=>muo k | none=>mu o)
   | none=>mu o:=⟨_,rfl⟩
 have hnew:∀o y,lk new o=some y→∃k ob ob',lk O k=some (some ob)∧dI os k=none∧o=d+1000 * k∧gL (dQ d os) ob=some ob'∧y=some ob'∧mu' o=muo k:=fun o y hy=>by
  obtain ⟨k,ob,ob',q1,q2,q3,q4,q5⟩:=u3 o y (jC hy);refine ⟨k,ob,ob',sE hO q1,q2,q3,q4,q5,?_⟩
  rw [hmu'];simp only [hy];rw [show (o - d) / 1000=k by omega]
 have hkpt:∀o y,lk new o=none→lk kept o=some y→∃k ob ob' ob0 obx,lk O k=some (some ob)∧(k,some o,ob0)∈os∧gL (dQ d os) ob=some ob'∧nH ob0 ob=true∧y=some (eJ ob0 ob')∧mu' o=muo k∧σ.H o=some (some obx)∧obx.isFz=false∧muc k=mu o:=fun o y hn hy=>by
  obtain ⟨k,ob,ob',ob0,q1,q2,q3,q4,q5⟩:=u2 o y (jC hy);have hm:=mD q2
  obtain ⟨obx,z1,z2,_,z4⟩:=hlive k o ob0 hm;refine ⟨k,ob,ob',ob0,obx,sE hO q1,hm,q3,q4,q5,?_,z1,z2,z4⟩
  rw [hmu'];simp only [hn,hy,zC ho hm]
 have hdead:∀o y,lk (cF O os) o=some y→y=none∧∃k ob obx,(k,some o,ob)∈os∧σ.H o=some (some obx):=fun o y hy=>by
  obtain ⟨rfl,k,ob,q1,_⟩:=om.1 (jC hy);obtain ⟨obx,z1,_⟩:=hlive k o ob q1;exact ⟨rfl,k,ob,obx,q1,z1⟩
 have hσ':∀o,(σ.app dst ⟨sv',new++(kept++cF O os),pp⟩).H o=match lk new o with
   | some y=>some y
   | none=>match lk kept o with
    | some y=>some y
    | none=>match lk (cF O os) o with
     | some y=>some y
     | none=>σ.H o:=fun o=>by
  show lk ((new++(kept++cF O os))++σ.hp) o=_
  rw [fo,fo,fo];cases lk new o with
  | some y=>rfl
  | none =>
   cases lk kept o with
   | some y=>rfl
   | none=>cases lk (cF O os) o <;> rfl
 have hout:∀k ob,lk O k=some (some ob)→∃ob',gL (dQ d os) ob=some ob'∧ob.isFz=false∧(gI sv O).H k=some (some ob):=fun k ob hl=>by
  obtain ⟨ob1,ob',e1,e2,_⟩:=u1 k _ (jC hl);cases e1;exact ⟨ob',e2,(zB e2).2.2,hl⟩
 have hnm:∀k ob,lk O k=some (some ob)→∃ob',(σ.app dst ⟨sv',new++(kept++cF O os),pp⟩).H (dQ d os k)=some (some ob')∧ob'.isFz=false∧ob'.shp.len=ob.shp.len∧mu' (dQ d os k)=muo k:=fun k ob hl=>by
  obtain ⟨ob1,ob',e1,e2,e3⟩:=u1 k _ (jC hl);cases e1;obtain ⟨s1,s2,s3⟩:=zB e2;rcases e3 with ⟨o,ob0,z1,z2,z3⟩ | ⟨z1,z2⟩
  ·have hm:=mD z1
   obtain ⟨obx,y1,_⟩:=hlive k o ob0 hm;have hn:lk new o=none:=by
    cases hq:lk new o with
    | none=>rfl
    | some y=>have:=Yj o y hq;rw [y1] at this;cases this
   have hnmk:dQ d os k=o:=by simp only [dQ,z1]
   rw [hnmk];obtain ⟨y,hy⟩:=jD (List.mem_map.2 ⟨_,z3,rfl⟩);obtain ⟨k2,ob2,ob2',ob02,obx2,r1,r2,r3,r4,r5,r6,_⟩:=hkpt o y hn hy;have:k2=k:=sD ho r2 hm
   subst this;rw [hl] at r1;cases r1;rw [e2] at r3;cases r3;refine ⟨eJ ob02 ob',by rw [hσ',hn];simp only [hy,r5],Gq s2,?_,r6⟩
   rw [Pm,s1]
  ·have hnmk:dQ d os k=d+1000 * k:=by simp only [dQ,z1]
   rw [hnmk];obtain ⟨y,hy⟩:=jD (List.mem_map.2 ⟨_,z2,rfl⟩);obtain ⟨k2,ob2,ob2',r1,r2,r3,r4,r5,r6⟩:=hnew _ y hy;have:k2=k:=by omega
   subst this;rw [hl] at r1;cases r1;rw [e2] at r4;cases r4;exact ⟨ob',by rw [hσ',hy,r5],s2,by rw [s1],r6⟩
 have hkG:bw C.wF wG:=hg.kept
 have hstE:∀k,((gI sv O).env wG muo).st k=.absent∨∃s s',((gI sv O).env wG muo).st k=.live s∧((σ.app dst ⟨sv',new++(kept++cF O os),pp⟩).env wG mu').st (dQ d os k)=.live s'∧s'.len=s.len∧(mu' (dQ d os k)).hd=(muo k).hd:=fun k=>by
  cases hl:lk O k with
  | none=>left;show (gI sv O).ost k=_;simp only [State.ost,show (gI sv O).H k=none from hl]
  | some y =>
   cases y with
   | none=>obtain ⟨_,_,e1,_⟩:=u1 k _ (jC hl);cases e1
   | some ob =>
    obtain ⟨ob',z1,z2,z3⟩:=hout k ob hl;obtain ⟨ob2,y1,y2,y3,y4⟩:=hnm k ob hl;exact .inr ⟨_,_,bL z3 z2,bL y1 y2,y3,by rw [y4]⟩
 have hMo:∀b,M b→∃o ob0,σ.H o=some (some ob0)∧b∈(mu o).blocks:=fun b hb=>by
  rw [hM] at hb;obtain ⟨k,o,ob,q1,q2⟩:=hb;obtain ⟨ob0,z1,_⟩:=hlive k o ob q1;exact ⟨o,ob0,z1,q2⟩
 have hblk:∀k ob,lk O k=some (some ob)→(muo k).blocks.Nodup∧∀b∈(muo k).blocks,M b∨w.heap.size≤b:=fun k ob hl=>hst2.nd k ob (hout k ob hl).choose_spec.2.2
 have hfar:∀o ob,σ.H o=some (some ob)→lk new o=none→lk kept o=none→lk (cF O os) o=none→∀b,b∈(mu o).blocks→¬ M b:=fun o ob ho1 hn1 hn2 hn3 b hb hMb=>by
  rw [hM] at hMb;obtain ⟨k,o2,ob2,q1,q2⟩:=hMb;obtain ⟨obx,z1,_⟩:=hlive k o2 ob2 q1;have:o=o2:=Classical.byContradiction fun hne=>h.sep o o2 ob obx hne ho1 z1 b hb q2
  subst this;cases hl:lk O k with
  | none =>
   obtain ⟨y,hy⟩:=jD (List.mem_map.2 ⟨_,(om (hp:=O)).2 ⟨rfl,k,ob2,q1,hl⟩,rfl⟩);rw [hy] at hn3;cases hn3
  | some y =>
   obtain ⟨ob1,ob',e1,e2,e3⟩:=u1 k _ (jC hl);rcases e3 with ⟨o3,ob03,y1,y2,y3⟩ | ⟨y1,_⟩
   ·rw [jB hk q1] at y1
    cases y1;obtain ⟨y,hy⟩:=jD (List.mem_map.2 ⟨_,y3,rfl⟩);rw [hy] at hn2;cases hn2
   ·rw [jB hk q1] at y1;cases y1
 have hcase:∀o ob,(σ.app dst ⟨sv',new++(kept++cF O os),pp⟩).H o=some (some ob) →
   (∃k ob1,lk O k=some (some ob1)∧mu' o=muo k∧dQ d os k=o∧aH ((σ.app dst ⟨sv',new++(kept++cF O os),pp⟩).env wG mu') w' (muo k) ob) ∨
   (σ.H o=some (some ob)∧mu' o=mu o∧lk new o=none∧lk kept o=none∧lk (cF O os) o=none):=fun o ob hq=>by
  rw [hσ'] at hq;cases hn1:lk new o with
  | some y =>
   rw [hn1] at hq;obtain ⟨k,ob1,ob',q1,q2,q3,q4,q5,q6⟩:=hnew o y hn1;have hq:y=some ob:=by simpa using hq
   rw [q5] at hq;cases hq;have z3:=(hout k ob1 q1).choose_spec.2.2
   exact .inl ⟨k,ob1,q1,q6,by simp only [dQ,q2];exact q3.symm,Gp (E:=(gI sv O).env wG muo) (E':=(σ.app dst ⟨sv',new++(kept++cF O os),pp⟩).env wG mu') (fun _ _ h=>h) hstE q4 (hst2.ob k ob1 z3)⟩
  | none =>
   rw [hn1] at hq;cases hn2:lk kept o with
   | some y =>
    rw [hn2] at hq;obtain ⟨k,ob1,ob',ob0,obx,q1,q2,q3,q4,q5,q6,_⟩:=hkpt o y hn1 hn2;have hq:y=some ob:=by simpa using hq
    rw [q5] at hq;cases hq;have z3:=(hout k ob1 q1).choose_spec.2.2
    exact .inl ⟨k,ob1,q1,q6,by simp only [dQ,jB hk q2],Pl (Gp (E:=(gI sv O).env wG muo) (E':=(σ.app dst ⟨sv',new++(kept++cF O os),pp⟩).env wG mu') (fun _ _ h=>h) hstE q3 (hst2.ob k ob1 z3))⟩
   | none =>
    rw [hn2] at hq;cases hn3:lk (cF O os) o with
    | some y =>
     rw [hn3] at hq;obtain ⟨rfl,_⟩:=hdead o y hn3;cases hq
    | none =>
     rw [hn3] at hq;exact .inr ⟨hq,by rw [hmu'];simp only [hn1,hn2],rfl,rfl,rfl⟩
 refine ⟨wG,mu',⟨hkG,fun p u hp=>?_⟩,h.updG (mu':=mu') M hst2.os hst2.tape hst2.output hst2.size hMo (fun b hb hnM=>hst2.block b hb hnM) hkG (fun p u hp=>?_) (fun o=>?_) (fun o ob hq=>?_) (by rw [rH];exact h.sz) (rI _ _ _)
  (rJ h hd (Pk (E:=(gI sv O).env wG muo) (E':=(σ.app dst ⟨sv',new++(kept++cF O os),pp⟩).env wG mu') (fun _ _ h=>h) hstE hv (hst2.fr 0 sv rfl)))⟩
 ·rcases hg.new p u hp with q | q | q
  ·exact .inl q
  ·exact .inr (.inl (Nat.le_trans h.size q))
  ·obtain ⟨o,ob0,z1,z2⟩:=hMo _ q
   exact .inr ((h.nd o ob0 z1).2 _ z2).symm
 ·rcases hg.new p u hp with q | q
  ·exact .inl q
  ·refine .inr ⟨(hst2.cells p u hp).2,fun o ob hq hb=>?_⟩
   rcases hcase o ob hq with ⟨k,ob1,z1,z2,_,_⟩ | ⟨z1,z2,z3,z4,z5⟩
   ·rw [z2] at hb
    exact (hst2.cells p u hp).1 k ob1 z1 hb
   ·rw [z2] at hb
    rcases q with q | q
    ·have:=(h.ob o ob z1).block _ hb
     have q:w.heap.size≤p.block:=q
     omega
    ·exact hfar o ob z1 z3 z4 z5 _ hb q
 ·show dc wG (σ.ost o) (State.ost _ o) (mu o) (mu' o)
  cases hn1:lk new o with
  | some y =>
   have:=Yj o y hn1
   rw [show σ.ost o=.absent by simp only [State.ost,this]]
   exact .inl trivial
  | none =>
   cases hn2:lk kept o with
   | some y =>
    obtain ⟨k,ob1,ob',ob0,obx,q1,q2,q3,q4,q5,q6,q7,q8,q9⟩:=hkpt o y hn1 hn2;have hq:(σ.app dst ⟨sv',new++(kept++cF O os),pp⟩).H o=some (some (eJ ob0 ob')):=by rw [hσ',hn1];simp only [hn2,q5]
    obtain ⟨s1,s2,s3⟩:=zB q3;rw [bL q7 q8,bL hq (Gq s2)];have hp1:=hst2.pins k (mu o) (by
     show (match (dI os k).isSome&&(lk O k).isSome with | true=>some (muc k) | false=>none)=_
     rw [jB hk q2,q1];simp [q9])
    have hoE:=(hout k ob1 q1).choose_spec.2
    rw [bL hoE.2 hoE.1] at hp1;obtain ⟨hp2,hp3⟩:=hp1;obtain ⟨ob00,z1,z2,z3⟩:=hok k (some o) ob0 q2;rw [q7] at z1;cases z1;refine .inl ?_
    show (eJ ob0 ob').shp.len=obx.shp.len∧(mu' o).hd=(mu o).hd∧obx.shp.ver≤(eJ ob0 ob').shp.ver∧((eJ ob0 ob').shp.ver=obx.shp.ver→mu' o=mu o∧(eJ ob0 ob').shp.rl=obx.shp.rl)
    rw [q6];unfold nH at q4;split at q4
    ·rename_i cs0 cs1
     rcases z3 with ⟨z5,rfl⟩ | ⟨cs,cs',rfl,z5,z6,_⟩
     ·cases z5
     ·cases z5
      have hl:=Nat.eq_of_beq_eq_true q4
      show ob'.shp.len=cs.length∧(muo k).hd=(mu o).hd∧0≤ob'.shp.ver∧(ob'.shp.ver=0→muo k=mu o∧ob'.shp.rl=[])
      rw [s1];exact ⟨by show cs1.length=cs.length;omega,hp2,Nat.zero_le _,fun _=>⟨hp3 rfl,rfl⟩⟩
    ·rename_i v0 Y0 p0 b0 v1 Y1 p1 b1
     rcases z3 with ⟨z5,rfl⟩ | ⟨cs,cs',rfl,z5,z6,_⟩
     ·have:ob'=.yd v1 Y1 p1 b1:=by
       have q3':some (Ob.yd v1 Y1 p1 b1)=some ob':=q3
       exact (Option.some.inj q3').symm
      subst this
      show (0:Nat)=0∧(muo k).hd=(mu o).hd∧v0≤v0+v1∧(v0+v1=v0→muo k=mu o∧([]:List Nat)=[])
      exact ⟨rfl,hp2,by omega,fun hvv=>⟨hp3 (show v1=0 by omega),rfl⟩⟩
     ·cases z5
    ·cases q4
   | none =>
    cases hn3:lk (cF O os) o with
    | some y =>
     obtain ⟨rfl,k,ob1,obx,q1,q2⟩:=hdead o y hn3;have hq:(σ.app dst ⟨sv',new++(kept++cF O os),pp⟩).H o=some none:=by rw [hσ',hn1];simp only [hn2,hn3]
     rw [show State.ost (σ.app dst ⟨sv',new++(kept++cF O os),pp⟩) o=.dead by simp only [State.ost,hq]]
     exact .inl (rK q2)
    | none =>
     have hq:(σ.app dst ⟨sv',new++(kept++cF O os),pp⟩).H o=σ.H o:=by rw [hσ',hn1];simp only [hn2,hn3]
     rw [show State.ost (σ.app dst ⟨sv',new++(kept++cF O os),pp⟩) o=σ.ost o by simp only [State.ost,hq],show mu' o=mu o by rw [hmu'];simp only [hn1,hn2]]
     exact dc.refl _ _ _
 ·rcases hcase o ob hq with ⟨k,ob1,z1,z2,z3,z4⟩ | ⟨z1,z2,z3,z4,z5⟩
  ·refine .inr ⟨by rw [z2];exact z4,by rw [z2];exact (hblk k ob1 z1).1,by rw [z2];exact (hblk k ob1 z1).2,fun o' ob' hne hq'=>?_⟩
   rcases hcase o' ob' hq' with ⟨k',ob1',y1,y2,y3,y4⟩ | ⟨y1,y2,y3,y4,y5⟩
   ·refine .inr fun b hb hb'=>?_
    rw [z2] at hb;rw [y2] at hb';exact hst2.sep k k' ob1 ob1' (fun e=>hne (by rw [←z3,←y3,e])) z1 y1 b hb hb'
   ·exact .inl ⟨y1,y2,hfar o' ob' y1 y3 y4 y5⟩
  ·exact .inl ⟨z1,z2,hfar o ob z1 z3 z4 z5⟩
theorem Po {Γ:FuncId→Option Ctr} (hΓ:cB C.P Γ) {d:Nat} {f:FuncId} {svs:List SV} {ts:List TypeId} {eff:Eff} (hm:yr (Γ f)=true) (hr:(yt C.P d (Γ f) svs ts).run σ=some eff) (hob:eff.obl) (h:St C σ mu a w)
  {vs:List Value} (hvl:vs.length=svs.length) (hvs:∀(i:Nat) (sv:SV),svs[i]?=some sv→∃v,vs[i]?=some v∧ak C.P (σ.env C.wF mu) sv v) {dst:Option Nat} (hd:∀d,dst=some d→d<C.N) :
  (∃fn,C.P.funcs[f]?=some fn∧fn.body.isSome=true∧(fn.name == "runtime.NumGoroutine")=false) ∧
  Calls C.P f vs.toArray w fun e w'=>∃v,e=.returned v∧aq C (σ.app dst eff) (a.put dst v) w':=by
 unfold yr at hm;split at hm
 ·rename_i ct hct
  have hf:=hΓ f _ hct
  refine ⟨hf.fn,?_⟩
  rw [hct] at hr;simp only [yt] at hr;obtain ⟨mas,os,h1,h2,h3,h4,h5⟩:=Gl (C:=C) (mu:=mu) svs 0 ts _ _ hr;split at h1
  ·rename_i pre sv ex outs hpost
   split at h1
   ·rename_i hnd
    simp only [Bool.and_eq_true] at hnd;split at h1
    ·rename_i sv' kept new hv hu
     obtain ⟨h6,Yj⟩:=i5 h1;simp only [Rd.run,Option.some.injEq] at h6;subst h6;refine Pn (hf.st rfl mas pre sv ex outs hpost hob) h h2 (h4 os fun t ht=>ht) (i4 hnd.1.1) (i4 hnd.1.2) (i4 hnd.2) hv hu Yj (by rw [hvl,h3]) (fun E' hg j x hj=>?_) hd
     obtain ⟨sv2,q1,q2⟩:=h5 os E' (fun t ht=>ht) hg j x hj
     obtain ⟨v,q3,q4⟩:=hvs j sv2 q1;rw [Nat.zero_add] at q2;exact ⟨v,q3,q2 v q4⟩
    ·cases h1
   ·cases h1
  ·cases h1
 ·cases hm
theorem Pp {o i:Nat} {eff:Eff} (hr:(yJ C.P o i).run σ=some eff) (hob:eff.obl) (h:St C σ mu a w) {v0 v:Value} (h0:ac (σ.env C.wF mu) (.own o) v0) (hv:ac (σ.env C.wF mu) (.own i) v)
  {dst:Option Nat} (hd:∀d,dst=some d→d<C.N):∃l,v0=.func (.yield l) #[] #[]∧YieldAt Fence.wide 0 C.P l #[v] w fun e w'=>∃u,e=.returned u∧aq C (σ.app dst eff) (a.put dst u) w':=by
 unfold yJ at hr;split at hr
 ·cases hr
 ·rename_i hne
  have hne:o≠i:=Nat.ne_of_beq_eq_false hne
  obtain ⟨ob,ho,hr⟩:=aG hr;split at hr
  ·rename_i yv Y pre b
   obtain ⟨ob2,hi,hr⟩:=aG hr;split at hr
   ·rename_i e k x
    split at hr
    ·simp only [Rd.run,Option.some.injEq] at hr
     subst hr;obtain ⟨hP,rfl,rfl,hok⟩:Y.P=C.P∧Y.e=e∧b=true∧Y.ok pre x:=hob;have hv0:v0=(mu o).hd:=az ho h0
     have hvi:v=(mu i).hd:=az hi hv
     obtain ⟨y1,y2,y3,y4⟩:=h.ob o _ ho;obtain ⟨z1,z2⟩:=h.ob i _ hi;rw [←hvi] at z2;have hbi:∀b,ab v=some b→b∈(mu i).blocks:=fun b hb=>bz (by rw [←hvi];exact hb)
     refine ⟨Y.l,by rw [hv0,y1],?_⟩
     have hsp:=Y.spec pre x w (mu o).blocks v y3 hok (h.nd o _ ho).1 y4 hv.1 z2 (fun k hk hc=>h.sep o i _ _ hne ho hi k hk (hbi k hc)) (fun p u hp=>⟨(h.cells p u (y2 p u hp)).2,fun hc=>(h.cells p u (y2 p u hp)).1 i _ hi (hbi _ hc)⟩)
     rw [hP] at hsp;obtain ⟨fn,tmps,assign,body,s1,s2⟩:=hsp;refine ⟨fn,tmps,assign,body,s1,s2.mono ?_⟩
     rintro e w' ⟨S',rfl,q1,q2,q3,q4,q5,q6,q7,q8,q9,q10⟩
     refine ⟨_,rfl,?_⟩
     let m':Img:=⟨.func (.yield Y.l) #[] #[],S'.map fun b=>.pointer (some ⟨b,0,none⟩)⟩
     have hm':m'.blocks=S':=by
      show (ab (.func (.yield Y.l) #[] #[])).toList++(S'.map fun b=>Value.pointer (some ⟨b,0,none⟩)).filterMap ab=S'
      rw [List.filterMap_map]
      show []++S'.filterMap (fun b=>some b)=S'
      simp
     let mu':Nat→Img:=fun x=>if x=o then m' else mu x
     have hmo:mu' o=m':=if_pos rfl
     have hmx:∀x,x≠o→mu' x=mu x:=fun x hx=>if_neg hx
     obtain ⟨eff,heff⟩:∃eff:Eff,eff=⟨.c (.bool (Y.go pre x)),[(o,some (.yd (yv+1) Y (pre++[x]) (Y.go pre x)))],some (Y.P=C.P∧Y.e=Y.e∧true=true∧Y.ok pre x)⟩:=⟨_,rfl⟩;rw [←heff];have hH:∀y,(σ.app dst eff).H y=if o=y then some (some (.yd (yv+1) Y (pre++[x]) (Y.go pre x))) else σ.H y:=fun y=>by
      rw [heff]
      show lk ([(o,_)]++σ.hp) y=_
      rw [fo,aP];by_cases hy:o=y
      ·rw [if_pos hy,if_pos hy]
      ·rw [if_neg hy,if_neg hy];rfl
     have hHo:(σ.app dst eff).H o=some (some (.yd (yv+1) Y (pre++[x]) (Y.go pre x))):=by rw [hH,if_pos rfl]
     have hHx:∀y,y≠o→(σ.app dst eff).H y=σ.H y:=fun y hy=>by rw [hH,if_neg (fun e=>hy e.symm)]
     have hblt:∀y ob',σ.H y=some (some ob')→∀b∈(mu y).blocks,b<w.heap.size:=fun y ob' hy=>(h.ob y ob' hy).block
     have hfar:∀y ob',y≠o→y≠i→σ.H y=some (some ob')→∀b∈(mu y).blocks,¬ (b∈(mu o).blocks∨b∈(mu i).blocks):=fun y ob' hyo hyi hy b hb hc=>by
      rcases hc with hc | hc
      ·exact h.sep y o ob' _ hyo hy ho b hb hc
      ·exact h.sep y i ob' _ hyi hy hi b hb hc
     have hoi:∀b∈S',b ∉ (mu i).blocks:=fun b hb hc=>by
      rcases (q4 b hb).1 with z | z
      ·exact h.sep o i _ _ hne ho hi b z hc
      ·have:=hblt i _ hi b hc;omega
     refine St.ex (h.upd (fun k=>k∈(mu o).blocks∨k∈(mu i).blocks) q6 q7 q8 q9 ?_ ?_ (mu':=mu') ?_ ?_ (by rw [rH];exact h.sz) (rI _ _ _) (rJ h hd (by rw [heff];rfl)))
     ·rintro k (hk | hk)
      ·exact ⟨o,_,ho,hk⟩
      ·exact ⟨i,_,hi,hk⟩
     ·intro k hk hS
      exact q10 k hk (fun hc=>hS (.inl hc)) (fun hc=>hS (.inr (hbi k hc)))
     ·intro y
      by_cases hy:y=o
      ·subst hy
       rw [bL ho,bL hHo,hmo];exact ⟨rfl,y1.symm,by show yv≤yv+1;omega,fun hc=>by have hc:yv+1=yv:=hc;omega⟩
      ·rw [hmx y hy,show State.ost (σ.app dst eff) y=σ.ost y by simp only [State.ost,hHx y hy]]
       exact di.refl _ _
     ·intro y ob' hy
      by_cases hyo:y=o
      ·subst hyo
       rw [hHo] at hy;cases hy;refine .inr ⟨by rw [hmo];exact ⟨rfl,y2,by rw [hm'];exact q1,by rw [hm'];exact fun k hk=>(q4 k hk).2⟩,by rw [hmo,hm'];exact q2,fun k hk=>?_,fun y' ob2 hne' hy'=>?_⟩
       ·rw [hmo,hm'] at hk
        exact (q4 k hk).1.imp .inl id
       ·rw [hHx y' (fun e=>hne' e.symm)] at hy'
        by_cases hyi:y'=i
        ·subst hyi
         refine .inr fun b hb hc=>?_
         rw [hmo,hm'] at hb;rw [hmx y' (fun e=>hne' e.symm)] at hc
         exact hoi b hb hc
        ·exact .inl ⟨hy',hmx y' (fun e=>hne' e.symm),hfar y' ob2 (fun e=>hne' e.symm) hyi hy'⟩
      ·rw [hHx y hyo] at hy
       by_cases hyi:y=i
       ·subst hyi
        rw [hi] at hy;cases hy;rw [hmx y hyo];refine .inr ⟨⟨z1,by rw [←hvi];exact q5⟩,(h.nd y _ hi).1,fun k hk=>.inl (.inr hk),fun y' ob2 hne' hy'=>?_⟩
        by_cases hyo':y'=o
        ·subst hyo'
         refine .inr fun b hb hc=>?_
         rw [hmo,hm'] at hc;exact hoi b hc hb
        ·rw [hHx y' hyo'] at hy'
         exact .inl ⟨hy',hmx y' hyo',hfar y' ob2 hyo' (fun e=>hne' e.symm) hy'⟩
       ·exact .inl ⟨hy,hmx y hyo,hfar y ob' hyo hyi hy⟩
    ·cases hr
   ·cases hr
  ·cases hr
end
end Go.Sx
end
