/- SxL -/
import Derived.Test.YtkmldclpaniclaaGreatSxK
set_option linter.unusedSimpArgs false
set_option linter.unusedVariables false
set_option linter.defProp false
namespace Go.Sx
open Go.RowKit
theorem Pq{P:Program}{α β:Type}{g:α->Sem β}{g':α->β}{w:World}:∀(l:List α),(∀x∈l,(g x).run P w=.ok (g' x) w)->(l.mapM g).run P w=.ok (l.map g') w
 | [],_=>by simp
 |x::l,h=>by
  have h1:=h x (by simp)
  have h2:=Pq l fun y hy=>h y (by simp[hy])
  simp[List.mapM_cons,h1,h2]
theorem Pr{P:Program}{α β:Type}{g:α->Sem β}{g':α->β}{w:World}(l:Array α)(h:∀x∈l,(g x).run P w=.ok (g' x) w):(l.mapM g).run P w=.ok (l.map g') w:=by
 obtain⟨l⟩:=l;rw[List.mapM_toArray,Sem.run_map,Pq l fun x hx=>h x (by simpa using hx)]
 simp
theorem xd(off:Nat):∀(l:List (Value×Nat)) (arr:Array Value) (j:Nat),
  (l.foldl (fun cs (p:Value×Nat)=>cs.setIfInBounds (off+p.2) p.1) arr).size=arr.size/\((∀p∈l,off+p.2≠j)->(l.foldl (fun cs (p:Value×Nat)=>cs.setIfInBounds (off+p.2) p.1) arr)[j]?=arr[j]?)
 | [],arr,j=>by simp
 |p::l,arr,j=>by
  obtain⟨h1,h2⟩:=xd off l (arr.setIfInBounds (off+p.2) p.1) j;refine⟨by rw[DL,h1];simp,fun h=>?_⟩
  rw[DL,h2 fun q hq=>h q (by simp[hq]),Bo (h p (by simp))]
theorem Ps(off:Nat):∀(vs:List Value) (k:Nat) (arr:Array Value),off+k+vs.length<=arr.size->∀i v,vs[i]?=some v ->
  ((vs.zipIdx k).foldl (fun cs (p:Value×Nat)=>cs.setIfInBounds (off+p.2) p.1) arr)[off+k+i]?=some v
 | [],k,arr,_,i,v,h=>by simp at h
 |u::vs,k,arr,hle,i,v,h=>by
  rw[List.zipIdx_cons,DL];simp only[AR]at hle;cases i with
  |zero =>
   simp at h;subst h
   rw[(xd off (vs.zipIdx (k+1)) _ (off+k+0)).2 fun p hp=>?_]
   ·simp[show off+k<arr.size by omega]
   ·have:=List.le_snd_of_mem_zipIdx hp
    omega
  |succ i =>
   have:=Ps off vs (k+1) (arr.setIfInBounds (off+k) u) (by simp;omega) i v (by simpa using h)
   rw[show off+k+(i+1)=off+(k+1)+i by omega]
   exact this
theorem ZH{off:Nat}{vs arr:Array Value}(hle:off+vs.size<=arr.size) :
  let r:=vs.zipIdx.foldl (fun cs (p:Value×Nat)=>cs.setIfInBounds (off+p.2) p.1) arr
  r.size=arr.size/\(∀j,j<off\/off+vs.size<=j->r[j]?=arr[j]?)/\∀i v,vs[i]?=some v->r[off+i]?=some v:=by
 obtain⟨vs⟩:=vs;intro r
 have hr:r=(vs.zipIdx 0).foldl (fun cs (p:Value×Nat)=>cs.setIfInBounds (off+p.2) p.1) arr:=by
  simp only[r];rw[<-Array.foldl_toList];simp
 rw[hr];simp only[CC]at hle;refine⟨(xd off _ arr 0).1,fun j hj=>(xd off _ arr j).2 fun p hp=>?_,fun i v hi=>?_⟩
 ·have h1:=List.snd_lt_of_mem_zipIdx hp
  have h2:(⟨vs⟩:Array Value).size=vs.length:=rfl
  rw[h2]at hj;omega
 ·have:=Ps off vs 0 arr (by omega) i v (by simpa using hi)
  simpa using this
section
variable {C:Cx} {σ:State} {mu:Nat->Img} {a:Act} {w w':World}
theorem ZI{E:Env}{cs l:List SC}{arr vs:Array Value}{off:Nat}(h:c9 E cs arr)(hv:c9 E l vs)(hle:off+l.length<=cs.length) :
  c9 E (cs.take off++l++cs.drop (off+l.length)) (vs.zipIdx.foldl (fun cs (p:Value×Nat)=>cs.setIfInBounds (off+p.2) p.1) arr):=by
 obtain⟨h1,h2,h3⟩:=ZH (off:=off) (vs:=vs) (arr:=arr) (by rw[hv.1,h.1];exact hle)
 refine⟨by rw[h1,h.1];simp;omega,fun j c hj=>?_⟩
 by_cases c1:j<off
 ·rw[Ap,Am (by simp;omega),Au,AA c1]at hj
  rw[h2 j (.inl c1)];exact h.2 j c hj
 ·by_cases c2:j<off+l.length
  ·rw[Am (by simp;omega),Aq (by simp;omega)]at hj
   have e1:(List.take off cs).length=off:=by simp;omega
   rw[e1]at hj;obtain⟨u,h4,h5⟩:=hv.2 _ c hj;refine⟨u,?_,h5⟩
   have:=h3 (j-off) u h4
   rwa[show off+(j-off)=j by omega]at this
  ·rw[Aq (by simp;omega)]at hj
   have e1:(List.take off cs++l).length=off+l.length:=by simp;omega
   rw[e1,A9,show off+l.length+(j-(off+l.length))=j by omega]at hj
   rw[h2 j (.inr (by rw[hv.1];omega))]
   exact h.2 j c hj
theorem ZJ{E:Env}{sv:SV}{v:Value}{l:List SC}(h:jR sv=some l)(hv:aw C.P E sv v):c9 E l v.cells:=by
 unfold jR at h;split at h
 ·rename_i c
  split at h
  ·rename_i hp
   cases h;have h1:=qQ hp hv
   rw[qR h1];refine⟨rfl,fun i c' hc'=>?_⟩
   cases i with
   |zero=>simp at hc';subst hc';exact⟨v,rfl,h1,hv⟩
   |succ i=>simp at hc'
  ·cases h
 ·cases h
  obtain⟨arr,rfl,h1⟩:=hv;exact h1
 ·cases h
theorem Pt{fs:Array Field}{place:Nat->Option (Nat×Nat)}(hp:∀(i:Nat) (fd:Field),fs[i]?=some fd->∀n,cK C.P fd.type=some n->place i=some (fd.offset,n))(h:St C σ mu a w) :
  ∀(parts:List (Nat×Operand)) (cs:List SC) (arr:Array Value) (k:List SC->Rd Eff) (r:Eff),(wv C.P fs parts cs k).run σ=some r->c9 (σ.env C.wF mu) cs arr ->
   ∃cs' arr',(k cs').run σ=some r/\c9 (σ.env C.wF mu) cs' arr'/\Instr.fill place arr (parts.map fun(i,x)=>(i,a.eval x))=some arr'
 | [],cs,arr,k,r,hr,χ=>⟨cs,arr,hr,χ,rfl⟩
 |(i,x)::parts,cs,arr,k,r,hr,χ=>by
  simp only[wv]at hr;obtain⟨sv,hr2,hv⟩:=iU hr h;clear hr;split at hr2
  ·simp[Rd.run]at hr2
  ·rename_i l hl
   split at hr2
   ·simp[Rd.run]at hr2
   ·rename_i fd hfd
    split at hr2
    ·rename_i hc
     have hlv:=ZJ hl hv
     have hpl:=hp i fd hfd _ hc.1
     obtain⟨cs',arr',h1,h2,h3⟩:=Pt hp h parts _ _ k r hr2 (ZI χ hlv hc.2);refine⟨cs',arr',h1,h2,?_⟩
     simp only[BP,Instr.fill,hpl];have e1:(a.eval x).cells.size=l.length:=hlv.1
     have e2:¬ (arr.size<fd.offset+l.length):=by rw[χ.1];have:=hc.2;omega
     simp only[e1,ne_eq,Bz,decide_false,Bool.false_or,gt_iff_lt,e2];exact h3
    ·simp[Rd.run]at hr2
theorem ZK{t:TypeId}{parts:Array (Nat×Operand)}{eff:Eff}(hr:(GH C.P t parts).run σ=some eff)(h:St C σ mu a w) :
  eff.hp=[]/\∃v,(Instr.build t (parts.map fun(i,x)=>(i,a.eval x))).run C.P w=.ok v w/\aw C.P (σ.env C.wF mu) eff.val v:=by
 unfold GH at hr;split at hr
 ·simp[Rd.run]at hr
 ·rename_i cs hcs
  obtain⟨z,hz,χ⟩:=oY hcs w (σ.env C.wF mu);split at hr
  ·rename_i fs hu
   split at hr
   ·rename_i ns hns
    obtain⟨n1,n2⟩:=im hns;have hsz:∀f∈fs,cK C.P f.type=some (C.P.cellsOf f.type):=fun f hf=>by
     obtain⟨i,hi⟩:=Ah (DM.2 hf);have ψ:i<ns.length:=by rw[n1];exact(AJ.1 hi).1
     obtain⟨x,h1,h2⟩:=n2 i ns[i] (AF ψ);have:x=f:=BE (h1.symm.trans hi)
     subst this;unfold cK at h2⊢;split at h2
     ·rename_i inf hinf;simp[hinf,Program.cellsOf]
     ·cases h2
    have hmap:(fs.mapM fun f=>(do pure (f.offset,<-sizeOf f.type):Sem (Nat×Nat))).run C.P w=.ok (fs.map fun f=>(f.offset,C.P.cellsOf f.type)) w :=
     Pr fs fun f hf=>by simp[gn (hsz f hf)]
    obtain⟨cs',arr',h1,h2,h3⟩:=Pt (fs:=fs) (place:=fun i=>(fs.map fun f=>(f.offset,C.P.cellsOf f.type))[i]?) (fun i fd hfd n hn=>by
     rw[DI,hfd];have:=hsz fd (Array.mem_of_getElem? hfd)
     rw[hn]at this;cases this;rfl) h parts.toList cs z.cells _ eff hr χ
    simp only[Rd.run,AC]at h1;subst h1;refine⟨rfl,.agg arr',?_,arr',rfl,h2⟩
    simp only[Instr.build,Sem.run_bind,hz,Result.andThen_ok,run_underlying hu,hmap];have:(parts.map fun(i,x)=>(i,a.eval x)).toList=parts.toList.map fun(i,x)=>(i,a.eval x):=by simp
    rw[this,h3];simp
   ·simp[Rd.run]at hr
  ·simp[Rd.run]at hr
theorem j9{α:Type}(h:St C σ mu a w):∀(xs:List Operand) (k:List SV->Rd α) (r:α),(iQ xs k).run σ=some r ->
  ∃svs,(k svs).run σ=some r/\svs.length=xs.length/\∀(i:Nat) (sv:SV),svs[i]?=some sv->∃x,xs[i]?=some x/\aw C.P (σ.env C.wF mu) sv (a.eval x)
 | [],k,r,hr=>⟨[],hr,rfl,fun i sv h=>by simp at h⟩
 |x::xs,k,r,hr=>by
  simp only[iQ]at hr;obtain⟨sv,hr2,hv⟩:=iU hr h;obtain⟨svs,h1,h2,h3⟩:=j9 h xs _ r hr2;refine⟨sv::svs,h1,by simp[h2],fun i sv' hi=>?_⟩
  cases i with
  |zero=>simp at hi;subst hi;exact⟨x,by simp,hv⟩
  |succ i=>simp at hi;obtain⟨x',h4,h5⟩:=h3 i sv' hi;exact⟨x',by simpa using h4,h5⟩
theorem Pu{E:Env}{k:IntKind}:∀{svs:List SV} {l:Db},qy k svs=some l->l.length=svs.length/\∀(i:Nat) (sv:SV),svs[i]?=some sv->∀v,aw C.P E sv v->∃n,l[i]?=some n/\v=.int k n
 | [],l,h=>by simp[qy]at h;subst h;simp
 |sv::svs,l,h=>by
  unfold qy at h;split at h
  ·rename_i h0;cases h0
  ·rename_i k' n rest hcons
   cases hcons;split at h
   ·rename_i hk
    split at h
    ·rename_i ns hns
     cases h;obtain⟨h1,h2⟩:=Pu (E:=E) hns;refine⟨by simp[h1],fun i sv hi v hv=>?_⟩
     cases i with
     |zero=>simp at hi;subst hi;exact⟨n,by simp,by simp only[aw,ai]at hv;rw[hv,hk]⟩
     |succ i=>simp at hi;obtain⟨m,h3,h4⟩:=h2 i sv hi v hv;exact⟨m,by simpa using h3,h4⟩
    ·cases h
   ·cases h
  ·cases h
theorem Pv{E:Env}:∀{svs:List SV} {l:List Bool},qz svs=some l->l.length=svs.length/\∀(i:Nat) (sv:SV),svs[i]?=some sv->∀v,aw C.P E sv v->∃n,l[i]?=some n/\v=.bool n
 | [],l,h=>by simp[qz]at h;subst h;simp
 |sv::svs,l,h=>by
  unfold qz at h;split at h
  ·rename_i h0;cases h0
  ·rename_i b rest hcons
   cases hcons;split at h
   ·rename_i ns hns
    cases h;obtain⟨h1,h2⟩:=Pv (E:=E) hns;refine⟨by simp[h1],fun i sv hi v hv=>?_⟩
    cases i with
    |zero=>simp at hi;subst hi;exact⟨b,by simp,hv⟩
    |succ i=>simp at hi;obtain⟨m,h3,h4⟩:=h2 i sv hi v hv;exact⟨m,by simpa using h3,h4⟩
   ·cases h
  ·cases h
theorem Pw{E:Env}:∀{svs:List SV} {l:List (List UInt8)},qA svs=some l->l.length=svs.length/\∀(i:Nat) (sv:SV),svs[i]?=some sv->∀v,aw C.P E sv v->∃n,l[i]?=some n/\v=oF n
 | [],l,h=>by simp[qA]at h;subst h;simp
 |sv::svs,l,h=>by
  unfold qA at h;split at h
  ·rename_i h0;cases h0
  ·rename_i b rest hcons
   cases hcons;split at h
   ·rename_i ns hns
    cases h;obtain⟨h1,h2⟩:=Pw (E:=E) hns;refine⟨by simp[h1],fun i sv hi v hv=>?_⟩
    cases i with
    |zero=>simp at hi;subst hi;exact⟨b,by simp,hv⟩
    |succ i=>simp at hi;obtain⟨m,h3,h4⟩:=h2 i sv hi v hv;exact⟨m,by simpa using h3,h4⟩
   ·cases h
  ·cases h
theorem HY:∀{l:List FC} {dd:FC},gO l=some dd->dd.wid=1
 | [],_,h=>by cases h
 |x::l,dd,h=>by
  unfold gO at h
  repeat' split at h
  all_goals first|(cases h;done)|(cases h;rfl)
theorem Px:∀{l:List FC} {dd:FC},gO l=some dd->dd.len=l.length/\∀(i:Nat) (fc:FC),l[i]?=some fc->dd.elem i=some fc/\dt fc=false
 | [],_,h=>by cases h
 |x::l,dd,h=>by
  unfold gO at h;split at h
  ·rename_i heq;cases heq
  ·rename_i heq;cases heq;cases h
   refine⟨rfl,fun i fc hi=>?_⟩
   match i,hi with
   |0,hi=>simp at hi;subst hi;exact⟨rfl,rfl⟩
   |i+1,hi=>simp at hi
  ·rename_i heq;cases heq;cases h
   refine⟨rfl,fun i fc hi=>?_⟩
   match i,hi with
   |0,hi=>simp at hi;subst hi;exact⟨rfl,rfl⟩
   |i+1,hi=>simp at hi
  ·rename_i heq;cases heq;cases h
   refine⟨rfl,fun i fc hi=>?_⟩
   match i,hi with
   |0,hi=>simp at hi;subst hi;exact⟨rfl,rfl⟩
   |i+1,hi=>simp at hi
  all_goals first
   | (rename_i heq
      cases heq;split at h
      ·rename_i hs
       split at h
       ·rename_i hk
        subst hk;cases h;obtain⟨h1,h2⟩:=Px hs;refine⟨by simpa[FC.len]using h1,fun i fc hi=>?_⟩
        match i,hi with
        |0,hi=>simp at hi;subst hi;exact⟨by simp[FC.elem],rfl⟩
        |i+1,hi =>
         obtain⟨h3,h4⟩:=h2 i fc (by simpa using hi)
         refine⟨?_,h4⟩
         simp only[FC.elem]at h3⊢;split at h3
         ·rename_i ψ
          rw[AA (by simpa using ψ),<-h3]
          simp[List.getD]
         ·cases h3
       ·cases h
      ·cases h)
   |cases h
theorem HZ{hint:Bool}(h:St C σ mu a w):∀{svs:List SV} {K:Option (List FC×List (Nat×Option Ob))->Rd Eff} {r:Eff},(mQ hint svs K).run σ=some r ->
  ∃pr,(K pr).run σ=some r/\∀ds fs,pr=some (ds,fs)->gu σ fs/\ds.length=svs.length/\∀(i:Nat) (sv:SV) (d:FC),svs[i]?=some sv->ds[i]?=some d->∀v,aw C.P (σ.env C.wF mu) sv v ->
   ∀E':Env,b7 (σ.env C.wF mu) E'->(∀o x,lk fs o=some x->E'.st o=match x with|some (.frz d)=>.frz d|_=>.dead)->fO E'.wF v d
 | [],K,r,hr=>⟨_,hr,fun ds fs he=>by cases he;exact⟨fun o x hm=>by simp at hm,rfl,fun i sv d hi=>by simp at hi⟩⟩
 |sv::svs,K,r,hr=>by
  have no:K none=K none:=rfl
  have none':(K none).run σ=some r->∃pr,(K pr).run σ=some r/\∀ds fs,pr=some (ds,fs)->gu σ fs/\ds.length=(sv::svs).length/\∀(i:Nat) (s:SV) (d:FC),(sv::svs)[i]?=some s->ds[i]?=some d->∀v,aw C.P (σ.env C.wF mu) s v ->
   ∀E':Env,b7 (σ.env C.wF mu) E'->(∀o x,lk fs o=some x->E'.st o=match x with|some (.frz d)=>.frz d|_=>.dead)->fO E'.wF v d:=fun h=>⟨none,h,fun ds fs he=>by cases he⟩
  have one:∀(d0:FC) (f0:List (Nat×Option Ob)),gu σ f0->(∀v,aw C.P (σ.env C.wF mu) sv v->∀E':Env,b7 (σ.env C.wF mu) E'->(∀o x,lk f0 o=some x->E'.st o=match x with|some (.frz d)=>.frz d|_=>.dead)->fO E'.wF v d0) ->
    (mQ hint svs fun pr=>match pr with|some (ds,fs)=>K (some (d0::ds,f0++fs))|none=>K none).run σ=some r ->
    ∃pr,(K pr).run σ=some r/\∀ds fs,pr=some (ds,fs)->gu σ fs/\ds.length=(sv::svs).length/\∀(i:Nat) (s:SV) (d:FC),(sv::svs)[i]?=some s->ds[i]?=some d->∀v,aw C.P (σ.env C.wF mu) s v ->
   ∀E':Env,b7 (σ.env C.wF mu) E'->(∀o x,lk fs o=some x->E'.st o=match x with|some (.frz d)=>.frz d|_=>.dead)->fO E'.wF v d:=fun d0 f0 hf0 h0 hr=>by
   obtain⟨pr,h1,h2⟩:=HZ h hr;cases pr with
   |none=>exact none' h1
   |some p =>
    obtain⟨ds,fs⟩:=p;obtain⟨h3,h4,h5⟩:=h2 ds fs rfl;refine⟨_,h1,fun ds' fs' he=>?_⟩
    cases he;have hfk:gu σ (f0++fs):=fun o x hm=>(AL.1 hm).elim (hf0 o x) (h3 o x)
    have agree:∀o x y,(o,x)∈f0++fs->(o,y)∈f0++fs->x=y:=fun o x y h6 h7=>by
     obtain⟨ob,d,q1,q2,q3⟩:=hfk o x h6;obtain⟨ob',d',r1,r2,r3⟩:=hfk o y h7;rw[q1]at r1;cases r1;rw[q2]at r2;cases r2;rw[q3,r3]
    have lkm:∀{l:List (Nat×Option Ob)} {o:Nat} {x:Option Ob},lk l o=some x->(o,x)∈l:=fun h=>qW h
    have lks:∀{o x},(o,x)∈f0++fs->lk (f0++fs) o=some x:=fun {o x} hm=>by
     cases hl:lk (f0++fs) o with
     |some y=>rw[agree o x y hm (lkm hl)]
     |none =>
      exfalso
      have:∀{l:List (Nat×Option Ob)},(o,x)∈l->lk l o≠none:=fun {l}=>by
       induction l with
       |nil=>intro h;simp at h
       |cons z l ih =>
        intro h
        obtain⟨k,v⟩:=z;rw[bt];split
        ·simp
        ·rename_i hk
         rcases AH.1 h with h|h
         ·cases h;exact absurd rfl hk
         ·exact ih h
      exact this hm hl
    refine⟨hfk,by simp[h4],fun i s d hi hd v hv E' hE hst=>?_⟩
    cases i with
    |zero =>
     simp at hi hd
     subst hi;subst hd;exact h0 v hv E' hE fun o x hx=>hst o x (lks (BF _ (lkm hx)))
    |succ i=>exact h5 i s d (by simpa using hi) (by simpa using hd) v hv E' hE fun o x hx=>hst o x (lks (BG _ (lkm hx)))
  cases sv with
  |c x =>
   cases x with
   |ro d =>
    refine one d [] (fun o x hm=>by simp at hm) (fun v hv E' hE _=>fO.mono hE.1 hv) ?_
    exact hr
   |own o =>
    obtain⟨ob,ho,hr2⟩:=aZ hr;split at hr2
    ·rename_i d
     refine one d [] (fun o x hm=>by simp at hm) (fun v hv E' hE _=>?_) hr2
     have h2:=hv.2
     have e:(σ.env C.wF mu).st o=.frz d:=fD ho
     rw[e]at h2;exact fO.mono hE.1 h2
    ·split at hr2
     ·split at hr2
      ·rename_i d hd
       refine one d [(o,some (.frz d))] (fun o' x hm=>by
        simp at hm
        obtain⟨rfl,rfl⟩:=hm;exact⟨ob,d,ho,hd,rfl⟩) (fun v hv E' hE hst=>?_) hr2
       have h2:=(ai.mono hE (c:=.own o) hv).2
       rw[hst o _ (by rw[bt,AA rfl])]at h2
       exact h2
      ·exact none' hr2
     ·exact none' hr2
   |_=>exact none' hr
  |_=>exact none' hr
theorem Py:∀(vs:List Value) (s:Nat) (arr:Array Value),(∀v∈vs,v.oneCell'=true)->s+vs.length<=arr.size ->
  ∃arr',Instr.fill (fun i=>some (i*1,1)) arr ((List.range' s vs.length).zip vs)=some arr'/\arr'.size=arr.size/\(∀j,j<s->arr'[j]?=arr[j]?)/\∀i v,vs[i]?=some v->arr'[s+i]?=some v
 | [],s,arr,_,_=>⟨arr,by simp[Instr.fill],rfl,fun _ _=>rfl,fun i v h=>by simp at h⟩
 |v::vs,s,arr,h1,hle=>by
  simp only[AR]at hle;have hv:=h1 v (by simp)
  obtain⟨arr',h2,h3,h4,h5⟩:=Py vs (s+1) (arr.setIfInBounds s v) (fun u hu=>h1 u (by simp[hu])) (by simp;omega)
  refine⟨arr',?_,by simpa using h3,fun j hj=>?_,fun i u hi=>?_⟩
  ·have hq:¬ (arr.size<s+1):=by omega
   simp only[AR,Cp,DN,Instr.fill,qR hv];simp[hq]
   simpa using h2
  ·rw[h4 j (by omega),Bo (by omega)]
  ·cases i with
   |zero=>simp at hi;subst hi;rw[Bc,h4 s (by omega)];simp[show s<arr.size by omega]
   |succ i=>rw[show s+(i+1)=s+1+i by omega];exact h5 i u (by simpa using hi)
theorem kR{t e:TypeId}(he:bX C.P t=some e)(hs:cK C.P e=some 1){n:Nat}(hn:n<=1000){parts:Array (Nat×Operand)}(hp:(parts.toList.map (·.1))=List.range n)
  (h1:∀v∈(parts.toList.map fun p=>a.eval p.2),v.oneCell'=true)(hz:∃z,(zeroValue e).run C.P w=.ok z w) :
  (Instr.buildSlice t n (parts.map fun(i,x)=>(i,a.eval x))).run C.P w =
   .ok (.slice (some ⟨w.heap.size,0,none⟩) n n) (w.alloc (.cells (parts.toList.map fun p=>a.eval p.2).toArray e)):=by
 obtain⟨z,hz⟩:=hz;have hl:parts.toList.length=n:=by have:=A8 List.length hp;simpa using this
 have key:∀base:Array Value,base.size=n->Instr.fill (fun i=>some (i*1,1)) base (parts.map fun(i,x)=>(i,a.eval x)).toList=some (parts.toList.map fun p=>a.eval p.2).toArray:=fun base hb=>by
  obtain⟨arr',h2,h3,_,h5⟩:=Py (parts.toList.map fun p=>a.eval p.2) 0 base h1 (by simp at hl⊢;omega)
  have e1:(parts.map fun(i,x)=>(i,a.eval x)).toList=(List.range' 0 (parts.toList.map fun p=>a.eval p.2).length).zip (parts.toList.map fun p=>a.eval p.2):=by
   have e2:(parts.toList.map fun p=>a.eval p.2).length=n:=by rw[Ae];exact hl
   rw[e2,<-Cq,<-hp];rw[Cf];apply BA
   intro j
   simp[List.zip_map']
  rw[e1,h2]
  congr 1
  apply B6
  intro j
  by_cases hj:j<n
  ·have:(parts.toList.map fun p=>a.eval p.2)[j]?=some ((parts.toList.map fun p=>a.eval p.2)[j]'(by rw[Ae];omega)):=AF _
   have h6:=h5 j _ this
   rw[AK]at h6;rw[h6,DB,this]
  ·rw[BD (by omega),BD (by simp;simp at hl;omega)]
 have hbig:¬ (16777216<n):=by omega
 by_cases h0:n=0
 ·subst h0
  have:=key ((Array.range (0*1)).map fun x=>(#[]:Array Value)[x % 0]!) (by simp)
  simp only[Instr.buildSlice,Sem.run_bind,run_underlying (gp he),Result.andThen_ok,gn hs];simp[newRow]at this⊢
  rw[this];simp
 ·have:=key ((Array.range (n*1)).map fun x=>z.cells[x % z.cells.size]!) (by simp)
  simp only[Instr.buildSlice,Sem.run_bind,run_underlying (gp he),Result.andThen_ok,gn hs];simp[newRow,hbig,h0,hz]at this⊢
  rw[this];simp
theorem H0{ei:TypeId}{ki:IntKind}(h:St C σ mu a w):∀(svs:List SV) (used:List Nat) (k:Dc->List Nat->Rd Eff) (r:Eff),(qB ei ki svs used k).run σ=some r ->
  ∃ls os,(k ls os).run σ=some r/\ls.length=svs.length/\os.Nodup/\(∀o∈os,o ∉ used/\∃ob,σ.H o=some (some ob)) /\
   ∀vs:List Value,vs.length=svs.length->(∀(i:Nat) (sv:SV),svs[i]?=some sv->∃v,vs[i]?=some v/\aw C.P (σ.env C.wF mu) sv v) ->
    (∀(i:Nat) (v:Value) (r:Db),vs[i]?=some v->ls[i]?=some r->w.ownsRow 0 ei 1 v r.length (r.map (.int ki))) /\
    (vs.filterMap ac).Nodup/\∀b∈vs.filterMap ac,∃o∈os,b∈(mu o).blocks
 | [],used,k,r,hr=>⟨[],[],hr,rfl,by simp,by simp,fun vs hv _=>by
   have:vs=[]:=BJ hv
   subst this;simp⟩
 |sv::svs,used,k,r,hr=>by
  have hbad:∀x,(Rd.fail:Rd Eff).run σ=some x->False:=fun x hx=>by simp[Rd.run]at hx
  cases sv with
  | c x =>
   cases x with
   | nil =>
    have hr:(qB ei ki svs used fun ls os=>k ([]::ls) os).run σ=some r:=hr
    obtain⟨ls,os,h1,h2,h3,h4,h5⟩:=H0 h svs used _ r hr;refine⟨[]::ls,os,h1,by simp[h2],h3,h4,fun vs hl hvs=>?_⟩
    cases vs with
    |nil=>simp at hl
    |cons v vs =>
     obtain⟨v',hv',χ⟩:=hvs 0 _ rfl;simp at hv';subst hv'
     simp only[aw,ai]at χ;subst χ;obtain⟨h6,h7,h8⟩:=h5 vs (by simpa using hl) fun i sv hi=>by simpa using hvs (i+1) sv (by simpa using hi)
     refine⟨fun i u r hi hr=>?_,h7,h8⟩
     cases i with
     |zero=>simp at hi hr;subst hi;subst hr;exact World.ownsRow_nil _ _ _ _
     |succ i=>exact h6 i u r (by simpa using hi) (by simpa using hr)
   | own o =>
    obtain⟨ob,ho,hr2⟩:=aZ hr;cases ob with
    |ints e k' row =>
     simp only at hr2;split at hr2
     ·rename_i hc
      obtain⟨rfl,rfl,hus⟩:=hc;obtain⟨ls,os,h1,h2,h3,h4,h5⟩:=H0 h svs (o::used) _ r hr2;refine⟨row::ls,o::os,h1,by simp[h2],Aa.2 ⟨fun hc=>(h4 o hc).1 (by simp),h3⟩,fun o' ho'=>?_,fun vs hl hvs=>?_⟩
      ·rcases AH.1 ho' with rfl|ho'
       ·refine⟨fun hc=>?_,_,ho⟩
        have:=AM.1 hus o' hc
        simp at this
       ·exact⟨fun hc=>(h4 o' ho').1 (Ab _ hc),(h4 o' ho').2⟩
      ·cases vs with
       |nil=>simp at hl
       |cons v vs =>
        obtain⟨v',hv',χ⟩:=hvs 0 _ rfl;simp at hv';subst hv'
        have hv:v=(mu o).hd:=aP ho χ
        subst hv;have hrow:=h.ob o _ ho
        obtain⟨h6,h7,h8⟩:=h5 vs (by simpa using hl) fun i sv hi=>by simpa using hvs (i+1) sv (by simpa using hi)
        refine⟨fun i u r hi hr=>?_,?_,fun b hb=>?_⟩
        ·cases i with
         |zero=>simp at hi hr;subst hi;subst hr;exact hrow.2
         |succ i=>exact h6 i u r (by simpa using hi) (by simpa using hr)
        ·rw[Az]
         split
         ·exact h7
         ·rename_i b hb
          refine Aa.2 ⟨fun hc=>?_,h7⟩
          obtain⟨o',ho',hb'⟩:=h8 b hc;obtain⟨ob',hob'⟩:=(h4 o' ho').2;exact h.sep o o' _ _ (fun hoo=>(h4 o' ho').1 (by rw[<-hoo];simp)) ho hob' b (cD hb) hb'
        ·rw[Az]at hb
         split at hb
         ·obtain⟨o',ho',hb'⟩:=h8 b hb;exact⟨o',by simp[ho'],hb'⟩
         ·rename_i b' hb'
          rcases AH.1 hb with rfl|hb
          ·exact⟨o,by simp,cD hb'⟩
          ·obtain⟨o',ho',hb''⟩:=h8 b hb;exact⟨o',by simp[ho'],hb''⟩
     ·simp[Rd.run]at hr2
    |_=>simp[Rd.run]at hr2
   |_=>exact(hbad _ hr).elim
  |_=>exact(hbad _ hr).elim
theorem kS(e n:Nat)(cs:List Value)(hl:cs.length=n)(hn:n<=1000):(w.alloc (.cells cs.toArray e)).ownsRow 0 e 1 (.slice (some ⟨w.heap.size,0,none⟩) n n) n cs :=
 ⟨by simp[hl],.inr ⟨w.heap.size,n,cs.toArray,rfl,Ad _,heap_alloc_new w _,AE _,by unfold maxLen;omega,by simp[hl],by rw[AU (by simp[hl])]⟩⟩
theorem ZL{hint:Bool}{d:Nat}{t:TypeId}{n:Nat}{parts:Array (Nat×Operand)}{eff:Eff}(hr:(GK C.P hint d t n parts).run σ=some eff)(h:St C σ mu a w)
  {dst:Option Nat}(hd:∀d,dst=some d->d<C.N) :
  ∃v w',(Instr.buildSlice t n (parts.map fun(i,x)=>(i,a.eval x))).run C.P w=.ok v w'/\ay C (σ.app dst eff) (a.put dst v) w':=by
 unfold GK at hr;split at hr
 ·rename_i hc
  obtain⟨hp,hn⟩:=hc;split at hr
  ·simp[Rd.run]at hr
  ·rename_i e he
   split at hr
   ·rename_i hs
    obtain⟨hs,hz⟩:=hs;have hz:∃z,(zeroValue e).run C.P w=.ok z w:=by
     cases hq:iP C.P e with
     |none=>rw[hq]at hz;cases hz
     |some cs=>exact let⟨z,h1,_⟩:=oY hq w (σ.env C.wF mu);⟨z,h1⟩
    have hpl:parts.toList.length=n:=by have:=A8 List.length hp;simpa using this
    have hval:∀{svs:List SV},svs.length=(parts.toList.map (·.2)).length->(∀(i:Nat) (sv:SV),svs[i]?=some sv->∃x,(parts.toList.map (·.2))[i]?=some x/\aw C.P (σ.env C.wF mu) sv (a.eval x)) ->
      ∀(i:Nat) (sv:SV),svs[i]?=some sv->∃v,(parts.toList.map fun p=>a.eval p.2)[i]?=some v/\aw C.P (σ.env C.wF mu) sv v:=fun _ h2 i sv hi=>by
     obtain⟨x,h3,h4⟩:=h2 i sv hi;refine⟨a.eval x,?_,h4⟩
     rw[Aj]at h3⊢;cases hpi:parts.toList[i]? with
     |none=>simp[hpi]at h3
     |some p=>simp[hpi]at h3;simp[h3]
    have hvl:(parts.toList.map fun p=>a.eval p.2).length=n:=by rw[Ae];exact hpl
    split at hr
    ·rename_i k hu
     obtain⟨svs,hr2,h1,h2⟩:=j9 h _ _ _ hr;clear hr;split at hr2
     ·rename_i l hl
      obtain⟨θ,hr3⟩:=b8 hr2;simp only[Rd.run,AC]at hr3;subst hr3;obtain⟨h3,h4⟩:=Pu (C:=C) (E:=σ.env C.wF mu) hl;have hvs:(parts.toList.map fun p=>a.eval p.2)=l.map (.int k):=by
       apply BA
       intro i
       by_cases hi:i<svs.length
       ·obtain⟨v,h5,h6⟩:=hval h1 h2 i svs[i] (AF hi)
        obtain⟨m,h7,h8⟩:=h4 i svs[i] (AF hi) v h6;rw[h5,Aj,h7,h8];rfl
       ·rw[A7 (by rw[hvl];simp at h1;simp at hpl;omega),A7 (by simp;omega)]
      have hll:l.length=n:=by have:=A8 List.length hvs;rw[hvl]at this;simpa using this.symm
      refine⟨_,_,kR he hs hn hp (by rw[hvs];exact nf k l) hz,?_⟩
      rw[hvs];refine h.new hd θ (fP w _ none) (m:=⟨.slice (some ⟨w.heap.size,0,none⟩) n n,[]⟩) ⟨rfl,by rw[hll];exact kS e n _ (by simp[hll]) hn⟩ (by simp[Img.blocks,ac]) (by simp[Img.blocks,ac]) ?_
      simp[aw,ai,bS,OSt.on,dX,Value.oneCell']
     ·simp[Rd.run]at hr2
    ·rename_i hu
     obtain⟨svs,hr2,h1,h2⟩:=j9 h _ _ _ hr;clear hr;split at hr2
     ·rename_i l hl
      obtain⟨θ,hr3⟩:=b8 hr2;simp only[Rd.run,AC]at hr3;subst hr3;obtain⟨h3,h4⟩:=Pv (C:=C) (E:=σ.env C.wF mu) hl;have hvs:(parts.toList.map fun p=>a.eval p.2)=l.map .bool:=by
       apply BA
       intro i
       by_cases hi:i<svs.length
       ·obtain⟨v,h5,h6⟩:=hval h1 h2 i svs[i] (AF hi)
        obtain⟨m,h7,h8⟩:=h4 i svs[i] (AF hi) v h6;rw[h5,Aj,h7,h8];rfl
       ·rw[A7 (by rw[hvl];simp at h1;simp at hpl;omega),A7 (by simp;omega)]
      have hll:l.length=n:=by have:=A8 List.length hvs;rw[hvl]at this;simpa using this.symm
      refine⟨_,_,kR he hs hn hp (by rw[hvs];exact HL l) hz,?_⟩
      rw[hvs];refine h.new hd θ (fP w _ none) (m:=⟨.slice (some ⟨w.heap.size,0,none⟩) n n,[]⟩) ⟨rfl,by rw[hll];exact kS e n _ (by simp[hll]) hn⟩ (by simp[Img.blocks,ac]) (by simp[Img.blocks,ac]) ?_
      simp[aw,ai,bS,OSt.on,dX,Value.oneCell']
     ·simp[Rd.run]at hr2
    ·rename_i hu
     obtain⟨svs,hr2,h1,h2⟩:=j9 h _ _ _ hr;clear hr;split at hr2
     ·rename_i l hl
      obtain⟨θ,hr3⟩:=b8 hr2;simp only[Rd.run,AC]at hr3;subst hr3;obtain⟨h3,h4⟩:=Pw (C:=C) (E:=σ.env C.wF mu) hl;have hvs:(parts.toList.map fun p=>a.eval p.2)=l.map oF:=by
       apply BA
       intro i
       by_cases hi:i<svs.length
       ·obtain⟨v,h5,h6⟩:=hval h1 h2 i svs[i] (AF hi)
        obtain⟨m,h7,h8⟩:=h4 i svs[i] (AF hi) v h6;rw[h5,Aj,h7,h8];rfl
       ·rw[A7 (by rw[hvl];simp at h1;simp at hpl;omega),A7 (by simp;omega)]
      have hll:l.length=n:=by have:=A8 List.length hvs;rw[hvl]at this;simpa using this.symm
      refine⟨_,_,kR he hs hn hp (by rw[hvs];exact Pc l) hz,?_⟩
      rw[hvs];refine h.new hd θ (fP w _ none) (m:=⟨.slice (some ⟨w.heap.size,0,none⟩) n n,[]⟩) ⟨rfl,by rw[hll];exact kS e n _ (by simp[hll]) hn⟩ (by simp[Img.blocks,ac]) (by simp[Img.blocks,ac]) ?_
      simp[aw,ai,bS,OSt.on,dX,Value.oneCell']
     ·simp[Rd.run]at hr2
    ·rename_i ei hu
     obtain⟨svs,hr2',h1,h2⟩:=j9 h _ _ _ hr;clear hr;have hsl:(parts.toList.map fun p=>a.eval p.2).length=svs.length:=by rw[h1];simp
     obtain⟨pr,hr2,hpr⟩:=HZ h hr2';clear hr2';split at hr2
     ·rename_i x xs fs
      split at hr2
      ·rename_i dd hdd
       obtain⟨θ,hr4⟩:=b8 hr2;simp only[Rd.run,AC]at hr4;subst hr4;obtain⟨k1,k2,k3⟩:=hpr _ _ rfl;obtain⟨g1,g2⟩:=Px hdd;obtain⟨wG,mu1,gf,s1,m1,e1⟩:=h.fzs fs k1;have hst:∀o x,lk fs o=some x->((State.mk σ.fr (fs++σ.hp)).env wG mu1).st o=match x with|some (.frz d)=>.frz d|_=>.dead:=fun o x hx=>by
        have hm:(o,x)∈fs:=qW hx
        obtain⟨_,d',_,_,rfl⟩:=k1 o x hm;exact fD (by simp only[State.H,gt,hx])
       have hel:∀(i:Nat) (u:Value),(parts.toList.map fun p=>a.eval p.2)[i]?=some u->u.oneCell'=true/\∃fc,dd.elem i=some fc/\bp wG u fc:=fun i u hi=>by
        have ψ:i<svs.length:=by rw[<-hsl];exact(AJ.1 hi).1
        have hlt2:i<(x::xs).length:=by rw[k2];exact ψ
        obtain⟨v,h5,h6⟩:=hval h1 h2 i svs[i] (AF ψ);have:v=u:=BE (h5.symm.trans hi)
        subst this;have h7:=k3 i _ _ (AF ψ) (AF hlt2) v h6 _ e1 hst
        exact⟨HR h7.2,_,(g2 i _ (AF hlt2)).1,h7.2⟩
       have hone:∀v∈(parts.toList.map fun p=>a.eval p.2),v.oneCell'=true:=fun v hv=>by
        obtain⟨i,hi⟩:=Ah hv;exact(hel i v hi).1
       have hdl:dd.len=n:=by rw[g1,k2,<-hsl,hvl]
       refine⟨_,_,kR he hs hn hp hone hz,ay.up gf ?_⟩
       have hab1:=nj k1 θ
       refine s1.new hd (d:=d) (by rw[gv hab1];exact θ) (fP w _ none) (m:=⟨.slice (some ⟨w.heap.size,0,none⟩) n n,[]⟩) (ob:=.lst 0 e dd) (p:=none) ⟨rfl,_,by rw[hdl,HY hdd];exact kS e n _ hvl hn,hel⟩ (by simp[Img.blocks,ac]) (by simp[Img.blocks,ac]) ?_
       simp[aw,ai,bS,OSt.on,dX,Value.oneCell']
      ·simp[Rd.run]at hr2
     split at hr2
     case h_2 =>
      split at hr2
      ·split at hr2
       ·rename_i dd hdd
        obtain⟨hw,hr2⟩:=lT hr2;obtain⟨θ,hr4⟩:=b8 hr2;simp only[Rd.run,AC]at hr4;subst hr4;have hn0:n=0:=by rw[<-hvl,hsl];rfl
        have hp0:(parts.toList.map fun p=>a.eval p.2)=[]:=BJ (by rw[hsl];rfl)
        have hdl:dd.len=0:=by
         unfold ie at hdd
         repeat' split at hdd
         all_goals first|cases hdd;done|(cases hdd;rfl)
        refine⟨_,_,kR he hs hn hp (by rw[hp0];simp) hz,?_⟩
        refine h.new hd θ (fP w _ none) (m:=⟨.slice (some ⟨w.heap.size,0,none⟩) n n,[]⟩) (ob:=.lst 0 e dd) (p:=none) ⟨rfl,_,by rw[hdl,hw];have:=kS (w:=w) e n _ hvl hn;rw[hn0]at this⊢;exact this,fun i u hi=>by rw[hp0]at hi;simp at hi⟩ (by simp[Img.blocks,ac]) (by simp[Img.blocks,ac]) ?_
        simp[aw,ai,bS,OSt.on,dX,Value.oneCell']
       ·simp[Rd.run]at hr2
      ·simp[Rd.run]at hr2
     ·rename_i ki hki
      obtain⟨ls,os,hr3,h3,h4,h5,h6⟩:=H0 h svs [] _ _ hr2;clear hr2;obtain⟨θ,hr4⟩:=b8 hr3;simp only[Rd.run,AC]at hr4;subst hr4;obtain⟨h7,h8,h9⟩:=h6 _ hsl (hval h1 h2);have hll:ls.length=n:=by rw[h3,<-hsl,hvl]
      have hone:∀v∈(parts.toList.map fun p=>a.eval p.2),v.oneCell'=true:=fun v hv=>by
       obtain⟨i,hi⟩:=Ah hv;have ψ:i<ls.length:=by rw[hll,<-hvl];exact(AJ.1 hi).1
       exact gq (h7 i v _ hi (AF ψ))
      refine⟨_,_,kR he hs hn hp hone hz,?_⟩
      have ψ:∀b∈((parts.toList.map fun p=>a.eval p.2).filterMap ac),b<w.heap.size:=fun b hb=>by
       obtain⟨o,ho,hbo⟩:=h9 b hb;obtain⟨ob,hob⟩:=(h5 o ho).2;exact(h.ob o ob hob).block b hbo
      refine h.move hd θ os (fun o ho=>(h5 o ho).2) (m:=⟨.slice (some ⟨w.heap.size,0,none⟩) n n,parts.toList.map fun p=>a.eval p.2⟩) ⟨rfl,AE _⟩ rfl rfl (by simp) (fun b hb _=>(World.grownBy_alloc w _ none).block b hb (by simp))
       ⟨by rw[hll];exact kS e n _ hvl hn,by rw[hvl,hll],fun i v r hi hr=>?_⟩ ?_ ?_ rfl rfl
      ·refine dY (h7 i v r hi hr) fun b hb=>(World.grownBy_alloc w _ none).block b (ψ b (Ar.2 ⟨v,AI hi,hb⟩)) (by simp)
      ·simp only[Img.blocks,ac,Option.toList_some,CP]
       exact Aa.2 ⟨fun hc=>by have:=ψ _ hc;omega,h8⟩
      ·intro b hb
       simp only[Img.blocks,ac,Option.toList_some,CP]at hb;rcases AH.1 hb with rfl|hb
       ·exact .inr (AE _)
       ·exact .inl (h9 b hb)
    ·simp[Rd.run]at hr
   ·simp[Rd.run]at hr
 ·simp[Rd.run]at hr
theorem br.dep{w:World}:∀{es:List TypeId} {u:Value} {x:FC},br w es u x->es.length=x.dep+1
 | [],_,_,h=>False.elim h
 | [_],_,_,⟨_,k,l,h2,_⟩=>by subst h2;rfl
 |_::_::_,_,_,⟨_,h2,_⟩=>by simp[h2]
theorem ZM{y dd:FC}(h:gO [y]=some dd):dd.dep=y.dep+1/\dd.len=1/\cX dd 0=some y:=by
 cases y<;>simp only[gO,reduceCtorEq,AC]at h<;>subst h<;>exact⟨rfl,rfl,rfl⟩
theorem ZN{y z dd:FC}(h:gO [y,z]=some dd):dd.dep=y.dep+1/\z.dep=y.dep/\dd.len=2/\cX dd 0=some y/\cX dd 1=some z:=by
 cases y<;>cases z<;>simp only[gO,reduceCtorEq]at h<;>(split at h<;>first|(cases h;done)|(cases h;rename_i hk;subst hk;exact⟨rfl,rfl,rfl,rfl,rfl⟩))
theorem ZO{d:Nat}{t:TypeId}{n:Nat}{parts:Array (Nat×Operand)}{eff:Eff}(hr:(GL C.P d t n parts).run σ=some eff)(h:St C σ mu a w)
  {dst:Option Nat}(hd:∀d,dst=some d->d<C.N) :
  ∃v w',(Instr.buildSlice t n (parts.map fun(i,x)=>(i,a.eval x))).run C.P w=.ok v w'/\ay C (σ.app dst eff) (a.put dst v) w':=by
 unfold GL at hr;split at hr
 ·rename_i hc
  obtain⟨hp,hn⟩:=hc;split at hr
  ·simp[Rd.run]at hr
  ·rename_i e he
   split at hr
   ·rename_i hs
    obtain⟨hs,hz⟩:=hs;have hz:∃z,(zeroValue e).run C.P w=.ok z w:=by
     cases hq:iP C.P e with
     |none=>rw[hq]at hz;cases hz
     |some cs=>exact let⟨z,h1,_⟩:=oY hq w (σ.env C.wF mu);⟨z,h1⟩
    have hpl:parts.toList.length=n:=by have:=A8 List.length hp;simpa using this
    have hvl:(parts.toList.map fun p=>a.eval p.2).length=n:=by rw[Ae];exact hpl
    split at hr
    ·simp[Rd.run]at hr
    ·rename_i d0 hd0
     obtain⟨svs,hr2,h1,h2⟩:=j9 h _ _ _ hr;clear hr;have hsl:(parts.toList.map fun p=>a.eval p.2).length=svs.length:=by rw[h1];simp
     split at hr2
     ·split at hr2
      ·rename_i e1 e2 es hes
       split at hr2
       ·rename_i φ
        obtain⟨rfl,hdep⟩:=φ;obtain⟨hw,hr2⟩:=lT hr2;obtain⟨θ,hr4⟩:=b8 hr2;simp only[Rd.run,AC]at hr4;subst hr4;have hn0:n=0:=by rw[<-hvl,hsl];rfl
        subst hn0;have hp0:(parts.toList.map fun p=>a.eval p.2)=[]:=BJ (by rw[hsl];rfl)
        have hdl:d0.len=0:=by
         unfold ie at hd0
         repeat' split at hd0
         all_goals first|cases hd0;done|(cases hd0;rfl)
        have hT:br (w.alloc (.cells (parts.toList.map fun p=>a.eval p.2).toArray e1)) (e1::e2::es) (bu (.slice (some ⟨w.heap.size,0,none⟩) 0 0) []) d0:=by
         refine⟨rfl,hdep,?_,fun i u x hu=>by simp[cY]at hu⟩
         rw[hdl,hp0,hw];exact kS e1 0 [] rfl (by omega)
        have hB:=ef hT
        have hB2:aW (e1::e2::es).length (bu (.slice (some ⟨w.heap.size,0,none⟩) 0 0) [])=[w.heap.size]:=by rw[AR,dM];rfl
        rw[hB2]at hB;refine⟨_,_,kR he hs hn hp (by rw[hp0];simp) hz,?_⟩
        refine h.new hd θ (fP w _ none) (m:=dw (e1::e2::es).length (bu (.slice (some ⟨w.heap.size,0,none⟩) 0 0) [])) (ob:=.tr 0 (e1::e2::es) d0) (p:=none) ⟨_,rfl,hT⟩ (by rw[hB];simp) (by rw[hB];simp) ?_
        simp[aw,ai,bS,OSt.on,dX,Value.oneCell',dw,eF]
       ·simp[Rd.run]at hr2
      ·simp[Rd.run]at hr2
     ·rename_i o2
      obtain⟨ob2,ho2,hr3⟩:=aZ hr2;clear hr2;split at hr3
      ·rename_i es2 y hty
       split at hr3
       ·rename_i dd hdd
        obtain⟨θ,hr4⟩:=b8 hr3;simp only[Rd.run,AC]at hr4;subst hr4;obtain⟨c1,c2,c3⟩:=ZM hdd;have hnf2:ob2.isFz=false:=by cases ob2<;>first|rfl|cases hty
        obtain⟨kid,t1,t2,t3⟩:=nk (h.ob o2 _ ho2) hty;have hn1:n=1:=by rw[<-hvl,hsl];rfl
        subst hn1;obtain⟨x,hx1,hx2⟩:=h2 0 (.c (.own o2)) rfl;have hv2:a.eval x=(mu o2).hd:=aP ho2 hx2 hnf2
        have hvs:(parts.toList.map fun p=>a.eval p.2)=[aK kid]:=by
         have hl:=List.length_eq_one_iff.1 hpl
         obtain⟨p,hp'⟩:=hl;rw[hp']at hx1⊢;simp at hx1
         rw[List.map_singleton,hx1,hv2,t2]
        have hnd2:=(h.nd o2 _ ho2).1
        have hone:∀v∈(parts.toList.map fun p=>a.eval p.2),v.oneCell'=true:=fun v hv=>by
         rw[hvs,Bb]at hv;rw[hv];exact t1.one
        have hdp:=t1.dep
        obtain⟨e2,es',rfl⟩:∃e2 es',es2=e2::es':=by
         match es2,t1 with
         | [],t1=>exact False.elim t1
         |e2::es',_=>exact⟨e2,es',rfl⟩
        have old:=t1.block
        have hT:br (w.alloc (.cells (parts.toList.map fun p=>a.eval p.2).toArray e)) (e::e2::es') (bu (.slice (some ⟨w.heap.size,0,none⟩) 1 1) [kid]) dd:=by
         refine⟨rfl,by rw[c1];simp at hdp;omega,?_,fun i u x hu hx=>?_⟩
         ·rw[c2,eF,cY,hvs,HY hdd]
          exact kS e 1 _ rfl (by omega)
         ·rw[cY]at hu
          cases i with
          |zero =>
           simp at hu
           subst hu;rw[c3]at hx;cases hx;exact t1.keep fun b hb=>(World.grownBy_alloc w _ none).block b (old b hb) (by simp)
          |succ i=>simp at hu
        have hB:=ef hT
        have hB2:aW (e::e2::es').length (bu (.slice (some ⟨w.heap.size,0,none⟩) 1 1) [kid])=w.heap.size::(mu o2).blocks:=by
         rw[AR,dM,eF,cY,<-t3];simp[ac]
        rw[hB2]at hB;refine⟨_,_,kR he hs hn hp hone hz,?_⟩
        refine h.move hd θ [o2] (fun o ho=>by simp at ho;subst ho;exact⟨_,ho2⟩) (m:=dw (e::e2::es').length (bu (.slice (some ⟨w.heap.size,0,none⟩) 1 1) [kid])) ⟨rfl,AE _⟩ rfl rfl (by simp) (fun b hb _=>(World.grownBy_alloc w _ none).block b hb (by simp))
         ⟨_,rfl,hT⟩ ?_ ?_ rfl rfl
        ·rw[hB]
         exact Aa.2 ⟨fun hc=>by have:=old _ (by rw[t3];exact hc);omega,hnd2⟩
        ·intro b hb
         rw[hB]at hb;rcases AH.1 hb with rfl|hb
         ·exact .inr (AE _)
         ·exact .inl ⟨o2,by simp,hb⟩
       ·simp[Rd.run]at hr3
      ·simp[Rd.run]at hr3
     ·rename_i o1 o2
      obtain⟨ob1,ho1,hr3⟩:=aZ hr2;clear hr2;obtain⟨ob2,ho2,hr4⟩:=aZ hr3;clear hr3;split at hr4
      ·rename_i es1 y1 hty1
       split at hr4
       ·rename_i es2 y2 hty2
        split at hr4
        ·rename_i dd hdd
         split at hr4
         ·rename_i φ
          simp only[AG,Ca]at φ;obtain⟨hes,hne⟩:=φ;have hes:=jk hes
          subst hes;have hne:o1≠o2:=fun hc=>by rw[hc,Nat.beq_refl]at hne;cases hne
          obtain⟨θ,hr5⟩:=b8 hr4;simp only[Rd.run,AC]at hr5;subst hr5;obtain⟨c1,c1',c2,c3,c4⟩:=ZN hdd;have hnf1:ob1.isFz=false:=by cases ob1<;>first|rfl|cases hty1
          have hnf2:ob2.isFz=false:=by cases ob2<;>first|rfl|cases hty2
          obtain⟨kid1,t1,t2,t3⟩:=nk (h.ob o1 _ ho1) hty1;obtain⟨kid2,u1,u2,u3⟩:=nk (h.ob o2 _ ho2) hty2;have hn2:n=2:=by rw[<-hvl,hsl];rfl
          subst hn2;obtain⟨x,hx1,hx2⟩:=h2 0 (.c (.own o1)) rfl;obtain⟨z,hz1,hz2⟩:=h2 1 (.c (.own o2)) rfl;have hv1:a.eval x=(mu o1).hd:=aP ho1 hx2 hnf1
          have hv2:a.eval z=(mu o2).hd:=aP ho2 hz2 hnf2
          have hvs:(parts.toList.map fun p=>a.eval p.2)=[aK kid1,aK kid2]:=by
           match hp':parts.toList,hpl with
           | [p,q],_ =>
            rw[hp']at hx1 hz1;simp at hx1 hz1
            rw[BP,List.map_singleton,hx1,hz1,hv1,hv2,t2,u2]
          have hnd1:=(h.nd o1 _ ho1).1
          have hnd2:=(h.nd o2 _ ho2).1
          have hone:∀v∈(parts.toList.map fun p=>a.eval p.2),v.oneCell'=true:=fun v hv=>by
           rw[hvs]at hv;rcases AH.1 hv with rfl|hv
           ·exact t1.one
           ·rw[Bb.1 hv];exact u1.one
          have hdp:=t1.dep
          obtain⟨e2,es',rfl⟩:∃e2 es',es1=e2::es':=by
           match es1,t1 with
           | [],t1=>exact False.elim t1
           |e2::es',_=>exact⟨e2,es',rfl⟩
          have old1:=t1.block
          have old2:=u1.block
          have hT:br (w.alloc (.cells (parts.toList.map fun p=>a.eval p.2).toArray e)) (e::e2::es') (bu (.slice (some ⟨w.heap.size,0,none⟩) 2 2) [kid1,kid2]) dd:=by
           refine⟨rfl,by rw[c1];simp at hdp;omega,?_,fun i u x hu hx=>?_⟩
           ·rw[c2,eF,cY,hvs,HY hdd]
            exact kS e 2 _ rfl (by omega)
           ·rw[cY]at hu
            match i,hu with
            |0,hu =>
             simp at hu
             subst hu;rw[c3]at hx;cases hx;exact t1.keep fun b hb=>(World.grownBy_alloc w _ none).block b (old1 b hb) (by simp)
            |1,hu =>
             simp at hu
             subst hu;rw[c4]at hx;cases hx;exact u1.keep fun b hb=>(World.grownBy_alloc w _ none).block b (old2 b hb) (by simp)
            |i+2,hu=>simp at hu
          have hB:=ef hT
          have hB2:aW (e::e2::es').length (bu (.slice (some ⟨w.heap.size,0,none⟩) 2 2) [kid1,kid2])=w.heap.size::((mu o1).blocks++(mu o2).blocks):=by
           rw[AR,dM,eF,cY,<-t3,<-u3];simp[ac]
          rw[hB2]at hB;refine⟨_,_,kR he hs hn hp hone hz,?_⟩
          refine h.move hd θ [o1,o2] (fun o ho=>by
           simp at ho
           rcases ho with rfl|rfl
           ·exact⟨_,ho1⟩
           ·exact⟨_,ho2⟩) (m:=dw (e::e2::es').length (bu (.slice (some ⟨w.heap.size,0,none⟩) 2 2) [kid1,kid2])) ⟨rfl,AE _⟩ rfl rfl (by simp) (fun b hb _=>(World.grownBy_alloc w _ none).block b hb (by simp))
           ⟨_,rfl,hT⟩ ?_ ?_ rfl rfl
          ·rw[hB]
           refine Aa.2 ⟨fun hc=>?_,Ak.2 ⟨hnd1,hnd2,fun b hb b' hb' hc=>?_⟩⟩
           ·rcases AL.1 hc with hc|hc
            ·have:=old1 _ (by rw[t3];exact hc);omega
            ·have:=old2 _ (by rw[u3];exact hc);omega
           ·subst hc;exact h.sep o1 o2 _ _ hne ho1 ho2 b hb hb'
          ·intro b hb
           rw[hB]at hb;rcases AH.1 hb with rfl|hb
           ·exact .inr (AE _)
           ·rcases AL.1 hb with hb|hb
            ·exact .inl ⟨o1,by simp,hb⟩
            ·exact .inl ⟨o2,by simp,hb⟩
         ·simp[Rd.run]at hr4
        ·simp[Rd.run]at hr4
       ·simp[Rd.run]at hr4
      ·simp[Rd.run]at hr4
     ·simp[Rd.run]at hr2
   ·simp[Rd.run]at hr
 ·simp[Rd.run]at hr
theorem ZP{t e:TypeId}(he:bX C.P t=some e)(hs:cK C.P e=some 2):(Instr.buildSlice t 0 #[]).run C.P w=.ok (.slice (some ⟨w.heap.size,0,none⟩) 0 0) (w.alloc (.cells #[] e)):=by
 simp only[Instr.buildSlice,Sem.run_bind,run_underlying (gp he),Result.andThen_ok,gn hs];simp[newRow,Instr.fill]
 congr 2
 apply Aw
 simp
theorem Pz{t e:TypeId}(he:bX C.P t=some e)(hs:cK C.P e=some 2)(hz:∃z,(zeroValue e).run C.P w=.ok z w)(u1 u2:Value) :
  (Instr.buildSlice t 1 #[(0,.agg #[u1,u2])]).run C.P w=.ok (.slice (some ⟨w.heap.size,0,none⟩) 1 1) (w.alloc (.cells #[u1,u2] e)):=by
 obtain⟨z,hz⟩:=hz;have key:∀base:Array Value,base.size=2->Instr.fill (fun i=>some (i*2,2)) base [(0,.agg #[u1,u2])]=some #[u1,u2]:=fun base hb=>by
  have hc:(Value.agg #[u1,u2]).cells=#[u1,u2]:=rfl
  simp only[Instr.fill,hc];simp[hb]
  apply B6
  intro j
  match j with
  |0=>simp[hb]
  |1=>simp[hb]
  |j+2=>rw[BD (by simp[hb]),BD (by simp)]
 simp only[Instr.buildSlice,Sem.run_bind,run_underlying (gp he),Result.andThen_ok,gn hs];have:=key ((Array.range (1*2)).map fun x=>z.cells[x % z.cells.size]!) (by simp)
 simp[newRow,hz]at this⊢
 rw[this];simp
theorem ZQ{t e:TypeId}(he:bX C.P t=some e)(hs:cK C.P e=some 1)(hz:∃z,(zeroValue e).run C.P w=.ok z w)(u1:Value) :
  (Instr.buildSlice t 1 #[(0,.agg #[u1])]).run C.P w=.ok (.slice (some ⟨w.heap.size,0,none⟩) 1 1) (w.alloc (.cells #[u1] e)):=by
 obtain⟨z,hz⟩:=hz;have key:∀base:Array Value,base.size=1->Instr.fill (fun i=>some (i*1,1)) base [(0,.agg #[u1])]=some #[u1]:=fun base hb=>by
  have hc:(Value.agg #[u1]).cells=#[u1]:=rfl
  simp only[Instr.fill,hc];simp[hb]
  apply B6
  intro j
  match j with
  |0=>simp[hb]
  |j+1=>rw[BD (by simp[hb]),BD (by simp)]
 simp only[Instr.buildSlice,Sem.run_bind,run_underlying (gp he),Result.andThen_ok,gn hs];have:=key ((Array.range (1*1)).map fun x=>z.cells[x % z.cells.size]!) (by simp)
 simp[newRow,hz]at this⊢
 rw[this];simp
theorem ZR{d:Nat}{t:TypeId}{n:Nat}{parts:Array (Nat×Operand)}{eff:Eff}(hr:(GJ C.P d t n parts).run σ=some eff)(h:St C σ mu a w)
  {dst:Option Nat}(hd:∀d,dst=some d->d<C.N) :
  ∃v w',(Instr.buildSlice t n (parts.map fun(i,x)=>(i,a.eval x))).run C.P w=.ok v w'/\ay C (σ.app dst eff) (a.put dst v) w':=by
 unfold GJ at hr;split at hr
 ·rename_i hc
  obtain⟨hp,hn⟩:=hc;split at hr
  ·simp[Rd.run]at hr
  ·rename_i e he
   split at hr
   ·rename_i hs
    obtain⟨hs,hz⟩:=hs;have hz:∃z,(zeroValue e).run C.P w=.ok z w:=by
     cases hq:iP C.P e with
     |none=>rw[hq]at hz;cases hz
     |some cs=>exact let⟨z,h1,_⟩:=oY hq w (σ.env C.wF mu);⟨z,h1⟩
    have hpl:parts.toList.length=n:=by have:=A8 List.length hp;simpa using this
    obtain⟨svs,hr2,h1,h2⟩:=j9 h _ _ _ hr;clear hr;split at hr2
    ·rename_i o2
     obtain⟨ob2,ho2,hr3⟩:=aZ hr2;clear hr2;split at hr3
     ·rename_i v2 e2 ei2 k2 y
      obtain⟨θ,hr4⟩:=b8 hr3;simp only[Rd.run,AC]at hr4;subst hr4;have hn1:n=1:=by rw[<-hpl,<-Ae (f:=(·.2)),<-h1];rfl
      subst hn1;obtain⟨x,hx1,hx2⟩:=h2 0 _ rfl;obtain⟨arr,hax,hrl⟩:=hx2;have hpp:parts.toList=[(0,x)]:=by
       match hp':parts.toList,hpl with
       | [p],_ =>
        rw[hp']at hx1 hp;simp at hx1 hp
        rw[show p=(p.1,p.2) from rfl,hp,hx1]
      obtain⟨u1,a1,b1,rc1⟩:=hrl.2 0 _ rfl;have harr:arr=#[u1]:=by
       have hsz:arr.size=1:=hrl.1
       apply B6
       intro j
       match j with
       |0=>rw[a1];rfl
       |j+1=>rw[BD (by omega),BD (by simp)]
      have hpm:(parts.map fun(i,x)=>(i,a.eval x))=#[(0,.agg #[u1])]:=by
       apply Aw
       rw[Cf,hpp,<-harr,<-hax];rfl
      rw[hpm];obtain⟨kid,t1,t2,t3⟩:=nk (h.ob o2 _ ho2) rfl;have hv2:u1=(mu o2).hd:=aP ho2 rc1
      have hnd2:=(h.nd o2 _ ho2).1
      have old:=t1.block
      have hT:br (w.alloc (.cells #[u1] e)) [e,e2,ei2] (bu (.slice (some ⟨w.heap.size,0,none⟩) 1 1) [kid]) (.r3 k2 [y]):=by
       refine⟨rfl,rfl,?_,fun i u x hu hx=>?_⟩
       ·rw[eF,cY]
        refine⟨rfl,.inr ⟨w.heap.size,1,#[u1],rfl,Ad _,heap_alloc_new w _,AE _,by unfold maxLen;omega,rfl,?_⟩⟩
        rw[hv2,<-t2];rfl
       ·rw[cY]at hu
        match i,hu with
        |0,hu =>
         simp at hu
         subst hu;cases hx;exact t1.keep fun b hb=>(World.grownBy_alloc w _ none).block b (old b hb) (by simp)
        |i+1,hu=>simp at hu
      have hB:=ef hT
      have hB2:aW [e,e2,ei2].length (bu (.slice (some ⟨w.heap.size,0,none⟩) 1 1) [kid])=w.heap.size::(mu o2).blocks:=by
       rw[AR,dM,eF,cY,<-t3];simp[ac]
      rw[hB2]at hB;refine⟨_,_,ZQ he hs hz u1,?_⟩
      refine h.move hd θ [o2] (fun o ho=>by simp at ho;subst ho;exact⟨_,ho2⟩) (m:=dw [e,e2,ei2].length (bu (.slice (some ⟨w.heap.size,0,none⟩) 1 1) [kid])) ⟨rfl,AE _⟩ rfl rfl (by simp) (fun b hb _=>(World.grownBy_alloc w _ none).block b hb (by simp))
       ⟨_,rfl,hT⟩ ?_ ?_ rfl rfl
      ·rw[hB]
       exact Aa.2 ⟨fun hc=>by have:=old _ (by rw[t3];exact hc);omega,hnd2⟩
      ·intro b hb
       rw[hB]at hb;rcases AH.1 hb with rfl|hb
       ·exact .inr (AE _)
       ·exact .inl ⟨o2,by simp,hb⟩
     ·simp[Rd.run]at hr3
    ·simp[Rd.run]at hr2
   ·simp[Rd.run]at hr
 ·simp[Rd.run]at hr
theorem ZS{hint:Bool}{d:Nat}{t:TypeId}{n:Nat}{parts:Array (Nat×Operand)}{eff:Eff}(hr:(GI C.P hint d t n parts).run σ=some eff)(h:St C σ mu a w)
  {dst:Option Nat}(hd:∀d,dst=some d->d<C.N) :
  ∃v w',(Instr.buildSlice t n (parts.map fun(i,x)=>(i,a.eval x))).run C.P w=.ok v w'/\ay C (σ.app dst eff) (a.put dst v) w':=by
 unfold GI at hr;split at hr
 ·rename_i hc
  obtain⟨hp,hn⟩:=hc;split at hr
  ·simp[Rd.run]at hr
  ·rename_i e he
   split at hr
   ·simp[Rd.run]at hr
   ·rename_i k hk
    split at hr
    ·rename_i hs
     obtain⟨hs,hz⟩:=hs;have hz:∃z,(zeroValue e).run C.P w=.ok z w:=by
      cases hq:iP C.P e with
      |none=>rw[hq]at hz;cases hz
      |some cs=>exact let⟨z,h1,_⟩:=oY hq w (σ.env C.wF mu);⟨z,h1⟩
     have hpl:parts.toList.length=n:=by have:=A8 List.length hp;simpa using this
     obtain⟨svs,hr2,h1,h2⟩:=j9 h _ _ _ hr;clear hr;split at hr2
     ·obtain⟨θ,hr4⟩:=b8 hr2
      simp only[Rd.run,AC]at hr4;subst hr4;have hp0:parts.toList=[]:=BJ (by rw[Ae]at h1;exact h1.symm)
      have hn0:n=0:=by rw[<-hpl,hp0];rfl
      subst hn0;have hpm:(parts.map fun(i,x)=>(i,a.eval x))=#[]:=by
       apply Aw
       rw[Cf,hp0];rfl
      rw[hpm];refine⟨_,_,ZP he hs,?_⟩
      refine h.new hd θ (fP w _ none) (m:=⟨.slice (some ⟨w.heap.size,0,none⟩) 0 0,[]⟩) (ob:=.lst 0 e (.p3 k [])) (p:=none) ⟨rfl,[],?_,fun i u hi=>by simp at hi⟩ (by simp[Img.blocks,ac]) (by simp[Img.blocks,ac]) ?_
      ·exact⟨rfl,.inr ⟨w.heap.size,0,#[],rfl,Ad _,heap_alloc_new w _,AE _,by unfold maxLen;omega,rfl,rfl⟩⟩
      ·simp[aw,ai,bS,OSt.on,dX,Value.oneCell']
     ·rename_i c1 c2
      have hn1:n=1:=by rw[<-hpl,<-Ae (f:=(·.2)),<-h1];rfl
      subst hn1;obtain⟨x,hx1,hx2⟩:=h2 0 _ rfl;obtain⟨arr,hax,hrl⟩:=hx2;have hpp:parts.toList=[(0,x)]:=by
       match hp':parts.toList,hpl with
       | [p],_ =>
        rw[hp']at hx1 hp;simp at hx1 hp
        rw[show p=(p.1,p.2) from rfl,hp,hx1]
      obtain⟨u1,a1,b1,rc1⟩:=hrl.2 0 c1 rfl;obtain⟨u2,a2,b2,rc2⟩:=hrl.2 1 c2 rfl;have harr:arr=#[u1,u2]:=by
       have hsz:arr.size=2:=hrl.1
       apply B6
       intro j
       match j with
       |0=>rw[a1];rfl
       |1=>rw[a2];rfl
       |j+2=>rw[BD (by omega),BD (by simp)]
      have hpm:(parts.map fun(i,x)=>(i,a.eval x))=#[(0,.agg #[u1,u2])]:=by
       apply Aw
       rw[Cf,hpp,<-harr,<-hax];rfl
      rw[hpm];obtain⟨pr,hr3,hpr⟩:=HZ h hr2;clear hr2;split at hr3
      ·rename_i k1 l1 k2 l2 fs
       split at hr3
       ·rename_i hkk
        obtain⟨rfl,rfl⟩:=hkk;obtain⟨θ,hr4⟩:=b8 hr3;simp only[Rd.run,AC]at hr4;subst hr4;obtain⟨q1,q2,q3⟩:=hpr _ _ rfl;obtain⟨wG,mu1,gf,s1,m1,e1⟩:=h.fzs fs q1;have hst:∀o x,lk fs o=some x->((State.mk σ.fr (fs++σ.hp)).env wG mu1).st o=match x with|some (.frz d)=>.frz d|_=>.dead:=fun o x hx=>by
         have hm:(o,x)∈fs:=qW hx
         obtain⟨_,d',_,_,rfl⟩:=q1 o x hm;exact fD (by simp only[State.H,gt,hx])
        have r1:=q3 0 _ _ rfl rfl u1 rc1 _ e1 hst
        have r2:=q3 1 _ _ rfl rfl u2 rc2 _ e1 hst
        refine⟨_,_,Pz he hs hz u1 u2,ay.up gf ?_⟩
        have hab1:=nj q1 θ
        refine s1.new hd (d:=d) (by rw[gv hab1];exact θ) (fP w _ none) (m:=⟨.slice (some ⟨w.heap.size,0,none⟩) 1 1,[]⟩) (ob:=.lst 0 e (.p3 k2 [(l1,l2)])) (p:=none) ⟨rfl,[u1,u2],?_,fun i u hi=>?_⟩ (by simp[Img.blocks,ac]) (by simp[Img.blocks,ac]) ?_
        ·exact⟨rfl,.inr ⟨w.heap.size,1,#[u1,u2],rfl,Ad _,heap_alloc_new w _,AE _,by unfold maxLen;omega,rfl,rfl⟩⟩
        ·match i,hi with
         |0,hi=>cases hi;exact⟨b1,_,rfl,r1.2⟩
         |1,hi=>cases hi;exact⟨b2,_,rfl,r2.2⟩
         |i+2,hi=>simp at hi
        ·simp[aw,ai,bS,OSt.on,dX,Value.oneCell']
       ·simp[Rd.run]at hr3
      ·split at hr3
       ·rename_i o1 o2
        obtain⟨ob1,ho1,hr4⟩:=aZ hr3;clear hr3;obtain⟨ob2,ho2,hr5⟩:=aZ hr4;clear hr4;split at hr5
        ·rename_i v1 e1 ei1 k1 l1 v2 e2 ei2 k2 l2
         split at hr5
         ·rename_i φ
          obtain⟨rfl,rfl,rfl,rfl,hne⟩:=φ;obtain⟨θ,hr6⟩:=b8 hr5;simp only[Rd.run,AC]at hr6;subst hr6;obtain⟨kid1,t1,t2,t3⟩:=nk (h.ob o1 _ ho1) rfl;obtain⟨kid2,z1,z2,z3⟩:=nk (h.ob o2 _ ho2) rfl;have hv1:u1=(mu o1).hd:=aP ho1 rc1
          have hv2:u2=(mu o2).hd:=aP ho2 rc2
          have hnd1:=(h.nd o1 _ ho1).1
          have hnd2:=(h.nd o2 _ ho2).1
          have old1:=t1.block
          have old2:=z1.block
          have hT:br (w.alloc (.cells #[u1,u2] e)) [e,e1,ei1] (bu (.slice (some ⟨w.heap.size,0,none⟩) 1 1) [kid1,kid2]) (.p3 k2 [(l1,l2)]):=by
           refine⟨rfl,rfl,?_,fun i u x hu hx=>?_⟩
           ·rw[eF,cY]
            refine⟨rfl,.inr ⟨w.heap.size,1,#[u1,u2],rfl,Ad _,heap_alloc_new w _,AE _,by unfold maxLen;omega,rfl,?_⟩⟩
            rw[hv1,hv2,<-t2,<-z2];rfl
           ·rw[cY]at hu
            match i,hu with
            |0,hu =>
             simp at hu
             subst hu;cases hx;exact t1.keep fun b hb=>(World.grownBy_alloc w _ none).block b (old1 b hb) (by simp)
            |1,hu =>
             simp at hu
             subst hu;cases hx;exact z1.keep fun b hb=>(World.grownBy_alloc w _ none).block b (old2 b hb) (by simp)
            |i+2,hu=>simp at hu
          have hB:=ef hT
          have hB2:aW [e,e1,ei1].length (bu (.slice (some ⟨w.heap.size,0,none⟩) 1 1) [kid1,kid2])=w.heap.size::((mu o1).blocks++(mu o2).blocks):=by
           rw[AR,dM,eF,cY,<-t3,<-z3];simp[ac]
          rw[hB2]at hB;refine⟨_,_,Pz he hs hz u1 u2,?_⟩
          refine h.move hd θ [o1,o2] (fun o ho=>by
           simp at ho
           rcases ho with rfl|rfl
           ·exact⟨_,ho1⟩
           ·exact⟨_,ho2⟩) (m:=dw [e,e1,ei1].length (bu (.slice (some ⟨w.heap.size,0,none⟩) 1 1) [kid1,kid2])) ⟨rfl,AE _⟩ rfl rfl (by simp) (fun b hb _=>(World.grownBy_alloc w _ none).block b hb (by simp))
           ⟨_,rfl,hT⟩ ?_ ?_ rfl rfl
          ·rw[hB]
           refine Aa.2 ⟨fun hc=>?_,Ak.2 ⟨hnd1,hnd2,fun b hb b' hb' hc=>?_⟩⟩
           ·rcases AL.1 hc with hc|hc
            ·have:=old1 _ (by rw[t3];exact hc);omega
            ·have:=old2 _ (by rw[z3];exact hc);omega
           ·subst hc;exact h.sep o1 o2 _ _ hne ho1 ho2 b hb hb'
          ·intro b hb
           rw[hB]at hb;rcases AH.1 hb with rfl|hb
           ·exact .inr (AE _)
           ·rcases AL.1 hb with hb|hb
            ·exact .inl ⟨o1,by simp,hb⟩
            ·exact .inl ⟨o2,by simp,hb⟩
         ·simp[Rd.run]at hr5
        ·simp[Rd.run]at hr5
       ·simp[Rd.run]at hr3
     ·simp[Rd.run]at hr2
    ·simp[Rd.run]at hr
 ·simp[Rd.run]at hr
end
end Go.Sx
