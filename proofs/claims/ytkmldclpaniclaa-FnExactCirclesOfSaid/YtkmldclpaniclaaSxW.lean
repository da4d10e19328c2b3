/- SxW -/
import Derived.Test.YtkmldclpaniclaaSxV
namespace Go.Sx
open Go.RowKit
theorem Hc:∀{mt:List (Nat×Nat)} {i j x:Nat},mt[x]?=some (i,j)→∃y,bh mt i j=some y
 | [],_,_,_,h=>by simp at h
 | (a,b)::l,i,j,x,h=>by
  simp only [bh];split
  ·exact ⟨0,rfl⟩
  ·rename_i hne
   cases x with
   | zero=>simp at h;exact absurd h hne
   | succ x =>
    obtain ⟨y,hy⟩:=Hc (mt:=l) (x:=x) (by simpa using h)
    exact ⟨y+1,by simp [hy]⟩
theorem gW {mt:List (Nat×Nat)} {x:Nat} {i j:Nat} (h:mt[x]?=some (i,j)):(dp mt)[x]?=some (bZ i j):=by simp [dp,h]
theorem tm {mt:List (Nat×Nat)} (hn:(dp mt).Nodup) {x y o:Nat} (hx:(dp mt)[x]?=some o) (hy:(dp mt)[y]?=some o):x=y :=
 (List.getElem?_inj (List.getElem?_eq_some_iff.1 hx).1 hn).1 (hx.trans hy.symm)
theorem Ak {mt:List (Nat×Nat)} (hn:(dp mt).Nodup) {x i j:Nat} (h:mt[x]?=some (i,j)):bh mt i j=some x:=by
 obtain ⟨y,hy⟩:=Hc h;rw [hy,tm hn (gW (gR hy)) (gW h)]
theorem oH {ds:List AD}:∀{mt:List (Nat×Nat)} {wrs:List RC} {hp:List (Nat×Option Ob)},iD ds mt wrs=some hp→∀o x,lk hp o=some x →
  ∃(k i j:Nat) (ob:Ob) (rc:RC),mt[k]?=some (i,j)∧o=bZ i j∧wrs[k]?=some rc∧la ds i j rc=some ob∧x=some ob
 | [],[],hp,h,o,x,hx=>by simp [iD] at h;subst h;simp [lk] at hx
 | y::mt,rc::wrs,hp,h,o,x,hx=>by
  simp only [iD] at h;split at h
  ·rename_i ob hob
   split at h
   ·rename_i l hl
    cases h;rw [aP] at hx;split at hx
    ·rename_i ho
     cases hx;exact ⟨0,y.1,y.2,ob,rc,rfl,ho.symm,rfl,hob,rfl⟩
    ·obtain ⟨k,i,j,ob',rc',h1,h2,h3,h4,h5⟩:=oH hl o x hx
     exact ⟨k+1,i,j,ob',rc',by simpa using h1,h2,by simpa using h3,h4,h5⟩
   ·cases h
  ·cases h
 | [],_::_,_,h,_,_,_=>by simp [iD] at h
 | _::_,[],_,h,_,_,_=>by simp [iD] at h
theorem P0 {ds:List AD} {i j:Nat} {rc:RC} {ob:Ob} (h:la ds i j rc=some ob):ob.isFz=false:=by
 unfold la at h;split at h
 ·split at h
  ·split at h
   ·cases h;rfl
   ·cases h
  ·cases h
 ·split at h
  ·unfold fx at h
   repeat' split at h
   all_goals first | cases h;done | (cases h;rfl)
  ·cases h
theorem Al {ds:List AD}:∀{mt:List (Nat×Nat)} {wrs:List RC} {hp:List (Nat×Option Ob)},iD ds mt wrs=some hp→∀o∈dp mt,∃ob,lk hp o=some (some ob)
 | [],_,_,_,o,ho=>by simp [dp] at ho
 | y::mt,rc::wrs,hp,h,o,ho=>by
  simp only [iD] at h;split at h
  ·rename_i ob hob
   split at h
   ·rename_i l hl
    cases h;rw [aP];split
    ·exact ⟨ob,rfl⟩
    ·rename_i hne
     simp only [dp,List.map_cons,List.mem_cons] at ho;exact Al hl o (ho.resolve_left (fun hc=>hne hc.symm))
   ·cases h
  ·cases h
 | _::_,[],_,h,_,_=>by simp [iD] at h
theorem Hd {o:Nat}:∀{ds:List FC} {j k:Nat} {c:SC},(iC o j ds)[k]?=some c→∃d,ds[k]?=some d∧c=if cL d then cI d else .orig o (j+k) d
 | [],j,k,c,h=>by simp [iC] at h
 | d::ds,j,k,c,h=>by
  simp only [iC] at h;cases k with
  | zero=>simp at h;exact ⟨d,rfl,by rw [Nat.add_zero,h]⟩
  | succ k =>
   obtain ⟨d',h1,h2⟩:=Hd (k:=k) (by simpa using h)
   exact ⟨d',by simpa using h1,by rw [h2,show j+1+k=j+(k+1) by omega]⟩
theorem Am {o:Nat}:∀{ds:List FC} {j:Nat},(iC o j ds).length=ds.length
 | [],_=>rfl
 | d::ds,j=>by simp [iC,Am (ds:=ds)]
theorem P1 {ds:List AD} {i j:Nat} {cs:List FC} (h:kZ ds i j=some cs):j=0∧(ds[i]?=some (.box cs)∨∃F s,ds[i]?=some (.fvs F s)∧cs=[.int .i64 s]):=by
 unfold kZ at h;split at h
 ·split at h
  ·cases h;exact ⟨rfl,.inl (by assumption)⟩
  ·cases h
 ·split at h
  ·cases h;exact ⟨rfl,.inr ⟨_,_,by assumption,rfl⟩⟩
  ·cases h
 ·cases h
theorem He {mt:List (Nat×Nat)}:∀{ds:List AD} {i t:Nat} {sv:SV},lk (mJ mt i ds) t=some sv→∃j d,ds[j]?=some d∧t=i+j∧sv=G5 mt t d
 | [],i,t,sv,h=>by simp [mJ,lk] at h
 | d::ds,i,t,sv,h=>by
  simp only [mJ] at h;rw [aP] at h;split at h
  ·rename_i ht
   cases h;exact ⟨0,d,rfl,by omega,by rw [ht]⟩
  ·obtain ⟨j,d',h1,h2,h3⟩:=He h
   exact ⟨j+1,d',by simpa using h1,by omega,h3⟩
theorem Hf {mt:List (Nat×Nat)} {i:Nat}:∀{cs:List FC} {s k:Nat} {c:SC},(kY mt i s cs)[k]?=some c→∃d,cs[k]?=some d∧c=oy mt i (s+k) d
 | [],s,k,c,h=>by simp [kY] at h
 | d::cs,s,k,c,h=>by
  simp only [kY] at h;cases k with
  | zero=>simp at h;exact ⟨d,rfl,h.symm⟩
  | succ k =>
   obtain ⟨d',h1,h2⟩:=Hf (k:=k) (by simpa using h)
   exact ⟨d',by simpa using h1,by rw [h2];congr 1;omega⟩
theorem Hg {mt:List (Nat×Nat)} {i:Nat}:∀{cs:List FC} {s:Nat},(kY mt i s cs).length=cs.length
 | [],_=>rfl
 | _::cs,s=>by simp [kY,Hg (cs:=cs)]
theorem P2 {E:Env} {wF w:World} (hk:bw wF E.wF) {m:Img} {ob ob0 ob1:Ob} {rc:RC} {d:FC} {q:Prop} (h1:eg ob=some d) (h2:bK ob rc=some (ob1,q)) (h3:fx d rc=some ob0) (h:aH (E0 wF) w m ob) :
  aH E w m ob0∧ob0.shp.ver=0:=by
 unfold bK at h2;split at h2
 ·cases h1
  split at h2
  ·rename_i he
   obtain ⟨rfl,rfl⟩:=he;simp only [fx,if_true,Option.some.injEq] at h3;subst h3;exact ⟨h,rfl⟩
  ·cases h2
 ·cases h1
  split at h2
  ·rename_i he
   subst he;simp only [fx,Option.some.injEq] at h3;subst h3;exact ⟨h,rfl⟩
  ·cases h2
 ·cases h1
  split at h2
  ·rename_i he
   obtain ⟨rfl,rfl,rfl⟩:=he;simp only [fx,if_true,Option.some.injEq] at h3;subst h3;exact ⟨h,rfl⟩
  ·cases h2
 ·cases h1
 ·cases h1
  split at h2
  ·rename_i he
   have he:=g8 he
   subst he;have h4:∀(es:List TypeId) (x:FC),fx d (.tr es x)=some ob0→ob0=.tr 0 es d:=fun es x h5=>by
    cases d <;> (simp only [fx,Option.some.injEq] at h5;exact h5.symm)
   rw [h4 _ _ h3];exact ⟨h,rfl⟩
  ·cases h2
 ·obtain ⟨rfl,hs⟩:=rS h1
  split at h2
  ·rename_i he
   subst he;obtain ⟨q1,vs,q2,q3⟩:=h;have fin:aH E w m (.lst 0 _ d):=⟨q1,vs,q2,fun i u hi=>let ⟨r1,fc,r2,r3⟩:=q3 i u hi;⟨r1,fc,r2,r3.mono hk⟩⟩
   cases d <;> simp only [fx,reduceCtorEq,Option.some.injEq] at h3 <;> subst h3 <;> exact ⟨fin,rfl⟩
  ·cases h2
 ·cases h1
  split at h2
  ·rename_i he
   obtain ⟨rfl,rfl⟩:=he;simp only [fx,if_true,Option.some.injEq] at h3;subst h3;exact ⟨h,rfl⟩
  ·cases h2
 ·cases h1
  split at h2
  ·rename_i he
   obtain ⟨rfl,rfl,rfl⟩:=he;simp only [fx,if_true,Option.some.injEq] at h3;subst h3;exact ⟨h,rfl⟩
  ·cases h2
 ·cases h2
theorem Hh {E:Env} {m:Img} {o:Nat} (hm:E.mu o=m) (hs:∃s,E.st o=.live s∧s.ver=0):∀{cs:List SC} {ds:List FC} {j:Nat} {p:Prop},jd o j cs ds=some p→p →
  ds.length=cs.length∧∀(k:Nat) (d:FC),ds[k]?=some d→∃c,cs[k]?=some c∧∀v,ac E c v→jk m (j+k) d v
 | [],ds,j,p,h,_=>by
  cases ds with
  | nil=>exact ⟨rfl,fun k d hk=>by simp at hk⟩
  | cons d ds=>simp [jd] at h
 | c::cs,[],j,p,h,_=>by cases c <;> simp [jd] at h
 | c::cs,d::ds,j,p,h,hp=>by
  have fin:∀{q:Prop},jd o (j+1) cs ds=some q→q→(∀v,ac E c v→jk m j d v) →
    (d::ds).length=(c::cs).length∧∀(k:Nat) (x:FC),(d::ds)[k]?=some x→∃y,(c::cs)[k]?=some y∧∀v,ac E y v→jk m (j+k) x v:=fun {q} hq hq2 h0=>by
   obtain ⟨h1,h2⟩:=Hh hm hs hq hq2;refine ⟨by simp [h1],fun k x hx=>?_⟩
   cases k with
   | zero=>simp at hx;subst hx;exact ⟨c,rfl,h0⟩
   | succ k =>
    obtain ⟨y,h3,h4⟩:=h2 k x (by simpa using hx)
    exact ⟨y,by simpa using h3,fun v hv=>by rw [show j+(k+1)=j+1+k by omega];exact h4 v hv⟩
  unfold jd at h;split at h
  ·rename_i h1 h2;cases h1
  ·rename_i h1 h2
   cases h1;cases h2;split at h
   ·rename_i hk
    subst hk;split at h
    ·rename_i q hq
     cases h;exact fin hq hp.2 fun v hv=>by rw [←hp.1];exact hv
    ·cases h
   ·cases h
  ·rename_i h1 h2
   cases h1;cases h2;split at h
   ·rename_i q hq
    cases h;exact fin hq hp.2 fun v hv=>by rw [←hp.1];exact hv
   ·cases h
  ·rename_i h1 h2
   cases h1;cases h2;split at h
   ·rename_i hoj
    split at h
    ·rename_i q0 hq0
     split at h
     ·rename_i hsc
      split at h
      ·rename_i q hq
       cases h;have:=ft hq0 hp.1
       subst this;rw [Bool.and_eq_true] at hoj;have e1:=Nat.eq_of_beq_eq_true hoj.1
       have e2:=Nat.eq_of_beq_eq_true hoj.2
       subst e1;subst e2;refine fin hq hp.2 fun v hv=>?_
       obtain ⟨s,k1,k2⟩:=hs;have h5:=hv.2.2
       rw [k1] at h5;have h6:=h5 k2
       rw [hm] at h6;unfold jk;split
       ·cases hsc
       ·cases hsc
       ·cases hsc
       ·exact h6
      ·cases h
     ·cases h
    ·cases h
   ·cases h
  ·cases h
theorem P3 {o:Nat} {obf:Ob} {rc:RC} {p:Prop} (h:fU o obf rc=some p):obf.shp.ver=0:=by
 cases obf with
 | box cs=>rfl
 | bx cs=>cases h
 | strs e l=>cases h
 | lst ver e d=>cases h
 | frz d=>cases h
 | mp l=>cases h
 | qu e k l=>cases h
 | rowsH ver e ei k l hs=>cases h
 | ints e k l=>rfl
 | bools e l=>rfl
 | rows ver e ei k l =>
  cases rc <;> simp only [fU,reduceCtorEq] at h
  split at h
  ·rename_i he;exact he.1
  ·cases h
 | yd yv Y pre g=>cases h
 | tr ver es d =>
  cases rc <;> simp only [fU,reduceCtorEq] at h
  split at h
  ·rename_i he
   rw [Bool.and_eq_true] at he;exact Nat.eq_of_beq_eq_true he.1
  ·cases h
theorem P4 {o:Nat} {obf:Ob} {rc:RC} {p:Prop} (h:fU o obf rc=some p):obf.isFz=false:=by cases obf <;> first | rfl | cases h
theorem P5 {E:Env} {w w0:World} {m:Img} {o:Nat} {ob ob1 obf:Ob} {rc:RC} {q p:Prop} (h2:bK ob rc=some (ob1,q)) (h3:fU o obf rc=some p) (hp:p) (h:aH E w m obf)
  (hm:E.mu o=m) (hs:E.st o=.live obf.shp):aH (E0 w0) w m ob1:=by
 cases obf with
 | bx cs=>cases h3
 | strs e l=>cases h3
 | lst ver e d=>cases h3
 | frz d=>cases h3
 | mp l=>cases h3
 | qu e k l=>cases h3
 | rowsH ver e ei k l hs=>cases h3
 | yd yv Y pre g=>cases h3
 | tr ver es d =>
  cases rc <;> simp only [fU,reduceCtorEq] at h3
  rename_i es' d';split at h3
  ·rename_i he
   rw [Bool.and_eq_true] at he;have he2:=g8 he.2
   subst he2;have:=ft h3 hp
   subst this;cases ob <;> simp only [bK,reduceCtorEq] at h2
   split at h2
   ·rename_i he3
    have he3:=g8 he3
    subst he3;cases h2;exact h
   ·cases h2
  ·cases h3
 | box cs =>
  cases rc <;> simp only [fU,tf,reduceCtorEq] at h3
  rename_i ds;obtain ⟨q1,q2⟩:=Hh hm ⟨_,hs,rfl⟩ h3 hp;obtain ⟨b,arr,t,k1,k2,k3,k4,k5⟩:=h;have hob:ob1=.bx ds:=by
   cases ob <;> simp only [bK,reduceCtorEq] at h2
   split at h2
   ·cases h2;rfl
   ·cases h2
  subst hob;refine ⟨b,arr,t,k1,k2,k3,by rw [k4,q1],fun j d hj=>?_⟩
  obtain ⟨c,r1,r2⟩:=q2 j d hj;obtain ⟨u,r3,r4,r5⟩:=k5 j c r1;have r6:=r2 u r5
  rw [Nat.zero_add] at r6;exact ⟨u,r3,r4,r6⟩
 | ints e k l =>
  cases rc <;> simp only [fU,reduceCtorEq] at h3
  split at h3
  ·rename_i he
   obtain ⟨rfl,rfl⟩:=he;cases h3;subst hp;cases ob <;> simp only [bK,reduceCtorEq] at h2
   split at h2
   ·rename_i he
    obtain ⟨rfl,rfl⟩:=he;cases h2;exact h
   ·cases h2
  ·cases h3
 | bools e l =>
  cases rc <;> simp only [fU,reduceCtorEq] at h3
  split at h3
  ·rename_i he
   subst he;cases h3;subst hp;cases ob <;> simp only [bK,reduceCtorEq] at h2
   split at h2
   ·rename_i he
    subst he;cases h2;exact h
   ·cases h2
  ·cases h3
 | rows ver e ei k l =>
  cases rc <;> simp only [fU,reduceCtorEq] at h3
  split at h3
  ·rename_i he
   obtain ⟨rfl,rfl,rfl,rfl⟩:=he;cases h3;subst hp;cases ob <;> simp only [bK,reduceCtorEq] at h2
   split at h2
   ·rename_i he
    obtain ⟨rfl,rfl,rfl⟩:=he;cases h2;exact h
   ·cases h2
  ·cases h3
section
variable {σ:State}
theorem Hi {c:SC} {rc:RC}:cY σ (ti σ c rc):=by
 unfold ti;split
 ·exact mH
 ·exact mH
 ·exact mH
 ·exact GT
 ·exact .nil
theorem Hj:∀{cs:List SC} {rcs:List RC},cY σ (Ac σ cs rcs)
 | [],_=>.nil
 | _::_,[]=>.nil
 | _::_,_::_=>cY.app Hi Hj
theorem An {sv:SV} {x:RC ⊕ List RC}:cY σ (oF σ sv x):=by
 unfold oF;split
 ·split
  ·exact Hi
  ·exact .nil
 ·split
  ·exact Hj
  ·exact .nil
theorem Hk:∀{svs:List SV} {l:List (RC ⊕ List RC)},cY σ (Ad σ svs l)
 | [],_=>.nil
 | _::_,[]=>.nil
 | _::_,_::_=>cY.app An Hk
theorem P6 {svs:List SV} {rv:RV}:cY σ (Ae σ svs rv):=by
 unfold Ae;split
 ·split
  ·exact An
  ·exact .nil
 ·split
  ·exact An
  ·exact .nil
 ·exact Hk
 ·exact .nil
end
theorem Hl {o:Nat}:∀{l:List Nat},bS o l=false→o∈l
 | [],h=>by cases h
 | x::l,h=>by
  simp only [bS] at h;split at h
  ·rename_i hx;rw [Nat.eq_of_beq_eq_true hx];exact List.mem_cons_self ..
  ·exact List.mem_cons_of_mem _ (Hl h)
theorem Hm:∀{mt:List (Nat×Nat)} {wrs:List RC} {x i j:Nat} {rc:RC},mt[x]?=some (i,j)→wrs[x]?=some rc→rc.isGone=false→∃y:Nat,(dD mt wrs)[y]?=some (bZ i j)∧(jL wrs)[y]?=some rc
 | [],_,x,i,j,rc,h,_,_=>by simp at h
 | _::_,[],x,i,j,rc,_,h,_=>by simp at h
 | (i0,j0)::mt,rc0::wrs,x,i,j,rc,h1,h2,h3=>by
  cases x with
  | zero =>
   simp at h1 h2
   obtain ⟨rfl,rfl⟩:=h1;subst h2;exact ⟨0,by simp [dD,h3],by simp [jL,h3]⟩
  | succ x =>
   obtain ⟨y,h4,h5⟩:=Hm (mt:=mt) (wrs:=wrs) (by simpa using h1) (by simpa using h2) h3
   cases hg:rc0.isGone with
   | true=>exact ⟨y,by simpa [dD,hg] using h4,by simpa [jL,hg] using h5⟩
   | false=>exact ⟨y+1,by simpa [dD,hg] using h4,by simpa [jL,hg] using h5⟩
theorem Hn {σ:State}:∀{os:List Nat} {rcs:List RC} {p:Prop},lf σ os rcs=some p→p→∀(x o:Nat) (rc:RC),os[x]?=some o→rcs[x]?=some rc →
  ∃ob q,σ.H o=some (some ob)∧fU o ob rc=some q∧q
 | [],[],_,_,_,x,o,rc,h,_=>by simp at h
 | o::os,rc::rcs,p,hm,hp,x,o',rc',h1,h2=>by
  simp only [lf] at hm;split at hm
  ·rename_i ob ho
   split at hm
   ·rename_i q hq
    split at hm
    ·rename_i q' hq'
     cases hm;cases x with
     | zero=>simp at h1 h2;subst h1;subst h2;exact ⟨ob,q,ho,hq,hp.1⟩
     | succ x=>exact Hn hq' hp.2 x o' rc' (by simpa using h1) (by simpa using h2)
    ·cases hm
   ·cases hm
  ·cases hm
 | [],_::_,_,h,_,_,_,_,_,_=>by simp [lf] at h
 | _::_,[],_,h,_,_,_,_,_,_=>by simp [lf] at h
end Go.Sx
