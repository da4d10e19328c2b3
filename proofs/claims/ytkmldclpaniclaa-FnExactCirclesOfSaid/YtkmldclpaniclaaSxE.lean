/- SxE -/
import Derived.Test.YtkmldclpaniclaaSxD
namespace Go.Sx
open Go.RowKit
theorem nN {w:World} {B e size n:Nat} {v:Value} {xs:List Value} (h:w.ownsRow B e size v n xs) {b:Nat} (hb:ab v=some b) :
  ∃cap,v=.slice (some ⟨b,0,none⟩) n cap∧n≤cap:=by
 rcases h.2 with ⟨rfl,_⟩ | ⟨g,cap,cur,rfl,_,_,hn,_⟩
 ·simp [ab] at hb
 ·simp [ab] at hb;subst hb;exact ⟨cap,rfl,hn⟩
theorem gv {w:World} {B e n:Nat} {v:Value} {xs:List Value} (h:w.ownsRow B e 1 v n xs) {b:Nat} (hb:ab v=some b) (j:Nat) (hj:j<n) :
  w.cell? ⟨b,j,none⟩=xs[j]?:=by
 obtain ⟨cap,rfl,_⟩:=nN h hb;exact h.cellAt j (by omega)
theorem d5 {w:World} {B e size n:Nat} {v:Value} {xs:List Value} (h:w.ownsRow B e size v n xs):v.oneCell'=true:=by
 rcases h.2 with ⟨rfl,_⟩ | ⟨g,cap,cur,rfl,_⟩ <;> rfl
theorem Fb:∀{p:List Nat} {nd u v:Value} {j:Nat},dG nd p=some u→(aU u)[j]?=some v→dG nd (p++[j])=some v
 | [],nd,u,v,j,h,hj=>by
  cases h;simp [dG,hj]
 | i::p,nd,u,v,j,h,hj=>by
  simp only [dG,List.cons_append] at h ⊢;split at h
  ·exact Fb h hj
  ·cases h
theorem bd.row {w:World}:∀{es:List TypeId} {u:Value} {x:FC},bd w es u x→∃e xs,w.ownsRow 0 e 1 (ay u) x.len xs
 | [],_,_,h=>False.elim h
 | [e],_,_,⟨_,k,l,h2,h3⟩=>by subst h2;exact ⟨e,_,h3⟩
 | e::_::_,_,_,⟨_,_,h3,_⟩=>⟨e,_,h3⟩
theorem bd.one {w:World} {es:List TypeId} {u:Value} {x:FC} (h:bd w es u x):(ay u).oneCell'=true:=by
 obtain ⟨e,xs,h1⟩:=h.row;exact d5 h1
theorem bd.len {w:World} {es:List TypeId} {u:Value} {x:FC} (h:bd w es u x) {b n c:Nat} (hd:ay u=.slice (some ⟨b,0,none⟩) n c):n=x.len:=by
 obtain ⟨e,xs,h1⟩:=h.row;obtain ⟨cap,h2,_⟩:=nN h1 (b:=b) (by rw [hd];rfl)
 rw [hd] at h2;cases h2;rfl
theorem yS {w:World} {es:List TypeId} {u:Value} {k:IntKind} {l:List Int} (h:bd w es u (.ints k l)):∃e,es=[e]∧w.ownsRow 0 e 1 (ay u) l.length (l.map (.int k)):=by
 match es,h with
 | [],h=>exact False.elim h
 | [e],⟨_,k',l',h2,h3⟩=>cases h2;exact ⟨e,rfl,h3⟩
 | _::_::_,⟨_,h2,_⟩=>simp [FC.dep] at h2
theorem Fc {w:World} {es:List TypeId} {u:Value} {x y:FC} {j:Nat} (h:bd w es u x) (hy:cJ x j=some y) (hj:j<x.len) :
  ∃e e2 es',es=e::e2::es'∧w.ownsRow 0 e 1 (ay u) x.len ((aU u).map ay)∧∃v,(aU u)[j]?=some v∧bd w (e2::es') v y:=by
 match es,h with
 | [],h=>exact False.elim h
 | [e],⟨_,k',l',h2,h3⟩=>subst h2;cases hy
 | e::e2::es',h =>
  have hl:=jm h
  obtain ⟨_,h2,h3,h4⟩:=h;exact ⟨e,e2,es',rfl,h3,_,List.getElem?_eq_getElem (by omega),h4 j _ y (List.getElem?_eq_getElem (by omega)) hy⟩
theorem jv {E:Env} {w:World} {m:Img} {ver:Nat} {es:List TypeId} {d:FC} (h:aH E w m (.tr ver es d)) {nd u:Value} {p:List Nat} (h1:m.ins[0]?=some nd) (h2:dG nd p=some u) :
  m=dm es.length nd∧bd w es nd d∧∃x,gh d p=some x∧bd w (es.drop p.length) u x∧∀b∈aN (es.drop p.length).length u,b∈m.blocks:=by
 obtain ⟨nd',rfl,h3⟩:=h;cases h1;obtain ⟨x,k1,k2,k3⟩:=bd.at h3 h2;exact ⟨rfl,h3,x,k1,k2,fun b hb=>by rw [dH h3];exact k3 b hb⟩
section
variable {C:Cx} {σ:State} {mu:Nat→Img} {a:Act} {w:World}
theorem az {o:Nat} {ob:Ob} (ho:σ.H o=some (some ob)) {v:Value} {p:Shp→Prop} {q:FC→Prop} (h:bA (σ.env C.wF mu) o v p q) (hf:ob.isFz=false:=by first | rfl | assumption):p ob.shp:=by
 have h:=h.2
 have:(σ.env C.wF mu).st o=.live ob.shp:=bL ho hf
 rw [this] at h;exact h
theorem aX.slice {w:World} {v:Value} {d:FC} (h:aX w v d) (hd:cL d=false:=by rfl):∃a n c,v=.slice a n c∧n≤c:=by
 cases d with
 | int k n=>cases hd
 | bool b=>cases hd
 | str l=>cases hd
 | _=>obtain ⟨a,c,hv,hle,_⟩:=h;exact ⟨a,_,c,hv,hle⟩
theorem kE {E:Env} {u:Value} {fc:FC} (h:aX E.wF u fc):ac E (cI fc) u∧u.oneCell'=true:=by
 cases fc with
 | int k n=>simp only [aX] at h;subst h;exact ⟨rfl,rfl⟩
 | bool b=>simp only [aX] at h;subst h;exact ⟨rfl,rfl⟩
 | str l=>simp only [aX] at h;subst h;exact ⟨rfl,rfl⟩
 | ints k l=>obtain ⟨a,n,c,hv,hle⟩:=h.slice;exact ⟨⟨⟨a,n,c,hv,hle⟩,h⟩,by rw [hv];rfl⟩
 | bools l=>obtain ⟨a,n,c,hv,hle⟩:=h.slice;exact ⟨⟨⟨a,n,c,hv,hle⟩,h⟩,by rw [hv];rfl⟩
 | rows k l=>obtain ⟨a,n,c,hv,hle⟩:=h.slice;exact ⟨⟨⟨a,n,c,hv,hle⟩,h⟩,by rw [hv];rfl⟩
 | r3 k l=>obtain ⟨a,n,c,hv,hle⟩:=h.slice;exact ⟨⟨⟨a,n,c,hv,hle⟩,h⟩,by rw [hv];rfl⟩
 | r4 k l=>obtain ⟨a,n,c,hv,hle⟩:=h.slice;exact ⟨⟨⟨a,n,c,hv,hle⟩,h⟩,by rw [hv];rfl⟩
theorem MP {d:FC} {i:Nat} {x fc:FC} (h:cJ d i=some x) (h2:d.elem i=some fc):x=fc:=by
 cases d <;> simp only [cJ,reduceCtorEq] at h <;> simp only [FC.elem] at h2 <;> split at h2 <;> cases h2 <;> cases h <;> rfl
theorem MQ {d:FC} {i:Nat} {x:FC} (h:cJ d i=some x):cL x=false:=by
 cases d <;> simp only [cJ,reduceCtorEq] at h <;> cases h <;> rfl
theorem MT {E:Env} {c:SC} {v:Value} (h:ac E c v):ac E (xF c) v:=by
 unfold xF;split
 ·exact h.1
 ·exact h
theorem ip (h:St C σ mu a w) {o:Nat} {cs:List SC} (ho:σ.H o=some (some (.box cs))) :
  ∃b arr t,(mu o).hd=.pointer (some ⟨b,0,none⟩)∧(∀u∈(mu o).ins,ab u=none)∧w.heap[b]?=some (.cells arr t (0,0))∧cw (σ.env C.wF mu) cs arr:=h.ob o _ ho
theorem Fd {t:TypeId} {cx:SC} {vx:Value} {eff:Eff} (hr:(qX C.P t cx).run σ=some eff) (hx:ac (σ.env C.wF mu) cx vx) (h:St C σ mu a w) :
  eff.hp=[]∧∃v,(Instr.loadAt t vx).run C.P w=.ok v w∧ak C.P (σ.env C.wF mu) eff.val v:=by
 unfold qX at hr;split at hr
 ·simp [Rd.run] at hr
 ·rename_i hagg
  split at hr
  ·simp [Rd.run] at hr
  ·rename_i n hn
   split at hr
   ·rename_i o i
    obtain ⟨ob,ho,hr⟩:=aG hr;cases ob with
    | box cs =>
     simp only at hr;split at hr
     ·rename_i hle
      simp only [Rd.run,Option.some.injEq] at hr;subst hr;obtain ⟨_,b,hb,rfl⟩:=az ho hx;obtain ⟨g,arr,ty,h1,h2,h3,h4⟩:=ip h ho;rw [State.env,h1] at hb;simp [ab] at hb
      subst hb;refine ⟨rfl,.agg ((arr.toList.drop i).take n).toArray,?_,_,rfl,?_⟩
      ·simp only [Instr.loadAt,Instr.sureAddr,Sem.run_bind,Sem.run_pure,Result.andThen_ok]
       refine Fa hagg hn (by simp [h4.1];omega) fun j u hu=>?_
       rw [cell_of_row w g (i+j) arr ty (0,0) h3];rw [List.getElem?_take] at hu;split at hu
       ·simpa using hu
       ·cases hu
      ·refine ⟨by simp [h4.1],fun j c hj=>?_⟩
       rw [List.getElem?_take] at hj;split at hj
       ·rename_i hjn
        rw [List.getElem?_drop] at hj;obtain ⟨u,h5,h6⟩:=h4.2 (i+j) c hj;exact ⟨u,by simp [hjn,h5],h6⟩
       ·cases hj
     ·simp [Rd.run] at hr
    | _=>simp [Rd.run] at hr
   ·rename_i cs i
    split at hr
    ·rename_i hle
     simp only [Rd.run,Option.some.injEq] at hr;subst hr;obtain ⟨b,off,rfl,hc⟩:=hx;have hex:∀j,j<n→∃u,w.cell? ⟨b,off+j,none⟩=some u∧∃fc,cs[i+j]?=some fc∧aX C.wF u fc:=fun j hj=>by
      obtain ⟨u,h1,h2⟩:=hc j _ (List.getElem?_eq_getElem (by omega:i+j<cs.length))
      exact ⟨u,(h.cells _ _ h1).2,_,List.getElem?_eq_getElem (by omega:i+j<cs.length),h2⟩
     let us:=(List.range n).map fun j=>(w.cell? ⟨b,off+j,none⟩).getD undef
     have hus:∀j,j<n→us[j]?=w.cell? ⟨b,off+j,none⟩:=fun j hj=>by
      obtain ⟨u,h1,_⟩:=hex j hj;simp [us,hj,h1]
     refine ⟨rfl,.agg us.toArray,?_,_,rfl,?_⟩
     ·simp only [Instr.loadAt,Instr.sureAddr,Sem.run_bind,Sem.run_pure,Result.andThen_ok]
      refine Fa hagg hn (by simp [us]) fun j u hu=>?_
      have hj:j<n:=by have:=(List.getElem?_eq_some_iff.1 hu).1;simpa [us] using this
      rw [←hus j hj];exact hu
     ·refine ⟨by simp [us];omega,fun j c hj=>?_⟩
      rw [List.getElem?_map,List.getElem?_take] at hj;split at hj
      ·rename_i hjn
       rw [List.getElem?_drop] at hj;obtain ⟨u,h1,fc,h2,h3⟩:=hex j hjn;rw [h2] at hj;simp at hj
       subst hj;have:=kE (E:=σ.env C.wF mu) h3
       exact ⟨u,by simp only [List.getElem?_toArray];rw [hus j hjn];exact h1,this.2,this.1⟩
      ·simp at hj
    ·simp [Rd.run] at hr
   ·simp [Rd.run] at hr
 ·rename_i hagg
  have hone:∀(b i:Nat) (u:Value),w.cell? ⟨b,i,none⟩=some u→(Instr.loadAt t (.pointer (some ⟨b,i,none⟩))).run C.P w=.ok u w:=fun b i u hu=>by
   simp only [Instr.loadAt,Instr.sureAddr,Sem.run_bind,Sem.run_pure,Result.andThen_ok];exact E9 hagg hu
  split at hr
  ·rename_i o i
   obtain ⟨ob,ho,hr⟩:=aG hr;have hnf:ob.isFz=false:=by cases ob <;> first | rfl | simp [Rd.run] at hr
   obtain ⟨hlt,b,hb,rfl⟩:=az ho hx hnf;clear hnf;cases ob with
   | frz d=>simp [Rd.run] at hr
   | mp l=>simp [Rd.run] at hr
   | qu e k l=>simp [Rd.run] at hr
   | rowsH ver e ei k l hs=>simp [Rd.run] at hr
   | yd yv Y pre g=>simp [Rd.run] at hr
   | tr ver es d=>simp [Rd.run] at hr
   | lst ver e d =>
    simp only at hr;split at hr
    ·rename_i x hx'
     simp only [Rd.run,aA,Option.some.injEq] at hr;subst hr;obtain ⟨_,vs,h1,h2⟩:=h.ob o _ ho;have hlt2:i<d.len:=hlt
     have hlv:vs.length=d.len:=by simpa using h1.1
     obtain ⟨h3,fc,h4,h5⟩:=h2 i _ (List.getElem?_eq_getElem (by omega))
     have hfx:x=fc:=MP hx' h4
     subst hfx;exact ⟨rfl,vs[i]'(by omega),hone b i _ (by rw [gv h1 hb i hlt2];exact List.getElem?_eq_getElem (by omega)),h5.slice (MQ hx'),h5⟩
    ·simp [Rd.run] at hr
   | box cs =>
    simp only at hr;split at hr
    ·rename_i c hc
     simp only [Rd.run,aA,Option.some.injEq] at hr;subst hr;obtain ⟨g,arr,ty,h1,h2,h3,h4⟩:=ip h ho;rw [State.env,h1] at hb;simp [ab] at hb
     subst hb;obtain ⟨u,h5,h6,h7⟩:=h4.2 i c hc;exact ⟨rfl,u,hone g i u (by rw [cell_of_row w g i arr ty (0,0) h3];exact h5),MT h7⟩
    ·simp [Rd.run] at hr
   | bx cs=>simp [Rd.run] at hr
   | strs e l =>
    simp only [Rd.run,aA,Option.some.injEq] at hr;subst hr;have:=h.ob o _ ho
    exact ⟨rfl,_,hone b i _ (by rw [gv this.2 hb i hlt];simp [show i<l.length from hlt];rfl),by simp [ak,ac,lX,List.getD,show i<l.length from hlt]⟩
   | ints e k l =>
    simp only [Rd.run,aA,Option.some.injEq] at hr;subst hr;have:=h.ob o _ ho
    exact ⟨rfl,_,hone b i _ (by rw [gv this.2 hb i hlt];simp [show i<l.length from hlt];rfl),by simp [ak,ac,List.getD,show i<l.length from hlt]⟩
   | bools e l =>
    simp only [Rd.run,aA,Option.some.injEq] at hr;subst hr;have:=h.ob o _ ho
    exact ⟨rfl,_,hone b i _ (by rw [gv this.2 hb i hlt];simp [show i<l.length from hlt];rfl),by simp [ak,ac,List.getD,show i<l.length from hlt]⟩
   | rows ver e ei k l =>
    simp only [Rd.run,aA,Option.some.injEq] at hr;subst hr;obtain ⟨h1,h2,h3⟩:=h.ob o _ ho;have hlt':i<(mu o).ins.length:=by rw [h2];exact hlt
    have hone':(mu o).ins[i].oneCell'=true:=d5 (h3 i _ _ (List.getElem?_eq_getElem hlt') (List.getElem?_eq_getElem hlt))
    refine ⟨rfl,(mu o).ins[i],hone b i _ (by rw [gv h1 hb i hlt,List.getElem?_eq_getElem hlt']),hone',?_⟩
    have:(σ.env C.wF mu).st o=.live (Ob.rows ver e ei k l).shp:=bL ho
    rw [this];exact ⟨Nat.le_refl _,fun _=>⟨List.getElem?_eq_getElem hlt',hlt⟩⟩
  ·rename_i o ver i j
   obtain ⟨ob,ho,hr⟩:=aG hr;have hnf:ob.isFz=false:=by cases ob <;> first | rfl | simp [Rd.run] at hr
   have hx:=az ho hx
   clear hnf;cases ob with
   | rows ver' e ei k l =>
    simp only at hr;split at hr
    ·rename_i hv
     simp only [Rd.run,aA,Option.some.injEq] at hr;subst hr;obtain ⟨h1,h2,h3⟩:=h.ob o _ ho;obtain ⟨hi,hj,r,b,hins,hb,rfl⟩:=hx.2 hv.symm;have hi':i<l.length:=hi
     have hrow:=h3 i r _ hins (List.getElem?_eq_getElem hi')
     have hj':j<l[i].length:=by
      have:((l.map List.length).getD i 0)=l[i].length:=by simp [List.getD,hi']
      simp only [Ob.shp] at hj;omega
     refine ⟨rfl,_,hone b j _ (by rw [gv hrow hb j hj'];simp [hj'];rfl),by simp [ak,ac,List.getD,hi',hj']⟩
    ·simp [Rd.run] at hr
   | _=>simp [Rd.run] at hr
  ·rename_i d i
   obtain ⟨b,off,fc,u,hfc,rfl,hcell,hrd⟩:=hx;have hu:=hone b off u (h.cells _ _ hcell).2
   split at hr <;> simp only [Rd.run,aA,Option.some.injEq,reduceCtorEq] at hr <;> subst hr
   ·simp only [FC.elem] at hfc
    split at hfc <;> cases hfc
    exact ⟨rfl,u,hu,hrd⟩
   ·simp only [FC.elem] at hfc
    split at hfc <;> cases hfc
    exact ⟨rfl,u,hu,hrd⟩
   ·simp only [FC.elem] at hfc
    split at hfc <;> cases hfc
    exact ⟨rfl,u,hu,hrd.slice,hrd⟩
   ·simp only [FC.elem] at hfc
    split at hfc <;> cases hfc
    exact ⟨rfl,u,hu,hrd.slice,hrd⟩
   ·simp only [FC.elem] at hfc
    split at hfc <;> cases hfc
    exact ⟨rfl,u,hu,hrd.slice,hrd⟩
  ·rename_i cs i
   obtain ⟨b,off,rfl,hc⟩:=hx;split at hr
   ·rename_i fc hfc
    simp only [Rd.run,aA,Option.some.injEq] at hr;subst hr;obtain ⟨u,h1,h2⟩:=hc 0 fc hfc;exact ⟨rfl,u,hone b off u (h.cells _ _ h1).2,(kE (E:=σ.env C.wF mu) h2).1⟩
   ·simp [Rd.run] at hr
  ·rename_i cs
   simp only [Rd.run,aA,Option.some.injEq] at hr;subst hr;obtain ⟨b,off,b2,off2,rfl,h0,h1⟩:=hx;exact ⟨rfl,_,hone b off _ (h.cells _ _ h0).2,⟨b2,off2,rfl,fun j fc hj=>h1 j fc (by rwa [Nat.zero_add] at hj)⟩⟩
  ·rename_i o i
   obtain ⟨ob,ho,hr⟩:=aG hr;have hnf:ob.isFz=false:=by cases ob <;> first | rfl | simp [Rd.run] at hr
   have hx:=az ho hx hnf
   clear hnf;cases ob with
   | qu e k l =>
    simp only [Rd.run,aA,Option.some.injEq] at hr;subst hr;obtain ⟨hlt,b,off,n,c,hhd,rfl⟩:=hx;have hhd:(mu o).hd=_:=hhd
    have hlt':i<l.length:=hlt
    obtain ⟨_,h2⟩:=h.ob o _ ho;rcases h2 with ⟨h2,_⟩ | ⟨g,off',cap,h2,_,_,_,_,h3⟩
    ·rw [hhd] at h2;cases h2
    ·rw [hhd] at h2;cases h2
     exact ⟨rfl,_,hone _ _ _ (h3 i (.int k l[i]) (by simp [hlt'])),by simp [ak,ac,List.getD,hlt']⟩
   | _=>simp [Rd.run] at hr
  ·rename_i o ver p j
   obtain ⟨ob,ho,hr⟩:=aG hr;have hnf:ob.isFz=false:=by cases ob <;> first | rfl | simp [Rd.run] at hr
   have hx:=az ho hx hnf
   clear hnf;cases ob with
   | tr ver' es d =>
    simp only at hr;split at hr
    ·rename_i hv
     split at hr
     ·rename_i x hx1
      obtain ⟨nd,u,b,n,c,q1,q2,q3,q4,rfl⟩:=hx.2 hv.symm;obtain ⟨_,_,x',k1,k2,_⟩:=jv (h.ob o _ ho) q1 q2;rw [hx1] at k1;cases k1;have hn:=k2.len q3
      subst hn;split at hr
      ·rename_i k l hl
       have hxi:x=.ints k l:=by
        cases x <;> simp only [qW,reduceCtorEq,Option.some.injEq,Prod.mk.injEq] at hl
        obtain ⟨rfl,rfl⟩:=hl;rfl
       subst hxi;simp only [Rd.run,aA,Option.some.injEq] at hr;subst hr;obtain ⟨e,_,k3⟩:=yS k2;have hj:j<l.length:=q4
       exact ⟨rfl,_,hone b j _ (by rw [gv k3 (b:=b) (by rw [q3];rfl) j hj];simp [hj];rfl),by simp [ak,ac,List.getD,hj]⟩
      ·split at hr
       ·rename_i y hy
        simp only [Rd.run,aA,Option.some.injEq] at hr;subst hr;obtain ⟨e,e2,es',_,k3,v,k4,k5⟩:=Fc k2 hy q4;refine ⟨rfl,ay v,hone b j _ (by rw [gv k3 (b:=b) (by rw [q3];rfl) j q4,List.getElem?_map,k4];rfl),k5.one,?_⟩
        have:(σ.env C.wF mu).st o=.live (Ob.tr ver' es d).shp:=bL ho
        rw [this];exact ⟨hx.1,fun _=>⟨nd,v,q1,Fb q2 k4,rfl⟩⟩
       ·simp [Rd.run] at hr
     ·simp [Rd.run] at hr
    ·simp [Rd.run] at hr
   | _=>simp [Rd.run] at hr
  ·simp [Rd.run] at hr
end
end Go.Sx
