/- SxF -/
import Derived.Test.YtcdmndagoafcgaaGreatSxD
section
namespace Go.Sx
open Go.RowKit
theorem qg {w:World} {B e size n:Nat} {v:Value} {xs:List Value} (h:w.ownsRow B e size v n xs) {b:Nat} (hb:ai v=some b) :
  ∃cap,v=.slice (some ⟨b,0,none⟩) n cap∧n≤cap:=by
 rcases h.2 with ⟨rfl,_⟩ | ⟨g,cap,cur,rfl,_,_,hn,_⟩
 ·simp [ai] at hb
 ·simp [ai] at hb;subst hb;exact ⟨cap,rfl,hn⟩
theorem iO {w:World} {B e n:Nat} {v:Value} {xs:List Value} (h:w.ownsRow B e 1 v n xs) {b:Nat} (hb:ai v=some b) (j:Nat) (hj:j<n) :
  w.cell? ⟨b,j,none⟩=xs[j]?:=by
 obtain ⟨cap,rfl,_⟩:=qg h hb;exact h.cellAt j (by omega)
theorem fq {w:World} {B e size n:Nat} {v:Value} {xs:List Value} (h:w.ownsRow B e size v n xs):v.oneCell'=true:=by
 rcases h.2 with ⟨rfl,_⟩ | ⟨g,cap,cur,rfl,_⟩ <;> rfl
theorem K8:∀{p:List Nat} {nd u v:Value} {j:Nat},eC nd p=some u→(bK u)[j]?=some v→eC nd (p++[j])=some v
 | [],nd,u,v,j,h,hj=>by
  cases h;simp [eC,hj]
 | i::p,nd,u,v,j,h,hj=>by
  simp only [eC,List.cons_append] at h ⊢;split at h
  ·exact K8 h hj
  ·cases h
theorem bL.row {w:World}:∀{es:List TypeId} {u:Value} {x:FC},bL w es u x→∃e xs,w.ownsRow 0 e 1 (bc u) x.len xs
 | [],_,_,h=>False.elim h
 | [e],_,_,⟨_,k,l,h2,h3⟩=>by subst h2;exact ⟨e,_,h3⟩
 | e::_::_,_,_,⟨_,_,h3,_⟩=>⟨e,_,h3⟩
theorem bL.one {w:World} {es:List TypeId} {u:Value} {x:FC} (h:bL w es u x):(bc u).oneCell'=true:=by
 obtain ⟨e,xs,h1⟩:=h.row;exact fq h1
theorem bL.len {w:World} {es:List TypeId} {u:Value} {x:FC} (h:bL w es u x) {b n c:Nat} (hd:bc u=.slice (some ⟨b,0,none⟩) n c):n=x.len:=by
 obtain ⟨e,xs,h1⟩:=h.row;obtain ⟨cap,h2,_⟩:=qg h1 (b:=b) (by rw [hd];rfl)
 rw [hd] at h2;cases h2;rfl
theorem Ec {w:World} {es:List TypeId} {u:Value} {k:IntKind} {l:List Int} (h:bL w es u (.ints k l)):∃e,es=[e]∧w.ownsRow 0 e 1 (bc u) l.length (l.map (.int k)):=by
 match es,h with
 | [],h=>exact False.elim h
 | [e],⟨_,k',l',h2,h3⟩=>cases h2;exact ⟨e,rfl,h3⟩
 | _::_::_,⟨_,h2,_⟩=>simp [FC.dep] at h2
theorem K9 {w:World} {es:List TypeId} {u:Value} {x y:FC} {j:Nat} (h:bL w es u x) (hy:du x j=some y) (hj:j<x.len) :
  ∃e e2 es',es=e::e2::es'∧w.ownsRow 0 e 1 (bc u) x.len ((bK u).map bc)∧∃v,(bK u)[j]?=some v∧bL w (e2::es') v y:=by
 match es,h with
 | [],h=>exact False.elim h
 | [e],⟨_,k',l',h2,h3⟩=>subst h2;cases hy
 | e::e2::es',h =>
  have hl:=mj h
  obtain ⟨_,h2,h3,h4⟩:=h;exact ⟨e,e2,es',rfl,h3,_,List.getElem?_eq_getElem (by omega),h4 j _ y (List.getElem?_eq_getElem (by omega)) hy⟩
theorem lw {E:Env} {w:World} {m:Img} {ver:Nat} {es:List TypeId} {d:FC} (h:bn E w m (.tr ver es d)) {nd u:Value} {p:List Nat} (h1:m.ins[0]?=some nd) (h2:eC nd p=some u) :
  m=fk es.length nd∧bL w es nd d∧∃x,iG d p=some x∧bL w (es.drop p.length) u x∧∀b∈bm (es.drop p.length).length u,b∈m.blocks:=by
 obtain ⟨nd',rfl,h3⟩:=h;cases h1;obtain ⟨x,k1,k2,k3⟩:=bL.at h3 h2;exact ⟨rfl,h3,x,k1,k2,fun b hb=>by rw [fm h3];exact k3 b hb⟩
section
variable {C:Cx} {σ:State} {mu:Nat→Img} {a:Act} {w:World}
theorem aV {o:Nat} {ob:Ob} (ho:σ.H o=some (some ob)) {v:Value} {p:Shp→Prop} {q:FC→Prop} (h:bV (σ.env C.wF mu) o v p q) (hf:ob.isFz=false:=by first | rfl | assumption):p ob.shp:=by
 have h:=h.2
 have:(σ.env C.wF mu).st o=.live ob.shp:=eR ho hf
 rw [this] at h;exact h
theorem bw.slice {w:World} {v:Value} {d:FC} (h:bw w v d) (hd:dv d=false:=by rfl):∃a n c,v=.slice a n c∧n≤c:=by
 cases d with
 | int k n=>cases hd
 | bool b=>cases hd
 | str l=>cases hd
 | _=>obtain ⟨a,c,hv,hle,_⟩:=h;exact ⟨a,_,c,hv,hle⟩
theorem wd {E:Env} {u:Value} {fc:FC} (h:bw E.wF u fc):ap E (fE fc) u∧u.oneCell'=true:=by
 cases fc with
 | int k n=>simp only [bw] at h;subst h;exact ⟨rfl,rfl⟩
 | bool b=>simp only [bw] at h;subst h;exact ⟨rfl,rfl⟩
 | str l=>simp only [bw] at h;subst h;exact ⟨rfl,rfl⟩
 | ints k l=>obtain ⟨a,n,c,hv,hle⟩:=h.slice;exact ⟨⟨⟨a,n,c,hv,hle⟩,h⟩,by rw [hv];rfl⟩
 | bools l=>obtain ⟨a,n,c,hv,hle⟩:=h.slice;exact ⟨⟨⟨a,n,c,hv,hle⟩,h⟩,by rw [hv];rfl⟩
 | rows k l=>obtain ⟨a,n,c,hv,hle⟩:=h.slice;exact ⟨⟨⟨a,n,c,hv,hle⟩,h⟩,by rw [hv];rfl⟩
 | r3 k l=>obtain ⟨a,n,c,hv,hle⟩:=h.slice;exact ⟨⟨⟨a,n,c,hv,hle⟩,h⟩,by rw [hv];rfl⟩
 | r4 k l=>obtain ⟨a,n,c,hv,hle⟩:=h.slice;exact ⟨⟨⟨a,n,c,hv,hle⟩,h⟩,by rw [hv];rfl⟩
theorem Va {d:FC} {i:Nat} {x fc:FC} (h:du d i=some x) (h2:d.elem i=some fc):x=fc:=by
 cases d <;> simp only [du,reduceCtorEq] at h <;> simp only [FC.elem] at h2 <;> split at h2 <;> cases h2 <;> cases h <;> rfl
theorem Vb {d:FC} {i:Nat} {x:FC} (h:du d i=some x):dv x=false:=by
 cases d <;> simp only [du,reduceCtorEq] at h <;> cases h <;> rfl
theorem Vc {E:Env} {c:SC} {v:Value} (h:ap E c v):ap E (De c) v:=by
 unfold De;split
 ·exact h.1
 ·exact h
theorem kz (h:St C σ mu a w) {o:Nat} {cs:List SC} (ho:σ.H o=some (some (.box cs))) :
  ∃b arr t,(mu o).hd=.pointer (some ⟨b,0,none⟩)∧(∀u∈(mu o).ins,ai u=none)∧w.heap[b]?=some (.cells arr t (0,0))∧dO (σ.env C.wF mu) cs arr:=h.ob o _ ho
theorem Lc {t:TypeId} {cx:SC} {vx:Value} {eff:Eff} (hr:(vJ C.P t cx).run σ=some eff) (hx:ap (σ.env C.wF mu) cx vx) (h:St C σ mu a w) :
  eff.hp=[]∧∃v,(Instr.loadAt t vx).run C.P w=.ok v w∧aB C.P (σ.env C.wF mu) eff.val v:=by
 unfold vJ at hr;split at hr
 ·simp [Rd.run] at hr
 ·rename_i hagg
  split at hr
  ·simp [Rd.run] at hr
  ·rename_i n hn
   split at hr
   ·rename_i o i
    obtain ⟨ob,ho,hr⟩:=bd hr;cases ob with
    | box cs =>
     simp only at hr;split at hr
     ·rename_i hle
      simp only [Rd.run,Option.some.injEq] at hr;subst hr;obtain ⟨_,b,hb,rfl⟩:=aV ho hx;obtain ⟨g,arr,ty,h1,h2,h3,h4⟩:=kz h ho;rw [State.env,h1] at hb;simp [ai] at hb
      subst hb;refine ⟨rfl,.agg ((arr.toList.drop i).take n).toArray,?_,_,rfl,?_⟩
      ·simp only [Instr.loadAt,Instr.sureAddr,Sem.run_bind,Sem.run_pure,Result.andThen_ok]
       refine K7 hagg hn (by simp [h4.1];omega) fun j u hu=>?_
       rw [cell_of_row w g (i+j) arr ty (0,0) h3];rw [List.getElem?_take] at hu;split at hu
       ·simpa using hu
       ·cases hu
      ·refine ⟨by simp [h4.1],fun j c hj=>?_⟩
       rw [List.getElem?_take] at hj;split at hj
       ·rename_i hjn
        rw [List.getElem?_drop] at hj;obtain ⟨u,h5,h6⟩:=h4.2 (i+j) c hj;exact ⟨u,by simp [hjn,h5],h6⟩
       ·cases hj
     ·simp [Rd.run] at hr
    | _=>simp [Rd.run] at hr
   ·rename_i cs i
    split at hr
    ·rename_i hle
     simp only [Rd.run,Option.some.injEq] at hr;subst hr;obtain ⟨b,off,rfl,hc⟩:=hx;have hex:∀j,j<n→∃u,w.cell? ⟨b,off+j,none⟩=some u∧∃fc,cs[i+j]?=some fc∧bw C.wF u fc:=fun j hj=>by
      obtain ⟨u,h1,h2⟩:=hc j _ (List.getElem?_eq_getElem (by omega:i+j<cs.length))
      exact ⟨u,(h.cells _ _ h1).2,_,List.getElem?_eq_getElem (by omega:i+j<cs.length),h2⟩
     let us:=(List.range n).map fun j=>(w.cell? ⟨b,off+j,none⟩).getD undef
     have hus:∀j,j<n→us[j]?=w.cell? ⟨b,off+j,none⟩:=fun j hj=>by
      obtain ⟨u,h1,_⟩:=hex j hj;simp [us,hj,h1]
     refine ⟨rfl,.agg us.toArray,?_,_,rfl,?_⟩
     ·simp only [Instr.loadAt,Instr.sureAddr,Sem.run_bind,Sem.run_pure,Result.andThen_ok]
      refine K7 hagg hn (by simp [us]) fun j u hu=>?_
      have hj:j<n:=by have:=(List.getElem?_eq_some_iff.1 hu).1;simpa [us] using this
      rw [←hus j hj];exact hu
     ·refine ⟨by simp [us];omega,fun j c hj=>?_⟩
      rw [List.getElem?_map,List.getElem?_take] at hj;split at hj
      ·rename_i hjn
       rw [List.getElem?_drop] at hj;obtain ⟨u,h1,fc,h2,h3⟩:=hex j hjn;rw [h2] at hj;simp at hj
       subst hj;have:=wd (E:=σ.env C.wF mu) h3
       exact ⟨u,by simp only [List.getElem?_toArray];rw [hus j hjn];exact h1,this.2,this.1⟩
      ·simp at hj
    ·simp [Rd.run] at hr
   ·simp [Rd.run] at hr
 ·rename_i hagg
  have hone:∀(b i:Nat) (u:Value),w.cell? ⟨b,i,none⟩=some u→(Instr.loadAt t (.pointer (some ⟨b,i,none⟩))).run C.P w=.ok u w:=fun b i u hu=>by
   simp only [Instr.loadAt,Instr.sureAddr,Sem.run_bind,Sem.run_pure,Result.andThen_ok];exact K6 hagg hu
  split at hr
  ·rename_i o i
   obtain ⟨ob,ho,hr⟩:=bd hr;have hnf:ob.isFz=false:=by cases ob <;> first | rfl | simp [Rd.run] at hr
   obtain ⟨hlt,b,hb,rfl⟩:=aV ho hx hnf;clear hnf;cases ob with
   | frz d=>simp [Rd.run] at hr
   | mp l=>simp [Rd.run] at hr
   | qu e k l=>simp [Rd.run] at hr
   | rowsH ver e ei k l hs=>simp [Rd.run] at hr
   | tr ver es d=>simp [Rd.run] at hr
   | lst ver e d =>
    simp only at hr;split at hr
    ·rename_i x hx'
     simp only [Rd.run,aT,Option.some.injEq] at hr;subst hr;obtain ⟨_,vs,h1,h2⟩:=h.ob o _ ho;have hlt2:i<d.len:=hlt
     have hlv:vs.length=d.len:=by simpa using h1.1
     obtain ⟨h3,fc,h4,h5⟩:=h2 i _ (List.getElem?_eq_getElem (by omega))
     have hfx:x=fc:=Va hx' h4
     subst hfx;exact ⟨rfl,vs[i]'(by omega),hone b i _ (by rw [iO h1 hb i hlt2];exact List.getElem?_eq_getElem (by omega)),h5.slice (Vb hx'),h5⟩
    ·simp [Rd.run] at hr
   | box cs =>
    simp only at hr;split at hr
    ·rename_i c hc
     simp only [Rd.run,aT,Option.some.injEq] at hr;subst hr;obtain ⟨g,arr,ty,h1,h2,h3,h4⟩:=kz h ho;rw [State.env,h1] at hb;simp [ai] at hb
     subst hb;obtain ⟨u,h5,h6,h7⟩:=h4.2 i c hc;exact ⟨rfl,u,hone g i u (by rw [cell_of_row w g i arr ty (0,0) h3];exact h5),Vc h7⟩
    ·simp [Rd.run] at hr
   | bx cs=>simp [Rd.run] at hr
   | strs e l =>
    simp only [Rd.run,aT,Option.some.injEq] at hr;subst hr;have:=h.ob o _ ho
    exact ⟨rfl,_,hone b i _ (by rw [iO this.2 hb i hlt];simp [show i<l.length from hlt];rfl),by simp [aB,ap,nU,List.getD,show i<l.length from hlt]⟩
   | ints e k l =>
    simp only [Rd.run,aT,Option.some.injEq] at hr;subst hr;have:=h.ob o _ ho
    exact ⟨rfl,_,hone b i _ (by rw [iO this.2 hb i hlt];simp [show i<l.length from hlt];rfl),by simp [aB,ap,List.getD,show i<l.length from hlt]⟩
   | bools e l =>
    simp only [Rd.run,aT,Option.some.injEq] at hr;subst hr;have:=h.ob o _ ho
    exact ⟨rfl,_,hone b i _ (by rw [iO this.2 hb i hlt];simp [show i<l.length from hlt];rfl),by simp [aB,ap,List.getD,show i<l.length from hlt]⟩
   | rows ver e ei k l =>
    simp only [Rd.run,aT,Option.some.injEq] at hr;subst hr;obtain ⟨h1,h2,h3⟩:=h.ob o _ ho;have hlt':i<(mu o).ins.length:=by rw [h2];exact hlt
    have hone':(mu o).ins[i].oneCell'=true:=fq (h3 i _ _ (List.getElem?_eq_getElem hlt') (List.getElem?_eq_getElem hlt))
    refine ⟨rfl,(mu o).ins[i],hone b i _ (by rw [iO h1 hb i hlt,List.getElem?_eq_getElem hlt']),hone',?_⟩
    have:(σ.env C.wF mu).st o=.live (Ob.rows ver e ei k l).shp:=eR ho
    rw [this];exact ⟨Nat.le_refl _,fun _=>⟨List.getElem?_eq_getElem hlt',hlt⟩⟩
  ·rename_i o ver i j
   obtain ⟨ob,ho,hr⟩:=bd hr;have hnf:ob.isFz=false:=by cases ob <;> first | rfl | simp [Rd.run] at hr
   have hx:=aV ho hx
   clear hnf;cases ob with
   | rows ver' e ei k l =>
    simp only at hr;split at hr
    ·rename_i hv
     simp only [Rd.run,aT,Option.some.injEq] at hr;subst hr;obtain ⟨h1,h2,h3⟩:=h.ob o _ ho;obtain ⟨hi,hj,r,b,hins,hb,rfl⟩:=hx.2 hv.symm;have hi':i<l.length:=hi
     have hrow:=h3 i r _ hins (List.getElem?_eq_getElem hi')
     have hj':j<l[i].length:=by
      have:((l.map List.length).getD i 0)=l[i].length:=by simp [List.getD,hi']
      simp only [Ob.shp] at hj;omega
     refine ⟨rfl,_,hone b j _ (by rw [iO hrow hb j hj'];simp [hj'];rfl),by simp [aB,ap,List.getD,hi',hj']⟩
    ·simp [Rd.run] at hr
   | _=>simp [Rd.run] at hr
  ·rename_i d i
   obtain ⟨b,off,fc,u,hfc,rfl,hcell,hrd⟩:=hx;have hu:=hone b off u (h.cells _ _ hcell).2
   split at hr <;> simp only [Rd.run,aT,Option.some.injEq,reduceCtorEq] at hr <;> subst hr
   ·simp only [FC.elem] at hfc
    split at hfc <;> cases hfc
    exact ⟨rfl,u,hu,hrd⟩
   ·simp only [FC.elem] at hfc
    split at hfc <;> cases hfc
    exact ⟨rfl,u,hu,hrd⟩
   ·simp only [FC.elem] at hfc
    split at hfc <;> cases hfc
    exact ⟨rfl,u,hu,hrd.slice,hrd⟩
   ·simp only [FC.elem] at hfc
    split at hfc <;> cases hfc
    exact ⟨rfl,u,hu,hrd.slice,hrd⟩
   ·simp only [FC.elem] at hfc
    split at hfc <;> cases hfc
    exact ⟨rfl,u,hu,hrd.slice,hrd⟩
  ·rename_i cs i
   obtain ⟨b,off,rfl,hc⟩:=hx;split at hr
   ·rename_i fc hfc
    simp only [Rd.run,aT,Option.some.injEq] at hr;subst hr;obtain ⟨u,h1,h2⟩:=hc 0 fc hfc;exact ⟨rfl,u,hone b off u (h.cells _ _ h1).2,(wd (E:=σ.env C.wF mu) h2).1⟩
   ·simp [Rd.run] at hr
  ·rename_i o i
   obtain ⟨ob,ho,hr⟩:=bd hr;have hnf:ob.isFz=false:=by cases ob <;> first | rfl | simp [Rd.run] at hr
   have hx:=aV ho hx hnf
   clear hnf;cases ob with
   | qu e k l =>
    simp only [Rd.run,aT,Option.some.injEq] at hr;subst hr;obtain ⟨hlt,b,off,n,c,hhd,rfl⟩:=hx;have hhd:(mu o).hd=_:=hhd
    have hlt':i<l.length:=hlt
    obtain ⟨_,h2⟩:=h.ob o _ ho;rcases h2 with ⟨h2,_⟩ | ⟨g,off',cap,h2,_,_,_,_,h3⟩
    ·rw [hhd] at h2;cases h2
    ·rw [hhd] at h2;cases h2
     exact ⟨rfl,_,hone _ _ _ (h3 i (.int k l[i]) (by simp [hlt'])),by simp [aB,ap,List.getD,hlt']⟩
   | _=>simp [Rd.run] at hr
  ·rename_i o ver p j
   obtain ⟨ob,ho,hr⟩:=bd hr;have hnf:ob.isFz=false:=by cases ob <;> first | rfl | simp [Rd.run] at hr
   have hx:=aV ho hx hnf
   clear hnf;cases ob with
   | tr ver' es d =>
    simp only at hr;split at hr
    ·rename_i hv
     split at hr
     ·rename_i x hx1
      obtain ⟨nd,u,b,n,c,q1,q2,q3,q4,rfl⟩:=hx.2 hv.symm;obtain ⟨_,_,x',k1,k2,_⟩:=lw (h.ob o _ ho) q1 q2;rw [hx1] at k1;cases k1;have hn:=k2.len q3
      subst hn;split at hr
      ·rename_i k l hl
       have hxi:x=.ints k l:=by
        cases x <;> simp only [vI,reduceCtorEq,Option.some.injEq,Prod.mk.injEq] at hl
        obtain ⟨rfl,rfl⟩:=hl;rfl
       subst hxi;simp only [Rd.run,aT,Option.some.injEq] at hr;subst hr;obtain ⟨e,_,k3⟩:=Ec k2;have hj:j<l.length:=q4
       exact ⟨rfl,_,hone b j _ (by rw [iO k3 (b:=b) (by rw [q3];rfl) j hj];simp [hj];rfl),by simp [aB,ap,List.getD,hj]⟩
      ·split at hr
       ·rename_i y hy
        simp only [Rd.run,aT,Option.some.injEq] at hr;subst hr;obtain ⟨e,e2,es',_,k3,v,k4,k5⟩:=K9 k2 hy q4;refine ⟨rfl,bc v,hone b j _ (by rw [iO k3 (b:=b) (by rw [q3];rfl) j q4,List.getElem?_map,k4];rfl),k5.one,?_⟩
        have:(σ.env C.wF mu).st o=.live (Ob.tr ver' es d).shp:=eR ho
        rw [this];exact ⟨hx.1,fun _=>⟨nd,v,q1,K8 q2 k4,rfl⟩⟩
       ·simp [Rd.run] at hr
     ·simp [Rd.run] at hr
    ·simp [Rd.run] at hr
   | _=>simp [Rd.run] at hr
  ·simp [Rd.run] at hr
end
end Go.Sx
end
section
namespace Go.Sx
open Go.RowKit
section
variable {C:Cx} {σ:State} {mu:Nat→Img} {a:Act} {w:World}
theorem ft {o:Nat} {ob:Ob} (ho:σ.H o=some (some ob)) {v:Value} (hv:v.oneCell'=true) {p:Shp→Prop} {q:FC→Prop} (h:p ob.shp) (hf:ob.isFz=false:=by first | rfl | assumption):bV (σ.env C.wF mu) o v p q:=by
 have:(σ.env C.wF mu).st o=.live ob.shp:=eR ho hf
 refine ⟨hv,?_⟩
 rw [this];exact h
theorem Vd {s:TypeId} {cx:SC} {f:Nat} {vx:Value} {eff:Eff} (hr:(Dm C.P s cx f).run σ=some eff) (hx:ap (σ.env C.wF mu) cx vx) :
  eff.hp=[]∧∃v,(Instr.fieldAt s vx f).run C.P w=.ok v w∧aB C.P (σ.env C.wF mu) eff.val v:=by
 unfold Dm at hr;split at hr
 ·rename_i fs hu
  split at hr
  ·simp [Rd.run] at hr
  ·rename_i fd hfd
   split at hr
   ·rename_i n hn
    have hsz:=jj hn
    have hrun:∀b i,(Instr.fieldAt s (.pointer (some ⟨b,i,none⟩)) f).run C.P w=.ok (.pointer (some ⟨b,i+fd.offset,none⟩)) w:=fun b i=>by
     simp [Instr.fieldAt,run_underlying hu,hfd,Instr.sureAddr,fieldPlace,hsz,Addr.add_lit]
    split at hr
    ·rename_i o i
     obtain ⟨ob,ho,hr⟩:=bd hr;cases ob with
     | box cs =>
      simp only at hr;split at hr
      ·rename_i hlt
       simp only [Rd.run,aT,Option.some.injEq] at hr;subst hr;obtain ⟨_,b,hb,rfl⟩:=aV ho hx;exact ⟨rfl,_,hrun b i,ft ho rfl ⟨hlt,b,hb,rfl⟩⟩
      ·simp [Rd.run] at hr
     | _=>simp [Rd.run] at hr
    ·rename_i cs i
     simp only [Rd.run,aT,Option.some.injEq] at hr;subst hr;obtain ⟨b,off,rfl,hc⟩:=hx;exact ⟨rfl,_,hrun b off,b,off+fd.offset,rfl,fun j fc hj=>by
      obtain ⟨u,h1,h2⟩:=hc (fd.offset+j) fc (by rw [←Nat.add_assoc];exact hj)
      exact ⟨u,by rw [Nat.add_assoc];exact h1,h2⟩⟩
    ·simp [Rd.run] at hr
   ·simp [Rd.run] at hr
 ·simp [Rd.run] at hr
theorem Ve {s:TypeId} {sv:SV} {f:Nat} {vx:Value} {eff:Eff} (hr:(Dn C.P s sv f).run σ=some eff) (hx:aB C.P (σ.env C.wF mu) sv vx) :
  eff.hp=[]∧∃v,(Instr.field s vx f).run C.P w=.ok v w∧aB C.P (σ.env C.wF mu) eff.val v:=by
 unfold Dn at hr;split at hr
 ·rename_i fs hu
  split at hr
  ·simp [Rd.run] at hr
  ·rename_i fd hfd
   split at hr
   ·rename_i cs
    obtain ⟨arr,rfl,hsz,hcs⟩:=hx;split at hr
    ·rename_i hagg
     split at hr
     ·rename_i n hn
      split at hr
      ·rename_i hle
       simp only [Rd.run,Option.some.injEq] at hr;subst hr;refine ⟨rfl,.agg (arr.extract fd.offset (fd.offset+n)),?_,_,rfl,?_⟩
       ·simp [Instr.field,run_underlying hu,hfd,asAgg,part,wc hagg,jj hn]
       ·refine ⟨by simp [hsz];omega,fun i c hi=>?_⟩
        rw [List.getElem?_take] at hi;split at hi
        ·rename_i hin
         rw [List.getElem?_drop] at hi;obtain ⟨u,h1,h2⟩:=hcs _ c hi;have hlt:fd.offset+i<arr.size:=(Array.getElem?_eq_some_iff.1 h1).1
         refine ⟨u,?_,h2⟩
         rw [Array.getElem?_extract,if_pos (by omega)]
         exact h1
        ·cases hi
      ·simp [Rd.run] at hr
     ·simp [Rd.run] at hr
    ·rename_i hagg
     split at hr
     ·rename_i c hc
      simp only [Rd.run,aT,Option.some.injEq] at hr;subst hr;obtain ⟨u,h1,h2,h3⟩:=hcs _ c hc;refine ⟨rfl,u,?_,h3⟩
      simp [Instr.field,run_underlying hu,hfd,asAgg,part,wc hagg,h1]
     ·simp [Rd.run] at hr
    ·simp [Rd.run] at hr
   ·simp [Rd.run] at hr
 ·simp [Rd.run] at hr
theorem Ed {t e:TypeId} (he:cC C.P t=some e) (hs:dN C.P e=some 1) {ad:Addr} {len cap:Nat} {k:IntKind} {n:Int} (hn:aa n len) :
  (Instr.indexAt t (.slice (some ad) len cap) (.int k n)).run C.P w=.ok (.pointer (some (ad.add n.toNat))) w:=by
 have h1:0≤n∧n<(len:Int):=hn
 simp [Instr.indexAt,run_underlying (iN he),asIntOf,h1.1,h1.2,jj hs]
theorem od {t e:TypeId} (he:cC C.P t=some e) (hs:dN C.P e=some 1) {hd v:Value} {off len:Nat} (hv:cH hd off len v) {k:IntKind} {n:Int} (hn:aa n len) :
  ∃b,ai hd=some b∧(Instr.indexAt t v (.int k n)).run C.P w=.ok (.pointer (some ⟨b,off+n.toNat,none⟩)) w:=by
 have h1:0≤n∧n<(len:Int):=hn
 rcases hv with ⟨_,_,_,h0⟩ | ⟨g,l,cap,ao,rfl,rfl,hc1,hc2,hao⟩
 ·omega
 ·refine ⟨g,rfl,?_⟩
  rw [hao (.inr (by omega)),Ed he hs hn,Addr.add_lit]
theorem dS {w:World} {B e size n:Nat} {v:Value} {xs:List Value} (h:w.ownsRow B e size v n xs):cH v 0 n v:=by
 rcases h.2 with ⟨rfl,rfl⟩ | ⟨g,cap,cur,rfl,_,_,hn,_⟩
 ·exact .inl ⟨rfl,rfl,rfl,rfl⟩
 ·exact .inr ⟨g,n,cap,_,rfl,rfl,Nat.zero_le _,hn,fun _=>rfl⟩
def Ob.len?:Ob→Option Nat
 | .box _=>none
 | .bx _=>none
 | .strs _ l=>some l.length
 | .ints _ _ l=>some l.length
 | .bools _ l=>some l.length
 | .rows _ _ _ _ l=>some l.length
 | .lst _ _ d=>some d.len
 | .frz _=>none
 | .mp _=>none
 | .qu _ _ _=>none
 | .rowsH _ _ _ _ l _=>some l.length
 | .tr _ _ d=>some d.len
theorem oe {ob:Ob} {L:Nat} (h:ob.len?=some L):ob.isFz=false:=by cases ob <;> first | rfl | cases h
theorem mB {E:Env} {m:Img} {ob:Ob} {L:Nat} (hl:ob.len?=some L) (h:bn E w m ob):cH m.hd 0 L m.hd∧ob.shp.len=L:=by
 cases ob with
 | box cs=>cases hl
 | bx cs=>cases hl
 | strs e l=>cases hl;exact ⟨dS h.2,rfl⟩
 | ints e k l=>cases hl;exact ⟨dS h.2,rfl⟩
 | bools e l=>cases hl;exact ⟨dS h.2,rfl⟩
 | rows ver e ei k l=>cases hl;exact ⟨dS h.1,rfl⟩
 | lst ver e d=>cases hl;obtain ⟨_,vs,h1,_⟩:=h;exact ⟨dS h1,rfl⟩
 | frz d=>cases hl
 | mp l=>cases hl
 | qu e k l=>cases hl
 | rowsH ver e ei k l hs=>cases hl;obtain ⟨_,⟨vs,h1,_⟩,_⟩:=h;exact ⟨dS h1,rfl⟩
 | tr ver es d=>cases hl;obtain ⟨nd,rfl,h2⟩:=h;obtain ⟨e,xs,h1⟩:=h2.row;exact ⟨dS h1,rfl⟩
theorem qh {t e:TypeId} (he:cC C.P t=some e) (hs:dN C.P e=some 1) {wF:World} {v:Value} {len:Nat} {R:Nat→Value→Prop} (hv:bN wF v len R) {k:IntKind} {n:Int} (hn:aa n len) :
  ∃b off u,(Instr.indexAt t v (.int k n)).run C.P w=.ok (.pointer (some ⟨b,off,none⟩)) w∧wF.cell? ⟨b,off,none⟩=some u∧R n.toNat u:=by
 have h1:0≤n∧n<(len:Int):=hn
 obtain ⟨ad,c,rfl,_,hk⟩:=hv;obtain ⟨b,off,rfl,hk2⟩:=hk (by omega)
 obtain ⟨u,h2,h3⟩:=hk2 n.toNat (by omega)
 exact ⟨b,off+n.toNat,u,by rw [Ed he hs hn,Addr.add_lit],h2,h3⟩
theorem Vf {t:TypeId} {cx ci:SC} {vx vi:Value} {eff:Eff} (hr:(Do C.P t cx ci).run σ=some eff) (hob:eff.obl)
  (hx:ap (σ.env C.wF mu) cx vx) (hi:ap (σ.env C.wF mu) ci vi) (h:St C σ mu a w) :
  eff.hp=[]∧∃v,(Instr.indexAt t vx vi).run C.P w=.ok v w∧aB C.P (σ.env C.wF mu) eff.val v:=by
 unfold Do at hr;split at hr
 ·simp [Rd.run] at hr
 ·rename_i e he
  split at hr
  ·rename_i hs
   split at hr
   ·rename_i k n
    simp only [ap] at hi;subst hi;split at hr
    ·rename_i o
     obtain ⟨ob,ho,hr⟩:=bd hr;have hnf:ob.isFz=false:=by cases ob <;> first | rfl | simp [Rd.run] at hr
     have hv:=aV ho hx hnf
     have hv':vx=(mu o).hd:=hv
     subst hv';have key:∀L,ob.len?=some L→eff=⟨.c (.ptr o n.toNat),[],some (aa n L)⟩→eff.hp=[]∧∃v,(Instr.indexAt t (mu o).hd (.int k n)).run C.P w=.ok v w∧aB C.P (σ.env C.wF mu) eff.val v:=fun L hL heff=>by
      subst heff;obtain ⟨h1,h2⟩:=mB hL (h.ob o ob ho);obtain ⟨b,h3,h4⟩:=od (w:=w) (k:=k) he hs h1 hob;refine ⟨rfl,_,h4,ft ho rfl ⟨?_,b,h3,by simp⟩ hnf⟩
      have h5:0≤n∧n<(L:Int):=hob
      omega
     clear hnf;cases ob with
     | frz d=>simp [Rd.run] at hr
     | mp l=>simp [Rd.run] at hr
     | qu e' k' l =>
      simp only [Rd.run,Option.some.injEq] at hr;subst hr;have hB:0≤n∧n<(l.length:Int):=hob
      obtain ⟨_,h2⟩:=h.ob o _ ho;rcases h2 with ⟨_,h3⟩ | ⟨g,off,cap,a1,_⟩
      ·have:l.length=0:=by rw [←List.length_map (f:=Value.int k'),h3];rfl
       omega
      ·refine ⟨rfl,.pointer (some ⟨g,off+n.toNat,none⟩),by rw [a1,Ed he hs (by rw [List.length_map];exact hB),Addr.add_lit],ft ho rfl ⟨?_,g,off,_,_,a1,rfl⟩⟩
       show n.toNat<l.length
       omega
     | lst ver e d=>simp only [Rd.run,Option.some.injEq] at hr;exact key _ rfl hr.symm
     | rowsH ver e ei k l hs=>simp only [Rd.run,Option.some.injEq] at hr;exact key _ rfl hr.symm
     | tr ver es d =>
      simp only [Rd.run,Option.some.injEq] at hr;subst hr;obtain ⟨nd,hm,h2⟩:=h.ob o _ ho;obtain ⟨ee,xs,h1⟩:=h2.row;have hhd:(mu o).hd=bc nd:=by rw [hm];rfl
      rw [hhd];obtain ⟨b,h3,h4⟩:=od (w:=w) (k:=k) he hs (dS h1) hob;have h5:0≤n∧n<(d.len:Int):=hob
      obtain ⟨cap,h6,_⟩:=qg h1 h3;rw [Nat.zero_add] at h4;exact ⟨rfl,_,h4,ft ho rfl ⟨Nat.le_refl _,fun _=>⟨nd,nd,b,_,cap,by show (mu o).ins[0]?=_;rw [hm];rfl,rfl,h6,by omega,rfl⟩⟩⟩
     | box cs=>simp [Rd.run] at hr
     | bx cs=>simp [Rd.run] at hr
     | ints e k l=>simp only [Rd.run,Option.some.injEq] at hr;exact key _ rfl hr.symm
     | bools e l=>simp only [Rd.run,Option.some.injEq] at hr;exact key _ rfl hr.symm
     | strs e l=>simp only [Rd.run,Option.some.injEq] at hr;exact key _ rfl hr.symm
     | rows ver e ei k l=>simp only [Rd.run,Option.some.injEq] at hr;exact key _ rfl hr.symm
    ·rename_i o ver p
     obtain ⟨ob,ho,hr⟩:=bd hr;have hnf:ob.isFz=false:=by cases ob <;> first | rfl | simp [Rd.run] at hr
     have hx:=aV ho hx hnf
     clear hnf;cases ob with
     | tr ver' es d =>
      simp only at hr;split at hr
      ·rename_i hver
       split at hr
       ·rename_i x hx1
        simp only [Rd.run,Option.some.injEq] at hr;subst hr;obtain ⟨nd,u,q1,q2,rfl⟩:=hx.2 hver.symm;obtain ⟨_,_,x',k1,k2,_⟩:=lw (h.ob o _ ho) q1 q2;rw [hx1] at k1;cases k1;obtain ⟨ee,xs,h1⟩:=k2.row;obtain ⟨b,h3,h4⟩:=od (w:=w) (k:=k) he hs (dS h1) hob;have h5:0≤n∧n<(x.len:Int):=hob
        obtain ⟨cap,h6,_⟩:=qg h1 h3;rw [Nat.zero_add] at h4;exact ⟨rfl,_,h4,ft ho rfl ⟨hx.1,fun _=>⟨nd,u,b,_,cap,q1,q2,h6,by omega,rfl⟩⟩⟩
       ·simp [Rd.run] at hr
      ·simp [Rd.run] at hr
     | _=>simp [Rd.run] at hr
    ·rename_i o len
     obtain ⟨ob,ho,hr⟩:=bd hr;obtain ⟨hnf,hr⟩:=mz hr;simp only [Rd.run,Option.some.injEq] at hr;subst hr;obtain ⟨hle,hv⟩:=aV ho hx;obtain ⟨b,h3,h4⟩:=od (w:=w) (k:=k) he hs hv hob;have h5:0≤n∧n<(len:Int):=hob
     exact ⟨rfl,_,h4,ft ho rfl ⟨by omega,b,h3,by simp⟩⟩
    ·rename_i o off len
     obtain ⟨ob,ho,hr⟩:=bd hr;obtain ⟨hnf,hr⟩:=mz hr;simp only [Rd.run,Option.some.injEq] at hr;subst hr;obtain ⟨hle,hv⟩:=aV ho hx;obtain ⟨b,h3,h4⟩:=od (w:=w) (k:=k) he hs hv hob;have h5:0≤n∧n<(len:Int):=hob
     exact ⟨rfl,_,h4,ft ho rfl ⟨by omega,b,h3,rfl⟩⟩
    ·rename_i o ver i
     obtain ⟨ob,ho,hr⟩:=bd hr;have hnf:ob.isFz=false:=by cases ob <;> first | rfl | simp [Rd.run] at hr
     cases ob with
     | rows ver' e' ei k' l =>
      simp only at hr;split at hr
      ·rename_i hver
       simp only [Rd.run,Option.some.injEq] at hr;subst hr;obtain ⟨h0,hx⟩:=aV ho hx;obtain ⟨hins,hlt⟩:=hx hver.symm;have hlt':i<l.length:=hlt
       obtain ⟨_,_,h3⟩:=h.ob o _ ho;have hrow:=h3 i vx _ hins (List.getElem?_eq_getElem hlt')
       have hgd:l.getD i []=l[i]:=by simp [List.getD,hlt']
       have hob':aa n l[i].length:=by rw [←hgd];exact hob
       obtain ⟨b,h4,h5⟩:=od (w:=w) (k:=k) he hs (dS hrow) hob';have h6:0≤n∧n<(l[i].length:Int):=hob'
       refine ⟨rfl,_,h5,ft ho rfl ⟨h0,fun _=>⟨hlt',?_,vx,b,hins,h4,by simp⟩⟩⟩
       have:((Ob.rows ver' e' ei k' l).shp.rl.getD i 0)=l[i].length:=by simp [Ob.shp,List.getD,hlt']
       omega
      ·simp [Rd.run] at hr
     | _=>simp [Rd.run] at hr
    ·rename_i d
     have h5:∀L,aa n L→n.toNat<L:=fun L hL=>by have:0≤n∧n<(L:Int):=hL;omega
     split at hr <;> simp only [Rd.run,Option.some.injEq,reduceCtorEq] at hr <;> subst hr
     ·rename_i kk l
      obtain ⟨b,off,u,h1,h2,h3⟩:=qh (w:=w) (k:=k) he hs hx.2 hob;exact ⟨rfl,_,h1,b,off,.int kk (l.getD n.toNat 0),u,by simp [FC.elem,h5 _ hob],rfl,h2,h3⟩
     ·rename_i l
      obtain ⟨b,off,u,h1,h2,h3⟩:=qh (w:=w) (k:=k) he hs hx.2 hob;exact ⟨rfl,_,h1,b,off,.bool (l.getD n.toNat false),u,by simp [FC.elem,h5 _ hob],rfl,h2,h3⟩
     ·rename_i kk l
      obtain ⟨b,off,u,h1,h2,h3⟩:=qh (w:=w) (k:=k) he hs hx.2 hob;exact ⟨rfl,_,h1,b,off,.ints kk (l.getD n.toNat []),u,by simp [FC.elem,h5 _ hob],rfl,h2,h3⟩
     ·rename_i kk l
      obtain ⟨b,off,u,h1,h2,h3⟩:=qh (w:=w) (k:=k) he hs hx.2 hob;exact ⟨rfl,_,h1,b,off,.rows kk (l.getD n.toNat []),u,by simp [FC.elem,h5 _ hob],rfl,h2,h3⟩
     ·rename_i kk l
      obtain ⟨b,off,u,h1,h2,h3⟩:=qh (w:=w) (k:=k) he hs hx.2 hob;exact ⟨rfl,_,h1,b,off,.r3 kk (l.getD n.toNat []),u,by simp [FC.elem,h5 _ hob],rfl,h2,h3⟩
    ·simp [Rd.run] at hr
   ·simp [Rd.run] at hr
  ·simp [Rd.run] at hr
theorem Vg {t e ty:TypeId} (he:cC C.P t=some e) (x:Option Addr) (n c:Nat):(Builtin.len_ #[t] ty #[.slice x n c]).run C.P w=.ok (.int .i64 (n:Int)) w:=by
 simp [Builtin.len_,run_underlying (iN he),goInt]
theorem mC {hd v:Value} {off n:Nat} (h:cH hd off n v):∃x c,v=.slice x n c:=by
 rcases h with ⟨_,rfl,_,rfl⟩ | ⟨g,l,cap,ao,_,rfl,_⟩
 ·exact ⟨_,_,rfl⟩
 ·exact ⟨_,_,rfl⟩
theorem Ld {t ty e:TypeId} {cx:SC} {vx:Value} {eff:Eff} (hr:(vM cx).run σ=some eff)
  (ht:cC C.P t=some e∨(∃l,cx=.str l)∧C.P.underlying t=some .string) (hn:(∃l,cx=.str l)→C.P.underlying t=some .string)
  (hx:ap (σ.env C.wF mu) cx vx) (h:St C σ mu a w) :
  eff.hp=[]∧∃v,(Builtin.len_ #[t] ty #[vx]).run C.P w=.ok v w∧aB C.P (σ.env C.wF mu) eff.val v:=by
 have hsl:∀(n:Nat),(∀l,cx≠.str l)→(∃x c,vx=.slice x n c)→eff=⟨.c (.int .i64 n),[],none⟩ →
   eff.hp=[]∧∃v,(Builtin.len_ #[t] ty #[vx]).run C.P w=.ok v w∧aB C.P (σ.env C.wF mu) eff.val v:=fun n hne ⟨x,c,hv⟩ heff=>by
  rcases ht with he | ⟨⟨l,hl⟩,_⟩
  ·subst heff;subst hv
   exact ⟨rfl,_,Vg he x n c,rfl⟩
  ·exact absurd hl (hne l)
 unfold vM at hr;split at hr
 ·simp only [ap] at hx
  simp only [Rd.run,aT,Option.some.injEq] at hr;exact hsl 0 (by simp) ⟨_,_,hx⟩ hr.symm
 ·rename_i l
  simp only [ap] at hx;simp only [Rd.run,aT,Option.some.injEq] at hr;subst hr;subst hx;refine ⟨rfl,_,by simp [Builtin.len_,run_underlying (hn ⟨l,rfl⟩),goInt];rfl,?_⟩
  simp [aB,ap,ByteArray.size]
 ·rename_i o
  obtain ⟨ob,ho,hr⟩:=bd hr;have hnf:ob.isFz=false:=by cases ob <;> first | rfl | simp [Rd.run] at hr
  have hv':vx=(mu o).hd:=aV ho hx
  have key:∀L,ob.len?=some L→eff=⟨.c (.int .i64 L),[],none⟩→_:=fun L hL heff=>by
   obtain ⟨h1,_⟩:=mB hL (h.ob o ob ho);rw [←hv'] at h1;exact hsl L (by simp) (mC h1) heff
  cases ob with
  | box cs=>simp [Rd.run] at hr
  | bx cs=>simp [Rd.run] at hr
  | ints e k l=>simp only [Rd.run,aT,Option.some.injEq] at hr;exact key _ rfl hr.symm
  | bools e l=>simp only [Rd.run,aT,Option.some.injEq] at hr;exact key _ rfl hr.symm
  | strs e l=>simp only [Rd.run,aT,Option.some.injEq] at hr;exact key _ rfl hr.symm
  | rows ver e ei k l=>simp only [Rd.run,aT,Option.some.injEq] at hr;exact key _ rfl hr.symm
  | lst ver e d=>simp only [Rd.run,aT,Option.some.injEq] at hr;exact key _ rfl hr.symm
  | rowsH ver e ei k l hs=>simp only [Rd.run,aT,Option.some.injEq] at hr;exact key _ rfl hr.symm
  | tr ver es d=>simp only [Rd.run,aT,Option.some.injEq] at hr;exact key _ rfl hr.symm
  | frz d=>simp [Rd.run] at hr
  | mp l=>simp [Rd.run] at hr
  | qu e k l =>
   simp only [Rd.run,aT,Option.some.injEq] at hr;obtain ⟨_,h2⟩:=h.ob o _ ho;refine hsl l.length (by simp) ?_ hr.symm
   rw [hv'];rcases h2 with ⟨h2,h3⟩ | ⟨g,off,cap,a1,_⟩
   ·have:l.length=0:=by rw [←List.length_map (f:=Value.int k),h3];rfl
    exact ⟨_,_,by rw [h2,this]⟩
   ·exact ⟨_,_,by rw [a1,List.length_map]⟩
 ·rename_i o ver p
  obtain ⟨ob,ho,hr⟩:=bd hr;have hnf:ob.isFz=false:=by cases ob <;> first | rfl | simp [Rd.run] at hr
  have hx:=aV ho hx hnf
  clear hnf;cases ob with
  | tr ver' es d =>
   simp only at hr;split at hr
   ·rename_i hver
    split at hr
    ·rename_i x hx1
     simp only [Rd.run,aT,Option.some.injEq] at hr;obtain ⟨nd,u,q1,q2,rfl⟩:=hx.2 hver.symm;obtain ⟨_,_,x',k1,k2,_⟩:=lw (h.ob o _ ho) q1 q2;rw [hx1] at k1;cases k1;obtain ⟨ee,xs,h1⟩:=k2.row;exact hsl x.len (by simp) (mC (dS h1)) hr.symm
    ·simp [Rd.run] at hr
   ·simp [Rd.run] at hr
  | _=>simp [Rd.run] at hr
 ·rename_i o n
  obtain ⟨ob,ho,hr⟩:=bd hr;obtain ⟨hnf,hr⟩:=mz hr;simp only [Rd.run,aT,Option.some.injEq] at hr;exact hsl n (by simp) (mC (aV ho hx).2) hr.symm
 ·rename_i o off n
  obtain ⟨ob,ho,hr⟩:=bd hr;obtain ⟨hnf,hr⟩:=mz hr;simp only [Rd.run,aT,Option.some.injEq] at hr;exact hsl n (by simp) (mC (aV ho hx).2) hr.symm
 ·rename_i o ver i
  obtain ⟨ob,ho,hr⟩:=bd hr;cases ob with
  | rows ver' e' ei k' l =>
   simp only at hr;split at hr
   ·rename_i hver
    simp only [Rd.run,aT,Option.some.injEq] at hr;obtain ⟨h0,hx⟩:=aV ho hx;obtain ⟨hins,hlt⟩:=hx hver.symm;have hlt':i<l.length:=hlt
    obtain ⟨_,_,h3⟩:=h.ob o _ ho;have hrow:=h3 i vx _ hins (List.getElem?_eq_getElem hlt')
    have hgd:l.getD i []=l[i]:=by simp [List.getD,hlt']
    rw [hgd] at hr;exact hsl _ (by simp) (mC (dS hrow)) hr.symm
   ·simp [Rd.run] at hr
  | _=>simp [Rd.run] at hr
 ·rename_i d
  split at hr <;> simp only [Rd.run,aT,Option.some.injEq,reduceCtorEq] at hr
  all_goals
   obtain ⟨_,x,c,hv,_,_⟩:=hx;exact hsl _ (by simp) ⟨x,c,hv⟩ hr.symm
 ·simp [Rd.run] at hr
theorem Vh {sv:SV} {i:Nat} {vx:Value} {eff:Eff} (hr:(Dw sv i).run σ=some eff) (hx:aB C.P (σ.env C.wF mu) sv vx) :
  eff.hp=[]∧∃v,(Instr.extract vx i).run C.P w=.ok v w∧aB C.P (σ.env C.wF mu) eff.val v:=by
 unfold Dw at hr;split at hr
 ·obtain ⟨arr,rfl,hsz,hc⟩:=hx
  split at hr
  ·rename_i c hcc
   simp only [Rd.run,aT,Option.some.injEq] at hr;subst hr;obtain ⟨u,h1,h2⟩:=hc i _ hcc;exact ⟨rfl,u,by simp [Instr.extract,h1],h2.2⟩
  ·rename_i cs hcc
   simp only [Rd.run,Option.some.injEq] at hr;subst hr;obtain ⟨u,h1,h2⟩:=hc i _ hcc;exact ⟨rfl,u,by simp [Instr.extract,h1],h2⟩
  ·simp [Rd.run] at hr
 ·simp [Rd.run] at hr
theorem Vi {t:TypeId} {cx ci:SC} {vx vi:Value} {eff:Eff} (hr:(Dx C.P t cx ci).run σ=some eff) (hob:eff.obl)
  (hx:ap (σ.env C.wF mu) cx vx) (hi:ap (σ.env C.wF mu) ci vi) :
  eff.hp=[]∧∃v,(Instr.index t vx vi).run C.P w=.ok v w∧aB C.P (σ.env C.wF mu) eff.val v:=by
 unfold Dx at hr;split at hr
 ·rename_i l k n
  simp only [ap] at hx hi;subst hx;subst hi;split at hr
  ·rename_i hu
   simp only [Rd.run,Option.some.injEq] at hr;subst hr;have h1:0≤n∧n<(l.length:Int):=hob
   have h2:n.toNat<l.length:=by omega
   have hget:(⟨l.toArray⟩:ByteArray)[n.toNat]?=some l[n.toNat]:=by
    rw [ByteArray.getElem?_lt' _ _ (by simpa [ByteArray.size] using h2)]
    rfl
   refine ⟨rfl,.int .u8 (l[n.toNat].toNat:Int),?_,by simp [aB,ap,List.getD,h2]⟩
   simp [Instr.index,asIntOf,run_underlying hu,h1.1,hget]
  ·simp [Rd.run] at hr
 ·simp [Rd.run] at hr
end
end Go.Sx
end
