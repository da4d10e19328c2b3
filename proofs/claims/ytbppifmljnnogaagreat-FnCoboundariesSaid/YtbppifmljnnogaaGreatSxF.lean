/- SxF -/
import Derived.Test.YtbppifmljnnogaaGreatSxD
section
namespace Go.Sx
open Go.RowKit
theorem ownsRow_hd {w:World} {B e size n:Nat} {v:Value} {xs:List Value} (h:w.ownsRow B e size v n xs) {b:Nat} (hb:hdBlock v=some b) :
  ∃cap,v=.slice (some ⟨b,0,none⟩) n cap∧n≤cap:=by
 rcases h.2 with ⟨rfl,_⟩ | ⟨g,cap,cur,rfl,_,_,hn,_⟩
 ·simp [hdBlock] at hb
 ·simp [hdBlock] at hb;subst hb;exact ⟨cap,rfl,hn⟩
theorem ownsRow_cell {w:World} {B e n:Nat} {v:Value} {xs:List Value} (h:w.ownsRow B e 1 v n xs) {b:Nat} (hb:hdBlock v=some b) (j:Nat) (hj:j<n) :
  w.cell? ⟨b,j,none⟩=xs[j]?:=by
 obtain ⟨cap,rfl,_⟩:=ownsRow_hd h hb
 exact h.cellAt j (by omega)
theorem ownsRow_one {w:World} {B e size n:Nat} {v:Value} {xs:List Value} (h:w.ownsRow B e size v n xs):v.oneCell'=true:=by
 rcases h.2 with ⟨rfl,_⟩ | ⟨g,cap,cur,rfl,_⟩ <;> rfl
section
variable {C:Cx} {σ:State} {mu:Nat→Img} {a:Act} {w:World}
theorem on_live {o:Nat} {ob:Ob} (ho:σ.H o=some (some ob)) {v:Value} {p:Shp→Prop} {q:FC→Prop} (h:RefOn (σ.env C.wF mu) o v p q) (hf:ob.isFz=false:=by first | rfl | assumption):p ob.shp:=by
 have h:=h.2
 have:(σ.env C.wF mu).st o=.live ob.shp:=ost_live ho hf
 rw [this] at h
 exact h
theorem Reads.slice {w:World} {v:Value} {d:FC} (h:Reads w v d) (hd:isScal d=false:=by rfl):∃a n c,v=.slice a n c∧n≤c:=by
 cases d with
 | int k n=>cases hd
 | bool b=>cases hd
 | str l=>cases hd
 | _=>obtain ⟨a,c,hv,hle,_⟩:=h;exact ⟨a,_,c,hv,hle⟩
theorem scOf_rep {E:Env} {u:Value} {fc:FC} (h:Reads E.wF u fc):RepC E (scOf fc) u∧u.oneCell'=true:=by
 cases fc with
 | int k n=>simp only [Reads] at h;subst h;exact ⟨rfl,rfl⟩
 | bool b=>simp only [Reads] at h;subst h;exact ⟨rfl,rfl⟩
 | str l=>simp only [Reads] at h;subst h;exact ⟨rfl,rfl⟩
 | ints k l=>obtain ⟨a,n,c,hv,hle⟩:=h.slice;exact ⟨⟨⟨a,n,c,hv,hle⟩,h⟩,by rw [hv];rfl⟩
 | bools l=>obtain ⟨a,n,c,hv,hle⟩:=h.slice;exact ⟨⟨⟨a,n,c,hv,hle⟩,h⟩,by rw [hv];rfl⟩
 | rows k l=>obtain ⟨a,n,c,hv,hle⟩:=h.slice;exact ⟨⟨⟨a,n,c,hv,hle⟩,h⟩,by rw [hv];rfl⟩
 | r3 k l=>obtain ⟨a,n,c,hv,hle⟩:=h.slice;exact ⟨⟨⟨a,n,c,hv,hle⟩,h⟩,by rw [hv];rfl⟩
 | r4 k l=>obtain ⟨a,n,c,hv,hle⟩:=h.slice;exact ⟨⟨⟨a,n,c,hv,hle⟩,h⟩,by rw [hv];rfl⟩
theorem elD_elem {d:FC} {i:Nat} {x fc:FC} (h:elD d i=some x) (h2:d.elem i=some fc):x=fc:=by
 cases d <;> simp only [elD,reduceCtorEq] at h <;> simp only [FC.elem] at h2 <;> split at h2 <;> cases h2 <;> cases h <;> rfl
theorem elD_scal {d:FC} {i:Nat} {x:FC} (h:elD d i=some x):isScal x=false:=by
 cases d <;> simp only [elD,reduceCtorEq] at h <;> cases h <;> rfl
theorem unO_rep {E:Env} {c:SC} {v:Value} (h:RepC E c v):RepC E (unO c) v:=by
 unfold unO
 split
 ·exact h.1
 ·exact h
theorem box_cell (h:St C σ mu a w) {o:Nat} {cs:List SC} (ho:σ.H o=some (some (.box cs))) :
  ∃b arr t,(mu o).hd=.pointer (some ⟨b,0,none⟩)∧(∀u∈(mu o).ins,hdBlock u=none)∧w.heap[b]?=some (.cells arr t (0,0))∧RepL (σ.env C.wF mu) cs arr:=h.ob o _ ho
theorem sopLoad_ok {t:TypeId} {cx:SC} {vx:Value} {eff:Eff} (hr:(sopLoad C.P t cx).run σ=some eff) (hx:RepC (σ.env C.wF mu) cx vx) (h:St C σ mu a w) :
  eff.hp=[]∧∃v,(Instr.loadAt t vx).run C.P w=.ok v w∧RepV C.P (σ.env C.wF mu) eff.val v:=by
 unfold sopLoad at hr
 split at hr
 ·simp [Rd.run] at hr
 ·rename_i hagg
  split at hr
  ·simp [Rd.run] at hr
  ·rename_i n hn
   split at hr
   ·rename_i o i
    obtain ⟨ob,ho,hr⟩:=run_h hr
    cases ob with
    | box cs =>
     simp only at hr
     split at hr
     ·rename_i hle
      simp only [Rd.run,Option.some.injEq] at hr
      subst hr
      obtain ⟨_,b,hb,rfl⟩:=on_live ho hx
      obtain ⟨g,arr,ty,h1,h2,h3,h4⟩:=box_cell h ho
      rw [State.env,h1] at hb
      simp [hdBlock] at hb
      subst hb
      refine ⟨rfl,.agg ((arr.toList.drop i).take n).toArray,?_,_,rfl,?_⟩
      ·simp only [Instr.loadAt,Instr.sureAddr,Sem.run_bind,Sem.run_pure,Result.andThen_ok]
       refine run_loadVar_many hagg hn (by simp [h4.1];omega) fun j u hu=>?_
       rw [cell_of_row w g (i+j) arr ty (0,0) h3]
       rw [List.getElem?_take] at hu
       split at hu
       ·simpa using hu
       ·cases hu
      ·refine ⟨by simp [h4.1],fun j c hj=>?_⟩
       rw [List.getElem?_take] at hj
       split at hj
       ·rename_i hjn
        rw [List.getElem?_drop] at hj
        obtain ⟨u,h5,h6⟩:=h4.2 (i+j) c hj
        exact ⟨u,by simp [hjn,h5],h6⟩
       ·cases hj
     ·simp [Rd.run] at hr
    | _=>simp [Rd.run] at hr
   ·rename_i cs i
    split at hr
    ·rename_i hle
     simp only [Rd.run,Option.some.injEq] at hr
     subst hr
     obtain ⟨b,off,rfl,hc⟩:=hx
     have hex:∀j,j<n→∃u,w.cell? ⟨b,off+j,none⟩=some u∧∃fc,cs[i+j]?=some fc∧Reads C.wF u fc:=fun j hj=>by
      obtain ⟨u,h1,h2⟩:=hc j _ (List.getElem?_eq_getElem (by omega:i+j<cs.length))
      exact ⟨u,(h.cells _ _ h1).2,_,List.getElem?_eq_getElem (by omega:i+j<cs.length),h2⟩
     let us:=(List.range n).map fun j=>(w.cell? ⟨b,off+j,none⟩).getD undef
     have hus:∀j,j<n→us[j]?=w.cell? ⟨b,off+j,none⟩:=fun j hj=>by
      obtain ⟨u,h1,_⟩:=hex j hj
      simp [us,hj,h1]
     refine ⟨rfl,.agg us.toArray,?_,_,rfl,?_⟩
     ·simp only [Instr.loadAt,Instr.sureAddr,Sem.run_bind,Sem.run_pure,Result.andThen_ok]
      refine run_loadVar_many hagg hn (by simp [us]) fun j u hu=>?_
      have hj:j<n:=by have:=(List.getElem?_eq_some_iff.1 hu).1;simpa [us] using this
      rw [←hus j hj];exact hu
     ·refine ⟨by simp [us];omega,fun j c hj=>?_⟩
      rw [List.getElem?_map,List.getElem?_take] at hj
      split at hj
      ·rename_i hjn
       rw [List.getElem?_drop] at hj
       obtain ⟨u,h1,fc,h2,h3⟩:=hex j hjn
       rw [h2] at hj
       simp at hj
       subst hj
       have:=scOf_rep (E:=σ.env C.wF mu) h3
       exact ⟨u,by simp only [List.getElem?_toArray];rw [hus j hjn];exact h1,this.2,this.1⟩
      ·simp at hj
    ·simp [Rd.run] at hr
   ·simp [Rd.run] at hr
 ·rename_i hagg
  have hone:∀(b i:Nat) (u:Value),w.cell? ⟨b,i,none⟩=some u→(Instr.loadAt t (.pointer (some ⟨b,i,none⟩))).run C.P w=.ok u w:=fun b i u hu=>by
   simp only [Instr.loadAt,Instr.sureAddr,Sem.run_bind,Sem.run_pure,Result.andThen_ok]
   exact run_loadVar_one hagg hu
  split at hr
  ·rename_i o i
   obtain ⟨ob,ho,hr⟩:=run_h hr
   have hnf:ob.isFz=false:=by cases ob <;> first | rfl | simp [Rd.run] at hr
   obtain ⟨hlt,b,hb,rfl⟩:=on_live ho hx hnf
   clear hnf
   cases ob with
   | frz d=>simp [Rd.run] at hr
   | mp l=>simp [Rd.run] at hr
   | qu e k l=>simp [Rd.run] at hr
   | rowsH ver e ei k l hs=>simp [Rd.run] at hr
   | lst ver e d =>
    simp only at hr
    split at hr
    ·rename_i x hx'
     simp only [Rd.run,pure1,Option.some.injEq] at hr
     subst hr
     obtain ⟨_,vs,h1,h2⟩:=h.ob o _ ho
     have hlt2:i<d.len:=hlt
     have hlv:vs.length=d.len:=by simpa using h1.1
     obtain ⟨h3,fc,h4,h5⟩:=h2 i _ (List.getElem?_eq_getElem (by omega))
     have hfx:x=fc:=elD_elem hx' h4
     subst hfx
     exact ⟨rfl,vs[i]'(by omega),hone b i _ (by rw [ownsRow_cell h1 hb i hlt2];exact List.getElem?_eq_getElem (by omega)),h5.slice (elD_scal hx'),h5⟩
    ·simp [Rd.run] at hr
   | box cs =>
    simp only at hr
    split at hr
    ·rename_i c hc
     simp only [Rd.run,pure1,Option.some.injEq] at hr
     subst hr
     obtain ⟨g,arr,ty,h1,h2,h3,h4⟩:=box_cell h ho
     rw [State.env,h1] at hb
     simp [hdBlock] at hb
     subst hb
     obtain ⟨u,h5,h6,h7⟩:=h4.2 i c hc
     exact ⟨rfl,u,hone g i u (by rw [cell_of_row w g i arr ty (0,0) h3];exact h5),unO_rep h7⟩
    ·simp [Rd.run] at hr
   | bx cs=>simp [Rd.run] at hr
   | strs e l =>
    simp only [Rd.run,pure1,Option.some.injEq] at hr
    subst hr
    have:=h.ob o _ ho
    exact ⟨rfl,_,hone b i _ (by rw [ownsRow_cell this.2 hb i hlt];simp [show i<l.length from hlt];rfl),by simp [RepV,RepC,strV,List.getD,show i<l.length from hlt]⟩
   | ints e k l =>
    simp only [Rd.run,pure1,Option.some.injEq] at hr
    subst hr
    have:=h.ob o _ ho
    exact ⟨rfl,_,hone b i _ (by rw [ownsRow_cell this.2 hb i hlt];simp [show i<l.length from hlt];rfl),by simp [RepV,RepC,List.getD,show i<l.length from hlt]⟩
   | bools e l =>
    simp only [Rd.run,pure1,Option.some.injEq] at hr
    subst hr
    have:=h.ob o _ ho
    exact ⟨rfl,_,hone b i _ (by rw [ownsRow_cell this.2 hb i hlt];simp [show i<l.length from hlt];rfl),by simp [RepV,RepC,List.getD,show i<l.length from hlt]⟩
   | rows ver e ei k l =>
    simp only [Rd.run,pure1,Option.some.injEq] at hr
    subst hr
    obtain ⟨h1,h2,h3⟩:=h.ob o _ ho
    have hlt':i<(mu o).ins.length:=by rw [h2];exact hlt
    have hone':(mu o).ins[i].oneCell'=true:=ownsRow_one (h3 i _ _ (List.getElem?_eq_getElem hlt') (List.getElem?_eq_getElem hlt))
    refine ⟨rfl,(mu o).ins[i],hone b i _ (by rw [ownsRow_cell h1 hb i hlt,List.getElem?_eq_getElem hlt']),hone',?_⟩
    have:(σ.env C.wF mu).st o=.live (Ob.rows ver e ei k l).shp:=ost_live ho
    rw [this]
    exact ⟨Nat.le_refl _,fun _=>⟨List.getElem?_eq_getElem hlt',hlt⟩⟩
  ·rename_i o ver i j
   obtain ⟨ob,ho,hr⟩:=run_h hr
   have hnf:ob.isFz=false:=by cases ob <;> first | rfl | simp [Rd.run] at hr
   have hx:=on_live ho hx
   clear hnf
   cases ob with
   | rows ver' e ei k l =>
    simp only at hr
    split at hr
    ·rename_i hv
     simp only [Rd.run,pure1,Option.some.injEq] at hr
     subst hr
     obtain ⟨h1,h2,h3⟩:=h.ob o _ ho
     obtain ⟨hi,hj,r,b,hins,hb,rfl⟩:=hx.2 hv.symm
     have hi':i<l.length:=hi
     have hrow:=h3 i r _ hins (List.getElem?_eq_getElem hi')
     have hj':j<l[i].length:=by
      have:((l.map List.length).getD i 0)=l[i].length:=by simp [List.getD,hi']
      simp only [Ob.shp] at hj
      omega
     refine ⟨rfl,_,hone b j _ (by rw [ownsRow_cell hrow hb j hj'];simp [hj'];rfl),by simp [RepV,RepC,List.getD,hi',hj']⟩
    ·simp [Rd.run] at hr
   | _=>simp [Rd.run] at hr
  ·rename_i d i
   obtain ⟨b,off,fc,u,hfc,rfl,hcell,hrd⟩:=hx
   have hu:=hone b off u (h.cells _ _ hcell).2
   split at hr <;> simp only [Rd.run,pure1,Option.some.injEq,reduceCtorEq] at hr <;> subst hr
   ·simp only [FC.elem] at hfc
    split at hfc <;> cases hfc
    exact ⟨rfl,u,hu,hrd⟩
   ·simp only [FC.elem] at hfc
    split at hfc <;> cases hfc
    exact ⟨rfl,u,hu,hrd⟩
   ·simp only [FC.elem] at hfc
    split at hfc <;> cases hfc
    exact ⟨rfl,u,hu,hrd.slice,hrd⟩
   ·simp only [FC.elem] at hfc
    split at hfc <;> cases hfc
    exact ⟨rfl,u,hu,hrd.slice,hrd⟩
   ·simp only [FC.elem] at hfc
    split at hfc <;> cases hfc
    exact ⟨rfl,u,hu,hrd.slice,hrd⟩
  ·rename_i cs i
   obtain ⟨b,off,rfl,hc⟩:=hx
   split at hr
   ·rename_i fc hfc
    simp only [Rd.run,pure1,Option.some.injEq] at hr
    subst hr
    obtain ⟨u,h1,h2⟩:=hc 0 fc hfc
    exact ⟨rfl,u,hone b off u (h.cells _ _ h1).2,(scOf_rep (E:=σ.env C.wF mu) h2).1⟩
   ·simp [Rd.run] at hr
  ·rename_i o i
   obtain ⟨ob,ho,hr⟩:=run_h hr
   have hnf:ob.isFz=false:=by cases ob <;> first | rfl | simp [Rd.run] at hr
   have hx:=on_live ho hx hnf
   clear hnf
   cases ob with
   | qu e k l =>
    simp only [Rd.run,pure1,Option.some.injEq] at hr
    subst hr
    obtain ⟨hlt,b,off,n,c,hhd,rfl⟩:=hx
    have hhd:(mu o).hd=_:=hhd
    have hlt':i<l.length:=hlt
    obtain ⟨_,h2⟩:=h.ob o _ ho
    rcases h2 with ⟨h2,_⟩ | ⟨g,off',cap,h2,_,_,_,_,h3⟩
    ·rw [hhd] at h2;cases h2
    ·rw [hhd] at h2;cases h2
     exact ⟨rfl,_,hone _ _ _ (h3 i (.int k l[i]) (by simp [hlt'])),by simp [RepV,RepC,List.getD,hlt']⟩
   | _=>simp [Rd.run] at hr
  ·simp [Rd.run] at hr
end
end Go.Sx
end
section
namespace Go.Sx
open Go.RowKit
section
variable {C:Cx} {σ:State} {mu:Nat→Img} {a:Act} {w:World}
theorem rep_live {o:Nat} {ob:Ob} (ho:σ.H o=some (some ob)) {v:Value} (hv:v.oneCell'=true) {p:Shp→Prop} {q:FC→Prop} (h:p ob.shp) (hf:ob.isFz=false:=by first | rfl | assumption):RefOn (σ.env C.wF mu) o v p q:=by
 have:(σ.env C.wF mu).st o=.live ob.shp:=ost_live ho hf
 refine ⟨hv,?_⟩
 rw [this];exact h
theorem sopFieldAddr_ok {s:TypeId} {cx:SC} {f:Nat} {vx:Value} {eff:Eff} (hr:(sopFieldAddr C.P s cx f).run σ=some eff) (hx:RepC (σ.env C.wF mu) cx vx) :
  eff.hp=[]∧∃v,(Instr.fieldAt s vx f).run C.P w=.ok v w∧RepV C.P (σ.env C.wF mu) eff.val v:=by
 unfold sopFieldAddr at hr
 split at hr
 ·rename_i fs hu
  split at hr
  ·simp [Rd.run] at hr
  ·rename_i fd hfd
   split at hr
   ·rename_i n hn
    have hsz:=sizeT_ok hn
    have hrun:∀b i,(Instr.fieldAt s (.pointer (some ⟨b,i,none⟩)) f).run C.P w=.ok (.pointer (some ⟨b,i+fd.offset,none⟩)) w:=fun b i=>by
     simp [Instr.fieldAt,run_underlying hu,hfd,Instr.sureAddr,fieldPlace,hsz,Addr.add_lit]
    split at hr
    ·rename_i o i
     obtain ⟨ob,ho,hr⟩:=run_h hr
     cases ob with
     | box cs =>
      simp only at hr
      split at hr
      ·rename_i hlt
       simp only [Rd.run,pure1,Option.some.injEq] at hr
       subst hr
       obtain ⟨_,b,hb,rfl⟩:=on_live ho hx
       exact ⟨rfl,_,hrun b i,rep_live ho rfl ⟨hlt,b,hb,rfl⟩⟩
      ·simp [Rd.run] at hr
     | _=>simp [Rd.run] at hr
    ·rename_i cs i
     simp only [Rd.run,pure1,Option.some.injEq] at hr
     subst hr
     obtain ⟨b,off,rfl,hc⟩:=hx
     exact ⟨rfl,_,hrun b off,b,off+fd.offset,rfl,fun j fc hj=>by
      obtain ⟨u,h1,h2⟩:=hc (fd.offset+j) fc (by rw [←Nat.add_assoc];exact hj)
      exact ⟨u,by rw [Nat.add_assoc];exact h1,h2⟩⟩
    ·simp [Rd.run] at hr
   ·simp [Rd.run] at hr
 ·simp [Rd.run] at hr
theorem sopField_ok {s:TypeId} {sv:SV} {f:Nat} {vx:Value} {eff:Eff} (hr:(sopField C.P s sv f).run σ=some eff) (hx:RepV C.P (σ.env C.wF mu) sv vx) :
  eff.hp=[]∧∃v,(Instr.field s vx f).run C.P w=.ok v w∧RepV C.P (σ.env C.wF mu) eff.val v:=by
 unfold sopField at hr
 split at hr
 ·rename_i fs hu
  split at hr
  ·simp [Rd.run] at hr
  ·rename_i fd hfd
   split at hr
   ·rename_i cs
    obtain ⟨arr,rfl,hsz,hcs⟩:=hx
    split at hr
    ·rename_i hagg
     split at hr
     ·rename_i n hn
      split at hr
      ·rename_i hle
       simp only [Rd.run,Option.some.injEq] at hr
       subst hr
       refine ⟨rfl,.agg (arr.extract fd.offset (fd.offset+n)),?_,_,rfl,?_⟩
       ·simp [Instr.field,run_underlying hu,hfd,asAgg,part,isAggT_ok hagg,sizeT_ok hn]
       ·refine ⟨by simp [hsz];omega,fun i c hi=>?_⟩
        rw [List.getElem?_take] at hi
        split at hi
        ·rename_i hin
         rw [List.getElem?_drop] at hi
         obtain ⟨u,h1,h2⟩:=hcs _ c hi
         have hlt:fd.offset+i<arr.size:=(Array.getElem?_eq_some_iff.1 h1).1
         refine ⟨u,?_,h2⟩
         rw [Array.getElem?_extract,if_pos (by omega)]
         exact h1
        ·cases hi
      ·simp [Rd.run] at hr
     ·simp [Rd.run] at hr
    ·rename_i hagg
     split at hr
     ·rename_i c hc
      simp only [Rd.run,pure1,Option.some.injEq] at hr
      subst hr
      obtain ⟨u,h1,h2,h3⟩:=hcs _ c hc
      refine ⟨rfl,u,?_,h3⟩
      simp [Instr.field,run_underlying hu,hfd,asAgg,part,isAggT_ok hagg,h1]
     ·simp [Rd.run] at hr
    ·simp [Rd.run] at hr
   ·simp [Rd.run] at hr
 ·simp [Rd.run] at hr
theorem run_indexAt {t e:TypeId} (he:elemT C.P t=some e) (hs:sizeT C.P e=some 1) {ad:Addr} {len cap:Nat} {k:IntKind} {n:Int} (hn:inB n len) :
  (Instr.indexAt t (.slice (some ad) len cap) (.int k n)).run C.P w=.ok (.pointer (some (ad.add n.toNat))) w:=by
 have h1:0≤n∧n<(len:Int):=hn
 simp [Instr.indexAt,run_underlying (elemT_ok he),asIntOf,h1.1,h1.2,sizeT_ok hs]
theorem viewV_index {t e:TypeId} (he:elemT C.P t=some e) (hs:sizeT C.P e=some 1) {hd v:Value} {off len:Nat} (hv:ViewV hd off len v) {k:IntKind} {n:Int} (hn:inB n len) :
  ∃b,hdBlock hd=some b∧(Instr.indexAt t v (.int k n)).run C.P w=.ok (.pointer (some ⟨b,off+n.toNat,none⟩)) w:=by
 have h1:0≤n∧n<(len:Int):=hn
 rcases hv with ⟨_,_,_,h0⟩ | ⟨g,l,cap,ao,rfl,rfl,hc1,hc2,hao⟩
 ·omega
 ·refine ⟨g,rfl,?_⟩
  rw [hao (.inr (by omega)),run_indexAt he hs hn,Addr.add_lit]
theorem viewV_own {w:World} {B e size n:Nat} {v:Value} {xs:List Value} (h:w.ownsRow B e size v n xs):ViewV v 0 n v:=by
 rcases h.2 with ⟨rfl,rfl⟩ | ⟨g,cap,cur,rfl,_,_,hn,_⟩
 ·exact .inl ⟨rfl,rfl,rfl,rfl⟩
 ·exact .inr ⟨g,n,cap,_,rfl,rfl,Nat.zero_le _,hn,fun _=>rfl⟩
def Ob.len?:Ob→Option Nat
 | .box _=>none
 | .bx _=>none
 | .strs _ l=>some l.length
 | .ints _ _ l=>some l.length
 | .bools _ l=>some l.length
 | .rows _ _ _ _ l=>some l.length
 | .lst _ _ d=>some d.len
 | .frz _=>none
 | .mp _=>none
 | .qu _ _ _=>none
 | .rowsH _ _ _ _ l _=>some l.length
theorem len_nf {ob:Ob} {L:Nat} (h:ob.len?=some L):ob.isFz=false:=by cases ob <;> first | rfl | cases h
theorem own_view {E:Env} {m:Img} {ob:Ob} {L:Nat} (hl:ob.len?=some L) (h:RepO E w m ob):ViewV m.hd 0 L m.hd∧ob.shp.len=L:=by
 cases ob with
 | box cs=>cases hl
 | bx cs=>cases hl
 | strs e l=>cases hl;exact ⟨viewV_own h.2,rfl⟩
 | ints e k l=>cases hl;exact ⟨viewV_own h.2,rfl⟩
 | bools e l=>cases hl;exact ⟨viewV_own h.2,rfl⟩
 | rows ver e ei k l=>cases hl;exact ⟨viewV_own h.1,rfl⟩
 | lst ver e d=>cases hl;obtain ⟨_,vs,h1,_⟩:=h;exact ⟨viewV_own h1,rfl⟩
 | frz d=>cases hl
 | mp l=>cases hl
 | qu e k l=>cases hl
 | rowsH ver e ei k l hs=>cases hl;obtain ⟨_,⟨vs,h1,_⟩,_⟩:=h;exact ⟨viewV_own h1,rfl⟩
theorem sliceOf_index {t e:TypeId} (he:elemT C.P t=some e) (hs:sizeT C.P e=some 1) {wF:World} {v:Value} {len:Nat} {R:Nat→Value→Prop} (hv:SliceOf wF v len R) {k:IntKind} {n:Int} (hn:inB n len) :
  ∃b off u,(Instr.indexAt t v (.int k n)).run C.P w=.ok (.pointer (some ⟨b,off,none⟩)) w∧wF.cell? ⟨b,off,none⟩=some u∧R n.toNat u:=by
 have h1:0≤n∧n<(len:Int):=hn
 obtain ⟨ad,c,rfl,_,hk⟩:=hv
 obtain ⟨b,off,rfl,hk2⟩:=hk (by omega)
 obtain ⟨u,h2,h3⟩:=hk2 n.toNat (by omega)
 exact ⟨b,off+n.toNat,u,by rw [run_indexAt he hs hn,Addr.add_lit],h2,h3⟩
theorem sopIndexAddr_ok {t:TypeId} {cx ci:SC} {vx vi:Value} {eff:Eff} (hr:(sopIndexAddr C.P t cx ci).run σ=some eff) (hob:eff.obl)
  (hx:RepC (σ.env C.wF mu) cx vx) (hi:RepC (σ.env C.wF mu) ci vi) (h:St C σ mu a w) :
  eff.hp=[]∧∃v,(Instr.indexAt t vx vi).run C.P w=.ok v w∧RepV C.P (σ.env C.wF mu) eff.val v:=by
 unfold sopIndexAddr at hr
 split at hr
 ·simp [Rd.run] at hr
 ·rename_i e he
  split at hr
  ·rename_i hs
   split at hr
   ·rename_i k n
    simp only [RepC] at hi
    subst hi
    split at hr
    ·rename_i o
     obtain ⟨ob,ho,hr⟩:=run_h hr
     have hnf:ob.isFz=false:=by cases ob <;> first | rfl | simp [Rd.run] at hr
     have hv:=on_live ho hx hnf
     have hv':vx=(mu o).hd:=hv
     subst hv'
     have key:∀L,ob.len?=some L→eff=⟨.c (.ptr o n.toNat),[],some (inB n L)⟩→eff.hp=[]∧∃v,(Instr.indexAt t (mu o).hd (.int k n)).run C.P w=.ok v w∧RepV C.P (σ.env C.wF mu) eff.val v:=fun L hL heff=>by
      subst heff
      obtain ⟨h1,h2⟩:=own_view hL (h.ob o ob ho)
      obtain ⟨b,h3,h4⟩:=viewV_index (w:=w) (k:=k) he hs h1 hob
      refine ⟨rfl,_,h4,rep_live ho rfl ⟨?_,b,h3,by simp⟩ hnf⟩
      have h5:0≤n∧n<(L:Int):=hob
      omega
     clear hnf
     cases ob with
     | frz d=>simp [Rd.run] at hr
     | mp l=>simp [Rd.run] at hr
     | qu e' k' l =>
      simp only [Rd.run,Option.some.injEq] at hr
      subst hr
      have hB:0≤n∧n<(l.length:Int):=hob
      obtain ⟨_,h2⟩:=h.ob o _ ho
      rcases h2 with ⟨_,h3⟩ | ⟨g,off,cap,a1,_⟩
      ·have:l.length=0:=by rw [←List.length_map (f:=Value.int k'),h3];rfl
       omega
      ·refine ⟨rfl,.pointer (some ⟨g,off+n.toNat,none⟩),by rw [a1,run_indexAt he hs (by rw [List.length_map];exact hB),Addr.add_lit],rep_live ho rfl ⟨?_,g,off,_,_,a1,rfl⟩⟩
       show n.toNat<l.length
       omega
     | lst ver e d=>simp only [Rd.run,Option.some.injEq] at hr;exact key _ rfl hr.symm
     | rowsH ver e ei k l hs=>simp only [Rd.run,Option.some.injEq] at hr;exact key _ rfl hr.symm
     | box cs=>simp [Rd.run] at hr
     | bx cs=>simp [Rd.run] at hr
     | ints e k l=>simp only [Rd.run,Option.some.injEq] at hr;exact key _ rfl hr.symm
     | bools e l=>simp only [Rd.run,Option.some.injEq] at hr;exact key _ rfl hr.symm
     | strs e l=>simp only [Rd.run,Option.some.injEq] at hr;exact key _ rfl hr.symm
     | rows ver e ei k l=>simp only [Rd.run,Option.some.injEq] at hr;exact key _ rfl hr.symm
    ·rename_i o len
     obtain ⟨ob,ho,hr⟩:=run_h hr
     obtain ⟨hnf,hr⟩:=nfR_run hr
     simp only [Rd.run,Option.some.injEq] at hr
     subst hr
     obtain ⟨hle,hv⟩:=on_live ho hx
     obtain ⟨b,h3,h4⟩:=viewV_index (w:=w) (k:=k) he hs hv hob
     have h5:0≤n∧n<(len:Int):=hob
     exact ⟨rfl,_,h4,rep_live ho rfl ⟨by omega,b,h3,by simp⟩⟩
    ·rename_i o off len
     obtain ⟨ob,ho,hr⟩:=run_h hr
     obtain ⟨hnf,hr⟩:=nfR_run hr
     simp only [Rd.run,Option.some.injEq] at hr
     subst hr
     obtain ⟨hle,hv⟩:=on_live ho hx
     obtain ⟨b,h3,h4⟩:=viewV_index (w:=w) (k:=k) he hs hv hob
     have h5:0≤n∧n<(len:Int):=hob
     exact ⟨rfl,_,h4,rep_live ho rfl ⟨by omega,b,h3,rfl⟩⟩
    ·rename_i o ver i
     obtain ⟨ob,ho,hr⟩:=run_h hr
     have hnf:ob.isFz=false:=by cases ob <;> first | rfl | simp [Rd.run] at hr
     cases ob with
     | rows ver' e' ei k' l =>
      simp only at hr
      split at hr
      ·rename_i hver
       simp only [Rd.run,Option.some.injEq] at hr
       subst hr
       obtain ⟨h0,hx⟩:=on_live ho hx
       obtain ⟨hins,hlt⟩:=hx hver.symm
       have hlt':i<l.length:=hlt
       obtain ⟨_,_,h3⟩:=h.ob o _ ho
       have hrow:=h3 i vx _ hins (List.getElem?_eq_getElem hlt')
       have hgd:l.getD i []=l[i]:=by simp [List.getD,hlt']
       have hob':inB n l[i].length:=by rw [←hgd];exact hob
       obtain ⟨b,h4,h5⟩:=viewV_index (w:=w) (k:=k) he hs (viewV_own hrow) hob'
       have h6:0≤n∧n<(l[i].length:Int):=hob'
       refine ⟨rfl,_,h5,rep_live ho rfl ⟨h0,fun _=>⟨hlt',?_,vx,b,hins,h4,by simp⟩⟩⟩
       have:((Ob.rows ver' e' ei k' l).shp.rl.getD i 0)=l[i].length:=by simp [Ob.shp,List.getD,hlt']
       omega
      ·simp [Rd.run] at hr
     | _=>simp [Rd.run] at hr
    ·rename_i d
     have h5:∀L,inB n L→n.toNat<L:=fun L hL=>by have:0≤n∧n<(L:Int):=hL;omega
     split at hr <;> simp only [Rd.run,Option.some.injEq,reduceCtorEq] at hr <;> subst hr
     ·rename_i kk l
      obtain ⟨b,off,u,h1,h2,h3⟩:=sliceOf_index (w:=w) (k:=k) he hs hx.2 hob
      exact ⟨rfl,_,h1,b,off,.int kk (l.getD n.toNat 0),u,by simp [FC.elem,h5 _ hob],rfl,h2,h3⟩
     ·rename_i l
      obtain ⟨b,off,u,h1,h2,h3⟩:=sliceOf_index (w:=w) (k:=k) he hs hx.2 hob
      exact ⟨rfl,_,h1,b,off,.bool (l.getD n.toNat false),u,by simp [FC.elem,h5 _ hob],rfl,h2,h3⟩
     ·rename_i kk l
      obtain ⟨b,off,u,h1,h2,h3⟩:=sliceOf_index (w:=w) (k:=k) he hs hx.2 hob
      exact ⟨rfl,_,h1,b,off,.ints kk (l.getD n.toNat []),u,by simp [FC.elem,h5 _ hob],rfl,h2,h3⟩
     ·rename_i kk l
      obtain ⟨b,off,u,h1,h2,h3⟩:=sliceOf_index (w:=w) (k:=k) he hs hx.2 hob
      exact ⟨rfl,_,h1,b,off,.rows kk (l.getD n.toNat []),u,by simp [FC.elem,h5 _ hob],rfl,h2,h3⟩
     ·rename_i kk l
      obtain ⟨b,off,u,h1,h2,h3⟩:=sliceOf_index (w:=w) (k:=k) he hs hx.2 hob
      exact ⟨rfl,_,h1,b,off,.r3 kk (l.getD n.toNat []),u,by simp [FC.elem,h5 _ hob],rfl,h2,h3⟩
    ·simp [Rd.run] at hr
   ·simp [Rd.run] at hr
  ·simp [Rd.run] at hr
theorem run_len {t e ty:TypeId} (he:elemT C.P t=some e) (x:Option Addr) (n c:Nat):(Builtin.len_ #[t] ty #[.slice x n c]).run C.P w=.ok (.int .i64 (n:Int)) w:=by
 simp [Builtin.len_,run_underlying (elemT_ok he),goInt]
theorem viewV_form {hd v:Value} {off n:Nat} (h:ViewV hd off n v):∃x c,v=.slice x n c:=by
 rcases h with ⟨_,rfl,_,rfl⟩ | ⟨g,l,cap,ao,_,rfl,_⟩
 ·exact ⟨_,_,rfl⟩
 ·exact ⟨_,_,rfl⟩
theorem sopLen_ok {t ty e:TypeId} {cx:SC} {vx:Value} {eff:Eff} (hr:(sopLen cx).run σ=some eff)
  (ht:elemT C.P t=some e∨(∃l,cx=.str l)∧C.P.underlying t=some .string) (hn:(∃l,cx=.str l)→C.P.underlying t=some .string)
  (hx:RepC (σ.env C.wF mu) cx vx) (h:St C σ mu a w) :
  eff.hp=[]∧∃v,(Builtin.len_ #[t] ty #[vx]).run C.P w=.ok v w∧RepV C.P (σ.env C.wF mu) eff.val v:=by
 have hsl:∀(n:Nat),(∀l,cx≠.str l)→(∃x c,vx=.slice x n c)→eff=⟨.c (.int .i64 n),[],none⟩ →
   eff.hp=[]∧∃v,(Builtin.len_ #[t] ty #[vx]).run C.P w=.ok v w∧RepV C.P (σ.env C.wF mu) eff.val v:=fun n hne ⟨x,c,hv⟩ heff=>by
  rcases ht with he | ⟨⟨l,hl⟩,_⟩
  ·subst heff;subst hv
   exact ⟨rfl,_,run_len he x n c,rfl⟩
  ·exact absurd hl (hne l)
 unfold sopLen at hr
 split at hr
 ·simp only [RepC] at hx
  simp only [Rd.run,pure1,Option.some.injEq] at hr
  exact hsl 0 (by simp) ⟨_,_,hx⟩ hr.symm
 ·rename_i l
  simp only [RepC] at hx
  simp only [Rd.run,pure1,Option.some.injEq] at hr
  subst hr;subst hx
  refine ⟨rfl,_,by simp [Builtin.len_,run_underlying (hn ⟨l,rfl⟩),goInt];rfl,?_⟩
  simp [RepV,RepC,ByteArray.size]
 ·rename_i o
  obtain ⟨ob,ho,hr⟩:=run_h hr
  have hnf:ob.isFz=false:=by cases ob <;> first | rfl | simp [Rd.run] at hr
  have hv':vx=(mu o).hd:=on_live ho hx
  have key:∀L,ob.len?=some L→eff=⟨.c (.int .i64 L),[],none⟩→_:=fun L hL heff=>by
   obtain ⟨h1,_⟩:=own_view hL (h.ob o ob ho)
   rw [←hv'] at h1
   exact hsl L (by simp) (viewV_form h1) heff
  cases ob with
  | box cs=>simp [Rd.run] at hr
  | bx cs=>simp [Rd.run] at hr
  | ints e k l=>simp only [Rd.run,pure1,Option.some.injEq] at hr;exact key _ rfl hr.symm
  | bools e l=>simp only [Rd.run,pure1,Option.some.injEq] at hr;exact key _ rfl hr.symm
  | strs e l=>simp only [Rd.run,pure1,Option.some.injEq] at hr;exact key _ rfl hr.symm
  | rows ver e ei k l=>simp only [Rd.run,pure1,Option.some.injEq] at hr;exact key _ rfl hr.symm
  | lst ver e d=>simp only [Rd.run,pure1,Option.some.injEq] at hr;exact key _ rfl hr.symm
  | rowsH ver e ei k l hs=>simp only [Rd.run,pure1,Option.some.injEq] at hr;exact key _ rfl hr.symm
  | frz d=>simp [Rd.run] at hr
  | mp l=>simp [Rd.run] at hr
  | qu e k l =>
   simp only [Rd.run,pure1,Option.some.injEq] at hr
   obtain ⟨_,h2⟩:=h.ob o _ ho
   refine hsl l.length (by simp) ?_ hr.symm
   rw [hv']
   rcases h2 with ⟨h2,h3⟩ | ⟨g,off,cap,a1,_⟩
   ·have:l.length=0:=by rw [←List.length_map (f:=Value.int k),h3];rfl
    exact ⟨_,_,by rw [h2,this]⟩
   ·exact ⟨_,_,by rw [a1,List.length_map]⟩
 ·rename_i o n
  obtain ⟨ob,ho,hr⟩:=run_h hr
  obtain ⟨hnf,hr⟩:=nfR_run hr
  simp only [Rd.run,pure1,Option.some.injEq] at hr
  exact hsl n (by simp) (viewV_form (on_live ho hx).2) hr.symm
 ·rename_i o off n
  obtain ⟨ob,ho,hr⟩:=run_h hr
  obtain ⟨hnf,hr⟩:=nfR_run hr
  simp only [Rd.run,pure1,Option.some.injEq] at hr
  exact hsl n (by simp) (viewV_form (on_live ho hx).2) hr.symm
 ·rename_i o ver i
  obtain ⟨ob,ho,hr⟩:=run_h hr
  cases ob with
  | rows ver' e' ei k' l =>
   simp only at hr
   split at hr
   ·rename_i hver
    simp only [Rd.run,pure1,Option.some.injEq] at hr
    obtain ⟨h0,hx⟩:=on_live ho hx
    obtain ⟨hins,hlt⟩:=hx hver.symm
    have hlt':i<l.length:=hlt
    obtain ⟨_,_,h3⟩:=h.ob o _ ho
    have hrow:=h3 i vx _ hins (List.getElem?_eq_getElem hlt')
    have hgd:l.getD i []=l[i]:=by simp [List.getD,hlt']
    rw [hgd] at hr
    exact hsl _ (by simp) (viewV_form (viewV_own hrow)) hr.symm
   ·simp [Rd.run] at hr
  | _=>simp [Rd.run] at hr
 ·rename_i d
  split at hr <;> simp only [Rd.run,pure1,Option.some.injEq,reduceCtorEq] at hr
  all_goals
   obtain ⟨_,x,c,hv,_,_⟩:=hx
   exact hsl _ (by simp) ⟨x,c,hv⟩ hr.symm
 ·simp [Rd.run] at hr
theorem sopExtract_ok {sv:SV} {i:Nat} {vx:Value} {eff:Eff} (hr:(sopExtract sv i).run σ=some eff) (hx:RepV C.P (σ.env C.wF mu) sv vx) :
  eff.hp=[]∧∃v,(Instr.extract vx i).run C.P w=.ok v w∧RepV C.P (σ.env C.wF mu) eff.val v:=by
 unfold sopExtract at hr
 split at hr
 ·obtain ⟨arr,rfl,hsz,hc⟩:=hx
  split at hr
  ·rename_i c hcc
   simp only [Rd.run,pure1,Option.some.injEq] at hr
   subst hr
   obtain ⟨u,h1,h2⟩:=hc i _ hcc
   exact ⟨rfl,u,by simp [Instr.extract,h1],h2.2⟩
  ·rename_i cs hcc
   simp only [Rd.run,Option.some.injEq] at hr
   subst hr
   obtain ⟨u,h1,h2⟩:=hc i _ hcc
   exact ⟨rfl,u,by simp [Instr.extract,h1],h2⟩
  ·simp [Rd.run] at hr
 ·simp [Rd.run] at hr
theorem sopIndex_ok {t:TypeId} {cx ci:SC} {vx vi:Value} {eff:Eff} (hr:(sopIndex C.P t cx ci).run σ=some eff) (hob:eff.obl)
  (hx:RepC (σ.env C.wF mu) cx vx) (hi:RepC (σ.env C.wF mu) ci vi) :
  eff.hp=[]∧∃v,(Instr.index t vx vi).run C.P w=.ok v w∧RepV C.P (σ.env C.wF mu) eff.val v:=by
 unfold sopIndex at hr
 split at hr
 ·rename_i l k n
  simp only [RepC] at hx hi
  subst hx;subst hi
  split at hr
  ·rename_i hu
   simp only [Rd.run,Option.some.injEq] at hr
   subst hr
   have h1:0≤n∧n<(l.length:Int):=hob
   have h2:n.toNat<l.length:=by omega
   have hget:(⟨l.toArray⟩:ByteArray)[n.toNat]?=some l[n.toNat]:=by
    rw [ByteArray.getElem?_lt' _ _ (by simpa [ByteArray.size] using h2)]
    rfl
   refine ⟨rfl,.int .u8 (l[n.toNat].toNat:Int),?_,by simp [RepV,RepC,List.getD,h2]⟩
   simp [Instr.index,asIntOf,run_underlying hu,h1.1,hget]
  ·simp [Rd.run] at hr
 ·simp [Rd.run] at hr
end
end Go.Sx
end
