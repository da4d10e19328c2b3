/- SxIf -/
import Derived.Test.YtkmldclpaniclaaGreatSxI
set_option linter.unusedSimpArgs false
set_option linter.unusedVariables false
set_option linter.defProp false
namespace Go.Sx
open Go.RowKit
theorem kN{w:World}{e n:Nat}{hd:Value}{xs:List Value}(h:w.ownsRow 0 e 1 hd n xs){off m:Nat}{v:Value}(hv:cA hd off m v)(hle:off+m<=n) :
  bE w v m fun i u=>xs[off+i]?=some u:=by
 have hl:xs.length=n:=by simpa using h.1
 rcases hv with⟨_,rfl,_,rfl⟩|⟨g,len,cap,ao,rfl,rfl,hc1,hc2,hao⟩
 ·exact⟨_,_,rfl,AE _,fun h0=>by omega⟩
 ·refine⟨_,_,rfl,hc2,fun h0=>?_⟩
  rw[hao (.inr (by omega))]
  refine⟨g,off,rfl,fun i hi=>?_⟩
  have ψ:off+i<xs.length:=by omega
  exact⟨xs[off+i],by rw[iV h (b:=g) rfl (off+i) (by omega)];exact AF ψ,AF ψ⟩
theorem Pd{w:World}{e n:Nat}{hd:Value}{xs:List Value}(h:w.ownsRow 0 e 2 hd n xs){m:Nat}{v:Value}(hv:cA hd 0 m v)(hle:m<=n) :
  gh w v m fun i u=>xs[i]?=some u:=by
 have hl:xs.length=n*2:=h.1
 rcases hv with⟨_,rfl,_,rfl⟩|⟨g,len,cap,ao,rfl,rfl,hc1,hc2,hao⟩
 ·exact⟨_,_,rfl,AE _,fun h0=>by omega⟩
 ·refine⟨_,_,rfl,hc2,fun h0=>?_⟩
  rw[hao (.inl rfl)];refine⟨g,0,rfl,fun i hi=>?_⟩
  have ψ:i<xs.length:=by omega
  exact⟨xs[i],by rw[AK,w5 h (b:=g) rfl i (by omega)];exact AF ψ,AF ψ⟩
theorem qS{w:World}{e n:Nat}{k:IntKind}{hd:Value}{l:Db}(h:w.ownsRow 0 e 1 hd n (l.map (.int k))){off m:Nat}{v:Value}(hv:cA hd off m v)(hle:off+m<=n) :
  g9 w k v ((l.drop off).take m):=by
 have hl:l.length=n:=by simpa using h.1
 have:=kN h hv hle
 have hlen:((l.drop off).take m).length=m:=by simp;omega
 unfold g9;rw[hlen];exact this.mono fun i u hi hu=>by
  rw[Aj]at hu;cases hx:l[off+i]? with
  |none=>simp[hx]at hu
  |some x=>simp[hx]at hu;rw[<-hu];simp[List.getD,hi,hx]
theorem qT{ver:Nat}{e:TypeId}{d d':FC}(h:fA (.lst ver e d)=some d'):d'=d/\dt d=false:=by
 simp only[fA]at h;split at h
 ·cases h
 ·cases h;exact⟨rfl,by assumption⟩
theorem br.kind{w:World}:∀{es:List TypeId} {u:Value} {x:FC},br w es u x->(∃k l,x=.ints k l)\/x.dep≠0
 | [],_,_,h=>False.elim h
 | [_],_,_,⟨_,k,l,h2,_⟩=>.inl ⟨k,l,h2⟩
 |_::_::_,_,_,⟨_,h2,_⟩=>.inr (by omega)
theorem HM{d:FC}(h:(∃k l,d=.ints k l)\/d.dep≠0):cz 0 d.len d=some d:=by
 rcases h with⟨k,l,rfl⟩|h
 ·simp[cz,FC.len]
 ·cases d<;>simp[cz,FC.len,FC.dep]at *
theorem HN{w:World}:∀{es:List TypeId} {nd:Value} {d d':FC},br w es nd d->∀{off n:Nat} {v:Value},cA (aK nd) off n v->off+n<=d.len->cz off n d=some d'->bp w v d'
 | [],_,_,_,h,_,_,_,_,_,_=>False.elim h
 | [e],nd,d,d',⟨_,k,l,h2,h3⟩,off,n,v,hv,hle,ht=>by
  subst h2;cases ht;exact qS h3 hv hle
 |e::e2::es,nd,d,d',h,off,n,v,hv,hle,ht=>by
  have hl:=jO h
  obtain⟨_,h2,h3,h4⟩:=h;have el:∀i u,((bo nd).map aK)[off+i]?=some u->∃x,cX d (off+i)=some x/\bp w u x:=fun i u hu=>by
   rw[Aj]at hu;cases hk:(bo nd)[off+i]? with
   |none=>rw[hk]at hu;cases hu
   |some kid =>
    rw[hk]at hu;cases hu;obtain⟨x,hx,_⟩:=lH h2 (off+i);have ho:=h4 (off+i) kid x hk hx
    obtain⟨e',xs,hrow⟩:=ho.row;exact⟨x,hx,HN (es:=e2::es) ho (cL hrow) (by omega) (HM ho.kind)⟩
  have ln:∀{α:Type} (l:List α),off+n<=l.length->((l.drop off).take n).length=n:=fun l h=>by simp;omega
  cases d<;>simp only[cz,AC,reduceCtorEq]at ht<;>simp only[FC.dep]at h2<;>first|omega|skip
  all_goals first
  | (subst ht
     have hs:=kN h3 hv hle
     show bE _ _ _ _
     rw[ln _ hle];refine hs.below fun i u hi hu=>?_
     obtain⟨x,h5,h6⟩:=el i u hu;cases h5;rw[iN _ off n i _ hi];exact h6
     done)
  | (cases off with
     |succ off=>cases ht
     |zero =>
      cases ht;rename_i k l;have hle':0+n<=l.length:=hle
      show gh _ _ _ _
      rw[show(l.take n).length=n by rw[AS];omega]
      refine(Pd h3 hv (by omega)).below fun i u hi hu=>?_
      obtain⟨x,h5,h6⟩:=el i u (by rw[AK];exact hu)
      rw[AK]at h5;cases h5;rw[wl hi];exact h6)
theorem br.reads{w:World}{es:List TypeId}{nd:Value}{d:FC}(h:br w es nd d):bp w (aK nd) d:=by
 obtain⟨e',xs,hrow⟩:=h.row;exact HN h (cL hrow) (by omega) (HM h.kind)
theorem xa{E:Env}{w:World}(hk:bJ E.wF w){m:Img}{ob:Ob}(h:aR E w m ob){d d':FC}(hd:fA ob=some d){off n:Nat}{v:Value}(hv:cA m.hd off n v)(hle:off+n<=d.len)
  (hd':cz off n d=some d'):bp w v d':=by
 cases ob with
 |box cs=>cases hd
 |bx cs=>cases hd
 |strs e l=>cases hd
 |frz d=>cases hd
 |mp l=>cases hd
 |qu e k l=>cases hd
 |rowsH ver e ei k l hs=>cases hd
 |yd yv Y pre g=>cases hd
 |trk ver es d n=>cases hd
 |tr ver es d0 =>
  cases hd;obtain⟨nd,rfl,h1⟩:=h;exact HN h1 hv hle hd'
 |lst ver e d0 =>
  obtain⟨rfl,_⟩:=qT hd;obtain⟨_,vs,h1,h2⟩:=h;have ln:∀{α:Type} (l:List α),off+n<=l.length->((l.drop off).take n).length=n:=fun l h=>by simp;omega
  have el:∀i u,vs[off+i]?=some u->∃fc,d.elem (off+i)=some fc/\bp w u fc:=fun i u hu=>by
   obtain⟨_,fc,h3,h4⟩:=h2 _ _ hu;exact⟨fc,h3,h4.mono hk⟩
  cases d with
  |int k n=>cases hd'
  |bool b=>cases hd'
  |str l=>cases hd'
  |ints k l =>
   cases hd'
   show bE _ _ _ _
   rw[ln l hle];refine(kN h1 hv hle).below fun i u hi hu=>?_
   obtain⟨fc,h3,h4⟩:=el i u hu;have e:=iN l off n i 0 hi
   simp only[FC.elem]at h3;split at h3<;>cases h3
   rw[e];exact h4
  |bools l =>
   cases hd'
   show bE _ _ _ _
   rw[ln l hle];refine(kN h1 hv hle).below fun i u hi hu=>?_
   obtain⟨fc,h3,h4⟩:=el i u hu;have e:=iN l off n i false hi
   simp only[FC.elem]at h3;split at h3<;>cases h3
   rw[e];exact h4
  |rows k l =>
   cases hd'
   show bE _ _ _ _
   rw[ln l hle];refine(kN h1 hv hle).below fun i u hi hu=>?_
   obtain⟨fc,h3,h4⟩:=el i u hu;have e:=iN l off n i [] hi
   simp only[FC.elem]at h3;split at h3<;>cases h3
   rw[e];exact h4
  |r3 k l =>
   cases hd'
   show bE _ _ _ _
   rw[ln l hle];refine(kN h1 hv hle).below fun i u hi hu=>?_
   obtain⟨fc,h3,h4⟩:=el i u hu;have e:=iN l off n i [] hi
   simp only[FC.elem]at h3;split at h3<;>cases h3
   rw[e];exact h4
  |r4 k l =>
   cases hd'
   show bE _ _ _ _
   rw[ln l hle];refine(kN h1 hv hle).below fun i u hi hu=>?_
   obtain⟨fc,h3,h4⟩:=el i u hu;have e:=iN l off n i [] hi
   simp only[FC.elem]at h3;split at h3<;>cases h3
   rw[e];exact h4
  |p3 k l =>
   cases off with
   |succ off=>cases hd'
   |zero =>
    cases hd';have hle':0+n<=l.length:=hle
    show gh _ _ _ _
    rw[show(l.take n).length=n by rw[AS];omega]
    refine(Pd h1 hv (by omega)).below fun i u hi hu=>?_
    obtain⟨fc,h3,h4⟩:=el i u (by rw[AK];exact hu)
    rw[AK]at h3;simp only[FC.elem]at h3;split at h3<;>cases h3
    rw[wl hi];exact h4
 |ints e k l =>
  cases hd;cases hd';exact qS h.2 hv hle
 |bools e l =>
  cases hd;cases hd';have hlen:((l.drop off).take n).length=n:=by simp;simp only[FC.len]at hle;omega
  show bE _ _ _ _
  rw[hlen];exact(kN h.2 hv hle).mono fun i u hi hu=>by
   rw[Aj]at hu;cases hx:l[off+i]? with
   |none=>simp[hx]at hu
   |some x=>simp[hx]at hu;rw[<-hu];simp[List.getD,hi,hx]
 |rows ver e ei k l =>
  cases hd;cases hd';obtain⟨h1,h2,h3⟩:=h;have hlen:((l.drop off).take n).length=n:=by simp;simp only[FC.len]at hle;omega
  show bE _ _ _ _
  rw[hlen];exact(kN h1 hv hle).mono fun i u hi hu=>by
   have ψ:off+i<l.length:=by simp only[FC.len]at hle;omega
   have hg:((l.drop off).take n).getD i []=l[off+i]:=by simp[List.getD,hi,ψ]
   rw[hg];have hrow:=h3 _ u _ hu (AF ψ)
   have:=qS hrow (cL hrow) (by omega)
   simpa using this
theorem Zj{d d':FC}(h:cz 0 d.len d=some d'):d'=d:=by
 cases d<;>simp only[cz,FC.len,Bp,List.take_length,reduceCtorEq,AC]at h<;>exact h.symm
theorem HO{ob:Ob}{d:FC}(hd:fA ob=some d):ob.shp.len=d.slen:=by
 cases ob with
 |lst ver e d0=>obtain⟨rfl,_⟩:=qT hd;rfl
 |_=>cases hd<;>rfl
theorem qU(d:FC):d.slen<=d.len:=by
 cases d with
 |p3 k l=>exact Ad _
 |_=>exact AE _
theorem Pe{d d':FC}(ht:cz 0 d.len d=some d'):cz 0 d.len d=some d:=by
 rw[ht,Zj ht]
theorem o5{ob:Ob}{d:FC}(hd:fA ob=some d):ob.isFz=false:=by
 cases ob with
 |frz d0=>cases hd
 |_=>rfl
theorem Pf{E:Env}{w:World}{m:Img}{ob:Ob}(h:aR E w m ob){d:FC}(hd:fA ob=some d):cA m.hd 0 d.len m.hd:=by
 cases ob with
 |box cs=>cases hd
 |bx cs=>cases hd
 |strs e l=>cases hd
 |frz d=>cases hd
 |mp l=>cases hd
 |qu e k l=>cases hd
 |rowsH ver e ei k l hs=>cases hd
 |yd yv Y pre g=>cases hd
 |trk ver es d n=>cases hd
 |ints e k l=>cases hd;exact cL h.2
 |bools e l=>cases hd;exact cL h.2
 |rows ver e ei k l=>cases hd;exact cL h.1
 |lst ver e d0 =>
  obtain⟨rfl,_⟩:=qT hd;obtain⟨_,vs,h1,_⟩:=h;exact cL h1
 |tr ver es d0 =>
  cases hd;obtain⟨nd,rfl,h2⟩:=h;obtain⟨e,xs,h1⟩:=h2.row;exact cL h1
theorem Zk{E:Env}{w:World}(hk:bJ E.wF w){m:Img}{ob:Ob}(h:aR E w m ob){d:FC}(hd:fA ob=some d):bp w m.hd d:=by
 have hv:=Pf h hd
 cases ht:cz 0 d.len d with
 |some d'=>exact xa hk h hd hv (by omega) (Pe ht)
 |none =>
  exfalso
  cases ob with
  |lst ver e d0 =>
   obtain⟨rfl,hs⟩:=qT hd;cases d<;>first|cases hs;done|(simp[cz]at ht;done)
  |tr ver es d0 =>
   cases hd;obtain⟨nd,rfl,h1⟩:=h;rw[HM h1.kind]at ht;cases ht
  |_=>cases hd<;>simp[cz]at ht
def nh(w wF:World)(B:List Nat):World:={ w with heap:=(Array.range w.heap.size).map fun b=>if b∈B then w.heap.getD b (.map #[] 0)else wF.heap.getD b (.map #[] 0) }
theorem Pg{w wF:World}{B:List Nat}{b:Nat}(h:b∈B):(nh w wF B).heap[b]?=w.heap[b]?:=by
 simp only[nh,DI];by_cases hb:b<w.heap.size
 ·rw[DJ,AA hb]
  simp[h,Array.getD,hb]
 ·rw[DJ,AB hb,BD (by omega)];rfl
theorem Ph{w wF:World}{B:List Nat}{p:Addr}(h:p.block ∉ B)(ψ:p.block<w.heap.size):(nh w wF B).cell? p=wF.cell? p:=by
 have e:(nh w wF B).heap[p.block]?=some (wF.heap.getD p.block (.map #[] 0)):=by
  simp only[nh,DI];rw[DJ,AA ψ];simp[h]
 by_cases hb:p.block<wF.heap.size
 ·refine World.cell?_of_block ?_
  rw[e];simp[Array.getD,hb]
 ·have e2:wF.heap[p.block]?=none:=BD (by omega)
  simp only[World.cell?,e,e2];simp[Array.getD,hb]
def Cv(ob ob':Ob):Prop:=(∃d,gk ob=some d/\ob'=.frz d)\/∃v e ei k l,ob=.rows v e ei k l/\ob'=.lst (v+1) e (.rows k l)
theorem Zl{ob:Ob}{d:FC}(h:gk ob=some d):ob=.frz d\/(fA ob=some d/\∃d',cz 0 d.len d=some d'):=by
 unfold gk at h;split at h
 ·cases h;exact .inl rfl
 ·split at h
  ·split at h
   ·cases h;exact .inr ⟨by assumption,_,by assumption⟩
   ·cases h
  ·cases h
section
variable {C:Cx} {σ:State} {mu:Nat->Img} {a:Act} {w:World}
theorem lV{x:Nat×Option Ob}{hp:List (Nat×Option Ob)}{fr:List (Nat×SV)}(o:Nat):(State.mk fr (x::hp)).H o=if x.1=o then some x.2 else lk hp o:=by
 obtain⟨k,v⟩:=x;simp only[State.H];rw[bt]
theorem St.cv1(h:St C σ mu a w){o:Nat}{ob ob':Ob}(ho:σ.H o=some (some ob))(hc:Cv ob ob') :
  ∃wG mu',GrowF C wG/\St (C.fz wG) ⟨σ.fr,(o,some ob')::σ.hp⟩ mu' a w/\(∀x,x≠o->mu' x=mu x)/\b7 (σ.env C.wF mu) ((State.mk σ.fr ((o,some ob')::σ.hp)).env wG mu'):=by
 have hH:∀x,(State.mk σ.fr ((o,some ob')::σ.hp)).H x=if o=x then some (some ob')else σ.H x:=fun x=>lV x
 have ψ:=(h.ob o ob ho).block
 have hsame:ob'=ob->∃wG mu',GrowF C wG/\St (C.fz wG) ⟨σ.fr,(o,some ob')::σ.hp⟩ mu' a w/\(∀x,x≠o->mu' x=mu x)/\b7 (σ.env C.wF mu) ((State.mk σ.fr ((o,some ob')::σ.hp)).env wG mu'):=fun he=>by
  subst he;have e:∀x,(State.mk σ.fr ((o,some ob')::σ.hp)).H x=σ.H x:=fun x=>by
   rw[hH];split
   ·rename_i hx;subst hx;exact ho.symm
   ·rfl
  have est:(State.mk σ.fr ((o,some ob')::σ.hp)).ost=σ.ost:=funext fun x=>by simp only[State.ost,e]
  refine⟨C.wF,mu,.refl C,h.upd (fun _=>False) (.refl _) rfl rfl (AE _) (fun _ hs=>hs.elim) (fun _ _ _=>rfl) (fun x=>by rw[est];exact dL.refl _ _) (fun x ob2 hx=>by rw[e]at hx;exact .inl ⟨hx,rfl,fun _ _ hs=>hs⟩) h.sz rfl (fun t sv ht=>.inl ⟨ht,rfl⟩),fun _ _=>rfl,fun _ _ h=>h,fun x=>by
   show dQ C.wF (σ.ost x) ((State.mk σ.fr ((o,some ob')::σ.hp)).ost x) (mu x) (mu x)
   rw[est];exact dQ.refl _ _ _⟩
 have key:∀(B:List Nat) (m:Img),(∀b∈B,b∈(mu o).blocks)->(∀b∈m.blocks,b∈(mu o).blocks/\b ∉ B)->m.blocks.Nodup ->
   (∀wG,bJ C.wF wG->(∀b∈B,wG.heap[b]?=w.heap[b]?)->dQ wG (σ.ost o) (dX ob') (mu o) m/\aR (σ.env wG mu) w m ob')->(∀E E':Env,E.wF=E'.wF->aR E w m ob'->aR E' w m ob') ->
   ∃wG mu',GrowF C wG/\St (C.fz wG) ⟨σ.fr,(o,some ob')::σ.hp⟩ mu' a w/\(∀x,x≠o->mu' x=mu x)/\b7 (σ.env C.wF mu) ((State.mk σ.fr ((o,some ob')::σ.hp)).env wG mu'):=fun B m hB hm hnd χ henv=>by
  let wG:=nh w C.wF B
  have hcell:∀p u,C.wF.cell? p=some u->p.block ∉ B/\p.block<w.heap.size:=fun p u hp=>by
   obtain⟨h1,h2⟩:=h.cells p u hp;exact⟨fun hb=>h1 o ob ho (hB _ hb),cell_lt' h2⟩
  have hG:bJ C.wF wG:=fun p u hp=>by
   obtain⟨h1,h2⟩:=hcell p u hp;exact(Ph h1 h2).trans hp
  have hG2:∀p u,wG.cell? p=some u->C.wF.cell? p=some u\/(p.block∈B/\w.cell? p=some u):=fun p u hp=>by
   by_cases hb:p.block∈B
   ·exact .inr ⟨hb,(World.cell?_of_block (Pg hb)).symm.trans hp⟩
   ·have hlt2:p.block<w.heap.size:=by
     have:=cell_lt' hp
     simpa[wG,nh]using this
    exact .inl ((Ph hb hlt2).symm.trans hp)
  obtain⟨r1,r2⟩:=χ wG hG fun b hb=>Pg hb
  have hle:∀x,dQ wG (σ.ost x) ((State.mk σ.fr ((o,some ob')::σ.hp)).ost x) (mu x) (if x=o then m else mu x):=fun x=>by
   by_cases hxo:x=o
   ·subst hxo
    simp only[State.ost,hH,AV];exact r1
   ·have:(State.mk σ.fr ((o,some ob')::σ.hp)).ost x=σ.ost x:=by simp only[State.ost,hH,AB (AO hxo)]
    rw[this];simp only[hxo,Ag];exact dQ.refl _ _ _
  refine⟨wG,fun x=>if x=o then m else mu x,⟨hG,fun p u hp=>(hG2 p u hp).imp id fun⟨hb,_⟩=>((h.nd o ob ho).2 _ (hB _ hb)).symm⟩,?_,fun x hx=>by simp[hx],hG,hle⟩
  have hno:∀x ob2,x≠o->σ.H x=some (some ob2)->∀b∈(mu x).blocks,b ∉ m.blocks:=fun x ob2 hxo hx b hb hc=>h.sep x o ob2 ob hxo hx ho b hb (hm b hc).1
  have hG3:∀b∈B,∀x ob2,(State.mk σ.fr ((o,some ob')::σ.hp)).H x=some (some ob2)->b ∉ (if x=o then m else mu x).blocks:=fun b hb x ob2 hx=>by
   rw[hH]at hx;by_cases hxo:x=o
   ·simp only[hxo,AV]
    exact fun hc=>(hm _ hc).2 hb
   ·rw[AB (AO hxo)]at hx
    simp only[hxo,Ag];exact h.sep o x ob ob2 (AO hxo) ho hx _ (hB _ hb)
  refine h.updG (fun b=>b∈m.blocks) (.refl _) rfl rfl (AE _) (fun b hb=>⟨o,ob,ho,(hm b hb).1⟩) (fun _ _ _=>rfl) hG (fun p u hp=>(hG2 p u hp).imp id fun q=>⟨q.2,hG3 _ q.1⟩) hle (fun x ob2 hx=>?_) h.sz rfl (fun t sv ht=>.inl ⟨ht,rfl⟩)
  ·rw[hH]at hx
   by_cases hxo:x=o
   ·subst hxo
    rw[AA rfl]at hx;cases hx;simp only[AV];refine .inr ⟨henv (σ.env wG mu) _ rfl r2,hnd,fun b hb=>.inl hb,fun x' ob3 hne hx'=>?_⟩
    rw[hH,AB hne]at hx';simp only[AO hne,Ag];exact .inl ⟨hx',trivial,hno x' ob3 (AO hne) hx'⟩
   ·rw[AB (AO hxo)]at hx
    simp only[hxo,Ag];exact .inl ⟨hx,trivial,hno x ob2 hxo hx⟩
 have hE:∀{wG},bJ C.wF wG->b7 (σ.env C.wF mu) (σ.env wG mu):=fun {wG} hG=>⟨hG,fun _=>dQ.refl _ _ _⟩
 rcases hc with⟨d,h1,rfl⟩|⟨v,e,ei,k,l,rfl,rfl⟩
 ·rcases Zl h1 with rfl|⟨h2,d',h3⟩
  ·exact hsame rfl
  ·refine key (mu o).blocks ⟨.slice none 0 0,[]⟩ (fun b hb=>hb) (fun b hb=>by simp[Img.blocks,ac]at hb) (by simp[Img.blocks,ac]) (fun wG hG hk=>⟨.inr ⟨ob.shp,d,cr ho (o5 h2),rfl,HO h2,?_,_,h3⟩,by simp[aR,Img.blocks,ac]⟩) (fun _ _ _ h=>h)
   have hr:=(h.ob o ob ho).keep (hE hG) hk
   have h4:=Pf hr h2
   have hrd:=xa (E:=σ.env wG mu) (fun _ _ h=>h) hr h2 h4 (by omega) (Pe h3)
   refine⟨?_,hrd⟩
   rcases h4 with⟨_,e,_,_⟩|⟨g,len,cap,ao,_,e,_,hc2,_⟩
   ·exact⟨_,_,_,e,AE _⟩
   ·exact⟨_,_,_,e,hc2⟩
 ·have hnd:=(h.nd o _ ho).1
  obtain⟨n1,n2⟩:((mu o).ins.filterMap ac).Nodup/\∀b,ac (mu o).hd=some b->b ∉ (mu o).ins.filterMap ac:=by
   unfold Img.blocks at hnd;rw[Ak]at hnd;exact⟨hnd.2.1,fun b hb hc=>hnd.2.2 b (by simp[hb]) b hc rfl⟩
  refine key ((mu o).ins.filterMap ac) ⟨(mu o).hd,[]⟩ (fun b hb=>by simp only[Img.blocks,AL];exact .inr hb) (fun b hb=>?_) ?_ (fun wG hG hk=>⟨.inl ?_,?_⟩) (fun E E' he h=>?_)
  ·simp only[Img.blocks,Ax,Af,BK]at hb
   exact⟨cD hb,n2 b hb⟩
  ·simp only[Img.blocks,Ax,Af]
   cases ac (mu o).hd<;>simp
  ·rw[cr ho]
   refine⟨rfl,rfl,BC _,fun hv=>?_⟩
   simp[Ob.shp]at hv
  ·obtain⟨q1,q2,q3⟩:=h.ob o _ ho
   refine⟨rfl,(mu o).ins,q1,fun i u hi=>?_⟩
   have hlt2:i<l.length:=by rw[<-q2];exact(AJ.1 hi).1
   have hrow:=q3 i u _ hi (AF hlt2)
   have hrow2:wG.ownsRow 0 ei 1 u l[i].length (l[i].map (.int k)):=dY hrow fun b hb=>hk b (Ar.2 ⟨u,AI hi,hb⟩)
   refine⟨gq hrow,.ints k (l.getD i []),by simp[FC.elem,hlt2],?_⟩
   have hgd:l.getD i []=l[i]:=by simp[List.getD,hlt2]
   rw[hgd];have:=qS hrow2 (cL hrow2) (by omega)
   show g9 wG k u l[i]
   simpa using this
  ·obtain⟨q1,vs,q2,q3⟩:=h
   exact⟨q1,vs,q2,fun i u hi=>let⟨h4,fc,h5,h6⟩:=q3 i u hi;⟨h4,fc,h5,by rw[<-he];exact h6⟩⟩
theorem St.fzs(h:St C σ mu a w):∀(fs:List (Nat×Option Ob)),(∀o x,(o,x)∈fs->∃ob d,σ.H o=some (some ob)/\gk ob=some d/\x=some (.frz d)) ->
  ∃wG mu',GrowF C wG/\St (C.fz wG) ⟨σ.fr,fs++σ.hp⟩ mu' a w/\(∀o,(∀x,(o,x) ∉ fs)->mu' o=mu o)/\b7 (σ.env C.wF mu) ((State.mk σ.fr (fs++σ.hp)).env wG mu')
 | [],_=>⟨C.wF,mu,.refl C,h,fun _ _=>rfl,b7.refl _⟩
 |(o,x)::fs,hf=>by
  obtain⟨wG,mu1,g1,s1,k1,e1⟩:=St.fzs h fs fun o' x' hm=>hf o' x' (Ab _ hm)
  obtain⟨ob,d,q1,q2,rfl⟩:=hf o x (At ..);have hcur:∃ob1,(State.mk σ.fr (fs++σ.hp)).H o=some (some ob1)/\gk ob1=some d:=by
   simp only[State.H,gt];cases hx:lk fs o with
   |none=>exact⟨ob,q1,q2⟩
   |some y =>
    have hm:(o,y)∈fs:=by
     clear hf s1 k1 g1 e1
     induction fs with
     |nil=>simp[lk]at hx
     |cons z fs ih =>
      obtain⟨k,v⟩:=z;rw[bt]at hx;split at hx
      ·rename_i hk;subst hk;cases hx;exact At ..
      ·exact Ab _ (ih hx)
    obtain⟨ob',d',r1,r2,rfl⟩:=hf o y (Ab _ hm);rw[q1]at r1;cases r1;rw[q2]at r2;cases r2;exact⟨.frz d,rfl,rfl⟩
  obtain⟨ob1,c1,c2⟩:=hcur;obtain⟨wH,mu2,g2,s2,k2,e2⟩:=s1.cv1 c1 (.inl ⟨d,c2,rfl⟩);refine⟨wH,mu2,g1.trans g2,s2,fun o' hn=>?_,e1.trans e2⟩
  rw[k2 o' (fun hc=>hn (some (.frz d)) (by rw[hc];exact At ..))]
  exact k1 o' fun x hx=>hn x (Ab _ hx)
theorem ay.eqv{C:Cx}{σ σ':State}(hF:∀t,σ'.F t=σ.F t)(hH:∀o,σ'.H o=σ.H o){a:Act}{w:World}(hs:ay C σ a w):ay C σ' a w:=by
 have hst:σ'.ost=σ.ost:=funext fun o=>by simp[State.ost,hH]
 obtain⟨wG,mu,hg,q⟩:=hs;have henv:∀wF,σ'.env wF mu=σ.env wF mu:=fun wF=>by simp[State.env,hst]
 exact⟨wG,mu,hg,q.os,q.tape,q.output,q.size,q.block,fun p u hp=>⟨fun o ob ho=>(q.cells p u hp).1 o ob (by rw[<-hH];exact ho),(q.cells p u hp).2⟩,q.sz,q.df.sub (fun o ob ho=>⟨o,ob,by rw[<-hH];exact ho,fun _ h=>h⟩),fun t sv ht=>by rw[henv];exact q.fr t sv (by rw[<-hF];exact ht),fun o ob ho=>by rw[henv];exact q.ob o ob (by rw[<-hH];exact ho),
  fun o ob ho=>q.nd o ob (by rw[<-hH];exact ho),fun o o' ob ob' hne ho ho'=>q.sep o o' ob ob' hne (by rw[<-hH];exact ho) (by rw[<-hH];exact ho'),fun o m hp=>by rw[hst];exact q.pins o m hp⟩
end
end Go.Sx
