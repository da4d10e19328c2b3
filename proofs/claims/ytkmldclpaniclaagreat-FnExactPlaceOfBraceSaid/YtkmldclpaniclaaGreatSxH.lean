/- SxG SxH -/
import Derived.Test.YtkmldclpaniclaaGreatSxF
set_option linter.unusedSimpArgs false
set_option linter.unusedVariables false
section
namespace Go.Sx
open Go.RowKit
def OV(ov:Option Value)(oi:Option Int):Prop :=
 match oi with
 |none=>ov=none
 |some n=>∃k,ov=some (.int k n)
def bE:Option Int->Nat
 |none=>0
 |some l=>l.toNat
def cY(L:Nat):Option Int->Nat
 |none=>L
 |some h=>h.toNat
theorem nN{L:Nat}{l h:Option Int}(hb:ar L l h):bE l<=cY L h/\cY L h<=L:=by
 cases l<;>cases h<;>simp only[ar,bE,cY]at *<;>omega
theorem nO{α:Type}{r:List α}{l h:Option Int}(hb:ar r.length l h):(dr r l h).length=cY r.length h-bE l:=by
 cases l<;>cases h<;>simp only[ar,bE,cY,dr]at *<;>simp<;>omega
theorem JJ{α:Type}{r:List α}{l h:Option Int}(hb:ar r.length l h){j:Nat}(hj:j<cY r.length h-bE l):(dr r l h)[j]?=r[bE l+j]?:=by
 cases l<;>cases h<;>simp only[ar,bE,cY,dr]at *
 ·simp
 ·simp[List.getElem?_take];intro;omega
 ·simp[List.getElem?_drop]
 ·simp only[List.getElem?_drop,List.getElem?_take]
  rw[if_pos (by omega)]
section
variable {C:Cx} {σ:State} {mu:Nat->Img} {a:Act} {w:World}
theorem nP{α:Type}{x:Option Operand}{k:Option Int->Rd α}{r:α}(hr:(kz x k).run σ=some r)(h:St C σ mu a w) :
  ∃oi,(k oi).run σ=some r/\OV (x.map a.eval) oi:=by
 cases x with
 |none=>exact⟨none,hr,rfl⟩
 |some y =>
  simp only[kz]at hr;obtain⟨c,h1,h2⟩:=cG hr h;cases c with
  |int kd n=>exact⟨some n,h1,kd,by simp only[aj]at h2;simp[h2]⟩
  |_=>simp[Rd.run]at h1
theorem nQ{t e:TypeId}(he:bL C.P t=some e)(hs:cp C.P e=some 1){x:Option Addr}{len cap:Nat}{lo hi:Option Value}{l h:Option Int}
  (hl:OV lo l) (hh:OV hi h) (hb:ar len l h) (hlc:len<=cap) :
  (Instr.sliceAt t (.slice x len cap) lo hi none).run C.P w=.ok (.slice (if cap=bE l then x else x.map (·.add (bE l))) (cY len h-bE l) (cap-bE l)) w:=by
 have hu:=run_underlying (fP he)
 have hsz:=fO hs
 cases l with
 |none =>
  simp only[OV]at hl;subst hl;cases h with
  |none =>
   simp only[OV]at hh;subst hh;simp[Instr.sliceAt,Instr.slice,Instr.sliceBounds,hu,hsz,bE,cY]
   rfl
  |some h =>
   obtain⟨k,rfl⟩:=hh;simp only[ar]at hb;have h2:h<=(cap:Int):=by omega
   simp[Instr.sliceAt,Instr.slice,Instr.sliceBounds,Instr.sliceBound,asIntOf,hu,hsz,bE,cY,hb.1,h2]
   rfl
 |some l =>
  obtain⟨k,rfl⟩:=hl;cases h with
  |none =>
   simp only[OV]at hh;subst hh;simp only[ar]at hb;simp[Instr.sliceAt,Instr.slice,Instr.sliceBounds,Instr.sliceBound,asIntOf,hu,hsz,bE,cY,hb.1,hb.2]
   rfl
  |some h =>
   obtain⟨k',rfl⟩:=hh;simp only[ar]at hb;have h1:0<=h:=by omega
   have h2:h<=(cap:Int):=by omega
   have h3:l<=max h 0:=by omega
   simp[Instr.sliceAt,Instr.slice,Instr.sliceBounds,Instr.sliceBound,asIntOf,hu,hsz,bE,cY,hb.1,h1,h2,h3]
   rfl
theorem Cs{t e:TypeId}(he:bL C.P t=some e)(hs:cp C.P e=some 1){hd v:Value}{off n:Nat}(hv:b7 hd off n v){lo hi:Option Value}{l h:Option Int}
  (hl:OV lo l) (hh:OV hi h) (hb:ar n l h) :
  ∃v',(Instr.sliceAt t v lo hi none).run C.P w=.ok v' w/\b7 hd (off+bE l) (cY n h-bE l) v':=by
 obtain⟨h1,h2⟩:=nN hb;rcases hv with⟨rfl,rfl,rfl,rfl⟩|⟨g,len,cap,ao,rfl,rfl,hc1,hc2,hao⟩
 ·refine⟨_,nQ he hs hl hh hb (Nat.le_refl _),.inl ⟨rfl,?_,by omega,by omega⟩⟩
  have e1:bE l=0:=by omega
  have e2:cY 0 h=0:=by omega
  simp[e1,e2]
 ·refine⟨_,nQ he hs hl hh hb hc2,.inr ⟨g,len,cap,if cap-off=bE l then ao else ao.add (bE l),rfl,?_,by omega,by omega,fun hor=>?_⟩⟩
  ·have e1:cap-(off+bE l)=cap-off-bE l:=by omega
   rw[e1];by_cases hq:cap-off=bE l<;>simp[hq]
  ·by_cases hq:cap-off=bE l
   ·rw[if_pos hq]
    have:off=0/\bE l=0:=by rcases hor with h3|h3<;>omega
    rw[this.1,this.2];exact hao (.inl this.1) |>.trans (by rw[this.1])
   ·rw[if_neg hq,hao (.inr (by omega)),Addr.add_lit]
theorem pu{t e:TypeId}(he:bL C.P t=some e)(hs:cp C.P e=some 1){wF:World}{v:Value}{n:Nat}{R:Nat->Value->Prop}(hv:bw wF v n R){lo hi:Option Value}{l h:Option Int}
  (hl:OV lo l) (hh:OV hi h) (hb:ar n l h) :
  ∃v',(Instr.sliceAt t v lo hi none).run C.P w=.ok v' w/\bw wF v' (cY n h-bE l) fun j u=>R (bE l+j) u:=by
 obtain⟨h1,h2⟩:=nN hb;obtain⟨x,c,rfl,hc,hk⟩:=hv;refine⟨_,nQ he hs hl hh hb hc,_,_,rfl,by omega,fun h0=>?_⟩
 obtain⟨b,off,rfl,hk2⟩:=hk (by omega)
 refine⟨b,off+bE l,?_,fun i hi=>?_⟩
 ·rw[if_neg (by omega)];simp[Addr.add_lit]
 ·obtain⟨u,h3,h4⟩:=hk2 (bE l+i) (by omega)
  exact⟨u,by rw[Nat.add_assoc];exact h3,h4⟩
theorem bw.mono{w:World}{v:Value}{n:Nat}{R R':Nat->Value->Prop}(h:bw w v n R)(hR:∀i u,i<n->R i u->R' i u):bw w v n R':=h.below hR
theorem pv{α:Type}{r:List α}{l h:Option Int}(hb:ar r.length l h){j:Nat}(hj:j<cY r.length h-bE l)(z:α):(dr r l h).getD j z=r.getD (bE l+j) z:=by
 simp[List.getD,JJ hb hj]
theorem Ct{hd v:Value}{off n:Nat}(h:b7 hd off n v):v.oneCell'=true:=by
 obtain⟨x,c,rfl⟩:=jc h;rfl
theorem Tp{t:TypeId}{cx:SC}{lo hi:Option Operand}{vx:Value}{eff:Eff}(hr:(pf C.P t cx lo hi).run σ=some eff)(hob:eff.obl)
  (hx:aj (σ.env C.wF mu) cx vx) (h:St C σ mu a w) :
  eff.hp=[]/\∃v,(Instr.sliceAt t vx (lo.map a.eval) (hi.map a.eval) none).run C.P w=.ok v w/\av C.P (σ.env C.wF mu) eff.val v:=by
 unfold pf at hr;split at hr
 ·rename_i r
  simp only[aj]at hx;subst hx;split at hr
  ·rename_i hu
   obtain⟨l,hr,hl⟩:=nP hr h;obtain⟨hh,hr,hhi⟩:=nP hr h;simp only[Rd.run,Option.some.injEq]at hr;subst hr;have hsz:(⟨r.toArray⟩:ByteArray).size=r.length:=by simp[ByteArray.size]
   have hb:ar r.length l hh:=hob
   have hex:(⟨r.toArray⟩:ByteArray).extract (bE l) (cY r.length hh)=⟨(dr r l hh).toArray⟩:=by
    apply ByteArray.ext
    apply Array.ext'
    simp only[ByteArray.data_extract,Array.toList_extract];obtain⟨h1,h2⟩:=nN hb;apply List.ext_getElem?
    intro j
    by_cases hj:j<cY r.length hh-bE l
    ·rw[JJ hb hj]
     simp[List.extract,List.getElem?_drop,hj]
    ·rw[List.getElem?_eq_none (l:=dr r l hh) (by rw[nO hb];omega)]
     simp[List.extract]
     omega
   refine⟨rfl,.string ⟨(dr r l hh).toArray⟩,?_,rfl⟩
   rw[<-hex];generalize lo.map a.eval=lo' at hl
   generalize hi.map a.eval=hi' at hhi
   cases l with
   |none =>
    simp only[OV]at hl;subst hl;cases hh with
    |none=>simp only[OV]at hhi;subst hhi;simp only[bE,cY,dr]at hex;simp[Instr.sliceAt,Instr.slice,Instr.sliceBounds,run_underlying hu,bE,cY,hex]
    |some hh =>
     obtain⟨k,rfl⟩:=hhi;simp only[ar]at hb;simp[Instr.sliceAt,Instr.slice,Instr.sliceBounds,Instr.sliceBound,asIntOf,run_underlying hu,bE,cY,hsz,hb.1,hb.2]
   |some l =>
    obtain⟨k,rfl⟩:=hl;cases hh with
    |none =>
     simp only[OV]at hhi;subst hhi;simp only[ar]at hb;simp[Instr.sliceAt,Instr.slice,Instr.sliceBounds,Instr.sliceBound,asIntOf,run_underlying hu,bE,cY,hsz,hb.1,hb.2]
    |some hh =>
     obtain⟨k',rfl⟩:=hhi;simp only[ar]at hb;have h1:0<=hh:=by omega
     have h3:l<=max hh 0:=by omega
     simp[Instr.sliceAt,Instr.slice,Instr.sliceBounds,Instr.sliceBound,asIntOf,run_underlying hu,bE,cY,hsz,hb.1,hb.2.2,h1,h3]
  ·simp[Rd.run]at hr
 ·split at hr
  ·simp[Rd.run]at hr
  ·rename_i e he
   split at hr
   ·rename_i hs
    obtain⟨l,hr,hl⟩:=nP hr h;obtain⟨hh,hr,hhi⟩:=nP hr h;cases cx with
    |own o =>
     obtain⟨ob,ho,hr⟩:=aX hr;have hnf:ob.isFz=false:=by cases ob<;>first|rfl|simp[Rd.run]at hr
     have hv':vx=(mu o).hd:=aN ho hx
     subst hv';have key:∀L,ob.len?=some L->eff=⟨.c (kA o L l hh),[],some (ar L l hh)⟩ ->
       eff.hp=[]/\∃v,(Instr.sliceAt t (mu o).hd (lo.map a.eval) (hi.map a.eval) none).run C.P w=.ok v w/\av C.P (σ.env C.wF mu) eff.val v:=fun L hL heff=>by
      subst heff;obtain⟨h1,h2⟩:=po hL (h.ob o ob ho);obtain⟨v',h3,h4⟩:=Cs (w:=w) he hs h1 hl hhi hob;obtain⟨b1,b2⟩:=nN (show ar L l hh from hob)
      refine⟨rfl,v',h3,?_⟩
      cases l<;>cases hh<;>simp only[kA,bE,cY,Nat.zero_add,Nat.sub_zero]at h4 b1 b2⊢<;>refine dV ho (Ct h4) ⟨by omega,h4⟩
     cases ob with
     |box cs=>simp[Rd.run]at hr
     |bx cs=>simp[Rd.run]at hr
     |strs e l=>simp[Rd.run]at hr
     |ints e k l=>simp only[Rd.run,Option.some.injEq]at hr;exact key _ rfl hr.symm
     |bools e l=>simp only[Rd.run,Option.some.injEq]at hr;exact key _ rfl hr.symm
     |rows ver e ei k l=>simp only[Rd.run,Option.some.injEq]at hr;exact key _ rfl hr.symm
     |lst ver e d =>
      obtain⟨e1,hr⟩:=kF hr;simp only[Rd.run,Option.some.injEq]at hr;exact key _ (by simp only[Ob.len?,e1]) hr.symm
     |frz d=>simp[Rd.run]at hr
     |mp l=>simp[Rd.run]at hr
     |qu e k l=>simp[Rd.run]at hr
     |rowsH ver e ei k l hs=>simp[Rd.run]at hr
     |yd yv Y pre g=>simp[Rd.run]at hr
     |tr ver es d=>simp[Rd.run]at hr
     |trk ver es d n=>simp[Rd.run]at hr
    |pre o L =>
     obtain⟨ob,ho,hr⟩:=aX hr;obtain⟨hnf,hr⟩:=lV hr;simp only[Rd.run,Option.some.injEq]at hr;subst hr;obtain⟨h2,h1⟩:=aN ho hx;obtain⟨v',h3,h4⟩:=Cs (w:=w) he hs h1 hl hhi hob;obtain⟨b1,b2⟩:=nN (show ar L l hh from hob)
     refine⟨rfl,v',h3,?_⟩
     cases l<;>cases hh<;>simp only[kA,bE,cY,Nat.zero_add,Nat.sub_zero]at h4 b1 b2⊢<;>refine dV ho (Ct h4) ⟨by omega,h4⟩
    |sub o off L =>
     obtain⟨ob,ho,hr⟩:=aX hr;obtain⟨hnf,hr⟩:=lV hr;simp only[Rd.run,Option.some.injEq]at hr;subst hr;obtain⟨h2,h1⟩:=aN ho hx;obtain⟨v',h3,h4⟩:=Cs (w:=w) he hs h1 hl hhi hob;obtain⟨b1,b2⟩:=nN (show ar L l hh from hob)
     refine⟨rfl,v',h3,?_⟩
     cases l<;>cases hh<;>simp only[Jp,bE,cY,Nat.add_zero,Nat.sub_zero]at h4 b1 b2⊢<;>refine dV ho (Ct h4) ⟨by omega,h4⟩
    |ro d =>
     obtain⟨_,hx⟩:=hx;cases d with
     |ints k r =>
      simp only[Rd.run,Option.some.injEq]at hr;subst hr;obtain⟨v',h3,h4⟩:=pu (w:=w) he hs hx hl hhi hob;have hq:bp C.wF v' (.ints k (dr r l hh)):=by
       show bw _ _ _ _
       rw[nO hob];exact h4.mono fun i u hi hu=>by rw[hu,pv hob hi]
      exact⟨rfl,v',h3,hq.slice,hq⟩
     |bools r =>
      simp only[Rd.run,Option.some.injEq]at hr;subst hr;obtain⟨v',h3,h4⟩:=pu (w:=w) he hs hx hl hhi hob;have hq:bp C.wF v' (.bools (dr r l hh)):=by
       show bw _ _ _ _
       rw[nO hob];exact h4.mono fun i u hi hu=>by rw[hu,pv hob hi]
      exact⟨rfl,v',h3,hq.slice,hq⟩
     |rows k r =>
      simp only[Rd.run,Option.some.injEq]at hr;subst hr;obtain⟨v',h3,h4⟩:=pu (w:=w) he hs hx hl hhi hob;have hq:bp C.wF v' (.rows k (dr r l hh)):=by
       show bw _ _ _ _
       rw[nO hob];exact h4.mono fun i u hi hu=>by rw[pv hob hi];exact hu
      exact⟨rfl,v',h3,hq.slice,hq⟩
     |r3 k r =>
      simp only[Rd.run,Option.some.injEq]at hr;subst hr;obtain⟨v',h3,h4⟩:=pu (w:=w) he hs hx hl hhi hob;have hq:bp C.wF v' (.r3 k (dr r l hh)):=by
       show bw _ _ _ _
       rw[nO hob];exact h4.mono fun i u hi hu=>by rw[pv hob hi];exact hu
      exact⟨rfl,v',h3,hq.slice,hq⟩
     |r4 k r =>
      simp only[Rd.run,Option.some.injEq]at hr;subst hr;obtain⟨v',h3,h4⟩:=pu (w:=w) he hs hx hl hhi hob;have hq:bp C.wF v' (.r4 k (dr r l hh)):=by
       show bw _ _ _ _
       rw[nO hob];exact h4.mono fun i u hi hu=>by rw[pv hob hi];exact hu
      exact⟨rfl,v',h3,hq.slice,hq⟩
     |_=>simp[Rd.run]at hr
    |_=>simp[Rd.run]at hr
   ·simp[Rd.run]at hr
end
end Go.Sx
end
section
namespace Go.Sx
open Go.RowKit
theorem fR{α:Type}(l l':List (Nat×α))(t:Nat):lk (l++l') t=match lk l t with|some x=>some x|none=>lk l' t:=by
 induction l with
 |nil=>simp[lk]
 |cons p l ih =>
  obtain⟨k,v⟩:=p;rw[List.cons_append,bo,bo];by_cases h:k=t<;>simp[h,ih]
section
variable {C:Cx} {σ:State} {mu mu':Nat->Img} {a:Act} {w w':World}
theorem jd{dst:Option Nat}{e:Eff}{o:Nat}:(σ.app dst e).H o=match lk e.hp o with|some x=>some x|none=>σ.H o:=by
 simp only[State.app,State.H,fR];cases lk e.hp o<;>rfl
def iG(σ:State)(mu:Nat->Img)(e:Eff)(b:Nat):Prop:=∃o x ob,lk e.hp o=some x/\σ.H o=some (some ob)/\b∈(mu o).blocks
def lZ:Option Ob->OSt
 |none=>.dead
 |some ob=>dJ ob
theorem Tq{dst:Option Nat}{e:Eff}{wG:World}(hmu:∀o,lk e.hp o=none->mu' o=mu o)
  (hole:∀o x,lk e.hp o=some x->dE wG (σ.ost o) (lZ x) (mu o) (mu' o)) (o:Nat):dE wG (σ.ost o) ((σ.app dst e).ost o) (mu o) (mu' o):=by
 cases hx:lk e.hp o with
 |none =>
  have:(σ.app dst e).ost o=σ.ost o:=by simp[State.ost,jd,hx]
  rw[this,hmu o hx];exact dE.refl _ _ _
 |some x =>
  have:(σ.app dst e).ost o=lZ x:=by cases x<;>simp[State.ost,jd,hx,lZ]
  rw[this];exact hole o x hx
theorem St.upsG(h:St C σ mu a w){dst:Option Nat}(hd:∀d,dst=some d->d<C.N){e:Eff}{v:Value}{wG:World}
  (hos:OsD w w') (htape:w'.tape=w.tape) (hout:w'.output=w.output) (hsize:w.heap.size<=w'.heap.size)
  (hkeep:∀b,b<w.heap.size->¬ iG σ mu e b->w'.heap[b]?=w.heap[b]?)
  (hG:bC C.wF wG) (hG2:∀p u,wG.cell? p=some u->C.wF.cell? p=some u\/(w'.cell? p=some u/\(∀o ob,lk e.hp o=none->σ.H o=some (some ob)->p.block ∉ (mu o).blocks)/\∀o ob,lk e.hp o=some (some ob)->p.block ∉ (mu' o).blocks))
  (hmu:∀o,lk e.hp o=none->mu' o=mu o)
  (hole:∀o x,lk e.hp o=some x->dE wG (σ.ost o) (lZ x) (mu o) (mu' o))
  (hnew:∀o ob,lk e.hp o=some (some ob)->aS (σ.env wG mu) w' (mu' o) ob/\(mu' o).blocks.Nodup/\∀b∈(mu' o).blocks,iG σ mu e b\/w.heap.size<=b)
  (hsep:∀o o' ob ob',o≠o'->lk e.hp o=some (some ob)->lk e.hp o'=some (some ob')->∀b∈(mu' o).blocks,b ∉ (mu' o').blocks)
  (hval:bS (σ.env C.wF mu) ((σ.app dst e).env wG mu')->av C.P ((σ.app dst e).env wG mu') e.val v):St (C.fz wG) (σ.app dst e) mu' (a.put dst v) w':=by
 have hle:=Tq (dst:=dst) hmu hole
 have hE:bS (σ.env C.wF mu) ((σ.app dst e).env wG mu'):=⟨hG,hle⟩
 have hE2:bS (σ.env wG mu) ((σ.app dst e).env wG mu'):=⟨fun _ _ h=>h,hle⟩
 have hlive:∀o ob,(σ.app dst e).H o=some (some ob)->(lk e.hp o=none/\σ.H o=some (some ob))\/lk e.hp o=some (some ob):=fun o ob ho=>by
  rw[jd]at ho;cases hx:lk e.hp o with
  |none=>rw[hx]at ho;exact .inl ⟨rfl,ho⟩
  |some x=>rw[hx]at ho;exact .inr ho
 have hG3:∀p u,wG.cell? p=some u->C.wF.cell? p=some u\/(w'.cell? p=some u/\∀o ob,(σ.app dst e).H o=some (some ob)->p.block ∉ (mu' o).blocks):=fun p u hp=>by
  rcases hG2 p u hp with h1|⟨h1,h2,h3⟩
  ·exact .inl h1
  ·refine .inr ⟨h1,fun o ob ho=>?_⟩
   rcases hlive o ob ho with⟨h4,h5⟩|h4
   ·rw[hmu o h4];exact h2 o ob h4 h5
   ·exact h3 o ob h4
 refine h.updG (iG σ mu e) hos htape hout hsize ?_ hkeep hG hG3 hle (fun o ob ho=>?_) (by rw[uv];exact h.sz) (uw _ _ _) (ux h hd (hval hE))
 ·rintro b ⟨o,x,ob,_,h2,h3⟩
  exact⟨o,ob,h2,h3⟩
 ·have old:∀o' ob',lk e.hp o'=none->σ.H o'=some (some ob')->∀b∈(mu o').blocks,¬ iG σ mu e b:=by
   rintro o' ob' h1 h2 b hb ⟨o2,x,ob2,h3,h4,h5⟩
   have hne:o'≠o2:=fun hc=>by rw[hc,h3]at h1;cases h1
   exact h.sep o' o2 ob' ob2 hne h2 h4 b hb h5
  rcases hlive o ob ho with⟨hx,ho⟩|hx
  ·exact .inl ⟨ho,hmu o hx,old o ob hx ho⟩
  ·obtain⟨h1,h2,h3⟩:=hnew o ob hx
   refine .inr ⟨h1.keep hE2 (fun _ _=>rfl),h2,h3,fun o' ob' hne ho'=>?_⟩
   rcases hlive o' ob' ho' with⟨hx',ho'⟩|hx'
   ·exact .inl ⟨ho',hmu o' hx',old o' ob' hx' ho'⟩
   ·exact .inr (hsep o o' ob ob' hne hx hx')
theorem St.ups(h:St C σ mu a w){dst:Option Nat}(hd:∀d,dst=some d->d<C.N){e:Eff}{v:Value}
  (hos:OsD w w') (htape:w'.tape=w.tape) (hout:w'.output=w.output) (hsize:w.heap.size<=w'.heap.size)
  (hkeep:∀b,b<w.heap.size->¬ iG σ mu e b->w'.heap[b]?=w.heap[b]?)
  (hmu:∀o,lk e.hp o=none->mu' o=mu o)
  (hole:∀o x,lk e.hp o=some x->du (σ.ost o) (lZ x) (mu o) (mu' o))
  (hnew:∀o ob,lk e.hp o=some (some ob)->aS (σ.env C.wF mu) w' (mu' o) ob/\(mu' o).blocks.Nodup/\∀b∈(mu' o).blocks,iG σ mu e b\/w.heap.size<=b)
  (hsep:∀o o' ob ob',o≠o'->lk e.hp o=some (some ob)->lk e.hp o'=some (some ob')->∀b∈(mu' o).blocks,b ∉ (mu' o').blocks)
  (hval:bS (σ.env C.wF mu) ((σ.app dst e).env C.wF mu')->av C.P ((σ.app dst e).env C.wF mu') e.val v):St C (σ.app dst e) mu' (a.put dst v) w' :=
 h.upsG hd hos htape hout hsize hkeep (fun _ _ h=>h) (fun _ _ h=>.inl h) hmu (fun o x hx=>.inl (hole o x hx)) hnew hsep hval
theorem St.new(h:St C σ mu a w){dst:Option Nat}(hd:∀d,dst=some d->d<C.N){d:Nat}(Yj:σ.H d=none){val:SV}{p:Option Prop}{ob:Ob}{m:Img}{v:Value}
  (hg:GrB w w' none) (hrep:aS (σ.env C.wF mu) w' m ob) (hnd:m.blocks.Nodup) (hb:∀b∈m.blocks,w.heap.size<=b)
  (hval:av C.P ⟨C.wF,fun o=>if o=d then m else mu o,fun o=>if o=d then dJ ob else σ.ost o⟩ val v) :
  ax C (σ.app dst ⟨val,[(d,some ob)],p⟩) (a.put dst v) w':=by
 have hlk:∀o,lk [(d,some ob)] o=if d=o then some (some ob)else none:=fun o=>by rw[bo];simp[lk]
 refine St.ex (mu:=fun o=>if o=d then m else mu o) (h.ups hd hg.os hg.tape hg.output hg.size (fun b hb' _=>hg.block b hb' (by simp)) (fun o ho=>?_) (fun o x ho=>?_) (fun o ob' ho=>?_) (fun o o' ob1 ob2 hne ho ho'=>?_) (fun _=>?_))
 ·rw[hlk]at ho
  split at ho
  ·cases ho
  ·rename_i hne;simp[Ne.symm hne]
 ·rw[hlk]at ho
  split at ho
  ·rename_i hdo;subst hdo
   have:σ.ost d=.absent:=by simp[State.ost,Yj]
   rw[this];trivial
  ·cases ho
 ·rw[hlk]at ho
  split at ho
  ·rename_i hdo;subst hdo;cases ho
   simp only[if_true];exact⟨hrep,hnd,fun b hb'=>.inr (hb b hb')⟩
  ·cases ho
 ·rw[hlk]at ho ho'
  split at ho<;>split at ho'<;>first|cases ho;done|cases ho';done|(rename_i h1 h2;exact absurd (h1.symm.trans h2) hne)
 ·have:(σ.app dst ⟨val,[(d,some ob)],p⟩).env C.wF (fun o=>if o=d then m else mu o)=⟨C.wF,fun o=>if o=d then m else mu o,fun o=>if o=d then dJ ob else σ.ost o⟩:=by
   simp only[State.env,Env.mk.injEq,true_and]
   funext o
   simp only[State.ost,jd,hlk];by_cases hdo:d=o
   ·subst hdo;simp
   ·simp[hdo,Ne.symm hdo]
  rw[this];exact hval
theorem Ts{E:Env}{cs:List SC}{arr:Array Value}(h:cQ E cs arr)(t:TypeId):aS E (w.alloc (.cells arr t)) ⟨.pointer (some ⟨w.heap.size,0,none⟩),[]⟩ (.box cs) :=
 ⟨w.heap.size,arr,t,rfl,by simp,heap_alloc_new w _,h⟩
theorem St.newBox(h:St C σ mu a w){dst:Option Nat}(hd:∀d,dst=some d->d<C.N){d:Nat}(Yj:σ.H d=none){p:Option Prop}{cs:List SC}{arr:Array Value}(ty:TypeId)
  (hr:cQ (σ.env C.wF mu) cs arr) (hne:cs≠[]) :
  ax C (σ.app dst ⟨.c (.ptr d 0),[(d,some (.box cs))],p⟩) (a.put dst (.pointer (some ⟨w.heap.size,0,none⟩))) (w.alloc (.cells arr ty)):=by
 refine h.new hd Yj (fw w _ none) (Ts hr ty) (by simp[Img.blocks,ag]) (by simp[Img.blocks,ag]) ?_
 simp only[av,aj,bK,if_true,OSt.on,Ob.shp,dJ];exact⟨rfl,List.length_pos_iff.2 hne,w.heap.size,rfl,rfl⟩
theorem nR{P:Program}{t:TypeId}{cs:List SC}(h:gW P t=some cs)(w:World)(E:Env) :
  ∃z,(zeroValue t).run P w=.ok z w/\cQ E cs z.cells:=by
 unfold gW at h;split at h
 ·rename_i i hi
  split at h
  ·rename_i z hz
   obtain⟨h1,h2⟩:=jb h;refine⟨z,by simp[zeroValue,typeInfo,hi,hz],by simpa using h1.symm,fun j c hc=>?_⟩
   obtain⟨x,h3,h4⟩:=h2 j c hc;have:=Ck (E:=E) h4
   exact⟨x,by simpa using h3,this.2.1,this.1⟩
  ·cases h
 ·cases h
theorem Tt{d:Nat}{t:TypeId}{eff:Eff}(hr:(Bl C.P d t).run σ=some eff)(h:St C σ mu a w){dst:Option Nat}(hd:∀d,dst=some d->d<C.N) :
  ∃v w',(Instr.alloc t true (.tuple #[])).run C.P w=.ok v w'/\ax C (σ.app dst eff) (a.put dst v) w':=by
 unfold Bl at hr;split at hr
 ·rename_i cs hcs
  obtain⟨Yj,hr⟩:=bU hr;split at hr
  ·rename_i hne
   simp only[Rd.run,Option.some.injEq]at hr;subst hr;obtain⟨z,hz,hrep⟩:=nR hcs w (σ.env C.wF mu);refine⟨_,_,?_,h.newBox hd Yj t hrep (by intro hc;subst hc;simp at hne)⟩
   simp[Instr.alloc,hz,newVar,newRow]
  ·simp[Rd.run]at hr
 ·simp[Rd.run]at hr
theorem uC{E:Env}{c:SC}{v:Value}(hp:c.plain=true)(hc:aj E c v):v.oneCell'=true:=by
 cases c with
 |any=>cases hp
 |und=>cases hp
 |int k n=>simp only[aj]at hc;rw[hc];rfl
 |bool b=>simp only[aj]at hc;rw[hc];rfl
 |str l=>simp only[aj]at hc;rw[hc];rfl
 |nil=>simp only[aj]at hc;rw[hc];rfl
 |own o=>exact hc.1
 |pre o n=>exact hc.1
 |sub o off n=>exact hc.1
 |ptr o i=>exact hc.1
 |row o ver i=>exact hc.1
 |rptr o ver i j=>exact hc.1
 |ro d=>obtain⟨⟨a,n,c,hv,_⟩,_⟩:=hc;rw[hv];rfl
 |rop d i=>obtain⟨b,off,fc,u,_,hv,_⟩:=hc;rw[hv];rfl
 |rob cs i=>obtain⟨b,off,hv,_⟩:=hc;rw[hv];rfl
 |rbb cs=>obtain⟨b,off,b2,off2,hv,_⟩:=hc;rw[hv];rfl
 |nilq b=>obtain⟨a,n,c,hv,_⟩:=hc;rw[hv];rfl
 |emp=>obtain⟨a,hv⟩:=hc;rw[hv];rfl
 |bsl o n=>exact hc.1
 |qptr o i=>exact hc.1
 |kid o ver p=>exact hc.1
 |kptr o ver p j=>exact hc.1
 |orig o j d=>exact hc.2.1
theorem uD{v:Value}(h:v.oneCell'=true):v.cells=#[v]:=by cases v<;>first|rfl|cases h
theorem Tu{d:Nat}{t:TypeId}{sv:SV}{vx:Value}{eff:Eff}(hr:(Bn d sv).run σ=some eff)(hx:av C.P (σ.env C.wF mu) sv vx)(h:St C σ mu a w)
  {dst:Option Nat} (hd:∀d,dst=some d->d<C.N) :
  ∃v w',(Instr.box t vx).run C.P w=.ok v w'/\ax C (σ.app dst eff) (a.put dst v) w':=by
 unfold Bn at hr;split at hr
 ·rename_i c
  split at hr
  ·rename_i hp
   obtain⟨Yj,hr⟩:=bU hr;simp only[Rd.run,Option.some.injEq]at hr;subst hr;have h1:=uC hp hx
   refine⟨_,_,?_,h.newBox hd Yj (arr:=vx.cells) t ?_ (by simp)⟩
   ·simp[Instr.box,newVar,newRow]
   ·rw[uD h1]
    refine⟨rfl,fun i c' hc'=>?_⟩
    cases i with
    |zero=>simp at hc';subst hc';exact⟨vx,rfl,h1,hx⟩
    |succ i=>simp at hc'
  ·simp[Rd.run]at hr
 ·rename_i cs
  obtain⟨Yj,hr⟩:=bU hr;split at hr
  ·rename_i hne
   simp only[Rd.run,Option.some.injEq]at hr;subst hr;obtain⟨arr,rfl,hrep⟩:=hx;refine⟨_,_,?_,h.newBox hd Yj (arr:=arr) t hrep (by intro hc;subst hc;simp at hne)⟩
   simp[Instr.box,newVar,newRow,Value.cells]
  ·simp[Rd.run]at hr
 ·simp[Rd.run]at hr
end
end Go.Sx
end
