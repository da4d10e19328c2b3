/- SxG SxH -/
import Derived.Test.YtkmldclpaniclaaGreatSxF
set_option linter.unusedSimpArgs false
set_option linter.unusedVariables false
set_option linter.defProp false
section
namespace Go.Sx
open Go.RowKit
def OV(ov:Option Value)(oi:Option Int):Prop :=
 match oi with
 |none=>ov=none
 |some n=>∃k,ov=some (.int k n)
def bO:Option Int->Nat
 |none=>0
 |some l=>l.toNat
def dg(L:Nat):Option Int->Nat
 |none=>L
 |some h=>h.toNat
theorem oR{L:Nat}{l h:Option Int}(hb:bM L l h):bO l<=dg L h/\dg L h<=L:=by
 cases l<;>cases h<;>simp only[bM,bO,dg]at *<;>omega
theorem oS{α:Type}{r:List α}{l h:Option Int}(hb:bM r.length l h):(dF r l h).length=dg r.length h-bO l:=by
 cases l<;>cases h<;>simp only[bM,bO,dg,dF]at *<;>simp<;>omega
theorem OR{α:Type}{r:List α}{l h:Option Int}(hb:bM r.length l h){j:Nat}(hj:j<dg r.length h-bO l):(dF r l h)[j]?=r[bO l+j]?:=by
 cases l<;>cases h<;>simp only[bM,bO,dg,dF]at *
 ·simp
 ·simp[Az];intro;omega
 ·simp[BI]
 ·simp only[BI,Az]
  rw[AA (by omega)]
section
variable {C:Cx} {σ:State} {mu:Nat->Img} {a:Act} {w:World}
theorem oT{α:Type}{x:Option Operand}{k:Option Int->Rd α}{r:α}(hr:(lq x k).run σ=some r)(h:St C σ mu a w) :
  ∃oi,(k oi).run σ=some r/\OV (x.map a.eval) oi:=by
 cases x with
 |none=>exact⟨none,hr,rfl⟩
 |some y =>
  simp only[lq]at hr;obtain⟨c,h1,h2⟩:=cS hr h;cases c with
  |int kd n=>exact⟨some n,h1,kd,by simp only[ag]at h2;simp[h2]⟩
  |_=>simp[Rd.run]at h1
theorem oU{t e:TypeId}(he:bS C.P t=some e)(hs:cG C.P e=some 1){x:Option Addr}{len cap:Nat}{lo hi:Option Value}{l h:Option Int}
  (hl:OV lo l)(hh:OV hi h)(hb:bM len l h)(hlc:len<=cap) :
  (Instr.sliceAt t (.slice x len cap) lo hi none).run C.P w=.ok (.slice (if cap=bO l then x else x.map (·.add (bO l))) (dg len h-bO l) (cap-bO l)) w:=by
 have hu:=run_underlying (gj he)
 have hsz:=gh hs
 cases l with
 |none =>
  simp only[OV]at hl;subst hl;cases h with
  |none =>
   simp only[OV]at hh;subst hh;simp[Instr.sliceAt,Instr.slice,Instr.sliceBounds,hu,hsz,bO,dg]
   rfl
  |some h =>
   obtain⟨k,rfl⟩:=hh;simp only[bM]at hb;have h2:h<=(cap:Int):=by omega
   simp[Instr.sliceAt,Instr.slice,Instr.sliceBounds,Instr.sliceBound,asIntOf,hu,hsz,bO,dg,hb.1,h2]
   rfl
 |some l =>
  obtain⟨k,rfl⟩:=hl;cases h with
  |none =>
   simp only[OV]at hh;subst hh;simp only[bM]at hb;simp[Instr.sliceAt,Instr.slice,Instr.sliceBounds,Instr.sliceBound,asIntOf,hu,hsz,bO,dg,hb.1,hb.2]
   rfl
  |some h =>
   obtain⟨k',rfl⟩:=hh;simp only[bM]at hb;have h1:0<=h:=by omega
   have h2:h<=(cap:Int):=by omega
   have h3:l<=max h 0:=by omega
   simp[Instr.sliceAt,Instr.slice,Instr.sliceBounds,Instr.sliceBound,asIntOf,hu,hsz,bO,dg,hb.1,h1,h2,h3]
   rfl
theorem G8{t e:TypeId}(he:bS C.P t=some e)(hs:cG C.P e=some 1){hd v:Value}{off n:Nat}(hv:cp hd off n v){lo hi:Option Value}{l h:Option Int}
  (hl:OV lo l)(hh:OV hi h)(hb:bM n l h) :
  ∃v',(Instr.sliceAt t v lo hi none).run C.P w=.ok v' w/\cp hd (off+bO l) (dg n h-bO l) v':=by
 obtain⟨h1,h2⟩:=oR hb;rcases hv with⟨rfl,rfl,rfl,rfl⟩|⟨g,len,cap,ao,rfl,rfl,hc1,hc2,hao⟩
 ·refine⟨_,oU he hs hl hh hb (AE _),.inl ⟨rfl,?_,by omega,by omega⟩⟩
  have e1:bO l=0:=by omega
  have e2:dg 0 h=0:=by omega
  simp[e1,e2]
 ·refine⟨_,oU he hs hl hh hb hc2,.inr ⟨g,len,cap,if cap-off=bO l then ao else ao.add (bO l),rfl,?_,by omega,by omega,fun hor=>?_⟩⟩
  ·have e1:cap-(off+bO l)=cap-off-bO l:=by omega
   rw[e1];by_cases hq:cap-off=bO l<;>simp[hq]
  ·by_cases hq:cap-off=bO l
   ·rw[AA hq]
    have:off=0/\bO l=0:=by rcases hor with h3|h3<;>omega
    rw[this.1,this.2];exact hao (.inl this.1) |>.trans (by rw[this.1])
   ·rw[AB hq,hao (.inr (by omega)),Addr.add_lit]
theorem qw{t e:TypeId}(he:bS C.P t=some e)(hs:cG C.P e=some 1){wF:World}{v:Value}{n:Nat}{R:Nat->Value->Prop}(hv:bG wF v n R){lo hi:Option Value}{l h:Option Int}
  (hl:OV lo l)(hh:OV hi h)(hb:bM n l h) :
  ∃v',(Instr.sliceAt t v lo hi none).run C.P w=.ok v' w/\bG wF v' (dg n h-bO l) fun j u=>R (bO l+j) u:=by
 obtain⟨h1,h2⟩:=oR hb;obtain⟨x,c,rfl,hc,hk⟩:=hv;refine⟨_,oU he hs hl hh hb hc,_,_,rfl,by omega,fun h0=>?_⟩
 obtain⟨b,off,rfl,hk2⟩:=hk (by omega)
 refine⟨b,off+bO l,?_,fun i hi=>?_⟩
 ·rw[AB (by omega)];simp[Addr.add_lit]
 ·obtain⟨u,h3,h4⟩:=hk2 (bO l+i) (by omega)
  exact⟨u,by rw[BX];exact h3,h4⟩
theorem bG.mono{w:World}{v:Value}{n:Nat}{R R':Nat->Value->Prop}(h:bG w v n R)(hR:∀i u,i<n->R i u->R' i u):bG w v n R':=h.below hR
theorem qx{α:Type}{r:List α}{l h:Option Int}(hb:bM r.length l h){j:Nat}(hj:j<dg r.length h-bO l)(z:α):(dF r l h).getD j z=r.getD (bO l+j) z:=by
 simp[List.getD,OR hb hj]
theorem G9{hd v:Value}{off n:Nat}(h:cp hd off n v):v.oneCell'=true:=by
 obtain⟨x,c,rfl⟩:=jH h;rfl
theorem XQ{t:TypeId}{cx:SC}{lo hi:Option Operand}{vx:Value}{eff:Eff}(hr:(qj C.P t cx lo hi).run σ=some eff)(hob:eff.obl)
  (hx:ag (σ.env C.wF mu) cx vx)(h:St C σ mu a w) :
  eff.hp=[]/\∃v,(Instr.sliceAt t vx (lo.map a.eval) (hi.map a.eval) none).run C.P w=.ok v w/\av C.P (σ.env C.wF mu) eff.val v:=by
 unfold qj at hr;split at hr
 ·rename_i r
  simp only[ag]at hx;subst hx;split at hr
  ·rename_i hu
   obtain⟨l,hr,hl⟩:=oT hr h;obtain⟨hh,hr,hhi⟩:=oT hr h;simp only[Rd.run,AC]at hr;subst hr;have hsz:(⟨r.toArray⟩:ByteArray).size=r.length:=by simp[ByteArray.size]
   have hb:bM r.length l hh:=hob
   have hex:(⟨r.toArray⟩:ByteArray).extract (bO l) (dg r.length hh)=⟨(dF r l hh).toArray⟩:=by
    apply ByteArray.ext
    apply A5
    simp only[ByteArray.data_extract,Array.toList_extract];obtain⟨h1,h2⟩:=oR hb;apply BS
    intro j
    by_cases hj:j<dg r.length hh-bO l
    ·rw[OR hb hj]
     simp[List.extract,BI,hj]
    ·rw[BQ (l:=dF r l hh) (by rw[oS hb];omega)]
     simp[List.extract]
     omega
   refine⟨rfl,.string ⟨(dF r l hh).toArray⟩,?_,rfl⟩
   rw[<-hex];generalize lo.map a.eval=lo' at hl
   generalize hi.map a.eval=hi' at hhi
   cases l with
   |none =>
    simp only[OV]at hl;subst hl;cases hh with
    |none=>simp only[OV]at hhi;subst hhi;simp only[bO,dg,dF]at hex;simp[Instr.sliceAt,Instr.slice,Instr.sliceBounds,run_underlying hu,bO,dg,hex]
    |some hh =>
     obtain⟨k,rfl⟩:=hhi;simp only[bM]at hb;simp[Instr.sliceAt,Instr.slice,Instr.sliceBounds,Instr.sliceBound,asIntOf,run_underlying hu,bO,dg,hsz,hb.1,hb.2]
   |some l =>
    obtain⟨k,rfl⟩:=hl;cases hh with
    |none =>
     simp only[OV]at hhi;subst hhi;simp only[bM]at hb;simp[Instr.sliceAt,Instr.slice,Instr.sliceBounds,Instr.sliceBound,asIntOf,run_underlying hu,bO,dg,hsz,hb.1,hb.2]
    |some hh =>
     obtain⟨k',rfl⟩:=hhi;simp only[bM]at hb;have h1:0<=hh:=by omega
     have h3:l<=max hh 0:=by omega
     simp[Instr.sliceAt,Instr.slice,Instr.sliceBounds,Instr.sliceBound,asIntOf,run_underlying hu,bO,dg,hsz,hb.1,hb.2.2,h1,h3]
  ·simp[Rd.run]at hr
 ·split at hr
  ·simp[Rd.run]at hr
  ·rename_i e he
   split at hr
   ·rename_i hs
    obtain⟨l,hr,hl⟩:=oT hr h;obtain⟨hh,hr,hhi⟩:=oT hr h;cases cx with
    |own o =>
     obtain⟨ob,ho,hr⟩:=aX hr;have hnf:ob.isFz=false:=by cases ob<;>first|rfl|simp[Rd.run]at hr
     have hv':vx=(mu o).hd:=aK ho hx
     subst hv';have key:∀L,ob.len?=some L->eff=⟨.c (lu o L l hh),[],some (bM L l hh)⟩ ->
       eff.hp=[]/\∃v,(Instr.sliceAt t (mu o).hd (lo.map a.eval) (hi.map a.eval) none).run C.P w=.ok v w/\av C.P (σ.env C.wF mu) eff.val v:=fun L hL heff=>by
      subst heff;obtain⟨h1,h2⟩:=qt hL (h.ob o ob ho);obtain⟨v',h3,h4⟩:=G8 (w:=w) he hs h1 hl hhi hob;obtain⟨b1,b2⟩:=oR (show bM L l hh from hob)
      refine⟨rfl,v',h3,?_⟩
      cases l<;>cases hh<;>simp only[lu,bO,dg,AJ,B5]at h4 b1 b2⊢<;>refine eg ho (G9 h4) ⟨by omega,h4⟩
     cases ob with
     |box cs=>simp[Rd.run]at hr
     |bx cs=>simp[Rd.run]at hr
     |strs e l=>simp[Rd.run]at hr
     |ints e k l=>simp only[Rd.run,AC]at hr;exact key _ rfl hr.symm
     |bools e l=>simp only[Rd.run,AC]at hr;exact key _ rfl hr.symm
     |rows ver e ei k l=>simp only[Rd.run,AC]at hr;exact key _ rfl hr.symm
     |lst ver e d =>
      obtain⟨e1,hr⟩:=lI hr;simp only[Rd.run,AC]at hr;exact key _ (by simp only[Ob.len?,e1]) hr.symm
     |frz d=>simp[Rd.run]at hr
     |mp l=>simp[Rd.run]at hr
     |qu e k l=>simp[Rd.run]at hr
     |rowsH ver e ei k l hs=>simp[Rd.run]at hr
     |yd yv Y pre g=>simp[Rd.run]at hr
     |tr ver es d=>simp[Rd.run]at hr
     |trk ver es d n=>simp[Rd.run]at hr
    |pre o L =>
     obtain⟨ob,ho,hr⟩:=aX hr;obtain⟨hnf,hr⟩:=mP hr;simp only[Rd.run,AC]at hr;subst hr;obtain⟨h2,h1⟩:=aK ho hx;obtain⟨v',h3,h4⟩:=G8 (w:=w) he hs h1 hl hhi hob;obtain⟨b1,b2⟩:=oR (show bM L l hh from hob)
     refine⟨rfl,v',h3,?_⟩
     cases l<;>cases hh<;>simp only[lu,bO,dg,AJ,B5]at h4 b1 b2⊢<;>refine eg ho (G9 h4) ⟨by omega,h4⟩
    |sub o off L =>
     obtain⟨ob,ho,hr⟩:=aX hr;obtain⟨hnf,hr⟩:=mP hr;simp only[Rd.run,AC]at hr;subst hr;obtain⟨h2,h1⟩:=aK ho hx;obtain⟨v',h3,h4⟩:=G8 (w:=w) he hs h1 hl hhi hob;obtain⟨b1,b2⟩:=oR (show bM L l hh from hob)
     refine⟨rfl,v',h3,?_⟩
     cases l<;>cases hh<;>simp only[Ox,bO,dg,Bc,B5]at h4 b1 b2⊢<;>refine eg ho (G9 h4) ⟨by omega,h4⟩
    |ro d =>
     obtain⟨_,hx⟩:=hx;cases d with
     |ints k r =>
      simp only[Rd.run,AC]at hr;subst hr;obtain⟨v',h3,h4⟩:=qw (w:=w) he hs hx hl hhi hob;have hq:bj C.wF v' (.ints k (dF r l hh)):=by
       show bG _ _ _ _
       rw[oS hob];exact h4.mono fun i u hi hu=>by rw[hu,qx hob hi]
      exact⟨rfl,v',h3,hq.slice,hq⟩
     |bools r =>
      simp only[Rd.run,AC]at hr;subst hr;obtain⟨v',h3,h4⟩:=qw (w:=w) he hs hx hl hhi hob;have hq:bj C.wF v' (.bools (dF r l hh)):=by
       show bG _ _ _ _
       rw[oS hob];exact h4.mono fun i u hi hu=>by rw[hu,qx hob hi]
      exact⟨rfl,v',h3,hq.slice,hq⟩
     |rows k r =>
      simp only[Rd.run,AC]at hr;subst hr;obtain⟨v',h3,h4⟩:=qw (w:=w) he hs hx hl hhi hob;have hq:bj C.wF v' (.rows k (dF r l hh)):=by
       show bG _ _ _ _
       rw[oS hob];exact h4.mono fun i u hi hu=>by rw[qx hob hi];exact hu
      exact⟨rfl,v',h3,hq.slice,hq⟩
     |r3 k r =>
      simp only[Rd.run,AC]at hr;subst hr;obtain⟨v',h3,h4⟩:=qw (w:=w) he hs hx hl hhi hob;have hq:bj C.wF v' (.r3 k (dF r l hh)):=by
       show bG _ _ _ _
       rw[oS hob];exact h4.mono fun i u hi hu=>by rw[qx hob hi];exact hu
      exact⟨rfl,v',h3,hq.slice,hq⟩
     |r4 k r =>
      simp only[Rd.run,AC]at hr;subst hr;obtain⟨v',h3,h4⟩:=qw (w:=w) he hs hx hl hhi hob;have hq:bj C.wF v' (.r4 k (dF r l hh)):=by
       show bG _ _ _ _
       rw[oS hob];exact h4.mono fun i u hi hu=>by rw[qx hob hi];exact hu
      exact⟨rfl,v',h3,hq.slice,hq⟩
     |_=>simp[Rd.run]at hr
    |_=>simp[Rd.run]at hr
   ·simp[Rd.run]at hr
end
end Go.Sx
end
section
namespace Go.Sx
open Go.RowKit
theorem gk{α:Type}(l l':List (Nat×α))(t:Nat):lk (l++l') t=match lk l t with|some x=>some x|none=>lk l' t:=by
 induction l with
 |nil=>simp[lk]
 |cons p l ih =>
  obtain⟨k,v⟩:=p;rw[Bj,bm,bm];by_cases h:k=t<;>simp[h,ih]
section
variable {C:Cx} {σ:State} {mu mu':Nat->Img} {a:Act} {w w':World}
theorem jI{dst:Option Nat}{e:Eff}{o:Nat}:(σ.app dst e).H o=match lk e.hp o with|some x=>some x|none=>σ.H o:=by
 simp only[State.app,State.H,gk];cases lk e.hp o<;>rfl
def jf(σ:State)(mu:Nat->Img)(e:Eff)(b:Nat):Prop:=∃o x ob,lk e.hp o=some x/\σ.H o=some (some ob)/\b∈(mu o).blocks
def mU:Option Ob->OSt
 |none=>.dead
 |some ob=>dV ob
theorem XR{dst:Option Nat}{e:Eff}{wG:World}(hmu:∀o,lk e.hp o=none->mu' o=mu o)
  (hole:∀o x,lk e.hp o=some x->dR wG (σ.ost o) (mU x) (mu o) (mu' o))(o:Nat):dR wG (σ.ost o) ((σ.app dst e).ost o) (mu o) (mu' o):=by
 cases hx:lk e.hp o with
 |none =>
  have:(σ.app dst e).ost o=σ.ost o:=by simp[State.ost,jI,hx]
  rw[this,hmu o hx];exact dR.refl _ _ _
 |some x =>
  have:(σ.app dst e).ost o=mU x:=by cases x<;>simp[State.ost,jI,hx,mU]
  rw[this];exact hole o x hx
theorem St.upsG(h:St C σ mu a w){dst:Option Nat}(hd:∀d,dst=some d->d<C.N){e:Eff}{v:Value}{wG:World}
  (hos:OsD w w')(htape:w'.tape=w.tape)(hout:w'.output=w.output)(hsize:w.heap.size<=w'.heap.size)
  (hkeep:∀b,b<w.heap.size->¬ jf σ mu e b->w'.heap[b]?=w.heap[b]?)
  (hG:bL C.wF wG)(hG2:∀p u,wG.cell? p=some u->C.wF.cell? p=some u\/(w'.cell? p=some u/\(∀o ob,lk e.hp o=none->σ.H o=some (some ob)->p.block ∉ (mu o).blocks)/\∀o ob,lk e.hp o=some (some ob)->p.block ∉ (mu' o).blocks))
  (hmu:∀o,lk e.hp o=none->mu' o=mu o)
  (hole:∀o x,lk e.hp o=some x->dR wG (σ.ost o) (mU x) (mu o) (mu' o))
  (hnew:∀o ob,lk e.hp o=some (some ob)->aO (σ.env wG mu) w' (mu' o) ob/\(mu' o).blocks.Nodup/\∀b∈(mu' o).blocks,jf σ mu e b\/w.heap.size<=b)
  (hsep:∀o o' ob ob',o≠o'->lk e.hp o=some (some ob)->lk e.hp o'=some (some ob')->∀b∈(mu' o).blocks,b ∉ (mu' o').blocks)
  (hval:bX (σ.env C.wF mu) ((σ.app dst e).env wG mu')->av C.P ((σ.app dst e).env wG mu') e.val v):St (C.fz wG) (σ.app dst e) mu' (a.put dst v) w':=by
 have hle:=XR (dst:=dst) hmu hole
 have hE:bX (σ.env C.wF mu) ((σ.app dst e).env wG mu'):=⟨hG,hle⟩
 have hE2:bX (σ.env wG mu) ((σ.app dst e).env wG mu'):=⟨fun _ _ h=>h,hle⟩
 have hlive:∀o ob,(σ.app dst e).H o=some (some ob)->(lk e.hp o=none/\σ.H o=some (some ob))\/lk e.hp o=some (some ob):=fun o ob ho=>by
  rw[jI]at ho;cases hx:lk e.hp o with
  |none=>rw[hx]at ho;exact .inl ⟨rfl,ho⟩
  |some x=>rw[hx]at ho;exact .inr ho
 have hG3:∀p u,wG.cell? p=some u->C.wF.cell? p=some u\/(w'.cell? p=some u/\∀o ob,(σ.app dst e).H o=some (some ob)->p.block ∉ (mu' o).blocks):=fun p u hp=>by
  rcases hG2 p u hp with h1|⟨h1,h2,h3⟩
  ·exact .inl h1
  ·refine .inr ⟨h1,fun o ob ho=>?_⟩
   rcases hlive o ob ho with⟨h4,h5⟩|h4
   ·rw[hmu o h4];exact h2 o ob h4 h5
   ·exact h3 o ob h4
 refine h.updG (jf σ mu e) hos htape hout hsize ?_ hkeep hG hG3 hle (fun o ob ho=>?_) (by rw[vA];exact h.sz) (vB _ _ _) (vC h hd (hval hE))
 ·rintro b ⟨o,x,ob,_,h2,h3⟩
  exact⟨o,ob,h2,h3⟩
 ·have old:∀o' ob',lk e.hp o'=none->σ.H o'=some (some ob')->∀b∈(mu o').blocks,¬ jf σ mu e b:=by
   rintro o' ob' h1 h2 b hb ⟨o2,x,ob2,h3,h4,h5⟩
   have hne:o'≠o2:=fun hc=>by rw[hc,h3]at h1;cases h1
   exact h.sep o' o2 ob' ob2 hne h2 h4 b hb h5
  rcases hlive o ob ho with⟨hx,ho⟩|hx
  ·exact .inl ⟨ho,hmu o hx,old o ob hx ho⟩
  ·obtain⟨h1,h2,h3⟩:=hnew o ob hx
   refine .inr ⟨h1.keep hE2 (fun _ _=>rfl),h2,h3,fun o' ob' hne ho'=>?_⟩
   rcases hlive o' ob' ho' with⟨hx',ho'⟩|hx'
   ·exact .inl ⟨ho',hmu o' hx',old o' ob' hx' ho'⟩
   ·exact .inr (hsep o o' ob ob' hne hx hx')
theorem St.ups(h:St C σ mu a w){dst:Option Nat}(hd:∀d,dst=some d->d<C.N){e:Eff}{v:Value}
  (hos:OsD w w')(htape:w'.tape=w.tape)(hout:w'.output=w.output)(hsize:w.heap.size<=w'.heap.size)
  (hkeep:∀b,b<w.heap.size->¬ jf σ mu e b->w'.heap[b]?=w.heap[b]?)
  (hmu:∀o,lk e.hp o=none->mu' o=mu o)
  (hole:∀o x,lk e.hp o=some x->dJ (σ.ost o) (mU x) (mu o) (mu' o))
  (hnew:∀o ob,lk e.hp o=some (some ob)->aO (σ.env C.wF mu) w' (mu' o) ob/\(mu' o).blocks.Nodup/\∀b∈(mu' o).blocks,jf σ mu e b\/w.heap.size<=b)
  (hsep:∀o o' ob ob',o≠o'->lk e.hp o=some (some ob)->lk e.hp o'=some (some ob')->∀b∈(mu' o).blocks,b ∉ (mu' o').blocks)
  (hval:bX (σ.env C.wF mu) ((σ.app dst e).env C.wF mu')->av C.P ((σ.app dst e).env C.wF mu') e.val v):St C (σ.app dst e) mu' (a.put dst v) w' :=
 h.upsG hd hos htape hout hsize hkeep (fun _ _ h=>h) (fun _ _ h=>.inl h) hmu (fun o x hx=>.inl (hole o x hx)) hnew hsep hval
theorem St.new(h:St C σ mu a w){dst:Option Nat}(hd:∀d,dst=some d->d<C.N){d:Nat}(θ:σ.H d=none){val:SV}{p:Option Prop}{ob:Ob}{m:Img}{v:Value}
  (hg:GrB w w' none)(χ:aO (σ.env C.wF mu) w' m ob)(hnd:m.blocks.Nodup)(hb:∀b∈m.blocks,w.heap.size<=b)
  (hval:av C.P ⟨C.wF,fun o=>if o=d then m else mu o,fun o=>if o=d then dV ob else σ.ost o⟩ val v) :
  ax C (σ.app dst ⟨val,[(d,some ob)],p⟩) (a.put dst v) w':=by
 have hlk:∀o,lk [(d,some ob)] o=if d=o then some (some ob)else none:=fun o=>by rw[bm];simp[lk]
 refine St.ex (mu:=fun o=>if o=d then m else mu o) (h.ups hd hg.os hg.tape hg.output hg.size (fun b hb' _=>hg.block b hb' (by simp)) (fun o ho=>?_) (fun o x ho=>?_) (fun o ob' ho=>?_) (fun o o' ob1 ob2 hne ho ho'=>?_) (fun _=>?_))
 ·rw[hlk]at ho
  split at ho
  ·cases ho
  ·rename_i hne;simp[AM hne]
 ·rw[hlk]at ho
  split at ho
  ·rename_i hdo;subst hdo
   have:σ.ost d=.absent:=by simp[State.ost,θ]
   rw[this];trivial
  ·cases ho
 ·rw[hlk]at ho
  split at ho
  ·rename_i hdo;subst hdo;cases ho
   simp only[AV];exact⟨χ,hnd,fun b hb'=>.inr (hb b hb')⟩
  ·cases ho
 ·rw[hlk]at ho ho'
  split at ho<;>split at ho'<;>first|cases ho;done|cases ho';done|(rename_i h1 h2;exact absurd (h1.symm.trans h2) hne)
 ·have:(σ.app dst ⟨val,[(d,some ob)],p⟩).env C.wF (fun o=>if o=d then m else mu o)=⟨C.wF,fun o=>if o=d then m else mu o,fun o=>if o=d then dV ob else σ.ost o⟩:=by
   simp only[State.env,Env.mk.injEq,B8]
   funext o
   simp only[State.ost,jI,hlk];by_cases hdo:d=o
   ·subst hdo;simp
   ·simp[hdo,AM hdo]
  rw[this];exact hval
theorem XS{E:Env}{cs:List SC}{arr:Array Value}(h:c7 E cs arr)(t:TypeId):aO E (w.alloc (.cells arr t)) ⟨.pointer (some ⟨w.heap.size,0,none⟩),[]⟩ (.box cs) :=
 ⟨w.heap.size,arr,t,rfl,by simp,heap_alloc_new w _,h⟩
theorem St.newBox(h:St C σ mu a w){dst:Option Nat}(hd:∀d,dst=some d->d<C.N){d:Nat}(θ:σ.H d=none){p:Option Prop}{cs:List SC}{arr:Array Value}(ty:TypeId)
  (hr:c7 (σ.env C.wF mu) cs arr)(hne:cs≠[]) :
  ax C (σ.app dst ⟨.c (.ptr d 0),[(d,some (.box cs))],p⟩) (a.put dst (.pointer (some ⟨w.heap.size,0,none⟩))) (w.alloc (.cells arr ty)):=by
 refine h.new hd θ (fQ w _ none) (XS hr ty) (by simp[Img.blocks,ae]) (by simp[Img.blocks,ae]) ?_
 simp only[av,ag,bR,AV,OSt.on,Ob.shp,dV];exact⟨rfl,Dh.2 hne,w.heap.size,rfl,rfl⟩
theorem oV{P:Program}{t:TypeId}{cs:List SC}(h:iC P t=some cs)(w:World)(E:Env) :
  ∃z,(zeroValue t).run P w=.ok z w/\c7 E cs z.cells:=by
 unfold iC at h;split at h
 ·rename_i i hi
  split at h
  ·rename_i z hz
   obtain⟨h1,h2⟩:=g8 h;refine⟨z,by simp[zeroValue,typeInfo,hi,hz],by simpa using h1.symm,fun j c hc=>?_⟩
   obtain⟨x,h3,h4⟩:=h2 j c hc;have:=G1 (E:=E) h4
   exact⟨x,by simpa using h3,this.2.1,this.1⟩
  ·cases h
 ·cases h
theorem XT{d:Nat}{t:TypeId}{eff:Eff}(hr:(Ga C.P d t).run σ=some eff)(h:St C σ mu a w){dst:Option Nat}(hd:∀d,dst=some d->d<C.N) :
  ∃v w',(Instr.alloc t true (.tuple #[])).run C.P w=.ok v w'/\ax C (σ.app dst eff) (a.put dst v) w':=by
 unfold Ga at hr;split at hr
 ·rename_i cs hcs
  obtain⟨θ,hr⟩:=b5 hr;split at hr
  ·rename_i hne
   simp only[Rd.run,AC]at hr;subst hr;obtain⟨z,hz,χ⟩:=oV hcs w (σ.env C.wF mu);refine⟨_,_,?_,h.newBox hd θ t χ (by intro hc;subst hc;simp at hne)⟩
   simp[Instr.alloc,hz,newVar,newRow]
  ·simp[Rd.run]at hr
 ·simp[Rd.run]at hr
theorem vH{E:Env}{c:SC}{v:Value}(hp:c.plain=true)(hc:ag E c v):v.oneCell'=true:=by
 cases c with
 |any=>cases hp
 |und=>cases hp
 |int k n=>simp only[ag]at hc;rw[hc];rfl
 |bool b=>simp only[ag]at hc;rw[hc];rfl
 |str l=>simp only[ag]at hc;rw[hc];rfl
 |nil=>simp only[ag]at hc;rw[hc];rfl
 |own o=>exact hc.1
 |pre o n=>exact hc.1
 |sub o off n=>exact hc.1
 |ptr o i=>exact hc.1
 |row o ver i=>exact hc.1
 |rptr o ver i j=>exact hc.1
 |ro d=>obtain⟨⟨a,n,c,hv,_⟩,_⟩:=hc;rw[hv];rfl
 |rop d i=>obtain⟨b,off,fc,u,_,hv,_⟩:=hc;rw[hv];rfl
 |rob cs i=>obtain⟨b,off,hv,_⟩:=hc;rw[hv];rfl
 |rbb cs=>obtain⟨b,off,b2,off2,hv,_⟩:=hc;rw[hv];rfl
 |nilq b=>obtain⟨a,n,c,hv,_⟩:=hc;rw[hv];rfl
 |emp=>obtain⟨a,hv⟩:=hc;rw[hv];rfl
 |bsl o n=>exact hc.1
 |qptr o i=>exact hc.1
 |kid o ver p=>exact hc.1
 |kptr o ver p j=>exact hc.1
 |orig o j d=>exact hc.2.1
theorem vI{v:Value}(h:v.oneCell'=true):v.cells=#[v]:=by cases v<;>first|rfl|cases h
theorem XU{d:Nat}{t:TypeId}{sv:SV}{vx:Value}{eff:Eff}(hr:(Gb d sv).run σ=some eff)(hx:av C.P (σ.env C.wF mu) sv vx)(h:St C σ mu a w)
  {dst:Option Nat}(hd:∀d,dst=some d->d<C.N) :
  ∃v w',(Instr.box t vx).run C.P w=.ok v w'/\ax C (σ.app dst eff) (a.put dst v) w':=by
 unfold Gb at hr;split at hr
 ·rename_i c
  split at hr
  ·rename_i hp
   obtain⟨θ,hr⟩:=b5 hr;simp only[Rd.run,AC]at hr;subst hr;have h1:=vH hp hx
   refine⟨_,_,?_,h.newBox hd θ (arr:=vx.cells) t ?_ (by simp)⟩
   ·simp[Instr.box,newVar,newRow]
   ·rw[vI h1]
    refine⟨rfl,fun i c' hc'=>?_⟩
    cases i with
    |zero=>simp at hc';subst hc';exact⟨vx,rfl,h1,hx⟩
    |succ i=>simp at hc'
  ·simp[Rd.run]at hr
 ·rename_i cs
  obtain⟨θ,hr⟩:=b5 hr;split at hr
  ·rename_i hne
   simp only[Rd.run,AC]at hr;subst hr;obtain⟨arr,rfl,χ⟩:=hx;refine⟨_,_,?_,h.newBox hd θ (arr:=arr) t χ (by intro hc;subst hc;simp at hne)⟩
   simp[Instr.box,newVar,newRow,Value.cells]
  ·simp[Rd.run]at hr
 ·simp[Rd.run]at hr
end
end Go.Sx
end
