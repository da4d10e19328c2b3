/- SxG SxH -/
import Derived.Test.YtkmldclpaniclaaGreatSxF
set_option linter.unusedSimpArgs false
set_option linter.unusedVariables false
set_option linter.defProp false
section
namespace Go.Sx
open Go.RowKit
def OV(ov:Option Value)(oi:Option Int):Prop :=
 match oi with
 |none=>ov=none
 |some n=>∃k,ov=some (.int k n)
def bQ:Option Int->Nat
 |none=>0
 |some l=>l.toNat
def dg(L:Nat):Option Int->Nat
 |none=>L
 |some h=>h.toNat
theorem oU{L:Nat}{l h:Option Int}(hb:bD L l h):bQ l<=dg L h/\dg L h<=L:=by
 cases l<;>cases h<;>simp only[bD,bQ,dg]at *<;>omega
theorem oV{α:Type}{r:List α}{l h:Option Int}(hb:bD r.length l h):(bZ r l h).length=dg r.length h-bQ l:=by
 cases l<;>cases h<;>simp only[bD,bQ,dg,bZ]at *<;>simp<;>omega
theorem O8{α:Type}{r:List α}{l h:Option Int}(hb:bD r.length l h){j:Nat}(hj:j<dg r.length h-bQ l):(bZ r l h)[j]?=r[bQ l+j]?:=by
 cases l<;>cases h<;>simp only[bD,bQ,dg,bZ]at *
 ·simp
 ·simp[Au];intro;omega
 ·simp[A9]
 ·simp only[A9,Au]
  rw[AA (by omega)]
section
variable {C:Cx} {σ:State} {mu:Nat->Img} {a:Act} {w:World}
theorem oW{α:Type}{x:Option Operand}{k:Option Int->Rd α}{r:α}(hr:(lK x k).run σ=some r)(h:St C σ mu a w) :
  ∃oi,(k oi).run σ=some r/\OV (x.map a.eval) oi:=by
 cases x with
 |none=>exact⟨none,hr,rfl⟩
 |some y =>
  simp only[lK]at hr;obtain⟨c,h1,h2⟩:=cZ hr h;cases c with
  |int kd n=>exact⟨some n,h1,kd,by simp only[ai]at h2;simp[h2]⟩
  |_=>simp[Rd.run]at h1
theorem oX{t e:TypeId}(he:bX C.P t=some e)(hs:cK C.P e=some 1){x:Option Addr}{len cap:Nat}{lo hi:Option Value}{l h:Option Int}
  (hl:OV lo l)(hh:OV hi h)(hb:bD len l h)(hlc:len<=cap) :
  (Instr.sliceAt t (.slice x len cap) lo hi none).run C.P w=.ok (.slice (if cap=bQ l then x else x.map (·.add (bQ l))) (dg len h-bQ l) (cap-bQ l)) w:=by
 have hu:=run_underlying (gp he)
 have hsz:=gn hs
 cases l with
 |none =>
  simp only[OV]at hl;subst hl;cases h with
  |none =>
   simp only[OV]at hh;subst hh;simp[Instr.sliceAt,Instr.slice,Instr.sliceBounds,hu,hsz,bQ,dg]
   rfl
  |some h =>
   obtain⟨k,rfl⟩:=hh;simp only[bD]at hb;have h2:h<=(cap:Int):=by omega
   simp[Instr.sliceAt,Instr.slice,Instr.sliceBounds,Instr.sliceBound,asIntOf,hu,hsz,bQ,dg,hb.1,h2]
   rfl
 |some l =>
  obtain⟨k,rfl⟩:=hl;cases h with
  |none =>
   simp only[OV]at hh;subst hh;simp only[bD]at hb;simp[Instr.sliceAt,Instr.slice,Instr.sliceBounds,Instr.sliceBound,asIntOf,hu,hsz,bQ,dg,hb.1,hb.2]
   rfl
  |some h =>
   obtain⟨k',rfl⟩:=hh;simp only[bD]at hb;have h1:0<=h:=by omega
   have h2:h<=(cap:Int):=by omega
   have h3:l<=max h 0:=by omega
   simp[Instr.sliceAt,Instr.slice,Instr.sliceBounds,Instr.sliceBound,asIntOf,hu,hsz,bQ,dg,hb.1,h1,h2,h3]
   rfl
theorem HC{t e:TypeId}(he:bX C.P t=some e)(hs:cK C.P e=some 1){hd v:Value}{off n:Nat}(hv:cA hd off n v){lo hi:Option Value}{l h:Option Int}
  (hl:OV lo l)(hh:OV hi h)(hb:bD n l h) :
  ∃v',(Instr.sliceAt t v lo hi none).run C.P w=.ok v' w/\cA hd (off+bQ l) (dg n h-bQ l) v':=by
 obtain⟨h1,h2⟩:=oU hb;rcases hv with⟨rfl,rfl,rfl,rfl⟩|⟨g,len,cap,ao,rfl,rfl,hc1,hc2,hao⟩
 ·refine⟨_,oX he hs hl hh hb (AE _),.inl ⟨rfl,?_,by omega,by omega⟩⟩
  have e1:bQ l=0:=by omega
  have e2:dg 0 h=0:=by omega
  simp[e1,e2]
 ·refine⟨_,oX he hs hl hh hb hc2,.inr ⟨g,len,cap,if cap-off=bQ l then ao else ao.add (bQ l),rfl,?_,by omega,by omega,fun hor=>?_⟩⟩
  ·have e1:cap-(off+bQ l)=cap-off-bQ l:=by omega
   rw[e1];by_cases hq:cap-off=bQ l<;>simp[hq]
  ·by_cases hq:cap-off=bQ l
   ·rw[AA hq]
    have:off=0/\bQ l=0:=by rcases hor with h3|h3<;>omega
    rw[this.1,this.2];exact hao (.inl this.1) |>.trans (by rw[this.1])
   ·rw[AB hq,hao (.inr (by omega)),Addr.add_lit]
theorem qO{t e:TypeId}(he:bX C.P t=some e)(hs:cK C.P e=some 1){wF:World}{v:Value}{n:Nat}{R:Nat->Value->Prop}(hv:bE wF v n R){lo hi:Option Value}{l h:Option Int}
  (hl:OV lo l)(hh:OV hi h)(hb:bD n l h) :
  ∃v',(Instr.sliceAt t v lo hi none).run C.P w=.ok v' w/\bE wF v' (dg n h-bQ l) fun j u=>R (bQ l+j) u:=by
 obtain⟨h1,h2⟩:=oU hb;obtain⟨x,c,rfl,hc,hk⟩:=hv;refine⟨_,oX he hs hl hh hb hc,_,_,rfl,by omega,fun h0=>?_⟩
 obtain⟨b,off,rfl,hk2⟩:=hk (by omega)
 refine⟨b,off+bQ l,?_,fun i hi=>?_⟩
 ·rw[AB (by omega)];simp[Addr.add_lit]
 ·obtain⟨u,h3,h4⟩:=hk2 (bQ l+i) (by omega)
  exact⟨u,by rw[A0];exact h3,h4⟩
theorem bE.mono{w:World}{v:Value}{n:Nat}{R R':Nat->Value->Prop}(h:bE w v n R)(hR:∀i u,i<n->R i u->R' i u):bE w v n R':=h.below hR
theorem qP{α:Type}{r:List α}{l h:Option Int}(hb:bD r.length l h){j:Nat}(hj:j<dg r.length h-bQ l)(z:α):(bZ r l h).getD j z=r.getD (bQ l+j) z:=by
 simp[List.getD,O8 hb hj]
theorem HD{hd v:Value}{off n:Nat}(h:cA hd off n v):v.oneCell'=true:=by
 obtain⟨x,c,rfl⟩:=jZ h;rfl
theorem Y5{t:TypeId}{cx:SC}{lo hi:Option Operand}{vx:Value}{eff:Eff}(hr:(qC C.P t cx lo hi).run σ=some eff)(hob:eff.obl)
  (hx:ai (σ.env C.wF mu) cx vx)(h:St C σ mu a w) :
  eff.hp=[]/\∃v,(Instr.sliceAt t vx (lo.map a.eval) (hi.map a.eval) none).run C.P w=.ok v w/\aw C.P (σ.env C.wF mu) eff.val v:=by
 unfold qC at hr;split at hr
 ·rename_i r
  simp only[ai]at hx;subst hx;split at hr
  ·rename_i hu
   obtain⟨l,hr,hl⟩:=oW hr h;obtain⟨hh,hr,hhi⟩:=oW hr h;simp only[Rd.run,AC]at hr;subst hr;have hsz:(⟨r.toArray⟩:ByteArray).size=r.length:=by simp[ByteArray.size]
   have hb:bD r.length l hh:=hob
   have hex:(⟨r.toArray⟩:ByteArray).extract (bQ l) (dg r.length hh)=⟨(bZ r l hh).toArray⟩:=by
    apply ByteArray.ext
    apply Aw
    simp only[ByteArray.data_extract,Array.toList_extract];obtain⟨h1,h2⟩:=oU hb;apply BA
    intro j
    by_cases hj:j<dg r.length hh-bQ l
    ·rw[O8 hb hj]
     simp[List.extract,A9,hj]
    ·rw[A7 (l:=bZ r l hh) (by rw[oV hb];omega)]
     simp[List.extract]
     omega
   refine⟨rfl,.string ⟨(bZ r l hh).toArray⟩,?_,rfl⟩
   rw[<-hex];generalize lo.map a.eval=lo' at hl
   generalize hi.map a.eval=hi' at hhi
   cases l with
   |none =>
    simp only[OV]at hl;subst hl;cases hh with
    |none=>simp only[OV]at hhi;subst hhi;simp only[bQ,dg,bZ]at hex;simp[Instr.sliceAt,Instr.slice,Instr.sliceBounds,run_underlying hu,bQ,dg,hex]
    |some hh =>
     obtain⟨k,rfl⟩:=hhi;simp only[bD]at hb;simp[Instr.sliceAt,Instr.slice,Instr.sliceBounds,Instr.sliceBound,asIntOf,run_underlying hu,bQ,dg,hsz,hb.1,hb.2]
   |some l =>
    obtain⟨k,rfl⟩:=hl;cases hh with
    |none =>
     simp only[OV]at hhi;subst hhi;simp only[bD]at hb;simp[Instr.sliceAt,Instr.slice,Instr.sliceBounds,Instr.sliceBound,asIntOf,run_underlying hu,bQ,dg,hsz,hb.1,hb.2]
    |some hh =>
     obtain⟨k',rfl⟩:=hhi;simp only[bD]at hb;have h1:0<=hh:=by omega
     have h3:l<=max hh 0:=by omega
     simp[Instr.sliceAt,Instr.slice,Instr.sliceBounds,Instr.sliceBound,asIntOf,run_underlying hu,bQ,dg,hsz,hb.1,hb.2.2,h1,h3]
  ·simp[Rd.run]at hr
 ·split at hr
  ·simp[Rd.run]at hr
  ·rename_i e he
   split at hr
   ·rename_i hs
    obtain⟨l,hr,hl⟩:=oW hr h;obtain⟨hh,hr,hhi⟩:=oW hr h;cases cx with
    |own o =>
     obtain⟨ob,ho,hr⟩:=aZ hr;have hnf:ob.isFz=false:=by cases ob<;>first|rfl|simp[Rd.run]at hr
     have hv':vx=(mu o).hd:=aP ho hx
     subst hv';have key:∀L,ob.len?=some L->eff=⟨.c (lL o L l hh),[],some (bD L l hh)⟩ ->
       eff.hp=[]/\∃v,(Instr.sliceAt t (mu o).hd (lo.map a.eval) (hi.map a.eval) none).run C.P w=.ok v w/\aw C.P (σ.env C.wF mu) eff.val v:=fun L hL heff=>by
      subst heff;obtain⟨h1,h2⟩:=qM hL (h.ob o ob ho);obtain⟨v',h3,h4⟩:=HC (w:=w) he hs h1 hl hhi hob;obtain⟨b1,b2⟩:=oU (show bD L l hh from hob)
      refine⟨rfl,v',h3,?_⟩
      cases l<;>cases hh<;>simp only[lL,bQ,dg,AK,CV]at h4 b1 b2⊢<;>refine d6 ho (HD h4) ⟨by omega,h4⟩
     cases ob with
     |box cs=>simp[Rd.run]at hr
     |bx cs=>simp[Rd.run]at hr
     |strs e l=>simp[Rd.run]at hr
     |ints e k l=>simp only[Rd.run,AC]at hr;exact key _ rfl hr.symm
     |bools e l=>simp only[Rd.run,AC]at hr;exact key _ rfl hr.symm
     |rows ver e ei k l=>simp only[Rd.run,AC]at hr;exact key _ rfl hr.symm
     |lst ver e d =>
      obtain⟨e1,hr⟩:=lT hr;simp only[Rd.run,AC]at hr;exact key _ (by simp only[Ob.len?,e1]) hr.symm
     |frz d=>simp[Rd.run]at hr
     |mp l=>simp[Rd.run]at hr
     |qu e k l=>simp[Rd.run]at hr
     |rowsH ver e ei k l hs=>simp[Rd.run]at hr
     |yd yv Y pre g=>simp[Rd.run]at hr
     |tr ver es d=>simp[Rd.run]at hr
     |trk ver es d n=>simp[Rd.run]at hr
    |pre o L =>
     obtain⟨ob,ho,hr⟩:=aZ hr;obtain⟨hnf,hr⟩:=mV hr;simp only[Rd.run,AC]at hr;subst hr;obtain⟨h2,h1⟩:=aP ho hx;obtain⟨v',h3,h4⟩:=HC (w:=w) he hs h1 hl hhi hob;obtain⟨b1,b2⟩:=oU (show bD L l hh from hob)
     refine⟨rfl,v',h3,?_⟩
     cases l<;>cases hh<;>simp only[lL,bQ,dg,AK,CV]at h4 b1 b2⊢<;>refine d6 ho (HD h4) ⟨by omega,h4⟩
    |sub o off L =>
     obtain⟨ob,ho,hr⟩:=aZ hr;obtain⟨hnf,hr⟩:=mV hr;simp only[Rd.run,AC]at hr;subst hr;obtain⟨h2,h1⟩:=aP ho hx;obtain⟨v',h3,h4⟩:=HC (w:=w) he hs h1 hl hhi hob;obtain⟨b1,b2⟩:=oU (show bD L l hh from hob)
     refine⟨rfl,v',h3,?_⟩
     cases l<;>cases hh<;>simp only[OJ,bQ,dg,Bc,CV]at h4 b1 b2⊢<;>refine d6 ho (HD h4) ⟨by omega,h4⟩
    |ro d =>
     obtain⟨_,hx⟩:=hx;cases d with
     |ints k r =>
      simp only[Rd.run,AC]at hr;subst hr;obtain⟨v',h3,h4⟩:=qO (w:=w) he hs hx hl hhi hob;have hq:bp C.wF v' (.ints k (bZ r l hh)):=by
       show bE _ _ _ _
       rw[oV hob];exact h4.mono fun i u hi hu=>by rw[hu,qP hob hi]
      exact⟨rfl,v',h3,hq.slice,hq⟩
     |bools r =>
      simp only[Rd.run,AC]at hr;subst hr;obtain⟨v',h3,h4⟩:=qO (w:=w) he hs hx hl hhi hob;have hq:bp C.wF v' (.bools (bZ r l hh)):=by
       show bE _ _ _ _
       rw[oV hob];exact h4.mono fun i u hi hu=>by rw[hu,qP hob hi]
      exact⟨rfl,v',h3,hq.slice,hq⟩
     |rows k r =>
      simp only[Rd.run,AC]at hr;subst hr;obtain⟨v',h3,h4⟩:=qO (w:=w) he hs hx hl hhi hob;have hq:bp C.wF v' (.rows k (bZ r l hh)):=by
       show bE _ _ _ _
       rw[oV hob];exact h4.mono fun i u hi hu=>by rw[qP hob hi];exact hu
      exact⟨rfl,v',h3,hq.slice,hq⟩
     |r3 k r =>
      simp only[Rd.run,AC]at hr;subst hr;obtain⟨v',h3,h4⟩:=qO (w:=w) he hs hx hl hhi hob;have hq:bp C.wF v' (.r3 k (bZ r l hh)):=by
       show bE _ _ _ _
       rw[oV hob];exact h4.mono fun i u hi hu=>by rw[qP hob hi];exact hu
      exact⟨rfl,v',h3,hq.slice,hq⟩
     |r4 k r =>
      simp only[Rd.run,AC]at hr;subst hr;obtain⟨v',h3,h4⟩:=qO (w:=w) he hs hx hl hhi hob;have hq:bp C.wF v' (.r4 k (bZ r l hh)):=by
       show bE _ _ _ _
       rw[oV hob];exact h4.mono fun i u hi hu=>by rw[qP hob hi];exact hu
      exact⟨rfl,v',h3,hq.slice,hq⟩
     |_=>simp[Rd.run]at hr
    |_=>simp[Rd.run]at hr
   ·simp[Rd.run]at hr
end
end Go.Sx
end
section
namespace Go.Sx
open Go.RowKit
theorem gt{α:Type}(l l':List (Nat×α))(t:Nat):lk (l++l') t=match lk l t with|some x=>some x|none=>lk l' t:=by
 induction l with
 |nil=>simp[lk]
 |cons p l ih =>
  obtain⟨k,v⟩:=p;rw[BT,bt,bt];by_cases h:k=t<;>simp[h,ih]
section
variable {C:Cx} {σ:State} {mu mu':Nat->Img} {a:Act} {w w':World}
theorem j8{dst:Option Nat}{e:Eff}{o:Nat}:(σ.app dst e).H o=match lk e.hp o with|some x=>some x|none=>σ.H o:=by
 simp only[State.app,State.H,gt];cases lk e.hp o<;>rfl
def jr(σ:State)(mu:Nat->Img)(e:Eff)(b:Nat):Prop:=∃o x ob,lk e.hp o=some x/\σ.H o=some (some ob)/\b∈(mu o).blocks
def m6:Option Ob->OSt
 |none=>.dead
 |some ob=>dX ob
theorem Y6{dst:Option Nat}{e:Eff}{wG:World}(hmu:∀o,lk e.hp o=none->mu' o=mu o)
  (hole:∀o x,lk e.hp o=some x->dQ wG (σ.ost o) (m6 x) (mu o) (mu' o))(o:Nat):dQ wG (σ.ost o) ((σ.app dst e).ost o) (mu o) (mu' o):=by
 cases hx:lk e.hp o with
 |none =>
  have:(σ.app dst e).ost o=σ.ost o:=by simp[State.ost,j8,hx]
  rw[this,hmu o hx];exact dQ.refl _ _ _
 |some x =>
  have:(σ.app dst e).ost o=m6 x:=by cases x<;>simp[State.ost,j8,hx,m6]
  rw[this];exact hole o x hx
theorem St.upsG(h:St C σ mu a w){dst:Option Nat}(hd:∀d,dst=some d->d<C.N){e:Eff}{v:Value}{wG:World}
  (hos:OsD w w')(htape:w'.tape=w.tape)(hout:w'.output=w.output)(hsize:w.heap.size<=w'.heap.size)
  (hkeep:∀b,b<w.heap.size->¬ jr σ mu e b->w'.heap[b]?=w.heap[b]?)
  (hG:bJ C.wF wG)(hG2:∀p u,wG.cell? p=some u->C.wF.cell? p=some u\/(w'.cell? p=some u/\(∀o ob,lk e.hp o=none->σ.H o=some (some ob)->p.block ∉ (mu o).blocks)/\∀o ob,lk e.hp o=some (some ob)->p.block ∉ (mu' o).blocks))
  (hmu:∀o,lk e.hp o=none->mu' o=mu o)
  (hole:∀o x,lk e.hp o=some x->dQ wG (σ.ost o) (m6 x) (mu o) (mu' o))
  (hnew:∀o ob,lk e.hp o=some (some ob)->aR (σ.env wG mu) w' (mu' o) ob/\(mu' o).blocks.Nodup/\∀b∈(mu' o).blocks,jr σ mu e b\/w.heap.size<=b)
  (hsep:∀o o' ob ob',o≠o'->lk e.hp o=some (some ob)->lk e.hp o'=some (some ob')->∀b∈(mu' o).blocks,b ∉ (mu' o').blocks)
  (hval:b7 (σ.env C.wF mu) ((σ.app dst e).env wG mu')->aw C.P ((σ.app dst e).env wG mu') e.val v):St (C.fz wG) (σ.app dst e) mu' (a.put dst v) w':=by
 have hle:=Y6 (dst:=dst) hmu hole
 have hE:b7 (σ.env C.wF mu) ((σ.app dst e).env wG mu'):=⟨hG,hle⟩
 have hE2:b7 (σ.env wG mu) ((σ.app dst e).env wG mu'):=⟨fun _ _ h=>h,hle⟩
 have hlive:∀o ob,(σ.app dst e).H o=some (some ob)->(lk e.hp o=none/\σ.H o=some (some ob))\/lk e.hp o=some (some ob):=fun o ob ho=>by
  rw[j8]at ho;cases hx:lk e.hp o with
  |none=>rw[hx]at ho;exact .inl ⟨rfl,ho⟩
  |some x=>rw[hx]at ho;exact .inr ho
 have hG3:∀p u,wG.cell? p=some u->C.wF.cell? p=some u\/(w'.cell? p=some u/\∀o ob,(σ.app dst e).H o=some (some ob)->p.block ∉ (mu' o).blocks):=fun p u hp=>by
  rcases hG2 p u hp with h1|⟨h1,h2,h3⟩
  ·exact .inl h1
  ·refine .inr ⟨h1,fun o ob ho=>?_⟩
   rcases hlive o ob ho with⟨h4,h5⟩|h4
   ·rw[hmu o h4];exact h2 o ob h4 h5
   ·exact h3 o ob h4
 refine h.updG (jr σ mu e) hos htape hout hsize ?_ hkeep hG hG3 hle (fun o ob ho=>?_) (by rw[wT];exact h.sz) (wU _ _ _) (wV h hd (hval hE))
 ·rintro b ⟨o,x,ob,_,h2,h3⟩
  exact⟨o,ob,h2,h3⟩
 ·have old:∀o' ob',lk e.hp o'=none->σ.H o'=some (some ob')->∀b∈(mu o').blocks,¬ jr σ mu e b:=by
   rintro o' ob' h1 h2 b hb ⟨o2,x,ob2,h3,h4,h5⟩
   have hne:o'≠o2:=fun hc=>by rw[hc,h3]at h1;cases h1
   exact h.sep o' o2 ob' ob2 hne h2 h4 b hb h5
  rcases hlive o ob ho with⟨hx,ho⟩|hx
  ·exact .inl ⟨ho,hmu o hx,old o ob hx ho⟩
  ·obtain⟨h1,h2,h3⟩:=hnew o ob hx
   refine .inr ⟨h1.keep hE2 (fun _ _=>rfl),h2,h3,fun o' ob' hne ho'=>?_⟩
   rcases hlive o' ob' ho' with⟨hx',ho'⟩|hx'
   ·exact .inl ⟨ho',hmu o' hx',old o' ob' hx' ho'⟩
   ·exact .inr (hsep o o' ob ob' hne hx hx')
theorem St.ups(h:St C σ mu a w){dst:Option Nat}(hd:∀d,dst=some d->d<C.N){e:Eff}{v:Value}
  (hos:OsD w w')(htape:w'.tape=w.tape)(hout:w'.output=w.output)(hsize:w.heap.size<=w'.heap.size)
  (hkeep:∀b,b<w.heap.size->¬ jr σ mu e b->w'.heap[b]?=w.heap[b]?)
  (hmu:∀o,lk e.hp o=none->mu' o=mu o)
  (hole:∀o x,lk e.hp o=some x->dL (σ.ost o) (m6 x) (mu o) (mu' o))
  (hnew:∀o ob,lk e.hp o=some (some ob)->aR (σ.env C.wF mu) w' (mu' o) ob/\(mu' o).blocks.Nodup/\∀b∈(mu' o).blocks,jr σ mu e b\/w.heap.size<=b)
  (hsep:∀o o' ob ob',o≠o'->lk e.hp o=some (some ob)->lk e.hp o'=some (some ob')->∀b∈(mu' o).blocks,b ∉ (mu' o').blocks)
  (hval:b7 (σ.env C.wF mu) ((σ.app dst e).env C.wF mu')->aw C.P ((σ.app dst e).env C.wF mu') e.val v):St C (σ.app dst e) mu' (a.put dst v) w' :=
 h.upsG hd hos htape hout hsize hkeep (fun _ _ h=>h) (fun _ _ h=>.inl h) hmu (fun o x hx=>.inl (hole o x hx)) hnew hsep hval
theorem St.new(h:St C σ mu a w){dst:Option Nat}(hd:∀d,dst=some d->d<C.N){d:Nat}(θ:σ.H d=none){val:SV}{p:Option Prop}{ob:Ob}{m:Img}{v:Value}
  (hg:GrB w w' none)(χ:aR (σ.env C.wF mu) w' m ob)(hnd:m.blocks.Nodup)(hb:∀b∈m.blocks,w.heap.size<=b)
  (hval:aw C.P ⟨C.wF,fun o=>if o=d then m else mu o,fun o=>if o=d then dX ob else σ.ost o⟩ val v) :
  ay C (σ.app dst ⟨val,[(d,some ob)],p⟩) (a.put dst v) w':=by
 have hlk:∀o,lk [(d,some ob)] o=if d=o then some (some ob)else none:=fun o=>by rw[bt];simp[lk]
 refine St.ex (mu:=fun o=>if o=d then m else mu o) (h.ups hd hg.os hg.tape hg.output hg.size (fun b hb' _=>hg.block b hb' (by simp)) (fun o ho=>?_) (fun o x ho=>?_) (fun o ob' ho=>?_) (fun o o' ob1 ob2 hne ho ho'=>?_) (fun _=>?_))
 ·rw[hlk]at ho
  split at ho
  ·cases ho
  ·rename_i hne;simp[AO hne]
 ·rw[hlk]at ho
  split at ho
  ·rename_i hdo;subst hdo
   have:σ.ost d=.absent:=by simp[State.ost,θ]
   rw[this];trivial
  ·cases ho
 ·rw[hlk]at ho
  split at ho
  ·rename_i hdo;subst hdo;cases ho
   simp only[AV];exact⟨χ,hnd,fun b hb'=>.inr (hb b hb')⟩
  ·cases ho
 ·rw[hlk]at ho ho'
  split at ho<;>split at ho'<;>first|cases ho;done|cases ho';done|(rename_i h1 h2;exact absurd (h1.symm.trans h2) hne)
 ·have:(σ.app dst ⟨val,[(d,some ob)],p⟩).env C.wF (fun o=>if o=d then m else mu o)=⟨C.wF,fun o=>if o=d then m else mu o,fun o=>if o=d then dX ob else σ.ost o⟩:=by
   simp only[State.env,Env.mk.injEq,B4]
   funext o
   simp only[State.ost,j8,hlk];by_cases hdo:d=o
   ·subst hdo;simp
   ·simp[hdo,AO hdo]
  rw[this];exact hval
theorem Y7{E:Env}{cs:List SC}{arr:Array Value}(h:c9 E cs arr)(t:TypeId):aR E (w.alloc (.cells arr t)) ⟨.pointer (some ⟨w.heap.size,0,none⟩),[]⟩ (.box cs) :=
 ⟨w.heap.size,arr,t,rfl,by simp,heap_alloc_new w _,h⟩
theorem St.newBox(h:St C σ mu a w){dst:Option Nat}(hd:∀d,dst=some d->d<C.N){d:Nat}(θ:σ.H d=none){p:Option Prop}{cs:List SC}{arr:Array Value}(ty:TypeId)
  (hr:c9 (σ.env C.wF mu) cs arr)(hne:cs≠[]) :
  ay C (σ.app dst ⟨.c (.ptr d 0),[(d,some (.box cs))],p⟩) (a.put dst (.pointer (some ⟨w.heap.size,0,none⟩))) (w.alloc (.cells arr ty)):=by
 refine h.new hd θ (fP w _ none) (Y7 hr ty) (by simp[Img.blocks,ac]) (by simp[Img.blocks,ac]) ?_
 simp only[aw,ai,bS,AV,OSt.on,Ob.shp,dX];exact⟨rfl,DD.2 hne,w.heap.size,rfl,rfl⟩
theorem oY{P:Program}{t:TypeId}{cs:List SC}(h:iP P t=some cs)(w:World)(E:Env) :
  ∃z,(zeroValue t).run P w=.ok z w/\c9 E cs z.cells:=by
 unfold iP at h;split at h
 ·rename_i i hi
  split at h
  ·rename_i z hz
   obtain⟨h1,h2⟩:=im h;refine⟨z,by simp[zeroValue,typeInfo,hi,hz],by simpa using h1.symm,fun j c hc=>?_⟩
   obtain⟨x,h3,h4⟩:=h2 j c hc;have:=Hw (E:=E) h4
   exact⟨x,by simpa using h3,this.2.1,this.1⟩
  ·cases h
 ·cases h
theorem Y8{d:Nat}{t:TypeId}{eff:Eff}(hr:(GF C.P d t).run σ=some eff)(h:St C σ mu a w){dst:Option Nat}(hd:∀d,dst=some d->d<C.N) :
  ∃v w',(Instr.alloc t true (.tuple #[])).run C.P w=.ok v w'/\ay C (σ.app dst eff) (a.put dst v) w':=by
 unfold GF at hr;split at hr
 ·rename_i cs hcs
  obtain⟨θ,hr⟩:=b8 hr;split at hr
  ·rename_i hne
   simp only[Rd.run,AC]at hr;subst hr;obtain⟨z,hz,χ⟩:=oY hcs w (σ.env C.wF mu);refine⟨_,_,?_,h.newBox hd θ t χ (by intro hc;subst hc;simp at hne)⟩
   simp[Instr.alloc,hz,newVar,newRow]
  ·simp[Rd.run]at hr
 ·simp[Rd.run]at hr
theorem qQ{E:Env}{c:SC}{v:Value}(hp:c.plain=true)(hc:ai E c v):v.oneCell'=true:=by
 cases c with
 |any=>cases hp
 |und=>cases hp
 |int k n=>simp only[ai]at hc;rw[hc];rfl
 |bool b=>simp only[ai]at hc;rw[hc];rfl
 |str l=>simp only[ai]at hc;rw[hc];rfl
 |nil=>simp only[ai]at hc;rw[hc];rfl
 |own o=>exact hc.1
 |pre o n=>exact hc.1
 |sub o off n=>exact hc.1
 |ptr o i=>exact hc.1
 |row o ver i=>exact hc.1
 |rptr o ver i j=>exact hc.1
 |ro d=>obtain⟨⟨a,n,c,hv,_⟩,_⟩:=hc;rw[hv];rfl
 |rop d i=>obtain⟨b,off,fc,u,_,hv,_⟩:=hc;rw[hv];rfl
 |rob cs i=>obtain⟨b,off,hv,_⟩:=hc;rw[hv];rfl
 |rbb cs=>obtain⟨b,off,b2,off2,hv,_⟩:=hc;rw[hv];rfl
 |fnc P F=>obtain⟨f,caps,fn,hv,_⟩:=hc;rw[hv];rfl
 |rbf P F=>obtain⟨b,off,u,hv,_⟩:=hc;rw[hv];rfl
 |pr x y=>cases hp
 |pptr o i=>exact hc.1
 |nilq b=>obtain⟨a,n,c,hv,_⟩:=hc;rw[hv];rfl
 |emp=>obtain⟨a,hv⟩:=hc;rw[hv];rfl
 |bsl o n=>exact hc.1
 |qptr o i=>exact hc.1
 |kid o ver p=>exact hc.1
 |kptr o ver p j=>exact hc.1
 |orig o j d=>exact hc.2.1
theorem qR{v:Value}(h:v.oneCell'=true):v.cells=#[v]:=by cases v<;>first|rfl|cases h
theorem Y9{d:Nat}{t:TypeId}{sv:SV}{vx:Value}{eff:Eff}(hr:(GG C.P d sv).run σ=some eff)(hx:aw C.P (σ.env C.wF mu) sv vx)(h:St C σ mu a w)
  {dst:Option Nat}(hd:∀d,dst=some d->d<C.N) :
  ∃v w',(Instr.box t vx).run C.P w=.ok v w'/\ay C (σ.app dst eff) (a.put dst v) w':=by
 unfold GG at hr;split at hr
 ·rename_i F
  obtain⟨θ,hr⟩:=b8 hr;simp only[Rd.run,AC]at hr;subst hr;have h1:vx.oneCell'=true:=qQ (c:=.fnc C.P F) rfl hx
  refine⟨_,_,?_,h.newBox hd θ (arr:=vx.cells) t ?_ (by simp)⟩
  ·simp[Instr.box,newVar,newRow]
  ·rw[qR h1]
   refine⟨rfl,fun i c' hc'=>?_⟩
   cases i with
   |zero=>simp at hc';subst hc';exact⟨vx,rfl,h1,hx⟩
   |succ i=>simp at hc'
 ·rename_i c
  split at hr
  ·rename_i hp
   obtain⟨θ,hr⟩:=b8 hr;simp only[Rd.run,AC]at hr;subst hr;have h1:=qQ hp hx
   refine⟨_,_,?_,h.newBox hd θ (arr:=vx.cells) t ?_ (by simp)⟩
   ·simp[Instr.box,newVar,newRow]
   ·rw[qR h1]
    refine⟨rfl,fun i c' hc'=>?_⟩
    cases i with
    |zero=>simp at hc';subst hc';exact⟨vx,rfl,h1,hx⟩
    |succ i=>simp at hc'
  ·simp[Rd.run]at hr
 ·rename_i cs
  obtain⟨θ,hr⟩:=b8 hr;split at hr
  ·rename_i hne
   simp only[Rd.run,AC]at hr;subst hr;obtain⟨arr,rfl,χ⟩:=hx;refine⟨_,_,?_,h.newBox hd θ (arr:=arr) t χ (by intro hc;subst hc;simp at hne)⟩
   simp[Instr.box,newVar,newRow,Value.cells]
  ·simp[Rd.run]at hr
 ·simp[Rd.run]at hr
end
end Go.Sx
end
