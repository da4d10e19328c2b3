/- SxM -/
import Derived.Test.YtkmldclpaniclaaGreatSxL
set_option linter.unusedSimpArgs false
set_option linter.unusedVariables false
set_option linter.defProp false
namespace Go.Sx
open Go.RowKit
def E0(w:World):Env:=⟨w,fun _=>⟨undef,[]⟩,fun _=>.absent⟩
def bY:List (Nat×Nat)->Nat->Nat->Option Nat
 | [],_,_=>none
 |(a,b)::l,i,j=>if a=i/\b=j then some 0 else(bY l i j).map (·+1)
def gw(wF:World)(mt:List (Nat×Nat))(ms:List Img)(obs:List Ob)(i j:Nat)(d:FC)(u:Value):Prop :=
 u.oneCell'=true/\match bY mt i j with
  |some x=>∃m ob,ms[x]?=some m/\obs[x]?=some ob/\u=m.hd/\fA ob=some d
  |none=>bp wF u d
def dh(P:Program)(wF:World)(mt:List (Nat×Nat))(ms:List Img)(obs:List Ob)(i:Nat):AD->Value->Prop
 |.c d,v=>gw wF mt ms obs i 0 d v
 |.agg cs,v=>∃arr,v=.agg arr/\arr.size=cs.length/\∀(j:Nat) (d:FC),cs[j]?=some d->∃u,arr[j]?=some u/\gw wF mt ms obs i j d u
 |.box cs,v=>match bY mt i 0 with
  |some x=>∃m,ms[x]?=some m/\obs[x]?=some (.bx cs)/\v=m.hd/\∀(j:Nat) (d:FC),cs[j]?=some d->dt d=false->∃u,m.ins[j]?=some (.agg #[u])/\(∃a n c,u=.slice a n c/\n<=c)/\bp wF u d
  |none=>∃b off,v=.pointer (some ⟨b,off,none⟩)/\∀(j:Nat) (d:FC),cs[j]?=some d->∃u,wF.cell? ⟨b,off+j,none⟩=some u/\bp wF u d
 |.bb cs,v=>∃b off b2 off2,v=.pointer (some ⟨b,off,none⟩)/\wF.cell? ⟨b,off,none⟩=some (.pointer (some ⟨b2,off2,none⟩))/\∀(j:Nat) (d:FC),cs[j]?=some d->∃u,wF.cell? ⟨b2,off2+j,none⟩=some u/\bp wF u d
 |.bf P' F,v=>∃b off u,v=.pointer (some ⟨b,off,none⟩)/\wF.cell? ⟨b,off,none⟩=some u/\gj P' wF F u
 |.fv F,v=>gj P wF F v
 |.fvs F s,v=>match bY mt i 0 with
  |some x=>∃m b,ms[x]?=some m/\obs[x]?=some (.bx [.int .i64 s])/\m.hd=.pointer (some ⟨b,0,none⟩)/\v.oneCell'=true/\qt P wF b F v
  |none=>False
 |.ma _,_=>False
 |.cut off n d,v=>match bY mt i 0 with
  |some x=>∃m ob,ms[x]?=some m/\obs[x]?=some ob/\fA ob=some d/\off+n<=d.slen/\cA m.hd off n v/\v.oneCell'=true/\m.hd.oneCell'=true
  |none=>False
structure After (w w':World) (ms:List Img):Prop where
 os:OsD w w'
 tape:w'.tape=w.tape
 output:w'.output=w.output
 size:w.heap.size<=w'.heap.size
 block:∀b,b<w.heap.size->(∀m∈ms,b ∉ m.blocks)->w'.heap[b]?=w.heap[b]?
def io(Nw:Nat->Prop)(w' wG:World)(m:Img):RC->Value->Prop
 |.int k n,u=>u=.int k n
 |.bool b,u=>u=.bool b
 |.str l,u=>u=.string ⟨l.toArray⟩
 |.ints e k l,u=>u=m.hd/\aR (E0 wG) w' m (.ints e k l)/\m.blocks.Nodup/\∀b∈m.blocks,Nw b
 |.bools e l,u=>u=m.hd/\aR (E0 wG) w' m (.bools e l)/\m.blocks.Nodup/\∀b∈m.blocks,Nw b
 |.strs e l,u=>u=m.hd/\aR (E0 wG) w' m (.strs e l)/\m.blocks.Nodup/\∀b∈m.blocks,Nw b
 |.rows e ei k l,u=>u=m.hd/\aR (E0 wG) w' m (.rows 0 e ei k l)/\m.blocks.Nodup/\∀b∈m.blocks,Nw b
 |.cut off n e ei k l,u=>cA m.hd off n u/\off+n<=l.length/\aR (E0 wG) w' m (.rows 0 e ei k l)/\m.blocks.Nodup/\∀b∈m.blocks,Nw b
 |.nilq b,u=>∃a n c,u=.slice a n c/\a.isNone=b
 |.ro d,u=>(∃a n c,u=.slice a n c/\n<=c)/\bp wG u d
 |.bx cs,u=>u=m.hd/\aR (E0 wG) w' m (.box (cs.map dm))/\m.blocks.Nodup/\(∀b∈m.blocks,Nw b)/\cs≠[]
 |.lst e d,u=>u=m.hd/\aR (E0 wG) w' m (.lst 0 e d)/\m.blocks.Nodup/\∀b∈m.blocks,Nw b
 |.gone _,_=>False
 |.tr es d,u=>u=m.hd/\aR (E0 wG) w' m (.tr 0 es d)/\m.blocks.Nodup/\∀b∈m.blocks,Nw b
def Ia(Nw:Nat->Prop)(w' wG:World)(img:Nat->Img)(s:Nat)(l:List RC)(arr:Array Value):Prop :=
 arr.size=l.length/\∀(j:Nat) (x:RC),l[j]?=some x->∃u,arr[j]?=some u/\io Nw w' wG (img (s+j)) x u
def qZ(Nw:Nat->Prop)(w' wG:World)(img:Nat->Img)(s:Nat):RC ⊕ List RC->Value->Prop
 |.inl x,u=>io Nw w' wG (img s) x u
 |.inr l,u=>∃arr,u=.agg arr/\Ia Nw w' wG img s l arr
def xm(Nw:Nat->Prop)(w' wG:World)(img:Nat->Img):RV->Value->Prop
 |.c x,v=>io Nw w' wG (img 0) x v
 |.agg l,v=>∃arr,v=.agg arr/\Ia Nw w' wG img 0 l arr
 |.st _ _ _,_=>False
 |.tup l,v=>∃arr,v=.tuple arr/\arr.size=l.length/\∀(i:Nat) (x:RC ⊕ List RC),l[i]?=some x->∃u,arr[i]?=some u/\qZ Nw w' wG img (16*i) x u
structure RetRep (Nw:Nat->Prop) (w' wG:World) (img:Nat->Img) (rv:RV) (v:Value):Prop where
 val:xm Nw w' wG img rv v
 sep:∀i j x y,(i,x)∈dn rv->(j,y)∈dn rv->i≠j->(iR x).isSome=true->(iR y).isSome=true->∀b∈(img i).blocks,b ∉ (img j).blocks
 fz:∀q u,wG.cell? q=some u->∀i x,(i,x)∈dn rv->(iR x).isSome=true->q.block ∉ (img i).blocks
def kb(ms:List Img)(wrs:List RC)(b:Nat):Prop:=∃(x:Nat) (m:Img) (rc:RC),ms[x]?=some m/\wrs[x]?=some rc/\rc.isGone=true/\b∈m.blocks
structure GrowW (w w' wF wG:World) (ms:List Img) (wrs:List RC):Prop where
 kept:bJ wF wG
 new:∀q u,wG.cell? q=some u->w'.cell? q=some u/\(wF.cell? q=some u\/w.heap.size<=q.block\/kb ms wrs q.block)
def ab1(P:Program)(f:FuncId):Prop:=∀(w:World) (e:TypeId) (v:Value) (l:Db) (i j:Nat),w.ownsRow 0 e 1 v l.length (l.map (.int .i64))->i<j->j<=l.length ->
 Calls P f #[v,.int .i64 i,.int .i64 j] w fun r w'=>∃v',r=.returned v'/\w'.ownsRow 0 e 1 v' (l.take i++l.drop j).length ((l.take i++l.drop j).map (.int .i64))/\ac v'=ac v /\
  OsD w w'/\w'.tape=w.tape/\w'.output=w.output/\w'.heap.size=w.heap.size/\∀b,ac v≠some b->w'.heap[b]?=w.heap[b]?
def ab2(P:Program)(f:FuncId)(e:TypeId):Prop:=∀(w:World) (n:Nat),n<=1099511627776 ->
 Calls P f #[.slice none 0 0,.int .i64 n] w fun r w'=>∃v',r=.returned v'/\w'.ownsRow 0 e 1 v' 0 []/\(∀b,ac v'=some b->w.heap.size<=b) /\
  OsD w w'/\w'.tape=w.tape/\w'.output=w.output/\w.heap.size<=w'.heap.size/\∀b,b<w.heap.size->w'.heap[b]?=w.heap[b]?
def ab3(P:Program)(f g:FuncId)(l l':Dc):Prop:=∀(w:World) (e ei:TypeId) (v:Value) (ins:List Value),w.ownsRow 0 e 1 v l.length ins->ins.length=l.length ->
 (∀(i:Nat) (u:Value) (r:Db),ins[i]?=some u->l[i]?=some r->w.ownsRow 0 ei 1 u r.length (r.map (.int .i64)))->(⟨v,ins⟩:Img).blocks.Nodup ->
 Calls P f #[v,.func (.func g) #[] #[]] w fun r w'=>r=.returned (.tuple #[])/\∃ins',w'.ownsRow 0 e 1 v l'.length ins'/\ins'.length=l'.length /\
  (∀(i:Nat) (u:Value) (r:Db),ins'[i]?=some u->l'[i]?=some r->w.ownsRow 0 ei 1 u r.length (r.map (.int .i64)))/\ins'.Perm ins /\
  OsD w w'/\w'.tape=w.tape/\w'.output=w.output/\w.heap.size<=w'.heap.size/\∀b,b<w.heap.size->ac v≠some b->w'.heap[b]?=w.heap[b]?
def ab4(P:Program)(f g:FuncId)(l l':Dd):Prop:=∀(w:World) (e e2 e3:TypeId) (nd:Value),br w [e,e2,e3] nd (.r3 .i64 l)->(aW 3 nd).Nodup ->
 Calls P f #[aK nd,.func (.func g) #[] #[]] w fun r w'=>r=.returned (.tuple #[])/\∃ks',br w' [e,e2,e3] (bu (aK nd) ks') (.r3 .i64 l')/\ks'.Perm (bo nd) /\
  OsD w w'/\w'.tape=w.tape/\w'.output=w.output/\w.heap.size<=w'.heap.size/\∀b,b<w.heap.size->ac (aK nd)≠some b->w'.heap[b]?=w.heap[b]?
def ab5(P:Program)(f g:FuncId)(l:Dc)(off n c:Nat):Prop:=∀(w:World) (e ei:TypeId) (v v0:Value) (ins:List Value),w.ownsRow 0 e 1 v l.length ins->ins.length=l.length ->
 (∀(i:Nat) (u:Value) (r:Db),ins[i]?=some u->l[i]?=some r->w.ownsRow 0 ei 1 u r.length (r.map (.int .i64)))->(⟨v,ins⟩:Img).blocks.Nodup->off+n<=l.length->cA v off n v0 ->
 Calls P f #[v0,.func (.func g) #[] #[]] w fun r w'=>∃v1,r=.returned v1/\v1.oneCell'=true/\cA v off c v1/\∃ins',w'.ownsRow 0 e 1 v l.length ins'/\ins'.length=l.length /\
  (∀(i:Nat) (u:Value) (r:Db),ins'[i]?=some u->(l.take (off+c)++List.replicate (n-c) []++l.drop (off+n))[i]?=some r->w.ownsRow 0 ei 1 u r.length (r.map (.int .i64))) /\
  (⟨v,ins'⟩:Img).blocks.Nodup/\(∀b∈(⟨v,ins'⟩:Img).blocks,b∈(⟨v,ins⟩:Img).blocks) /\
  OsD w w'/\w'.tape=w.tape/\w'.output=w.output/\w.heap.size<=w'.heap.size/\∀b,b<w.heap.size->ac v≠some b->w'.heap[b]?=w.heap[b]?
def PV(P:Program)(f:FuncId)(mas:List MA)(sv:SV)(hp:List (Nat×Option Ob)):Prop :=
 ∀(C:Cx) (mu:Nat->Img) (vs:List Value) (w:World),C.P=P->C.w0=w->C.N=mas.length->vs.length=mas.length->(∀o m,C.pin o=some m->o∈Gp mas hp) ->
  St C (fB mas) mu ⟨vs.toArray,[]⟩ w->Calls P f vs.toArray w fun e w'=>∃v,e=.returned v/\ay ⟨C.P,1,C.w0,C.wF,C.M,C.pin⟩ (jP sv hp) ⟨#[v],[]⟩ w'
structure Fits (P:Program) (f:FuncId) (c:Ctr):Prop where
 fn:∃fn,P.funcs[f]?=some fn/\fn.body.isSome=true/\(fn.name == "runtime.NumGoroutine")=false
 run:∀(w wF:World) (vs:List Value) (ds:List AD) (p:Post) (ms:List Img) (obs:List Ob),
  c.ct ds=some p->p.pre->vs.length=ds.length->ms.length=c.mt.length->obs.length=c.mt.length->p.wrs.length=c.mt.length ->
  (∀(x:Nat) (m:Img) (ob:Ob),ms[x]?=some m->obs[x]?=some ob->aR (E0 wF) w m ob/\m.blocks.Nodup) ->
  (∀(x x':Nat) (m m':Img),x≠x'->ms[x]?=some m->ms[x']?=some m'->∀b∈m.blocks,b ∉ m'.blocks) ->
  (∀(x:Nat) (ob:Ob) (rc:RC),obs[x]?=some ob->p.wrs[x]?=some rc->∃ob' q,dz ob rc=some (ob',q)/\q) ->
  (∀(q:Addr) (u:Value),wF.cell? q=some u->w.cell? q=some u/\∀m∈ms,q.block ∉ m.blocks) ->
  (∀(i:Nat) (d:AD),ds[i]?=some d->∃v,vs[i]?=some v/\dh P wF c.mt ms obs i d v) ->
  Calls P f vs.toArray w fun e w'=>∃(v:Value) (ms':List Img) (img:Nat->Img) (wG:World),e=.returned v/\After w w' ms/\ms'.length=ms.length /\
   (∀(x:Nat) (m m':Img) (ob:Ob) (rc:RC),ms[x]?=some m->ms'[x]?=some m'->obs[x]?=some ob->p.wrs[x]?=some rc->rc.isGone=false ->
    m'=m/\m'.hd=m.hd/\m'.blocks.Nodup/\(∀b∈m'.blocks,b∈m.blocks)/\∃ob' q,dz ob rc=some (ob',q)/\aR (E0 w) w' m' ob') /\
   GrowW w w' wF wG ms p.wrs/\RetRep (fun b=>w.heap.size<=b\/kb ms p.wrs b) w' wG img p.ret v
 mv:c.mt=[(0,99),(0,99)]->ab1 P f
 gr:c.mt=[(0,98),(0,98)]->∀q e ws,c.ct []=some ⟨q,.c (.ints e .i64 []),ws⟩->ab2 P f e
 so:c.mt=[(0,97),(0,97)]->(∀l q g x l' ws,c.ct [.c (.rows .i64 l)]=some ⟨q,.c (.rows g x .i64 l'),ws⟩->q->ab3 P f g l l') /\
  ∀l q g l' ws,c.ct [.c (.r3 .i64 l)]=some ⟨q,.c (.tr [g] (.r3 .i64 l')),ws⟩->q->ab4 P f g l l'
 df:c.mt=[(0,96),(0,96)]->∀l off n q g x k ws,c.ct [.c (.rows .i64 ((l.drop off).take n))]=some ⟨q,.c (.rows g x .i64 k),ws⟩->q->k.length<=n/\ab5 P f g l off n k.length
 st:c.mt=[(0,93),(0,93)]->∀mas q sv ex outs,c.ct (mas.map .ma)=some ⟨q,.st sv ex outs,[]⟩->q->PV P f mas sv (oH 0 outs++qx ex)
def Ob.isEnv:Ob->Bool
 |.box _=>true
 |.lst _ _ _=>true
 |.yd _ _ _ _=>true
 |_=>false
theorem aR.env{E E':Env}{w:World}{m:Img}{ob:Ob}(h:aR E w m ob)(hb:ob.isEnv=false:=by rfl):aR E' w m ob:=by
 cases ob with
 |box cs=>cases hb
 |lst ver e d=>cases hb
 |frz d=>exact h
 |mp l=>exact h
 |qu e k l=>exact h
 |rowsH ver e ei k l hs=>exact h
 |tr ver es d=>exact h
 |trk ver es d n=>exact h
 |yd yv Y pre g=>cases hb
 |bx cs=>exact h
 |strs e l=>exact h
 |ints e k l=>exact h
 |bools e l=>exact h
 |rows ver e ei k l=>exact h
theorem aR.ver{E:Env}{w:World}{m:Img}{v v':Nat}{e ei:TypeId}{k:IntKind}{l:Dc}(h:aR E w m (.rows v e ei k l)):aR E w m (.rows v' e ei k l):=h
theorem After.below{w w':World}(h:After w w' []):Below w.heap.size w w':=⟨h.os.os,h.tape,h.output,h.size,fun k hk=>h.block k hk (by simp)⟩
def o9(w:World)(B:List Nat):World:={ w with heap:=w.heap.mapIdx fun b o=>if b∈B then .map #[] 0 else o }
theorem Ib(w:World)(B:List Nat)(b:Nat)(h:b ∉ B):(o9 w B).heap[b]?=w.heap[b]?:=by
 simp only[o9,Array.getElem?_mapIdx];cases w.heap[b]?<;>simp[h]
theorem ab6{w:World}{B:List Nat}{p:Addr}{u:Value}(h:(o9 w B).cell? p=some u):p.block ∉ B/\w.cell? p=some u:=by
 by_cases hb:p.block∈B
 ·exfalso
  simp only[World.cell?,o9,Array.getElem?_mapIdx]at h;cases hw:w.heap[p.block]?<;>simp[hw,hb]at h
 ·refine⟨hb,?_⟩
  rw[World.cell?_of_block (Ib w B p.block hb)]at h;exact h
section
variable {C:Cx} {σ:State} {mu:Nat->Img} {a:Act} {w w':World}
structure HidW (C:Cx) (σ:State) (mu:Nat->Img) (w:World) (hid:List Nat) (wF:World):Prop where
 kept:∀p u,wF.cell? p=some u->w.cell? p=some u/\∀o∈hid,p.block ∉ (mu o).blocks
 old:∀p u,C.wF.cell? p=some u->wF.cell? p=some u
 own:∀o ob,σ.H o=some (some ob)->cE o hid=true->∀b∈(mu o).blocks,wF.heap[b]?=w.heap[b]?
theorem jv{o:Nat}:∀{l:List Nat},cE o l=true->o ∉ l
 | [],_=>by simp
 |x::l,h=>by
  simp only[cE]at h;split at h
  ·cases h
  ·rename_i hx
   have:=Bn hx
   have h2:=jv h
   simp[h2]
   omega
theorem kU:∀{l:List Nat},fk l=true->l.Nodup
 | [],_=>by simp
 |x::l,h=>by
  simp only[fk,AG]at h;exact Aa.2 ⟨jv h.1,kU h.2⟩
theorem rb(h:St C σ mu a w)(hid:List Nat)(hlive:∀o∈hid,∃ob,σ.H o=some (some ob)):HidW C σ mu w hid (o9 w (hid.flatMap fun o=>(mu o).blocks)):=by
 refine⟨fun p u hp=>?_,fun p u hp=>?_,fun o ob ho hn b hb=>Ib _ _ _ fun hc=>?_⟩
 ·obtain⟨h1,h2⟩:=ab6 hp
  exact⟨h2,fun o ho hb=>h1 (Ao.2 ⟨o,ho,hb⟩)⟩
 ·obtain⟨h1,h3⟩:=h.cells p u hp
  refine(World.cell?_of_block (Ib _ _ _ fun hc=>?_)).trans h3
  obtain⟨o,ho,hb⟩:=Ao.1 hc;obtain⟨ob,hob⟩:=hlive o ho;exact h1 o ob hob hb
 ·obtain⟨o',ho',hb'⟩:=Ao.1 hc
  obtain⟨ob',hob'⟩:=hlive o' ho';have hne:o≠o':=fun he=>jv hn (he ▸ ho')
  exact h.sep o o' ob ob' hne ho hob' b hb hb'
theorem PW:∀{cs:List SC} {ls:Dc},ww cs=some ls->ls.length=cs.length/\∀i,i<ls.length->cs[i]?=some (.ro (.ints .i64 (ls.getD i [])))
 | [],ls,h=>by cases h;simp
 |c::cs,ls,h=>by
  unfold ww at h;split at h
  ·rename_i h0;cases h0
  ·rename_i l cs' hcons
   cases hcons;split at h
   ·rename_i ls' hls
    cases h;obtain⟨h1,h2⟩:=PW hls;refine⟨by simp[h1],fun i hi=>?_⟩
    cases i with
    |zero=>simp
    |succ i=>simpa using h2 i (by simpa using hi)
   ·cases h
  ·cases h
theorem xn{α:Type}{hid:List Nat}{wF:World}(h:St C σ mu a w)(hw:HidW C σ mu w hid wF){nl:Option FC}(hnl:∀d,nl=some d->∀w,bp w (.slice none 0 0) d){c:SC}{K:FC->Rd α}{r:α}
  (hr:(kJ hid nl c K).run σ=some r):∃d,(K d).run σ=some r/\∀v,ai (σ.env C.wF mu) c v->v.oneCell'=true/\bp wF v d:=by
 have hob:∀{o:Nat} {K':Ob->Rd α},(eh hid o K').run σ=some r->∃ob,σ.H o=some (some ob)/\(K' ob).run σ=some r/\aR (σ.env wF mu) wF (mu o) ob:=fun {o K'} hr=>by
  unfold eh at hr;split at hr
  ·rename_i hn
   obtain⟨ob,ho,hr2⟩:=aZ hr;exact⟨ob,ho,hr2,(h.ob o ob ho).keep (E:=σ.env C.wF mu) (E':=σ.env wF mu) ⟨hw.old,fun _=>dQ.refl _ _ _⟩ (hw.own o ob ho hn)⟩
  ·simp[Rd.run]at hr
 unfold kJ at hr;split at hr
 ·exact⟨_,hr,fun v hv=>by simp only[ai]at hv;subst hv;exact⟨rfl,rfl⟩⟩
 ·exact⟨_,hr,fun v hv=>by simp only[ai]at hv;subst hv;exact⟨rfl,rfl⟩⟩
 ·exact⟨_,hr,fun v hv=>by simp only[ai]at hv;subst hv;exact⟨rfl,rfl⟩⟩
 ·cases nl with
  |none=>simp[Rd.run]at hr
  |some d=>exact⟨d,hr,fun v hv=>by simp only[ai]at hv;subst hv;exact⟨rfl,hnl d rfl wF⟩⟩
 ·rename_i o
  obtain⟨ob,ho,hr2,χ⟩:=hob hr;split at hr2
  ·rename_i d
   refine⟨d,hr2,fun v hv=>⟨hv.1,?_⟩⟩
   have h2:=hv.2
   have e:(σ.env C.wF mu).st o=.frz d:=fD ho
   rw[e]at h2;exact h2.2.mono hw.old
  ·split at hr2
   ·rename_i d hd
    refine⟨d,hr2,fun v hv=>⟨hv.1,?_⟩⟩
    have hv':v=(mu o).hd:=aP ho hv (o5 hd)
    subst hv';exact Zk (E:=σ.env wF mu) (fun _ _ h=>h) χ hd
   ·simp[Rd.run]at hr2
 ·rename_i o n
  obtain⟨ob,ho,hr2,χ⟩:=hob hr;split at hr2
  ·rename_i d hd
   split at hr2
   ·rename_i d' hd'
    refine⟨d',hr2,fun v hv=>⟨hv.1,?_⟩⟩
    obtain⟨h1,h2⟩:=aP ho hv (o5 hd);exact xa (E:=σ.env wF mu) (fun _ _ h=>h) χ hd h2 (by have:=HO hd;have:=qU d;omega) hd'
   ·simp[Rd.run]at hr2
  ·simp[Rd.run]at hr2
 ·rename_i o off n
  obtain⟨ob,ho,hr2,χ⟩:=hob hr;split at hr2
  ·rename_i d hd
   split at hr2
   ·rename_i d' hd'
    refine⟨d',hr2,fun v hv=>⟨hv.1,?_⟩⟩
    obtain⟨h1,h2⟩:=aP ho hv (o5 hd);exact xa (E:=σ.env wF mu) (fun _ _ h=>h) χ hd h2 (by have:=HO hd;have:=qU d;omega) hd'
   ·simp[Rd.run]at hr2
  ·simp[Rd.run]at hr2
 ·rename_i o ver i
  obtain⟨ob,ho,hr2,χ⟩:=hob hr;cases ob with
  |rows ver' e ei k l =>
   simp only at hr2;split at hr2
   ·rename_i hver
    refine⟨_,hr2,fun v hv=>⟨hv.1,?_⟩⟩
    obtain⟨_,hx⟩:=aP ho hv;obtain⟨hins,ψ⟩:=hx hver.symm;have hlt':i<l.length:=ψ
    obtain⟨_,_,h3⟩:=χ;have hrow:=h3 i v _ hins (AF hlt')
    have hgd:l.getD i []=l[i]:=by simp[List.getD,hlt']
    show g9 _ _ _ _
    rw[hgd];have:=qS hrow (cL hrow) (by omega)
    simpa using this
   ·simp[Rd.run]at hr2
  |_=>simp[Rd.run]at hr2
 ·rename_i o ver p
  obtain⟨ob,ho,hr2,χ⟩:=hob hr;cases ob with
  |tr ver' es d =>
   simp only at hr2;split at hr2
   ·rename_i hver
    split at hr2
    ·rename_i x hx1
     refine⟨_,hr2,fun v hv=>⟨hv.1,?_⟩⟩
     obtain⟨nd,u,q1,q2,rfl⟩:=(aP ho hv).2 hver.symm;obtain⟨_,_,x',k1,k2,_⟩:=lS χ q1 q2;rw[hx1]at k1;cases k1;exact k2.reads
    ·simp[Rd.run]at hr2
   ·simp[Rd.run]at hr2
  |_=>simp[Rd.run]at hr2
 ·rename_i d
  refine⟨d,hr,fun v hv=>?_⟩
  obtain⟨⟨x,n,c,hv1,_⟩,hv2⟩:=hv;exact⟨by rw[hv1];rfl,hv2.mono hw.old⟩
 ·rename_i d
  refine⟨d,hr,fun v hv=>?_⟩
  obtain⟨⟨⟨x,n,c,hv1,_⟩,hv2⟩,_⟩:=hv;exact⟨by rw[hv1];rfl,hv2.mono hw.old⟩
 ·rename_i o n
  obtain⟨ob,ho,hr2,χ⟩:=hob hr;cases ob with
  |box cs =>
   simp only at hr2;split at hr2
   ·rename_i ls hls
    refine⟨_,hr2,fun v hv=>⟨hv.1,?_⟩⟩
    obtain⟨hn,b,hb,hvv⟩:=aP ho hv;obtain⟨b',arr,t,hm,_,hheap,hrl⟩:=χ;have hb:ac (mu o).hd=some b:=hb
    rw[hm]at hb;have hbb:b'=b:=by simpa[ac]using hb
    subst hbb;obtain⟨hl,hcs⟩:=PW hls;have hln:ls.length=n:=by rw[hl,hn];rfl
    show bE _ _ _ _
    rw[hln];refine⟨_,_,hvv,AE _,fun _=>⟨b',0,rfl,fun i hi=>?_⟩⟩
    obtain⟨u,hu1,hu2,hu3⟩:=hrl.2 i _ (hcs i (by omega))
    refine⟨u,?_,hu3.2⟩
    rw[AK];simp[World.cell?,hheap,hu1]
   ·simp[Rd.run]at hr2
  |_=>simp[Rd.run]at hr2
 ·simp[Rd.run]at hr
end
end Go.Sx
