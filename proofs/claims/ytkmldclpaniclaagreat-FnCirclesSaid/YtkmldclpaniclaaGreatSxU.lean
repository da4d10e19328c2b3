/- SxU -/
import Derived.Test.YtkmldclpaniclaaGreatSxT
set_option linter.unusedSimpArgs false
set_option linter.unusedVariables false
set_option linter.defProp false
namespace Go.Sx
open Go.RowKit
def cI(i j:Nat):Nat:=700+16*i+j
def qT(mt:List (Nat×Nat))(i j:Nat)(d:FC):SC :=
 match memP i j mt with
 |true=>.own (cI i j)
 |false=>di d
def nr(mt:List (Nat×Nat))(i:Nat):Nat->List FC->List SC
 |_,[]=>[]
 |j,d::l=>qT mt i j d::nr mt i (j+1) l
def QH(mt:List (Nat×Nat))(i:Nat):AD->SV
 |.c d=>.c (qT mt i 0 d)
 |.agg cs=>.agg (nr mt i 0 cs)
 |.box cs=>match memP i 0 mt with
  |true=>.c (.ptr (cI i 0) 0)
  |false=>.c (.rob cs 0)
 |.bb cs=>.c (.rbb cs)
 |.fv F=>.fv F
 |.fvs F _=>.fvs (cI i 0) F
 |.cut off n _=>.c (.sub (cI i 0) off n)
 |.ma _=>.c .any
def pf(mt:List (Nat×Nat)):Nat->List AD->List (Nat×SV)
 |_,[]=>[]
 |i,d::l=>(i,QH mt i d)::pf mt (i+1) l
def pg(ds:List AD)(i j:Nat):Option FC :=
 match ds[i]? with
 |some (.c d)=>match j with
  |0=>some d
  |_+1=>none
 |some (.agg cs)=>cs[j]?
 |some (.cut _ _ d)=>match j with
  |0=>some d
  |_+1=>none
 |_=>none
def gJ:FC->RC->Option Ob
 |.ints k l,.ints e k' _=>if k=k' then some (.ints e k l)else none
 |.bools l,.bools e _=>some (.bools e l)
 |.rows k l,.rows e ei k' _=>if k=k' then some (.rows 0 e ei k l)else none
 |.ints k l,.gone (.ints e k' _)=>if k=k' then some (.ints e k l)else none
 |.rows k l,.gone (.rows e ei k' _)=>if k=k' then some (.rows 0 e ei k l)else none
 |.rows k l,.gone (.lst e _)=>some (.lst 0 e (.rows k l))
 |.r3 k l,.gone (.lst e _)=>some (.lst 0 e (.r3 k l))
 |.r4 k l,.gone (.lst e _)=>some (.lst 0 e (.r4 k l))
 |d,.tr es _=>some (.tr 0 es d)
 |_,_=>none
def jR(o:Nat):Nat->List FC->List SC
 |_,[]=>[]
 |j,d::l=>(if dn d then di d else .orig o j d)::jR o (j+1) l
def nt(ds:List AD)(i j:Nat):Option (List FC) :=
 match ds[i]? with
 |some (.box cs)=>match j with
  |0=>some cs
  |_+1=>none
 |some (.fvs _ s)=>match j with
  |0=>some [.int .i64 s]
  |_+1=>none
 |_=>none
def nu(ds:List AD)(i j:Nat)(rc:RC):Option Ob :=
 match nt ds i j with
 |some cs=>match rc with
  |.bx cs'=>if cs'.length=cs.length/\cs≠[]then some (.box (jR (cI i j) 0 cs))else none
  |_=>none
 |none=>match pg ds i j with
  |some d=>gJ d rc
  |none=>none
def eo:List (Nat×Nat)->List RC->List Nat
 |x::mt,rc::wrs=>match rc.isGone with
  |true=>eo mt wrs
  |false=>cI x.1 x.2::eo mt wrs
 |_,_=>[]
def dW(mt:List (Nat×Nat)):List Nat:=mt.map fun x=>cI x.1 x.2
def jS(ds:List AD):List (Nat×Nat)->List RC->Option (List (Nat×Option Ob))
 | [],[]=>some []
 |x::mt,rc::wrs=>match nu ds x.1 x.2 rc with
  |some ob=>match jS ds mt wrs with
   |some l=>some ((cI x.1 x.2,some ob)::l)
   |none=>none
  |none=>none
 |_,_=>none
def nv(P:Program)(σ:State):ResultVar->Option SV
 |.tmp t=>σ.F t
 |.cell t T=>match σ.F t with
  |some (.c cx)=>match(uV P T cx).run σ with
   |some e=>some e.val
   |none=>none
  |_=>none
/- What comes back, laid beside what was to come: the objects that are handed wN, and what is to be shown. -/
def qU(i o:Nat)(ob:Ob)(rc:RC):Option (List (Nat×Nat)×Prop) :=
 match ob with
 |.ints e k l=>match rc with
  |.ints e' k' l'=>if e=e'/\k=k' then some ([(i,o)],l=l')else none
  |_=>none
 |.bools e l=>match rc with
  |.bools e' l'=>if e=e' then some ([(i,o)],l=l')else none
  |_=>none
 |.rows _ e ei k l=>match rc with
  |.rows e' ei' k' l'=>if e=e'/\ei=ei'/\k=k' then some ([(i,o)],l=l')else none
  |.cut off n e' ei' k' l'=>if e=e'/\ei=ei'/\k=k' then some ([(i,o)],0=off/\l.length=n/\l=l')else none
  |_=>none
 |.strs e l=>match rc with
  |.strs e' l'=>if e=e' then some ([(i,o)],l=l')else none
  |_=>none
 |.lst _ e d=>match rc with
  |.lst e' d'=>if e=e' then(match fo d d' with|some p=>some ([(i,o)],p)|none=>none)else none
  |_=>none
 |.box _=>none
 |.bx _=>none
 |.frz _=>none
 |.mp _=>none
 |.qu _ _ _=>none
 |.rowsH _ _ _ _ _ _=>none
 |.yd _ _ _ _=>none
 |.trk _ _ _ _=>none
 |.tr _ es d=>match rc with
  |.tr es' d'=>match gC es es' with
   |true=>(match fo d d' with|some p=>some ([(i,o)],p)|none=>none)
   |false=>none
  |_=>none
def QI:FC->Bool
 |.ints _ _=>true
 |.rows _ _=>true
 |.r3 _ _=>true
 |.r4 _ _=>true
 |.p3 _ _=>true
 |_=>false
def qV(i o n:Nat)(ob:Ob)(rc:RC):Option (List (Nat×Nat)×Prop) :=
 match ob with
 |.ints e k l=>match rc with
  |.ints e' k' l'=>if e=e'/\k=k' then some ([(i,o)],l.take n=l')else none
  |_=>none
 |.bools e l=>match rc with
  |.bools e' l'=>if e=e' then some ([(i,o)],l.take n=l')else none
  |_=>none
 |.rows _ e ei k l=>match rc with
  |.cut off n' e' ei' k' l'=>if e=e'/\ei=ei'/\k=k' then some ([(i,o)],0=off/\n=n'/\l=l')else none
  |_=>none
 |_=>none
def QJ(rc:RC):Option (List (Nat×Nat)×Prop) :=
 match rc with
 |.ints _ _ l=>some ([],[]=l)
 |.bools _ l=>some ([],[]=l)
 |.rows _ _ _ l=>some ([],[]=l)
 |.nilq b=>some ([],true=b)
 |.cut off n _ _ _ l=>some ([],(0=off/\0=n)/\[]=l)
 |.ro d=>match dn d with
  |true=>none
  |false=>some ([],d.len=0)
 |.lst _ d=>match dn d with
  |true=>none
  |false=>some ([],d.len=0)
 |.tr es d=>match Nat.beq es.length (d.dep+1)&&QI d with
  |true=>some ([],d.len=0)
  |false=>none
 |_=>none
def qW:RC->Option FC
 |.ro d=>some d
 |_=>none
def qX(ob:Ob)(cut:FC->Option FC)(d':FC):Option (List (Nat×Nat)×Prop) :=
 match ob with
 |.frz d=>match cut d with
  |some d0=>match fo d0 d' with
   |some p=>some ([],p)
   |none=>none
  |none=>none
 |_=>none
def qY:RC->Option Bool
 |.nilq b=>some b
 |_=>none
def kJ:List SC->List FC->Option Prop
 | [],[]=>some True
 |.int k n::cs,.int k' n'::ds=>if k=k' then(match kJ cs ds with|some p=>some (n=n'/\p)|none=>none)else none
 |.bool b::cs,.bool b'::ds=>(match kJ cs ds with|some p=>some (b=b'/\p)|none=>none)
 |.ro d::cs,d'::ds=>match fo d d' with
  |some q=>(match kJ cs ds with|some p=>some (q/\p)|none=>none)
  |none=>none
 |_,_=>none
def kK(o:Nat):Nat->List SC->List FC->Option Prop
 |_,[],[]=>some True
 |j,.int k n::cs,.int k' n'::ds=>if k=k' then(match kK o (j+1) cs ds with|some p=>some (n=n'/\p)|none=>none)else none
 |j,.bool b::cs,.bool b'::ds=>(match kK o (j+1) cs ds with|some p=>some (b=b'/\p)|none=>none)
 |j,.orig o' j' d::cs,d'::ds=>match Nat.beq o' o&&Nat.beq j' j with
  |true=>match fo d d' with
   |some q=>if dn d'=false then(match kK o (j+1) cs ds with|some p=>some (q/\p)|none=>none)else none
   |none=>none
  |false=>none
 |_,_,_=>none
def wO:RC->Option (List FC)
 |.bx ds=>some ds
 |_=>none
def qZ(σ:State)(i:Nat)(c:SC)(rc:RC):Option (List (Nat×Nat)×Prop) :=
 match c with
 |.int k n=>match rc with
  |.int k' n'=>if k=k' then some ([],n=n')else none
  |_=>none
 |.bool b=>match rc with
  |.bool b'=>some ([],b=b')
  |_=>none
 |.str l=>match rc with
  |.str l'=>some ([],l=l')
  |_=>none
 |.nil=>QJ rc
 |.own o=>match σ.H o with
  |some (some ob)=>match qW rc with
   |some d'=>qX ob some d'
   |none=>match qY rc with
    |some b=>match ob.len? with
     |some n=>some ([],false=b/\n≠0)
     |none=>none
    |none=>qU i o ob rc
  |_=>none
 |.pre o n=>match σ.H o with
  |some (some ob)=>match qW rc with
   |some d'=>qX ob (cg 0 n) d'
   |none=>qV i o n ob rc
  |_=>none
 |.sub o off n=>match σ.H o with
  |some (some ob)=>match qW rc with
   |some d'=>qX ob (cg off n) d'
   |none=>match ob with
    |.rows _ e ei k l=>match rc with
     |.cut off' n' e' ei' k' l'=>if e=e'/\ei=ei'/\k=k' then some ([(i,o)],off=off'/\n=n'/\l=l')else none
     |_=>none
    |_=>none
  |_=>none
 |.ptr o x=>match x with
  |0=>match σ.H o with
   |some (some (.box cs))=>match wO rc with
    |some ds=>match kJ cs ds with
     |some p=>some ([(i,o)],ds≠[]/\p)
     |none=>none
    |none=>none
   |_=>none
  |_+1=>none
 |.ro d=>match rc with
  |.ro d'=>match fo d d' with
   |some p=>some ([],p)
   |none=>none
  |_=>none
 |_=>none
def nw(σ:State):Nat->List SC->List RC->Option (List (Nat×Nat)×Prop)
 |_,[],[]=>some ([],True)
 |i,c::cs,rc::rcs=>match qZ σ i c rc with
  |some (u,p)=>match nw σ (i+1) cs rcs with
   |some (us,q)=>some (u++us,p/\q)
   |none=>none
  |none=>none
 |_,_,_=>none
def ph(σ:State)(i:Nat)(sv:SV)(x:RC ⊕ List RC):Option (List (Nat×Nat)×Prop) :=
 match x with
 |.inl rc=>match sv with
  |.c c=>qZ σ i c rc
  |_=>none
 |.inr rcs=>match sv with
  |.agg cs=>if rcs.length<=16 then nw σ i cs rcs else none
  |_=>none
def pi(σ:State):Nat->List SV->List (RC ⊕ List RC)->Option (List (Nat×Nat)×Prop)
 |_,[],[]=>some ([],True)
 |i,sv::svs,x::xs=>match ph σ (16*i) sv x with
  |some (u,p)=>match pi σ (i+1) svs xs with
   |some (us,q)=>some (u++us,p/\q)
   |none=>none
  |none=>none
 |_,_,_=>none
def wP(σ:State)(svs:List SV)(rv:RV):Option (List (Nat×Nat)×Prop) :=
 match rv with
 |.c x=>match svs with
  | [.c c]=>qZ σ 0 c x
  |_=>none
 |.agg l=>match svs with
  | [.agg cs]=>nw σ 0 cs l
  |_=>none
 |.tup l=>match svs with
  | [_]=>none
  |svs=>pi σ 0 svs l
 |.st _ _ _=>none
def wQ(σ:State)(c:SC)(rc:RC):List (Nat×Option Ob) :=
 match c,rc with
 |.own o,.ro _=>lQ σ o
 |.pre o _,.ro _=>lQ σ o
 |.sub o _ _,.ro _=>lQ σ o
 |.own o,.lst _ _=>wz σ o
 |_,_=>[]
def Id(σ:State):List SC->List RC->List (Nat×Option Ob)
 |c::cs,rc::rcs=>wQ σ c rc++Id σ cs rcs
 |_,_=>[]
def re(σ:State)(sv:SV)(x:RC ⊕ List RC):List (Nat×Option Ob) :=
 match x with
 |.inl rc=>match sv with
  |.c c=>wQ σ c rc
  |_=>[]
 |.inr rcs=>match sv with
  |.agg cs=>Id σ cs rcs
  |_=>[]
def Ie(σ:State):List SV->List (RC ⊕ List RC)->List (Nat×Option Ob)
 |sv::svs,x::xs=>re σ sv x++Ie σ svs xs
 |_,_=>[]
def If(σ:State)(svs:List SV)(rv:RV):List (Nat×Option Ob) :=
 match rv with
 |.c x=>match svs with
  | [sv]=>re σ sv (.inl x)
  |_=>[]
 |.agg l=>match svs with
  | [sv]=>re σ sv (.inr l)
  |_=>[]
 |.tup l=>Ie σ svs l
 |.st _ _ _=>[]
def lV(σ:State)(svs:List SV)(rv:RV):State:=⟨σ.fr,jQ (If σ svs rv)++σ.hp⟩
def ia(o:Nat)(ob:Ob)(rc:RC):Option Prop :=
 match ob with
 |.ints e k l=>match rc with
  |.ints e' k' l'=>if e=e'/\k=k' then some (l=l')else none
  |_=>none
 |.bools e l=>match rc with
  |.bools e' l'=>if e=e' then some (l=l')else none
  |_=>none
 |.rows ver e ei k l=>match rc with
  |.rows e' ei' k' l'=>if ver=0/\e=e'/\ei=ei'/\k=k' then some (l=l')else none
  |_=>none
 |.bx _=>none
 |.strs _ _=>none
 |.lst _ _ _=>none
 |.frz _=>none
 |.mp _=>none
 |.qu _ _ _=>none
 |.rowsH _ _ _ _ _ _=>none
 |.yd _ _ _ _=>none
 |.trk _ _ _ _=>none
 |.tr ver es d=>match rc with
  |.tr es' d'=>match Nat.beq ver 0&&gC es es' with
   |true=>fo d d'
   |false=>none
  |_=>none
 |.box cs=>match wO rc with
  |some ds=>kK o 0 cs ds
  |none=>none
def nz(σ:State):List Nat->List RC->Option Prop
 | [],[]=>some True
 |o::os,rc::rcs=>match σ.H o with
  |some (some ob)=>match ia o ob rc with
   |some p=>match nz σ os rcs with
    |some q=>some (p/\q)
    |none=>none
   |none=>none
  |_=>none
 |_,_=>none
def rh(ps:List Nat):List (Nat×Nat)->Bool
 | []=>true
 |(_,o)::l=>cA o ps&&rh ps l
def lW:List RC->List RC
 | []=>[]
 |rc::l=>match rc.isGone with
  |true=>lW l
  |false=>rc::lW l
def Ig(P:Program)(rvs:List ResultVar)(mt:List (Nat×Nat))(p:Post)(e:Exit)(σ:State):Prop :=
 match e with
 |.normal|.ret=>match ec (nv P σ) rvs with
  |none=>False
  |some svs=>match wP (lV σ svs p.ret) svs p.ret with
   |none=>False
   |some (us,q)=>match fm (us.map (·.2))with
    |false=>False
    |true=>match rh (eo mt p.wrs) us with
     |false=>False
     |true=>match nz (lV σ svs p.ret) (eo mt p.wrs) (lW p.wrs)with
      |none=>False
      |some q'=>q/\q'
 |_=>False
def aM(P:Program)(Γ:FuncId->Option Ctr)(wr:Nat->Bool)(ann:Nat->Option Ann)(fn:Func)(c:Code)(mt:List (Nat×Nat))(ds:List AD)(p:Post):Prop :=
 match jS ds mt p.wrs with
 |none=>False
 |some hp=>em ⟨P,Γ,wr,ds.length+(fn.ntmps-ds.length),eo mt p.wrs,false⟩ c 0 ann ⟨pf mt 0 ds,hp⟩ (Ig P fn.results.toList mt p)
section
variable {C:Cx} {σ:State} {mu:Nat->Img} {a:Act} {w:World}
def lX:List Value->Value
 | [v]=>v
 |vs=>.tuple vs.toArray
theorem ab6{P:Program}{T:TypeId}{x v:Value}(h:(Instr.loadAt T x).run P w=.ok v w):(do loadVar T (<-asAddr x):Sem Value).run P w=.ok v w:=by
 unfold Instr.loadAt at h;cases x with
 |pointer a =>
  cases a with
  |some a=>simpa[asAddr,Instr.sureAddr]using h
  |none=>simp[Instr.sureAddr]at h
 |_=>simp[Instr.sureAddr]at h
def wR(tmps:Array Value):ResultVar->Sem Value
 |.tmp t=>pure (tmps.getD t undef)
 |.cell p t=>do loadVar t (<-asAddr (tmps.getD p undef))
theorem ab7{r:ResultVar}{sv:SV}(hr:nv C.P σ r=some sv)(h:St C σ mu a w) :
  ∃v,(wR a.tmps r).run C.P w=.ok v w/\av C.P (σ.env C.wF mu) sv v:=by
 cases r with
 |tmp t=>exact⟨_,rfl,h.fr t sv hr⟩
 |cell t T =>
  simp only[nv]at hr;split at hr
  ·rename_i cx hcx
   split at hr
   ·rename_i e he
    cases hr;obtain⟨_,v,h1,h2⟩:=ON he (h.fr t _ hcx) h;exact⟨v,ab6 h1,h2⟩
   ·cases hr
  ·cases hr
theorem QK{fn:Func}{svs:List SV}(hr:ec (nv C.P σ) fn.results.toList=some svs)(h:St C σ mu a w) :
  ∃vs:List Value,vs.length=svs.length/\(results fn a.tmps).run C.P w=.ok (lX vs) w /\
   ∀(i:Nat) (sv:SV),svs[i]?=some sv->∃v,vs[i]?=some v/\av C.P (σ.env C.wF mu) sv v:=by
 obtain⟨hl,hs⟩:=g8 hr;have hex:∀r∈fn.results,∃v,(wR a.tmps r).run C.P w=.ok v w /\
   ∀sv,nv C.P σ r=some sv->av C.P (σ.env C.wF mu) sv v:=by
  intro r hm
  obtain⟨i,hi⟩:=Ah (Dn.2 hm);have ψ:i<svs.length:=by rw[hl];exact(AN.1 hi).1
  obtain⟨x,h1,h2⟩:=hs i _ (AF ψ);rw[hi]at h1;cases h1;obtain⟨v,h3,h4⟩:=ab7 h2 h;exact⟨v,h3,fun sv hsv=>by rw[h2]at hsv;cases hsv;exact h4⟩
 classical
 let g':ResultVar->Value:=fun r=>if hm:r∈fn.results then Classical.choose (hex r hm)else undef
 have hg:∀r,(hm:r∈fn.results)->g' r=Classical.choose (hex r hm):=fun r hm=>by simp only[g',hm,dite_true]
 have hmap:=Pg (P:=C.P) (w:=w) (g:=wR a.tmps) (g':=g') fn.results
  (fun r hm=>by rw[hg r hm];exact(Classical.choose_spec (hex r hm)).1)
 refine⟨fn.results.toList.map g',by simp[hl],?_,fun i sv hi=>?_⟩
 ·have hres:results fn a.tmps=(do let vs <-fn.results.mapM (wR a.tmps);pure (if h:vs.size=1 then vs[0]else .tuple vs)):=by
   unfold results
   congr 1
  rw[hres,Sem.run_bind,hmap];simp only[Result.andThen];generalize fn.results=rs
  obtain⟨l⟩:=rs;match l with
  | []=>simp[lX]
  | [x]=>simp[lX]
  |x::y::l=>simp[lX]
 ·obtain⟨x,h1,h2⟩:=hs i sv hi
  have hm:x∈fn.results:=Dn.1 (AK h1)
  refine⟨g' x,by rw[Ai,h1];rfl,?_⟩
  rw[hg x hm];exact(Classical.choose_spec (hex x hm)).2 sv h2
end
end Go.Sx
