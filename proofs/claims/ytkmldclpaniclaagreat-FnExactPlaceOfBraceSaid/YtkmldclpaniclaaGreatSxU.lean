/- SxU -/
import Derived.Test.YtkmldclpaniclaaGreatSxT
set_option linter.unusedSimpArgs false
set_option linter.unusedVariables false
namespace Go.Sx
open Go.RowKit
def cr(i j:Nat):Nat:=700+16*i+j
def pU(mt:List (Nat×Nat))(i j:Nat)(d:FC):SC :=
 match memP i j mt with
 |true=>.own (cr i j)
 |false=>dg d
def my(mt:List (Nat×Nat))(i:Nat):Nat->List FC->List SC
 |_,[]=>[]
 |j,d::l=>pU mt i j d::my mt i (j+1) l
def LJ(mt:List (Nat×Nat))(i:Nat):AD->SV
 |.c d=>.c (pU mt i 0 d)
 |.agg cs=>.agg (my mt i 0 cs)
 |.box cs=>match memP i 0 mt with
  |true=>.c (.ptr (cr i 0) 0)
  |false=>.c (.rob cs 0)
 |.bb cs=>.c (.rbb cs)
 |.fv F=>.fv F
 |.fvs F _=>.fvs (cr i 0) F
 |.cut off n _=>.c (.sub (cr i 0) off n)
 |.ma _=>.c .any
def oe(mt:List (Nat×Nat)):Nat->List AD->List (Nat×SV)
 |_,[]=>[]
 |i,d::l=>(i,LJ mt i d)::oe mt (i+1) l
def og(ds:List AD)(i j:Nat):Option FC :=
 match ds[i]? with
 |some (.c d)=>match j with
  |0=>some d
  |_+1=>none
 |some (.agg cs)=>cs[j]?
 |some (.cut _ _ d)=>match j with
  |0=>some d
  |_+1=>none
 |_=>none
def ga:FC->RC->Option Ob
 |.ints k l,.ints e k' _=>if k=k' then some (.ints e k l)else none
 |.bools l,.bools e _=>some (.bools e l)
 |.rows k l,.rows e ei k' _=>if k=k' then some (.rows 0 e ei k l)else none
 |.ints k l,.gone (.ints e k' _)=>if k=k' then some (.ints e k l)else none
 |.rows k l,.gone (.rows e ei k' _)=>if k=k' then some (.rows 0 e ei k l)else none
 |.rows k l,.gone (.lst e _)=>some (.lst 0 e (.rows k l))
 |.r3 k l,.gone (.lst e _)=>some (.lst 0 e (.r3 k l))
 |.r4 k l,.gone (.lst e _)=>some (.lst 0 e (.r4 k l))
 |d,.tr es _=>some (.tr 0 es d)
 |_,_=>none
def jl(o:Nat):Nat->List FC->List SC
 |_,[]=>[]
 |j,d::l=>(if dL d then dg d else .orig o j d)::jl o (j+1) l
def mz(ds:List AD)(i j:Nat):Option (List FC) :=
 match ds[i]? with
 |some (.box cs)=>match j with
  |0=>some cs
  |_+1=>none
 |some (.fvs _ s)=>match j with
  |0=>some [.int .i64 s]
  |_+1=>none
 |_=>none
def mA(ds:List AD)(i j:Nat)(rc:RC):Option Ob :=
 match mz ds i j with
 |some cs=>match rc with
  |.bx cs'=>if cs'.length=cs.length/\cs≠[]then some (.box (jl (cr i j) 0 cs))else none
  |_=>none
 |none=>match og ds i j with
  |some d=>ga d rc
  |none=>none
def dY:List (Nat×Nat)->List RC->List Nat
 |x::mt,rc::wrs=>match rc.isGone with
  |true=>dY mt wrs
  |false=>cr x.1 x.2::dY mt wrs
 |_,_=>[]
def dO(mt:List (Nat×Nat)):List Nat:=mt.map fun x=>cr x.1 x.2
def jm(ds:List AD):List (Nat×Nat)->List RC->Option (List (Nat×Option Ob))
 | [],[]=>some []
 |x::mt,rc::wrs=>match mA ds x.1 x.2 rc with
  |some ob=>match jm ds mt wrs with
   |some l=>some ((cr x.1 x.2,some ob)::l)
   |none=>none
  |none=>none
 |_,_=>none
def mB(P:Program)(σ:State):ResultVar->Option SV
 |.tmp t=>σ.F t
 |.cell t T=>match σ.F t with
  |some (.c cx)=>match(tY P T cx).run σ with
   |some e=>some e.val
   |none=>none
  |_=>none
/- What comes back, laid beside what was to come: the objects that are handed vK, and what is to be shown. -/
def pV(i o:Nat)(ob:Ob)(rc:RC):Option (List (Nat×Nat)×Prop) :=
 match ob with
 |.ints e k l=>match rc with
  |.ints e' k' l'=>if e=e'/\k=k' then some ([(i,o)],l=l')else none
  |_=>none
 |.bools e l=>match rc with
  |.bools e' l'=>if e=e' then some ([(i,o)],l=l')else none
  |_=>none
 |.rows _ e ei k l=>match rc with
  |.rows e' ei' k' l'=>if e=e'/\ei=ei'/\k=k' then some ([(i,o)],l=l')else none
  |.cut off n e' ei' k' l'=>if e=e'/\ei=ei'/\k=k' then some ([(i,o)],0=off/\l.length=n/\l=l')else none
  |_=>none
 |.strs e l=>match rc with
  |.strs e' l'=>if e=e' then some ([(i,o)],l=l')else none
  |_=>none
 |.lst _ e d=>match rc with
  |.lst e' d'=>if e=e' then(match eQ d d' with|some p=>some ([(i,o)],p)|none=>none)else none
  |_=>none
 |.box _=>none
 |.bx _=>none
 |.frz _=>none
 |.mp _=>none
 |.qu _ _ _=>none
 |.rowsH _ _ _ _ _ _=>none
 |.yd _ _ _ _=>none
 |.trk _ _ _ _=>none
 |.tr _ es d=>match rc with
  |.tr es' d'=>match fL es es' with
   |true=>(match eQ d d' with|some p=>some ([(i,o)],p)|none=>none)
   |false=>none
  |_=>none
def LK:FC->Bool
 |.ints _ _=>true
 |.rows _ _=>true
 |.r3 _ _=>true
 |.r4 _ _=>true
 |.p3 _ _=>true
 |_=>false
def pW(i o n:Nat)(ob:Ob)(rc:RC):Option (List (Nat×Nat)×Prop) :=
 match ob with
 |.ints e k l=>match rc with
  |.ints e' k' l'=>if e=e'/\k=k' then some ([(i,o)],l.take n=l')else none
  |_=>none
 |.bools e l=>match rc with
  |.bools e' l'=>if e=e' then some ([(i,o)],l.take n=l')else none
  |_=>none
 |.rows _ e ei k l=>match rc with
  |.cut off n' e' ei' k' l'=>if e=e'/\ei=ei'/\k=k' then some ([(i,o)],0=off/\n=n'/\l=l')else none
  |_=>none
 |_=>none
def LL(rc:RC):Option (List (Nat×Nat)×Prop) :=
 match rc with
 |.ints _ _ l=>some ([],[]=l)
 |.bools _ l=>some ([],[]=l)
 |.rows _ _ _ l=>some ([],[]=l)
 |.nilq b=>some ([],true=b)
 |.cut off n _ _ _ l=>some ([],(0=off/\0=n)/\[]=l)
 |.ro d=>match dL d with
  |true=>none
  |false=>some ([],d.len=0)
 |.lst _ d=>match dL d with
  |true=>none
  |false=>some ([],d.len=0)
 |.tr es d=>match Nat.beq es.length (d.dep+1)&&LK d with
  |true=>some ([],d.len=0)
  |false=>none
 |_=>none
def pX:RC->Option FC
 |.ro d=>some d
 |_=>none
def pY(ob:Ob)(cut:FC->Option FC)(d':FC):Option (List (Nat×Nat)×Prop) :=
 match ob with
 |.frz d=>match cut d with
  |some d0=>match eQ d0 d' with
   |some p=>some ([],p)
   |none=>none
  |none=>none
 |_=>none
def pZ:RC->Option Bool
 |.nilq b=>some b
 |_=>none
def jY:List SC->List FC->Option Prop
 | [],[]=>some True
 |.int k n::cs,.int k' n'::ds=>if k=k' then(match jY cs ds with|some p=>some (n=n'/\p)|none=>none)else none
 |.bool b::cs,.bool b'::ds=>(match jY cs ds with|some p=>some (b=b'/\p)|none=>none)
 |.ro d::cs,d'::ds=>match eQ d d' with
  |some q=>(match jY cs ds with|some p=>some (q/\p)|none=>none)
  |none=>none
 |_,_=>none
def jZ(o:Nat):Nat->List SC->List FC->Option Prop
 |_,[],[]=>some True
 |j,.int k n::cs,.int k' n'::ds=>if k=k' then(match jZ o (j+1) cs ds with|some p=>some (n=n'/\p)|none=>none)else none
 |j,.bool b::cs,.bool b'::ds=>(match jZ o (j+1) cs ds with|some p=>some (b=b'/\p)|none=>none)
 |j,.orig o' j' d::cs,d'::ds=>match Nat.beq o' o&&Nat.beq j' j with
  |true=>match eQ d d' with
   |some q=>if dL d'=false then(match jZ o (j+1) cs ds with|some p=>some (q/\p)|none=>none)else none
   |none=>none
  |false=>none
 |_,_,_=>none
def vL:RC->Option (List FC)
 |.bx ds=>some ds
 |_=>none
def p9(σ:State)(i:Nat)(c:SC)(rc:RC):Option (List (Nat×Nat)×Prop) :=
 match c with
 |.int k n=>match rc with
  |.int k' n'=>if k=k' then some ([],n=n')else none
  |_=>none
 |.bool b=>match rc with
  |.bool b'=>some ([],b=b')
  |_=>none
 |.str l=>match rc with
  |.str l'=>some ([],l=l')
  |_=>none
 |.nil=>LL rc
 |.own o=>match σ.H o with
  |some (some ob)=>match pX rc with
   |some d'=>pY ob some d'
   |none=>match pZ rc with
    |some b=>match ob.len? with
     |some n=>some ([],false=b/\n≠0)
     |none=>none
    |none=>pV i o ob rc
  |_=>none
 |.pre o n=>match σ.H o with
  |some (some ob)=>match pX rc with
   |some d'=>pY ob (bZ 0 n) d'
   |none=>pW i o n ob rc
  |_=>none
 |.sub o off n=>match σ.H o with
  |some (some ob)=>match pX rc with
   |some d'=>pY ob (bZ off n) d'
   |none=>match ob with
    |.rows _ e ei k l=>match rc with
     |.cut off' n' e' ei' k' l'=>if e=e'/\ei=ei'/\k=k' then some ([(i,o)],off=off'/\n=n'/\l=l')else none
     |_=>none
    |_=>none
  |_=>none
 |.ptr o x=>match x with
  |0=>match σ.H o with
   |some (some (.box cs))=>match vL rc with
    |some ds=>match jY cs ds with
     |some p=>some ([(i,o)],ds≠[]/\p)
     |none=>none
    |none=>none
   |_=>none
  |_+1=>none
 |.ro d=>match rc with
  |.ro d'=>match eQ d d' with
   |some p=>some ([],p)
   |none=>none
  |_=>none
 |_=>none
def mC(σ:State):Nat->List SC->List RC->Option (List (Nat×Nat)×Prop)
 |_,[],[]=>some ([],True)
 |i,c::cs,rc::rcs=>match p9 σ i c rc with
  |some (u,p)=>match mC σ (i+1) cs rcs with
   |some (us,q)=>some (u++us,p/\q)
   |none=>none
  |none=>none
 |_,_,_=>none
def oh(σ:State)(i:Nat)(sv:SV)(x:RC ⊕ List RC):Option (List (Nat×Nat)×Prop) :=
 match x with
 |.inl rc=>match sv with
  |.c c=>p9 σ i c rc
  |_=>none
 |.inr rcs=>match sv with
  |.agg cs=>if rcs.length<=16 then mC σ i cs rcs else none
  |_=>none
def ol(σ:State):Nat->List SV->List (RC ⊕ List RC)->Option (List (Nat×Nat)×Prop)
 |_,[],[]=>some ([],True)
 |i,sv::svs,x::xs=>match oh σ (16*i) sv x with
  |some (u,p)=>match ol σ (i+1) svs xs with
   |some (us,q)=>some (u++us,p/\q)
   |none=>none
  |none=>none
 |_,_,_=>none
def vM(σ:State)(svs:List SV)(rv:RV):Option (List (Nat×Nat)×Prop) :=
 match rv with
 |.c x=>match svs with
  | [.c c]=>p9 σ 0 c x
  |_=>none
 |.agg l=>match svs with
  | [.agg cs]=>mC σ 0 cs l
  |_=>none
 |.tup l=>match svs with
  | [_]=>none
  |svs=>ol σ 0 svs l
 |.st _ _ _=>none
def vN(σ:State)(c:SC)(rc:RC):List (Nat×Option Ob) :=
 match c,rc with
 |.own o,.ro _=>kO σ o
 |.pre o _,.ro _=>kO σ o
 |.sub o _ _,.ro _=>kO σ o
 |.own o,.lst _ _=>vA σ o
 |_,_=>[]
def DM(σ:State):List SC->List RC->List (Nat×Option Ob)
 |c::cs,rc::rcs=>vN σ c rc++DM σ cs rcs
 |_,_=>[]
def qa(σ:State)(sv:SV)(x:RC ⊕ List RC):List (Nat×Option Ob) :=
 match x with
 |.inl rc=>match sv with
  |.c c=>vN σ c rc
  |_=>[]
 |.inr rcs=>match sv with
  |.agg cs=>DM σ cs rcs
  |_=>[]
def DN(σ:State):List SV->List (RC ⊕ List RC)->List (Nat×Option Ob)
 |sv::svs,x::xs=>qa σ sv x++DN σ svs xs
 |_,_=>[]
def DO(σ:State)(svs:List SV)(rv:RV):List (Nat×Option Ob) :=
 match rv with
 |.c x=>match svs with
  | [sv]=>qa σ sv (.inl x)
  |_=>[]
 |.agg l=>match svs with
  | [sv]=>qa σ sv (.inr l)
  |_=>[]
 |.tup l=>DN σ svs l
 |.st _ _ _=>[]
def kT(σ:State)(svs:List SV)(rv:RV):State:=⟨σ.fr,jk (DO σ svs rv)++σ.hp⟩
def gG(o:Nat)(ob:Ob)(rc:RC):Option Prop :=
 match ob with
 |.ints e k l=>match rc with
  |.ints e' k' l'=>if e=e'/\k=k' then some (l=l')else none
  |_=>none
 |.bools e l=>match rc with
  |.bools e' l'=>if e=e' then some (l=l')else none
  |_=>none
 |.rows ver e ei k l=>match rc with
  |.rows e' ei' k' l'=>if ver=0/\e=e'/\ei=ei'/\k=k' then some (l=l')else none
  |_=>none
 |.bx _=>none
 |.strs _ _=>none
 |.lst _ _ _=>none
 |.frz _=>none
 |.mp _=>none
 |.qu _ _ _=>none
 |.rowsH _ _ _ _ _ _=>none
 |.yd _ _ _ _=>none
 |.trk _ _ _ _=>none
 |.tr ver es d=>match rc with
  |.tr es' d'=>match Nat.beq ver 0&&fL es es' with
   |true=>eQ d d'
   |false=>none
  |_=>none
 |.box cs=>match vL rc with
  |some ds=>jZ o 0 cs ds
  |none=>none
def mD(σ:State):List Nat->List RC->Option Prop
 | [],[]=>some True
 |o::os,rc::rcs=>match σ.H o with
  |some (some ob)=>match gG o ob rc with
   |some p=>match mD σ os rcs with
    |some q=>some (p/\q)
    |none=>none
   |none=>none
  |_=>none
 |_,_=>none
def qb(ps:List Nat):List (Nat×Nat)->Bool
 | []=>true
 |(_,o)::l=>cb o ps&&qb ps l
def kU:List RC->List RC
 | []=>[]
 |rc::l=>match rc.isGone with
  |true=>kU l
  |false=>rc::kU l
def DP(P:Program)(rvs:List ResultVar)(mt:List (Nat×Nat))(p:Post)(e:Exit)(σ:State):Prop :=
 match e with
 |.normal|.ret=>match em (mB P σ) rvs with
  |none=>False
  |some svs=>match vM (kT σ svs p.ret) svs p.ret with
   |none=>False
   |some (us,q)=>match fe (us.map (·.2))with
    |false=>False
    |true=>match qb (dY mt p.wrs) us with
     |false=>False
     |true=>match mD (kT σ svs p.ret) (dY mt p.wrs) (kU p.wrs)with
      |none=>False
      |some q'=>q/\q'
 |_=>False
def aJ(P:Program)(Γ:FuncId->Option Ctr)(wr:Nat->Bool)(ann:Nat->Option Ann)(fn:Func)(c:Code)(mt:List (Nat×Nat))(ds:List AD)(p:Post):Prop :=
 match jm ds mt p.wrs with
 |none=>False
 |some hp=>dX ⟨P,Γ,wr,ds.length+(fn.ntmps-ds.length),dY mt p.wrs,false⟩ c 0 ann ⟨oe mt 0 ds,hp⟩ (DP P fn.results.toList mt p)
section
variable {C:Cx} {σ:State} {mu:Nat->Img} {a:Act} {w:World}
def kV:List Value->Value
 | [v]=>v
 |vs=>.tuple vs.toArray
theorem VQ{P:Program}{T:TypeId}{x v:Value}(h:(Instr.loadAt T x).run P w=.ok v w):(do loadVar T (<-asAddr x):Sem Value).run P w=.ok v w:=by
 unfold Instr.loadAt at h;cases x with
 |pointer a =>
  cases a with
  |some a=>simpa[asAddr,Instr.sureAddr]using h
  |none=>simp[Instr.sureAddr]at h
 |_=>simp[Instr.sureAddr]at h
def vO(tmps:Array Value):ResultVar->Sem Value
 |.tmp t=>pure (tmps.getD t undef)
 |.cell p t=>do loadVar t (<-asAddr (tmps.getD p undef))
theorem VR{r:ResultVar}{sv:SV}(hr:mB C.P σ r=some sv)(h:St C σ mu a w) :
  ∃v,(vO a.tmps r).run C.P w=.ok v w/\av C.P (σ.env C.wF mu) sv v:=by
 cases r with
 |tmp t=>exact⟨_,rfl,h.fr t sv hr⟩
 |cell t T =>
  simp only[mB]at hr;split at hr
  ·rename_i cx hcx
   split at hr
   ·rename_i e he
    cases hr;obtain⟨_,v,h1,h2⟩:=JF he (h.fr t _ hcx) h;exact⟨v,VQ h1,h2⟩
   ·cases hr
  ·cases hr
theorem LM{fn:Func}{svs:List SV}(hr:em (mB C.P σ) fn.results.toList=some svs)(h:St C σ mu a w) :
  ∃vs:List Value,vs.length=svs.length/\(results fn a.tmps).run C.P w=.ok (kV vs) w /\
   ∀(i:Nat) (sv:SV),svs[i]?=some sv->∃v,vs[i]?=some v/\av C.P (σ.env C.wF mu) sv v:=by
 obtain⟨hl,hs⟩:=jb hr;have hex:∀r∈fn.results,∃v,(vO a.tmps r).run C.P w=.ok v w /\
   ∀sv,mB C.P σ r=some sv->av C.P (σ.env C.wF mu) sv v:=by
  intro r hm
  obtain⟨i,hi⟩:=List.getElem?_of_mem (Array.mem_toList_iff.2 hm);have hlt:i<svs.length:=by rw[hl];exact(List.getElem?_eq_some_iff.1 hi).1
  obtain⟨x,h1,h2⟩:=hs i _ (List.getElem?_eq_getElem hlt);rw[hi]at h1;cases h1;obtain⟨v,h3,h4⟩:=VR h2 h;exact⟨v,h3,fun sv hsv=>by rw[h2]at hsv;cases hsv;exact h4⟩
 classical
 let g':ResultVar->Value:=fun r=>if hm:r∈fn.results then Classical.choose (hex r hm)else undef
 have hg:∀r,(hm:r∈fn.results)->g' r=Classical.choose (hex r hm):=fun r hm=>by simp only[g',hm,dite_true]
 have hmap:=J0 (P:=C.P) (w:=w) (g:=vO a.tmps) (g':=g') fn.results
  (fun r hm=>by rw[hg r hm];exact(Classical.choose_spec (hex r hm)).1)
 refine⟨fn.results.toList.map g',by simp[hl],?_,fun i sv hi=>?_⟩
 ·have hres:results fn a.tmps=(do let vs <-fn.results.mapM (vO a.tmps);pure (if h:vs.size=1 then vs[0]else .tuple vs)):=by
   unfold results
   congr 1
  rw[hres,Sem.run_bind,hmap];simp only[Result.andThen];generalize fn.results=rs
  obtain⟨l⟩:=rs;match l with
  | []=>simp[kV]
  | [x]=>simp[kV]
  |x::y::l=>simp[kV]
 ·obtain⟨x,h1,h2⟩:=hs i sv hi
  have hm:x∈fn.results:=Array.mem_toList_iff.1 (List.mem_of_getElem? h1)
  refine⟨g' x,by rw[List.getElem?_map,h1];rfl,?_⟩
  rw[hg x hm];exact(Classical.choose_spec (hex x hm)).2 sv h2
end
end Go.Sx
