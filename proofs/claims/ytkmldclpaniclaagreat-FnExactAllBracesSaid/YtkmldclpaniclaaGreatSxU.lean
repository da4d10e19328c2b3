/- SxU -/
import Derived.Test.YtkmldclpaniclaaGreatSxT
set_option linter.unusedSimpArgs false
set_option linter.unusedVariables false
namespace Go.Sx
open Go.RowKit
def cj(i j:Nat):Nat:=700+16*i+j
def po(mt:List (Nat×Nat))(i j:Nat)(d:FC):SC :=
 match memP i j mt with
 |true=>.own (cj i j)
 |false=>da d
def lY(mt:List (Nat×Nat))(i:Nat):Nat->List FC->List SC
 |_,[]=>[]
 |j,d::l=>po mt i j d::lY mt i (j+1) l
def Jx(mt:List (Nat×Nat))(i:Nat):AD->SV
 |.c d=>.c (po mt i 0 d)
 |.agg cs=>.agg (lY mt i 0 cs)
 |.box cs=>match memP i 0 mt with
  |true=>.c (.ptr (cj i 0) 0)
  |false=>.c (.rob cs 0)
 |.bb cs=>.c (.rbb cs)
 |.fv F=>.fv F
 |.fvs F _=>.fvs (cj i 0) F
 |.cut off n _=>.c (.sub (cj i 0) off n)
 |.ma _=>.c .any
def nH(mt:List (Nat×Nat)):Nat->List AD->List (Nat×SV)
 |_,[]=>[]
 |i,d::l=>(i,Jx mt i d)::nH mt (i+1) l
def nI(ds:List AD)(i j:Nat):Option FC :=
 match ds[i]? with
 |some (.c d)=>match j with
  |0=>some d
  |_+1=>none
 |some (.agg cs)=>cs[j]?
 |some (.cut _ _ d)=>match j with
  |0=>some d
  |_+1=>none
 |_=>none
def fV:FC->RC->Option Ob
 |.ints k l,.ints e k' _=>if k=k' then some (.ints e k l)else none
 |.bools l,.bools e _=>some (.bools e l)
 |.rows k l,.rows e ei k' _=>if k=k' then some (.rows 0 e ei k l)else none
 |.ints k l,.gone (.ints e k' _)=>if k=k' then some (.ints e k l)else none
 |.rows k l,.gone (.rows e ei k' _)=>if k=k' then some (.rows 0 e ei k l)else none
 |.rows k l,.gone (.lst e _)=>some (.lst 0 e (.rows k l))
 |.r3 k l,.gone (.lst e _)=>some (.lst 0 e (.r3 k l))
 |.r4 k l,.gone (.lst e _)=>some (.lst 0 e (.r4 k l))
 |d,.tr es _=>some (.tr 0 es d)
 |_,_=>none
def ja(o:Nat):Nat->List FC->List SC
 |_,[]=>[]
 |j,d::l=>(if dH d then da d else .orig o j d)::ja o (j+1) l
def lZ(ds:List AD)(i j:Nat):Option (List FC) :=
 match ds[i]? with
 |some (.box cs)=>match j with
  |0=>some cs
  |_+1=>none
 |some (.fvs _ s)=>match j with
  |0=>some [.int .i64 s]
  |_+1=>none
 |_=>none
def l7(ds:List AD)(i j:Nat)(rc:RC):Option Ob :=
 match lZ ds i j with
 |some cs=>match rc with
  |.bx cs'=>if cs'.length=cs.length/\cs≠[]then some (.box (ja (cj i j) 0 cs))else none
  |_=>none
 |none=>match nI ds i j with
  |some d=>fV d rc
  |none=>none
def dU:List (Nat×Nat)->List RC->List Nat
 |x::mt,rc::wrs=>match rc.isGone with
  |true=>dU mt wrs
  |false=>cj x.1 x.2::dU mt wrs
 |_,_=>[]
def dJ(mt:List (Nat×Nat)):List Nat:=mt.map fun x=>cj x.1 x.2
def jb(ds:List AD):List (Nat×Nat)->List RC->Option (List (Nat×Option Ob))
 | [],[]=>some []
 |x::mt,rc::wrs=>match l7 ds x.1 x.2 rc with
  |some ob=>match jb ds mt wrs with
   |some l=>some ((cj x.1 x.2,some ob)::l)
   |none=>none
  |none=>none
 |_,_=>none
def l8(P:Program)(σ:State):ResultVar->Option SV
 |.tmp t=>σ.F t
 |.cell t T=>match σ.F t with
  |some (.c cx)=>match(sy P T cx).run σ with
   |some e=>some e.val
   |none=>none
  |_=>none
/- What comes back, laid beside what was to come: the objects that are handed uw, and what is to be shown. -/
def pq(i o:Nat)(ob:Ob)(rc:RC):Option (List (Nat×Nat)×Prop) :=
 match ob with
 |.ints e k l=>match rc with
  |.ints e' k' l'=>if e=e'/\k=k' then some ([(i,o)],l=l')else none
  |_=>none
 |.bools e l=>match rc with
  |.bools e' l'=>if e=e' then some ([(i,o)],l=l')else none
  |_=>none
 |.rows _ e ei k l=>match rc with
  |.rows e' ei' k' l'=>if e=e'/\ei=ei'/\k=k' then some ([(i,o)],l=l')else none
  |.cut off n e' ei' k' l'=>if e=e'/\ei=ei'/\k=k' then some ([(i,o)],0=off/\l.length=n/\l=l')else none
  |_=>none
 |.strs e l=>match rc with
  |.strs e' l'=>if e=e' then some ([(i,o)],l=l')else none
  |_=>none
 |.lst _ e d=>match rc with
  |.lst e' d'=>if e=e' then(match eI d d' with|some p=>some ([(i,o)],p)|none=>none)else none
  |_=>none
 |.box _=>none
 |.bx _=>none
 |.frz _=>none
 |.mp _=>none
 |.qu _ _ _=>none
 |.rowsH _ _ _ _ _ _=>none
 |.yd _ _ _ _=>none
 |.trk _ _ _ _=>none
 |.tr _ es d=>match rc with
  |.tr es' d'=>match fE es es' with
   |true=>(match eI d d' with|some p=>some ([(i,o)],p)|none=>none)
   |false=>none
  |_=>none
def Jy:FC->Bool
 |.ints _ _=>true
 |.rows _ _=>true
 |.r3 _ _=>true
 |.r4 _ _=>true
 |.p3 _ _=>true
 |_=>false
def pu(i o n:Nat)(ob:Ob)(rc:RC):Option (List (Nat×Nat)×Prop) :=
 match ob with
 |.ints e k l=>match rc with
  |.ints e' k' l'=>if e=e'/\k=k' then some ([(i,o)],l.take n=l')else none
  |_=>none
 |.bools e l=>match rc with
  |.bools e' l'=>if e=e' then some ([(i,o)],l.take n=l')else none
  |_=>none
 |.rows _ e ei k l=>match rc with
  |.cut off n' e' ei' k' l'=>if e=e'/\ei=ei'/\k=k' then some ([(i,o)],0=off/\n=n'/\l=l')else none
  |_=>none
 |_=>none
def Jz(rc:RC):Option (List (Nat×Nat)×Prop) :=
 match rc with
 |.ints _ _ l=>some ([],[]=l)
 |.bools _ l=>some ([],[]=l)
 |.rows _ _ _ l=>some ([],[]=l)
 |.nilq b=>some ([],true=b)
 |.cut off n _ _ _ l=>some ([],(0=off/\0=n)/\[]=l)
 |.ro d=>match dH d with
  |true=>none
  |false=>some ([],d.len=0)
 |.lst _ d=>match dH d with
  |true=>none
  |false=>some ([],d.len=0)
 |.tr es d=>match Nat.beq es.length (d.dep+1)&&Jy d with
  |true=>some ([],d.len=0)
  |false=>none
 |_=>none
def pv:RC->Option FC
 |.ro d=>some d
 |_=>none
def pz(ob:Ob)(cut:FC->Option FC)(d':FC):Option (List (Nat×Nat)×Prop) :=
 match ob with
 |.frz d=>match cut d with
  |some d0=>match eI d0 d' with
   |some p=>some ([],p)
   |none=>none
  |none=>none
 |_=>none
def pA:RC->Option Bool
 |.nilq b=>some b
 |_=>none
def jK:List SC->List FC->Option Prop
 | [],[]=>some True
 |.int k n::cs,.int k' n'::ds=>if k=k' then(match jK cs ds with|some p=>some (n=n'/\p)|none=>none)else none
 |.bool b::cs,.bool b'::ds=>(match jK cs ds with|some p=>some (b=b'/\p)|none=>none)
 |.ro d::cs,d'::ds=>match eI d d' with
  |some q=>(match jK cs ds with|some p=>some (q/\p)|none=>none)
  |none=>none
 |_,_=>none
def jL(o:Nat):Nat->List SC->List FC->Option Prop
 |_,[],[]=>some True
 |j,.int k n::cs,.int k' n'::ds=>if k=k' then(match jL o (j+1) cs ds with|some p=>some (n=n'/\p)|none=>none)else none
 |j,.bool b::cs,.bool b'::ds=>(match jL o (j+1) cs ds with|some p=>some (b=b'/\p)|none=>none)
 |j,.orig o' j' d::cs,d'::ds=>match Nat.beq o' o&&Nat.beq j' j with
  |true=>match eI d d' with
   |some q=>if dH d'=false then(match jL o (j+1) cs ds with|some p=>some (q/\p)|none=>none)else none
   |none=>none
  |false=>none
 |_,_,_=>none
def ux:RC->Option (List FC)
 |.bx ds=>some ds
 |_=>none
def pB(σ:State)(i:Nat)(c:SC)(rc:RC):Option (List (Nat×Nat)×Prop) :=
 match c with
 |.int k n=>match rc with
  |.int k' n'=>if k=k' then some ([],n=n')else none
  |_=>none
 |.bool b=>match rc with
  |.bool b'=>some ([],b=b')
  |_=>none
 |.str l=>match rc with
  |.str l'=>some ([],l=l')
  |_=>none
 |.nil=>Jz rc
 |.own o=>match σ.H o with
  |some (some ob)=>match pv rc with
   |some d'=>pz ob some d'
   |none=>match pA rc with
    |some b=>match ob.len? with
     |some n=>some ([],false=b/\n≠0)
     |none=>none
    |none=>pq i o ob rc
  |_=>none
 |.pre o n=>match σ.H o with
  |some (some ob)=>match pv rc with
   |some d'=>pz ob (b6 0 n) d'
   |none=>pu i o n ob rc
  |_=>none
 |.sub o off n=>match σ.H o with
  |some (some ob)=>match pv rc with
   |some d'=>pz ob (b6 off n) d'
   |none=>match ob with
    |.rows _ e ei k l=>match rc with
     |.cut off' n' e' ei' k' l'=>if e=e'/\ei=ei'/\k=k' then some ([(i,o)],off=off'/\n=n'/\l=l')else none
     |_=>none
    |_=>none
  |_=>none
 |.ptr o x=>match x with
  |0=>match σ.H o with
   |some (some (.box cs))=>match ux rc with
    |some ds=>match jK cs ds with
     |some p=>some ([(i,o)],ds≠[]/\p)
     |none=>none
    |none=>none
   |_=>none
  |_+1=>none
 |.ro d=>match rc with
  |.ro d'=>match eI d d' with
   |some p=>some ([],p)
   |none=>none
  |_=>none
 |_=>none
def l9(σ:State):Nat->List SC->List RC->Option (List (Nat×Nat)×Prop)
 |_,[],[]=>some ([],True)
 |i,c::cs,rc::rcs=>match pB σ i c rc with
  |some (u,p)=>match l9 σ (i+1) cs rcs with
   |some (us,q)=>some (u++us,p/\q)
   |none=>none
  |none=>none
 |_,_,_=>none
def nJ(σ:State)(i:Nat)(sv:SV)(x:RC ⊕ List RC):Option (List (Nat×Nat)×Prop) :=
 match x with
 |.inl rc=>match sv with
  |.c c=>pB σ i c rc
  |_=>none
 |.inr rcs=>match sv with
  |.agg cs=>if rcs.length<=16 then l9 σ i cs rcs else none
  |_=>none
def nK(σ:State):Nat->List SV->List (RC ⊕ List RC)->Option (List (Nat×Nat)×Prop)
 |_,[],[]=>some ([],True)
 |i,sv::svs,x::xs=>match nJ σ (16*i) sv x with
  |some (u,p)=>match nK σ (i+1) svs xs with
   |some (us,q)=>some (u++us,p/\q)
   |none=>none
  |none=>none
 |_,_,_=>none
def uy(σ:State)(svs:List SV)(rv:RV):Option (List (Nat×Nat)×Prop) :=
 match rv with
 |.c x=>match svs with
  | [.c c]=>pB σ 0 c x
  |_=>none
 |.agg l=>match svs with
  | [.agg cs]=>l9 σ 0 cs l
  |_=>none
 |.tup l=>match svs with
  | [_]=>none
  |svs=>nK σ 0 svs l
 |.st _ _ _=>none
def uz(σ:State)(c:SC)(rc:RC):List (Nat×Option Ob) :=
 match c,rc with
 |.own o,.ro _=>ku σ o
 |.pre o _,.ro _=>ku σ o
 |.sub o _ _,.ro _=>ku σ o
 |.own o,.lst _ _=>uk σ o
 |_,_=>[]
def B9(σ:State):List SC->List RC->List (Nat×Option Ob)
 |c::cs,rc::rcs=>uz σ c rc++B9 σ cs rcs
 |_,_=>[]
def pC(σ:State)(sv:SV)(x:RC ⊕ List RC):List (Nat×Option Ob) :=
 match x with
 |.inl rc=>match sv with
  |.c c=>uz σ c rc
  |_=>[]
 |.inr rcs=>match sv with
  |.agg cs=>B9 σ cs rcs
  |_=>[]
def Ca(σ:State):List SV->List (RC ⊕ List RC)->List (Nat×Option Ob)
 |sv::svs,x::xs=>pC σ sv x++Ca σ svs xs
 |_,_=>[]
def Cb(σ:State)(svs:List SV)(rv:RV):List (Nat×Option Ob) :=
 match rv with
 |.c x=>match svs with
  | [sv]=>pC σ sv (.inl x)
  |_=>[]
 |.agg l=>match svs with
  | [sv]=>pC σ sv (.inr l)
  |_=>[]
 |.tup l=>Ca σ svs l
 |.st _ _ _=>[]
def kB(σ:State)(svs:List SV)(rv:RV):State:=⟨σ.fr,i9 (Cb σ svs rv)++σ.hp⟩
def gx(o:Nat)(ob:Ob)(rc:RC):Option Prop :=
 match ob with
 |.ints e k l=>match rc with
  |.ints e' k' l'=>if e=e'/\k=k' then some (l=l')else none
  |_=>none
 |.bools e l=>match rc with
  |.bools e' l'=>if e=e' then some (l=l')else none
  |_=>none
 |.rows ver e ei k l=>match rc with
  |.rows e' ei' k' l'=>if ver=0/\e=e'/\ei=ei'/\k=k' then some (l=l')else none
  |_=>none
 |.bx _=>none
 |.strs _ _=>none
 |.lst _ _ _=>none
 |.frz _=>none
 |.mp _=>none
 |.qu _ _ _=>none
 |.rowsH _ _ _ _ _ _=>none
 |.yd _ _ _ _=>none
 |.trk _ _ _ _=>none
 |.tr ver es d=>match rc with
  |.tr es' d'=>match Nat.beq ver 0&&fE es es' with
   |true=>eI d d'
   |false=>none
  |_=>none
 |.box cs=>match ux rc with
  |some ds=>jL o 0 cs ds
  |none=>none
def mc(σ:State):List Nat->List RC->Option Prop
 | [],[]=>some True
 |o::os,rc::rcs=>match σ.H o with
  |some (some ob)=>match gx o ob rc with
   |some p=>match mc σ os rcs with
    |some q=>some (p/\q)
    |none=>none
   |none=>none
  |_=>none
 |_,_=>none
def pD(ps:List Nat):List (Nat×Nat)->Bool
 | []=>true
 |(_,o)::l=>cb o ps&&pD ps l
def kC:List RC->List RC
 | []=>[]
 |rc::l=>match rc.isGone with
  |true=>kC l
  |false=>rc::kC l
def Cc(P:Program)(rvs:List ResultVar)(mt:List (Nat×Nat))(p:Post)(e:Exit)(σ:State):Prop :=
 match e with
 |.normal|.ret=>match d8 (l8 P σ) rvs with
  |none=>False
  |some svs=>match uy (kB σ svs p.ret) svs p.ret with
   |none=>False
   |some (us,q)=>match eW (us.map (·.2))with
    |false=>False
    |true=>match pD (dU mt p.wrs) us with
     |false=>False
     |true=>match mc (kB σ svs p.ret) (dU mt p.wrs) (kC p.wrs)with
      |none=>False
      |some q'=>q/\q'
 |_=>False
def aY(P:Program)(Γ:FuncId->Option Ctr)(wr:Nat->Bool)(ann:Nat->Option Ann)(fn:Func)(c:Code)(mt:List (Nat×Nat))(ds:List AD)(p:Post):Prop :=
 match jb ds mt p.wrs with
 |none=>False
 |some hp=>dT ⟨P,Γ,wr,ds.length+(fn.ntmps-ds.length),dU mt p.wrs,false⟩ c 0 ann ⟨nH mt 0 ds,hp⟩ (Cc P fn.results.toList mt p)
section
variable {C:Cx} {σ:State} {mu:Nat->Img} {a:Act} {w:World}
def kD:List Value->Value
 | [v]=>v
 |vs=>.tuple vs.toArray
theorem ST{P:Program}{T:TypeId}{x v:Value}(h:(Instr.loadAt T x).run P w=.ok v w):(do loadVar T (<-asAddr x):Sem Value).run P w=.ok v w:=by
 unfold Instr.loadAt at h;cases x with
 |pointer a =>
  cases a with
  |some a=>simpa[asAddr,Instr.sureAddr]using h
  |none=>simp[Instr.sureAddr]at h
 |_=>simp[Instr.sureAddr]at h
def uA(tmps:Array Value):ResultVar->Sem Value
 |.tmp t=>pure (tmps.getD t undef)
 |.cell p t=>do loadVar t (<-asAddr (tmps.getD p undef))
theorem SU{r:ResultVar}{sv:SV}(hr:l8 C.P σ r=some sv)(h:St C σ mu a w) :
  ∃v,(uA a.tmps r).run C.P w=.ok v w/\aq C.P (σ.env C.wF mu) sv v:=by
 cases r with
 |tmp t=>exact⟨_,rfl,h.fr t sv hr⟩
 |cell t T =>
  simp only[l8]at hr;split at hr
  ·rename_i cx hcx
   split at hr
   ·rename_i e he
    cases hr;obtain⟨_,v,h1,h2⟩:=Hz he (h.fr t _ hcx) h;exact⟨v,ST h1,h2⟩
   ·cases hr
  ·cases hr
theorem JA{fn:Func}{svs:List SV}(hr:d8 (l8 C.P σ) fn.results.toList=some svs)(h:St C σ mu a w) :
  ∃vs:List Value,vs.length=svs.length/\(results fn a.tmps).run C.P w=.ok (kD vs) w /\
   ∀(i:Nat) (sv:SV),svs[i]?=some sv->∃v,vs[i]?=some v/\aq C.P (σ.env C.wF mu) sv v:=by
 obtain⟨hl,hs⟩:=iW hr;have hex:∀r∈fn.results,∃v,(uA a.tmps r).run C.P w=.ok v w /\
   ∀sv,l8 C.P σ r=some sv->aq C.P (σ.env C.wF mu) sv v:=by
  intro r hm
  obtain⟨i,hi⟩:=List.getElem?_of_mem (Array.mem_toList_iff.2 hm);have hlt:i<svs.length:=by rw[hl];exact(List.getElem?_eq_some_iff.1 hi).1
  obtain⟨x,h1,h2⟩:=hs i _ (List.getElem?_eq_getElem hlt);rw[hi]at h1;cases h1;obtain⟨v,h3,h4⟩:=SU h2 h;exact⟨v,h3,fun sv hsv=>by rw[h2]at hsv;cases hsv;exact h4⟩
 classical
 let g':ResultVar->Value:=fun r=>if hm:r∈fn.results then Classical.choose (hex r hm)else undef
 have hg:∀r,(hm:r∈fn.results)->g' r=Classical.choose (hex r hm):=fun r hm=>by simp only[g',hm,dite_true]
 have hmap:=HU (P:=C.P) (w:=w) (g:=uA a.tmps) (g':=g') fn.results
  (fun r hm=>by rw[hg r hm];exact(Classical.choose_spec (hex r hm)).1)
 refine⟨fn.results.toList.map g',by simp[hl],?_,fun i sv hi=>?_⟩
 ·have hres:results fn a.tmps=(do let vs <-fn.results.mapM (uA a.tmps);pure (if h:vs.size=1 then vs[0]else .tuple vs)):=by
   unfold results
   congr 1
  rw[hres,Sem.run_bind,hmap];simp only[Result.andThen];generalize fn.results=rs
  obtain⟨l⟩:=rs;match l with
  | []=>simp[kD]
  | [x]=>simp[kD]
  |x::y::l=>simp[kD]
 ·obtain⟨x,h1,h2⟩:=hs i sv hi
  have hm:x∈fn.results:=Array.mem_toList_iff.1 (List.mem_of_getElem? h1)
  refine⟨g' x,by rw[List.getElem?_map,h1];rfl,?_⟩
  rw[hg x hm];exact(Classical.choose_spec (hex x hm)).2 sv h2
end
end Go.Sx
