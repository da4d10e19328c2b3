/- SxU -/
import Derived.Test.YtkmldclpaniclaaGreatSxT
set_option linter.unusedSimpArgs false
set_option linter.unusedVariables false
set_option linter.defProp false
namespace Go.Sx
open Go.RowKit
def cM(i j:Nat):Nat:=700+16*i+j
def rH(mt:List (Nat×Nat))(i j:Nat)(d:FC):SC :=
 match memP i j mt with
 |true=>.own (cM i j)
 |false=>dm d
def nF(mt:List (Nat×Nat))(i:Nat):Nat->List FC->List SC
 |_,[]=>[]
 |j,d::l=>rH mt i j d::nF mt i (j+1) l
def QZ(mt:List (Nat×Nat))(i:Nat):AD->SV
 |.c d=>.c (rH mt i 0 d)
 |.agg cs=>.agg (nF mt i 0 cs)
 |.box cs=>match memP i 0 mt with
  |true=>.c (.ptr (cM i 0) 0)
  |false=>.c (.rob cs 0)
 |.bb cs=>.c (.rbb cs)
 |.bf P F=>.c (.rbf P F)
 |.fv F=>.fv F
 |.fvs F _=>.fvs (cM i 0) F
 |.cut off n _=>.c (.sub (cM i 0) off n)
 |.ma _=>.c .any
def ph(mt:List (Nat×Nat)):Nat->List AD->List (Nat×SV)
 |_,[]=>[]
 |i,d::l=>(i,QZ mt i d)::ph mt (i+1) l
def pi(ds:List AD)(i j:Nat):Option FC :=
 match ds[i]? with
 |some (.c d)=>match j with
  |0=>some d
  |_+1=>none
 |some (.agg cs)=>cs[j]?
 |some (.cut _ _ d)=>match j with
  |0=>some d
  |_+1=>none
 |_=>none
def gS:FC->RC->Option Ob
 |.ints k l,.ints e k' _=>if k=k' then some (.ints e k l)else none
 |.bools l,.bools e _=>some (.bools e l)
 |.rows k l,.rows e ei k' _=>if k=k' then some (.rows 0 e ei k l)else none
 |.ints k l,.gone (.ints e k' _)=>if k=k' then some (.ints e k l)else none
 |.rows k l,.gone (.rows e ei k' _)=>if k=k' then some (.rows 0 e ei k l)else none
 |.rows k l,.gone (.lst e _)=>some (.lst 0 e (.rows k l))
 |.r3 k l,.gone (.lst e _)=>some (.lst 0 e (.r3 k l))
 |.r4 k l,.gone (.lst e _)=>some (.lst 0 e (.r4 k l))
 |d,.tr es _=>some (.tr 0 es d)
 |_,_=>none
def ko(o:Nat):Nat->List FC->List SC
 |_,[]=>[]
 |j,d::l=>(if dt d then dm d else .orig o j d)::ko o (j+1) l
def nG(ds:List AD)(i j:Nat):Option (List FC) :=
 match ds[i]? with
 |some (.box cs)=>match j with
  |0=>some cs
  |_+1=>none
 |some (.fvs _ s)=>match j with
  |0=>some [.int .i64 s]
  |_+1=>none
 |_=>none
def nH(ds:List AD)(i j:Nat)(rc:RC):Option Ob :=
 match nG ds i j with
 |some cs=>match rc with
  |.bx cs'=>if cs'.length=cs.length/\cs≠[]then some (.box (ko (cM i j) 0 cs))else none
  |_=>none
 |none=>match pi ds i j with
  |some d=>gS d rc
  |none=>none
def ek:List (Nat×Nat)->List RC->List Nat
 |x::mt,rc::wrs=>match rc.isGone with
  |true=>ek mt wrs
  |false=>cM x.1 x.2::ek mt wrs
 |_,_=>[]
def dZ(mt:List (Nat×Nat)):List Nat:=mt.map fun x=>cM x.1 x.2
def kp(ds:List AD):List (Nat×Nat)->List RC->Option (List (Nat×Option Ob))
 | [],[]=>some []
 |x::mt,rc::wrs=>match nH ds x.1 x.2 rc with
  |some ob=>match kp ds mt wrs with
   |some l=>some ((cM x.1 x.2,some ob)::l)
   |none=>none
  |none=>none
 |_,_=>none
def pj(P:Program)(σ:State):ResultVar->Option SV
 |.tmp t=>σ.F t
 |.cell t T=>match σ.F t with
  |some (.c cx)=>match(wu P T cx).run σ with
   |some e=>some e.val
   |none=>none
  |_=>none
/- What comes back, laid beside what was to come: the objects that are handed xW, and what is to be shown. -/
def rI(i o:Nat)(ob:Ob)(rc:RC):Option (List (Nat×Nat)×Prop) :=
 match ob with
 |.ints e k l=>match rc with
  |.ints e' k' l'=>if e=e'/\k=k' then some ([(i,o)],l=l')else none
  |_=>none
 |.bools e l=>match rc with
  |.bools e' l'=>if e=e' then some ([(i,o)],l=l')else none
  |_=>none
 |.rows _ e ei k l=>match rc with
  |.rows e' ei' k' l'=>if e=e'/\ei=ei'/\k=k' then some ([(i,o)],l=l')else none
  |.cut off n e' ei' k' l'=>if e=e'/\ei=ei'/\k=k' then some ([(i,o)],0=off/\l.length=n/\l=l')else none
  |_=>none
 |.strs e l=>match rc with
  |.strs e' l'=>if e=e' then some ([(i,o)],l=l')else none
  |_=>none
 |.lst _ e d=>match rc with
  |.lst e' d'=>if e=e' then(match fm d d' with|some p=>some ([(i,o)],p)|none=>none)else none
  |_=>none
 |.box _=>none
 |.bx _=>none
 |.frz _=>none
 |.mp _=>none
 |.qu _ _ _=>none
 |.rowsH _ _ _ _ _ _=>none
 |.yd _ _ _ _=>none
 |.trk _ _ _ _=>none
 |.tr _ es d=>match rc with
  |.tr es' d'=>match gN es es' with
   |true=>(match fm d d' with|some p=>some ([(i,o)],p)|none=>none)
   |false=>none
  |_=>none
def Q2:FC->Bool
 |.ints _ _=>true
 |.rows _ _=>true
 |.r3 _ _=>true
 |.r4 _ _=>true
 |.p3 _ _=>true
 |_=>false
def rJ(i o n:Nat)(ob:Ob)(rc:RC):Option (List (Nat×Nat)×Prop) :=
 match ob with
 |.ints e k l=>match rc with
  |.ints e' k' l'=>if e=e'/\k=k' then some ([(i,o)],l.take n=l')else none
  |_=>none
 |.bools e l=>match rc with
  |.bools e' l'=>if e=e' then some ([(i,o)],l.take n=l')else none
  |_=>none
 |.rows _ e ei k l=>match rc with
  |.cut off n' e' ei' k' l'=>if e=e'/\ei=ei'/\k=k' then some ([(i,o)],0=off/\n=n'/\l=l')else none
  |_=>none
 |_=>none
def Q3(rc:RC):Option (List (Nat×Nat)×Prop) :=
 match rc with
 |.ints _ _ l=>some ([],[]=l)
 |.bools _ l=>some ([],[]=l)
 |.rows _ _ _ l=>some ([],[]=l)
 |.nilq b=>some ([],true=b)
 |.cut off n _ _ _ l=>some ([],(0=off/\0=n)/\[]=l)
 |.ro d=>match dt d with
  |true=>none
  |false=>some ([],d.len=0)
 |.lst _ d=>match dt d with
  |true=>none
  |false=>some ([],d.len=0)
 |.tr es d=>match Nat.beq es.length (d.dep+1)&&Q2 d with
  |true=>some ([],d.len=0)
  |false=>none
 |_=>none
def rK:RC->Option FC
 |.ro d=>some d
 |_=>none
def rL(ob:Ob)(cut:FC->Option FC)(d':FC):Option (List (Nat×Nat)×Prop) :=
 match ob with
 |.frz d=>match cut d with
  |some d0=>match fm d0 d' with
   |some p=>some ([],p)
   |none=>none
  |none=>none
 |_=>none
def rM:RC->Option Bool
 |.nilq b=>some b
 |_=>none
def ld:List SC->List FC->Option Prop
 | [],[]=>some True
 |.int k n::cs,.int k' n'::ds=>if k=k' then(match ld cs ds with|some p=>some (n=n'/\p)|none=>none)else none
 |.bool b::cs,.bool b'::ds=>(match ld cs ds with|some p=>some (b=b'/\p)|none=>none)
 |.ro d::cs,d'::ds=>match fm d d' with
  |some q=>(match ld cs ds with|some p=>some (q/\p)|none=>none)
  |none=>none
 |_,_=>none
def lf(o:Nat):Nat->List SC->List FC->Option Prop
 |_,[],[]=>some True
 |j,.int k n::cs,.int k' n'::ds=>if k=k' then(match lf o (j+1) cs ds with|some p=>some (n=n'/\p)|none=>none)else none
 |j,.bool b::cs,.bool b'::ds=>(match lf o (j+1) cs ds with|some p=>some (b=b'/\p)|none=>none)
 |j,.orig o' j' d::cs,d'::ds=>match Nat.beq o' o&&Nat.beq j' j with
  |true=>match fm d d' with
   |some q=>if dt d'=false then(match lf o (j+1) cs ds with|some p=>some (q/\p)|none=>none)else none
   |none=>none
  |false=>none
 |_,_,_=>none
def xX:RC->Option (List FC)
 |.bx ds=>some ds
 |_=>none
def rN(σ:State)(i:Nat)(c:SC)(rc:RC):Option (List (Nat×Nat)×Prop) :=
 match c with
 |.int k n=>match rc with
  |.int k' n'=>if k=k' then some ([],n=n')else none
  |_=>none
 |.bool b=>match rc with
  |.bool b'=>some ([],b=b')
  |_=>none
 |.str l=>match rc with
  |.str l'=>some ([],l=l')
  |_=>none
 |.nil=>Q3 rc
 |.own o=>match σ.H o with
  |some (some ob)=>match rK rc with
   |some d'=>rL ob some d'
   |none=>match rM rc with
    |some b=>match ob.len? with
     |some n=>some ([],false=b/\n≠0)
     |none=>none
    |none=>rI i o ob rc
  |_=>none
 |.pre o n=>match σ.H o with
  |some (some ob)=>match rK rc with
   |some d'=>rL ob (cz 0 n) d'
   |none=>rJ i o n ob rc
  |_=>none
 |.sub o off n=>match σ.H o with
  |some (some ob)=>match rK rc with
   |some d'=>rL ob (cz off n) d'
   |none=>match ob with
    |.rows _ e ei k l=>match rc with
     |.cut off' n' e' ei' k' l'=>if e=e'/\ei=ei'/\k=k' then some ([(i,o)],off=off'/\n=n'/\l=l')else none
     |_=>none
    |_=>none
  |_=>none
 |.ptr o x=>match x with
  |0=>match σ.H o with
   |some (some (.box cs))=>match xX rc with
    |some ds=>match ld cs ds with
     |some p=>some ([(i,o)],ds≠[]/\p)
     |none=>none
    |none=>none
   |_=>none
  |_+1=>none
 |.ro d=>match rc with
  |.ro d'=>match fm d d' with
   |some p=>some ([],p)
   |none=>none
  |_=>none
 |_=>none
def nI(σ:State):Nat->List SC->List RC->Option (List (Nat×Nat)×Prop)
 |_,[],[]=>some ([],True)
 |i,c::cs,rc::rcs=>match rN σ i c rc with
  |some (u,p)=>match nI σ (i+1) cs rcs with
   |some (us,q)=>some (u++us,p/\q)
   |none=>none
  |none=>none
 |_,_,_=>none
def pk(σ:State)(i:Nat)(sv:SV)(x:RC ⊕ List RC):Option (List (Nat×Nat)×Prop) :=
 match x with
 |.inl rc=>match sv with
  |.c c=>rN σ i c rc
  |_=>none
 |.inr rcs=>match sv with
  |.agg cs=>if rcs.length<=16 then nI σ i cs rcs else none
  |_=>none
def po(σ:State):Nat->List SV->List (RC ⊕ List RC)->Option (List (Nat×Nat)×Prop)
 |_,[],[]=>some ([],True)
 |i,sv::svs,x::xs=>match pk σ (16*i) sv x with
  |some (u,p)=>match po σ (i+1) svs xs with
   |some (us,q)=>some (u++us,p/\q)
   |none=>none
  |none=>none
 |_,_,_=>none
def xY(σ:State)(svs:List SV)(rv:RV):Option (List (Nat×Nat)×Prop) :=
 match rv with
 |.c x=>match svs with
  | [.c c]=>rN σ 0 c x
  |_=>none
 |.agg l=>match svs with
  | [.agg cs]=>nI σ 0 cs l
  |_=>none
 |.tup l=>match svs with
  | [_]=>none
  |svs=>po σ 0 svs l
 |.st _ _ _=>none
def xZ(σ:State)(c:SC)(rc:RC):List (Nat×Option Ob) :=
 match c,rc with
 |.own o,.ro _=>l8 σ o
 |.pre o _,.ro _=>l8 σ o
 |.sub o _ _,.ro _=>l8 σ o
 |.own o,.lst _ _=>xM σ o
 |_,_=>[]
def IR(σ:State):List SC->List RC->List (Nat×Option Ob)
 |c::cs,rc::rcs=>xZ σ c rc++IR σ cs rcs
 |_,_=>[]
def rO(σ:State)(sv:SV)(x:RC ⊕ List RC):List (Nat×Option Ob) :=
 match x with
 |.inl rc=>match sv with
  |.c c=>xZ σ c rc
  |_=>[]
 |.inr rcs=>match sv with
  |.agg cs=>IR σ cs rcs
  |_=>[]
def IS(σ:State):List SV->List (RC ⊕ List RC)->List (Nat×Option Ob)
 |sv::svs,x::xs=>rO σ sv x++IS σ svs xs
 |_,_=>[]
def IT(σ:State)(svs:List SV)(rv:RV):List (Nat×Option Ob) :=
 match rv with
 |.c x=>match svs with
  | [sv]=>rO σ sv (.inl x)
  |_=>[]
 |.agg l=>match svs with
  | [sv]=>rO σ sv (.inr l)
  |_=>[]
 |.tup l=>IS σ svs l
 |.st _ _ _=>[]
def me(σ:State)(svs:List SV)(rv:RV):State:=⟨σ.fr,kj (IT σ svs rv)++σ.hp⟩
def iq(o:Nat)(ob:Ob)(rc:RC):Option Prop :=
 match ob with
 |.ints e k l=>match rc with
  |.ints e' k' l'=>if e=e'/\k=k' then some (l=l')else none
  |_=>none
 |.bools e l=>match rc with
  |.bools e' l'=>if e=e' then some (l=l')else none
  |_=>none
 |.rows ver e ei k l=>match rc with
  |.rows e' ei' k' l'=>if ver=0/\e=e'/\ei=ei'/\k=k' then some (l=l')else none
  |_=>none
 |.bx _=>none
 |.strs _ _=>none
 |.lst _ _ _=>none
 |.frz _=>none
 |.mp _=>none
 |.qu _ _ _=>none
 |.rowsH _ _ _ _ _ _=>none
 |.yd _ _ _ _=>none
 |.trk _ _ _ _=>none
 |.tr ver es d=>match rc with
  |.tr es' d'=>match Nat.beq ver 0&&gN es es' with
   |true=>fm d d'
   |false=>none
  |_=>none
 |.box cs=>match xX rc with
  |some ds=>lf o 0 cs ds
  |none=>none
def nJ(σ:State):List Nat->List RC->Option Prop
 | [],[]=>some True
 |o::os,rc::rcs=>match σ.H o with
  |some (some ob)=>match iq o ob rc with
   |some p=>match nJ σ os rcs with
    |some q=>some (p/\q)
    |none=>none
   |none=>none
  |_=>none
 |_,_=>none
def rP(ps:List Nat):List (Nat×Nat)->Bool
 | []=>true
 |(_,o)::l=>cE o ps&&rP ps l
def mf:List RC->List RC
 | []=>[]
 |rc::l=>match rc.isGone with
  |true=>mf l
  |false=>rc::mf l
def IU(P:Program)(rvs:List ResultVar)(mt:List (Nat×Nat))(p:Post)(e:Exit)(σ:State):Prop :=
 match e with
 |.normal|.ret=>match eG (pj P σ) rvs with
  |none=>False
  |some svs=>match xY (me σ svs p.ret) svs p.ret with
   |none=>False
   |some (us,q)=>match fk (us.map (·.2))with
    |false=>False
    |true=>match rP (ek mt p.wrs) us with
     |false=>False
     |true=>match nJ (me σ svs p.ret) (ek mt p.wrs) (mf p.wrs)with
      |none=>False
      |some q'=>q/\q'
 |_=>False
def aE(P:Program)(Γ:FuncId->Option Ctr)(wr:Nat->Bool)(ann:Nat->Option Ann)(fn:Func)(c:Code)(mt:List (Nat×Nat))(ds:List AD)(p:Post):Prop :=
 match kp ds mt p.wrs with
 |none=>False
 |some hp=>eJ ⟨P,Γ,wr,ds.length+(fn.ntmps-ds.length),ek mt p.wrs,false⟩ c 0 ann ⟨ph mt 0 ds,hp⟩ (IU P fn.results.toList mt p)
section
variable {C:Cx} {σ:State} {mu:Nat->Img} {a:Act} {w:World}
def nK:List Value->Value
 | [v]=>v
 |vs=>.tuple vs.toArray
theorem aj8{P:Program}{T:TypeId}{x v:Value}(h:(Instr.loadAt T x).run P w=.ok v w):(do loadVar T (<-asAddr x):Sem Value).run P w=.ok v w:=by
 unfold Instr.loadAt at h;cases x with
 |pointer a =>
  cases a with
  |some a=>simpa[asAddr,Instr.sureAddr]using h
  |none=>simp[Instr.sureAddr]at h
 |_=>simp[Instr.sureAddr]at h
def ya(tmps:Array Value):ResultVar->Sem Value
 |.tmp t=>pure (tmps.getD t undef)
 |.cell p t=>do loadVar t (<-asAddr (tmps.getD p undef))
theorem aj9{r:ResultVar}{sv:SV}(hr:pj C.P σ r=some sv)(h:St C σ mu a w) :
  ∃v,(ya a.tmps r).run C.P w=.ok v w/\aw C.P (σ.env C.wF mu) sv v:=by
 cases r with
 |tmp t=>exact⟨_,rfl,h.fr t sv hr⟩
 |cell t T =>
  simp only[pj]at hr;split at hr
  ·rename_i cx hcx
   split at hr
   ·rename_i e he
    cases hr;obtain⟨_,v,h1,h2⟩:=OZ he (h.fr t _ hcx) h;exact⟨v,aj8 h1,h2⟩
   ·cases hr
  ·cases hr
theorem ak0{fn:Func}{svs:List SV}(hr:eG (pj C.P σ) fn.results.toList=some svs)(h:St C σ mu a w) :
  ∃vs:List Value,vs.length=svs.length/\(results fn a.tmps).run C.P w=.ok (nK vs) w /\
   ∀(i:Nat) (sv:SV),svs[i]?=some sv->∃v,vs[i]?=some v/\aw C.P (σ.env C.wF mu) sv v:=by
 obtain⟨hl,hs⟩:=im hr;have hex:∀r∈fn.results,∃v,(ya a.tmps r).run C.P w=.ok v w /\
   ∀sv,pj C.P σ r=some sv->aw C.P (σ.env C.wF mu) sv v:=by
  intro r hm
  obtain⟨i,hi⟩:=Ah (DM.2 hm);have ψ:i<svs.length:=by rw[hl];exact(AJ.1 hi).1
  obtain⟨x,h1,h2⟩:=hs i _ (AF ψ);rw[hi]at h1;cases h1;obtain⟨v,h3,h4⟩:=aj9 h2 h;exact⟨v,h3,fun sv hsv=>by rw[h2]at hsv;cases hsv;exact h4⟩
 classical
 let g':ResultVar->Value:=fun r=>if hm:r∈fn.results then Classical.choose (hex r hm)else undef
 have hg:∀r,(hm:r∈fn.results)->g' r=Classical.choose (hex r hm):=fun r hm=>by simp only[g',hm,dite_true]
 have hmap:=Pr (P:=C.P) (w:=w) (g:=ya a.tmps) (g':=g') fn.results
  (fun r hm=>by rw[hg r hm];exact(Classical.choose_spec (hex r hm)).1)
 refine⟨fn.results.toList.map g',by simp[hl],?_,fun i sv hi=>?_⟩
 ·have hres:results fn a.tmps=(do let vs <-fn.results.mapM (ya a.tmps);pure (if h:vs.size=1 then vs[0]else .tuple vs)):=by
   unfold results
   congr 1
  rw[hres,Sem.run_bind,hmap];simp only[Result.andThen];generalize fn.results=rs
  obtain⟨l⟩:=rs;match l with
  | []=>simp[nK]
  | [x]=>simp[nK]
  |x::y::l=>simp[nK]
 ·obtain⟨x,h1,h2⟩:=hs i sv hi
  have hm:x∈fn.results:=DM.1 (AI h1)
  refine⟨g' x,by rw[Aj,h1];rfl,?_⟩
  rw[hg x hm];exact(Classical.choose_spec (hex x hm)).2 sv h2
end
end Go.Sx
