/- SxU -/
import Derived.Test.YtkmldclpaniclaaSxT
namespace Go.Sx
open Go.RowKit
def bZ (i j:Nat):Nat:=700+16 * i+j
def oy (mt:List (Nat×Nat)) (i j:Nat) (d:FC):SC :=
 match js i j mt with
 | true=>.own (bZ i j)
 | false=>cI d
def kY (mt:List (Nat×Nat)) (i:Nat):Nat→List FC→List SC
 | _,[]=>[]
 | j,d::l=>oy mt i j d::kY mt i (j+1) l
def G5 (mt:List (Nat×Nat)) (i:Nat):AD→SV
 | .c d=>.c (oy mt i 0 d)
 | .agg cs=>.agg (kY mt i 0 cs)
 | .box cs=>match js i 0 mt with
  | true=>.c (.ptr (bZ i 0) 0)
  | false=>.c (.rob cs 0)
 | .bb cs=>.c (.rbb cs)
 | .fv F=>.fv F
 | .fvs F _=>.fvs (bZ i 0) F
 | .cut off n _=>.c (.sub (bZ i 0) off n)
 | .ma _=>.c .any
def mJ (mt:List (Nat×Nat)):Nat→List AD→List (Nat×SV)
 | _,[]=>[]
 | i,d::l=>(i,G5 mt i d)::mJ mt (i+1) l
def mK (ds:List AD) (i j:Nat):Option FC :=
 match ds[i]? with
 | some (.c d)=>match j with
  | 0=>some d
  | _+1=>none
 | some (.agg cs)=>cs[j]?
 | some (.cut _ _ d)=>match j with
  | 0=>some d
  | _+1=>none
 | _=>none
def fx:FC→RC→Option Ob
 | .ints k l,.ints e k' _=>if k=k' then some (.ints e k l) else none
 | .bools l,.bools e _=>some (.bools e l)
 | .rows k l,.rows e ei k' _=>if k=k' then some (.rows 0 e ei k l) else none
 | .ints k l,.gone (.ints e k' _)=>if k=k' then some (.ints e k l) else none
 | .rows k l,.gone (.rows e ei k' _)=>if k=k' then some (.rows 0 e ei k l) else none
 | .rows k l,.gone (.lst e _)=>some (.lst 0 e (.rows k l))
 | .r3 k l,.gone (.lst e _)=>some (.lst 0 e (.r3 k l))
 | .r4 k l,.gone (.lst e _)=>some (.lst 0 e (.r4 k l))
 | d,.tr es _=>some (.tr 0 es d)
 | _,_=>none
def iC (o:Nat):Nat→List FC→List SC
 | _,[]=>[]
 | j,d::l=>(if cL d then cI d else .orig o j d)::iC o (j+1) l
def kZ (ds:List AD) (i j:Nat):Option (List FC) :=
 match ds[i]? with
 | some (.box cs)=>match j with
  | 0=>some cs
  | _+1=>none
 | some (.fvs _ s)=>match j with
  | 0=>some [.int .i64 s]
  | _+1=>none
 | _=>none
def la (ds:List AD) (i j:Nat) (rc:RC):Option Ob :=
 match kZ ds i j with
 | some cs=>match rc with
  | .bx cs'=>if cs'.length=cs.length∧cs≠[] then some (.box (iC (bZ i j) 0 cs)) else none
  | _=>none
 | none=>match mK ds i j with
  | some d=>fx d rc
  | none=>none
def dD:List (Nat×Nat)→List RC→List Nat
 | x::mt,rc::wrs=>match rc.isGone with
  | true=>dD mt wrs
  | false=>bZ x.1 x.2::dD mt wrs
 | _,_=>[]
def dp (mt:List (Nat×Nat)):List Nat:=mt.map fun x=>bZ x.1 x.2
def iD (ds:List AD):List (Nat×Nat)→List RC→Option (List (Nat×Option Ob))
 | [],[]=>some []
 | x::mt,rc::wrs=>match la ds x.1 x.2 rc with
  | some ob=>match iD ds mt wrs with
   | some l=>some ((bZ x.1 x.2,some ob)::l)
   | none=>none
  | none=>none
 | _,_=>none
def lc (P:Program) (σ:State):ResultVar→Option SV
 | .tmp t=>σ.F t
 | .cell t T=>match σ.F t with
  | some (.c cx)=>match (qX P T cx).run σ with
   | some e=>some e.val
   | none=>none
  | _=>none
/- What comes back, laid beside what was to come: the objects that are handed te, and what is to be shown. -/
def oz (i o:Nat) (ob:Ob) (rc:RC):Option (List (Nat×Nat)×Prop) :=
 match ob with
 | .ints e k l=>match rc with
  | .ints e' k' l'=>if e=e'∧k=k' then some ([(i,o)],l=l') else none
  | _=>none
 | .bools e l=>match rc with
  | .bools e' l'=>if e=e' then some ([(i,o)],l=l') else none
  | _=>none
 | .rows _ e ei k l=>match rc with
  | .rows e' ei' k' l'=>if e=e'∧ei=ei'∧k=k' then some ([(i,o)],l=l') else none
  | .cut off n e' ei' k' l'=>if e=e'∧ei=ei'∧k=k' then some ([(i,o)],0=off∧l.length=n∧l=l') else none
  | _=>none
 | .strs e l=>match rc with
  | .strs e' l'=>if e=e' then some ([(i,o)],l=l') else none
  | _=>none
 | .lst _ e d=>match rc with
  | .lst e' d'=>if e=e' then (match eN d d' with | some p=>some ([(i,o)],p) | none=>none) else none
  | _=>none
 | .box _=>none
 | .bx _=>none
 | .frz _=>none
 | .mp _=>none
 | .qu _ _ _=>none
 | .rowsH _ _ _ _ _ _=>none
 | .yd _ _ _ _=>none
 | .tr _ es d=>match rc with
  | .tr es' d'=>match fL es es' with
   | true=>(match eN d d' with | some p=>some ([(i,o)],p) | none=>none)
   | false=>none
  | _=>none
def G6:FC→Bool
 | .ints _ _=>true
 | .rows _ _=>true
 | .r3 _ _=>true
 | .r4 _ _=>true
 | _=>false
def oA (i o n:Nat) (ob:Ob) (rc:RC):Option (List (Nat×Nat)×Prop) :=
 match ob with
 | .ints e k l=>match rc with
  | .ints e' k' l'=>if e=e'∧k=k' then some ([(i,o)],l.take n=l') else none
  | _=>none
 | .bools e l=>match rc with
  | .bools e' l'=>if e=e' then some ([(i,o)],l.take n=l') else none
  | _=>none
 | .rows _ e ei k l=>match rc with
  | .cut off n' e' ei' k' l'=>if e=e'∧ei=ei'∧k=k' then some ([(i,o)],0=off∧n=n'∧l=l') else none
  | _=>none
 | _=>none
def G7 (rc:RC):Option (List (Nat×Nat)×Prop) :=
 match rc with
 | .ints _ _ l=>some ([],[]=l)
 | .bools _ l=>some ([],[]=l)
 | .rows _ _ _ l=>some ([],[]=l)
 | .nilq b=>some ([],true=b)
 | .cut off n _ _ _ l=>some ([],(0=off∧0=n)∧[]=l)
 | .ro d=>match cL d with
  | true=>none
  | false=>some ([],d.len=0)
 | .lst _ d=>match cL d with
  | true=>none
  | false=>some ([],d.len=0)
 | .tr es d=>match Nat.beq es.length (d.dep+1)&&G6 d with
  | true=>some ([],d.len=0)
  | false=>none
 | _=>none
def oB:RC→Option FC
 | .ro d=>some d
 | _=>none
def oC (ob:Ob) (cut:FC→Option FC) (d':FC):Option (List (Nat×Nat)×Prop) :=
 match ob with
 | .frz d=>match cut d with
  | some d0=>match eN d0 d' with
   | some p=>some ([],p)
   | none=>none
  | none=>none
 | _=>none
def oD:RC→Option Bool
 | .nilq b=>some b
 | _=>none
def jc:List SC→List FC→Option Prop
 | [],[]=>some True
 | .int k n::cs,.int k' n'::ds=>if k=k' then (match jc cs ds with | some p=>some (n=n'∧p) | none=>none) else none
 | .bool b::cs,.bool b'::ds=>(match jc cs ds with | some p=>some (b=b'∧p) | none=>none)
 | .ro d::cs,d'::ds=>match eN d d' with
  | some q=>(match jc cs ds with | some p=>some (q∧p) | none=>none)
  | none=>none
 | _,_=>none
def jd (o:Nat):Nat→List SC→List FC→Option Prop
 | _,[],[]=>some True
 | j,.int k n::cs,.int k' n'::ds=>if k=k' then (match jd o (j+1) cs ds with | some p=>some (n=n'∧p) | none=>none) else none
 | j,.bool b::cs,.bool b'::ds=>(match jd o (j+1) cs ds with | some p=>some (b=b'∧p) | none=>none)
 | j,.orig o' j' d::cs,d'::ds=>match Nat.beq o' o&&Nat.beq j' j with
  | true=>match eN d d' with
   | some q=>if cL d'=false then (match jd o (j+1) cs ds with | some p=>some (q∧p) | none=>none) else none
   | none=>none
  | false=>none
 | _,_,_=>none
def tf:RC→Option (List FC)
 | .bx ds=>some ds
 | _=>none
def oE (σ:State) (i:Nat) (c:SC) (rc:RC):Option (List (Nat×Nat)×Prop) :=
 match c with
 | .int k n=>match rc with
  | .int k' n'=>if k=k' then some ([],n=n') else none
  | _=>none
 | .bool b=>match rc with
  | .bool b'=>some ([],b=b')
  | _=>none
 | .str l=>match rc with
  | .str l'=>some ([],l=l')
  | _=>none
 | .nil=>G7 rc
 | .own o=>match σ.H o with
  | some (some ob)=>match oB rc with
   | some d'=>oC ob some d'
   | none=>match oD rc with
    | some b=>match ob.len? with
     | some n=>some ([],false=b∧n≠0)
     | none=>none
    | none=>oz i o ob rc
  | _=>none
 | .pre o n=>match σ.H o with
  | some (some ob)=>match oB rc with
   | some d'=>oC ob (bJ 0 n) d'
   | none=>oA i o n ob rc
  | _=>none
 | .sub o off n=>match σ.H o with
  | some (some ob)=>match oB rc with
   | some d'=>oC ob (bJ off n) d'
   | none=>match ob with
    | .rows _ e ei k l=>match rc with
     | .cut off' n' e' ei' k' l'=>if e=e'∧ei=ei'∧k=k' then some ([(i,o)],off=off'∧n=n'∧l=l') else none
     | _=>none
    | _=>none
  | _=>none
 | .ptr o x=>match x with
  | 0=>match σ.H o with
   | some (some (.box cs))=>match tf rc with
    | some ds=>match jc cs ds with
     | some p=>some ([(i,o)],ds≠[]∧p)
     | none=>none
    | none=>none
   | _=>none
  | _+1=>none
 | .ro d=>match rc with
  | .ro d'=>match eN d d' with
   | some p=>some ([],p)
   | none=>none
  | _=>none
 | _=>none
def ld (σ:State):Nat→List SC→List RC→Option (List (Nat×Nat)×Prop)
 | _,[],[]=>some ([],True)
 | i,c::cs,rc::rcs=>match oE σ i c rc with
  | some (u,p)=>match ld σ (i+1) cs rcs with
   | some (us,q)=>some (u++us,p∧q)
   | none=>none
  | none=>none
 | _,_,_=>none
def mL (σ:State) (i:Nat) (sv:SV) (x:RC ⊕ List RC):Option (List (Nat×Nat)×Prop) :=
 match x with
 | .inl rc=>match sv with
  | .c c=>oE σ i c rc
  | _=>none
 | .inr rcs=>match sv with
  | .agg cs=>if rcs.length≤16 then ld σ i cs rcs else none
  | _=>none
def mM (σ:State):Nat→List SV→List (RC ⊕ List RC)→Option (List (Nat×Nat)×Prop)
 | _,[],[]=>some ([],True)
 | i,sv::svs,x::xs=>match mL σ (16 * i) sv x with
  | some (u,p)=>match mM σ (i+1) svs xs with
   | some (us,q)=>some (u++us,p∧q)
   | none=>none
  | none=>none
 | _,_,_=>none
def tg (σ:State) (svs:List SV) (rv:RV):Option (List (Nat×Nat)×Prop) :=
 match rv with
 | .c x=>match svs with
  | [.c c]=>oE σ 0 c x
  | _=>none
 | .agg l=>match svs with
  | [.agg cs]=>ld σ 0 cs l
  | _=>none
 | .tup l=>match svs with
  | [_]=>none
  | svs=>mM σ 0 svs l
 | .st _ _ _=>none
def ti (σ:State) (c:SC) (rc:RC):List (Nat×Option Ob) :=
 match c,rc with
 | .own o,.ro _=>jF σ o
 | .pre o _,.ro _=>jF σ o
 | .sub o _ _,.ro _=>jF σ o
 | .own o,.lst _ _=>sV σ o
 | _,_=>[]
def Ac (σ:State):List SC→List RC→List (Nat×Option Ob)
 | c::cs,rc::rcs=>ti σ c rc++Ac σ cs rcs
 | _,_=>[]
def oF (σ:State) (sv:SV) (x:RC ⊕ List RC):List (Nat×Option Ob) :=
 match x with
 | .inl rc=>match sv with
  | .c c=>ti σ c rc
  | _=>[]
 | .inr rcs=>match sv with
  | .agg cs=>Ac σ cs rcs
  | _=>[]
def Ad (σ:State):List SV→List (RC ⊕ List RC)→List (Nat×Option Ob)
 | sv::svs,x::xs=>oF σ sv x++Ad σ svs xs
 | _,_=>[]
def Ae (σ:State) (svs:List SV) (rv:RV):List (Nat×Option Ob) :=
 match rv with
 | .c x=>match svs with
  | [sv]=>oF σ sv (.inl x)
  | _=>[]
 | .agg l=>match svs with
  | [sv]=>oF σ sv (.inr l)
  | _=>[]
 | .tup l=>Ad σ svs l
 | .st _ _ _=>[]
def jK (σ:State) (svs:List SV) (rv:RV):State:=⟨σ.fr,iB (Ae σ svs rv)++σ.hp⟩
def fU (o:Nat) (ob:Ob) (rc:RC):Option Prop :=
 match ob with
 | .ints e k l=>match rc with
  | .ints e' k' l'=>if e=e'∧k=k' then some (l=l') else none
  | _=>none
 | .bools e l=>match rc with
  | .bools e' l'=>if e=e' then some (l=l') else none
  | _=>none
 | .rows ver e ei k l=>match rc with
  | .rows e' ei' k' l'=>if ver=0∧e=e'∧ei=ei'∧k=k' then some (l=l') else none
  | _=>none
 | .bx _=>none
 | .strs _ _=>none
 | .lst _ _ _=>none
 | .frz _=>none
 | .mp _=>none
 | .qu _ _ _=>none
 | .rowsH _ _ _ _ _ _=>none
 | .yd _ _ _ _=>none
 | .tr ver es d=>match rc with
  | .tr es' d'=>match Nat.beq ver 0&&fL es es' with
   | true=>eN d d'
   | false=>none
  | _=>none
 | .box cs=>match tf rc with
  | some ds=>jd o 0 cs ds
  | none=>none
def lf (σ:State):List Nat→List RC→Option Prop
 | [],[]=>some True
 | o::os,rc::rcs=>match σ.H o with
  | some (some ob)=>match fU o ob rc with
   | some p=>match lf σ os rcs with
    | some q=>some (p∧q)
    | none=>none
   | none=>none
  | _=>none
 | _,_=>none
def oG (ps:List Nat):List (Nat×Nat)→Bool
 | []=>true
 | (_,o)::l=>bS o ps&&oG ps l
def jL:List RC→List RC
 | []=>[]
 | rc::l=>match rc.isGone with
  | true=>jL l
  | false=>rc::jL l
def Af (P:Program) (rvs:List ResultVar) (mt:List (Nat×Nat)) (p:Post) (e:Exit) (σ:State):Prop :=
 match e with
 | .normal | .ret=>match dz (lc P σ) rvs with
  | none=>False
  | some svs=>match tg (jK σ svs p.ret) svs p.ret with
   | none=>False
   | some (us,q)=>match em (us.map (·.2)) with
    | false=>False
    | true=>match oG (dD mt p.wrs) us with
     | false=>False
     | true=>match lf (jK σ svs p.ret) (dD mt p.wrs) (jL p.wrs) with
      | none=>False
      | some q'=>q∧q'
 | _=>False
def aS (P:Program) (Γ:FuncId→Option Ctr) (wr:Nat→Bool) (ann:Nat→Option Ann) (fn:Func) (c:Code) (mt:List (Nat×Nat)) (ds:List AD) (p:Post):Prop :=
 match iD ds mt p.wrs with
 | none=>False
 | some hp=>dC ⟨P,Γ,wr,ds.length+(fn.ntmps - ds.length),dD mt p.wrs,false⟩ c 0 ann ⟨mJ mt 0 ds,hp⟩ (Af P fn.results.toList mt p)
section
variable {C:Cx} {σ:State} {mu:Nat→Img} {a:Act} {w:World}
def jM:List Value→Value
 | [v]=>v
 | vs=>.tuple vs.toArray
theorem PV {P:Program} {T:TypeId} {x v:Value} (h:(Instr.loadAt T x).run P w=.ok v w):(do loadVar T (←asAddr x):Sem Value).run P w=.ok v w:=by
 unfold Instr.loadAt at h;cases x with
 | pointer a =>
  cases a with
  | some a=>simpa [asAddr,Instr.sureAddr] using h
  | none=>simp [Instr.sureAddr] at h
 | _=>simp [Instr.sureAddr] at h
def tj (tmps:Array Value):ResultVar→Sem Value
 | .tmp t=>pure (tmps.getD t undef)
 | .cell p t=>do loadVar t (←asAddr (tmps.getD p undef))
theorem PW {r:ResultVar} {sv:SV} (hr:lc C.P σ r=some sv) (h:St C σ mu a w) :
  ∃v,(tj a.tmps r).run C.P w=.ok v w∧ak C.P (σ.env C.wF mu) sv v:=by
 cases r with
 | tmp t=>exact ⟨_,rfl,h.fr t sv hr⟩
 | cell t T =>
  simp only [lc] at hr;split at hr
  ·rename_i cx hcx
   split at hr
   ·rename_i e he
    cases hr;obtain ⟨_,v,h1,h2⟩:=Fd he (h.fr t _ hcx) h;exact ⟨v,PV h1,h2⟩
   ·cases hr
  ·cases hr
theorem G8 {fn:Func} {svs:List SV} (hr:dz (lc C.P σ) fn.results.toList=some svs) (h:St C σ mu a w) :
  ∃vs:List Value,vs.length=svs.length∧(results fn a.tmps).run C.P w=.ok (jM vs) w ∧
   ∀(i:Nat) (sv:SV),svs[i]?=some sv→∃v,vs[i]?=some v∧ak C.P (σ.env C.wF mu) sv v:=by
 obtain ⟨hl,hs⟩:=fQ hr;have hex:∀r∈fn.results,∃v,(tj a.tmps r).run C.P w=.ok v w ∧
   ∀sv,lc C.P σ r=some sv→ak C.P (σ.env C.wF mu) sv v:=by
  intro r hm
  obtain ⟨i,hi⟩:=List.getElem?_of_mem (Array.mem_toList_iff.2 hm);have hlt:i<svs.length:=by rw [hl];exact (List.getElem?_eq_some_iff.1 hi).1
  obtain ⟨x,h1,h2⟩:=hs i _ (List.getElem?_eq_getElem hlt);rw [hi] at h1;cases h1;obtain ⟨v,h3,h4⟩:=PW h2 h;exact ⟨v,h3,fun sv hsv=>by rw [h2] at hsv;cases hsv;exact h4⟩
 classical
 let g':ResultVar→Value:=fun r=>if hm:r∈fn.results then Classical.choose (hex r hm) else undef
 have hg:∀r,(hm:r∈fn.results)→g' r=Classical.choose (hex r hm):=fun r hm=>by simp only [g',hm,dite_true]
 have hmap:=Fx (P:=C.P) (w:=w) (g:=tj a.tmps) (g':=g') fn.results
  (fun r hm=>by rw [hg r hm];exact (Classical.choose_spec (hex r hm)).1)
 refine ⟨fn.results.toList.map g',by simp [hl],?_,fun i sv hi=>?_⟩
 ·have hres:results fn a.tmps=(do let vs ←fn.results.mapM (tj a.tmps);pure (if h:vs.size=1 then vs[0] else .tuple vs)):=by
   unfold results
   congr 1
  rw [hres,Sem.run_bind,hmap];simp only [Result.andThen];generalize fn.results=rs
  obtain ⟨l⟩:=rs;match l with
  | []=>simp [jM]
  | [x]=>simp [jM]
  | x::y::l=>simp [jM]
 ·obtain ⟨x,h1,h2⟩:=hs i sv hi
  have hm:x∈fn.results:=Array.mem_toList_iff.1 (List.mem_of_getElem? h1)
  refine ⟨g' x,by rw [List.getElem?_map,h1];rfl,?_⟩
  rw [hg x hm];exact (Classical.choose_spec (hex x hm)).2 sv h2
end
end Go.Sx
