/- SxC -/
import Derived.Test.YtcdmndagoafcgaaGreatSxBt
namespace Go.Sx
open Go.RowKit
inductive Key where
 | f (t:Nat)
 | h (o:Nat)
def Key.eq:Key→Key→Bool
 | .f a,.f b=>Nat.beq a b
 | .h a,.h b=>Nat.beq a b
 | _,_=>false
inductive Rd (α:Type) where
 | ret (x:α)
 | fail
 | f (t:Nat) (k:SV→Rd α)
 | h (o:Nat) (k:Ob→Rd α)
 | abs (o:Nat) (k:Rd α)
def Rd.run {α:Type} (σ:State):Rd α→Option α
 | .ret x=>some x
 | .fail=>none
 | .f t k=>match σ.F t with
  | some sv=>(k sv).run σ
  | none=>none
 | .h o k=>match σ.H o with
  | some (some ob)=>(k ob).run σ
  | some none=>none
  | none=>none
 | .abs o k=>match σ.H o with
  | none=>k.run σ
  | some _=>none
def Rd.keys {α:Type} (σ:State):Rd α→List Key
 | .ret _=>[]
 | .fail=>[]
 | .f t k=>.f t::match σ.F t with
  | some sv=>(k sv).keys σ
  | none=>[]
 | .h o k=>.h o::match σ.H o with
  | some (some ob)=>(k ob).keys σ
  | some none=>[]
  | none=>[]
 | .abs o k=>.h o::k.keys σ
structure Eff where
 val:SV
 hp:List (Nat×Option Ob)
 owed:Option Prop
def Eff.obl (e:Eff):Prop :=
 match e.owed with
 | none=>True
 | some p=>p
inductive AD where
 | c (d:FC)
 | agg (cs:List FC)
 | box (cs:List FC)
 | fv (F:FV)
 | fvs (F:SFV) (s:Int)
 | cut (off n:Nat) (d:FC)
inductive RC where
 | int (k:IntKind) (n:Int)
 | bool (b:Bool)
 | str (l:List UInt8)
 | ints (e:TypeId) (k:IntKind) (l:List Int)
 | bools (e:TypeId) (l:List Bool)
 | rows (e ei:TypeId) (k:IntKind) (l:List (List Int))
 | nilq (b:Bool)
 | ro (d:FC)
 | bx (cs:List FC)
 | strs (e:TypeId) (l:List (List UInt8))
 | cut (off n:Nat) (e ei:TypeId) (k:IntKind) (l:List (List Int))
 | lst (e:TypeId) (d:FC)
 | gone (x:RC)
 | tr (es:List TypeId) (d:FC)
def RC.isGone:RC→Bool
 | .gone _=>true
 | _=>false
inductive RV where
 | c (x:RC)
 | agg (l:List RC)
 | tup (l:List (RC ⊕ List RC))
structure Post where
 pre:Prop
 ret:RV
 wrs:List RC:=[]
structure Ctr where
 mt:List (Nat×Nat):=[]
 ct:List AD→Option Post
def fE:FC→SC
 | .int k n=>.int k n
 | .bool b=>.bool b
 | .str l=>.str l
 | .ints k l=>.ro (.ints k l)
 | .bools l=>.ro (.bools l)
 | .rows k l=>.ro (.rows k l)
 | .r3 k l=>.ro (.r3 k l)
 | .r4 k l=>.ro (.r4 k l)
def dv:FC→Bool
 | .int _ _=>true
 | .bool _=>true
 | .str _=>true
 | _=>false
def fF:Ob→Option FC
 | .ints _ k l=>some (.ints k l)
 | .bools _ l=>some (.bools l)
 | .rows _ _ _ k l=>some (.rows k l)
 | .box _=>none
 | .bx _=>none
 | .strs _ _=>none
 | .lst _ _ d=>match dv d with
  | true=>none
  | false=>some d
 | .frz _=>none
 | .mp _=>none
 | .qu _ _ _=>none
 | .rowsH _ _ _ _ _ _=>none
 | .tr _ _ d=>some d
def gD:Ob→Option FC
 | .frz d=>some d
 | ob=>match fF ob with
  | some d=>match co 0 d.len d with
   | some _=>some d
   | none=>none
  | none=>none
def kj {α:Type} (ob:Ob) (r:Rd α):Rd α :=
 match ob.isFz with
 | true=>.fail
 | false=>r
def C3 {α:Type} (c:SC) (k:SC→Rd α):Rd α :=
 match c with
 | .own o=>.h o fun ob=>match ob with
  | .frz d=>k (.ro d)
  | _=>k (.own o)
 | .pre o n=>.h o fun ob=>match ob with
  | .frz d=>match co 0 n d with
   | some d'=>k (.ro d')
   | none=>.fail
  | _=>k (.pre o n)
 | .sub o off n=>.h o fun ob=>match ob with
  | .frz d=>match co off n d with
   | some d'=>k (.ro d')
   | none=>.fail
  | _=>k (.sub o off n)
 | c=>k c
def nV:Value→Option SC
 | .int k n=>some (.int k n)
 | .bool b=>some (.bool b)
 | .string s=>some (.str s.data.toList)
 | .slice none 0 0=>some .nil
 | _=>none
def fG {α β:Type} (f:α→Option β):List α→Option (List β)
 | []=>some []
 | x::l=>match f x with
  | some y=>match fG f l with
   | some ys=>some (y::ys)
   | none=>none
  | none=>none
def fH {α:Type} (x:Operand) (k:SV→Rd α):Rd α :=
 match x with
 | .tmp t=>.f t k
 | .const v=>match v with
  | .agg cs=>match fG nV cs.toList with
   | some l=>k (.agg l)
   | none=>.fail
  | v=>match nV v with
   | some c=>k (.c c)
   | none=>.fail
 | .func f=>k (.fn f [])
 | .global _=>.fail
def cY {α:Type} (x:Operand) (k:SC→Rd α):Rd α :=
 fH x fun
  | .c c=>C3 c k
  | _=>.fail
def mo (P:Program) (t:TypeId):Option Bool :=
 match P.underlying t with
 | some (.struct _)=>some true
 | some (.array _ _)=>some true
 | some _=>some false
 | none=>none
def dN (P:Program) (t:TypeId):Option Nat :=
 match P.info? t with
 | some i=>some i.size
 | none=>none
def cC (P:Program) (t:TypeId):Option TypeId :=
 match P.underlying t with
 | some (.slice e)=>some e
 | _=>none
def ab (n:Int):Prop:=-9223372036854775808≤n∧n≤9223372036854775807
def hD (wr:Bool) (k:IntKind) (r:Int):Eff :=
 match wr,k with
 | false,.i64=>⟨.c (.int .i64 r),[],some (ab r)⟩
 | _,k=>⟨.c (.int k (k.wrap r)),[],none⟩
def aT (c:SC):Rd Eff:=.ret ⟨.c c,[],none⟩
def C4 (P:Program) (t:TypeId):Bool :=
 match P.underlying t with
 | some .bool=>true
 | _=>false
def ae (n:Nat):Prop:=n≤1099511627776
def UR:BinOp→Bool
 | .shl=>true
 | .shr=>true
 | _=>false
def C5 (wr:Bool) (op:BinOp) (cx cy:SC):Rd Eff :=
 match cx,cy with
 | .int .i64 a,.int _ b =>
  match op with
  | .shl=>.ret ⟨(hD wr .i64 (a * 2 ^ b.toNat)).val,[],some ((0≤b∧b≤62)∧(hD wr .i64 (a * 2 ^ b.toNat)).obl)⟩
  | .shr=>.ret ⟨.c (.int .i64 (a / 2 ^ b.toNat)),[],some (0≤b∧b≤62)⟩
  | _=>.fail
 | .int .u64 a,.int _ b =>
  match op with
  | .shr=>.ret ⟨.c (.int .u64 (a / 2 ^ b.toNat)),[],some (0≤b∧b≤62)⟩
  | _=>.fail
 | _,_=>.fail
def C6 (op:BinOp) (cx cy:SC):Bool :=
 match op,cx,cy with
 | .and,.int .u64 _,.int .u64 _=>true
 | _,_,_=>false
def C7 (cx cy:SC):Rd Eff :=
 match cx,cy with
 | .int .u64 a,.int .u64 b=>.ret ⟨.c (.int .u64 ((a.toNat &&& b.toNat:Nat):Int)),[],some ((0≤a∧a≤18446744073709551615)∧0≤b∧b≤18446744073709551615)⟩
 | _,_=>.fail
def C8 (P:Program) (t:TypeId) (wr:Bool) (op:BinOp) (cx cy:SC):Rd Eff :=
 match UR op with
 | true=>C5 wr op cx cy
 | false=>match C6 op cx cy with
 | true=>C7 cx cy
 | false=>match cx,cy with
 | .int k a,.int k' b =>
  if k=k' then
   match op with
   | .and=>.ret ⟨.c (.int k ((a.toNat &&& b.toNat:Nat):Int)),[],some (k=.i64∧(0≤a∧a≤9223372036854775807)∧0≤b∧b≤9223372036854775807)⟩
   | .or=>.ret ⟨.c (.int k ((a.toNat ||| b.toNat:Nat):Int)),[],some (k=.i64∧(0≤a∧a≤9223372036854775807)∧0≤b∧b≤9223372036854775807)⟩
   | .add=>.ret (hD wr k (a+b))
   | .sub=>.ret (hD wr k (a - b))
   | .mul=>.ret (hD wr k (a * b))
   | .quo=>.ret ⟨(hD wr k (a.tdiv b)).val,[],some (b≠0∧(hD wr k (a.tdiv b)).obl)⟩
   | .rem=>.ret ⟨.c (.int k (a.tmod b)),[],some (b≠0)⟩
   | .eql=>aT (.bool (a == b))
   | .neq=>aT (.bool (a != b))
   | .lss=>aT (.bool (decide (a<b)))
   | .leq=>aT (.bool (decide (a≤b)))
   | .gtr=>aT (.bool (decide (b<a)))
   | .geq=>aT (.bool (decide (b≤a)))
   | _=>.fail
  else .fail
 | .bool a,.bool b =>
  if C4 P t then
   match op with
   | .eql=>aT (.bool (a == b))
   | .neq=>aT (.bool (!(a == b)))
   | _=>.fail
  else .fail
 | .str a,.str b =>
  match op with
  | .eql=>aT (.bool (a == b))
  | .neq=>aT (.bool (!(a == b)))
  | .add=>.ret ⟨.c (.str (a++b)),[],some (ae (a.length+b.length))⟩
  | _=>.fail
 | .nilq b,.nil=>match cC P t with
  | some _=>match op with
   | .eql=>aT (.bool b)
   | .neq=>aT (.bool (!b))
   | _=>.fail
  | none=>.fail
 | .ro d,.nil=>match cC P t with
  | some _=>match op with
   | .eql=>.ret ⟨.c (.bool false),[],some (d.len≠0)⟩
   | .neq=>.ret ⟨.c (.bool true),[],some (d.len≠0)⟩
   | _=>.fail
  | none=>.fail
 | _,_=>.fail
def C9 (wr:Bool) (op:UnOp) (cx:SC):Rd Eff :=
 match op,cx with
 | .neg,.int k a=>.ret (hD wr k (-a))
 | .not,.bool b=>aT (.bool (!b))
 | _,_=>.fail
def lh (P:Program) (t:TypeId):Option IntKind :=
 match P.underlying t with
 | some (.int k)=>some k
 | _=>none
def Da (P:Program) (wr:Bool) (src dst:TypeId) (cx:SC):Rd Eff :=
 match cx with
 | .int _ n=>match P.underlying src with
  | some _=>match lh P dst with
   | some k=>.ret (hD wr k n)
   | none=>.fail
  | none=>.fail
 | _=>.fail
def Db:FC→Option FC
 | .rows k _=>some (.ints k [])
 | .r3 k _=>some (.rows k [])
 | .r4 k _=>some (.r3 k [])
 | _=>none
def jC:FC→FC→Option FC
 | .rows k l,.rows k' l'=>if k=k' then some (.rows k (l++l')) else none
 | .r3 k l,.r3 k' l'=>if k=k' then some (.r3 k (l++l')) else none
 | .r4 k l,.r4 k' l'=>if k=k' then some (.r4 k (l++l')) else none
 | _,_=>none
def iH:List FC→Option FC
 | []=>none
 | [.ints k x]=>some (.rows k [x])
 | [.rows k x]=>some (.r3 k [x])
 | [.r3 k x]=>some (.r4 k [x])
 | .ints k x::l=>match iH l with
  | some (.rows k' ls)=>if k=k' then some (.rows k (x::ls)) else none
  | _=>none
 | .rows k x::l=>match iH l with
  | some (.r3 k' ls)=>if k=k' then some (.r3 k (x::ls)) else none
  | _=>none
 | .r3 k x::l=>match iH l with
  | some (.r4 k' ls)=>if k=k' then some (.r4 k (x::ls)) else none
  | _=>none
 | _=>none
def Dc (P:Program):Nat→TypeId→List TypeId
 | 0,_=>[]
 | n+1,t=>match cC P t with
  | some e=>e::Dc P n e
  | none=>[]
def Dd:FC→Nat→Option FC
 | .rows k _,n=>some (.rows k (List.replicate n []))
 | .r3 k _,n=>some (.r3 k (List.replicate n []))
 | .r4 k _,n=>some (.r4 k (List.replicate n []))
 | _,_=>none
def nW:Ob→Option (List TypeId×FC)
 | .ints e k l=>some ([e],.ints k l)
 | .rows _ e ei k l=>some ([e,ei],.rows k l)
 | .tr _ es d=>some (es,d)
 | _=>none
def vI:FC→Option (IntKind×List Int)
 | .ints k l=>some (k,l)
 | _=>none
def De:SC→SC
 | .orig _ _ d=>.ro d
 | c=>c
def vJ (P:Program) (t:TypeId) (cx:SC):Rd Eff :=
 match mo P t with
 | none=>.fail
 | some true=>match dN P t with
  | none=>.fail
  | some n=>match cx with
   | .ptr o i=>.h o fun
    | .box cs=>if i+n≤cs.length then .ret ⟨.agg ((cs.drop i).take n),[],none⟩ else .fail
    | _=>.fail
   | .rob cs i=>if i+n≤cs.length then .ret ⟨.agg (((cs.drop i).take n).map fE),[],none⟩ else .fail
   | _=>.fail
 | some false=>match cx with
  | .ptr o i=>.h o fun
   | .box cs=>match cs[i]? with
    | some c=>aT (De c)
    | none=>.fail
   | .ints _ k l=>aT (.int k (l.getD i 0))
   | .bools _ l=>aT (.bool (l.getD i false))
   | .rows ver _ _ _ _=>aT (.row o ver i)
   | .bx _=>.fail
   | .strs _ l=>aT (.str (l.getD i []))
   | .lst _ _ d=>match du d i with
    | some x=>aT (.ro x)
    | none=>.fail
   | .frz _=>.fail
   | .mp _=>.fail
   | .qu _ _ _=>.fail
   | .rowsH _ _ _ _ _ _=>.fail
   | .tr _ _ _=>.fail
  | .rptr o ver i j=>.h o fun
   | .rows ver' _ _ k l=>if ver=ver' then aT (.int k ((l.getD i []).getD j 0)) else .fail
   | _=>.fail
  | .rop d i=>match d with
   | .ints k l=>aT (.int k (l.getD i 0))
   | .bools l=>aT (.bool (l.getD i false))
   | .rows k l=>aT (.ro (.ints k (l.getD i [])))
   | .r3 k l=>aT (.ro (.rows k (l.getD i [])))
   | .r4 k l=>aT (.ro (.r3 k (l.getD i [])))
   | _=>.fail
  | .rob cs i=>match cs[i]? with
   | some fc=>aT (fE fc)
   | none=>.fail
  | .qptr o i=>.h o fun
   | .qu _ k l=>aT (.int k (l.getD i 0))
   | _=>.fail
  | .kptr o ver p j=>.h o fun
   | .tr ver' _ d=>if ver=ver' then (match iG d p with
    | some x=>match vI x with
     | some (k,l)=>aT (.int k (l.getD j 0))
     | none=>match du x j with
      | some _=>aT (.kid o ver (p++[j]))
      | none=>.fail
    | none=>.fail) else .fail
   | _=>.fail
  | _=>.fail
def Df (P:Program) (d:Nat) (t:TypeId) (cx:SC):Rd Eff :=
 match mo P t with
 | some false=>match cx with
  | .kptr o ver [] j=>.h o fun
   | .tr ver' [_,e,ei] (.r3 k l)=>if ver=ver' then .abs d (.ret ⟨.c (.own d),[(d,some (.rows 0 e ei k (l.getD j []))),(o,none)],none⟩) else .fail
   | _=>.fail
  | _=>.fail
 | _=>.fail
def SC.plain:SC→Bool
 | .any=>false
 | .und=>false
 | _=>true
def Dg (P:Program) (t:TypeId) (cx:SC) (sv:SV):Rd Eff :=
 match sv with
 | .c c =>
  if c.plain=true∧dN P t=some 1 then
   match cx with
   | .ptr o i=>.h o fun
    | .box cs=>if i<cs.length then .ret ⟨.c .any,[(o,some (.box (cs.set i c)))],none⟩ else .fail
    | .ints e k l=>match c with
     | .int k' n=>if k=k' then .ret ⟨.c .any,[(o,some (.ints e k (l.set i n)))],none⟩ else .fail
     | _=>.fail
    | .bools e l=>match c with
     | .bool b=>.ret ⟨.c .any,[(o,some (.bools e (l.set i b)))],none⟩
     | _=>.fail
    | .rows ver e ei k l=>match c with
     | .own o2=>.h o2 fun
      | .ints e2 k2 l2=>if e2=ei∧k2=k∧o2≠o then .ret ⟨.c .any,[(o2,none),(o,some (.rows (ver+1) e ei k (l.set i l2)))],none⟩ else .fail
      | _=>.fail
     | .nil=>.ret ⟨.c .any,[(o,some (.rows (ver+1) e ei k (l.set i [])))],none⟩
     | _=>.fail
    | .bx _=>.fail
    | .strs _ _=>.fail
    | .lst ver e d=>match c with
     | .ro x=>match gC d i x with
      | some d'=>.ret ⟨.c .any,[(o,some (.lst ver e d'))],none⟩
      | none=>.fail
     | .nil=>match Db d with
      | some x=>match gC d i x with
       | some d'=>.ret ⟨.c .any,[(o,some (.lst ver e d'))],none⟩
       | none=>.fail
      | none=>.fail
     | .own o2=>.h o2 fun ob2=>match gD ob2 with
      | some x=>match gC d i x with
       | some d'=>if o2≠o then .ret ⟨.c .any,[(o,some (.lst ver e d')),(o2,some (.frz x))],none⟩ else .fail
       | none=>.fail
      | none=>.fail
     | _=>.fail
    | .frz _=>.fail
    | .mp _=>.fail
    | .qu _ _ _=>.fail
    | .rowsH ver e ei k l hs=>match c with
     | .own o2=>.h o2 fun
      | .ints e2 k2 l2=>if e2=ei∧k2=k∧o2≠o then
        (match hs with
        | [h]=>.ret ⟨.c .any,[(o2,none),(o,some (.rows (ver+1) e ei k (l.set i l2)))],some (i=h)⟩
        | h::hs'=>.ret ⟨.c .any,[(o2,none),(o,some (.rowsH (ver+1) e ei k (l.set i l2) hs'))],some (i=h∧¬ h∈hs')⟩
        | []=>.fail) else .fail
      | _=>.fail
     | _=>.fail
    | .tr _ _ _=>.fail
   | .kptr o ver p j=>.h o fun
    | .tr ver' es d=>match c with
     | .int k' n=>if ver=ver' then (match iG d p with
      | some x=>match vI x with
       | some (k,l)=>if k=k' then (match lg d p (.ints k (l.set j n)) with
        | some d'=>.ret ⟨.c .any,[(o,some (.tr ver' es d'))],none⟩
        | none=>.fail) else .fail
       | none=>.fail
      | none=>.fail) else .fail
     | .own o2=>.h o2 fun ob2=>match nW ob2 with
      | some (es2,y)=>if ver=ver'∧o2≠o∧g9 es2 (es.drop (p.length+1))=true then (match iG d p with
       | some x=>match gC x j y with
        | some x'=>match lg d p x' with
         | some d'=>.ret ⟨.c .any,[(o2,none),(o,some (.tr (ver'+1) es d'))],none⟩
         | none=>.fail
        | none=>.fail
       | none=>.fail) else .fail
      | none=>.fail
     | _=>.fail
    | _=>.fail
   | .rptr o ver i j=>.h o fun
    | .rows ver' e ei k l=>match c with
     | .int k' n=>if ver=ver'∧k=k' then .ret ⟨.c .any,[(o,some (.rows ver' e ei k (l.set i ((l.getD i []).set j n))))],none⟩ else .fail
     | _=>.fail
    | _=>.fail
   | _=>.fail
  else .fail
 | .agg cs' =>
  if dN P t=some cs'.length then
   match cx with
   | .ptr o i=>.h o fun
    | .box cs=>if i+cs'.length≤cs.length then .ret ⟨.c .any,[(o,some (.box (cs.take i++cs'++cs.drop (i+cs'.length))))],none⟩ else .fail
    | _=>.fail
   | _=>.fail
  else .fail
 | _=>.fail
def lj (P:Program) (t:TypeId):Option (List SC) :=
 match P.info? t with
 | some i=>match i.zero with
  | some z=>fG nV z.cells.toList
  | none=>none
 | none=>none
def Dh (P:Program) (d:Nat) (t:TypeId):Rd Eff :=
 match lj P t with
 | some cs=>.abs d (if cs.isEmpty=false then .ret ⟨.c (.ptr d 0),[(d,some (.box cs))],none⟩ else .fail)
 | none=>.fail
def Di (d:Nat) (sv:SV):Rd Eff :=
 match sv with
 | .c c=>if c.plain then .abs d (.ret ⟨.c (.ptr d 0),[(d,some (.box [c]))],none⟩) else .fail
 | .agg cs=>.abs d (if cs.isEmpty=false then .ret ⟨.c (.ptr d 0),[(d,some (.box cs))],none⟩ else .fail)
 | _=>.fail
def jD:SV→Option (List SC)
 | .c c=>if c.plain then some [c] else none
 | .agg l=>some l
 | _=>none
def vK (P:Program) (fs:Array Field):List (Nat×Operand)→List SC→(List SC→Rd Eff)→Rd Eff
 | [],cs,k=>k cs
 | (i,x)::rest,cs,k=>fH x fun sv=>match jD sv with
  | none=>.fail
  | some l=>match fs[i]? with
   | none=>.fail
   | some fd=>if dN P fd.type=some l.length∧fd.offset+l.length≤cs.length then
     vK P fs rest (cs.take fd.offset++l++cs.drop (fd.offset+l.length)) k
    else .fail
def Dj (P:Program) (t:TypeId) (parts:Array (Nat×Operand)):Rd Eff :=
 match lj P t with
 | none=>.fail
 | some cs=>match P.underlying t with
  | some (.struct fs)=>match fG (fun f:Field=>dN P f.type) fs.toList with
   | some _=>vK P fs parts.toList cs fun cs=>.ret ⟨.agg cs,[],none⟩
   | none=>.fail
  | _=>.fail
def jE {α:Type}:List Operand→(List SV→Rd α)→Rd α
 | [],k=>k []
 | x::l,k=>fH x fun sv=>jE l fun svs=>k (sv::svs)
def pY (k:IntKind):List SV→Option (List Int)
 | []=>some []
 | .c (.int k' n)::l=>if k=k' then (match pY k l with | some ns=>some (n::ns) | none=>none) else none
 | _=>none
def pZ:List SV→Option (List Bool)
 | []=>some []
 | .c (.bool b)::l=>(match pZ l with | some ns=>some (b::ns) | none=>none)
 | _=>none
def p5:List SV→Option (List (List UInt8))
 | []=>some []
 | .c (.str b)::l=>(match p5 l with | some ns=>some (b::ns) | none=>none)
 | _=>none
def p6 (ei:TypeId) (ki:IntKind):List SV→List Nat→(List (List Int)→List Nat→Rd Eff)→Rd Eff
 | [],_,k=>k [] []
 | .c .nil::l,used,k=>p6 ei ki l used fun ls os=>k ([]::ls) os
 | .c (.own o)::l,used,k=>.h o fun
  | .ints e k' r=>if e=ei∧k'=ki∧used.all (fun u=>!(Nat.beq u o)) then p6 ei ki l (o::used) fun ls os=>k (r::ls) (o::os) else .fail
  | _=>.fail
 | _,_,_=>.fail
def vL:List SC→Option (List (List Int))
 | []=>some []
 | .ro (.ints .i64 l)::cs=>match vL cs with
  | some ls=>some (l::ls)
  | none=>none
 | _=>none
def nX (hint:Bool):List SV→(Option (List FC×List (Nat×Option Ob))→Rd Eff)→Rd Eff
 | [],K=>K (some ([],[]))
 | .c (.ro d)::l,K=>nX hint l fun
  | some (ds,fs)=>K (some (d::ds,fs))
  | none=>K none
 | .c (.own o)::l,K=>.h o fun ob=>match ob with
  | .frz d=>nX hint l fun
   | some (ds,fs)=>K (some (d::ds,fs))
   | none=>K none
  | ob=>match hint with
   | true=>match gD ob with
    | some d=>nX hint l fun
     | some (ds,fs)=>K (some (d::ds,(o,some (.frz d))::fs))
     | none=>K none
    | none=>K none
   | false=>K none
 | _,K=>K none
def iI (P:Program) (t:TypeId):Option FC :=
 match P.underlying t with
 | some (.slice e)=>match P.underlying e with
  | some (.int k)=>some (.ints k [])
  | some .bool=>some (.bools [])
  | some (.slice e2)=>match P.underlying e2 with
   | some (.int k)=>some (.rows k [])
   | some (.slice e3)=>match P.underlying e3 with
    | some (.int k)=>some (.r3 k [])
    | some (.slice e4)=>match lh P e4 with
     | some k=>some (.r4 k [])
     | none=>none
    | _=>none
   | _=>none
  | _=>none
 | _=>none
def Dk (P:Program) (hint:Bool) (d:Nat) (t:TypeId) (len:Nat) (parts:Array (Nat×Operand)):Rd Eff :=
 if (parts.toList.map (·.1))=List.range len∧len≤1000 then
  match cC P t with
  | none=>.fail
  | some e=>if dN P e=some 1∧(lj P e).isSome=true then
    match P.underlying e with
    | some (.int k)=>jE (parts.toList.map (·.2)) fun svs=>match pY k svs with
     | some l=>.abs d (.ret ⟨.c (.own d),[(d,some (.ints e k l))],none⟩)
     | none=>.fail
    | some .bool=>jE (parts.toList.map (·.2)) fun svs=>match pZ svs with
     | some l=>.abs d (.ret ⟨.c (.own d),[(d,some (.bools e l))],none⟩)
     | none=>.fail
    | some .string=>jE (parts.toList.map (·.2)) fun svs=>match p5 svs with
     | some l=>.abs d (.ret ⟨.c (.own d),[(d,some (.strs e l))],none⟩)
     | none=>.fail
    | some (.slice ei)=>jE (parts.toList.map (·.2)) fun svs=>nX hint svs fun pr=>match pr with
     | some (x::xs,fs)=>match iH (x::xs) with
      | some dd=>.abs d (.ret ⟨.c (.own d),(d,some (.lst 0 e dd))::fs,none⟩)
      | none=>.fail
     | _=>match lh P ei with
      | some ki=>p6 ei ki svs [] fun ls os =>
        .abs d (.ret ⟨.c (.own d),(d,some (.rows 0 e ei ki ls))::os.map (fun o=>(o,none)),none⟩)
      | none=>match svs with
       | []=>match iI P t with
        | some dd=>.abs d (.ret ⟨.c (.own d),[(d,some (.lst 0 e dd))],none⟩)
        | none=>.fail
       | _=>.fail
    | _=>.fail
   else .fail
 else .fail
def Dl (P:Program) (d:Nat) (t:TypeId) (len:Nat) (parts:Array (Nat×Operand)):Rd Eff :=
 if (parts.toList.map (·.1))=List.range len∧len≤1000 then
  match cC P t with
  | none=>.fail
  | some e=>if dN P e=some 1∧(lj P e).isSome=true then
    match iI P t with
    | none=>.fail
    | some d0=>jE (parts.toList.map (·.2)) fun svs=>match svs with
     | []=>match Dc P 4 t with
      | e1::e2::es=>if e1=e∧d0.dep=es.length+1 then .abs d (.ret ⟨.c (.own d),[(d,some (.tr 0 (e1::e2::es) d0))],none⟩) else .fail
      | _=>.fail
     | [.c (.own o2)]=>.h o2 fun ob2=>match nW ob2 with
      | some (es2,y)=>match iH [y] with
       | some dd=>.abs d (.ret ⟨.c (.own d),[(d,some (.tr 0 (e::es2) dd)),(o2,none)],none⟩)
       | none=>.fail
      | none=>.fail
     | [.c (.own o1),.c (.own o2)]=>.h o1 fun ob1=>.h o2 fun ob2=>match nW ob1 with
      | some (es1,y1)=>match nW ob2 with
       | some (es2,y2)=>match iH [y1,y2] with
        | some dd=>match g9 es1 es2&&!Nat.beq o1 o2 with
         | true=>.abs d (.ret ⟨.c (.own d),[(d,some (.tr 0 (e::es1) dd)),(o1,none),(o2,none)],none⟩)
         | false=>.fail
        | none=>.fail
       | none=>.fail
      | none=>.fail
     | _=>.fail
   else .fail
 else .fail
def Dm (P:Program) (s:TypeId) (cx:SC) (f:Nat):Rd Eff :=
 match P.underlying s with
 | some (.struct fs)=>match fs[f]? with
  | none=>.fail
  | some fd=>match dN P fd.type with
   | some (_+1)=>match cx with
    | .ptr o i=>.h o fun
     | .box cs=>if i+fd.offset<cs.length then aT (.ptr o (i+fd.offset)) else .fail
     | _=>.fail
    | .rob cs i=>aT (.rob cs (i+fd.offset))
    | _=>.fail
   | _=>.fail
 | _=>.fail
def Dn (P:Program) (s:TypeId) (sv:SV) (f:Nat):Rd Eff :=
 match P.underlying s with
 | some (.struct fs)=>match fs[f]? with
  | none=>.fail
  | some fd=>match sv with
   | .agg cs=>match mo P fd.type with
    | some true=>match dN P fd.type with
     | some n=>if fd.offset+n≤cs.length then .ret ⟨.agg ((cs.drop fd.offset).take n),[],none⟩ else .fail
     | none=>.fail
    | some false=>match cs[fd.offset]? with
     | some c=>aT c
     | none=>.fail
    | none=>.fail
   | _=>.fail
 | _=>.fail
def aa (n:Int) (len:Nat):Prop:=0≤n∧n<(len:Int)
def Do (P:Program) (t:TypeId) (cx ci:SC):Rd Eff :=
 match cC P t with
 | none=>.fail
 | some e=>if dN P e=some 1 then
   match ci with
   | .int _ n=>match cx with
    | .own o=>.h o fun ob=>match ob with
     | .box _=>.fail
     | .bx _=>.fail
     | .strs _ l=>.ret ⟨.c (.ptr o n.toNat),[],some (aa n l.length)⟩
     | .ints _ _ l=>.ret ⟨.c (.ptr o n.toNat),[],some (aa n l.length)⟩
     | .bools _ l=>.ret ⟨.c (.ptr o n.toNat),[],some (aa n l.length)⟩
     | .rows _ _ _ _ l=>.ret ⟨.c (.ptr o n.toNat),[],some (aa n l.length)⟩
     | .lst _ _ d=>.ret ⟨.c (.ptr o n.toNat),[],some (aa n d.len)⟩
     | .frz _=>.fail
     | .mp _=>.fail
     | .qu _ _ l=>.ret ⟨.c (.qptr o n.toNat),[],some (aa n l.length)⟩
     | .rowsH _ _ _ _ l _=>.ret ⟨.c (.ptr o n.toNat),[],some (aa n l.length)⟩
     | .tr ver _ d=>.ret ⟨.c (.kptr o ver [] n.toNat),[],some (aa n d.len)⟩
    | .kid o ver p=>.h o fun
     | .tr ver' _ d=>if ver=ver' then (match iG d p with
      | some x=>.ret ⟨.c (.kptr o ver p n.toNat),[],some (aa n x.len)⟩
      | none=>.fail) else .fail
     | _=>.fail
    | .pre o len=>.h o fun ob=>kj ob (.ret ⟨.c (.ptr o n.toNat),[],some (aa n len)⟩)
    | .sub o off len=>.h o fun ob=>kj ob (.ret ⟨.c (.ptr o (off+n.toNat)),[],some (aa n len)⟩)
    | .row o ver i=>.h o fun
     | .rows ver' _ _ _ l=>if ver=ver' then .ret ⟨.c (.rptr o ver i n.toNat),[],some (aa n (l.getD i []).length)⟩ else .fail
     | _=>.fail
    | .ro d=>match d with
     | .ints k l=>.ret ⟨.c (.rop (.ints k l) n.toNat),[],some (aa n l.length)⟩
     | .bools l=>.ret ⟨.c (.rop (.bools l) n.toNat),[],some (aa n l.length)⟩
     | .rows k l=>.ret ⟨.c (.rop (.rows k l) n.toNat),[],some (aa n l.length)⟩
     | .r3 k l=>.ret ⟨.c (.rop (.r3 k l) n.toNat),[],some (aa n l.length)⟩
     | .r4 k l=>.ret ⟨.c (.rop (.r4 k l) n.toNat),[],some (aa n l.length)⟩
     | _=>.fail
    | _=>.fail
   | _=>.fail
  else .fail
def vM (cx:SC):Rd Eff :=
 match cx with
 | .nil=>aT (.int .i64 0)
 | .str l=>aT (.int .i64 (l.length:Int))
 | .own o=>.h o fun ob=>match ob with
  | .box _=>.fail
  | .bx _=>.fail
  | .strs _ l=>aT (.int .i64 (l.length:Int))
  | .ints _ _ l=>aT (.int .i64 (l.length:Int))
  | .bools _ l=>aT (.int .i64 (l.length:Int))
  | .rows _ _ _ _ l=>aT (.int .i64 (l.length:Int))
  | .lst _ _ d=>aT (.int .i64 (d.len:Int))
  | .frz _=>.fail
  | .mp _=>.fail
  | .qu _ _ l=>aT (.int .i64 (l.length:Int))
  | .rowsH _ _ _ _ l _=>aT (.int .i64 (l.length:Int))
  | .tr _ _ d=>aT (.int .i64 (d.len:Int))
 | .kid o ver p=>.h o fun
  | .tr ver' _ d=>if ver=ver' then (match iG d p with
   | some x=>aT (.int .i64 (x.len:Int))
   | none=>.fail) else .fail
  | _=>.fail
 | .pre o n=>.h o fun ob=>kj ob (aT (.int .i64 (n:Int)))
 | .sub o _ n=>.h o fun ob=>kj ob (aT (.int .i64 (n:Int)))
 | .row o ver i=>.h o fun
  | .rows ver' _ _ _ l=>if ver=ver' then aT (.int .i64 ((l.getD i []).length:Int)) else .fail
  | _=>.fail
 | .ro d=>match d with
  | .ints _ l=>aT (.int .i64 (l.length:Int))
  | .bools l=>aT (.int .i64 (l.length:Int))
  | .rows _ l=>aT (.int .i64 (l.length:Int))
  | .r3 _ l=>aT (.int .i64 (l.length:Int))
  | .r4 _ l=>aT (.int .i64 (l.length:Int))
  | _=>.fail
 | _=>.fail
def mq {α:Type} (x:Option Operand) (k:Option Int→Rd α):Rd α :=
 match x with
 | none=>k none
 | some y=>cY y fun
  | .int _ n=>k (some n)
  | _=>.fail
def ar (L:Nat):Option Int→Option Int→Prop
 | none,none=>True
 | none,some h=>0≤h∧h≤(L:Int)
 | some l,none=>0≤l∧l≤(L:Int)
 | some l,some h=>0≤l∧l≤h∧h≤(L:Int)
def dB {α:Type} (r:List α):Option Int→Option Int→List α
 | none,none=>r
 | none,some h=>r.take h.toNat
 | some l,none=>r.drop l.toNat
 | some l,some h=>(r.take h.toNat).drop l.toNat
def lm (o L:Nat):Option Int→Option Int→SC
 | none,none=>.pre o L
 | none,some h=>.pre o h.toNat
 | some l,none=>.sub o l.toNat (L - l.toNat)
 | some l,some h=>.sub o l.toNat (h.toNat - l.toNat)
def KQ (o off L:Nat):Option Int→Option Int→SC
 | none,none=>.sub o off L
 | none,some h=>.sub o off h.toNat
 | some l,none=>.sub o (off+l.toNat) (L - l.toNat)
 | some l,some h=>.sub o (off+l.toNat) (h.toNat - l.toNat)
def p7 (P:Program) (t:TypeId) (cx:SC) (lo hi:Option Operand):Rd Eff :=
 match cx with
 | .str r=>match P.underlying t with
  | some .string=>mq lo fun l=>mq hi fun h=>.ret ⟨.c (.str (dB r l h)),[],some (ar r.length l h)⟩
  | _=>.fail
 | cx=>match cC P t with
  | none=>.fail
  | some e=>if dN P e=some 1 then
    mq lo fun l=>mq hi fun h=>match cx with
     | .own o=>.h o fun
      | .box _=>.fail
      | .bx _=>.fail
      | .strs _ _=>.fail
      | .ints _ _ r=>.ret ⟨.c (lm o r.length l h),[],some (ar r.length l h)⟩
      | .bools _ r=>.ret ⟨.c (lm o r.length l h),[],some (ar r.length l h)⟩
      | .rows _ _ _ _ r=>.ret ⟨.c (lm o r.length l h),[],some (ar r.length l h)⟩
      | .lst _ _ d=>.ret ⟨.c (lm o d.len l h),[],some (ar d.len l h)⟩
      | .frz _=>.fail
      | .mp _=>.fail
      | .qu _ _ _=>.fail
      | .rowsH _ _ _ _ _ _=>.fail
      | .tr _ _ _=>.fail
     | .pre o L=>.h o fun ob=>kj ob (.ret ⟨.c (lm o L l h),[],some (ar L l h)⟩)
     | .sub o off L=>.h o fun ob=>kj ob (.ret ⟨.c (KQ o off L l h),[],some (ar L l h)⟩)
     | .ro d=>match d with
      | .ints k r=>.ret ⟨.c (.ro (.ints k (dB r l h))),[],some (ar r.length l h)⟩
      | .bools r=>.ret ⟨.c (.ro (.bools (dB r l h))),[],some (ar r.length l h)⟩
      | .rows k r=>.ret ⟨.c (.ro (.rows k (dB r l h))),[],some (ar r.length l h)⟩
      | .r3 k r=>.ret ⟨.c (.ro (.r3 k (dB r l h))),[],some (ar r.length l h)⟩
      | .r4 k r=>.ret ⟨.c (.ro (.r4 k (dB r l h))),[],some (ar r.length l h)⟩
      | _=>.fail
     | _=>.fail
   else .fail
def vN (P:Program) (d:Nat) (t:TypeId) (cx:SC) (lo hi:Option Operand):Rd Eff :=
 match cx with
 | .own o=>.h o fun
  | .qu e k l=>match cC P t,hi with
   | some e',none=>if dN P e'=some 1 then
     mq lo fun
      | some n=>.abs d (.ret ⟨.c (.own d),[(d,some (.qu e k (l.drop n.toNat))),(o,none)],some (0≤n∧n≤(l.length:Int))⟩)
      | none=>.fail
    else .fail
   | _,_=>.fail
  | _=>p7 P t (.own o) lo hi
 | cx=>p7 P t cx lo hi
def fT (P:Program) (e:TypeId):Bool :=
 match P.info? e with
 | some i=>Nat.ble i.bytes 128&&Nat.beq i.size 1&&(match i.zero with | some z=>Nat.beq z.cells.size 1 | none=>false)
 | none=>false
def km (P:Program) (e:TypeId) (c:SC):Bool :=
 match P.info? e with
 | some i=>match i.zero with
  | some (.int k n)=>match c with
   | .int k' n'=>decide (k=k'∧n=n')
   | _=>false
  | some (.bool b)=>match c with
   | .bool b'=>b == b'
   | _=>false
  | some (.slice none 0 0)=>match c with
   | .nil=>true
   | _=>false
  | _=>false
 | none=>false
def Dp (P:Program) (d:Nat) (t:TypeId) (cl cc:SC):Rd Eff :=
 match cC P t with
 | none=>.fail
 | some e=>if fT P e then
   match cl,cc with
   | .int _ n,.int _ m=>match P.underlying e with
    | some (.int k)=>if km P e (.int k 0) then .abs d (.ret ⟨.c (.own d),[(d,some (.ints e k (List.replicate n.toNat 0)))],some (0≤n∧n≤m∧ae m.toNat)⟩) else .fail
    | some .bool=>if km P e (.bool false) then .abs d (.ret ⟨.c (.own d),[(d,some (.bools e (List.replicate n.toNat false)))],some (0≤n∧n≤m∧ae m.toNat)⟩) else .fail
    | some (.slice ei)=>match lh P ei with
     | some k=>if km P e .nil then .abs d (.ret ⟨.c (.own d),[(d,some (.rows 0 e ei k (List.replicate n.toNat [])))],some (0≤n∧n≤m∧ae m.toNat)⟩) else .fail
     | none=>match iI P t with
      | some d0=>match Dd d0 n.toNat,Dc P 4 t with
       | some dd,e1::e2::es=>if km P e .nil=true∧e1=e∧d0.dep=es.length+1 then .abs d (.ret ⟨.c (.own d),[(d,some (.tr 0 (e1::e2::es) dd))],some (0≤n∧n≤m∧ae m.toNat)⟩) else .fail
       | _,_=>.fail
      | none=>.fail
    | _=>.fail
   | _,_=>.fail
  else .fail
def p9 (k:IntKind) (c:SC) (K:List Int→Rd Eff):Rd Eff :=
 match c with
 | .nil=>K []
 | .own o=>.h o fun
  | .ints _ k' l=>if k'=k then K l else .fail
  | _=>.fail
 | .pre o n=>.h o fun
  | .ints _ k' l=>if k'=k then K (l.take n) else .fail
  | _=>.fail
 | .sub o off n=>.h o fun
  | .ints _ k' l=>if k'=k then K ((l.drop off).take n) else .fail
  | _=>.fail
 | .row o ver i=>.h o fun
  | .rows ver' _ _ k' l=>if k'=k∧ver=ver' then K (l.getD i []) else .fail
  | _=>.fail
 | .ro d=>match d with
  | .ints k' l=>if k'=k then K l else .fail
  | _=>.fail
 | _=>.fail
def vO (c:SC) (K:List Bool→Rd Eff):Rd Eff :=
 match c with
 | .nil=>K []
 | .own o=>.h o fun
  | .bools _ l=>K l
  | _=>.fail
 | .ro d=>match d with
  | .bools l=>K l
  | _=>.fail
 | _=>.fail
def Dq (c:SC) (K:List (List UInt8)→Rd Eff):Rd Eff :=
 match c with
 | .own o=>.h o fun
  | .strs _ l=>K l
  | _=>.fail
 | _=>.fail
def Ds (c:SC) (K:FC→List (Nat×Option Ob)→Rd Eff):Rd Eff :=
 match c with
 | .ro d=>K d []
 | .own o=>.h o fun
  | .lst _ _ d=>K d []
  | .rows _ _ _ k l=>K (.rows k l) [(o,some (.frz (.rows k l)))]
  | _=>.fail
 | .pre o n=>.h o fun
  | .lst _ _ d=>match co 0 n d with
   | some d'=>K d' []
   | none=>.fail
  | _=>.fail
 | .sub o off n=>.h o fun
  | .lst _ _ d=>match co off n d with
   | some d'=>K d' []
   | none=>.fail
  | _=>.fail
 | _=>.fail
def nY (o:Nat):List (Nat×Option Ob)→Bool
 | []=>true
 | (o',_)::l=>!(Nat.beq o' o)&&nY o l
def nZ (d:Nat) (e:TypeId) (cx cy:SC):Rd Eff :=
 Ds cy fun dy fy=>match cx with
  | .nil=>if dv dy=false then .abs d (.ret ⟨.c (.own d),(d,some (.lst 0 e dy))::fy,some (ae dy.len)⟩) else .fail
  | .own o=>.h o fun
   | .lst _ e1 dx=>match jC dx dy with
    | some dd=>if e1=e∧nY o fy=true then .abs d (.ret ⟨.c (.own d),(d,some (.lst 0 e dd))::(o,none)::fy,some (ae (dx.len+dy.len))⟩) else .fail
    | none=>.fail
   | .rows _ e1 _ k l=>match jC (.rows k l) dy with
    | some dd=>if e1=e∧nY o fy=true then .abs d (.ret ⟨.c (.own d),(d,some (.lst 0 e dd))::(o,none)::fy,some (ae (l.length+dy.len))⟩) else .fail
    | none=>.fail
   | _=>.fail
  | .pre o n=>.h o fun
   | .lst _ e1 dx=>match co 0 n dx with
    | some dx'=>match jC dx' dy with
     | some dd=>if e1=e∧nY o fy=true then .abs d (.ret ⟨.c (.own d),(d,some (.lst 0 e dd))::(o,none)::fy,some (ae (n+dy.len))⟩) else .fail
     | none=>.fail
    | none=>.fail
   | _=>.fail
  | _=>.fail
def Dt (d:Nat) (e:TypeId) (cx:SC) (o2:Nat) (es2:List TypeId) (dy:FC):Rd Eff :=
 match cx with
 | .own o=>.h o fun
  | .tr _ es dx=>match jC dx dy with
   | some dd=>if g9 es es2=true∧es.head?=some e∧o≠o2 then .abs d (.ret ⟨.c (.own d),[(d,some (.tr 0 es dd)),(o,none),(o2,none)],some (ae (dx.len+dy.len))⟩) else .fail
   | none=>.fail
  | _=>.fail
 | _=>.fail
def eQ (id o ver:Nat) (e ei:TypeId) (k:IntKind) (l:List (List Int)) (hs:List Nat) (i:Nat):List (Nat×Option Ob) :=
 [(id,some (.ints ei k (l.getD i []))),(o,some (.rowsH ver e ei k l hs))]
def Du (P:Program) (d:Nat) (t:TypeId) (cx cy:SC):Rd Eff :=
 match cC P t with
 | none=>.fail
 | some e=>if fT P e then
   match P.underlying e with
   | some (.int k)=>p9 k cy fun ys=>match cx with
    | .nil=>.abs d (.ret ⟨.c (.own d),[(d,some (.ints e k ys))],some (ae ys.length)⟩)
    | .emp=>.abs d (.ret ⟨.c (.own d),[(d,some (.ints e k ys))],some (ys.length≠0∧ae ys.length)⟩)
    | .own o=>.h o fun
     | .ints e' k' l=>if e'=e∧k'=k then .abs d (.ret ⟨.c (.own d),[(d,some (.ints e k (l++ys))),(o,none)],some (ae (l.length+ys.length))⟩) else .fail
     | .qu e' k' l=>if e'=e∧k'=k then .abs d (.ret ⟨.c (.own d),[(d,some (.qu e k (l++ys))),(o,none)],some (ys.length≠0∧ae (l.length+ys.length))⟩) else .fail
     | _=>.fail
    | .pre o n=>.h o fun
     | .ints e' k' l=>if e'=e∧k'=k then .abs d (.ret ⟨.c (.own d),[(d,some (.ints e k (l.take n++ys))),(o,none)],some (ae (n+ys.length))⟩) else .fail
     | _=>.fail
    | .row o ver i=>.h o fun
     | .rows ver' e1 ei k' l=>if ver'=ver∧ei=e∧k'=k then .abs d (.abs (d+500000) (.ret ⟨.c (.own d),[(d,some (.ints e k (l.getD i []++ys))),(d+500000,none)]++eQ (d+500000) o (ver+1) e1 ei k l [i] i,some (ae ((l.getD i []).length+ys.length))⟩)) else .fail
     | _=>.fail
    | _=>.fail
   | some .bool=>vO cy fun ys=>match cx with
    | .nil=>.abs d (.ret ⟨.c (.own d),[(d,some (.bools e ys))],some (ae ys.length)⟩)
    | .own o=>.h o fun
     | .bools e' l=>if e'=e then .abs d (.ret ⟨.c (.own d),[(d,some (.bools e (l++ys))),(o,none)],some (ae (l.length+ys.length))⟩) else .fail
     | _=>.fail
    | _=>.fail
   | some .string=>Dq cy fun ys=>match cx with
    | .own o=>.h o fun
     | .strs e' l=>if e'=e then .abs d (.ret ⟨.c (.own d),[(d,some (.strs e (l++ys))),(o,none)],some (ae (l.length+ys.length))⟩) else .fail
     | _=>.fail
    | _=>.fail
   | some (.slice _)=>match cy with
    | .own o2=>.h o2 fun
     | .rows _ e2 ei2 k2 ys=>if e2=e then
       match cx with
       | .nil=>.abs d (.ret ⟨.c (.own d),[(d,some (.rows 0 e ei2 k2 ys)),(o2,none)],some (ae ys.length)⟩)
       | .own o=>.h o fun
        | .rows _ e1 ei1 k1 l=>if e1=e∧ei1=ei2∧k1=k2∧o≠o2 then
          .abs d (.ret ⟨.c (.own d),[(d,some (.rows 0 e ei2 k2 (l++ys))),(o,none),(o2,none)],some (ae (l.length+ys.length))⟩) else .fail
        | _=>nZ d e cx cy
       | _=>nZ d e cx cy
      else .fail
     | .tr _ es2 dy=>Dt d e cx o2 es2 dy
     | _=>nZ d e cx cy
    | _=>nZ d e cx cy
   | _=>.fail
  else .fail
def Dv (P:Program) (d:Nat) (t:TypeId) (cx cy:SC):Rd Eff :=
 match cC P t with
 | none=>.fail
 | some e=>if fT P e then
   match P.underlying e with
   | some (.int k)=>if km P e (.int k 0) then
     match cy with
     | .int _ m=>match cx with
      | .own o=>.h o fun
       | .ints e' k' l=>if e'=e∧k'=k then .abs d (.ret ⟨.c (.own d),[(d,some (.ints e k (l++List.replicate m.toNat 0))),(o,none)],some (0≤m∧ae (l.length+m.toNat))⟩) else .fail
       | _=>.fail
      | _=>.fail
     | _=>.fail
    else .fail
   | _=>.fail
  else .fail
def Dw (sv:SV) (i:Nat):Rd Eff :=
 match sv with
 | .tup l=>match l[i]? with
  | some (.inl c)=>aT c
  | some (.inr cs)=>.ret ⟨.agg cs,[],none⟩
  | none=>.fail
 | _=>.fail
def Dx (P:Program) (t:TypeId) (cx ci:SC):Rd Eff :=
 match cx,ci with
 | .str l,.int _ n=>match P.underlying t with
  | some .string=>.ret ⟨.c (.int .u8 ((l.getD n.toNat 0).toNat:Int)),[],some (aa n l.length)⟩
  | _=>.fail
 | _,_=>.fail
def fo (o:Nat):List Nat→Bool
 | []=>true
 | x::l=>match Nat.beq x o with
  | true=>false
  | false=>fo o l
def lp (i j:Nat):List (Nat×Nat)→Bool
 | []=>false
 | (a,b)::l=>(Nat.beq a i&&Nat.beq b j)||lp i j l
def eE {α:Type} (hid:List Nat) (o:Nat) (K:Ob→Rd α):Rd α :=
 match fo o hid with
 | true=>.h o K
 | false=>.fail
def kp {α:Type} (hid:List Nat) (nl:Option FC) (c:SC) (K:FC→Rd α):Rd α :=
 match c with
 | .int k n=>K (.int k n)
 | .bool b=>K (.bool b)
 | .str l=>K (.str l)
 | .nil=>match nl with
  | some d=>K d
  | none=>.fail
 | .own o=>eE hid o fun ob=>match ob with
  | .frz d=>K d
  | ob=>match fF ob with
   | some d=>K d
   | none=>.fail
 | .pre o n=>eE hid o fun ob=>match fF ob with
  | some d=>match co 0 n d with
   | some d=>K d
   | none=>.fail
  | none=>.fail
 | .sub o off n=>eE hid o fun ob=>match fF ob with
  | some d=>match co off n d with
   | some d=>K d
   | none=>.fail
  | none=>.fail
 | .row o ver i=>eE hid o fun
  | .rows ver' _ _ k l=>if ver=ver' then K (.ints k (l.getD i [])) else .fail
  | _=>.fail
 | .kid o ver p=>eE hid o fun
  | .tr ver' _ d=>if ver=ver' then (match iG d p with
   | some x=>K x
   | none=>.fail) else .fail
  | _=>.fail
 | .ro d=>K d
 | .orig _ _ d=>K d
 | .bsl o _=>eE hid o fun
  | .box cs=>match vL cs with
   | some ls=>K (.rows .i64 ls)
   | none=>.fail
  | _=>.fail
 | _=>.fail
def Dy {α:Type} (c:SC) (K:FC→Rd α):Rd α :=
 match c with
 | .own o=>.h o fun ob=>match fF ob with
  | some d=>K d
  | none=>.fail
 | _=>.fail
def n5 {α:Type} (hid:List Nat) (mt:List (Nat×Nat)) (i j:Nat) (nl:Option FC) (c:SC) (K:FC→Rd α):Rd α :=
 match lp i j mt with
 | true=>Dy c K
 | false=>kp hid nl c K
def vP (P:Program) (t:TypeId):List TypeId :=
 match P.underlying t with
 | some (.struct fs)=>fs.toList.flatMap fun f=>match P.underlying f.type with
  | some (.struct gs)=>gs.toList.map (·.type)
  | _=>[f.type]
 | _=>[t]
def KT (P:Program):List TypeId→Option FC
 | t::_=>iI P t
 | []=>none
def kr {α:Type} (P:Program) (hid:List Nat) (mt:List (Nat×Nat)) (i:Nat):Nat→List SC→List TypeId→(List FC→Rd α)→Rd α
 | _,[],_,K=>K []
 | j,c::cs,ts,K=>n5 hid mt i j (KT P ts) c fun d=>kr P hid mt i (j+1) cs ts.tail fun ds=>K (d::ds)
def KU (P:Program) (t:TypeId):TypeId :=
 match P.underlying t with
 | some (.pointer e)=>e
 | _=>0
def qa (ct:Option Post):Bool:=match ct with
 | some ⟨_,.c (.bool b),[]⟩=>b
 | _=>false
def n6 (ct:Option Post):Prop:=match ct with
 | some ⟨p,.c (.bool _),[]⟩=>p
 | _=>False
def ku (ct:Option Post):Int:=match ct with
 | some ⟨_,.c (.int .i64 n),[]⟩=>n
 | _=>0
def jF (ct:Option Post):Prop:=match ct with
 | some ⟨p,.c (.int .i64 _),[]⟩=>p
 | _=>False
def KW (P:Program) (t:TypeId):Nat :=
 match P.underlying t with
 | some (.int .i64)=>1
 | some (.slice _)=>2
 | some .bool=>3
 | _=>0
def Dz (ps rs:List Nat) (ct:List AD→Option Post) (cds:List AD):Option FV :=
 match ps,rs with
 | [1],[3]=>some (.ib (fun x=>n6 (ct (.c (.int .i64 x)::cds))) (fun x=>qa (ct (.c (.int .i64 x)::cds))))
 | [2],[3]=>some (.lb (fun x=>n6 (ct (.c (.ints .i64 x)::cds))) (fun x=>qa (ct (.c (.ints .i64 x)::cds))))
 | [1,1],[1]=>some (.iii (fun x y=>jF (ct (.c (.int .i64 x)::.c (.int .i64 y)::cds))) (fun x y=>ku (ct (.c (.int .i64 x)::.c (.int .i64 y)::cds))))
 | [1,1],[3]=>some (.iib (fun x y=>n6 (ct (.c (.int .i64 x)::.c (.int .i64 y)::cds))) (fun x y=>qa (ct (.c (.int .i64 x)::.c (.int .i64 y)::cds))))
 | [2,2],[1]=>some (.lli (fun x y=>jF (ct (.c (.ints .i64 x)::.c (.ints .i64 y)::cds))) (fun x y=>ku (ct (.c (.ints .i64 x)::.c (.ints .i64 y)::cds))))
 | [2,2],[3]=>some (.llb (fun x y=>n6 (ct (.c (.ints .i64 x)::.c (.ints .i64 y)::cds))) (fun x y=>qa (ct (.c (.ints .i64 x)::.c (.ints .i64 y)::cds))))
 | [1],[1]=>some (.ii (fun x=>jF (ct (.c (.int .i64 x)::cds))) (fun x=>ku (ct (.c (.int .i64 x)::cds))))
 | _,_=>none
def jG {α:Type} (P:Program) (hid:List Nat):List SC→(List AD→Rd α)→Rd α
 | [],K=>K []
 | c::cs,K=>match c with
  | .ptr o 0=>eE hid o fun
   | .box xs=>kr P hid [] 0 0 xs [] fun ds=>jG P hid cs fun r=>K (.box ds::r)
   | _=>.fail
  | c=>kp hid none c fun d=>jG P hid cs fun r=>K (.c d::r)
def n7 {α:Type} (P:Program) (Γ:FuncId→Option Ctr) (hid:List Nat) (mt:List (Nat×Nat)) (i:Nat) (t:TypeId) (sv:SV) (K:AD→Rd α):Rd α :=
 match sv with
 | .c c=>match c with
  | .ptr o x=>match x with
   | 0=>eE hid o fun
    | .box xs=>kr P hid [] 0 0 xs (vP P (KU P t)) fun ds=>K (.box ds)
    | _=>.fail
   | _+1=>.fail
  | .rob cs x=>match x with
   | 0=>K (.box cs)
   | _+1=>.fail
  | c=>n5 hid mt i 0 (iI P t) c fun d=>K (.c d)
 | .agg cs=>kr P hid mt i 0 cs (vP P t) fun ds=>K (.agg ds)
 | .fv F=>K (.fv F)
 | .fn f caps=>match P.underlying t with
  | some (.func ps rs _)=>match Γ f with
    | none=>.fail
    | some ⟨[],ct⟩=>jG P hid caps fun cds=>match Dz (ps.toList.map (KW P)) (rs.toList.map (KW P)) ct cds with
     | some F=>K (.fv F)
     | none=>.fail
    | some ⟨_::_,_⟩=>.fail
  | _=>.fail
 | .fvs _ _=>.fail
 | .tup _=>.fail
def gE {α:Type} (P:Program) (Γ:FuncId→Option Ctr) (hid:List Nat) (mt:List (Nat×Nat)):Nat→List SV→List TypeId→(List AD→Rd α)→Rd α
 | _,[],_,K=>K []
 | i,sv::svs,ts,K=>n7 P Γ hid mt i (ts.headD 0) sv fun ad=>gE P Γ hid mt (i+1) svs ts.tail fun ads=>K (ad::ads)
def iJ:RC→Option Ob
 | .ints e k l=>some (.ints e k l)
 | .bools e l=>some (.bools e l)
 | .rows e ei k l=>some (.rows 0 e ei k l)
 | .bx cs=>some (.box (cs.map fE))
 | .strs e l=>some (.strs e l)
 | .cut _ _ e ei k l=>some (.rows 0 e ei k l)
 | .lst e d=>some (.lst 0 e d)
 | .tr es d=>some (.tr 0 es d)
 | _=>none
def lq (id:Nat):RC→SC
 | .int k n=>.int k n
 | .bool b=>.bool b
 | .str l=>.str l
 | .ints _ _ _=>.own id
 | .bools _ _=>.own id
 | .rows _ _ _ _=>.own id
 | .nilq b=>.nilq b
 | .ro d=>.ro d
 | .bx _=>.ptr id 0
 | .strs _ _=>.own id
 | .cut off n _ _ _ _=>.sub id off n
 | .lst _ _=>.own id
 | .gone _=>.any
 | .tr _ _=>.own id
def n8:Nat→List RC→List (Nat×RC)
 | _,[]=>[]
 | j,x::l=>(j,x)::n8 (j+1) l
def mr:Nat→List (RC ⊕ List RC)→List (Nat×RC)
 | _,[]=>[]
 | i,.inl x::l=>(16 * i,x)::mr (i+1) l
 | i,.inr xs::l=>n8 (16 * i) xs++mr (i+1) l
def cL:RV→List (Nat×RC)
 | .c x=>[(0,x)]
 | .agg l=>n8 0 l
 | .tup l=>mr 0 l
def jh (d:Nat):Nat→List RC→List SC
 | _,[]=>[]
 | j,x::l=>lq (d+1000 * j) x::jh d (j+1) l
def kv (d:Nat):Nat→List (RC ⊕ List RC)→List (SC ⊕ List SC)
 | _,[]=>[]
 | i,.inl x::l=>.inl (lq (d+1000 * (16 * i)) x)::kv d (i+1) l
 | i,.inr xs::l=>.inr (jh d (16 * i) xs)::kv d (i+1) l
def jH (d:Nat):RV→SV
 | .c x=>.c (lq (d+1000 * 0) x)
 | .agg l=>.agg (jh d 0 l)
 | .tup l=>.tup (kv d 0 l)
def qb:List FC→Bool
 | []=>true
 | d::l=>dv d&&qb l
def vQ:RC→Bool
 | .ro _=>true
 | .lst _ _=>true
 | .bx cs=>!qb cs
 | _=>false
def vR:List (Nat×RC)→Bool
 | []=>false
 | (_,rc)::l=>vQ rc||vR l
def jI (rv:RV):Bool:=vR (cL rv)
def vS:SC→Option FC
 | .int k n=>some (.int k n)
 | .bool b=>some (.bool b)
 | .str l=>some (.str l)
 | .ro d=>some d
 | _=>none
def n9:SV→Option AD
 | .c c=>match vS c with
  | some d=>some (.c d)
  | none=>none
 | .agg l=>match fG vS l with
  | some ds=>some (.agg ds)
  | none=>none
 | _=>none
def DA (c:Option Ctr) (svs:List SV):Option (List AD×Prop×RV) :=
 match c with
 | some ⟨[],ct⟩=>match fG n9 svs with
  | some ads=>match ct ads with
   | some ⟨pre,ret,[]⟩=>match jI ret with
    | true=>some (ads,pre,ret)
    | false=>none
   | _=>none
  | none=>none
 | _=>none
def db (d:Nat):List (Nat×RC)→List (Nat×Option Ob)
 | []=>[]
 | (i,rc)::l=>match iJ rc with
  | some ob=>(d+1000 * i,some ob)::db d l
  | none=>db d l
def kw {α:Type} (ids:List (Nat×Option Ob)) (k:Rd α):Rd α :=
 match ids with
 | []=>k
 | (i,_)::l=>.abs i (kw l k)
def iK:List Nat→Bool
 | []=>true
 | i::l=>fo i l&&iK l
def oa (svs:List SV):List (Nat×Nat)→Option (List Nat)
 | []=>some []
 | (i,j)::l=>match svs[i]? with
  | some sv=>match jD sv with
   | some cs=>match cs[j]? with
    | some (.own o)=>match oa svs l with
     | some os=>some (o::os)
     | none=>none
    | _=>none
   | none=>none
  | none=>none
def fp:List FC→List FC→Option Prop
 | [],[]=>some True
 | .int k _::l,.int k' _::l'=>if k=k' then fp l l' else none
 | .bool _::l,.bool _::l'=>fp l l'
 | .str _::l,.str _::l'=>fp l l'
 | .ints k a::l,.ints k' a'::l'=>if k=k' then (match fp l l' with | some p=>some (a=a'∧p) | none=>none) else none
 | .bools a::l,.bools a'::l'=>(match fp l l' with | some p=>some (a=a'∧p) | none=>none)
 | .rows k a::l,.rows k' a'::l'=>if k=k' then (match fp l l' with | some p=>some (a=a'∧p) | none=>none) else none
 | .r3 k a::l,.r3 k' a'::l'=>if k=k' then (match fp l l' with | some p=>some (a=a'∧p) | none=>none) else none
 | .r4 k a::l,.r4 k' a'::l'=>if k=k' then (match fp l l' with | some p=>some (a=a'∧p) | none=>none) else none
 | _,_=>none
def gF:List SC→List FC→List SC
 | c::cs,d::ds=>(if dv d then fE d else c)::gF cs ds
 | _,_=>[]
def cp:Ob→RC→Option (Ob×Prop)
 | .ints e k r,.ints e' k' r'=>if e=e'∧k=k' then some (.ints e k r',r'.length=r.length) else none
 | .bools e r,.bools e' r'=>if e=e' then some (.bools e r',r'.length=r.length) else none
 | .rows ver e ei k r,.rows e' ei' k' r'=>if e=e'∧ei=ei'∧k=k' then some (.rows ver e ei k r',r'.map List.length=r.map List.length) else none
 | .bx cs,.bx cs'=>match fp cs cs' with
  | some p=>some (.bx cs',p)
  | none=>none
 | .tr ver es r,.tr es' r'=>match g9 es es' with
  | true=>some (.tr ver es r',r'.len=r.len)
  | false=>none
 | .lst ver e d,.gone (.lst e' _)=>if e=e' then some (.lst ver e d,True) else none
 | .ints e k l,.gone (.ints e' k' _)=>if e=e'∧k=k' then some (.ints e k l,True) else none
 | .rows ver e ei k l,.gone (.rows e' ei' k' _)=>if e=e'∧ei=ei'∧k=k' then some (.rows ver e ei k l,True) else none
 | _,_=>none
def oc (rc:RC) (ob:Ob):Option Ob:=match rc.isGone with
 | true=>none
 | false=>some ob
def mw {α:Type}:List Nat→List RC→(List (Nat×Option Ob)→Prop→Rd α)→Rd α
 | [],[],K=>K [] True
 | o::os,rc::rcs,K=>.h o fun ob=>match cp ob rc with
  | some (ob',p)=>mw os rcs fun ups q=>K ((o,oc rc ob')::ups) (p∧q)
  | none=>.fail
 | _,_,_=>.fail
def vT {α:Type} (hid:List Nat) (nl:Option FC) (c:SC) (K:FC→List (Nat×Option Ob)→Rd α):Rd α :=
 match c with
 | .int k n=>K (.int k n) []
 | .bool b=>K (.bool b) []
 | .str l=>K (.str l) []
 | .nil=>match nl with
  | some d=>K d []
  | none=>.fail
 | .ro d=>K d []
 | .own o=>eE hid o fun ob=>match gD ob with
  | some d=>K d [(o,some (.frz d))]
  | none=>.fail
 | .pre o n=>eE hid o fun ob=>match gD ob with
  | some d=>match co 0 n d with
   | some d'=>K d' [(o,some (.frz d))]
   | none=>.fail
  | none=>.fail
 | .sub o off n=>eE hid o fun ob=>match gD ob with
  | some d=>match co off n d with
   | some d'=>K d' [(o,some (.frz d))]
   | none=>.fail
  | none=>.fail
 | _=>.fail
def vU {α:Type} (P:Program) (hid:List Nat):List SC→List TypeId→(List FC→List (Nat×Option Ob)→Rd α)→Rd α
 | [],_,K=>K [] []
 | c::cs,ts,K=>vT hid (KT P ts) c fun d fs=>vU P hid cs ts.tail fun ds gs=>K (d::ds) (fs++gs)
def DB {α:Type} (P:Program) (hid:List Nat) (mt:List (Nat×Nat)) (i:Nat) (t:TypeId) (sv:SV) (K:AD→List (Nat×Option Ob)→Rd α):Rd α :=
 match sv with
 | .c c=>match lp i 0 mt with
  | true=>Dy c fun d=>K (.c d) []
  | false=>vT hid (iI P t) c fun d fs=>K (.c d) fs
 | .agg cs=>vU P hid cs (vP P t) fun ds fs=>K (.agg ds) fs
 | .fv F=>K (.fv F) []
 | _=>.fail
def vV {α:Type} (P:Program) (hid:List Nat) (mt:List (Nat×Nat)):Nat→List SV→List TypeId→(List AD→List (Nat×Option Ob)→Rd α)→Rd α
 | _,[],_,K=>K [] []
 | i,sv::svs,ts,K=>DB P hid mt i (ts.headD 0) sv fun ad fs=>vV P hid mt (i+1) svs ts.tail fun ads gs=>K (ad::ads) (fs++gs)
def vW (svs:List SV):List (Nat×Nat)→Bool
 | []=>true
 | (i,j)::l=>(match svs[i]? with | some (.c _)=>Nat.beq j 0 | _=>false)&&vW svs l
def vX (P:Program) (d:Nat) (mt:List (Nat×Nat)) (ct:List AD→Option Post) (hid:List Nat) (svs:List SV) (ts:List TypeId):Rd Eff :=
 match vW svs mt with
 | false=>.fail
 | true=>vV P hid mt 0 svs ts fun ads fs=>match ct ads with
  | none=>.fail
  | some ⟨pre,ret,wrs⟩=>mw hid wrs fun ups p =>
   kw (db d (cL ret)) (.ret ⟨jH d ret,db d (cL ret)++(ups++fs),some (pre∧p)⟩)
def hI (P:Program) (Γ:FuncId→Option Ctr) (d:Nat) (f:FuncId) (svs:List SV) (ts:List TypeId):Rd Eff :=
 match Γ f with
 | none=>.fail
 | some ⟨mt,ct⟩=>match oa svs mt with
  | none=>.fail
  | some hid=>match iK hid with
   | false=>.fail
   | true=>gE P Γ hid mt 0 svs ts fun ads=>match ct ads with
    | none=>.fail
    | some ⟨pre,ret,wrs⟩=>match jI ret with
     | true=>vX P d mt ct hid svs ts
     | false=>mw hid wrs fun ups p =>
      kw (db d (cL ret)) (.ret ⟨jH d ret,db d (cL ret)++ups,some (pre∧p)⟩)
def DC (d:Nat) (pre:Prop) (ret:RV):Rd Eff :=
 kw (db d (cL ret)) (.ret ⟨jH d ret,db d (cL ret)++[],some (pre∧True)⟩)
def fU:RC→Option SC
 | .int k n=>some (.int k n)
 | .bool b=>some (.bool b)
 | _=>none
def vY (c:Option Ctr):Bool :=
 match c with
 | some ⟨[(0,0)],_⟩=>true
 | _=>false
def DD (P:Program) (Γ:FuncId→Option Ctr) (f:FuncId) (o ver i:Nat) (svs:List SV) (ts:List TypeId):Rd Eff :=
 match Γ f with
 | some ⟨[(0,0)],ct⟩=>.h o fun ob=>match ob with
  | .rows ver' e ei k l=>match Nat.beq ver' ver with
   | true=>gE P Γ [o] [(0,0)] 1 svs ts fun ads=>match ct (.c (.ints k (l.getD i []))::ads) with
    | some ⟨pre,.c rc,[.ints e' k' r]⟩=>match fU rc with
     | some c=>if ei=e'∧k=k' then .ret ⟨.c c,[(o,some (.rows ver' e ei k (l.set i r)))],some (pre∧r.length=(l.getD i []).length)⟩ else .fail
     | none=>.fail
    | _=>.fail
   | false=>.fail
  | _=>.fail
 | _=>.fail
def DE (P:Program) (Γ:FuncId→Option Ctr) (f:FuncId) (o ver:Nat) (p:List Nat) (svs:List SV) (ts:List TypeId):Rd Eff :=
 match Γ f with
 | some ⟨[(0,0)],ct⟩=>.h o fun ob=>match ob with
  | .tr ver' es d=>match Nat.beq ver' ver with
   | true=>match iG d p with
    | some x=>gE P Γ [o] [(0,0)] 1 svs ts fun ads=>match ct (.c x::ads) with
     | some ⟨pre,.c rc,[.tr es' x']⟩=>match fU rc with
      | some c=>match g9 (es.drop p.length) es' with
       | true=>match lg d p x' with
        | some d'=>.ret ⟨.c c,[(o,some (.tr ver' es d'))],some (pre∧x'.len=x.len)⟩
        | none=>.fail
       | false=>.fail
      | none=>.fail
     | _=>.fail
    | none=>.fail
   | false=>.fail
  | _=>.fail
 | _=>.fail
def DF (P:Program) (Γ:FuncId→Option Ctr) (f:FuncId) (o off n:Nat) (svs:List SV) (ts:List TypeId):Rd Eff :=
 match Γ f with
 | some ⟨[(0,0)],ct⟩=>.h o fun ob=>match ob with
  | .rows ver e ei k l=>gE P Γ [o] [(0,0)] 1 svs ts fun ads=>match ct (.cut off n (.rows k l)::ads) with
   | some ⟨pre,.c rc,[.rows e' ei' k' l']⟩=>match fU rc with
    | some c=>if e=e'∧ei=ei'∧k=k' then .ret ⟨.c c,[(o,some (.rows ver e ei k l'))],some (pre∧l'.map List.length=l.map List.length)⟩ else .fail
    | none=>.fail
   | _=>.fail
  | _=>.fail
 | _=>.fail
def US (c:Option Ctr):Bool :=
 match c with
 | some ⟨[(1,0)],_⟩=>true
 | _=>false
def DG (P:Program) (Γ:FuncId→Option Ctr) (f:FuncId) (k0:IntKind) (n0:Int) (o ver i:Nat) (svs:List SV) (ts:List TypeId):Rd Eff :=
 match Γ f with
 | some ⟨[(1,0)],ct⟩=>.h o fun ob=>match ob with
  | .rows ver' e ei k l=>match Nat.beq ver' ver with
   | true=>gE P Γ [o] [(1,0)] 2 svs ts fun ads=>match ct (.c (.int k0 n0)::.c (.ints k (l.getD i []))::ads) with
    | some ⟨pre,rv,[.ints e' k' r]⟩=>match rv with
     | .tup []=>if ei=e'∧k=k' then .ret ⟨.tup [],[(o,some (.rows ver' e ei k (l.set i r)))],some (pre∧r.length=(l.getD i []).length)⟩ else .fail
     | _=>.fail
    | _=>.fail
   | false=>.fail
  | _=>.fail
 | _=>.fail
def DH:SC→Option FC
 | .int k n=>some (.int k n)
 | .bool b=>some (.bool b)
 | .str l=>some (.str l)
 | .ro d=>some d
 | .orig _ _ d=>some d
 | _=>none
def DI (P:Program) (Γ:FuncId→Option Ctr) (d:Nat) (f:FuncId) (o:Nat) (svs:List SV):Rd Eff :=
 match Γ f with
 | some ⟨[(0,0)],ct⟩=>.h o fun ob=>match ob with
  | .box xs=>match fG DH xs with
   | some fcs=>match fG n9 svs with
    | some ads=>match ct (.box fcs::ads) with
     | some ⟨pre,ret,[.bx fcs']⟩=>match fp fcs fcs' with
      | some q=>kw (db d (cL ret)) (.ret ⟨jH d ret,db d (cL ret)++[(o,some (.box (gF xs fcs')))],some (pre∧q)⟩)
      | none=>.fail
     | _=>.fail
    | none=>.fail
   | none=>.fail
  | _=>.fail
 | _=>.fail
def DJ (P:Program) (Γ:FuncId→Option Ctr) (d:Nat) (f:FuncId) (o:Nat) (svs:List SV) (ts:List TypeId):Rd Eff :=
 match Γ f with
 | some ⟨[(0,0)],ct⟩=>.h o fun ob=>match ob with
  | .box xs=>kr P [o] [] 0 0 xs (vP P (KU P (ts.headD 0))) fun fcs=>gE P Γ [o] [(0,0)] 1 svs ts.tail fun ads=>match ct (.box fcs::ads) with
   | some ⟨pre,ret,[.bx fcs']⟩=>match jI ret with
    | true=>DI P Γ d f o svs
    | false=>match fp fcs fcs' with
     | some q=>kw (db d (cL ret)) (.ret ⟨jH d ret,db d (cL ret)++[(o,some (.box (gF xs fcs')))],some (pre∧q)⟩)
     | none=>.fail
   | _=>.fail
  | _=>.fail
 | _=>.fail
def my:Nat→List SC→Option (List SC×Nat×List SC)
 | 0,.ptr o 0::l=>some ([],o,l)
 | n+1,c::l=>match my n l with
  | some (a,o,b)=>some (c::a,o,b)
  | none=>none
 | _,_=>none
def DK (ct:Option Post):Prop:=match ct with
 | some ⟨p,.c (.int .i64 _),[.bx [.int .i64 _]]⟩=>p
 | _=>False
def KX (ct:Option Post):Int:=match ct with
 | some ⟨_,.c (.int .i64 n),_⟩=>n
 | _=>0
def KY (ct:Option Post):Int:=match ct with
 | some ⟨_,_,[.bx [.int .i64 n]]⟩=>n
 | _=>0
def DL (ct:List AD→Option Post) (A B:List AD):SFV :=
 let at':Int→Int→Int→Option Post:=fun s x y=>ct ([.c (.int .i64 x),.c (.int .i64 y)]++(A++.box [.int .i64 s]::B))
 ⟨fun s x y=>DK (at' s x y),fun s x y=>KX (at' s x y),fun s x y=>KY (at' s x y)⟩
def UT (c:Option Ctr) (svs:List SV):Bool :=
 match c with
 | some ⟨[(1,0)],_⟩=>match svs with
  | [.c (.int .i64 _),.fn _ _]=>true
  | _=>false
 | _=>false
def DM (P:Program) (Γ:FuncId→Option Ctr) (d:Nat) (f:FuncId) (svs:List SV):Rd Eff :=
 match Γ f with
 | some ⟨[(1,0)],ct⟩=>match svs with
  | [.c (.int .i64 n),.fn g caps]=>match Γ g with
   | some ⟨[(k,0)],ctg⟩=>match k with
    | k+2=>match my k caps with
     | some (ca,o,cb)=>.h o fun ob=>match ob with
      | .box [.int .i64 s]=>jG P [o] ca fun A=>jG P [o] cb fun B=>match ct [.c (.int .i64 n),.fvs (DL ctg A B) s] with
       | some ⟨pre,ret,[.bx [.int .i64 s']]⟩=>match jI ret with
        | true=>.fail
        | false=>kw (db d (cL ret)) (.ret ⟨jH d ret,db d (cL ret)++[(o,some (.box [.int .i64 s']))],some (pre∧True)⟩)
       | _=>.fail
      | _=>.fail
     | none=>.fail
    | _=>.fail
   | _=>.fail
  | _=>.fail
 | _=>.fail
def DN (o:Nat) (F:SFV) (svs:List SV):Rd Eff :=
 match svs with
 | [.c (.int .i64 x),.c (.int .i64 y)]=>.h o fun ob=>match ob with
  | .box [.int .i64 s]=>.ret ⟨.c (.int .i64 (F.p s x y)),[(o,some (.box [.int .i64 (F.nx s x y)]))],some (F.q s x y)⟩
  | _=>.fail
 | _=>.fail
def DO (c:Option Ctr):Bool :=
 match c with
 | some ⟨[(0,97),(0,97)],_⟩=>true
 | _=>false
def DP (c:Option Ctr) (svs:List SV):Rd Eff :=
 match c with
 | some ⟨_,ct⟩=>match svs with
  | [.c (.own o),.fn g []]=>.h o fun ob=>match ob with
   | .rows ver e ei .i64 l=>match ct [.c (.rows .i64 l)] with
    | some ⟨pre,.c (.rows g' _ .i64 l'),_⟩=>match Nat.beq g' g with
     | true=>.ret ⟨.tup [],[(o,some (.rows (ver+1) e ei .i64 l'))],some (pre∧l'.length=l.length)⟩
     | false=>.fail
    | _=>.fail
   | _=>.fail
  | _=>.fail
 | none=>.fail
def DQ (c:Option Ctr):Bool :=
 match c with
 | some ⟨[(0,96),(0,96)],_⟩=>true
 | _=>false
def DR (c:Option Ctr) (svs:List SV):Rd Eff :=
 match c with
 | some ⟨_,ct⟩=>match svs with
  | [.c (.sub o off n),.fn g []]=>.h o fun ob=>match ob with
   | .rows ver e ei .i64 l=>match ct [.c (.rows .i64 ((l.drop off).take n))] with
    | some ⟨pre,.c (.rows g' _ .i64 k),_⟩=>match Nat.beq g' g with
     | true=>.ret ⟨.c (.sub o off k.length),[(o,some (.rows (ver+1) e ei .i64 (l.take (off+k.length)++List.replicate (n - k.length) []++l.drop (off+n))))],some pre⟩
     | false=>.fail
    | _=>.fail
   | _=>.fail
  | _=>.fail
 | none=>.fail
def DS (c:Option Ctr):Bool :=
 match c with
 | some ⟨[(0,99),(0,99)],_⟩=>true
 | _=>false
def DT (d:Nat) (svs:List SV):Rd Eff :=
 match svs with
 | [.c (.own o),.c (.int .i64 i),.c (.int .i64 j)]=>.h o fun
  | .ints e .i64 l=>.abs d (.ret ⟨.c (.own d),[(d,some (.ints e .i64 (l.take i.toNat++l.drop j.toNat))),(o,none)],some (0≤i∧i<j∧j≤(l.length:Int))⟩)
  | _=>.fail
 | _=>.fail
def DU (c:Option Ctr):Option TypeId :=
 match c with
 | some ⟨[(0,98),(0,98)],ct⟩=>match ct [] with
  | some ⟨_,.c (.ints e .i64 []),_⟩=>some e
  | _=>none
 | _=>none
def DV (d:Nat) (e:TypeId) (svs:List SV):Rd Eff :=
 match svs with
 | [.c .nil,.c (.int .i64 n)]=>.abs d (.ret ⟨.c (.own d),[(d,some (.ints e .i64 []))],some (0≤n∧n≤1099511627776)⟩)
 | _=>.fail
def UU (c:Option Ctr):Bool :=
 match c with
 | some ⟨[(0,0),(1,0)],_⟩=>true
 | _=>false
def DW (P:Program) (Γ:FuncId→Option Ctr) (d:Nat) (f:FuncId) (o ver i j:Nat) (ts:List TypeId):Rd Eff :=
 .h o fun
  | .rows ver' e ei k l=>match Nat.beq ver' ver with
   | true=>match Γ f with
    | some ⟨[(0,0),(1,0)],ct⟩=>match ct [.c (.ints k (l.getD i [])),.c (.ints k (l.getD j []))] with
     | some ⟨pre,ret,[.gone (.ints e1 k1 _),.gone (.ints e2 k2 _)]⟩=>match jI ret with
      | true=>.fail
      | false=>if ei=e1∧ei=e2∧k=k1∧k=k2 then
        .abs (d+500501) (.abs (d+500500) (kw (db d (cL ret)) (.ret ⟨jH d ret,
         (db d (cL ret)++[(d+500500,none),(d+500501,none)])++(eQ (d+500500) o (ver+2) e ei k l [i,j] i++eQ (d+500501) o (ver+1) e ei k l [j] j),some ((pre∧True∧True)∧i≠j)⟩)))
       else .fail
     | _=>.fail
    | _=>.fail
   | false=>.fail
  | _=>.fail
def iL (d:Nat) (ob:Ob):Rd Eff→Rd Eff
 | .ret e=>.ret ⟨e.val,e.hp++[(d,none)],e.owed⟩
 | .fail=>.fail
 | .f t k=>.f t fun sv=>iL d ob (k sv)
 | .h o k=>match Nat.beq o d with
  | true=>iL d ob (k ob)
  | false=>.h o fun x=>iL d ob (k x)
 | .abs o k=>match Nat.beq o d with
  | true=>.fail
  | false=>.abs o (iL d ob k)
def vZ (c:Option Ctr) (svs:List SV):Option Nat :=
 match c with
 | some ⟨[(i,0)],_⟩=>match svs[i]? with
  | some (.c .nil)=>some i
  | _=>none
 | _=>none
def DX (P:Program) (Γ:FuncId→Option Ctr) (d:Nat) (f:FuncId) (i:Nat) (svs:List SV) (ts:List TypeId):Rd Eff :=
 match Γ f with
 | some ⟨_,ct⟩=>gE P Γ [] [] 0 svs ts fun ads=>match ct ads with
  | some ⟨_,_,[.gone (.rows e ei k _)]⟩=>.abs (d+490490) (iL (d+490490) (.rows 0 e ei k []) (hI P Γ d f (svs.set i (.c (.own (d+490490)))) ts))
  | _=>.fail
 | none=>.fail
def wa (sv:SV):Option SC :=
 match sv with
 | .c c=>if c.plain then some c else none
 | _=>none
def KZ (P:Program) (Γ:FuncId→Option Ctr) (d:Nat) (fv:SV) (svs:List SV) (ts:List TypeId):Rd Eff :=
 match fv with
 | .fn f []=>match DS (Γ f) with
  | true=>DT d svs
  | false=>match DU (Γ f) with
   | some e=>DV d e svs
   | none=>match DO (Γ f) with
    | true=>DP (Γ f) svs
    | false=>match DQ (Γ f) with
    | true=>DR (Γ f) svs
    | false=>match UT (Γ f) svs with
    | true=>DM P Γ d f svs
    | false=>match DA (Γ f) svs with
     | some (_,pre,ret)=>DC d pre ret
     | none=>match svs with
      | .c (.row o ver i)::rest=>match vY (Γ f) with
       | true=>DD P Γ f o ver i rest ts.tail
       | false=>match UU (Γ f) with
        | true=>match rest with
         | [.c (.row o' ver' j)]=>match Nat.beq o' o,Nat.beq ver' ver with
          | true,true=>DW P Γ d f o ver i j ts
          | _,_=>hI P Γ d f svs ts
         | _=>hI P Γ d f svs ts
        | false=>hI P Γ d f svs ts
      | .c (.kid o ver p)::rest=>match vY (Γ f) with
       | true=>DE P Γ f o ver p rest ts.tail
       | false=>hI P Γ d f svs ts
      | .c (.sub o off n)::rest=>match vY (Γ f) with
       | true=>DF P Γ f o off n rest ts.tail
       | false=>hI P Γ d f svs ts
      | .c (.ptr o 0)::rest=>match vY (Γ f) with
       | true=>DJ P Γ d f o rest ts
       | false=>hI P Γ d f svs ts
      | .c (.int k0 n0)::.c (.row o ver i)::rest=>match US (Γ f) with
       | true=>DG P Γ f k0 n0 o ver i rest ts.tail.tail
       | false=>hI P Γ d f svs ts
      | svs=>match vZ (Γ f) svs with
       | some i=>DX P Γ d f i svs ts
       | none=>hI P Γ d f svs ts
 | .fvs o F=>DN o F svs
 | .fn f (c::cs)=>hI P Γ d f (svs++(c::cs).map .c) ts
 | .fv F=>match fG wa svs with
  | some cs=>kr P [] [] 0 0 cs ts fun ds=>match F.at ds with
   | some (q,c)=>.ret ⟨.c c,[],some q⟩
   | none=>.fail
  | none=>.fail
 | _=>.fail
def K0 (lo hi:Option Operand) (mx:Operand):Bool :=
 match lo,hi,mx with
 | none,some (.const (.int .i64 0)),.const (.int .i64 0)=>true
 | _,_,_=>false
def DY (P:Program) (s t:TypeId):Bool :=
 match P.underlying t with
 | some .string=>match cC P s with
  | some e=>match lh P e with
   | some .u8=>true
   | _=>false
  | none=>false
 | _=>false
def UV (l:List Int):List UInt8:=l.map fun n=>UInt8.ofNat n.toNat
def DZ (cx cy:SC):Rd Eff :=
 match cx,cy with
 | .int k a,.int k' b=>if k=k' then .ret ⟨.c (.int k (if b<a then b else a)),[],none⟩ else .fail
 | _,_=>.fail
def D5 (cx cy:SC):Rd Eff :=
 match cx,cy with
 | .int k a,.int k' b=>if k=k' then .ret ⟨.c (.int k (if b > a then b else a)),[],none⟩ else .fail
 | _,_=>.fail
def UW (x:Operand):Bool :=
 match x with
 | .const (.pointer none)=>true
 | _=>false
def qc (P:Program) (t:TypeId):Bool :=
 match P.underlying t with
 | some (.map k e)=>(match P.underlying k with
  | some (.int .i64)=>true
  | _=>false)&&km P e (.bool false)
 | _=>false
def D6 (P:Program) (d:Nat) (t:TypeId) (r:Option Operand):Rd Eff :=
 match r with
 | none=>match qc P t with
  | true=>.abs d (.ret ⟨.c (.own d),[(d,some (.mp []))],none⟩)
  | false=>.fail
 | some _=>.fail
def qd (n:Int) (l:List Int):List Int:=if l.contains n=true then l else l++[n]
def D7 (P:Program) (t:TypeId) (cm ck cv:SC):Rd Eff :=
 match qc P t with
 | true=>match cm,ck,cv with
  | .own o,.int .i64 n,.bool true=>.h o fun
   | .mp l=>.ret ⟨.c .any,[(o,some (.mp (qd n l)))],none⟩
   | _=>.fail
  | _,_,_=>.fail
 | false=>.fail
def D8 (P:Program) (t:TypeId) (ok:Bool) (cm ck:SC):Rd Eff :=
 match qc P t,ok with
 | true,false=>match cm,ck with
  | .own o,.int .i64 n=>.h o fun
   | .mp l=>aT (.bool (l.contains n))
   | _=>.fail
  | _,_=>.fail
 | _,_=>.fail
def cS (P:Program) (Γ:FuncId→Option Ctr) (wr:Nat→Bool) (o:Oper):Rd Eff :=
 let d:=match o.dst with | some d=>d | none=>0
 match o.op with
 | .move x=>fH x fun sv=>.ret ⟨sv,[],none⟩
 | .assign x=>match UW x with
  | true=>.ret ⟨.c .any,[],none⟩
  | false=>fH x fun sv=>.ret ⟨sv,[],none⟩
 | .nilCheck x=>cY x fun
  | .ptr o i=>.h o fun ob=>kj ob (aT (.ptr o i))
  | _=>.fail
 | .pick c x y=>cY c fun
  | .bool true=>fH x fun sv=>.ret ⟨sv,[],none⟩
  | .bool false=>fH y fun sv=>.ret ⟨sv,[],none⟩
  | _=>.fail
 | .alloc t=>Dh P d t
 | .box _ x=>fH x fun sv=>Di d sv
 | .build t parts=>Dj P t parts
 | .buildSlice t len parts=>match wr (2000000+d) with
  | true=>Dl P d t len parts
  | false=>Dk P (wr (1000000+d)) d t len parts
 | .load t x=>match wr (3000000+d) with
  | true=>cY x fun cx=>Df P d t cx
  | false=>cY x fun cx=>vJ P t cx
 | .store t x y=>cY x fun cx=>fH y fun sv=>Dg P t cx sv
 | .binOp op t x y _=>cY x fun cx=>cY y fun cy=>C8 P t (wr d) op cx cy
 | .unOp op _ x=>cY x fun cx=>C9 (wr d) op cx
 | .convert s t x=>cY x fun cx=>match DY P s t with
  | true=>kp [] (iI P s) cx fun
   | .ints .u8 l=>.ret ⟨.c (.str (UV l)),[],none⟩
   | _=>.fail
  | false=>Da P (wr d) s t cx
 | .makeFunc fn first caps=>match fn with
  | .func f=>if first.isEmpty then jE caps.toList fun svs=>match fG wa svs with
   | some cs=>.ret ⟨.fn f cs,[],none⟩
   | none=>.fail
   else .fail
  | _=>.fail
 | .makeSlice t l c=>cY l fun cl=>cY c fun cc=>Dp P d t cl cc
 | .slice t x lo hi mx=>match mx with
  | none=>cY x fun cx=>vN P d t cx lo hi
  | some m=>match K0 lo hi m with
   | true=>match cC P t with
    | some e=>match dN P e with
     | some _=>cY x fun cx=>kp [] (iI P t) cx fun
      | .ints _ _=>.ret ⟨.c .emp,[],none⟩
      | .bools _=>.ret ⟨.c .emp,[],none⟩
      | .rows _ _=>.ret ⟨.c .emp,[],none⟩
      | _=>.fail
     | none=>.fail
    | none=>.fail
   | false=>.fail
 | .fieldAddr s x f=>cY x fun cx=>Dm P s cx f
 | .field s x f=>fH x fun sv=>Dn P s sv f
 | .indexAddr t x i=>cY x fun cx=>cY i fun ci=>Do P t cx ci
 | .index t x i=>cY x fun cx=>cY i fun ci=>Dx P t cx ci
 | .extract x i=>fH x fun sv=>Dw sv i
 | .call c=>match c.callee with
  | .value f=>fH f fun fv=>jE c.args.toList fun svs=>KZ P Γ d fv svs c.argTypes.toList
  | .builtin b=>match b with
   | .len=>match c.args.toList,c.argTypes.toList with
    | [x],[t]=>cY x fun cx=>match cx with
     | .str _=>match P.underlying t with
      | some .string=>vM cx
      | _=>.fail
     | cx=>match cC P t with
      | some _=>vM cx
      | none=>.fail
    | _,_=>.fail
   | .append=>match c.args.toList,c.argTypes.toList with
    | [x,y],[t,t']=>if t=t' then cY x fun cx=>cY y fun cy=>Du P d t cx cy else match lh P t' with
     | some _=>cY x fun cx=>cY y fun cy=>Dv P d t cx cy
     | none=>.fail
    | _,_=>.fail
   | .min=>match c.args.toList with
    | [x,y]=>cY x fun cx=>cY y fun cy=>DZ cx cy
    | _=>.fail
   | .max=>match c.args.toList with
    | [x,y]=>cY x fun cx=>cY y fun cy=>D5 cx cy
    | _=>.fail
   | _=>.fail
  | .invoke _ _=>.fail
 | .makeMap t r=>D6 P d t r
 | .mapUpdate t m k v=>cY m fun cm=>cY k fun ck=>cY v fun cv=>D7 P t cm ck cv
 | .lookup t m k ok=>cY m fun cm=>cY k fun ck=>D8 P t ok cm ck
 | _=>.fail
end Go.Sx
