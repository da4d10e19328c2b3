/- SxC -/
import Derived.Test.YtkmldclpaniclaaSxBt
namespace Go.Sx
open Go.RowKit
inductive Key where
 | f (t:Nat)
 | h (o:Nat)
def Key.eq:Key→Key→Bool
 | .f a,.f b=>Nat.beq a b
 | .h a,.h b=>Nat.beq a b
 | _,_=>false
inductive Rd (α:Type) where
 | ret (x:α)
 | fail
 | f (t:Nat) (k:SV→Rd α)
 | h (o:Nat) (k:Ob→Rd α)
 | abs (o:Nat) (k:Rd α)
def Rd.run {α:Type} (σ:State):Rd α→Option α
 | .ret x=>some x
 | .fail=>none
 | .f t k=>match σ.F t with
  | some sv=>(k sv).run σ
  | none=>none
 | .h o k=>match σ.H o with
  | some (some ob)=>(k ob).run σ
  | some none=>none
  | none=>none
 | .abs o k=>match σ.H o with
  | none=>k.run σ
  | some _=>none
def Rd.keys {α:Type} (σ:State):Rd α→List Key
 | .ret _=>[]
 | .fail=>[]
 | .f t k=>.f t::match σ.F t with
  | some sv=>(k sv).keys σ
  | none=>[]
 | .h o k=>.h o::match σ.H o with
  | some (some ob)=>(k ob).keys σ
  | some none=>[]
  | none=>[]
 | .abs o k=>.h o::k.keys σ
structure Eff where
 val:SV
 hp:List (Nat×Option Ob)
 owed:Option Prop
def Eff.obl (e:Eff):Prop :=
 match e.owed with
 | none=>True
 | some p=>p
inductive MC where
 | c (d:FC)
 | ob (x:Ob)
inductive MA where
 | m (x:MC)
 | box (l:List MC)
inductive AD where
 | c (d:FC)
 | agg (cs:List FC)
 | box (cs:List FC)
 | fv (F:FV)
 | fvs (F:SFV) (s:Int)
 | cut (off n:Nat) (d:FC)
 | ma (x:MA)
inductive RC where
 | int (k:IntKind) (n:Int)
 | bool (b:Bool)
 | str (l:List UInt8)
 | ints (e:TypeId) (k:IntKind) (l:List Int)
 | bools (e:TypeId) (l:List Bool)
 | rows (e ei:TypeId) (k:IntKind) (l:List (List Int))
 | nilq (b:Bool)
 | ro (d:FC)
 | bx (cs:List FC)
 | strs (e:TypeId) (l:List (List UInt8))
 | cut (off n:Nat) (e ei:TypeId) (k:IntKind) (l:List (List Int))
 | lst (e:TypeId) (d:FC)
 | gone (x:RC)
 | tr (es:List TypeId) (d:FC)
def RC.isGone:RC→Bool
 | .gone _=>true
 | _=>false
inductive RV where
 | c (x:RC)
 | agg (l:List RC)
 | tup (l:List (RC ⊕ List RC))
 | st (sv:SV) (ex:List (Nat×Ob)) (outs:List MA)
structure Post where
 pre:Prop
 ret:RV
 wrs:List RC:=[]
structure Ctr where
 mt:List (Nat×Nat):=[]
 ct:List AD→Option Post
def scOf:FC→SC
 | .int k n=>.int k n
 | .bool b=>.bool b
 | .str l=>.str l
 | .ints k l=>.ro (.ints k l)
 | .bools l=>.ro (.bools l)
 | .rows k l=>.ro (.rows k l)
 | .r3 k l=>.ro (.r3 k l)
 | .r4 k l=>.ro (.r4 k l)
def isScal:FC→Bool
 | .int _ _=>true
 | .bool _=>true
 | .str _=>true
 | _=>false
def obFC:Ob→Option FC
 | .ints _ k l=>some (.ints k l)
 | .bools _ l=>some (.bools l)
 | .rows _ _ _ k l=>some (.rows k l)
 | .box _=>none
 | .bx _=>none
 | .strs _ _=>none
 | .lst _ _ d=>match isScal d with
  | true=>none
  | false=>some d
 | .frz _=>none
 | .mp _=>none
 | .qu _ _ _=>none
 | .rowsH _ _ _ _ _ _=>none
 | .tr _ _ d=>some d
 | .yd _ _ _ _=>none
/- The state that a call by states begins in: argument i's object has the name 7000 + 100 i, its cells' objects those behind it. -/
def bid (i:Nat):Nat:=7000+100 * i
def mcS (k:Nat):MC→SC
 | .c d=>scOf d
 | .ob _=>.own k
def mcH (k:Nat):MC→List (Nat×Option Ob)
 | .c _=>[]
 | .ob x=>[(k,some x)]
def mcsS:Nat→List MC→List SC
 | _,[]=>[]
 | k,x::l=>mcS k x::mcsS (k+1) l
def mcsH:Nat→List MC→List (Nat×Option Ob)
 | _,[]=>[]
 | k,x::l=>mcH k x++mcsH (k+1) l
def maS (k:Nat):MA→SV
 | .m x=>.c (mcS k x)
 | .box _=>.c (.ptr k 0)
def maH (k:Nat):MA→List (Nat×Option Ob)
 | .m x=>mcH k x
 | .box l=>(k,some (.box (mcsS (k+1) l)))::mcsH (k+1) l
def masF:Nat→List MA→List (Nat×SV)
 | _,[]=>[]
 | i,x::l=>(i,maS (bid i) x)::masF (i+1) l
def masH:Nat→List MA→List (Nat×Option Ob)
 | _,[]=>[]
 | i,x::l=>maH (bid i) x++masH (i+1) l
def inSt (mas:List MA):State:=⟨masF 0 mas,masH 0 mas⟩
def maO (k:Nat):MA→List (Nat×Option Ob)
 | .m x=>mcH k x
 | .box l=>(k,some (.box (mcsS (k+1001) l)))::mcsH (k+1001) l
def masO:Nat→List MA→List (Nat×Option Ob)
 | _,[]=>[]
 | i,x::l=>maO (bid i) x++masO (i+1) l
def exO (ex:List (Nat×Ob)):List (Nat×Option Ob):=ex.map fun p=>(p.1,some p.2)
def outSt (sv:SV) (hp:List (Nat×Option Ob)):State:=⟨[(0,sv)],hp⟩
def pinO (mas:List MA) (hp:List (Nat×Option Ob)):List Nat:=((masH 0 mas).map (·.1)).filter fun k=>(lk hp k).isSome
def frzD:Ob→Option FC
 | .frz d=>some d
 | ob=>match obFC ob with
  | some d=>match takeFC 0 d.len d with
   | some _=>some d
   | none=>none
  | none=>none
def nfR {α:Type} (ob:Ob) (r:Rd α):Rd α :=
 match ob.isFz with
 | true=>.fail
 | false=>r
def unfz {α:Type} (c:SC) (k:SC→Rd α):Rd α :=
 match c with
 | .own o=>.h o fun ob=>match ob with
  | .frz d=>k (.ro d)
  | _=>k (.own o)
 | .pre o n=>.h o fun ob=>match ob with
  | .frz d=>match takeFC 0 n d with
   | some d'=>k (.ro d')
   | none=>.fail
  | _=>k (.pre o n)
 | .sub o off n=>.h o fun ob=>match ob with
  | .frz d=>match takeFC off n d with
   | some d'=>k (.ro d')
   | none=>.fail
  | _=>k (.sub o off n)
 | c=>k c
def constC:Value→Option SC
 | .int k n=>some (.int k n)
 | .bool b=>some (.bool b)
 | .string s=>some (.str s.data.toList)
 | .slice none 0 0=>some .nil
 | _=>none
def allSome {α β:Type} (f:α→Option β):List α→Option (List β)
 | []=>some []
 | x::l=>match f x with
  | some y=>match allSome f l with
   | some ys=>some (y::ys)
   | none=>none
  | none=>none
def rdv {α:Type} (x:Operand) (k:SV→Rd α):Rd α :=
 match x with
 | .tmp t=>.f t k
 | .const v=>match v with
  | .agg cs=>match allSome constC cs.toList with
   | some l=>k (.agg l)
   | none=>.fail
  | .nilFunc=>k (.c .any)
  | v=>match constC v with
   | some c=>k (.c c)
   | none=>.fail
 | .func f=>k (.fn f [])
 | .global _=>.fail
def rdc {α:Type} (x:Operand) (k:SC→Rd α):Rd α :=
 rdv x fun
  | .c c=>unfz c k
  | _=>.fail
def isAggT (P:Program) (t:TypeId):Option Bool :=
 match P.underlying t with
 | some (.struct _)=>some true
 | some (.array _ _)=>some true
 | some _=>some false
 | none=>none
def sizeT (P:Program) (t:TypeId):Option Nat :=
 match P.info? t with
 | some i=>some i.size
 | none=>none
def elemT (P:Program) (t:TypeId):Option TypeId :=
 match P.underlying t with
 | some (.slice e)=>some e
 | _=>none
def InR (n:Int):Prop:=-9223372036854775808≤n∧n≤9223372036854775807
def arith (wr:Bool) (k:IntKind) (r:Int):Eff :=
 match wr,k with
 | false,.i64=>⟨.c (.int .i64 r),[],some (InR r)⟩
 | _,k=>⟨.c (.int k (k.wrap r)),[],none⟩
def pure1 (c:SC):Rd Eff:=.ret ⟨.c c,[],none⟩
def isBoolT (P:Program) (t:TypeId):Bool :=
 match P.underlying t with
 | some .bool=>true
 | _=>false
def room (n:Nat):Prop:=n≤1099511627776
def isSh:BinOp→Bool
 | .shl=>true
 | .shr=>true
 | _=>false
def sopShift (wr:Bool) (op:BinOp) (cx cy:SC):Rd Eff :=
 match cx,cy with
 | .int .i64 a,.int _ b =>
  match op with
  | .shl=>.ret ⟨(arith wr .i64 (a * 2 ^ b.toNat)).val,[],some ((0≤b∧b≤62)∧(arith wr .i64 (a * 2 ^ b.toNat)).obl)⟩
  | .shr=>.ret ⟨.c (.int .i64 (a / 2 ^ b.toNat)),[],some (0≤b∧b≤62)⟩
  | _=>.fail
 | .int .u64 a,.int _ b =>
  match op with
  | .shr=>.ret ⟨.c (.int .u64 (a / 2 ^ b.toNat)),[],some (0≤b∧b≤62)⟩
  | _=>.fail
 | _,_=>.fail
def isAndU (op:BinOp) (cx cy:SC):Bool :=
 match op,cx,cy with
 | .and,.int .u64 _,.int .u64 _=>true
 | _,_,_=>false
def sopAndU (cx cy:SC):Rd Eff :=
 match cx,cy with
 | .int .u64 a,.int .u64 b=>.ret ⟨.c (.int .u64 ((a.toNat &&& b.toNat:Nat):Int)),[],some ((0≤a∧a≤18446744073709551615)∧0≤b∧b≤18446744073709551615)⟩
 | _,_=>.fail
def sopBin (P:Program) (t:TypeId) (wr:Bool) (op:BinOp) (cx cy:SC):Rd Eff :=
 match isSh op with
 | true=>sopShift wr op cx cy
 | false=>match isAndU op cx cy with
 | true=>sopAndU cx cy
 | false=>match cx,cy with
 | .int k a,.int k' b =>
  if k=k' then
   match op with
   | .and=>.ret ⟨.c (.int k ((a.toNat &&& b.toNat:Nat):Int)),[],some (k=.i64∧(0≤a∧a≤9223372036854775807)∧0≤b∧b≤9223372036854775807)⟩
   | .or=>.ret ⟨.c (.int k ((a.toNat ||| b.toNat:Nat):Int)),[],some (k=.i64∧(0≤a∧a≤9223372036854775807)∧0≤b∧b≤9223372036854775807)⟩
   | .add=>.ret (arith wr k (a+b))
   | .sub=>.ret (arith wr k (a - b))
   | .mul=>.ret (arith wr k (a * b))
   | .quo=>.ret ⟨(arith wr k (a.tdiv b)).val,[],some (b≠0∧(arith wr k (a.tdiv b)).obl)⟩
   | .rem=>.ret ⟨.c (.int k (a.tmod b)),[],some (b≠0)⟩
   | .eql=>pure1 (.bool (a == b))
   | .neq=>pure1 (.bool (a != b))
   | .lss=>pure1 (.bool (decide (a<b)))
   | .leq=>pure1 (.bool (decide (a≤b)))
   | .gtr=>pure1 (.bool (decide (b<a)))
   | .geq=>pure1 (.bool (decide (b≤a)))
   | _=>.fail
  else .fail
 | .bool a,.bool b =>
  if isBoolT P t then
   match op with
   | .eql=>pure1 (.bool (a == b))
   | .neq=>pure1 (.bool (!(a == b)))
   | _=>.fail
  else .fail
 | .str a,.str b =>
  match op with
  | .eql=>pure1 (.bool (a == b))
  | .neq=>pure1 (.bool (!(a == b)))
  | .add=>.ret ⟨.c (.str (a++b)),[],some (room (a.length+b.length))⟩
  | _=>.fail
 | .nilq b,.nil=>match elemT P t with
  | some _=>match op with
   | .eql=>pure1 (.bool b)
   | .neq=>pure1 (.bool (!b))
   | _=>.fail
  | none=>.fail
 | .ro d,.nil=>match elemT P t with
  | some _=>match op with
   | .eql=>.ret ⟨.c (.bool false),[],some (d.len≠0)⟩
   | .neq=>.ret ⟨.c (.bool true),[],some (d.len≠0)⟩
   | _=>.fail
  | none=>.fail
 | _,_=>.fail
def sopUn (wr:Bool) (op:UnOp) (cx:SC):Rd Eff :=
 match op,cx with
 | .neg,.int k a=>.ret (arith wr k (-a))
 | .not,.bool b=>pure1 (.bool (!b))
 | _,_=>.fail
def kindT (P:Program) (t:TypeId):Option IntKind :=
 match P.underlying t with
 | some (.int k)=>some k
 | _=>none
def sopConv (P:Program) (wr:Bool) (src dst:TypeId) (cx:SC):Rd Eff :=
 match cx with
 | .int _ n=>match P.underlying src with
  | some _=>match kindT P dst with
   | some k=>.ret (arith wr k n)
   | none=>.fail
  | none=>.fail
 | _=>.fail
def nilEl:FC→Option FC
 | .rows k _=>some (.ints k [])
 | .r3 k _=>some (.rows k [])
 | .r4 k _=>some (.r3 k [])
 | _=>none
def catFC:FC→FC→Option FC
 | .rows k l,.rows k' l'=>if k=k' then some (.rows k (l++l')) else none
 | .r3 k l,.r3 k' l'=>if k=k' then some (.r3 k (l++l')) else none
 | .r4 k l,.r4 k' l'=>if k=k' then some (.r4 k (l++l')) else none
 | _,_=>none
def sngs:List FC→Option FC
 | []=>none
 | [.ints k x]=>some (.rows k [x])
 | [.rows k x]=>some (.r3 k [x])
 | [.r3 k x]=>some (.r4 k [x])
 | .ints k x::l=>match sngs l with
  | some (.rows k' ls)=>if k=k' then some (.rows k (x::ls)) else none
  | _=>none
 | .rows k x::l=>match sngs l with
  | some (.r3 k' ls)=>if k=k' then some (.r3 k (x::ls)) else none
  | _=>none
 | .r3 k x::l=>match sngs l with
  | some (.r4 k' ls)=>if k=k' then some (.r4 k (x::ls)) else none
  | _=>none
 | _=>none
def esT (P:Program):Nat→TypeId→List TypeId
 | 0,_=>[]
 | n+1,t=>match elemT P t with
  | some e=>e::esT P n e
  | none=>[]
def repFC:FC→Nat→Option FC
 | .rows k _,n=>some (.rows k (List.replicate n []))
 | .r3 k _,n=>some (.r3 k (List.replicate n []))
 | .r4 k _,n=>some (.r4 k (List.replicate n []))
 | _,_=>none
def trD:Ob→Option (List TypeId×FC)
 | .ints e k l=>some ([e],.ints k l)
 | .rows _ e ei k l=>some ([e,ei],.rows k l)
 | .tr _ es d=>some (es,d)
 | _=>none
def leafI:FC→Option (IntKind×List Int)
 | .ints k l=>some (k,l)
 | _=>none
def unO:SC→SC
 | .orig _ _ d=>.ro d
 | c=>c
def sopLoad (P:Program) (t:TypeId) (cx:SC):Rd Eff :=
 match isAggT P t with
 | none=>.fail
 | some true=>match sizeT P t with
  | none=>.fail
  | some n=>match cx with
   | .ptr o i=>.h o fun
    | .box cs=>if i+n≤cs.length then .ret ⟨.agg ((cs.drop i).take n),[],none⟩ else .fail
    | _=>.fail
   | .rob cs i=>if i+n≤cs.length then .ret ⟨.agg (((cs.drop i).take n).map scOf),[],none⟩ else .fail
   | _=>.fail
 | some false=>match cx with
  | .ptr o i=>.h o fun
   | .box cs=>match cs[i]? with
    | some c=>pure1 (unO c)
    | none=>.fail
   | .ints _ k l=>pure1 (.int k (l.getD i 0))
   | .bools _ l=>pure1 (.bool (l.getD i false))
   | .rows ver _ _ _ _=>pure1 (.row o ver i)
   | .bx _=>.fail
   | .strs _ l=>pure1 (.str (l.getD i []))
   | .lst _ _ d=>match elD d i with
    | some x=>pure1 (.ro x)
    | none=>.fail
   | .frz _=>.fail
   | .mp _=>.fail
   | .qu _ _ _=>.fail
   | .rowsH _ _ _ _ _ _=>.fail
   | .tr _ _ _=>.fail
   | .yd _ _ _ _=>.fail
  | .rptr o ver i j=>.h o fun
   | .rows ver' _ _ k l=>if ver=ver' then pure1 (.int k ((l.getD i []).getD j 0)) else .fail
   | _=>.fail
  | .rop d i=>match d with
   | .ints k l=>pure1 (.int k (l.getD i 0))
   | .bools l=>pure1 (.bool (l.getD i false))
   | .rows k l=>pure1 (.ro (.ints k (l.getD i [])))
   | .r3 k l=>pure1 (.ro (.rows k (l.getD i [])))
   | .r4 k l=>pure1 (.ro (.r3 k (l.getD i [])))
   | _=>.fail
  | .rob cs i=>match cs[i]? with
   | some fc=>pure1 (scOf fc)
   | none=>.fail
  | .qptr o i=>.h o fun
   | .qu _ k l=>pure1 (.int k (l.getD i 0))
   | _=>.fail
  | .kptr o ver p j=>.h o fun
   | .tr ver' _ d=>if ver=ver' then (match atP d p with
    | some x=>match leafI x with
     | some (k,l)=>pure1 (.int k (l.getD j 0))
     | none=>match elD x j with
      | some _=>pure1 (.kid o ver (p++[j]))
      | none=>.fail
    | none=>.fail) else .fail
   | _=>.fail
  | _=>.fail
def sopTake (P:Program) (d:Nat) (t:TypeId) (cx:SC):Rd Eff :=
 match isAggT P t with
 | some false=>match cx with
  | .kptr o ver [] j=>.h o fun
   | .tr ver' [_,e,ei] (.r3 k l)=>if ver=ver' then .abs d (.ret ⟨.c (.own d),[(d,some (.rows 0 e ei k (l.getD j []))),(o,none)],none⟩) else .fail
   | _=>.fail
  | _=>.fail
 | _=>.fail
def SC.plain:SC→Bool
 | .any=>false
 | .und=>false
 | _=>true
def sopStore (P:Program) (t:TypeId) (cx:SC) (sv:SV):Rd Eff :=
 match sv with
 | .c c =>
  if c.plain=true∧sizeT P t=some 1 then
   match cx with
   | .ptr o i=>.h o fun
    | .box cs=>if i<cs.length then .ret ⟨.c .any,[(o,some (.box (cs.set i c)))],none⟩ else .fail
    | .ints e k l=>match c with
     | .int k' n=>if k=k' then .ret ⟨.c .any,[(o,some (.ints e k (l.set i n)))],none⟩ else .fail
     | _=>.fail
    | .bools e l=>match c with
     | .bool b=>.ret ⟨.c .any,[(o,some (.bools e (l.set i b)))],none⟩
     | _=>.fail
    | .rows ver e ei k l=>match c with
     | .own o2=>.h o2 fun
      | .ints e2 k2 l2=>if e2=ei∧k2=k∧o2≠o then .ret ⟨.c .any,[(o2,none),(o,some (.rows (ver+1) e ei k (l.set i l2)))],none⟩ else .fail
      | _=>.fail
     | .nil=>.ret ⟨.c .any,[(o,some (.rows (ver+1) e ei k (l.set i [])))],none⟩
     | _=>.fail
    | .bx _=>.fail
    | .strs _ _=>.fail
    | .lst ver e d=>match c with
     | .ro x=>match putEl d i x with
      | some d'=>.ret ⟨.c .any,[(o,some (.lst ver e d'))],none⟩
      | none=>.fail
     | .nil=>match nilEl d with
      | some x=>match putEl d i x with
       | some d'=>.ret ⟨.c .any,[(o,some (.lst ver e d'))],none⟩
       | none=>.fail
      | none=>.fail
     | .own o2=>.h o2 fun ob2=>match frzD ob2 with
      | some x=>match putEl d i x with
       | some d'=>if o2≠o then .ret ⟨.c .any,[(o,some (.lst ver e d')),(o2,some (.frz x))],none⟩ else .fail
       | none=>.fail
      | none=>.fail
     | _=>.fail
    | .frz _=>.fail
    | .mp _=>.fail
    | .qu _ _ _=>.fail
    | .rowsH ver e ei k l hs=>match c with
     | .own o2=>.h o2 fun
      | .ints e2 k2 l2=>if e2=ei∧k2=k∧o2≠o then
        (match hs with
        | [h]=>.ret ⟨.c .any,[(o2,none),(o,some (.rows (ver+1) e ei k (l.set i l2)))],some (i=h)⟩
        | h::hs'=>.ret ⟨.c .any,[(o2,none),(o,some (.rowsH (ver+1) e ei k (l.set i l2) hs'))],some (i=h∧¬ h∈hs')⟩
        | []=>.fail) else .fail
      | _=>.fail
     | _=>.fail
    | .tr _ _ _=>.fail
    | .yd _ _ _ _=>.fail
   | .kptr o ver p j=>.h o fun
    | .tr ver' es d=>match c with
     | .int k' n=>if ver=ver' then (match atP d p with
      | some x=>match leafI x with
       | some (k,l)=>if k=k' then (match putP d p (.ints k (l.set j n)) with
        | some d'=>.ret ⟨.c .any,[(o,some (.tr ver' es d'))],none⟩
        | none=>.fail) else .fail
       | none=>.fail
      | none=>.fail) else .fail
     | .own o2=>.h o2 fun ob2=>match trD ob2 with
      | some (es2,y)=>if ver=ver'∧o2≠o∧eqNs es2 (es.drop (p.length+1))=true then (match atP d p with
       | some x=>match putEl x j y with
        | some x'=>match putP d p x' with
         | some d'=>.ret ⟨.c .any,[(o2,none),(o,some (.tr (ver'+1) es d'))],none⟩
         | none=>.fail
        | none=>.fail
       | none=>.fail) else .fail
      | none=>.fail
     | _=>.fail
    | _=>.fail
   | .rptr o ver i j=>.h o fun
    | .rows ver' e ei k l=>match c with
     | .int k' n=>if ver=ver'∧k=k' then .ret ⟨.c .any,[(o,some (.rows ver' e ei k (l.set i ((l.getD i []).set j n))))],none⟩ else .fail
     | _=>.fail
    | _=>.fail
   | _=>.fail
  else .fail
 | .agg cs' =>
  if sizeT P t=some cs'.length then
   match cx with
   | .ptr o i=>.h o fun
    | .box cs=>if i+cs'.length≤cs.length then .ret ⟨.c .any,[(o,some (.box (cs.take i++cs'++cs.drop (i+cs'.length))))],none⟩ else .fail
    | _=>.fail
   | _=>.fail
  else .fail
 | _=>.fail
def zeroCs (P:Program) (t:TypeId):Option (List SC) :=
 match P.info? t with
 | some i=>match i.zero with
  | some z=>allSome constC z.cells.toList
  | none=>none
 | none=>none
def sopAlloc (P:Program) (d:Nat) (t:TypeId):Rd Eff :=
 match zeroCs P t with
 | some cs=>.abs d (if cs.isEmpty=false then .ret ⟨.c (.ptr d 0),[(d,some (.box cs))],none⟩ else .fail)
 | none=>.fail
def sopBox (d:Nat) (sv:SV):Rd Eff :=
 match sv with
 | .c c=>if c.plain then .abs d (.ret ⟨.c (.ptr d 0),[(d,some (.box [c]))],none⟩) else .fail
 | .agg cs=>.abs d (if cs.isEmpty=false then .ret ⟨.c (.ptr d 0),[(d,some (.box cs))],none⟩ else .fail)
 | _=>.fail
def scs:SV→Option (List SC)
 | .c c=>if c.plain then some [c] else none
 | .agg l=>some l
 | _=>none
def fillX (P:Program) (fs:Array Field):List (Nat×Operand)→List SC→(List SC→Rd Eff)→Rd Eff
 | [],cs,k=>k cs
 | (i,x)::rest,cs,k=>rdv x fun sv=>match scs sv with
  | none=>.fail
  | some l=>match fs[i]? with
   | none=>.fail
   | some fd=>if sizeT P fd.type=some l.length∧fd.offset+l.length≤cs.length then
     fillX P fs rest (cs.take fd.offset++l++cs.drop (fd.offset+l.length)) k
    else .fail
def sopBuild (P:Program) (t:TypeId) (parts:Array (Nat×Operand)):Rd Eff :=
 match zeroCs P t with
 | none=>.fail
 | some cs=>match P.underlying t with
  | some (.struct fs)=>match allSome (fun f:Field=>sizeT P f.type) fs.toList with
   | some _=>fillX P fs parts.toList cs fun cs=>.ret ⟨.agg cs,[],none⟩
   | none=>.fail
  | _=>.fail
def rdAll {α:Type}:List Operand→(List SV→Rd α)→Rd α
 | [],k=>k []
 | x::l,k=>rdv x fun sv=>rdAll l fun svs=>k (sv::svs)
def asInts (k:IntKind):List SV→Option (List Int)
 | []=>some []
 | .c (.int k' n)::l=>if k=k' then (match asInts k l with | some ns=>some (n::ns) | none=>none) else none
 | _=>none
def asBools:List SV→Option (List Bool)
 | []=>some []
 | .c (.bool b)::l=>(match asBools l with | some ns=>some (b::ns) | none=>none)
 | _=>none
def asStrs:List SV→Option (List (List UInt8))
 | []=>some []
 | .c (.str b)::l=>(match asStrs l with | some ns=>some (b::ns) | none=>none)
 | _=>none
def rdRows (ei:TypeId) (ki:IntKind):List SV→List Nat→(List (List Int)→List Nat→Rd Eff)→Rd Eff
 | [],_,k=>k [] []
 | .c .nil::l,used,k=>rdRows ei ki l used fun ls os=>k ([]::ls) os
 | .c (.own o)::l,used,k=>.h o fun
  | .ints e k' r=>if e=ei∧k'=ki∧used.all (fun u=>!(Nat.beq u o)) then rdRows ei ki l (o::used) fun ls os=>k (r::ls) (o::os) else .fail
  | _=>.fail
 | _,_,_=>.fail
def roLs:List SC→Option (List (List Int))
 | []=>some []
 | .ro (.ints .i64 l)::cs=>match roLs cs with
  | some ls=>some (l::ls)
  | none=>none
 | _=>none
def rdPs (hint:Bool):List SV→(Option (List FC×List (Nat×Option Ob))→Rd Eff)→Rd Eff
 | [],K=>K (some ([],[]))
 | .c (.ro d)::l,K=>rdPs hint l fun
  | some (ds,fs)=>K (some (d::ds,fs))
  | none=>K none
 | .c (.own o)::l,K=>.h o fun ob=>match ob with
  | .frz d=>rdPs hint l fun
   | some (ds,fs)=>K (some (d::ds,fs))
   | none=>K none
  | ob=>match hint with
   | true=>match frzD ob with
    | some d=>rdPs hint l fun
     | some (ds,fs)=>K (some (d::ds,(o,some (.frz d))::fs))
     | none=>K none
    | none=>K none
   | false=>K none
 | _,K=>K none
def nilFC (P:Program) (t:TypeId):Option FC :=
 match P.underlying t with
 | some (.slice e)=>match P.underlying e with
  | some (.int k)=>some (.ints k [])
  | some .bool=>some (.bools [])
  | some (.slice e2)=>match P.underlying e2 with
   | some (.int k)=>some (.rows k [])
   | some (.slice e3)=>match P.underlying e3 with
    | some (.int k)=>some (.r3 k [])
    | some (.slice e4)=>match kindT P e4 with
     | some k=>some (.r4 k [])
     | none=>none
    | _=>none
   | _=>none
  | _=>none
 | _=>none
def sopBuildSlice (P:Program) (hint:Bool) (d:Nat) (t:TypeId) (len:Nat) (parts:Array (Nat×Operand)):Rd Eff :=
 if (parts.toList.map (·.1))=List.range len∧len≤1000 then
  match elemT P t with
  | none=>.fail
  | some e=>if sizeT P e=some 1∧(zeroCs P e).isSome=true then
    match P.underlying e with
    | some (.int k)=>rdAll (parts.toList.map (·.2)) fun svs=>match asInts k svs with
     | some l=>.abs d (.ret ⟨.c (.own d),[(d,some (.ints e k l))],none⟩)
     | none=>.fail
    | some .bool=>rdAll (parts.toList.map (·.2)) fun svs=>match asBools svs with
     | some l=>.abs d (.ret ⟨.c (.own d),[(d,some (.bools e l))],none⟩)
     | none=>.fail
    | some .string=>rdAll (parts.toList.map (·.2)) fun svs=>match asStrs svs with
     | some l=>.abs d (.ret ⟨.c (.own d),[(d,some (.strs e l))],none⟩)
     | none=>.fail
    | some (.slice ei)=>rdAll (parts.toList.map (·.2)) fun svs=>rdPs hint svs fun pr=>match pr with
     | some (x::xs,fs)=>match sngs (x::xs) with
      | some dd=>.abs d (.ret ⟨.c (.own d),(d,some (.lst 0 e dd))::fs,none⟩)
      | none=>.fail
     | _=>match kindT P ei with
      | some ki=>rdRows ei ki svs [] fun ls os =>
        .abs d (.ret ⟨.c (.own d),(d,some (.rows 0 e ei ki ls))::os.map (fun o=>(o,none)),none⟩)
      | none=>match svs with
       | []=>match nilFC P t with
        | some dd=>.abs d (.ret ⟨.c (.own d),[(d,some (.lst 0 e dd))],none⟩)
        | none=>.fail
       | _=>.fail
    | _=>.fail
   else .fail
 else .fail
def sopBuildTree (P:Program) (d:Nat) (t:TypeId) (len:Nat) (parts:Array (Nat×Operand)):Rd Eff :=
 if (parts.toList.map (·.1))=List.range len∧len≤1000 then
  match elemT P t with
  | none=>.fail
  | some e=>if sizeT P e=some 1∧(zeroCs P e).isSome=true then
    match nilFC P t with
    | none=>.fail
    | some d0=>rdAll (parts.toList.map (·.2)) fun svs=>match svs with
     | []=>match esT P 4 t with
      | e1::e2::es=>if e1=e∧d0.dep=es.length+1 then .abs d (.ret ⟨.c (.own d),[(d,some (.tr 0 (e1::e2::es) d0))],none⟩) else .fail
      | _=>.fail
     | [.c (.own o2)]=>.h o2 fun ob2=>match trD ob2 with
      | some (es2,y)=>match sngs [y] with
       | some dd=>.abs d (.ret ⟨.c (.own d),[(d,some (.tr 0 (e::es2) dd)),(o2,none)],none⟩)
       | none=>.fail
      | none=>.fail
     | [.c (.own o1),.c (.own o2)]=>.h o1 fun ob1=>.h o2 fun ob2=>match trD ob1 with
      | some (es1,y1)=>match trD ob2 with
       | some (es2,y2)=>match sngs [y1,y2] with
        | some dd=>match eqNs es1 es2&&!Nat.beq o1 o2 with
         | true=>.abs d (.ret ⟨.c (.own d),[(d,some (.tr 0 (e::es1) dd)),(o1,none),(o2,none)],none⟩)
         | false=>.fail
        | none=>.fail
       | none=>.fail
      | none=>.fail
     | _=>.fail
   else .fail
 else .fail
def sopFieldAddr (P:Program) (s:TypeId) (cx:SC) (f:Nat):Rd Eff :=
 match P.underlying s with
 | some (.struct fs)=>match fs[f]? with
  | none=>.fail
  | some fd=>match sizeT P fd.type with
   | some (_+1)=>match cx with
    | .ptr o i=>.h o fun
     | .box cs=>if i+fd.offset<cs.length then pure1 (.ptr o (i+fd.offset)) else .fail
     | _=>.fail
    | .rob cs i=>pure1 (.rob cs (i+fd.offset))
    | _=>.fail
   | _=>.fail
 | _=>.fail
def sopField (P:Program) (s:TypeId) (sv:SV) (f:Nat):Rd Eff :=
 match P.underlying s with
 | some (.struct fs)=>match fs[f]? with
  | none=>.fail
  | some fd=>match sv with
   | .agg cs=>match isAggT P fd.type with
    | some true=>match sizeT P fd.type with
     | some n=>if fd.offset+n≤cs.length then .ret ⟨.agg ((cs.drop fd.offset).take n),[],none⟩ else .fail
     | none=>.fail
    | some false=>match cs[fd.offset]? with
     | some c=>pure1 c
     | none=>.fail
    | none=>.fail
   | _=>.fail
 | _=>.fail
def inB (n:Int) (len:Nat):Prop:=0≤n∧n<(len:Int)
def sopIndexAddr (P:Program) (t:TypeId) (cx ci:SC):Rd Eff :=
 match elemT P t with
 | none=>.fail
 | some e=>if sizeT P e=some 1 then
   match ci with
   | .int _ n=>match cx with
    | .own o=>.h o fun ob=>match ob with
     | .box _=>.fail
     | .bx _=>.fail
     | .strs _ l=>.ret ⟨.c (.ptr o n.toNat),[],some (inB n l.length)⟩
     | .ints _ _ l=>.ret ⟨.c (.ptr o n.toNat),[],some (inB n l.length)⟩
     | .bools _ l=>.ret ⟨.c (.ptr o n.toNat),[],some (inB n l.length)⟩
     | .rows _ _ _ _ l=>.ret ⟨.c (.ptr o n.toNat),[],some (inB n l.length)⟩
     | .lst _ _ d=>.ret ⟨.c (.ptr o n.toNat),[],some (inB n d.len)⟩
     | .frz _=>.fail
     | .mp _=>.fail
     | .qu _ _ l=>.ret ⟨.c (.qptr o n.toNat),[],some (inB n l.length)⟩
     | .rowsH _ _ _ _ l _=>.ret ⟨.c (.ptr o n.toNat),[],some (inB n l.length)⟩
     | .tr ver _ d=>.ret ⟨.c (.kptr o ver [] n.toNat),[],some (inB n d.len)⟩
     | .yd _ _ _ _=>.fail
    | .kid o ver p=>.h o fun
     | .tr ver' _ d=>if ver=ver' then (match atP d p with
      | some x=>.ret ⟨.c (.kptr o ver p n.toNat),[],some (inB n x.len)⟩
      | none=>.fail) else .fail
     | _=>.fail
    | .pre o len=>.h o fun ob=>nfR ob (.ret ⟨.c (.ptr o n.toNat),[],some (inB n len)⟩)
    | .sub o off len=>.h o fun ob=>nfR ob (.ret ⟨.c (.ptr o (off+n.toNat)),[],some (inB n len)⟩)
    | .row o ver i=>.h o fun
     | .rows ver' _ _ _ l=>if ver=ver' then .ret ⟨.c (.rptr o ver i n.toNat),[],some (inB n (l.getD i []).length)⟩ else .fail
     | _=>.fail
    | .ro d=>match d with
     | .ints k l=>.ret ⟨.c (.rop (.ints k l) n.toNat),[],some (inB n l.length)⟩
     | .bools l=>.ret ⟨.c (.rop (.bools l) n.toNat),[],some (inB n l.length)⟩
     | .rows k l=>.ret ⟨.c (.rop (.rows k l) n.toNat),[],some (inB n l.length)⟩
     | .r3 k l=>.ret ⟨.c (.rop (.r3 k l) n.toNat),[],some (inB n l.length)⟩
     | .r4 k l=>.ret ⟨.c (.rop (.r4 k l) n.toNat),[],some (inB n l.length)⟩
     | _=>.fail
    | _=>.fail
   | _=>.fail
  else .fail
def sopLen (cx:SC):Rd Eff :=
 match cx with
 | .nil=>pure1 (.int .i64 0)
 | .str l=>pure1 (.int .i64 (l.length:Int))
 | .own o=>.h o fun ob=>match ob with
  | .box _=>.fail
  | .bx _=>.fail
  | .strs _ l=>pure1 (.int .i64 (l.length:Int))
  | .ints _ _ l=>pure1 (.int .i64 (l.length:Int))
  | .bools _ l=>pure1 (.int .i64 (l.length:Int))
  | .rows _ _ _ _ l=>pure1 (.int .i64 (l.length:Int))
  | .lst _ _ d=>pure1 (.int .i64 (d.len:Int))
  | .frz _=>.fail
  | .mp _=>.fail
  | .qu _ _ l=>pure1 (.int .i64 (l.length:Int))
  | .rowsH _ _ _ _ l _=>pure1 (.int .i64 (l.length:Int))
  | .tr _ _ d=>pure1 (.int .i64 (d.len:Int))
  | .yd _ _ _ _=>.fail
 | .kid o ver p=>.h o fun
  | .tr ver' _ d=>if ver=ver' then (match atP d p with
   | some x=>pure1 (.int .i64 (x.len:Int))
   | none=>.fail) else .fail
  | _=>.fail
 | .pre o n=>.h o fun ob=>nfR ob (pure1 (.int .i64 (n:Int)))
 | .sub o _ n=>.h o fun ob=>nfR ob (pure1 (.int .i64 (n:Int)))
 | .row o ver i=>.h o fun
  | .rows ver' _ _ _ l=>if ver=ver' then pure1 (.int .i64 ((l.getD i []).length:Int)) else .fail
  | _=>.fail
 | .ro d=>match d with
  | .ints _ l=>pure1 (.int .i64 (l.length:Int))
  | .bools l=>pure1 (.int .i64 (l.length:Int))
  | .rows _ l=>pure1 (.int .i64 (l.length:Int))
  | .r3 _ l=>pure1 (.int .i64 (l.length:Int))
  | .r4 _ l=>pure1 (.int .i64 (l.length:Int))
  | _=>.fail
 | _=>.fail
def rdo {α:Type} (x:Option Operand) (k:Option Int→Rd α):Rd α :=
 match x with
 | none=>k none
 | some y=>rdc y fun
  | .int _ n=>k (some n)
  | _=>.fail
def bdsOk (L:Nat):Option Int→Option Int→Prop
 | none,none=>True
 | none,some h=>0≤h∧h≤(L:Int)
 | some l,none=>0≤l∧l≤(L:Int)
 | some l,some h=>0≤l∧l≤h∧h≤(L:Int)
def cutL {α:Type} (r:List α):Option Int→Option Int→List α
 | none,none=>r
 | none,some h=>r.take h.toNat
 | some l,none=>r.drop l.toNat
 | some l,some h=>(r.take h.toNat).drop l.toNat
def cutO (o L:Nat):Option Int→Option Int→SC
 | none,none=>.pre o L
 | none,some h=>.pre o h.toNat
 | some l,none=>.sub o l.toNat (L - l.toNat)
 | some l,some h=>.sub o l.toNat (h.toNat - l.toNat)
def cutS (o off L:Nat):Option Int→Option Int→SC
 | none,none=>.sub o off L
 | none,some h=>.sub o off h.toNat
 | some l,none=>.sub o (off+l.toNat) (L - l.toNat)
 | some l,some h=>.sub o (off+l.toNat) (h.toNat - l.toNat)
def sopSlice (P:Program) (t:TypeId) (cx:SC) (lo hi:Option Operand):Rd Eff :=
 match cx with
 | .str r=>match P.underlying t with
  | some .string=>rdo lo fun l=>rdo hi fun h=>.ret ⟨.c (.str (cutL r l h)),[],some (bdsOk r.length l h)⟩
  | _=>.fail
 | cx=>match elemT P t with
  | none=>.fail
  | some e=>if sizeT P e=some 1 then
    rdo lo fun l=>rdo hi fun h=>match cx with
     | .own o=>.h o fun
      | .box _=>.fail
      | .bx _=>.fail
      | .strs _ _=>.fail
      | .ints _ _ r=>.ret ⟨.c (cutO o r.length l h),[],some (bdsOk r.length l h)⟩
      | .bools _ r=>.ret ⟨.c (cutO o r.length l h),[],some (bdsOk r.length l h)⟩
      | .rows _ _ _ _ r=>.ret ⟨.c (cutO o r.length l h),[],some (bdsOk r.length l h)⟩
      | .lst _ _ d=>.ret ⟨.c (cutO o d.len l h),[],some (bdsOk d.len l h)⟩
      | .frz _=>.fail
      | .mp _=>.fail
      | .qu _ _ _=>.fail
      | .rowsH _ _ _ _ _ _=>.fail
      | .tr _ _ _=>.fail
      | .yd _ _ _ _=>.fail
     | .pre o L=>.h o fun ob=>nfR ob (.ret ⟨.c (cutO o L l h),[],some (bdsOk L l h)⟩)
     | .sub o off L=>.h o fun ob=>nfR ob (.ret ⟨.c (cutS o off L l h),[],some (bdsOk L l h)⟩)
     | .ro d=>match d with
      | .ints k r=>.ret ⟨.c (.ro (.ints k (cutL r l h))),[],some (bdsOk r.length l h)⟩
      | .bools r=>.ret ⟨.c (.ro (.bools (cutL r l h))),[],some (bdsOk r.length l h)⟩
      | .rows k r=>.ret ⟨.c (.ro (.rows k (cutL r l h))),[],some (bdsOk r.length l h)⟩
      | .r3 k r=>.ret ⟨.c (.ro (.r3 k (cutL r l h))),[],some (bdsOk r.length l h)⟩
      | .r4 k r=>.ret ⟨.c (.ro (.r4 k (cutL r l h))),[],some (bdsOk r.length l h)⟩
      | _=>.fail
     | _=>.fail
   else .fail
def sopSl (P:Program) (d:Nat) (t:TypeId) (cx:SC) (lo hi:Option Operand):Rd Eff :=
 match cx with
 | .own o=>.h o fun
  | .qu e k l=>match elemT P t,hi with
   | some e',none=>if sizeT P e'=some 1 then
     rdo lo fun
      | some n=>.abs d (.ret ⟨.c (.own d),[(d,some (.qu e k (l.drop n.toNat))),(o,none)],some (0≤n∧n≤(l.length:Int))⟩)
      | none=>.fail
    else .fail
   | _,_=>.fail
  | _=>sopSlice P t (.own o) lo hi
 | cx=>sopSlice P t cx lo hi
def trcD (h:Int):Ob→Option (Nat×Ob)
 | .ints e k r=>some (r.length,.ints e k (r.take h.toNat))
 | .lst _ e d=>match d with
  | .rows k r=>some (r.length,.lst 0 e (.rows k (r.take h.toNat)))
  | _=>none
 | _=>none
def sopTrunc (P:Program) (d:Nat) (t:TypeId) (cx:SC) (lo hi:Option Operand):Rd Eff :=
 match cx,lo with
 | .own o,none=>.h o fun ob=>match elemT P t with
  | some e=>if sizeT P e=some 1 then rdo hi fun
    | some n=>match trcD n ob with
     | some (L,ob')=>.abs d (.ret ⟨.c (.own d),[(d,some ob'),(o,none)],some (0≤n∧n≤(L:Int))⟩)
     | none=>.fail
    | none=>.fail
   else .fail
  | none=>.fail
 | _,_=>.fail
def bytesOk (P:Program) (e:TypeId):Bool :=
 match P.info? e with
 | some i=>Nat.ble i.bytes 128&&Nat.beq i.size 1&&(match i.zero with | some z=>Nat.beq z.cells.size 1 | none=>false)
 | none=>false
def zeroIs (P:Program) (e:TypeId) (c:SC):Bool :=
 match P.info? e with
 | some i=>match i.zero with
  | some (.int k n)=>match c with
   | .int k' n'=>decide (k=k'∧n=n')
   | _=>false
  | some (.bool b)=>match c with
   | .bool b'=>b == b'
   | _=>false
  | some (.slice none 0 0)=>match c with
   | .nil=>true
   | _=>false
  | _=>false
 | none=>false
def sopMake (P:Program) (d:Nat) (t:TypeId) (cl cc:SC):Rd Eff :=
 match elemT P t with
 | none=>.fail
 | some e=>if bytesOk P e then
   match cl,cc with
   | .int _ n,.int _ m=>match P.underlying e with
    | some (.int k)=>if zeroIs P e (.int k 0) then .abs d (.ret ⟨.c (.own d),[(d,some (.ints e k (List.replicate n.toNat 0)))],some (0≤n∧n≤m∧room m.toNat)⟩) else .fail
    | some .bool=>if zeroIs P e (.bool false) then .abs d (.ret ⟨.c (.own d),[(d,some (.bools e (List.replicate n.toNat false)))],some (0≤n∧n≤m∧room m.toNat)⟩) else .fail
    | some (.slice ei)=>match kindT P ei with
     | some k=>if zeroIs P e .nil then .abs d (.ret ⟨.c (.own d),[(d,some (.rows 0 e ei k (List.replicate n.toNat [])))],some (0≤n∧n≤m∧room m.toNat)⟩) else .fail
     | none=>match nilFC P t with
      | some d0=>match repFC d0 n.toNat,esT P 4 t with
       | some dd,e1::e2::es=>if zeroIs P e .nil=true∧e1=e∧d0.dep=es.length+1 then .abs d (.ret ⟨.c (.own d),[(d,some (.tr 0 (e1::e2::es) dd))],some (0≤n∧n≤m∧room m.toNat)⟩) else .fail
       | _,_=>.fail
      | none=>.fail
    | _=>.fail
   | _,_=>.fail
  else .fail
def rdNums (k:IntKind) (c:SC) (K:List Int→Rd Eff):Rd Eff :=
 match c with
 | .nil=>K []
 | .own o=>.h o fun
  | .ints _ k' l=>if k'=k then K l else .fail
  | _=>.fail
 | .pre o n=>.h o fun
  | .ints _ k' l=>if k'=k then K (l.take n) else .fail
  | _=>.fail
 | .sub o off n=>.h o fun
  | .ints _ k' l=>if k'=k then K ((l.drop off).take n) else .fail
  | _=>.fail
 | .row o ver i=>.h o fun
  | .rows ver' _ _ k' l=>if k'=k∧ver=ver' then K (l.getD i []) else .fail
  | _=>.fail
 | .ro d=>match d with
  | .ints k' l=>if k'=k then K l else .fail
  | _=>.fail
 | _=>.fail
def rdBools (c:SC) (K:List Bool→Rd Eff):Rd Eff :=
 match c with
 | .nil=>K []
 | .own o=>.h o fun
  | .bools _ l=>K l
  | _=>.fail
 | .ro d=>match d with
  | .bools l=>K l
  | _=>.fail
 | _=>.fail
def rdStrs (c:SC) (K:List (List UInt8)→Rd Eff):Rd Eff :=
 match c with
 | .own o=>.h o fun
  | .strs _ l=>K l
  | _=>.fail
 | _=>.fail
def rdYs (c:SC) (K:FC→List (Nat×Option Ob)→Rd Eff):Rd Eff :=
 match c with
 | .ro d=>K d []
 | .own o=>.h o fun
  | .lst _ _ d=>K d []
  | .rows _ _ _ k l=>K (.rows k l) [(o,some (.frz (.rows k l)))]
  | _=>.fail
 | .pre o n=>.h o fun
  | .lst _ _ d=>match takeFC 0 n d with
   | some d'=>K d' []
   | none=>.fail
  | _=>.fail
 | .sub o off n=>.h o fun
  | .lst _ _ d=>match takeFC off n d with
   | some d'=>K d' []
   | none=>.fail
  | _=>.fail
 | _=>.fail
def fyOk (o:Nat):List (Nat×Option Ob)→Bool
 | []=>true
 | (o',_)::l=>!(Nat.beq o' o)&&fyOk o l
def sopAppL (d:Nat) (e:TypeId) (cx cy:SC):Rd Eff :=
 rdYs cy fun dy fy=>match cx with
  | .nil=>if isScal dy=false then .abs d (.ret ⟨.c (.own d),(d,some (.lst 0 e dy))::fy,some (room dy.len)⟩) else .fail
  | .own o=>.h o fun
   | .lst _ e1 dx=>match catFC dx dy with
    | some dd=>if e1=e∧fyOk o fy=true then .abs d (.ret ⟨.c (.own d),(d,some (.lst 0 e dd))::(o,none)::fy,some (room (dx.len+dy.len))⟩) else .fail
    | none=>.fail
   | .rows _ e1 _ k l=>match catFC (.rows k l) dy with
    | some dd=>if e1=e∧fyOk o fy=true then .abs d (.ret ⟨.c (.own d),(d,some (.lst 0 e dd))::(o,none)::fy,some (room (l.length+dy.len))⟩) else .fail
    | none=>.fail
   | _=>.fail
  | .pre o n=>.h o fun
   | .lst _ e1 dx=>match takeFC 0 n dx with
    | some dx'=>match catFC dx' dy with
     | some dd=>if e1=e∧fyOk o fy=true then .abs d (.ret ⟨.c (.own d),(d,some (.lst 0 e dd))::(o,none)::fy,some (room (n+dy.len))⟩) else .fail
     | none=>.fail
    | none=>.fail
   | _=>.fail
  | _=>.fail
def sopAppT (d:Nat) (e:TypeId) (cx:SC) (o2:Nat) (es2:List TypeId) (dy:FC):Rd Eff :=
 match cx with
 | .own o=>.h o fun
  | .tr _ es dx=>match catFC dx dy with
   | some dd=>if eqNs es es2=true∧es.head?=some e∧o≠o2 then .abs d (.ret ⟨.c (.own d),[(d,some (.tr 0 es dd)),(o,none),(o2,none)],some (room (dx.len+dy.len))⟩) else .fail
   | none=>.fail
  | _=>.fail
 | _=>.fail
def takeR (id o ver:Nat) (e ei:TypeId) (k:IntKind) (l:List (List Int)) (hs:List Nat) (i:Nat):List (Nat×Option Ob) :=
 [(id,some (.ints ei k (l.getD i []))),(o,some (.rowsH ver e ei k l hs))]
def sopAppend (P:Program) (d:Nat) (t:TypeId) (cx cy:SC):Rd Eff :=
 match elemT P t with
 | none=>.fail
 | some e=>if bytesOk P e then
   match P.underlying e with
   | some (.int k)=>rdNums k cy fun ys=>match cx with
    | .nil=>.abs d (.ret ⟨.c (.own d),[(d,some (.ints e k ys))],some (room ys.length)⟩)
    | .emp=>.abs d (.ret ⟨.c (.own d),[(d,some (.ints e k ys))],some (ys.length≠0∧room ys.length)⟩)
    | .own o=>.h o fun
     | .ints e' k' l=>if e'=e∧k'=k then .abs d (.ret ⟨.c (.own d),[(d,some (.ints e k (l++ys))),(o,none)],some (room (l.length+ys.length))⟩) else .fail
     | .qu e' k' l=>if e'=e∧k'=k then .abs d (.ret ⟨.c (.own d),[(d,some (.qu e k (l++ys))),(o,none)],some (ys.length≠0∧room (l.length+ys.length))⟩) else .fail
     | _=>.fail
    | .pre o n=>.h o fun
     | .ints e' k' l=>if e'=e∧k'=k then .abs d (.ret ⟨.c (.own d),[(d,some (.ints e k (l.take n++ys))),(o,none)],some (room (n+ys.length))⟩) else .fail
     | _=>.fail
    | .row o ver i=>.h o fun
     | .rows ver' e1 ei k' l=>if ver'=ver∧ei=e∧k'=k then .abs d (.abs (d+500000) (.ret ⟨.c (.own d),[(d,some (.ints e k (l.getD i []++ys))),(d+500000,none)]++takeR (d+500000) o (ver+1) e1 ei k l [i] i,some (room ((l.getD i []).length+ys.length))⟩)) else .fail
     | _=>.fail
    | _=>.fail
   | some .bool=>rdBools cy fun ys=>match cx with
    | .nil=>.abs d (.ret ⟨.c (.own d),[(d,some (.bools e ys))],some (room ys.length)⟩)
    | .own o=>.h o fun
     | .bools e' l=>if e'=e then .abs d (.ret ⟨.c (.own d),[(d,some (.bools e (l++ys))),(o,none)],some (room (l.length+ys.length))⟩) else .fail
     | _=>.fail
    | _=>.fail
   | some .string=>rdStrs cy fun ys=>match cx with
    | .own o=>.h o fun
     | .strs e' l=>if e'=e then .abs d (.ret ⟨.c (.own d),[(d,some (.strs e (l++ys))),(o,none)],some (room (l.length+ys.length))⟩) else .fail
     | _=>.fail
    | _=>.fail
   | some (.slice _)=>match cy with
    | .own o2=>.h o2 fun
     | .rows _ e2 ei2 k2 ys=>if e2=e then
       match cx with
       | .nil=>.abs d (.ret ⟨.c (.own d),[(d,some (.rows 0 e ei2 k2 ys)),(o2,none)],some (room ys.length)⟩)
       | .own o=>.h o fun
        | .rows _ e1 ei1 k1 l=>if e1=e∧ei1=ei2∧k1=k2∧o≠o2 then
          .abs d (.ret ⟨.c (.own d),[(d,some (.rows 0 e ei2 k2 (l++ys))),(o,none),(o2,none)],some (room (l.length+ys.length))⟩) else .fail
        | _=>sopAppL d e cx cy
       | _=>sopAppL d e cx cy
      else .fail
     | .tr _ es2 dy=>sopAppT d e cx o2 es2 dy
     | _=>sopAppL d e cx cy
    | _=>sopAppL d e cx cy
   | _=>.fail
  else .fail
def sopApp0 (P:Program) (d:Nat) (t:TypeId) (cx cy:SC):Rd Eff :=
 match elemT P t with
 | none=>.fail
 | some e=>if bytesOk P e then
   match P.underlying e with
   | some (.int k)=>if zeroIs P e (.int k 0) then
     match cy with
     | .int _ m=>match cx with
      | .own o=>.h o fun
       | .ints e' k' l=>if e'=e∧k'=k then .abs d (.ret ⟨.c (.own d),[(d,some (.ints e k (l++List.replicate m.toNat 0))),(o,none)],some (0≤m∧room (l.length+m.toNat))⟩) else .fail
       | _=>.fail
      | _=>.fail
     | _=>.fail
    else .fail
   | _=>.fail
  else .fail
def sopExtract (sv:SV) (i:Nat):Rd Eff :=
 match sv with
 | .tup l=>match l[i]? with
  | some (.inl c)=>pure1 c
  | some (.inr cs)=>.ret ⟨.agg cs,[],none⟩
  | none=>.fail
 | _=>.fail
def sopIndex (P:Program) (t:TypeId) (cx ci:SC):Rd Eff :=
 match cx,ci with
 | .str l,.int _ n=>match P.underlying t with
  | some .string=>.ret ⟨.c (.int .u8 ((l.getD n.toNat 0).toNat:Int)),[],some (inB n l.length)⟩
  | _=>.fail
 | _,_=>.fail
def notIn (o:Nat):List Nat→Bool
 | []=>true
 | x::l=>match Nat.beq x o with
  | true=>false
  | false=>notIn o l
def memP (i j:Nat):List (Nat×Nat)→Bool
 | []=>false
 | (a,b)::l=>(Nat.beq a i&&Nat.beq b j)||memP i j l
def rdOb {α:Type} (hid:List Nat) (o:Nat) (K:Ob→Rd α):Rd α :=
 match notIn o hid with
 | true=>.h o K
 | false=>.fail
def rdFC {α:Type} (hid:List Nat) (nl:Option FC) (c:SC) (K:FC→Rd α):Rd α :=
 match c with
 | .int k n=>K (.int k n)
 | .bool b=>K (.bool b)
 | .str l=>K (.str l)
 | .nil=>match nl with
  | some d=>K d
  | none=>.fail
 | .own o=>rdOb hid o fun ob=>match ob with
  | .frz d=>K d
  | ob=>match obFC ob with
   | some d=>K d
   | none=>.fail
 | .pre o n=>rdOb hid o fun ob=>match obFC ob with
  | some d=>match takeFC 0 n d with
   | some d=>K d
   | none=>.fail
  | none=>.fail
 | .sub o off n=>rdOb hid o fun ob=>match obFC ob with
  | some d=>match takeFC off n d with
   | some d=>K d
   | none=>.fail
  | none=>.fail
 | .row o ver i=>rdOb hid o fun
  | .rows ver' _ _ k l=>if ver=ver' then K (.ints k (l.getD i [])) else .fail
  | _=>.fail
 | .kid o ver p=>rdOb hid o fun
  | .tr ver' _ d=>if ver=ver' then (match atP d p with
   | some x=>K x
   | none=>.fail) else .fail
  | _=>.fail
 | .ro d=>K d
 | .orig _ _ d=>K d
 | .bsl o _=>rdOb hid o fun
  | .box cs=>match roLs cs with
   | some ls=>K (.rows .i64 ls)
   | none=>.fail
  | _=>.fail
 | _=>.fail
def rdMut {α:Type} (c:SC) (K:FC→Rd α):Rd α :=
 match c with
 | .own o=>.h o fun ob=>match obFC ob with
  | some d=>K d
  | none=>.fail
 | _=>.fail
def rdCell {α:Type} (hid:List Nat) (mt:List (Nat×Nat)) (i j:Nat) (nl:Option FC) (c:SC) (K:FC→Rd α):Rd α :=
 match memP i j mt with
 | true=>rdMut c K
 | false=>rdFC hid nl c K
def cellTs (P:Program) (t:TypeId):List TypeId :=
 match P.underlying t with
 | some (.struct fs)=>fs.toList.flatMap fun f=>match P.underlying f.type with
  | some (.struct gs)=>gs.toList.map (·.type)
  | _=>[f.type]
 | _=>[t]
def nilHead (P:Program):List TypeId→Option FC
 | t::_=>nilFC P t
 | []=>none
def rdFCs {α:Type} (P:Program) (hid:List Nat) (mt:List (Nat×Nat)) (i:Nat):Nat→List SC→List TypeId→(List FC→Rd α)→Rd α
 | _,[],_,K=>K []
 | j,c::cs,ts,K=>rdCell hid mt i j (nilHead P ts) c fun d=>rdFCs P hid mt i (j+1) cs ts.tail fun ds=>K (d::ds)
def pointee (P:Program) (t:TypeId):TypeId :=
 match P.underlying t with
 | some (.pointer e)=>e
 | _=>t
def ctB (ct:Option Post):Bool:=match ct with
 | some ⟨_,.c (.bool b),[]⟩=>b
 | _=>false
def ctQ (ct:Option Post):Prop:=match ct with
 | some ⟨p,.c (.bool _),[]⟩=>p
 | _=>False
def ctI (ct:Option Post):Int:=match ct with
 | some ⟨_,.c (.int .i64 n),[]⟩=>n
 | _=>0
def ctQI (ct:Option Post):Prop:=match ct with
 | some ⟨p,.c (.int .i64 _),[]⟩=>p
 | _=>False
def kindP (P:Program) (t:TypeId):Nat :=
 match P.underlying t with
 | some (.int .i64)=>1
 | some (.slice _)=>2
 | some .bool=>3
 | _=>0
def mkFV (ps rs:List Nat) (ct:List AD→Option Post) (cds:List AD):Option FV :=
 match ps,rs with
 | [1],[3]=>some (.ib (fun x=>ctQ (ct (.c (.int .i64 x)::cds))) (fun x=>ctB (ct (.c (.int .i64 x)::cds))))
 | [2],[3]=>some (.lb (fun x=>ctQ (ct (.c (.ints .i64 x)::cds))) (fun x=>ctB (ct (.c (.ints .i64 x)::cds))))
 | [1,1],[1]=>some (.iii (fun x y=>ctQI (ct (.c (.int .i64 x)::.c (.int .i64 y)::cds))) (fun x y=>ctI (ct (.c (.int .i64 x)::.c (.int .i64 y)::cds))))
 | [1,1],[3]=>some (.iib (fun x y=>ctQ (ct (.c (.int .i64 x)::.c (.int .i64 y)::cds))) (fun x y=>ctB (ct (.c (.int .i64 x)::.c (.int .i64 y)::cds))))
 | [2,2],[1]=>some (.lli (fun x y=>ctQI (ct (.c (.ints .i64 x)::.c (.ints .i64 y)::cds))) (fun x y=>ctI (ct (.c (.ints .i64 x)::.c (.ints .i64 y)::cds))))
 | [2,2],[3]=>some (.llb (fun x y=>ctQ (ct (.c (.ints .i64 x)::.c (.ints .i64 y)::cds))) (fun x y=>ctB (ct (.c (.ints .i64 x)::.c (.ints .i64 y)::cds))))
 | [1],[1]=>some (.ii (fun x=>ctQI (ct (.c (.int .i64 x)::cds))) (fun x=>ctI (ct (.c (.int .i64 x)::cds))))
 | _,_=>none
def rdCaps {α:Type} (P:Program) (hid:List Nat):List SC→(List AD→Rd α)→Rd α
 | [],K=>K []
 | c::cs,K=>match c with
  | .ptr o 0=>rdOb hid o fun
   | .box xs=>rdFCs P hid [] 0 0 xs [] fun ds=>rdCaps P hid cs fun r=>K (.box ds::r)
   | _=>.fail
  | c=>rdFC hid none c fun d=>rdCaps P hid cs fun r=>K (.c d::r)
def rdArg {α:Type} (P:Program) (Γ:FuncId→Option Ctr) (hid:List Nat) (mt:List (Nat×Nat)) (i:Nat) (t:TypeId) (sv:SV) (K:AD→Rd α):Rd α :=
 match sv with
 | .c c=>match c with
  | .ptr o x=>match x with
   | 0=>rdOb hid o fun
    | .box xs=>rdFCs P hid [] 0 0 xs (cellTs P (pointee P t)) fun ds=>K (.box ds)
    | _=>.fail
   | _+1=>.fail
  | .rob cs x=>match x with
   | 0=>K (.box cs)
   | _+1=>.fail
  | c=>rdCell hid mt i 0 (nilFC P t) c fun d=>K (.c d)
 | .agg cs=>rdFCs P hid mt i 0 cs (cellTs P t) fun ds=>K (.agg ds)
 | .fv F=>K (.fv F)
 | .fn f caps=>match P.underlying t with
  | some (.func ps rs _)=>match Γ f with
    | none=>.fail
    | some ⟨[],ct⟩=>rdCaps P hid caps fun cds=>match mkFV (ps.toList.map (kindP P)) (rs.toList.map (kindP P)) ct cds with
     | some F=>K (.fv F)
     | none=>.fail
    | some ⟨_::_,_⟩=>.fail
  | _=>.fail
 | .fvs _ _=>.fail
 | .tup _=>.fail
def rdArgs {α:Type} (P:Program) (Γ:FuncId→Option Ctr) (hid:List Nat) (mt:List (Nat×Nat)):Nat→List SV→List TypeId→(List AD→Rd α)→Rd α
 | _,[],_,K=>K []
 | i,sv::svs,ts,K=>rdArg P Γ hid mt i (ts.headD 0) sv fun ad=>rdArgs P Γ hid mt (i+1) svs ts.tail fun ads=>K (ad::ads)
def obOf:RC→Option Ob
 | .ints e k l=>some (.ints e k l)
 | .bools e l=>some (.bools e l)
 | .rows e ei k l=>some (.rows 0 e ei k l)
 | .bx cs=>some (.box (cs.map scOf))
 | .strs e l=>some (.strs e l)
 | .cut _ _ e ei k l=>some (.rows 0 e ei k l)
 | .lst e d=>some (.lst 0 e d)
 | .tr es d=>some (.tr 0 es d)
 | _=>none
def retC (id:Nat):RC→SC
 | .int k n=>.int k n
 | .bool b=>.bool b
 | .str l=>.str l
 | .ints _ _ _=>.own id
 | .bools _ _=>.own id
 | .rows _ _ _ _=>.own id
 | .nilq b=>.nilq b
 | .ro d=>.ro d
 | .bx _=>.ptr id 0
 | .strs _ _=>.own id
 | .cut off n _ _ _ _=>.sub id off n
 | .lst _ _=>.own id
 | .gone _=>.any
 | .tr _ _=>.own id
def slotsL:Nat→List RC→List (Nat×RC)
 | _,[]=>[]
 | j,x::l=>(j,x)::slotsL (j+1) l
def slotsT:Nat→List (RC ⊕ List RC)→List (Nat×RC)
 | _,[]=>[]
 | i,.inl x::l=>(16 * i,x)::slotsT (i+1) l
 | i,.inr xs::l=>slotsL (16 * i) xs++slotsT (i+1) l
def slotsV:RV→List (Nat×RC)
 | .c x=>[(0,x)]
 | .agg l=>slotsL 0 l
 | .tup l=>slotsT 0 l
 | .st _ _ _=>[]
def retL (d:Nat):Nat→List RC→List SC
 | _,[]=>[]
 | j,x::l=>retC (d+1000 * j) x::retL d (j+1) l
def retT (d:Nat):Nat→List (RC ⊕ List RC)→List (SC ⊕ List SC)
 | _,[]=>[]
 | i,.inl x::l=>.inl (retC (d+1000 * (16 * i)) x)::retT d (i+1) l
 | i,.inr xs::l=>.inr (retL d (16 * i) xs)::retT d (i+1) l
def retV (d:Nat):RV→SV
 | .c x=>.c (retC (d+1000 * 0) x)
 | .agg l=>.agg (retL d 0 l)
 | .tup l=>.tup (retT d 0 l)
 | .st _ _ _=>.c .any
def allScal:List FC→Bool
 | []=>true
 | d::l=>isScal d&&allScal l
def isRo:RC→Bool
 | .ro _=>true
 | .lst _ _=>true
 | .bx cs=>!allScal cs
 | _=>false
def roL:List (Nat×RC)→Bool
 | []=>false
 | (_,rc)::l=>isRo rc||roL l
def roV (rv:RV):Bool:=roL (slotsV rv)
def roD:SC→Option FC
 | .int k n=>some (.int k n)
 | .bool b=>some (.bool b)
 | .str l=>some (.str l)
 | .ro d=>some d
 | _=>none
def roAD:SV→Option AD
 | .c c=>match roD c with
  | some d=>some (.c d)
  | none=>none
 | .agg l=>match allSome roD l with
  | some ds=>some (.agg ds)
  | none=>none
 | _=>none
def roCall (c:Option Ctr) (svs:List SV):Option (List AD×Prop×RV) :=
 match c with
 | some ⟨[],ct⟩=>match allSome roAD svs with
  | some ads=>match ct ads with
   | some ⟨pre,ret,[]⟩=>match roV ret with
    | true=>some (ads,pre,ret)
    | false=>none
   | _=>none
  | none=>none
 | _=>none
def retUps (d:Nat):List (Nat×RC)→List (Nat×Option Ob)
 | []=>[]
 | (i,rc)::l=>match obOf rc with
  | some ob=>(d+1000 * i,some ob)::retUps d l
  | none=>retUps d l
def absAll {α:Type} (ids:List (Nat×Option Ob)) (k:Rd α):Rd α :=
 match ids with
 | []=>k
 | (i,_)::l=>.abs i (absAll l k)
def nodupB:List Nat→Bool
 | []=>true
 | i::l=>notIn i l&&nodupB l
def mutIds (svs:List SV):List (Nat×Nat)→Option (List Nat)
 | []=>some []
 | (i,j)::l=>match svs[i]? with
  | some sv=>match scs sv with
   | some cs=>match cs[j]? with
    | some (.own o)=>match mutIds svs l with
     | some os=>some (o::os)
     | none=>none
    | _=>none
   | none=>none
  | none=>none
def bxSame:List FC→List FC→Option Prop
 | [],[]=>some True
 | .int k _::l,.int k' _::l'=>if k=k' then bxSame l l' else none
 | .bool _::l,.bool _::l'=>bxSame l l'
 | .str _::l,.str _::l'=>bxSame l l'
 | .ints k a::l,.ints k' a'::l'=>if k=k' then (match bxSame l l' with | some p=>some (a=a'∧p) | none=>none) else none
 | .bools a::l,.bools a'::l'=>(match bxSame l l' with | some p=>some (a=a'∧p) | none=>none)
 | .rows k a::l,.rows k' a'::l'=>if k=k' then (match bxSame l l' with | some p=>some (a=a'∧p) | none=>none) else none
 | .r3 k a::l,.r3 k' a'::l'=>if k=k' then (match bxSame l l' with | some p=>some (a=a'∧p) | none=>none) else none
 | .r4 k a::l,.r4 k' a'::l'=>if k=k' then (match bxSame l l' with | some p=>some (a=a'∧p) | none=>none) else none
 | _,_=>none
def bxCells:List SC→List FC→List SC
 | c::cs,d::ds=>(if isScal d then scOf d else c)::bxCells cs ds
 | _,_=>[]
def wrOb:Ob→RC→Option (Ob×Prop)
 | .ints e k r,.ints e' k' r'=>if e=e'∧k=k' then some (.ints e k r',r'.length=r.length) else none
 | .bools e r,.bools e' r'=>if e=e' then some (.bools e r',r'.length=r.length) else none
 | .rows ver e ei k r,.rows e' ei' k' r'=>if e=e'∧ei=ei'∧k=k' then some (.rows ver e ei k r',r'.map List.length=r.map List.length) else none
 | .bx cs,.bx cs'=>match bxSame cs cs' with
  | some p=>some (.bx cs',p)
  | none=>none
 | .tr ver es r,.tr es' r'=>match eqNs es es' with
  | true=>some (.tr ver es r',r'.len=r.len)
  | false=>none
 | .lst ver e d,.gone (.lst e' _)=>if e=e' then some (.lst ver e d,True) else none
 | .ints e k l,.gone (.ints e' k' _)=>if e=e'∧k=k' then some (.ints e k l,True) else none
 | .rows ver e ei k l,.gone (.rows e' ei' k' _)=>if e=e'∧ei=ei'∧k=k' then some (.rows ver e ei k l,True) else none
 | _,_=>none
def wrUp (rc:RC) (ob:Ob):Option Ob:=match rc.isGone with
 | true=>none
 | false=>some ob
def rdWrs {α:Type}:List Nat→List RC→(List (Nat×Option Ob)→Prop→Rd α)→Rd α
 | [],[],K=>K [] True
 | o::os,rc::rcs,K=>.h o fun ob=>match wrOb ob rc with
  | some (ob',p)=>rdWrs os rcs fun ups q=>K ((o,wrUp rc ob')::ups) (p∧q)
  | none=>.fail
 | _,_,_=>.fail
def fzC {α:Type} (hid:List Nat) (nl:Option FC) (c:SC) (K:FC→List (Nat×Option Ob)→Rd α):Rd α :=
 match c with
 | .int k n=>K (.int k n) []
 | .bool b=>K (.bool b) []
 | .str l=>K (.str l) []
 | .nil=>match nl with
  | some d=>K d []
  | none=>.fail
 | .ro d=>K d []
 | .own o=>rdOb hid o fun ob=>match frzD ob with
  | some d=>K d [(o,some (.frz d))]
  | none=>.fail
 | .pre o n=>rdOb hid o fun ob=>match frzD ob with
  | some d=>match takeFC 0 n d with
   | some d'=>K d' [(o,some (.frz d))]
   | none=>.fail
  | none=>.fail
 | .sub o off n=>rdOb hid o fun ob=>match frzD ob with
  | some d=>match takeFC off n d with
   | some d'=>K d' [(o,some (.frz d))]
   | none=>.fail
  | none=>.fail
 | _=>.fail
def fzCs {α:Type} (P:Program) (hid:List Nat):List SC→List TypeId→(List FC→List (Nat×Option Ob)→Rd α)→Rd α
 | [],_,K=>K [] []
 | c::cs,ts,K=>fzC hid (nilHead P ts) c fun d fs=>fzCs P hid cs ts.tail fun ds gs=>K (d::ds) (fs++gs)
def fzArg {α:Type} (P:Program) (hid:List Nat) (mt:List (Nat×Nat)) (i:Nat) (t:TypeId) (sv:SV) (K:AD→List (Nat×Option Ob)→Rd α):Rd α :=
 match sv with
 | .c c=>match memP i 0 mt with
  | true=>rdMut c fun d=>K (.c d) []
  | false=>fzC hid (nilFC P t) c fun d fs=>K (.c d) fs
 | .agg cs=>fzCs P hid cs (cellTs P t) fun ds fs=>K (.agg ds) fs
 | .fv F=>K (.fv F) []
 | _=>.fail
def fzArgs {α:Type} (P:Program) (hid:List Nat) (mt:List (Nat×Nat)):Nat→List SV→List TypeId→(List AD→List (Nat×Option Ob)→Rd α)→Rd α
 | _,[],_,K=>K [] []
 | i,sv::svs,ts,K=>fzArg P hid mt i (ts.headD 0) sv fun ad fs=>fzArgs P hid mt (i+1) svs ts.tail fun ads gs=>K (ad::ads) (fs++gs)
def mt0 (svs:List SV):List (Nat×Nat)→Bool
 | []=>true
 | (i,j)::l=>(match svs[i]? with | some (.c _)=>Nat.beq j 0 | _=>false)&&mt0 svs l
def sopCallFz (P:Program) (d:Nat) (mt:List (Nat×Nat)) (ct:List AD→Option Post) (hid:List Nat) (svs:List SV) (ts:List TypeId):Rd Eff :=
 match mt0 svs mt with
 | false=>.fail
 | true=>fzArgs P hid mt 0 svs ts fun ads fs=>match ct ads with
  | none=>.fail
  | some ⟨pre,ret,wrs⟩=>rdWrs hid wrs fun ups p =>
   absAll (retUps d (slotsV ret)) (.ret ⟨retV d ret,retUps d (slotsV ret)++(ups++fs),some (pre∧p)⟩)
def sopCall (P:Program) (Γ:FuncId→Option Ctr) (d:Nat) (f:FuncId) (svs:List SV) (ts:List TypeId):Rd Eff :=
 match Γ f with
 | none=>.fail
 | some ⟨mt,ct⟩=>match mutIds svs mt with
  | none=>.fail
  | some hid=>match nodupB hid with
   | false=>.fail
   | true=>rdArgs P Γ hid mt 0 svs ts fun ads=>match ct ads with
    | none=>.fail
    | some ⟨pre,ret,wrs⟩=>match roV ret with
     | true=>sopCallFz P d mt ct hid svs ts
     | false=>rdWrs hid wrs fun ups p =>
      absAll (retUps d (slotsV ret)) (.ret ⟨retV d ret,retUps d (slotsV ret)++ups,some (pre∧p)⟩)
def sopCallRo (d:Nat) (pre:Prop) (ret:RV):Rd Eff :=
 absAll (retUps d (slotsV ret)) (.ret ⟨retV d ret,retUps d (slotsV ret)++[],some (pre∧True)⟩)
def rcSC:RC→Option SC
 | .int k n=>some (.int k n)
 | .bool b=>some (.bool b)
 | _=>none
def isMut0 (c:Option Ctr):Bool :=
 match c with
 | some ⟨[(0,0)],_⟩=>true
 | _=>false
def sopCallRow (P:Program) (Γ:FuncId→Option Ctr) (f:FuncId) (o ver i:Nat) (svs:List SV) (ts:List TypeId):Rd Eff :=
 match Γ f with
 | some ⟨[(0,0)],ct⟩=>.h o fun ob=>match ob with
  | .rows ver' e ei k l=>match Nat.beq ver' ver with
   | true=>rdArgs P Γ [o] [(0,0)] 1 svs ts fun ads=>match ct (.c (.ints k (l.getD i []))::ads) with
    | some ⟨pre,.c rc,[.ints e' k' r]⟩=>match rcSC rc with
     | some c=>if ei=e'∧k=k' then .ret ⟨.c c,[(o,some (.rows ver' e ei k (l.set i r)))],some (pre∧r.length=(l.getD i []).length)⟩ else .fail
     | none=>.fail
    | _=>.fail
   | false=>.fail
  | _=>.fail
 | _=>.fail
def sopCallKid (P:Program) (Γ:FuncId→Option Ctr) (f:FuncId) (o ver:Nat) (p:List Nat) (svs:List SV) (ts:List TypeId):Rd Eff :=
 match Γ f with
 | some ⟨[(0,0)],ct⟩=>.h o fun ob=>match ob with
  | .tr ver' es d=>match Nat.beq ver' ver with
   | true=>match atP d p with
    | some x=>rdArgs P Γ [o] [(0,0)] 1 svs ts fun ads=>match ct (.c x::ads) with
     | some ⟨pre,.c rc,[.tr es' x']⟩=>match rcSC rc with
      | some c=>match eqNs (es.drop p.length) es' with
       | true=>match putP d p x' with
        | some d'=>.ret ⟨.c c,[(o,some (.tr ver' es d'))],some (pre∧x'.len=x.len)⟩
        | none=>.fail
       | false=>.fail
      | none=>.fail
     | _=>.fail
    | none=>.fail
   | false=>.fail
  | _=>.fail
 | _=>.fail
def sopCallCut (P:Program) (Γ:FuncId→Option Ctr) (f:FuncId) (o off n:Nat) (svs:List SV) (ts:List TypeId):Rd Eff :=
 match Γ f with
 | some ⟨[(0,0)],ct⟩=>.h o fun ob=>match ob with
  | .rows ver e ei k l=>rdArgs P Γ [o] [(0,0)] 1 svs ts fun ads=>match ct (.cut off n (.rows k l)::ads) with
   | some ⟨pre,.c rc,[.rows e' ei' k' l']⟩=>match rcSC rc with
    | some c=>if e=e'∧ei=ei'∧k=k' then .ret ⟨.c c,[(o,some (.rows ver e ei k l'))],some (pre∧l'.map List.length=l.map List.length)⟩ else .fail
    | none=>.fail
   | _=>.fail
  | _=>.fail
 | _=>.fail
def isMut1 (c:Option Ctr):Bool :=
 match c with
 | some ⟨[(1,0)],_⟩=>true
 | _=>false
def sopCallRow1 (P:Program) (Γ:FuncId→Option Ctr) (f:FuncId) (k0:IntKind) (n0:Int) (o ver i:Nat) (svs:List SV) (ts:List TypeId):Rd Eff :=
 match Γ f with
 | some ⟨[(1,0)],ct⟩=>.h o fun ob=>match ob with
  | .rows ver' e ei k l=>match Nat.beq ver' ver with
   | true=>rdArgs P Γ [o] [(1,0)] 2 svs ts fun ads=>match ct (.c (.int k0 n0)::.c (.ints k (l.getD i []))::ads) with
    | some ⟨pre,rv,[.ints e' k' r]⟩=>match rv with
     | .tup []=>if ei=e'∧k=k' then .ret ⟨.tup [],[(o,some (.rows ver' e ei k (l.set i r)))],some (pre∧r.length=(l.getD i []).length)⟩ else .fail
     | _=>.fail
    | _=>.fail
   | false=>.fail
  | _=>.fail
 | _=>.fail
def roC:SC→Option FC
 | .int k n=>some (.int k n)
 | .bool b=>some (.bool b)
 | .str l=>some (.str l)
 | .ro d=>some d
 | .orig _ _ d=>some d
 | _=>none
def sopCallBoxRo (P:Program) (Γ:FuncId→Option Ctr) (d:Nat) (f:FuncId) (o:Nat) (svs:List SV):Rd Eff :=
 match Γ f with
 | some ⟨[(0,0)],ct⟩=>.h o fun ob=>match ob with
  | .box xs=>match allSome roC xs with
   | some fcs=>match allSome roAD svs with
    | some ads=>match ct (.box fcs::ads) with
     | some ⟨pre,ret,[.bx fcs']⟩=>match bxSame fcs fcs' with
      | some q=>absAll (retUps d (slotsV ret)) (.ret ⟨retV d ret,retUps d (slotsV ret)++[(o,some (.box (bxCells xs fcs')))],some (pre∧q)⟩)
      | none=>.fail
     | _=>.fail
    | none=>.fail
   | none=>.fail
  | _=>.fail
 | _=>.fail
def sopCallBox (P:Program) (Γ:FuncId→Option Ctr) (d:Nat) (f:FuncId) (o:Nat) (svs:List SV) (ts:List TypeId):Rd Eff :=
 match Γ f with
 | some ⟨[(0,0)],ct⟩=>.h o fun ob=>match ob with
  | .box xs=>rdFCs P [o] [] 0 0 xs (cellTs P (pointee P (ts.headD 0))) fun fcs=>rdArgs P Γ [o] [(0,0)] 1 svs ts.tail fun ads=>match ct (.box fcs::ads) with
   | some ⟨pre,ret,[.bx fcs']⟩=>match roV ret with
    | true=>sopCallBoxRo P Γ d f o svs
    | false=>match bxSame fcs fcs' with
     | some q=>absAll (retUps d (slotsV ret)) (.ret ⟨retV d ret,retUps d (slotsV ret)++[(o,some (.box (bxCells xs fcs')))],some (pre∧q)⟩)
     | none=>.fail
   | _=>.fail
  | _=>.fail
 | _=>.fail
def ver0:Ob→Ob
 | .rows _ e ei k l=>.rows 0 e ei k l
 | .lst _ e d=>.lst 0 e d
 | .tr _ es d=>.tr 0 es d
 | .yd _ Y pre b=>.yd 0 Y pre b
 | ob=>ob
def okMC:Ob→Bool
 | .ints _ _ _=>true
 | .bools _ _=>true
 | .rows _ _ _ _ _=>true
 | .lst _ _ _=>true
 | .tr _ _ _=>true
 | .yd _ _ _ _=>true
 | _=>false
def nilOb (P:Program) (t:TypeId):Option Ob :=
 match elemT P t with
 | none=>none
 | some e=>match P.underlying e with
  | some (.int k)=>some (.ints e k [])
  | some .bool=>some (.bools e [])
  | some (.slice ei)=>match kindT P ei with
   | some k=>some (.lst 0 e (.rows k []))
   | none=>match nilFC P t with
    | some (.r3 k l)=>match l,esT P 4 t with
     | [],[a,b,c]=>some (.tr 0 [a,b,c] (.r3 k []))
     | _,_=>none
    | _=>none
  | _=>none
abbrev Tr:=List (Nat×Option Nat×Ob)
def rdMC {α:Type} (k:Nat) (nl:Option Ob) (c:SC) (K:MC→Tr→Rd α):Rd α :=
 match c with
 | .int k n=>K (.c (.int k n)) []
 | .bool b=>K (.c (.bool b)) []
 | .str l=>K (.c (.str l)) []
 | .ro d=>K (.c d) []
 | .orig _ _ d=>K (.c d) []
 | .own o=>.h o fun ob=>match ob with
  | .frz d=>K (.c d) []
  | ob=>match okMC ob with
   | true=>K (.ob (ver0 ob)) [(k,some o,ob)]
   | false=>.fail
 | .nil=>match nl with
  | some ob=>K (.ob ob) [(k,none,ob)]
  | none=>.fail
 | _=>.fail
def nilObH (P:Program):List TypeId→Option Ob
 | []=>none
 | t::_=>nilOb P t
def rdMCs {α:Type} (P:Program):Nat→List SC→List TypeId→(List MC→Tr→Rd α)→Rd α
 | _,[],_,K=>K [] []
 | k,c::cs,ts,K=>rdMC k (nilObH P ts) c fun x os=>rdMCs P (k+1) cs ts.tail fun l os'=>K (x::l) (os++os')
def rdMA {α:Type} (P:Program) (k:Nat) (t:TypeId) (sv:SV) (K:MA→Tr→Rd α):Rd α :=
 match sv with
 | .c c=>match c with
  | .ptr o i=>match i with
   | 0=>.h o fun ob=>match ob with
    | .box cs=>rdMCs P (k+1) cs (cellTs P (pointee P t)) fun l os=>K (.box l) ((k,some o,.box (mcsS (k+1) l))::os)
    | _=>.fail
   | _+1=>.fail
  | c=>rdMC k (nilOb P t) c fun x os=>K (.m x) os
 | _=>.fail
def rdMAs {α:Type} (P:Program):Nat→List SV→List TypeId→(List MA→Tr→Rd α)→Rd α
 | _,[],_,K=>K [] []
 | i,sv::svs,ts,K=>rdMA P (bid i) (ts.headD 0) sv fun x os=>rdMAs P (i+1) svs ts.tail fun l os'=>K (x::l) (os++os')
def trOs:Tr→List Nat
 | []=>[]
 | (_,some o,_)::l=>o::trOs l
 | (_,none,_)::l=>trOs l
def lkTr:Tr→Nat→Option (Option Nat×Ob)
 | [],_=>none
 | (k,x)::l,t=>match Nat.beq k t with
  | true=>some x
  | false=>lkTr l t
def nmTr (d:Nat) (os:Tr) (k:Nat):Nat :=
 match lkTr os k with
 | some (some o,_)=>o
 | _=>d+1000 * k
def renC (f:Nat→Nat):SC→Option SC
 | .int k n=>some (.int k n)
 | .bool b=>some (.bool b)
 | .str l=>some (.str l)
 | .nil=>some .nil
 | .any=>some .any
 | .ro d=>some (.ro d)
 | .own k=>some (.own (f k))
 | .ptr k i=>some (.ptr (f k) i)
 | _=>none
def renV (f:Nat→Nat):SV→Option SV
 | .c c=>match renC f c with
  | some c'=>some (.c c')
  | none=>none
 | .fn g l=>match allSome (renC f) l with
  | some l'=>some (.fn g l')
  | none=>none
 | .tup l=>match l with
  | []=>some (.tup [])
  | _=>none
 | _=>none
def renO (f:Nat→Nat) (ob:Ob):Option Ob :=
 match ob with
 | .box cs=>match allSome (renC f) cs with
  | some cs'=>some (.box cs')
  | none=>none
 | ob=>match okMC ob with
  | true=>some ob
  | false=>none
def okKeep:Ob→Ob→Bool
 | .box cs,.box cs'=>Nat.beq cs.length cs'.length
 | .yd _ _ _ _,.yd _ _ _ _=>true
 | _,_=>false
def keepO:Ob→Ob→Ob
 | .yd v _ _ _,.yd v' Y pre b=>.yd (v+v') Y pre b
 | _,ob=>ob
def upsTr (d:Nat) (os:Tr):List (Nat×Option Ob)→Option (List (Nat×Option Ob)×List (Nat×Option Ob))
 | []=>some ([],[])
 | (_,none)::_=>none
 | (k,some ob)::l=>match renO (nmTr d os) ob with
  | none=>none
  | some ob'=>match upsTr d os l with
   | none=>none
   | some (kept,new)=>match lkTr os k with
    | some (some o,ob0)=>match okKeep ob0 ob with
     | true=>some ((o,some (keepO ob0 ob'))::kept,new)
     | false=>none
    | some (none,_)=>none
    | none=>some (kept,(d+1000 * k,some ob')::new)
def deadTr (hp:List (Nat×Option Ob)):Tr→List (Nat×Option Ob)
 | []=>[]
 | (k,some o,_)::l=>match lk hp k with
  | none=>(o,none)::deadTr hp l
  | some _=>deadTr hp l
 | (_,none,_)::l=>deadTr hp l
def isSR (c:Option Ctr):Bool :=
 match c with
 | some ⟨[(0,93),(0,93)],_⟩=>true
 | _=>false
def sopCallS (P:Program) (d:Nat) (c:Option Ctr) (svs:List SV) (ts:List TypeId):Rd Eff :=
 match c with
 | none=>.fail
 | some ⟨_,ct⟩=>rdMAs P 0 svs ts fun mas os=>match ct (mas.map .ma) with
  | some ⟨pre,.st sv ex outs,[]⟩=>match nodupB (os.map (·.1))&&nodupB (trOs os)&&nodupB ((masO 0 outs++exO ex).map (·.1)) with
   | true=>match renV (nmTr d os) sv,upsTr d os (masO 0 outs++exO ex) with
    | some sv',some (kept,new)=>absAll new (.ret ⟨sv',new++(kept++deadTr (masO 0 outs++exO ex) os),some pre⟩)
    | _,_=>.fail
   | false=>.fail
  | _=>.fail
def splitAt:Nat→List SC→Option (List SC×Nat×List SC)
 | 0,.ptr o 0::l=>some ([],o,l)
 | n+1,c::l=>match splitAt n l with
  | some (a,o,b)=>some (c::a,o,b)
  | none=>none
 | _,_=>none
def stQ (ct:Option Post):Prop:=match ct with
 | some ⟨p,.c (.int .i64 _),[.bx [.int .i64 _]]⟩=>p
 | _=>False
def stP (ct:Option Post):Int:=match ct with
 | some ⟨_,.c (.int .i64 n),_⟩=>n
 | _=>0
def stN (ct:Option Post):Int:=match ct with
 | some ⟨_,_,[.bx [.int .i64 n]]⟩=>n
 | _=>0
def mkSF (ct:List AD→Option Post) (A B:List AD):SFV :=
 let at':Int→Int→Int→Option Post:=fun s x y=>ct ([.c (.int .i64 x),.c (.int .i64 y)]++(A++.box [.int .i64 s]::B))
 ⟨fun s x y=>stQ (at' s x y),fun s x y=>stP (at' s x y),fun s x y=>stN (at' s x y)⟩
def isSt (c:Option Ctr) (svs:List SV):Bool :=
 match c with
 | some ⟨[(1,0)],_⟩=>match svs with
  | [.c (.int .i64 _),.fn _ _]=>true
  | _=>false
 | _=>false
def sopCallSt (P:Program) (Γ:FuncId→Option Ctr) (d:Nat) (f:FuncId) (svs:List SV):Rd Eff :=
 match Γ f with
 | some ⟨[(1,0)],ct⟩=>match svs with
  | [.c (.int .i64 n),.fn g caps]=>match Γ g with
   | some ⟨[(k,0)],ctg⟩=>match k with
    | k+2=>match splitAt k caps with
     | some (ca,o,cb)=>.h o fun ob=>match ob with
      | .box [.int .i64 s]=>rdCaps P [o] ca fun A=>rdCaps P [o] cb fun B=>match ct [.c (.int .i64 n),.fvs (mkSF ctg A B) s] with
       | some ⟨pre,ret,[.bx [.int .i64 s']]⟩=>match roV ret with
        | true=>.fail
        | false=>absAll (retUps d (slotsV ret)) (.ret ⟨retV d ret,retUps d (slotsV ret)++[(o,some (.box [.int .i64 s']))],some (pre∧True)⟩)
       | _=>.fail
      | _=>.fail
     | none=>.fail
    | _=>.fail
   | _=>.fail
  | _=>.fail
 | _=>.fail
def sopCallF (o:Nat) (F:SFV) (svs:List SV):Rd Eff :=
 match svs with
 | [.c (.int .i64 x),.c (.int .i64 y)]=>.h o fun ob=>match ob with
  | .box [.int .i64 s]=>.ret ⟨.c (.int .i64 (F.p s x y)),[(o,some (.box [.int .i64 (F.nx s x y)]))],some (F.q s x y)⟩
  | _=>.fail
 | _=>.fail
def isSo (c:Option Ctr):Bool :=
 match c with
 | some ⟨[(0,97),(0,97)],_⟩=>true
 | _=>false
def sopSort (c:Option Ctr) (svs:List SV):Rd Eff :=
 match c with
 | some ⟨_,ct⟩=>match svs with
  | [.c (.own o),.fn g []]=>.h o fun ob=>match ob with
   | .rows ver e ei .i64 l=>match ct [.c (.rows .i64 l)] with
    | some ⟨pre,.c (.rows g' _ .i64 l'),_⟩=>match Nat.beq g' g with
     | true=>.ret ⟨.tup [],[(o,some (.rows (ver+1) e ei .i64 l'))],some (pre∧l'.length=l.length)⟩
     | false=>.fail
    | _=>.fail
   | _=>.fail
  | _=>.fail
 | none=>.fail
def isDf (c:Option Ctr):Bool :=
 match c with
 | some ⟨[(0,96),(0,96)],_⟩=>true
 | _=>false
def sopDelF (c:Option Ctr) (svs:List SV):Rd Eff :=
 match c with
 | some ⟨_,ct⟩=>match svs with
  | [.c (.sub o off n),.fn g []]=>.h o fun ob=>match ob with
   | .rows ver e ei .i64 l=>match ct [.c (.rows .i64 ((l.drop off).take n))] with
    | some ⟨pre,.c (.rows g' _ .i64 k),_⟩=>match Nat.beq g' g with
     | true=>.ret ⟨.c (.sub o off k.length),[(o,some (.rows (ver+1) e ei .i64 (l.take (off+k.length)++List.replicate (n - k.length) []++l.drop (off+n))))],some pre⟩
     | false=>.fail
    | _=>.fail
   | _=>.fail
  | _=>.fail
 | none=>.fail
def isMv (c:Option Ctr):Bool :=
 match c with
 | some ⟨[(0,99),(0,99)],_⟩=>true
 | _=>false
def sopDel (d:Nat) (svs:List SV):Rd Eff :=
 match svs with
 | [.c (.own o),.c (.int .i64 i),.c (.int .i64 j)]=>.h o fun
  | .ints e .i64 l=>.abs d (.ret ⟨.c (.own d),[(d,some (.ints e .i64 (l.take i.toNat++l.drop j.toNat))),(o,none)],some (0≤i∧i<j∧j≤(l.length:Int))⟩)
  | _=>.fail
 | _=>.fail
def grE (c:Option Ctr):Option TypeId :=
 match c with
 | some ⟨[(0,98),(0,98)],ct⟩=>match ct [] with
  | some ⟨_,.c (.ints e .i64 []),_⟩=>some e
  | _=>none
 | _=>none
def sopGrow (d:Nat) (e:TypeId) (svs:List SV):Rd Eff :=
 match svs with
 | [.c .nil,.c (.int .i64 n)]=>.abs d (.ret ⟨.c (.own d),[(d,some (.ints e .i64 []))],some (0≤n∧n≤1099511627776)⟩)
 | _=>.fail
def isTk (c:Option Ctr):Bool :=
 match c with
 | some ⟨[(0,0),(1,0)],_⟩=>true
 | _=>false
def sopCallTk (P:Program) (Γ:FuncId→Option Ctr) (d:Nat) (f:FuncId) (o ver i j:Nat) (ts:List TypeId):Rd Eff :=
 .h o fun
  | .rows ver' e ei k l=>match Nat.beq ver' ver with
   | true=>match Γ f with
    | some ⟨[(0,0),(1,0)],ct⟩=>match ct [.c (.ints k (l.getD i [])),.c (.ints k (l.getD j []))] with
     | some ⟨pre,ret,[.gone (.ints e1 k1 _),.gone (.ints e2 k2 _)]⟩=>match roV ret with
      | true=>.fail
      | false=>if ei=e1∧ei=e2∧k=k1∧k=k2 then
        .abs (d+500501) (.abs (d+500500) (absAll (retUps d (slotsV ret)) (.ret ⟨retV d ret,
         (retUps d (slotsV ret)++[(d+500500,none),(d+500501,none)])++(takeR (d+500500) o (ver+2) e ei k l [i,j] i++takeR (d+500501) o (ver+1) e ei k l [j] j),some ((pre∧True∧True)∧i≠j)⟩)))
       else .fail
     | _=>.fail
    | _=>.fail
   | false=>.fail
  | _=>.fail
def ovrE (d:Nat) (ob:Ob):Rd Eff→Rd Eff
 | .ret e=>.ret ⟨e.val,e.hp++[(d,none)],e.owed⟩
 | .fail=>.fail
 | .f t k=>.f t fun sv=>ovrE d ob (k sv)
 | .h o k=>match Nat.beq o d with
  | true=>ovrE d ob (k ob)
  | false=>.h o fun x=>ovrE d ob (k x)
 | .abs o k=>match Nat.beq o d with
  | true=>.fail
  | false=>.abs o (ovrE d ob k)
def nilMut (c:Option Ctr) (svs:List SV):Option Nat :=
 match c with
 | some ⟨[(i,0)],_⟩=>match svs[i]? with
  | some (.c .nil)=>some i
  | _=>none
 | _=>none
def sopCallNil (P:Program) (Γ:FuncId→Option Ctr) (d:Nat) (f:FuncId) (i:Nat) (svs:List SV) (ts:List TypeId):Rd Eff :=
 match Γ f with
 | some ⟨_,ct⟩=>rdArgs P Γ [] [] 0 svs ts fun ads=>match ct ads with
  | some ⟨_,_,[.gone (.rows e ei k _)]⟩=>.abs (d+490490) (ovrE (d+490490) (.rows 0 e ei k []) (sopCall P Γ d f (svs.set i (.c (.own (d+490490)))) ts))
  | _=>.fail
 | none=>.fail
def plainC (sv:SV):Option SC :=
 match sv with
 | .c c=>if c.plain then some c else none
 | _=>none
def sopYield (P:Program) (o i:Nat):Rd Eff :=
 match Nat.beq o i with
 | true=>.fail
 | false=>.h o fun ob=>match ob with
  | .yd v Y pre b=>.h i fun ob2=>match ob2 with
   | .ints e k x=>match k with
    | .i64=>.ret ⟨.c (.bool (Y.go pre x)),[(o,some (.yd (v+1) Y (pre++[x]) (Y.go pre x)))],some (Y.P=P∧Y.e=e∧b=true∧Y.ok pre x)⟩
    | _=>.fail
   | _=>.fail
  | _=>.fail
def sopCallV (P:Program) (Γ:FuncId→Option Ctr) (d:Nat) (fv:SV) (svs:List SV) (ts:List TypeId):Rd Eff :=
 match fv with
 | .fn f []=>match isMv (Γ f) with
  | true=>sopDel d svs
  | false=>match grE (Γ f) with
   | some e=>sopGrow d e svs
   | none=>match isSo (Γ f) with
    | true=>sopSort (Γ f) svs
    | false=>match isDf (Γ f) with
    | true=>sopDelF (Γ f) svs
    | false=>match isSR (Γ f) with
    | true=>sopCallS P d (Γ f) svs ts
    | false=>match isSt (Γ f) svs with
    | true=>sopCallSt P Γ d f svs
    | false=>match roCall (Γ f) svs with
     | some (_,pre,ret)=>sopCallRo d pre ret
     | none=>match svs with
      | .c (.row o ver i)::rest=>match isMut0 (Γ f) with
       | true=>sopCallRow P Γ f o ver i rest ts.tail
       | false=>match isTk (Γ f) with
        | true=>match rest with
         | [.c (.row o' ver' j)]=>match Nat.beq o' o,Nat.beq ver' ver with
          | true,true=>sopCallTk P Γ d f o ver i j ts
          | _,_=>sopCall P Γ d f svs ts
         | _=>sopCall P Γ d f svs ts
        | false=>sopCall P Γ d f svs ts
      | .c (.kid o ver p)::rest=>match isMut0 (Γ f) with
       | true=>sopCallKid P Γ f o ver p rest ts.tail
       | false=>sopCall P Γ d f svs ts
      | .c (.sub o off n)::rest=>match isMut0 (Γ f) with
       | true=>sopCallCut P Γ f o off n rest ts.tail
       | false=>sopCall P Γ d f svs ts
      | .c (.ptr o 0)::rest=>match isMut0 (Γ f) with
       | true=>sopCallBox P Γ d f o rest ts
       | false=>sopCall P Γ d f svs ts
      | .c (.int k0 n0)::.c (.row o ver i)::rest=>match isMut1 (Γ f) with
       | true=>sopCallRow1 P Γ f k0 n0 o ver i rest ts.tail.tail
       | false=>sopCall P Γ d f svs ts
      | svs=>match nilMut (Γ f) svs with
       | some i=>sopCallNil P Γ d f i svs ts
       | none=>sopCall P Γ d f svs ts
 | .fvs o F=>sopCallF o F svs
 | .fn f (c::cs)=>sopCall P Γ d f (svs++(c::cs).map .c) ts
 | .fv F=>match allSome plainC svs with
  | some cs=>rdFCs P [] [] 0 0 cs ts fun ds=>match F.at ds with
   | some (q,c)=>.ret ⟨.c c,[],some q⟩
   | none=>.fail
  | none=>.fail
 | .c c=>match c with
  | .own o=>match svs with
   | [.c (.own i)]=>sopYield P o i
   | _=>.fail
  | _=>.fail
 | _=>.fail
def isEmp (lo hi:Option Operand) (mx:Operand):Bool :=
 match lo,hi,mx with
 | none,some (.const (.int .i64 0)),.const (.int .i64 0)=>true
 | _,_,_=>false
def strT (P:Program) (s t:TypeId):Bool :=
 match P.underlying t with
 | some .string=>match elemT P s with
  | some e=>match kindT P e with
   | some .u8=>true
   | _=>false
  | none=>false
 | _=>false
def sbytes (l:List Int):List UInt8:=l.map fun n=>UInt8.ofNat n.toNat
def sopMin (cx cy:SC):Rd Eff :=
 match cx,cy with
 | .int k a,.int k' b=>if k=k' then .ret ⟨.c (.int k (if b<a then b else a)),[],none⟩ else .fail
 | _,_=>.fail
def sopMax (cx cy:SC):Rd Eff :=
 match cx,cy with
 | .int k a,.int k' b=>if k=k' then .ret ⟨.c (.int k (if b > a then b else a)),[],none⟩ else .fail
 | _,_=>.fail
def isNilP (x:Operand):Bool :=
 match x with
 | .const (.pointer none)=>true
 | _=>false
def mapT (P:Program) (t:TypeId):Bool :=
 match P.underlying t with
 | some (.map k e)=>(match P.underlying k with
  | some (.int .i64)=>true
  | _=>false)&&zeroIs P e (.bool false)
 | _=>false
def sopMakeMap (P:Program) (d:Nat) (t:TypeId) (r:Option Operand):Rd Eff :=
 match r with
 | none=>match mapT P t with
  | true=>.abs d (.ret ⟨.c (.own d),[(d,some (.mp []))],none⟩)
  | false=>.fail
 | some _=>.fail
def mpI (n:Int) (l:List Int):List Int:=if l.contains n=true then l else l++[n]
def sopMapUp (P:Program) (t:TypeId) (cm ck cv:SC):Rd Eff :=
 match mapT P t with
 | true=>match cm,ck,cv with
  | .own o,.int .i64 n,.bool true=>.h o fun
   | .mp l=>.ret ⟨.c .any,[(o,some (.mp (mpI n l)))],none⟩
   | _=>.fail
  | _,_,_=>.fail
 | false=>.fail
def sopLookup (P:Program) (t:TypeId) (ok:Bool) (cm ck:SC):Rd Eff :=
 match mapT P t,ok with
 | true,false=>match cm,ck with
  | .own o,.int .i64 n=>.h o fun
   | .mp l=>pure1 (.bool (l.contains n))
   | _=>.fail
  | _,_=>.fail
 | _,_=>.fail
def sop (P:Program) (Γ:FuncId→Option Ctr) (wr:Nat→Bool) (o:Oper):Rd Eff :=
 let d:=match o.dst with | some d=>d | none=>0
 match o.op with
 | .move x=>rdv x fun sv=>.ret ⟨sv,[],none⟩
 | .assign x=>match isNilP x with
  | true=>.ret ⟨.c .any,[],none⟩
  | false=>rdv x fun sv=>.ret ⟨sv,[],none⟩
 | .nilCheck x=>rdc x fun
  | .ptr o i=>.h o fun ob=>nfR ob (pure1 (.ptr o i))
  | _=>.fail
 | .pick c x y=>rdc c fun
  | .bool true=>rdv x fun sv=>.ret ⟨sv,[],none⟩
  | .bool false=>rdv y fun sv=>.ret ⟨sv,[],none⟩
  | _=>.fail
 | .alloc t=>sopAlloc P d t
 | .box _ x=>rdv x fun sv=>sopBox d sv
 | .build t parts=>sopBuild P t parts
 | .buildSlice t len parts=>match wr (2000000+d) with
  | true=>sopBuildTree P d t len parts
  | false=>sopBuildSlice P (wr (1000000+d)) d t len parts
 | .load t x=>match wr (3000000+d) with
  | true=>rdc x fun cx=>sopTake P d t cx
  | false=>rdc x fun cx=>sopLoad P t cx
 | .store t x y=>rdc x fun cx=>rdv y fun sv=>sopStore P t cx sv
 | .binOp op t x y _=>rdc x fun cx=>rdc y fun cy=>sopBin P t (wr d) op cx cy
 | .unOp op _ x=>rdc x fun cx=>sopUn (wr d) op cx
 | .convert s t x=>rdc x fun cx=>match strT P s t with
  | true=>rdFC [] (nilFC P s) cx fun
   | .ints .u8 l=>.ret ⟨.c (.str (sbytes l)),[],none⟩
   | _=>.fail
  | false=>sopConv P (wr d) s t cx
 | .makeFunc fn first caps=>match fn with
  | .func f=>if first.isEmpty then rdAll caps.toList fun svs=>match allSome plainC svs with
   | some cs=>.ret ⟨.fn f cs,[],none⟩
   | none=>.fail
   else .fail
  | _=>.fail
 | .makeSlice t l c=>rdc l fun cl=>rdc c fun cc=>sopMake P d t cl cc
 | .slice t x lo hi mx=>match mx with
  | none=>match wr (4000000+d) with
   | true=>rdc x fun cx=>sopTrunc P d t cx lo hi
   | false=>rdc x fun cx=>sopSl P d t cx lo hi
  | some m=>match isEmp lo hi m with
   | true=>match elemT P t with
    | some e=>match sizeT P e with
     | some _=>rdc x fun cx=>rdFC [] (nilFC P t) cx fun
      | .ints _ _=>.ret ⟨.c .emp,[],none⟩
      | .bools _=>.ret ⟨.c .emp,[],none⟩
      | .rows _ _=>.ret ⟨.c .emp,[],none⟩
      | _=>.fail
     | none=>.fail
    | none=>.fail
   | false=>.fail
 | .fieldAddr s x f=>rdc x fun cx=>sopFieldAddr P s cx f
 | .field s x f=>rdv x fun sv=>sopField P s sv f
 | .indexAddr t x i=>rdc x fun cx=>rdc i fun ci=>sopIndexAddr P t cx ci
 | .index t x i=>rdc x fun cx=>rdc i fun ci=>sopIndex P t cx ci
 | .extract x i=>rdv x fun sv=>sopExtract sv i
 | .call c=>match c.callee with
  | .value f=>rdv f fun fv=>rdAll c.args.toList fun svs=>sopCallV P Γ d fv svs c.argTypes.toList
  | .builtin b=>match b with
   | .len=>match c.args.toList,c.argTypes.toList with
    | [x],[t]=>rdc x fun cx=>match cx with
     | .str _=>match P.underlying t with
      | some .string=>sopLen cx
      | _=>.fail
     | cx=>match elemT P t with
      | some _=>sopLen cx
      | none=>.fail
    | _,_=>.fail
   | .append=>match c.args.toList,c.argTypes.toList with
    | [x,y],[t,t']=>if t=t' then rdc x fun cx=>rdc y fun cy=>sopAppend P d t cx cy else match kindT P t' with
     | some _=>rdc x fun cx=>rdc y fun cy=>sopApp0 P d t cx cy
     | none=>.fail
    | _,_=>.fail
   | .min=>match c.args.toList with
    | [x,y]=>rdc x fun cx=>rdc y fun cy=>sopMin cx cy
    | _=>.fail
   | .max=>match c.args.toList with
    | [x,y]=>rdc x fun cx=>rdc y fun cy=>sopMax cx cy
    | _=>.fail
   | _=>.fail
  | .invoke _ _=>.fail
 | .makeMap t r=>sopMakeMap P d t r
 | .mapUpdate t m k v=>rdc m fun cm=>rdc k fun ck=>rdc v fun cv=>sopMapUp P t cm ck cv
 | .lookup t m k ok=>rdc m fun cm=>rdc k fun ck=>sopLookup P t ok cm ck
 | _=>.fail
end Go.Sx
