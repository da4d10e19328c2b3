/- SxC -/
import Derived.Test.YtkmldclpaniclaaSxBt
namespace Go.Sx
open Go.RowKit
inductive Key where
 | f (t:Nat)
 | h (o:Nat)
def Key.eq:Key→Key→Bool
 | .f a,.f b=>Nat.beq a b
 | .h a,.h b=>Nat.beq a b
 | _,_=>false
inductive Rd (α:Type) where
 | ret (x:α)
 | fail
 | f (t:Nat) (k:SV→Rd α)
 | h (o:Nat) (k:Ob→Rd α)
 | abs (o:Nat) (k:Rd α)
def Rd.run {α:Type} (σ:State):Rd α→Option α
 | .ret x=>some x
 | .fail=>none
 | .f t k=>match σ.F t with
  | some sv=>(k sv).run σ
  | none=>none
 | .h o k=>match σ.H o with
  | some (some ob)=>(k ob).run σ
  | some none=>none
  | none=>none
 | .abs o k=>match σ.H o with
  | none=>k.run σ
  | some _=>none
def Rd.keys {α:Type} (σ:State):Rd α→List Key
 | .ret _=>[]
 | .fail=>[]
 | .f t k=>.f t::match σ.F t with
  | some sv=>(k sv).keys σ
  | none=>[]
 | .h o k=>.h o::match σ.H o with
  | some (some ob)=>(k ob).keys σ
  | some none=>[]
  | none=>[]
 | .abs o k=>.h o::k.keys σ
structure Eff where
 val:SV
 hp:List (Nat×Option Ob)
 owed:Option Prop
def Eff.obl (e:Eff):Prop :=
 match e.owed with
 | none=>True
 | some p=>p
inductive MC where
 | c (d:FC)
 | ob (x:Ob)
inductive MA where
 | m (x:MC)
 | box (l:List MC)
inductive AD where
 | c (d:FC)
 | agg (cs:List FC)
 | box (cs:List FC)
 | bb (cs:List FC)
 | fv (F:FV)
 | fvs (F:SFV) (s:Int)
 | cut (off n:Nat) (d:FC)
 | ma (x:MA)
inductive RC where
 | int (k:IntKind) (n:Int)
 | bool (b:Bool)
 | str (l:List UInt8)
 | ints (e:TypeId) (k:IntKind) (l:List Int)
 | bools (e:TypeId) (l:List Bool)
 | rows (e ei:TypeId) (k:IntKind) (l:List (List Int))
 | nilq (b:Bool)
 | ro (d:FC)
 | bx (cs:List FC)
 | strs (e:TypeId) (l:List (List UInt8))
 | cut (off n:Nat) (e ei:TypeId) (k:IntKind) (l:List (List Int))
 | lst (e:TypeId) (d:FC)
 | gone (x:RC)
 | tr (es:List TypeId) (d:FC)
def RC.isGone:RC→Bool
 | .gone _=>true
 | _=>false
inductive RV where
 | c (x:RC)
 | agg (l:List RC)
 | tup (l:List (RC ⊕ List RC))
 | st (sv:SV) (ex:List (Nat×Ob)) (outs:List MA)
structure Post where
 pre:Prop
 ret:RV
 wrs:List RC:=[]
structure Ctr where
 mt:List (Nat×Nat):=[]
 ct:List AD→Option Post
def cI:FC→SC
 | .int k n=>.int k n
 | .bool b=>.bool b
 | .str l=>.str l
 | .ints k l=>.ro (.ints k l)
 | .bools l=>.ro (.bools l)
 | .rows k l=>.ro (.rows k l)
 | .r3 k l=>.ro (.r3 k l)
 | .r4 k l=>.ro (.r4 k l)
def cL:FC→Bool
 | .int _ _=>true
 | .bool _=>true
 | .str _=>true
 | _=>false
def eg:Ob→Option FC
 | .ints _ k l=>some (.ints k l)
 | .bools _ l=>some (.bools l)
 | .rows _ _ _ k l=>some (.rows k l)
 | .box _=>none
 | .bx _=>none
 | .strs _ _=>none
 | .lst _ _ d=>match cL d with
  | true=>none
  | false=>some d
 | .frz _=>none
 | .mp _=>none
 | .qu _ _ _=>none
 | .rowsH _ _ _ _ _ _=>none
 | .tr _ _ d=>some d
 | .yd _ _ _ _=>none
/- The state that a call by states begins in: argument i's object has the name 7000 + 100 i, its cells' objects those behind it. -/
def cz (i:Nat):Nat:=7000+100 * i
def xu (k:Nat):MC→SC
 | .c d=>cI d
 | .ob _=>.own k
def qT (k:Nat):MC→List (Nat×Option Ob)
 | .c _=>[]
 | .ob x=>[(k,some x)]
def eG:Nat→List MC→List SC
 | _,[]=>[]
 | k,x::l=>xu k x::eG (k+1) l
def jn:Nat→List MC→List (Nat×Option Ob)
 | _,[]=>[]
 | k,x::l=>qT k x++jn (k+1) l
def nu (k:Nat):MA→SV
 | .m x=>.c (xu k x)
 | .box _=>.c (.ptr k 0)
def EU (k:Nat):MA→List (Nat×Option Ob)
 | .m x=>qT k x
 | .box l=>(k,some (.box (eG (k+1) l)))::jn (k+1) l
def qU:Nat→List MA→List (Nat×SV)
 | _,[]=>[]
 | i,x::l=>(i,nu (cz i) x)::qU (i+1) l
def gj:Nat→List MA→List (Nat×Option Ob)
 | _,[]=>[]
 | i,x::l=>EU (cz i) x++gj (i+1) l
def dO (mas:List MA):State:=⟨qU 0 mas,gj 0 mas⟩
def Mp (k:Nat):MA→List (Nat×Option Ob)
 | .m x=>qT k x
 | .box l=>(k,some (.box (eG (k+1001) l)))::jn (k+1001) l
def fM:Nat→List MA→List (Nat×Option Ob)
 | _,[]=>[]
 | i,x::l=>Mp (cz i) x++fM (i+1) l
def gk (ex:List (Nat×Ob)):List (Nat×Option Ob):=ex.map fun p=>(p.1,some p.2)
def gI (sv:SV) (hp:List (Nat×Option Ob)):State:=⟨[(0,sv)],hp⟩
def jo (mas:List MA) (hp:List (Nat×Option Ob)):List Nat:=((gj 0 mas).map (·.1)).filter fun k=>(lk hp k).isSome
def eW:Ob→Option FC
 | .frz d=>some d
 | ob=>match eg ob with
  | some d=>match bJ 0 d.len d with
   | some _=>some d
   | none=>none
  | none=>none
def iQ {α:Type} (ob:Ob) (r:Rd α):Rd α :=
 match ob.isFz with
 | true=>.fail
 | false=>r
def xv {α:Type} (c:SC) (k:SC→Rd α):Rd α :=
 match c with
 | .own o=>.h o fun ob=>match ob with
  | .frz d=>k (.ro d)
  | _=>k (.own o)
 | .pre o n=>.h o fun ob=>match ob with
  | .frz d=>match bJ 0 n d with
   | some d'=>k (.ro d')
   | none=>.fail
  | _=>k (.pre o n)
 | .sub o off n=>.h o fun ob=>match ob with
  | .frz d=>match bJ off n d with
   | some d'=>k (.ro d')
   | none=>.fail
  | _=>k (.sub o off n)
 | c=>k c
def lY:Value→Option SC
 | .int k n=>some (.int k n)
 | .bool b=>some (.bool b)
 | .string s=>some (.str s.data.toList)
 | .slice none 0 0=>some .nil
 | _=>none
def dz {α β:Type} (f:α→Option β):List α→Option (List β)
 | []=>some []
 | x::l=>match f x with
  | some y=>match dz f l with
   | some ys=>some (y::ys)
   | none=>none
  | none=>none
def eh {α:Type} (x:Operand) (k:SV→Rd α):Rd α :=
 match x with
 | .tmp t=>.f t k
 | .const v=>match v with
  | .agg cs=>match dz lY cs.toList with
   | some l=>k (.agg l)
   | none=>.fail
  | .nilFunc=>k (.c .any)
  | v=>match lY v with
   | some c=>k (.c c)
   | none=>.fail
 | .func f=>k (.fn f [])
 | .global _=>.fail
def b6 {α:Type} (x:Operand) (k:SC→Rd α):Rd α :=
 eh x fun
  | .c c=>xv c k
  | _=>.fail
def ku (P:Program) (t:TypeId):Option Bool :=
 match P.underlying t with
 | some (.struct _)=>some true
 | some (.array _ _)=>some true
 | some _=>some false
 | none=>none
def cP (P:Program) (t:TypeId):Option Nat :=
 match P.info? t with
 | some i=>some i.size
 | none=>none
def bP (P:Program) (t:TypeId):Option TypeId :=
 match P.underlying t with
 | some (.slice e)=>some e
 | _=>none
def af (n:Int):Prop:=-9223372036854775808≤n∧n≤9223372036854775807
def fN (wr:Bool) (k:IntKind) (r:Int):Eff :=
 match wr,k with
 | false,.i64=>⟨.c (.int .i64 r),[],some (af r)⟩
 | _,k=>⟨.c (.int k (k.wrap r)),[],none⟩
def aA (c:SC):Rd Eff:=.ret ⟨.c c,[],none⟩
def xw (P:Program) (t:TypeId):Bool :=
 match P.underlying t with
 | some .bool=>true
 | _=>false
def ag (n:Nat):Prop:=n≤1099511627776
def Mq:BinOp→Bool
 | .shl=>true
 | .shr=>true
 | _=>false
def xx (wr:Bool) (op:BinOp) (cx cy:SC):Rd Eff :=
 match cx,cy with
 | .int .i64 a,.int _ b =>
  match op with
  | .shl=>.ret ⟨(fN wr .i64 (a * 2 ^ b.toNat)).val,[],some ((0≤b∧b≤62)∧(fN wr .i64 (a * 2 ^ b.toNat)).obl)⟩
  | .shr=>.ret ⟨.c (.int .i64 (a / 2 ^ b.toNat)),[],some (0≤b∧b≤62)⟩
  | _=>.fail
 | .int .u64 a,.int _ b =>
  match op with
  | .shr=>.ret ⟨.c (.int .u64 (a / 2 ^ b.toNat)),[],some (0≤b∧b≤62)⟩
  | _=>.fail
 | _,_=>.fail
def xy (op:BinOp) (cx cy:SC):Bool :=
 match op,cx,cy with
 | .and,.int .u64 _,.int .u64 _=>true
 | _,_,_=>false
def xz (cx cy:SC):Rd Eff :=
 match cx,cy with
 | .int .u64 a,.int .u64 b=>.ret ⟨.c (.int .u64 ((a.toNat &&& b.toNat:Nat):Int)),[],some ((0≤a∧a≤18446744073709551615)∧0≤b∧b≤18446744073709551615)⟩
 | _,_=>.fail
def xA (P:Program) (t:TypeId) (wr:Bool) (op:BinOp) (cx cy:SC):Rd Eff :=
 match Mq op with
 | true=>xx wr op cx cy
 | false=>match xy op cx cy with
 | true=>xz cx cy
 | false=>match cx,cy with
 | .int k a,.int k' b =>
  if k=k' then
   match op with
   | .and=>.ret ⟨.c (.int k ((a.toNat &&& b.toNat:Nat):Int)),[],some (k=.i64∧(0≤a∧a≤9223372036854775807)∧0≤b∧b≤9223372036854775807)⟩
   | .or=>.ret ⟨.c (.int k ((a.toNat ||| b.toNat:Nat):Int)),[],some (k=.i64∧(0≤a∧a≤9223372036854775807)∧0≤b∧b≤9223372036854775807)⟩
   | .add=>.ret (fN wr k (a+b))
   | .sub=>.ret (fN wr k (a - b))
   | .mul=>.ret (fN wr k (a * b))
   | .quo=>.ret ⟨(fN wr k (a.tdiv b)).val,[],some (b≠0∧(fN wr k (a.tdiv b)).obl)⟩
   | .rem=>.ret ⟨.c (.int k (a.tmod b)),[],some (b≠0)⟩
   | .eql=>aA (.bool (a == b))
   | .neq=>aA (.bool (a != b))
   | .lss=>aA (.bool (decide (a<b)))
   | .leq=>aA (.bool (decide (a≤b)))
   | .gtr=>aA (.bool (decide (b<a)))
   | .geq=>aA (.bool (decide (b≤a)))
   | _=>.fail
  else .fail
 | .bool a,.bool b =>
  if xw P t then
   match op with
   | .eql=>aA (.bool (a == b))
   | .neq=>aA (.bool (!(a == b)))
   | _=>.fail
  else .fail
 | .str a,.str b =>
  match op with
  | .eql=>aA (.bool (a == b))
  | .neq=>aA (.bool (!(a == b)))
  | .add=>.ret ⟨.c (.str (a++b)),[],some (ag (a.length+b.length))⟩
  | _=>.fail
 | .nilq b,.nil=>match bP P t with
  | some _=>match op with
   | .eql=>aA (.bool b)
   | .neq=>aA (.bool (!b))
   | _=>.fail
  | none=>.fail
 | .ro d,.nil=>match bP P t with
  | some _=>match op with
   | .eql=>.ret ⟨.c (.bool false),[],some (d.len≠0)⟩
   | .neq=>.ret ⟨.c (.bool true),[],some (d.len≠0)⟩
   | _=>.fail
  | none=>.fail
 | _,_=>.fail
def xB (wr:Bool) (op:UnOp) (cx:SC):Rd Eff :=
 match op,cx with
 | .neg,.int k a=>.ret (fN wr k (-a))
 | .not,.bool b=>aA (.bool (!b))
 | _,_=>.fail
def iR (P:Program) (t:TypeId):Option IntKind :=
 match P.underlying t with
 | some (.int k)=>some k
 | _=>none
def xC (P:Program) (wr:Bool) (src dst:TypeId) (cx:SC):Rd Eff :=
 match cx with
 | .int _ n=>match P.underlying src with
  | some _=>match iR P dst with
   | some k=>.ret (fN wr k n)
   | none=>.fail
  | none=>.fail
 | _=>.fail
def xD:FC→Option FC
 | .rows k _=>some (.ints k [])
 | .r3 k _=>some (.rows k [])
 | .r4 k _=>some (.r3 k [])
 | _=>none
def g9:FC→FC→Option FC
 | .rows k l,.rows k' l'=>if k=k' then some (.rows k (l++l')) else none
 | .r3 k l,.r3 k' l'=>if k=k' then some (.r3 k (l++l')) else none
 | .r4 k l,.r4 k' l'=>if k=k' then some (.r4 k (l++l')) else none
 | _,_=>none
def gm:List FC→Option FC
 | []=>none
 | [.ints k x]=>some (.rows k [x])
 | [.rows k x]=>some (.r3 k [x])
 | [.r3 k x]=>some (.r4 k [x])
 | .ints k x::l=>match gm l with
  | some (.rows k' ls)=>if k=k' then some (.rows k (x::ls)) else none
  | _=>none
 | .rows k x::l=>match gm l with
  | some (.r3 k' ls)=>if k=k' then some (.r3 k (x::ls)) else none
  | _=>none
 | .r3 k x::l=>match gm l with
  | some (.r4 k' ls)=>if k=k' then some (.r4 k (x::ls)) else none
  | _=>none
 | _=>none
def qV (P:Program):Nat→TypeId→List TypeId
 | 0,_=>[]
 | n+1,t=>match bP P t with
  | some e=>e::qV P n e
  | none=>[]
def xE:FC→Nat→Option FC
 | .rows k _,n=>some (.rows k (List.replicate n []))
 | .r3 k _,n=>some (.r3 k (List.replicate n []))
 | .r4 k _,n=>some (.r4 k (List.replicate n []))
 | _,_=>none
def lZ:Ob→Option (List TypeId×FC)
 | .ints e k l=>some ([e],.ints k l)
 | .rows _ e ei k l=>some ([e,ei],.rows k l)
 | .tr _ es d=>some (es,d)
 | _=>none
def qW:FC→Option (IntKind×List Int)
 | .ints k l=>some (k,l)
 | _=>none
def xF:SC→SC
 | .orig _ _ d=>.ro d
 | c=>c
def qX (P:Program) (t:TypeId) (cx:SC):Rd Eff :=
 match ku P t with
 | none=>.fail
 | some true=>match cP P t with
  | none=>.fail
  | some n=>match cx with
   | .ptr o i=>.h o fun
    | .box cs=>if i+n≤cs.length then .ret ⟨.agg ((cs.drop i).take n),[],none⟩ else .fail
    | _=>.fail
   | .rob cs i=>if i+n≤cs.length then .ret ⟨.agg (((cs.drop i).take n).map cI),[],none⟩ else .fail
   | _=>.fail
 | some false=>match cx with
  | .ptr o i=>.h o fun
   | .box cs=>match cs[i]? with
    | some c=>aA (xF c)
    | none=>.fail
   | .ints _ k l=>aA (.int k (l.getD i 0))
   | .bools _ l=>aA (.bool (l.getD i false))
   | .rows ver _ _ _ _=>aA (.row o ver i)
   | .bx _=>.fail
   | .strs _ l=>aA (.str (l.getD i []))
   | .lst _ _ d=>match cJ d i with
    | some x=>aA (.ro x)
    | none=>.fail
   | .frz _=>.fail
   | .mp _=>.fail
   | .qu _ _ _=>.fail
   | .rowsH _ _ _ _ _ _=>.fail
   | .tr _ _ _=>.fail
   | .yd _ _ _ _=>.fail
  | .rptr o ver i j=>.h o fun
   | .rows ver' _ _ k l=>if ver=ver' then aA (.int k ((l.getD i []).getD j 0)) else .fail
   | _=>.fail
  | .rop d i=>match d with
   | .ints k l=>aA (.int k (l.getD i 0))
   | .bools l=>aA (.bool (l.getD i false))
   | .rows k l=>aA (.ro (.ints k (l.getD i [])))
   | .r3 k l=>aA (.ro (.rows k (l.getD i [])))
   | .r4 k l=>aA (.ro (.r3 k (l.getD i [])))
   | _=>.fail
  | .rob cs i=>match cs[i]? with
   | some fc=>aA (cI fc)
   | none=>.fail
  | .rbb cs=>aA (.rob cs 0)
  | .qptr o i=>.h o fun
   | .qu _ k l=>aA (.int k (l.getD i 0))
   | _=>.fail
  | .kptr o ver p j=>.h o fun
   | .tr ver' _ d=>if ver=ver' then (match gh d p with
    | some x=>match qW x with
     | some (k,l)=>aA (.int k (l.getD j 0))
     | none=>match cJ x j with
      | some _=>aA (.kid o ver (p++[j]))
      | none=>.fail
    | none=>.fail) else .fail
   | _=>.fail
  | _=>.fail
def xG (P:Program) (d:Nat) (t:TypeId) (cx:SC):Rd Eff :=
 match ku P t with
 | some false=>match cx with
  | .kptr o ver [] j=>.h o fun
   | .tr ver' [_,e,ei] (.r3 k l)=>if ver=ver' then .abs d (.ret ⟨.c (.own d),[(d,some (.rows 0 e ei k (l.getD j []))),(o,none)],none⟩) else .fail
   | _=>.fail
  | _=>.fail
 | _=>.fail
def SC.plain:SC→Bool
 | .any=>false
 | .und=>false
 | _=>true
def xH (P:Program) (t:TypeId) (cx:SC) (sv:SV):Rd Eff :=
 match sv with
 | .c c =>
  if c.plain=true∧cP P t=some 1 then
   match cx with
   | .ptr o i=>.h o fun
    | .box cs=>if i<cs.length then .ret ⟨.c .any,[(o,some (.box (cs.set i c)))],none⟩ else .fail
    | .ints e k l=>match c with
     | .int k' n=>if k=k' then .ret ⟨.c .any,[(o,some (.ints e k (l.set i n)))],none⟩ else .fail
     | _=>.fail
    | .bools e l=>match c with
     | .bool b=>.ret ⟨.c .any,[(o,some (.bools e (l.set i b)))],none⟩
     | _=>.fail
    | .rows ver e ei k l=>match c with
     | .own o2=>.h o2 fun
      | .ints e2 k2 l2=>if e2=ei∧k2=k∧o2≠o then .ret ⟨.c .any,[(o2,none),(o,some (.rows (ver+1) e ei k (l.set i l2)))],none⟩ else .fail
      | _=>.fail
     | .nil=>.ret ⟨.c .any,[(o,some (.rows (ver+1) e ei k (l.set i [])))],none⟩
     | _=>.fail
    | .bx _=>.fail
    | .strs _ _=>.fail
    | .lst ver e d=>match c with
     | .ro x=>match fh d i x with
      | some d'=>.ret ⟨.c .any,[(o,some (.lst ver e d'))],none⟩
      | none=>.fail
     | .nil=>match xD d with
      | some x=>match fh d i x with
       | some d'=>.ret ⟨.c .any,[(o,some (.lst ver e d'))],none⟩
       | none=>.fail
      | none=>.fail
     | .own o2=>.h o2 fun ob2=>match eW ob2 with
      | some x=>match fh d i x with
       | some d'=>if o2≠o then .ret ⟨.c .any,[(o,some (.lst ver e d')),(o2,some (.frz x))],none⟩ else .fail
       | none=>.fail
      | none=>.fail
     | _=>.fail
    | .frz _=>.fail
    | .mp _=>.fail
    | .qu _ _ _=>.fail
    | .rowsH ver e ei k l hs=>match c with
     | .own o2=>.h o2 fun
      | .ints e2 k2 l2=>if e2=ei∧k2=k∧o2≠o then
        (match hs with
        | [h]=>.ret ⟨.c .any,[(o2,none),(o,some (.rows (ver+1) e ei k (l.set i l2)))],some (i=h)⟩
        | h::hs'=>.ret ⟨.c .any,[(o2,none),(o,some (.rowsH (ver+1) e ei k (l.set i l2) hs'))],some (i=h∧¬ h∈hs')⟩
        | []=>.fail) else .fail
      | _=>.fail
     | _=>.fail
    | .tr _ _ _=>.fail
    | .yd _ _ _ _=>.fail
   | .kptr o ver p j=>.h o fun
    | .tr ver' es d=>match c with
     | .int k' n=>if ver=ver' then (match gh d p with
      | some x=>match qW x with
       | some (k,l)=>if k=k' then (match jl d p (.ints k (l.set j n)) with
        | some d'=>.ret ⟨.c .any,[(o,some (.tr ver' es d'))],none⟩
        | none=>.fail) else .fail
       | none=>.fail
      | none=>.fail) else .fail
     | .own o2=>.h o2 fun ob2=>match lZ ob2 with
      | some (es2,y)=>if ver=ver'∧o2≠o∧fL es2 (es.drop (p.length+1))=true then (match gh d p with
       | some x=>match fh x j y with
        | some x'=>match jl d p x' with
         | some d'=>.ret ⟨.c .any,[(o2,none),(o,some (.tr (ver'+1) es d'))],none⟩
         | none=>.fail
        | none=>.fail
       | none=>.fail) else .fail
      | none=>.fail
     | _=>.fail
    | _=>.fail
   | .rptr o ver i j=>.h o fun
    | .rows ver' e ei k l=>match c with
     | .int k' n=>if ver=ver'∧k=k' then .ret ⟨.c .any,[(o,some (.rows ver' e ei k (l.set i ((l.getD i []).set j n))))],none⟩ else .fail
     | _=>.fail
    | _=>.fail
   | _=>.fail
  else .fail
 | .agg cs' =>
  if cP P t=some cs'.length then
   match cx with
   | .ptr o i=>.h o fun
    | .box cs=>if i+cs'.length≤cs.length then .ret ⟨.c .any,[(o,some (.box (cs.take i++cs'++cs.drop (i+cs'.length))))],none⟩ else .fail
    | _=>.fail
   | _=>.fail
  else .fail
 | _=>.fail
def jp (P:Program) (t:TypeId):Option (List SC) :=
 match P.info? t with
 | some i=>match i.zero with
  | some z=>dz lY z.cells.toList
  | none=>none
 | none=>none
def xI (P:Program) (d:Nat) (t:TypeId):Rd Eff :=
 match jp P t with
 | some cs=>.abs d (if cs.isEmpty=false then .ret ⟨.c (.ptr d 0),[(d,some (.box cs))],none⟩ else .fail)
 | none=>.fail
def xJ (d:Nat) (sv:SV):Rd Eff :=
 match sv with
 | .c c=>if c.plain then .abs d (.ret ⟨.c (.ptr d 0),[(d,some (.box [c]))],none⟩) else .fail
 | .agg cs=>.abs d (if cs.isEmpty=false then .ret ⟨.c (.ptr d 0),[(d,some (.box cs))],none⟩ else .fail)
 | _=>.fail
def hZ:SV→Option (List SC)
 | .c c=>if c.plain then some [c] else none
 | .agg l=>some l
 | _=>none
def qY (P:Program) (fs:Array Field):List (Nat×Operand)→List SC→(List SC→Rd Eff)→Rd Eff
 | [],cs,k=>k cs
 | (i,x)::rest,cs,k=>eh x fun sv=>match hZ sv with
  | none=>.fail
  | some l=>match fs[i]? with
   | none=>.fail
   | some fd=>if cP P fd.type=some l.length∧fd.offset+l.length≤cs.length then
     qY P fs rest (cs.take fd.offset++l++cs.drop (fd.offset+l.length)) k
    else .fail
def xK (P:Program) (t:TypeId) (parts:Array (Nat×Operand)):Rd Eff :=
 match jp P t with
 | none=>.fail
 | some cs=>match P.underlying t with
  | some (.struct fs)=>match dz (fun f:Field=>cP P f.type) fs.toList with
   | some _=>qY P fs parts.toList cs fun cs=>.ret ⟨.agg cs,[],none⟩
   | none=>.fail
  | _=>.fail
def ia {α:Type}:List Operand→(List SV→Rd α)→Rd α
 | [],k=>k []
 | x::l,k=>eh x fun sv=>ia l fun svs=>k (sv::svs)
def nv (k:IntKind):List SV→Option (List Int)
 | []=>some []
 | .c (.int k' n)::l=>if k=k' then (match nv k l with | some ns=>some (n::ns) | none=>none) else none
 | _=>none
def nw:List SV→Option (List Bool)
 | []=>some []
 | .c (.bool b)::l=>(match nw l with | some ns=>some (b::ns) | none=>none)
 | _=>none
def nz:List SV→Option (List (List UInt8))
 | []=>some []
 | .c (.str b)::l=>(match nz l with | some ns=>some (b::ns) | none=>none)
 | _=>none
def nA (ei:TypeId) (ki:IntKind):List SV→List Nat→(List (List Int)→List Nat→Rd Eff)→Rd Eff
 | [],_,k=>k [] []
 | .c .nil::l,used,k=>nA ei ki l used fun ls os=>k ([]::ls) os
 | .c (.own o)::l,used,k=>.h o fun
  | .ints e k' r=>if e=ei∧k'=ki∧used.all (fun u=>!(Nat.beq u o)) then nA ei ki l (o::used) fun ls os=>k (r::ls) (o::os) else .fail
  | _=>.fail
 | _,_,_=>.fail
def qZ:List SC→Option (List (List Int))
 | []=>some []
 | .ro (.ints .i64 l)::cs=>match qZ cs with
  | some ls=>some (l::ls)
  | none=>none
 | _=>none
def l7 (hint:Bool):List SV→(Option (List FC×List (Nat×Option Ob))→Rd Eff)→Rd Eff
 | [],K=>K (some ([],[]))
 | .c (.ro d)::l,K=>l7 hint l fun
  | some (ds,fs)=>K (some (d::ds,fs))
  | none=>K none
 | .c (.own o)::l,K=>.h o fun ob=>match ob with
  | .frz d=>l7 hint l fun
   | some (ds,fs)=>K (some (d::ds,fs))
   | none=>K none
  | ob=>match hint with
   | true=>match eW ob with
    | some d=>l7 hint l fun
     | some (ds,fs)=>K (some (d::ds,(o,some (.frz d))::fs))
     | none=>K none
    | none=>K none
   | false=>K none
 | _,K=>K none
def fO (P:Program) (t:TypeId):Option FC :=
 match P.underlying t with
 | some (.slice e)=>match P.underlying e with
  | some (.int k)=>some (.ints k [])
  | some .bool=>some (.bools [])
  | some (.slice e2)=>match P.underlying e2 with
   | some (.int k)=>some (.rows k [])
   | some (.slice e3)=>match P.underlying e3 with
    | some (.int k)=>some (.r3 k [])
    | some (.slice e4)=>match iR P e4 with
     | some k=>some (.r4 k [])
     | none=>none
    | _=>none
   | _=>none
  | _=>none
 | _=>none
def xL (P:Program) (hint:Bool) (d:Nat) (t:TypeId) (len:Nat) (parts:Array (Nat×Operand)):Rd Eff :=
 if (parts.toList.map (·.1))=List.range len∧len≤1000 then
  match bP P t with
  | none=>.fail
  | some e=>if cP P e=some 1∧(jp P e).isSome=true then
    match P.underlying e with
    | some (.int k)=>ia (parts.toList.map (·.2)) fun svs=>match nv k svs with
     | some l=>.abs d (.ret ⟨.c (.own d),[(d,some (.ints e k l))],none⟩)
     | none=>.fail
    | some .bool=>ia (parts.toList.map (·.2)) fun svs=>match nw svs with
     | some l=>.abs d (.ret ⟨.c (.own d),[(d,some (.bools e l))],none⟩)
     | none=>.fail
    | some .string=>ia (parts.toList.map (·.2)) fun svs=>match nz svs with
     | some l=>.abs d (.ret ⟨.c (.own d),[(d,some (.strs e l))],none⟩)
     | none=>.fail
    | some (.slice ei)=>ia (parts.toList.map (·.2)) fun svs=>l7 hint svs fun pr=>match pr with
     | some (x::xs,fs)=>match gm (x::xs) with
      | some dd=>.abs d (.ret ⟨.c (.own d),(d,some (.lst 0 e dd))::fs,none⟩)
      | none=>.fail
     | _=>match iR P ei with
      | some ki=>nA ei ki svs [] fun ls os =>
        .abs d (.ret ⟨.c (.own d),(d,some (.rows 0 e ei ki ls))::os.map (fun o=>(o,none)),none⟩)
      | none=>match svs with
       | []=>match fO P t with
        | some dd=>.abs d (.ret ⟨.c (.own d),[(d,some (.lst 0 e dd))],none⟩)
        | none=>.fail
       | _=>.fail
    | _=>.fail
   else .fail
 else .fail
def xM (P:Program) (d:Nat) (t:TypeId) (len:Nat) (parts:Array (Nat×Operand)):Rd Eff :=
 if (parts.toList.map (·.1))=List.range len∧len≤1000 then
  match bP P t with
  | none=>.fail
  | some e=>if cP P e=some 1∧(jp P e).isSome=true then
    match fO P t with
    | none=>.fail
    | some d0=>ia (parts.toList.map (·.2)) fun svs=>match svs with
     | []=>match qV P 4 t with
      | e1::e2::es=>if e1=e∧d0.dep=es.length+1 then .abs d (.ret ⟨.c (.own d),[(d,some (.tr 0 (e1::e2::es) d0))],none⟩) else .fail
      | _=>.fail
     | [.c (.own o2)]=>.h o2 fun ob2=>match lZ ob2 with
      | some (es2,y)=>match gm [y] with
       | some dd=>.abs d (.ret ⟨.c (.own d),[(d,some (.tr 0 (e::es2) dd)),(o2,none)],none⟩)
       | none=>.fail
      | none=>.fail
     | [.c (.own o1),.c (.own o2)]=>.h o1 fun ob1=>.h o2 fun ob2=>match lZ ob1 with
      | some (es1,y1)=>match lZ ob2 with
       | some (es2,y2)=>match gm [y1,y2] with
        | some dd=>match fL es1 es2&&!Nat.beq o1 o2 with
         | true=>.abs d (.ret ⟨.c (.own d),[(d,some (.tr 0 (e::es1) dd)),(o1,none),(o2,none)],none⟩)
         | false=>.fail
        | none=>.fail
       | none=>.fail
      | none=>.fail
     | _=>.fail
   else .fail
 else .fail
def xN (P:Program) (s:TypeId) (cx:SC) (f:Nat):Rd Eff :=
 match P.underlying s with
 | some (.struct fs)=>match fs[f]? with
  | none=>.fail
  | some fd=>match cP P fd.type with
   | some (_+1)=>match cx with
    | .ptr o i=>.h o fun
     | .box cs=>if i+fd.offset<cs.length then aA (.ptr o (i+fd.offset)) else .fail
     | _=>.fail
    | .rob cs i=>aA (.rob cs (i+fd.offset))
    | _=>.fail
   | _=>.fail
 | _=>.fail
def xO (P:Program) (s:TypeId) (sv:SV) (f:Nat):Rd Eff :=
 match P.underlying s with
 | some (.struct fs)=>match fs[f]? with
  | none=>.fail
  | some fd=>match sv with
   | .agg cs=>match ku P fd.type with
    | some true=>match cP P fd.type with
     | some n=>if fd.offset+n≤cs.length then .ret ⟨.agg ((cs.drop fd.offset).take n),[],none⟩ else .fail
     | none=>.fail
    | some false=>match cs[fd.offset]? with
     | some c=>aA c
     | none=>.fail
    | none=>.fail
   | _=>.fail
 | _=>.fail
def aa (n:Int) (len:Nat):Prop:=0≤n∧n<(len:Int)
def xP (P:Program) (t:TypeId) (cx ci:SC):Rd Eff :=
 match bP P t with
 | none=>.fail
 | some e=>if cP P e=some 1 then
   match ci with
   | .int _ n=>match cx with
    | .own o=>.h o fun ob=>match ob with
     | .box _=>.fail
     | .bx _=>.fail
     | .strs _ l=>.ret ⟨.c (.ptr o n.toNat),[],some (aa n l.length)⟩
     | .ints _ _ l=>.ret ⟨.c (.ptr o n.toNat),[],some (aa n l.length)⟩
     | .bools _ l=>.ret ⟨.c (.ptr o n.toNat),[],some (aa n l.length)⟩
     | .rows _ _ _ _ l=>.ret ⟨.c (.ptr o n.toNat),[],some (aa n l.length)⟩
     | .lst _ _ d=>.ret ⟨.c (.ptr o n.toNat),[],some (aa n d.len)⟩
     | .frz _=>.fail
     | .mp _=>.fail
     | .qu _ _ l=>.ret ⟨.c (.qptr o n.toNat),[],some (aa n l.length)⟩
     | .rowsH _ _ _ _ l _=>.ret ⟨.c (.ptr o n.toNat),[],some (aa n l.length)⟩
     | .tr ver _ d=>.ret ⟨.c (.kptr o ver [] n.toNat),[],some (aa n d.len)⟩
     | .yd _ _ _ _=>.fail
    | .kid o ver p=>.h o fun
     | .tr ver' _ d=>if ver=ver' then (match gh d p with
      | some x=>.ret ⟨.c (.kptr o ver p n.toNat),[],some (aa n x.len)⟩
      | none=>.fail) else .fail
     | _=>.fail
    | .pre o len=>.h o fun ob=>iQ ob (.ret ⟨.c (.ptr o n.toNat),[],some (aa n len)⟩)
    | .sub o off len=>.h o fun ob=>iQ ob (.ret ⟨.c (.ptr o (off+n.toNat)),[],some (aa n len)⟩)
    | .row o ver i=>.h o fun
     | .rows ver' _ _ _ l=>if ver=ver' then .ret ⟨.c (.rptr o ver i n.toNat),[],some (aa n (l.getD i []).length)⟩ else .fail
     | _=>.fail
    | .ro d=>match d with
     | .ints k l=>.ret ⟨.c (.rop (.ints k l) n.toNat),[],some (aa n l.length)⟩
     | .bools l=>.ret ⟨.c (.rop (.bools l) n.toNat),[],some (aa n l.length)⟩
     | .rows k l=>.ret ⟨.c (.rop (.rows k l) n.toNat),[],some (aa n l.length)⟩
     | .r3 k l=>.ret ⟨.c (.rop (.r3 k l) n.toNat),[],some (aa n l.length)⟩
     | .r4 k l=>.ret ⟨.c (.rop (.r4 k l) n.toNat),[],some (aa n l.length)⟩
     | _=>.fail
    | _=>.fail
   | _=>.fail
  else .fail
def ra (cx:SC):Rd Eff :=
 match cx with
 | .nil=>aA (.int .i64 0)
 | .str l=>aA (.int .i64 (l.length:Int))
 | .own o=>.h o fun ob=>match ob with
  | .box _=>.fail
  | .bx _=>.fail
  | .strs _ l=>aA (.int .i64 (l.length:Int))
  | .ints _ _ l=>aA (.int .i64 (l.length:Int))
  | .bools _ l=>aA (.int .i64 (l.length:Int))
  | .rows _ _ _ _ l=>aA (.int .i64 (l.length:Int))
  | .lst _ _ d=>aA (.int .i64 (d.len:Int))
  | .frz _=>.fail
  | .mp _=>.fail
  | .qu _ _ l=>aA (.int .i64 (l.length:Int))
  | .rowsH _ _ _ _ l _=>aA (.int .i64 (l.length:Int))
  | .tr _ _ d=>aA (.int .i64 (d.len:Int))
  | .yd _ _ _ _=>.fail
 | .kid o ver p=>.h o fun
  | .tr ver' _ d=>if ver=ver' then (match gh d p with
   | some x=>aA (.int .i64 (x.len:Int))
   | none=>.fail) else .fail
  | _=>.fail
 | .pre o n=>.h o fun ob=>iQ ob (aA (.int .i64 (n:Int)))
 | .sub o _ n=>.h o fun ob=>iQ ob (aA (.int .i64 (n:Int)))
 | .row o ver i=>.h o fun
  | .rows ver' _ _ _ l=>if ver=ver' then aA (.int .i64 ((l.getD i []).length:Int)) else .fail
  | _=>.fail
 | .ro d=>match d with
  | .ints _ l=>aA (.int .i64 (l.length:Int))
  | .bools l=>aA (.int .i64 (l.length:Int))
  | .rows _ l=>aA (.int .i64 (l.length:Int))
  | .r3 _ l=>aA (.int .i64 (l.length:Int))
  | .r4 _ l=>aA (.int .i64 (l.length:Int))
  | _=>.fail
 | _=>.fail
def jq {α:Type} (x:Option Operand) (k:Option Int→Rd α):Rd α :=
 match x with
 | none=>k none
 | some y=>b6 y fun
  | .int _ n=>k (some n)
  | _=>.fail
def aw (L:Nat):Option Int→Option Int→Prop
 | none,none=>True
 | none,some h=>0≤h∧h≤(L:Int)
 | some l,none=>0≤l∧l≤(L:Int)
 | some l,some h=>0≤l∧l≤h∧h≤(L:Int)
def cX {α:Type} (r:List α):Option Int→Option Int→List α
 | none,none=>r
 | none,some h=>r.take h.toNat
 | some l,none=>r.drop l.toNat
 | some l,some h=>(r.take h.toNat).drop l.toNat
def jr (o L:Nat):Option Int→Option Int→SC
 | none,none=>.pre o L
 | none,some h=>.pre o h.toNat
 | some l,none=>.sub o l.toNat (L - l.toNat)
 | some l,some h=>.sub o l.toNat (h.toNat - l.toNat)
def EW (o off L:Nat):Option Int→Option Int→SC
 | none,none=>.sub o off L
 | none,some h=>.sub o off h.toNat
 | some l,none=>.sub o (off+l.toNat) (L - l.toNat)
 | some l,some h=>.sub o (off+l.toNat) (h.toNat - l.toNat)
def nB (P:Program) (t:TypeId) (cx:SC) (lo hi:Option Operand):Rd Eff :=
 match cx with
 | .str r=>match P.underlying t with
  | some .string=>jq lo fun l=>jq hi fun h=>.ret ⟨.c (.str (cX r l h)),[],some (aw r.length l h)⟩
  | _=>.fail
 | cx=>match bP P t with
  | none=>.fail
  | some e=>if cP P e=some 1 then
    jq lo fun l=>jq hi fun h=>match cx with
     | .own o=>.h o fun
      | .box _=>.fail
      | .bx _=>.fail
      | .strs _ _=>.fail
      | .ints _ _ r=>.ret ⟨.c (jr o r.length l h),[],some (aw r.length l h)⟩
      | .bools _ r=>.ret ⟨.c (jr o r.length l h),[],some (aw r.length l h)⟩
      | .rows _ _ _ _ r=>.ret ⟨.c (jr o r.length l h),[],some (aw r.length l h)⟩
      | .lst _ _ d=>.ret ⟨.c (jr o d.len l h),[],some (aw d.len l h)⟩
      | .frz _=>.fail
      | .mp _=>.fail
      | .qu _ _ _=>.fail
      | .rowsH _ _ _ _ _ _=>.fail
      | .tr _ _ _=>.fail
      | .yd _ _ _ _=>.fail
     | .pre o L=>.h o fun ob=>iQ ob (.ret ⟨.c (jr o L l h),[],some (aw L l h)⟩)
     | .sub o off L=>.h o fun ob=>iQ ob (.ret ⟨.c (EW o off L l h),[],some (aw L l h)⟩)
     | .ro d=>match d with
      | .ints k r=>.ret ⟨.c (.ro (.ints k (cX r l h))),[],some (aw r.length l h)⟩
      | .bools r=>.ret ⟨.c (.ro (.bools (cX r l h))),[],some (aw r.length l h)⟩
      | .rows k r=>.ret ⟨.c (.ro (.rows k (cX r l h))),[],some (aw r.length l h)⟩
      | .r3 k r=>.ret ⟨.c (.ro (.r3 k (cX r l h))),[],some (aw r.length l h)⟩
      | .r4 k r=>.ret ⟨.c (.ro (.r4 k (cX r l h))),[],some (aw r.length l h)⟩
      | _=>.fail
     | _=>.fail
   else .fail
def re (P:Program) (d:Nat) (t:TypeId) (cx:SC) (lo hi:Option Operand):Rd Eff :=
 match cx with
 | .own o=>.h o fun
  | .qu e k l=>match bP P t,hi with
   | some e',none=>if cP P e'=some 1 then
     jq lo fun
      | some n=>.abs d (.ret ⟨.c (.own d),[(d,some (.qu e k (l.drop n.toNat))),(o,none)],some (0≤n∧n≤(l.length:Int))⟩)
      | none=>.fail
    else .fail
   | _,_=>.fail
  | _=>nB P t (.own o) lo hi
 | cx=>nB P t cx lo hi
def rh (h:Int):Ob→Option (Nat×Ob)
 | .ints e k r=>some (r.length,.ints e k (r.take h.toNat))
 | .lst _ e d=>match d with
  | .rows k r=>some (r.length,.lst 0 e (.rows k (r.take h.toNat)))
  | _=>none
 | _=>none
def xQ (P:Program) (d:Nat) (t:TypeId) (cx:SC) (lo hi:Option Operand):Rd Eff :=
 match cx,lo with
 | .own o,none=>.h o fun ob=>match bP P t with
  | some e=>if cP P e=some 1 then jq hi fun
    | some n=>match rh n ob with
     | some (L,ob')=>.abs d (.ret ⟨.c (.own d),[(d,some ob'),(o,none)],some (0≤n∧n≤(L:Int))⟩)
     | none=>.fail
    | none=>.fail
   else .fail
  | none=>.fail
 | _,_=>.fail
def eH (P:Program) (e:TypeId):Bool :=
 match P.info? e with
 | some i=>Nat.ble i.bytes 128&&Nat.beq i.size 1&&(match i.zero with | some z=>Nat.beq z.cells.size 1 | none=>false)
 | none=>false
def iS (P:Program) (e:TypeId) (c:SC):Bool :=
 match P.info? e with
 | some i=>match i.zero with
  | some (.int k n)=>match c with
   | .int k' n'=>decide (k=k'∧n=n')
   | _=>false
  | some (.bool b)=>match c with
   | .bool b'=>b == b'
   | _=>false
  | some (.slice none 0 0)=>match c with
   | .nil=>true
   | _=>false
  | _=>false
 | none=>false
def xR (P:Program) (d:Nat) (t:TypeId) (cl cc:SC):Rd Eff :=
 match bP P t with
 | none=>.fail
 | some e=>if eH P e then
   match cl,cc with
   | .int _ n,.int _ m=>match P.underlying e with
    | some (.int k)=>if iS P e (.int k 0) then .abs d (.ret ⟨.c (.own d),[(d,some (.ints e k (List.replicate n.toNat 0)))],some (0≤n∧n≤m∧ag m.toNat)⟩) else .fail
    | some .bool=>if iS P e (.bool false) then .abs d (.ret ⟨.c (.own d),[(d,some (.bools e (List.replicate n.toNat false)))],some (0≤n∧n≤m∧ag m.toNat)⟩) else .fail
    | some (.slice ei)=>match iR P ei with
     | some k=>if iS P e .nil then .abs d (.ret ⟨.c (.own d),[(d,some (.rows 0 e ei k (List.replicate n.toNat [])))],some (0≤n∧n≤m∧ag m.toNat)⟩) else .fail
     | none=>match fO P t with
      | some d0=>match xE d0 n.toNat,qV P 4 t with
       | some dd,e1::e2::es=>if iS P e .nil=true∧e1=e∧d0.dep=es.length+1 then .abs d (.ret ⟨.c (.own d),[(d,some (.tr 0 (e1::e2::es) dd))],some (0≤n∧n≤m∧ag m.toNat)⟩) else .fail
       | _,_=>.fail
      | none=>.fail
    | _=>.fail
   | _,_=>.fail
  else .fail
def nC (k:IntKind) (c:SC) (K:List Int→Rd Eff):Rd Eff :=
 match c with
 | .nil=>K []
 | .own o=>.h o fun
  | .ints _ k' l=>if k'=k then K l else .fail
  | _=>.fail
 | .pre o n=>.h o fun
  | .ints _ k' l=>if k'=k then K (l.take n) else .fail
  | _=>.fail
 | .sub o off n=>.h o fun
  | .ints _ k' l=>if k'=k then K ((l.drop off).take n) else .fail
  | _=>.fail
 | .row o ver i=>.h o fun
  | .rows ver' _ _ k' l=>if k'=k∧ver=ver' then K (l.getD i []) else .fail
  | _=>.fail
 | .ro d=>match d with
  | .ints k' l=>if k'=k then K l else .fail
  | _=>.fail
 | _=>.fail
def rk (c:SC) (K:List Bool→Rd Eff):Rd Eff :=
 match c with
 | .nil=>K []
 | .own o=>.h o fun
  | .bools _ l=>K l
  | _=>.fail
 | .ro d=>match d with
  | .bools l=>K l
  | _=>.fail
 | _=>.fail
def xS (c:SC) (K:List (List UInt8)→Rd Eff):Rd Eff :=
 match c with
 | .own o=>.h o fun
  | .strs _ l=>K l
  | _=>.fail
 | _=>.fail
def xT (c:SC) (K:FC→List (Nat×Option Ob)→Rd Eff):Rd Eff :=
 match c with
 | .ro d=>K d []
 | .own o=>.h o fun
  | .lst _ _ d=>K d []
  | .rows _ _ _ k l=>K (.rows k l) [(o,some (.frz (.rows k l)))]
  | _=>.fail
 | .pre o n=>.h o fun
  | .lst _ _ d=>match bJ 0 n d with
   | some d'=>K d' []
   | none=>.fail
  | _=>.fail
 | .sub o off n=>.h o fun
  | .lst _ _ d=>match bJ off n d with
   | some d'=>K d' []
   | none=>.fail
  | _=>.fail
 | _=>.fail
def l8 (o:Nat):List (Nat×Option Ob)→Bool
 | []=>true
 | (o',_)::l=>!(Nat.beq o' o)&&l8 o l
def l9 (d:Nat) (e:TypeId) (cx cy:SC):Rd Eff :=
 xT cy fun dy fy=>match cx with
  | .nil=>if cL dy=false then .abs d (.ret ⟨.c (.own d),(d,some (.lst 0 e dy))::fy,some (ag dy.len)⟩) else .fail
  | .own o=>.h o fun
   | .lst _ e1 dx=>match g9 dx dy with
    | some dd=>if e1=e∧l8 o fy=true then .abs d (.ret ⟨.c (.own d),(d,some (.lst 0 e dd))::(o,none)::fy,some (ag (dx.len+dy.len))⟩) else .fail
    | none=>.fail
   | .rows _ e1 _ k l=>match g9 (.rows k l) dy with
    | some dd=>if e1=e∧l8 o fy=true then .abs d (.ret ⟨.c (.own d),(d,some (.lst 0 e dd))::(o,none)::fy,some (ag (l.length+dy.len))⟩) else .fail
    | none=>.fail
   | _=>.fail
  | .pre o n=>.h o fun
   | .lst _ e1 dx=>match bJ 0 n dx with
    | some dx'=>match g9 dx' dy with
     | some dd=>if e1=e∧l8 o fy=true then .abs d (.ret ⟨.c (.own d),(d,some (.lst 0 e dd))::(o,none)::fy,some (ag (n+dy.len))⟩) else .fail
     | none=>.fail
    | none=>.fail
   | _=>.fail
  | _=>.fail
def xU (d:Nat) (e:TypeId) (cx:SC) (o2:Nat) (es2:List TypeId) (dy:FC):Rd Eff :=
 match cx with
 | .own o=>.h o fun
  | .tr _ es dx=>match g9 dx dy with
   | some dd=>if fL es es2=true∧es.head?=some e∧o≠o2 then .abs d (.ret ⟨.c (.own d),[(d,some (.tr 0 es dd)),(o,none),(o2,none)],some (ag (dx.len+dy.len))⟩) else .fail
   | none=>.fail
  | _=>.fail
 | _=>.fail
def dP (id o ver:Nat) (e ei:TypeId) (k:IntKind) (l:List (List Int)) (hs:List Nat) (i:Nat):List (Nat×Option Ob) :=
 [(id,some (.ints ei k (l.getD i []))),(o,some (.rowsH ver e ei k l hs))]
def xV (P:Program) (d:Nat) (t:TypeId) (cx cy:SC):Rd Eff :=
 match bP P t with
 | none=>.fail
 | some e=>if eH P e then
   match P.underlying e with
   | some (.int k)=>nC k cy fun ys=>match cx with
    | .nil=>.abs d (.ret ⟨.c (.own d),[(d,some (.ints e k ys))],some (ag ys.length)⟩)
    | .emp=>.abs d (.ret ⟨.c (.own d),[(d,some (.ints e k ys))],some (ys.length≠0∧ag ys.length)⟩)
    | .own o=>.h o fun
     | .ints e' k' l=>if e'=e∧k'=k then .abs d (.ret ⟨.c (.own d),[(d,some (.ints e k (l++ys))),(o,none)],some (ag (l.length+ys.length))⟩) else .fail
     | .qu e' k' l=>if e'=e∧k'=k then .abs d (.ret ⟨.c (.own d),[(d,some (.qu e k (l++ys))),(o,none)],some (ys.length≠0∧ag (l.length+ys.length))⟩) else .fail
     | _=>.fail
    | .pre o n=>.h o fun
     | .ints e' k' l=>if e'=e∧k'=k then .abs d (.ret ⟨.c (.own d),[(d,some (.ints e k (l.take n++ys))),(o,none)],some (ag (n+ys.length))⟩) else .fail
     | _=>.fail
    | .row o ver i=>.h o fun
     | .rows ver' e1 ei k' l=>if ver'=ver∧ei=e∧k'=k then .abs d (.abs (d+500000) (.ret ⟨.c (.own d),[(d,some (.ints e k (l.getD i []++ys))),(d+500000,none)]++dP (d+500000) o (ver+1) e1 ei k l [i] i,some (ag ((l.getD i []).length+ys.length))⟩)) else .fail
     | _=>.fail
    | _=>.fail
   | some .bool=>rk cy fun ys=>match cx with
    | .nil=>.abs d (.ret ⟨.c (.own d),[(d,some (.bools e ys))],some (ag ys.length)⟩)
    | .own o=>.h o fun
     | .bools e' l=>if e'=e then .abs d (.ret ⟨.c (.own d),[(d,some (.bools e (l++ys))),(o,none)],some (ag (l.length+ys.length))⟩) else .fail
     | _=>.fail
    | _=>.fail
   | some .string=>xS cy fun ys=>match cx with
    | .own o=>.h o fun
     | .strs e' l=>if e'=e then .abs d (.ret ⟨.c (.own d),[(d,some (.strs e (l++ys))),(o,none)],some (ag (l.length+ys.length))⟩) else .fail
     | _=>.fail
    | _=>.fail
   | some (.slice _)=>match cy with
    | .own o2=>.h o2 fun
     | .rows _ e2 ei2 k2 ys=>if e2=e then
       match cx with
       | .nil=>.abs d (.ret ⟨.c (.own d),[(d,some (.rows 0 e ei2 k2 ys)),(o2,none)],some (ag ys.length)⟩)
       | .own o=>.h o fun
        | .rows _ e1 ei1 k1 l=>if e1=e∧ei1=ei2∧k1=k2∧o≠o2 then
          .abs d (.ret ⟨.c (.own d),[(d,some (.rows 0 e ei2 k2 (l++ys))),(o,none),(o2,none)],some (ag (l.length+ys.length))⟩) else .fail
        | _=>l9 d e cx cy
       | _=>l9 d e cx cy
      else .fail
     | .tr _ es2 dy=>xU d e cx o2 es2 dy
     | _=>l9 d e cx cy
    | _=>l9 d e cx cy
   | _=>.fail
  else .fail
def xW (P:Program) (d:Nat) (t:TypeId) (cx cy:SC):Rd Eff :=
 match bP P t with
 | none=>.fail
 | some e=>if eH P e then
   match P.underlying e with
   | some (.int k)=>if iS P e (.int k 0) then
     match cy with
     | .int _ m=>match cx with
      | .own o=>.h o fun
       | .ints e' k' l=>if e'=e∧k'=k then .abs d (.ret ⟨.c (.own d),[(d,some (.ints e k (l++List.replicate m.toNat 0))),(o,none)],some (0≤m∧ag (l.length+m.toNat))⟩) else .fail
       | _=>.fail
      | _=>.fail
     | _=>.fail
    else .fail
   | _=>.fail
  else .fail
def xX (sv:SV) (i:Nat):Rd Eff :=
 match sv with
 | .tup l=>match l[i]? with
  | some (.inl c)=>aA c
  | some (.inr cs)=>.ret ⟨.agg cs,[],none⟩
  | none=>.fail
 | _=>.fail
def xY (P:Program) (t:TypeId) (cx ci:SC):Rd Eff :=
 match cx,ci with
 | .str l,.int _ n=>match P.underlying t with
  | some .string=>.ret ⟨.c (.int .u8 ((l.getD n.toNat 0).toNat:Int)),[],some (aa n l.length)⟩
  | _=>.fail
 | _,_=>.fail
def bS (o:Nat):List Nat→Bool
 | []=>true
 | x::l=>match Nat.beq x o with
  | true=>false
  | false=>bS o l
def js (i j:Nat):List (Nat×Nat)→Bool
 | []=>false
 | (a,b)::l=>(Nat.beq a i&&Nat.beq b j)||js i j l
def dA {α:Type} (hid:List Nat) (o:Nat) (K:Ob→Rd α):Rd α :=
 match bS o hid with
 | true=>.h o K
 | false=>.fail
def iT {α:Type} (hid:List Nat) (nl:Option FC) (c:SC) (K:FC→Rd α):Rd α :=
 match c with
 | .int k n=>K (.int k n)
 | .bool b=>K (.bool b)
 | .str l=>K (.str l)
 | .nil=>match nl with
  | some d=>K d
  | none=>.fail
 | .own o=>dA hid o fun ob=>match ob with
  | .frz d=>K d
  | ob=>match eg ob with
   | some d=>K d
   | none=>.fail
 | .pre o n=>dA hid o fun ob=>match eg ob with
  | some d=>match bJ 0 n d with
   | some d=>K d
   | none=>.fail
  | none=>.fail
 | .sub o off n=>dA hid o fun ob=>match eg ob with
  | some d=>match bJ off n d with
   | some d=>K d
   | none=>.fail
  | none=>.fail
 | .row o ver i=>dA hid o fun
  | .rows ver' _ _ k l=>if ver=ver' then K (.ints k (l.getD i [])) else .fail
  | _=>.fail
 | .kid o ver p=>dA hid o fun
  | .tr ver' _ d=>if ver=ver' then (match gh d p with
   | some x=>K x
   | none=>.fail) else .fail
  | _=>.fail
 | .ro d=>K d
 | .orig _ _ d=>K d
 | .bsl o _=>dA hid o fun
  | .box cs=>match qZ cs with
   | some ls=>K (.rows .i64 ls)
   | none=>.fail
  | _=>.fail
 | _=>.fail
def xZ {α:Type} (c:SC) (K:FC→Rd α):Rd α :=
 match c with
 | .own o=>.h o fun ob=>match eg ob with
  | some d=>K d
  | none=>.fail
 | _=>.fail
def mc {α:Type} (hid:List Nat) (mt:List (Nat×Nat)) (i j:Nat) (nl:Option FC) (c:SC) (K:FC→Rd α):Rd α :=
 match js i j mt with
 | true=>xZ c K
 | false=>iT hid nl c K
def nD (P:Program) (t:TypeId):List TypeId :=
 match P.underlying t with
 | some (.struct fs)=>fs.toList.flatMap fun f=>match P.underlying f.type with
  | some (.struct gs)=>gs.toList.map (·.type)
  | _=>[f.type]
 | _=>[t]
def EX (P:Program):List TypeId→Option FC
 | t::_=>fO P t
 | []=>none
def ic {α:Type} (P:Program) (hid:List Nat) (mt:List (Nat×Nat)) (i:Nat):Nat→List SC→List TypeId→(List FC→Rd α)→Rd α
 | _,[],_,K=>K []
 | j,c::cs,ts,K=>mc hid mt i j (EX P ts) c fun d=>ic P hid mt i (j+1) cs ts.tail fun ds=>K (d::ds)
def ya (P:Program) (t:TypeId):TypeId :=
 match P.underlying t with
 | some (.pointer e)=>e
 | _=>t
def nE (ct:Option Post):Bool:=match ct with
 | some ⟨_,.c (.bool b),[]⟩=>b
 | _=>false
def md (ct:Option Post):Prop:=match ct with
 | some ⟨p,.c (.bool _),[]⟩=>p
 | _=>False
def kv (ct:Option Post):Int:=match ct with
 | some ⟨_,.c (.int .i64 n),[]⟩=>n
 | _=>0
def kw (ct:Option Post):Prop:=match ct with
 | some ⟨p,.c (.int .i64 _),[]⟩=>p
 | _=>False
def EY (P:Program) (t:TypeId):Nat :=
 match P.underlying t with
 | some (.int .i64)=>1
 | some (.slice _)=>2
 | some .bool=>3
 | _=>0
def yb (ps rs:List Nat) (ct:List AD→Option Post) (cds:List AD):Option FV :=
 match ps,rs with
 | [1],[3]=>some (.ib (fun x=>md (ct (.c (.int .i64 x)::cds))) (fun x=>nE (ct (.c (.int .i64 x)::cds))))
 | [2],[3]=>some (.lb (fun x=>md (ct (.c (.ints .i64 x)::cds))) (fun x=>nE (ct (.c (.ints .i64 x)::cds))))
 | [1,1],[1]=>some (.iii (fun x y=>kw (ct (.c (.int .i64 x)::.c (.int .i64 y)::cds))) (fun x y=>kv (ct (.c (.int .i64 x)::.c (.int .i64 y)::cds))))
 | [1,1],[3]=>some (.iib (fun x y=>md (ct (.c (.int .i64 x)::.c (.int .i64 y)::cds))) (fun x y=>nE (ct (.c (.int .i64 x)::.c (.int .i64 y)::cds))))
 | [2,2],[1]=>some (.lli (fun x y=>kw (ct (.c (.ints .i64 x)::.c (.ints .i64 y)::cds))) (fun x y=>kv (ct (.c (.ints .i64 x)::.c (.ints .i64 y)::cds))))
 | [2,2],[3]=>some (.llb (fun x y=>md (ct (.c (.ints .i64 x)::.c (.ints .i64 y)::cds))) (fun x y=>nE (ct (.c (.ints .i64 x)::.c (.ints .i64 y)::cds))))
 | [1],[1]=>some (.ii (fun x=>kw (ct (.c (.int .i64 x)::cds))) (fun x=>kv (ct (.c (.int .i64 x)::cds))))
 | _,_=>none
def yc:List SC→Option Nat
 | [.ptr o 0]=>some o
 | _=>none
def gJ {α:Type} (P:Program) (hid:List Nat):List SC→(List AD→Rd α)→Rd α
 | [],K=>K []
 | c::cs,K=>match c with
  | .ptr o 0=>dA hid o fun
   | .box xs=>match yc xs with
    | some o2=>dA hid o2 fun
     | .box ys=>ic P hid [] 0 0 ys [] fun ds=>gJ P hid cs fun r=>K (.bb ds::r)
     | _=>.fail
    | none=>ic P hid [] 0 0 xs [] fun ds=>gJ P hid cs fun r=>K (.box ds::r)
   | _=>.fail
  | c=>iT hid none c fun d=>gJ P hid cs fun r=>K (.c d::r)
def me {α:Type} (P:Program) (Γ:FuncId→Option Ctr) (hid:List Nat) (mt:List (Nat×Nat)) (i:Nat) (t:TypeId) (sv:SV) (K:AD→Rd α):Rd α :=
 match sv with
 | .c c=>match c with
  | .ptr o x=>match x with
   | 0=>dA hid o fun
    | .box xs=>ic P hid [] 0 0 xs (nD P (ya P t)) fun ds=>K (.box ds)
    | _=>.fail
   | _+1=>.fail
  | .rob cs x=>match x with
   | 0=>K (.box cs)
   | _+1=>.fail
  | c=>mc hid mt i 0 (fO P t) c fun d=>K (.c d)
 | .agg cs=>ic P hid mt i 0 cs (nD P t) fun ds=>K (.agg ds)
 | .fv F=>K (.fv F)
 | .fn f caps=>match P.underlying t with
  | some (.func ps rs _)=>match Γ f with
    | none=>.fail
    | some ⟨[],ct⟩=>gJ P hid caps fun cds=>match yb (ps.toList.map (EY P)) (rs.toList.map (EY P)) ct cds with
     | some F=>K (.fv F)
     | none=>.fail
    | some ⟨_::_,_⟩=>.fail
  | _=>.fail
 | .fvs _ _=>.fail
 | .tup _=>.fail
def fk {α:Type} (P:Program) (Γ:FuncId→Option Ctr) (hid:List Nat) (mt:List (Nat×Nat)):Nat→List SV→List TypeId→(List AD→Rd α)→Rd α
 | _,[],_,K=>K []
 | i,sv::svs,ts,K=>me P Γ hid mt i (ts.headD 0) sv fun ad=>fk P Γ hid mt (i+1) svs ts.tail fun ads=>K (ad::ads)
def gn:RC→Option Ob
 | .ints e k l=>some (.ints e k l)
 | .bools e l=>some (.bools e l)
 | .rows e ei k l=>some (.rows 0 e ei k l)
 | .bx cs=>some (.box (cs.map cI))
 | .strs e l=>some (.strs e l)
 | .cut _ _ e ei k l=>some (.rows 0 e ei k l)
 | .lst e d=>some (.lst 0 e d)
 | .tr es d=>some (.tr 0 es d)
 | _=>none
def jt (id:Nat):RC→SC
 | .int k n=>.int k n
 | .bool b=>.bool b
 | .str l=>.str l
 | .ints _ _ _=>.own id
 | .bools _ _=>.own id
 | .rows _ _ _ _=>.own id
 | .nilq b=>.nilq b
 | .ro d=>.ro d
 | .bx _=>.ptr id 0
 | .strs _ _=>.own id
 | .cut off n _ _ _ _=>.sub id off n
 | .lst _ _=>.own id
 | .gone _=>.any
 | .tr _ _=>.own id
def mf:Nat→List RC→List (Nat×RC)
 | _,[]=>[]
 | j,x::l=>(j,x)::mf (j+1) l
def kz:Nat→List (RC ⊕ List RC)→List (Nat×RC)
 | _,[]=>[]
 | i,.inl x::l=>(16 * i,x)::kz (i+1) l
 | i,.inr xs::l=>mf (16 * i) xs++kz (i+1) l
def bY:RV→List (Nat×RC)
 | .c x=>[(0,x)]
 | .agg l=>mf 0 l
 | .tup l=>kz 0 l
 | .st _ _ _=>[]
def gK (d:Nat):Nat→List RC→List SC
 | _,[]=>[]
 | j,x::l=>jt (d+1000 * j) x::gK d (j+1) l
def iU (d:Nat):Nat→List (RC ⊕ List RC)→List (SC ⊕ List SC)
 | _,[]=>[]
 | i,.inl x::l=>.inl (jt (d+1000 * (16 * i)) x)::iU d (i+1) l
 | i,.inr xs::l=>.inr (gK d (16 * i) xs)::iU d (i+1) l
def ie (d:Nat):RV→SV
 | .c x=>.c (jt (d+1000 * 0) x)
 | .agg l=>.agg (gK d 0 l)
 | .tup l=>.tup (iU d 0 l)
 | .st _ _ _=>.c .any
def nF:List FC→Bool
 | []=>true
 | d::l=>cL d&&nF l
def rm:RC→Bool
 | .ro _=>true
 | .lst _ _=>true
 | .bx cs=>!nF cs
 | _=>false
def rn:List (Nat×RC)→Bool
 | []=>false
 | (_,rc)::l=>rm rc||rn l
def ig (rv:RV):Bool:=rn (bY rv)
def rp:SC→Option FC
 | .int k n=>some (.int k n)
 | .bool b=>some (.bool b)
 | .str l=>some (.str l)
 | .ro d=>some d
 | _=>none
def mg:SV→Option AD
 | .c c=>match rp c with
  | some d=>some (.c d)
  | none=>none
 | .agg l=>match dz rp l with
  | some ds=>some (.agg ds)
  | none=>none
 | _=>none
def ye (c:Option Ctr) (svs:List SV):Option (List AD×Prop×RV) :=
 match c with
 | some ⟨[],ct⟩=>match dz mg svs with
  | some ads=>match ct ads with
   | some ⟨pre,ret,[]⟩=>match ig ret with
    | true=>some (ads,pre,ret)
    | false=>none
   | _=>none
  | none=>none
 | _=>none
def cA (d:Nat):List (Nat×RC)→List (Nat×Option Ob)
 | []=>[]
 | (i,rc)::l=>match gn rc with
  | some ob=>(d+1000 * i,some ob)::cA d l
  | none=>cA d l
def il {α:Type} (ids:List (Nat×Option Ob)) (k:Rd α):Rd α :=
 match ids with
 | []=>k
 | (i,_)::l=>.abs i (il l k)
def em:List Nat→Bool
 | []=>true
 | i::l=>bS i l&&em l
def mh (svs:List SV):List (Nat×Nat)→Option (List Nat)
 | []=>some []
 | (i,j)::l=>match svs[i]? with
  | some sv=>match hZ sv with
   | some cs=>match cs[j]? with
    | some (.own o)=>match mh svs l with
     | some os=>some (o::os)
     | none=>none
    | _=>none
   | none=>none
  | none=>none
def d4:List FC→List FC→Option Prop
 | [],[]=>some True
 | .int k _::l,.int k' _::l'=>if k=k' then d4 l l' else none
 | .bool _::l,.bool _::l'=>d4 l l'
 | .str _::l,.str _::l'=>d4 l l'
 | .ints k a::l,.ints k' a'::l'=>if k=k' then (match d4 l l' with | some p=>some (a=a'∧p) | none=>none) else none
 | .bools a::l,.bools a'::l'=>(match d4 l l' with | some p=>some (a=a'∧p) | none=>none)
 | .rows k a::l,.rows k' a'::l'=>if k=k' then (match d4 l l' with | some p=>some (a=a'∧p) | none=>none) else none
 | .r3 k a::l,.r3 k' a'::l'=>if k=k' then (match d4 l l' with | some p=>some (a=a'∧p) | none=>none) else none
 | .r4 k a::l,.r4 k' a'::l'=>if k=k' then (match d4 l l' with | some p=>some (a=a'∧p) | none=>none) else none
 | _,_=>none
def fl:List SC→List FC→List SC
 | c::cs,d::ds=>(if cL d then cI d else c)::fl cs ds
 | _,_=>[]
def bK:Ob→RC→Option (Ob×Prop)
 | .ints e k r,.ints e' k' r'=>if e=e'∧k=k' then some (.ints e k r',r'.length=r.length) else none
 | .bools e r,.bools e' r'=>if e=e' then some (.bools e r',r'.length=r.length) else none
 | .rows ver e ei k r,.rows e' ei' k' r'=>if e=e'∧ei=ei'∧k=k' then some (.rows ver e ei k r',r'.map List.length=r.map List.length) else none
 | .bx cs,.bx cs'=>match d4 cs cs' with
  | some p=>some (.bx cs',p)
  | none=>none
 | .tr ver es r,.tr es' r'=>match fL es es' with
  | true=>some (.tr ver es r',r'.len=r.len)
  | false=>none
 | .lst ver e d,.gone (.lst e' _)=>if e=e' then some (.lst ver e d,True) else none
 | .ints e k l,.gone (.ints e' k' _)=>if e=e'∧k=k' then some (.ints e k l,True) else none
 | .rows ver e ei k l,.gone (.rows e' ei' k' _)=>if e=e'∧ei=ei'∧k=k' then some (.rows ver e ei k l,True) else none
 | _,_=>none
def mi (rc:RC) (ob:Ob):Option Ob:=match rc.isGone with
 | true=>none
 | false=>some ob
def kA {α:Type}:List Nat→List RC→(List (Nat×Option Ob)→Prop→Rd α)→Rd α
 | [],[],K=>K [] True
 | o::os,rc::rcs,K=>.h o fun ob=>match bK ob rc with
  | some (ob',p)=>kA os rcs fun ups q=>K ((o,mi rc ob')::ups) (p∧q)
  | none=>.fail
 | _,_,_=>.fail
def rq {α:Type} (hid:List Nat) (nl:Option FC) (c:SC) (K:FC→List (Nat×Option Ob)→Rd α):Rd α :=
 match c with
 | .int k n=>K (.int k n) []
 | .bool b=>K (.bool b) []
 | .str l=>K (.str l) []
 | .nil=>match nl with
  | some d=>K d []
  | none=>.fail
 | .ro d=>K d []
 | .own o=>dA hid o fun ob=>match eW ob with
  | some d=>K d [(o,some (.frz d))]
  | none=>.fail
 | .pre o n=>dA hid o fun ob=>match eW ob with
  | some d=>match bJ 0 n d with
   | some d'=>K d' [(o,some (.frz d))]
   | none=>.fail
  | none=>.fail
 | .sub o off n=>dA hid o fun ob=>match eW ob with
  | some d=>match bJ off n d with
   | some d'=>K d' [(o,some (.frz d))]
   | none=>.fail
  | none=>.fail
 | _=>.fail
def rt {α:Type} (P:Program) (hid:List Nat):List SC→List TypeId→(List FC→List (Nat×Option Ob)→Rd α)→Rd α
 | [],_,K=>K [] []
 | c::cs,ts,K=>rq hid (EX P ts) c fun d fs=>rt P hid cs ts.tail fun ds gs=>K (d::ds) (fs++gs)
def yf {α:Type} (P:Program) (hid:List Nat) (mt:List (Nat×Nat)) (i:Nat) (t:TypeId) (sv:SV) (K:AD→List (Nat×Option Ob)→Rd α):Rd α :=
 match sv with
 | .c c=>match js i 0 mt with
  | true=>xZ c fun d=>K (.c d) []
  | false=>rq hid (fO P t) c fun d fs=>K (.c d) fs
 | .agg cs=>rt P hid cs (nD P t) fun ds fs=>K (.agg ds) fs
 | .fv F=>K (.fv F) []
 | _=>.fail
def rx {α:Type} (P:Program) (hid:List Nat) (mt:List (Nat×Nat)):Nat→List SV→List TypeId→(List AD→List (Nat×Option Ob)→Rd α)→Rd α
 | _,[],_,K=>K [] []
 | i,sv::svs,ts,K=>yf P hid mt i (ts.headD 0) sv fun ad fs=>rx P hid mt (i+1) svs ts.tail fun ads gs=>K (ad::ads) (fs++gs)
def ry (svs:List SV):List (Nat×Nat)→Bool
 | []=>true
 | (i,j)::l=>(match svs[i]? with | some (.c _)=>Nat.beq j 0 | _=>false)&&ry svs l
def rz (P:Program) (d:Nat) (mt:List (Nat×Nat)) (ct:List AD→Option Post) (hid:List Nat) (svs:List SV) (ts:List TypeId):Rd Eff :=
 match ry svs mt with
 | false=>.fail
 | true=>rx P hid mt 0 svs ts fun ads fs=>match ct ads with
  | none=>.fail
  | some ⟨pre,ret,wrs⟩=>kA hid wrs fun ups p =>
   il (cA d (bY ret)) (.ret ⟨ie d ret,cA d (bY ret)++(ups++fs),some (pre∧p)⟩)
def fP (P:Program) (Γ:FuncId→Option Ctr) (d:Nat) (f:FuncId) (svs:List SV) (ts:List TypeId):Rd Eff :=
 match Γ f with
 | none=>.fail
 | some ⟨mt,ct⟩=>match mh svs mt with
  | none=>.fail
  | some hid=>match em hid with
   | false=>.fail
   | true=>fk P Γ hid mt 0 svs ts fun ads=>match ct ads with
    | none=>.fail
    | some ⟨pre,ret,wrs⟩=>match ig ret with
     | true=>rz P d mt ct hid svs ts
     | false=>kA hid wrs fun ups p =>
      il (cA d (bY ret)) (.ret ⟨ie d ret,cA d (bY ret)++ups,some (pre∧p)⟩)
def yg (d:Nat) (pre:Prop) (ret:RV):Rd Eff :=
 il (cA d (bY ret)) (.ret ⟨ie d ret,cA d (bY ret)++[],some (pre∧True)⟩)
def eI:RC→Option SC
 | .int k n=>some (.int k n)
 | .bool b=>some (.bool b)
 | _=>none
def rA (c:Option Ctr):Bool :=
 match c with
 | some ⟨[(0,0)],_⟩=>true
 | _=>false
def yh (P:Program) (Γ:FuncId→Option Ctr) (f:FuncId) (o ver i:Nat) (svs:List SV) (ts:List TypeId):Rd Eff :=
 match Γ f with
 | some ⟨[(0,0)],ct⟩=>.h o fun ob=>match ob with
  | .rows ver' e ei k l=>match Nat.beq ver' ver with
   | true=>fk P Γ [o] [(0,0)] 1 svs ts fun ads=>match ct (.c (.ints k (l.getD i []))::ads) with
    | some ⟨pre,.c rc,[.ints e' k' r]⟩=>match eI rc with
     | some c=>if ei=e'∧k=k' then .ret ⟨.c c,[(o,some (.rows ver' e ei k (l.set i r)))],some (pre∧r.length=(l.getD i []).length)⟩ else .fail
     | none=>.fail
    | _=>.fail
   | false=>.fail
  | _=>.fail
 | _=>.fail
def yi (P:Program) (Γ:FuncId→Option Ctr) (f:FuncId) (o ver:Nat) (p:List Nat) (svs:List SV) (ts:List TypeId):Rd Eff :=
 match Γ f with
 | some ⟨[(0,0)],ct⟩=>.h o fun ob=>match ob with
  | .tr ver' es d=>match Nat.beq ver' ver with
   | true=>match gh d p with
    | some x=>fk P Γ [o] [(0,0)] 1 svs ts fun ads=>match ct (.c x::ads) with
     | some ⟨pre,.c rc,[.tr es' x']⟩=>match eI rc with
      | some c=>match fL (es.drop p.length) es' with
       | true=>match jl d p x' with
        | some d'=>.ret ⟨.c c,[(o,some (.tr ver' es d'))],some (pre∧x'.len=x.len)⟩
        | none=>.fail
       | false=>.fail
      | none=>.fail
     | _=>.fail
    | none=>.fail
   | false=>.fail
  | _=>.fail
 | _=>.fail
def yj (P:Program) (Γ:FuncId→Option Ctr) (f:FuncId) (o off n:Nat) (svs:List SV) (ts:List TypeId):Rd Eff :=
 match Γ f with
 | some ⟨[(0,0)],ct⟩=>.h o fun ob=>match ob with
  | .rows ver e ei k l=>fk P Γ [o] [(0,0)] 1 svs ts fun ads=>match ct (.cut off n (.rows k l)::ads) with
   | some ⟨pre,.c rc,[.rows e' ei' k' l']⟩=>match eI rc with
    | some c=>if e=e'∧ei=ei'∧k=k' then .ret ⟨.c c,[(o,some (.rows ver e ei k l'))],some (pre∧l'.map List.length=l.map List.length)⟩ else .fail
    | none=>.fail
   | _=>.fail
  | _=>.fail
 | _=>.fail
def Mr (c:Option Ctr):Bool :=
 match c with
 | some ⟨[(1,0)],_⟩=>true
 | _=>false
def yk (P:Program) (Γ:FuncId→Option Ctr) (f:FuncId) (k0:IntKind) (n0:Int) (o ver i:Nat) (svs:List SV) (ts:List TypeId):Rd Eff :=
 match Γ f with
 | some ⟨[(1,0)],ct⟩=>.h o fun ob=>match ob with
  | .rows ver' e ei k l=>match Nat.beq ver' ver with
   | true=>fk P Γ [o] [(1,0)] 2 svs ts fun ads=>match ct (.c (.int k0 n0)::.c (.ints k (l.getD i []))::ads) with
    | some ⟨pre,rv,[.ints e' k' r]⟩=>match rv with
     | .tup []=>if ei=e'∧k=k' then .ret ⟨.tup [],[(o,some (.rows ver' e ei k (l.set i r)))],some (pre∧r.length=(l.getD i []).length)⟩ else .fail
     | _=>.fail
    | _=>.fail
   | false=>.fail
  | _=>.fail
 | _=>.fail
def yl:SC→Option FC
 | .int k n=>some (.int k n)
 | .bool b=>some (.bool b)
 | .str l=>some (.str l)
 | .ro d=>some d
 | .orig _ _ d=>some d
 | _=>none
def ym (P:Program) (Γ:FuncId→Option Ctr) (d:Nat) (f:FuncId) (o:Nat) (svs:List SV):Rd Eff :=
 match Γ f with
 | some ⟨[(0,0)],ct⟩=>.h o fun ob=>match ob with
  | .box xs=>match dz yl xs with
   | some fcs=>match dz mg svs with
    | some ads=>match ct (.box fcs::ads) with
     | some ⟨pre,ret,[.bx fcs']⟩=>match d4 fcs fcs' with
      | some q=>il (cA d (bY ret)) (.ret ⟨ie d ret,cA d (bY ret)++[(o,some (.box (fl xs fcs')))],some (pre∧q)⟩)
      | none=>.fail
     | _=>.fail
    | none=>.fail
   | none=>.fail
  | _=>.fail
 | _=>.fail
def yn (P:Program) (Γ:FuncId→Option Ctr) (d:Nat) (f:FuncId) (o:Nat) (svs:List SV) (ts:List TypeId):Rd Eff :=
 match Γ f with
 | some ⟨[(0,0)],ct⟩=>.h o fun ob=>match ob with
  | .box xs=>ic P [o] [] 0 0 xs (nD P (ya P (ts.headD 0))) fun fcs=>fk P Γ [o] [(0,0)] 1 svs ts.tail fun ads=>match ct (.box fcs::ads) with
   | some ⟨pre,ret,[.bx fcs']⟩=>match ig ret with
    | true=>ym P Γ d f o svs
    | false=>match d4 fcs fcs' with
     | some q=>il (cA d (bY ret)) (.ret ⟨ie d ret,cA d (bY ret)++[(o,some (.box (fl xs fcs')))],some (pre∧q)⟩)
     | none=>.fail
   | _=>.fail
  | _=>.fail
 | _=>.fail
def fm:Ob→Ob
 | .rows _ e ei k l=>.rows 0 e ei k l
 | .lst _ e d=>.lst 0 e d
 | .tr _ es d=>.tr 0 es d
 | .yd _ Y pre b=>.yd 0 Y pre b
 | ob=>ob
def nG:Ob→Bool
 | .ints _ _ _=>true
 | .bools _ _=>true
 | .rows _ _ _ _ _=>true
 | .lst _ _ _=>true
 | .tr _ _ _=>true
 | .yd _ _ _ _=>true
 | _=>false
def io (P:Program) (t:TypeId):Option Ob :=
 match bP P t with
 | none=>none
 | some e=>match P.underlying e with
  | some (.int k)=>some (.ints e k [])
  | some .bool=>some (.bools e [])
  | some (.slice ei)=>match iR P ei with
   | some k=>some (.lst 0 e (.rows k []))
   | none=>match fO P t with
    | some (.r3 k l)=>match l,qV P 4 t with
     | [],[a,b,c]=>some (.tr 0 [a,b,c] (.r3 k []))
     | _,_=>none
    | _=>none
  | _=>none
abbrev Tr:=List (Nat×Option Nat×Ob)
def rB {α:Type} (k:Nat) (nl:Option Ob) (c:SC) (K:MC→Tr→Rd α):Rd α :=
 match c with
 | .int k n=>K (.c (.int k n)) []
 | .bool b=>K (.c (.bool b)) []
 | .str l=>K (.c (.str l)) []
 | .ro d=>K (.c d) []
 | .orig _ _ d=>K (.c d) []
 | .own o=>.h o fun ob=>match ob with
  | .frz d=>K (.c d) []
  | ob=>match nG ob with
   | true=>K (.ob (fm ob)) [(k,some o,ob)]
   | false=>.fail
 | .nil=>match nl with
  | some ob=>K (.ob ob) [(k,none,ob)]
  | none=>.fail
 | _=>.fail
def EZ (P:Program):List TypeId→Option Ob
 | []=>none
 | t::_=>io P t
def rC {α:Type} (P:Program):Nat→List SC→List TypeId→(List MC→Tr→Rd α)→Rd α
 | _,[],_,K=>K [] []
 | k,c::cs,ts,K=>rB k (EZ P ts) c fun x os=>rC P (k+1) cs ts.tail fun l os'=>K (x::l) (os++os')
def yq {α:Type} (P:Program) (k:Nat) (t:TypeId) (sv:SV) (K:MA→Tr→Rd α):Rd α :=
 match sv with
 | .c c=>match c with
  | .ptr o i=>match i with
   | 0=>.h o fun ob=>match ob with
    | .box cs=>rC P (k+1) cs (nD P (ya P t)) fun l os=>K (.box l) ((k,some o,.box (eG (k+1) l))::os)
    | _=>.fail
   | _+1=>.fail
  | c=>rB k (io P t) c fun x os=>K (.m x) os
 | _=>.fail
def rD {α:Type} (P:Program):Nat→List SV→List TypeId→(List MA→Tr→Rd α)→Rd α
 | _,[],_,K=>K [] []
 | i,sv::svs,ts,K=>yq P (cz i) (ts.headD 0) sv fun x os=>rD P (i+1) svs ts.tail fun l os'=>K (x::l) (os++os')
def gp:Tr→List Nat
 | []=>[]
 | (_,some o,_)::l=>o::gp l
 | (_,none,_)::l=>gp l
def dI:Tr→Nat→Option (Option Nat×Ob)
 | [],_=>none
 | (k,x)::l,t=>match Nat.beq k t with
  | true=>some x
  | false=>dI l t
def dQ (d:Nat) (os:Tr) (k:Nat):Nat :=
 match dI os k with
 | some (some o,_)=>o
 | _=>d+1000 * k
def mj (f:Nat→Nat):SC→Option SC
 | .int k n=>some (.int k n)
 | .bool b=>some (.bool b)
 | .str l=>some (.str l)
 | .nil=>some .nil
 | .any=>some .any
 | .ro d=>some (.ro d)
 | .own k=>some (.own (f k))
 | .ptr k i=>some (.ptr (f k) i)
 | _=>none
def rE (f:Nat→Nat):SV→Option SV
 | .c c=>match mj f c with
  | some c'=>some (.c c')
  | none=>none
 | .fn g l=>match dz (mj f) l with
  | some l'=>some (.fn g l')
  | none=>none
 | .tup l=>match l with
  | []=>some (.tup [])
  | _=>none
 | _=>none
def gL (f:Nat→Nat) (ob:Ob):Option Ob :=
 match ob with
 | .box cs=>match dz (mj f) cs with
  | some cs'=>some (.box cs')
  | none=>none
 | ob=>match nG ob with
  | true=>some ob
  | false=>none
def nH:Ob→Ob→Bool
 | .box cs,.box cs'=>Nat.beq cs.length cs'.length
 | .yd _ _ _ _,.yd _ _ _ _=>true
 | _,_=>false
def eJ:Ob→Ob→Ob
 | .yd v _ _ _,.yd v' Y pre b=>.yd (v+v') Y pre b
 | _,ob=>ob
def nI (d:Nat) (os:Tr):List (Nat×Option Ob)→Option (List (Nat×Option Ob)×List (Nat×Option Ob))
 | []=>some ([],[])
 | (_,none)::_=>none
 | (k,some ob)::l=>match gL (dQ d os) ob with
  | none=>none
  | some ob'=>match nI d os l with
   | none=>none
   | some (kept,new)=>match dI os k with
    | some (some o,ob0)=>match nH ob0 ob with
     | true=>some ((o,some (eJ ob0 ob'))::kept,new)
     | false=>none
    | some (none,_)=>none
    | none=>some (kept,(d+1000 * k,some ob')::new)
def cF (hp:List (Nat×Option Ob)):Tr→List (Nat×Option Ob)
 | []=>[]
 | (k,some o,_)::l=>match lk hp k with
  | none=>(o,none)::cF hp l
  | some _=>cF hp l
 | (_,none,_)::l=>cF hp l
def yr (c:Option Ctr):Bool :=
 match c with
 | some ⟨[(0,93),(0,93)],_⟩=>true
 | _=>false
def yt (P:Program) (d:Nat) (c:Option Ctr) (svs:List SV) (ts:List TypeId):Rd Eff :=
 match c with
 | none=>.fail
 | some ⟨_,ct⟩=>rD P 0 svs ts fun mas os=>match ct (mas.map .ma) with
  | some ⟨pre,.st sv ex outs,[]⟩=>match em (os.map (·.1))&&em (gp os)&&em ((fM 0 outs++gk ex).map (·.1)) with
   | true=>match rE (dQ d os) sv,nI d os (fM 0 outs++gk ex) with
    | some sv',some (kept,new)=>il new (.ret ⟨sv',new++(kept++cF (fM 0 outs++gk ex) os),some pre⟩)
    | _,_=>.fail
   | false=>.fail
  | _=>.fail
def kB:Nat→List SC→Option (List SC×Nat×List SC)
 | 0,.ptr o 0::l=>some ([],o,l)
 | n+1,c::l=>match kB n l with
  | some (a,o,b)=>some (c::a,o,b)
  | none=>none
 | _,_=>none
def yu (ct:Option Post):Prop:=match ct with
 | some ⟨p,.c (.int .i64 _),[.bx [.int .i64 _]]⟩=>p
 | _=>False
def E3 (ct:Option Post):Int:=match ct with
 | some ⟨_,.c (.int .i64 n),_⟩=>n
 | _=>0
def E4 (ct:Option Post):Int:=match ct with
 | some ⟨_,_,[.bx [.int .i64 n]]⟩=>n
 | _=>0
def yw (ct:List AD→Option Post) (A B:List AD):SFV :=
 let at':Int→Int→Int→Option Post:=fun s x y=>ct ([.c (.int .i64 x),.c (.int .i64 y)]++(A++.box [.int .i64 s]::B))
 ⟨fun s x y=>yu (at' s x y),fun s x y=>E3 (at' s x y),fun s x y=>E4 (at' s x y)⟩
def Ms (c:Option Ctr) (svs:List SV):Bool :=
 match c with
 | some ⟨[(1,0)],_⟩=>match svs with
  | [.c (.int .i64 _),.fn _ _]=>true
  | _=>false
 | _=>false
def yx (P:Program) (Γ:FuncId→Option Ctr) (d:Nat) (f:FuncId) (svs:List SV):Rd Eff :=
 match Γ f with
 | some ⟨[(1,0)],ct⟩=>match svs with
  | [.c (.int .i64 n),.fn g caps]=>match Γ g with
   | some ⟨[(k,0)],ctg⟩=>match k with
    | k+2=>match kB k caps with
     | some (ca,o,cb)=>.h o fun ob=>match ob with
      | .box [.int .i64 s]=>gJ P [o] ca fun A=>gJ P [o] cb fun B=>match ct [.c (.int .i64 n),.fvs (yw ctg A B) s] with
       | some ⟨pre,ret,[.bx [.int .i64 s']]⟩=>match ig ret with
        | true=>.fail
        | false=>il (cA d (bY ret)) (.ret ⟨ie d ret,cA d (bY ret)++[(o,some (.box [.int .i64 s']))],some (pre∧True)⟩)
       | _=>.fail
      | _=>.fail
     | none=>.fail
    | _=>.fail
   | _=>.fail
  | _=>.fail
 | _=>.fail
def yy (o:Nat) (F:SFV) (svs:List SV):Rd Eff :=
 match svs with
 | [.c (.int .i64 x),.c (.int .i64 y)]=>.h o fun ob=>match ob with
  | .box [.int .i64 s]=>.ret ⟨.c (.int .i64 (F.p s x y)),[(o,some (.box [.int .i64 (F.nx s x y)]))],some (F.q s x y)⟩
  | _=>.fail
 | _=>.fail
def yz (c:Option Ctr):Bool :=
 match c with
 | some ⟨[(0,97),(0,97)],_⟩=>true
 | _=>false
def yA (c:Option Ctr) (svs:List SV):Rd Eff :=
 match c with
 | some ⟨_,ct⟩=>match svs with
  | [.c (.own o),.fn g []]=>.h o fun ob=>match ob with
   | .rows ver e ei .i64 l=>match ct [.c (.rows .i64 l)] with
    | some ⟨pre,.c (.rows g' _ .i64 l'),_⟩=>match Nat.beq g' g with
     | true=>.ret ⟨.tup [],[(o,some (.rows (ver+1) e ei .i64 l'))],some (pre∧l'.length=l.length)⟩
     | false=>.fail
    | _=>.fail
   | .tr ver [e,e2,e3] (.r3 .i64 l)=>match ct [.c (.r3 .i64 l)] with
    | some ⟨pre,.c (.tr [g'] (.r3 .i64 l')),_⟩=>match Nat.beq g' g with
     | true=>.ret ⟨.tup [],[(o,some (.tr (ver+1) [e,e2,e3] (.r3 .i64 l')))],some (pre∧l'.length=l.length)⟩
     | false=>.fail
    | _=>.fail
   | _=>.fail
  | _=>.fail
 | none=>.fail
def yB (c:Option Ctr):Bool :=
 match c with
 | some ⟨[(0,96),(0,96)],_⟩=>true
 | _=>false
def yC (c:Option Ctr) (svs:List SV):Rd Eff :=
 match c with
 | some ⟨_,ct⟩=>match svs with
  | [.c (.sub o off n),.fn g []]=>.h o fun ob=>match ob with
   | .rows ver e ei .i64 l=>match ct [.c (.rows .i64 ((l.drop off).take n))] with
    | some ⟨pre,.c (.rows g' _ .i64 k),_⟩=>match Nat.beq g' g with
     | true=>.ret ⟨.c (.sub o off k.length),[(o,some (.rows (ver+1) e ei .i64 (l.take (off+k.length)++List.replicate (n - k.length) []++l.drop (off+n))))],some pre⟩
     | false=>.fail
    | _=>.fail
   | _=>.fail
  | _=>.fail
 | none=>.fail
def yD (c:Option Ctr):Bool :=
 match c with
 | some ⟨[(0,99),(0,99)],_⟩=>true
 | _=>false
def yE (d:Nat) (svs:List SV):Rd Eff :=
 match svs with
 | [.c (.own o),.c (.int .i64 i),.c (.int .i64 j)]=>.h o fun
  | .ints e .i64 l=>.abs d (.ret ⟨.c (.own d),[(d,some (.ints e .i64 (l.take i.toNat++l.drop j.toNat))),(o,none)],some (0≤i∧i<j∧j≤(l.length:Int))⟩)
  | _=>.fail
 | _=>.fail
def yF (c:Option Ctr):Option TypeId :=
 match c with
 | some ⟨[(0,98),(0,98)],ct⟩=>match ct [] with
  | some ⟨_,.c (.ints e .i64 []),_⟩=>some e
  | _=>none
 | _=>none
def yG (d:Nat) (e:TypeId) (svs:List SV):Rd Eff :=
 match svs with
 | [.c .nil,.c (.int .i64 n)]=>.abs d (.ret ⟨.c (.own d),[(d,some (.ints e .i64 []))],some (0≤n∧n≤1099511627776)⟩)
 | _=>.fail
def Mt (c:Option Ctr):Bool :=
 match c with
 | some ⟨[(0,0),(1,0)],_⟩=>true
 | _=>false
def yH (P:Program) (Γ:FuncId→Option Ctr) (d:Nat) (f:FuncId) (o ver i j:Nat) (ts:List TypeId):Rd Eff :=
 .h o fun
  | .rows ver' e ei k l=>match Nat.beq ver' ver with
   | true=>match Γ f with
    | some ⟨[(0,0),(1,0)],ct⟩=>match ct [.c (.ints k (l.getD i [])),.c (.ints k (l.getD j []))] with
     | some ⟨pre,ret,[.gone (.ints e1 k1 _),.gone (.ints e2 k2 _)]⟩=>match ig ret with
      | true=>.fail
      | false=>if ei=e1∧ei=e2∧k=k1∧k=k2 then
        .abs (d+500501) (.abs (d+500500) (il (cA d (bY ret)) (.ret ⟨ie d ret,
         (cA d (bY ret)++[(d+500500,none),(d+500501,none)])++(dP (d+500500) o (ver+2) e ei k l [i,j] i++dP (d+500501) o (ver+1) e ei k l [j] j),some ((pre∧True∧True)∧i≠j)⟩)))
       else .fail
     | _=>.fail
    | _=>.fail
   | false=>.fail
  | _=>.fail
def gq (d:Nat) (ob:Ob):Rd Eff→Rd Eff
 | .ret e=>.ret ⟨e.val,e.hp++[(d,none)],e.owed⟩
 | .fail=>.fail
 | .f t k=>.f t fun sv=>gq d ob (k sv)
 | .h o k=>match Nat.beq o d with
  | true=>gq d ob (k ob)
  | false=>.h o fun x=>gq d ob (k x)
 | .abs o k=>match Nat.beq o d with
  | true=>.fail
  | false=>.abs o (gq d ob k)
def rF (c:Option Ctr) (svs:List SV):Option Nat :=
 match c with
 | some ⟨[(i,0)],_⟩=>match svs[i]? with
  | some (.c .nil)=>some i
  | _=>none
 | _=>none
def yI (P:Program) (Γ:FuncId→Option Ctr) (d:Nat) (f:FuncId) (i:Nat) (svs:List SV) (ts:List TypeId):Rd Eff :=
 match Γ f with
 | some ⟨_,ct⟩=>fk P Γ [] [] 0 svs ts fun ads=>match ct ads with
  | some ⟨_,_,[.gone (.rows e ei k _)]⟩=>.abs (d+490490) (gq (d+490490) (.rows 0 e ei k []) (fP P Γ d f (svs.set i (.c (.own (d+490490)))) ts))
  | _=>.fail
 | none=>.fail
def rG (sv:SV):Option SC :=
 match sv with
 | .c c=>if c.plain then some c else none
 | _=>none
def yJ (P:Program) (o i:Nat):Rd Eff :=
 match Nat.beq o i with
 | true=>.fail
 | false=>.h o fun ob=>match ob with
  | .yd v Y pre b=>.h i fun ob2=>match ob2 with
   | .ints e k x=>match k with
    | .i64=>.ret ⟨.c (.bool (Y.go pre x)),[(o,some (.yd (v+1) Y (pre++[x]) (Y.go pre x)))],some (Y.P=P∧Y.e=e∧b=true∧Y.ok pre x)⟩
    | _=>.fail
   | _=>.fail
  | _=>.fail
def E5 (P:Program) (Γ:FuncId→Option Ctr) (d:Nat) (fv:SV) (svs:List SV) (ts:List TypeId):Rd Eff :=
 match fv with
 | .fn f []=>match yD (Γ f) with
  | true=>yE d svs
  | false=>match yF (Γ f) with
   | some e=>yG d e svs
   | none=>match yz (Γ f) with
    | true=>yA (Γ f) svs
    | false=>match yB (Γ f) with
    | true=>yC (Γ f) svs
    | false=>match yr (Γ f) with
    | true=>yt P d (Γ f) svs ts
    | false=>match Ms (Γ f) svs with
    | true=>yx P Γ d f svs
    | false=>match ye (Γ f) svs with
     | some (_,pre,ret)=>yg d pre ret
     | none=>match svs with
      | .c (.row o ver i)::rest=>match rA (Γ f) with
       | true=>yh P Γ f o ver i rest ts.tail
       | false=>match Mt (Γ f) with
        | true=>match rest with
         | [.c (.row o' ver' j)]=>match Nat.beq o' o,Nat.beq ver' ver with
          | true,true=>yH P Γ d f o ver i j ts
          | _,_=>fP P Γ d f svs ts
         | _=>fP P Γ d f svs ts
        | false=>fP P Γ d f svs ts
      | .c (.kid o ver p)::rest=>match rA (Γ f) with
       | true=>yi P Γ f o ver p rest ts.tail
       | false=>fP P Γ d f svs ts
      | .c (.sub o off n)::rest=>match rA (Γ f) with
       | true=>yj P Γ f o off n rest ts.tail
       | false=>fP P Γ d f svs ts
      | .c (.ptr o 0)::rest=>match rA (Γ f) with
       | true=>yn P Γ d f o rest ts
       | false=>fP P Γ d f svs ts
      | .c (.int k0 n0)::.c (.row o ver i)::rest=>match Mr (Γ f) with
       | true=>yk P Γ f k0 n0 o ver i rest ts.tail.tail
       | false=>fP P Γ d f svs ts
      | svs=>match rF (Γ f) svs with
       | some i=>yI P Γ d f i svs ts
       | none=>fP P Γ d f svs ts
 | .fvs o F=>yy o F svs
 | .fn f (c::cs)=>fP P Γ d f (svs++(c::cs).map .c) ts
 | .fv F=>match dz rG svs with
  | some cs=>ic P [] [] 0 0 cs ts fun ds=>match F.at ds with
   | some (q,c)=>.ret ⟨.c c,[],some q⟩
   | none=>.fail
  | none=>.fail
 | .c c=>match c with
  | .own o=>match svs with
   | [.c (.own i)]=>yJ P o i
   | _=>.fail
  | _=>.fail
 | _=>.fail
def E6 (lo hi:Option Operand) (mx:Operand):Bool :=
 match lo,hi,mx with
 | none,some (.const (.int .i64 0)),.const (.int .i64 0)=>true
 | _,_,_=>false
def yK (P:Program) (s t:TypeId):Bool :=
 match P.underlying t with
 | some .string=>match bP P s with
  | some e=>match iR P e with
   | some .u8=>true
   | _=>false
  | none=>false
 | _=>false
def Mu (l:List Int):List UInt8:=l.map fun n=>UInt8.ofNat n.toNat
def yL (cx cy:SC):Rd Eff :=
 match cx,cy with
 | .int k a,.int k' b=>if k=k' then .ret ⟨.c (.int k (if b<a then b else a)),[],none⟩ else .fail
 | _,_=>.fail
def yM (cx cy:SC):Rd Eff :=
 match cx,cy with
 | .int k a,.int k' b=>if k=k' then .ret ⟨.c (.int k (if b > a then b else a)),[],none⟩ else .fail
 | _,_=>.fail
def Mv (x:Operand):Bool :=
 match x with
 | .const (.pointer none)=>true
 | _=>false
def nJ (P:Program) (t:TypeId):Bool :=
 match P.underlying t with
 | some (.map k e)=>(match P.underlying k with
  | some (.int .i64)=>true
  | _=>false)&&iS P e (.bool false)
 | _=>false
def yN (P:Program) (d:Nat) (t:TypeId) (r:Option Operand):Rd Eff :=
 match r with
 | none=>match nJ P t with
  | true=>.abs d (.ret ⟨.c (.own d),[(d,some (.mp []))],none⟩)
  | false=>.fail
 | some _=>.fail
def nK (n:Int) (l:List Int):List Int:=if l.contains n=true then l else l++[n]
def yO (P:Program) (t:TypeId) (cm ck cv:SC):Rd Eff :=
 match nJ P t with
 | true=>match cm,ck,cv with
  | .own o,.int .i64 n,.bool true=>.h o fun
   | .mp l=>.ret ⟨.c .any,[(o,some (.mp (nK n l)))],none⟩
   | _=>.fail
  | _,_,_=>.fail
 | false=>.fail
def yP (P:Program) (t:TypeId) (ok:Bool) (cm ck:SC):Rd Eff :=
 match nJ P t,ok with
 | true,false=>match cm,ck with
  | .own o,.int .i64 n=>.h o fun
   | .mp l=>aA (.bool (l.contains n))
   | _=>.fail
  | _,_=>.fail
 | _,_=>.fail
def b7 (P:Program) (Γ:FuncId→Option Ctr) (wr:Nat→Bool) (o:Oper):Rd Eff :=
 let d:=match o.dst with | some d=>d | none=>0
 match o.op with
 | .move x=>eh x fun sv=>.ret ⟨sv,[],none⟩
 | .assign x=>match Mv x with
  | true=>.ret ⟨.c .any,[],none⟩
  | false=>eh x fun sv=>.ret ⟨sv,[],none⟩
 | .nilCheck x=>b6 x fun
  | .ptr o i=>.h o fun ob=>iQ ob (aA (.ptr o i))
  | .rob cs i=>aA (.rob cs i)
  | _=>.fail
 | .pick c x y=>b6 c fun
  | .bool true=>eh x fun sv=>.ret ⟨sv,[],none⟩
  | .bool false=>eh y fun sv=>.ret ⟨sv,[],none⟩
  | _=>.fail
 | .alloc t=>xI P d t
 | .box _ x=>eh x fun sv=>xJ d sv
 | .build t parts=>xK P t parts
 | .buildSlice t len parts=>match wr (2000000+d) with
  | true=>xM P d t len parts
  | false=>xL P (wr (1000000+d)) d t len parts
 | .load t x=>match wr (3000000+d) with
  | true=>b6 x fun cx=>xG P d t cx
  | false=>b6 x fun cx=>qX P t cx
 | .store t x y=>b6 x fun cx=>eh y fun sv=>xH P t cx sv
 | .binOp op t x y _=>b6 x fun cx=>b6 y fun cy=>xA P t (wr d) op cx cy
 | .unOp op _ x=>b6 x fun cx=>xB (wr d) op cx
 | .convert s t x=>b6 x fun cx=>match yK P s t with
  | true=>iT [] (fO P s) cx fun
   | .ints .u8 l=>.ret ⟨.c (.str (Mu l)),[],none⟩
   | _=>.fail
  | false=>xC P (wr d) s t cx
 | .makeFunc fn first caps=>match fn with
  | .func f=>if first.isEmpty then ia caps.toList fun svs=>match dz rG svs with
   | some cs=>.ret ⟨.fn f cs,[],none⟩
   | none=>.fail
   else .fail
  | _=>.fail
 | .makeSlice t l c=>b6 l fun cl=>b6 c fun cc=>xR P d t cl cc
 | .slice t x lo hi mx=>match mx with
  | none=>match wr (4000000+d) with
   | true=>b6 x fun cx=>xQ P d t cx lo hi
   | false=>b6 x fun cx=>re P d t cx lo hi
  | some m=>match E6 lo hi m with
   | true=>match bP P t with
    | some e=>match cP P e with
     | some _=>b6 x fun cx=>iT [] (fO P t) cx fun
      | .ints _ _=>.ret ⟨.c .emp,[],none⟩
      | .bools _=>.ret ⟨.c .emp,[],none⟩
      | .rows _ _=>.ret ⟨.c .emp,[],none⟩
      | _=>.fail
     | none=>.fail
    | none=>.fail
   | false=>.fail
 | .fieldAddr s x f=>b6 x fun cx=>xN P s cx f
 | .field s x f=>eh x fun sv=>xO P s sv f
 | .indexAddr t x i=>b6 x fun cx=>b6 i fun ci=>xP P t cx ci
 | .index t x i=>b6 x fun cx=>b6 i fun ci=>xY P t cx ci
 | .extract x i=>eh x fun sv=>xX sv i
 | .call c=>match c.callee with
  | .value f=>eh f fun fv=>ia c.args.toList fun svs=>E5 P Γ d fv svs c.argTypes.toList
  | .builtin b=>match b with
   | .len=>match c.args.toList,c.argTypes.toList with
    | [x],[t]=>b6 x fun cx=>match cx with
     | .str _=>match P.underlying t with
      | some .string=>ra cx
      | _=>.fail
     | cx=>match bP P t with
      | some _=>ra cx
      | none=>.fail
    | _,_=>.fail
   | .append=>match c.args.toList,c.argTypes.toList with
    | [x,y],[t,t']=>if t=t' then b6 x fun cx=>b6 y fun cy=>xV P d t cx cy else match iR P t' with
     | some _=>b6 x fun cx=>b6 y fun cy=>xW P d t cx cy
     | none=>.fail
    | _,_=>.fail
   | .min=>match c.args.toList with
    | [x,y]=>b6 x fun cx=>b6 y fun cy=>yL cx cy
    | _=>.fail
   | .max=>match c.args.toList with
    | [x,y]=>b6 x fun cx=>b6 y fun cy=>yM cx cy
    | _=>.fail
   | _=>.fail
  | .invoke _ _=>.fail
 | .makeMap t r=>yN P d t r
 | .mapUpdate t m k v=>b6 m fun cm=>b6 k fun ck=>b6 v fun cv=>yO P t cm ck cv
 | .lookup t m k ok=>b6 m fun cm=>b6 k fun ck=>yP P t ok cm ck
 | _=>.fail
end Go.Sx
