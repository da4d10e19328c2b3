/- SxC -/
import Derived.Test.YtkmldclpaniclaaGreatSxBt
set_option linter.unusedSimpArgs false
set_option linter.unusedVariables false
namespace Go.Sx
open Go.RowKit
inductive Key where
 |f (t:Nat)
 |h (o:Nat)
def Key.eq:Key->Key->Bool
 |.f a,.f b=>Nat.beq a b
 |.h a,.h b=>Nat.beq a b
 |_,_=>false
inductive Rd (α:Type) where
 |ret (x:α)
 |fail
 |f (t:Nat) (k:SV->Rd α)
 |h (o:Nat) (k:Ob->Rd α)
 |abs (o:Nat) (k:Rd α)
def Rd.run{α:Type}(σ:State):Rd α->Option α
 |.ret x=>some x
 |.fail=>none
 |.f t k=>match σ.F t with
  |some sv=>(k sv).run σ
  |none=>none
 |.h o k=>match σ.H o with
  |some (some ob)=>(k ob).run σ
  |some none=>none
  |none=>none
 |.abs o k=>match σ.H o with
  |none=>k.run σ
  |some _=>none
def Rd.keys{α:Type}(σ:State):Rd α->List Key
 |.ret _=>[]
 |.fail=>[]
 |.f t k=>.f t::match σ.F t with
  |some sv=>(k sv).keys σ
  |none=>[]
 |.h o k=>.h o::match σ.H o with
  |some (some ob)=>(k ob).keys σ
  |some none=>[]
  |none=>[]
 |.abs o k=>.h o::k.keys σ
structure Eff where
 val:SV
 hp:List (Nat×Option Ob)
 owed:Option Prop
def Eff.obl(e:Eff):Prop :=
 match e.owed with
 |none=>True
 |some p=>p
inductive MC where
 |c (d:FC)
 |ob (x:Ob)
inductive MA where
 |m (x:MC)
 |box (l:List MC)
inductive AD where
 |c (d:FC)
 |agg (cs:List FC)
 |box (cs:List FC)
 |bb (cs:List FC)
 |fv (F:FV)
 |fvs (F:SFV) (s:Int)
 |cut (off n:Nat) (d:FC)
 |ma (x:MA)
inductive RC where
 |int (k:IntKind) (n:Int)
 |bool (b:Bool)
 |str (l:List UInt8)
 |ints (e:TypeId) (k:IntKind) (l:List Int)
 |bools (e:TypeId) (l:List Bool)
 |rows (e ei:TypeId) (k:IntKind) (l:List (List Int))
 |nilq (b:Bool)
 |ro (d:FC)
 |bx (cs:List FC)
 |strs (e:TypeId) (l:List (List UInt8))
 |cut (off n:Nat) (e ei:TypeId) (k:IntKind) (l:List (List Int))
 |lst (e:TypeId) (d:FC)
 |gone (x:RC)
 |tr (es:List TypeId) (d:FC)
def RC.isGone:RC->Bool
 |.gone _=>true
 |_=>false
inductive RV where
 |c (x:RC)
 |agg (l:List RC)
 |tup (l:List (RC ⊕ List RC))
 |st (sv:SV) (ex:List (Nat×Ob)) (outs:List MA)
structure Post where
 pre:Prop
 ret:RV
 wrs:List RC:=[]
structure Ctr where
 mt:List (Nat×Nat):=[]
 ct:List AD->Option Post
def c8:FC->SC
 |.int k n=>.int k n
 |.bool b=>.bool b
 |.str l=>.str l
 |.ints k l=>.ro (.ints k l)
 |.bools l=>.ro (.bools l)
 |.rows k l=>.ro (.rows k l)
 |.r3 k l=>.ro (.r3 k l)
 |.r4 k l=>.ro (.r4 k l)
 |.p3 k l=>.ro (.p3 k l)
def dE:FC->Bool
 |.int _ _=>true
 |.bool _=>true
 |.str _=>true
 |_=>false
def eR:Ob->Option FC
 |.ints _ k l=>some (.ints k l)
 |.bools _ l=>some (.bools l)
 |.rows _ _ _ k l=>some (.rows k l)
 |.box _=>none
 |.bx _=>none
 |.strs _ _=>none
 |.lst _ _ d=>match dE d with
  |true=>none
  |false=>some d
 |.frz _=>none
 |.mp _=>none
 |.qu _ _ _=>none
 |.rowsH _ _ _ _ _ _=>none
 |.tr _ _ d=>some d
 |.yd _ _ _ _=>none
 |.trk _ _ _ _=>none
/- The state that a call by states begins in: argument i's object has the name 7000 + 100 i, its cells' objects those behind it. -/
def cJ(i:Nat):Nat:=7000+100*i
def zw(k:Nat):MC->SC
 |.c d=>c8 d
 |.ob _=>.own k
def sT(k:Nat):MC->List (Nat×Option Ob)
 |.c _=>[]
 |.ob x=>[(k,some x)]
def fm:Nat->List MC->List SC
 |_,[]=>[]
 |k,x::l=>zw k x::fm (k+1) l
def jT:Nat->List MC->List (Nat×Option Ob)
 |_,[]=>[]
 |k,x::l=>sT k x++jT (k+1) l
def oq(k:Nat):MA->SV
 |.m x=>.c (zw k x)
 |.box _=>.c (.ptr k 0)
def HI(k:Nat):MA->List (Nat×Option Ob)
 |.m x=>sT k x
 |.box l=>(k,some (.box (fm (k+1) l)))::jT (k+1) l
def sU:Nat->List MA->List (Nat×SV)
 |_,[]=>[]
 |i,x::l=>(i,oq (cJ i) x)::sU (i+1) l
def gL:Nat->List MA->List (Nat×Option Ob)
 |_,[]=>[]
 |i,x::l=>HI (cJ i) x++gL (i+1) l
def d5(mas:List MA):State:=⟨sU 0 mas,gL 0 mas⟩
def Qm(k:Nat):MA->List (Nat×Option Ob)
 |.m x=>sT k x
 |.box l=>(k,some (.box (fm (k+1001) l)))::jT (k+1001) l
def gq:Nat->List MA->List (Nat×Option Ob)
 |_,[]=>[]
 |i,x::l=>Qm (cJ i) x++gq (i+1) l
def gN(ex:List (Nat×Ob)):List (Nat×Option Ob):=ex.map fun p=>(p.1,some p.2)
def hZ(sv:SV)(hp:List (Nat×Option Ob)):State:=⟨[(0,sv)],hp⟩
def jU(mas:List MA)(hp:List (Nat×Option Ob)):List Nat:=((gL 0 mas).map (·.1)).filter fun k=>(lk hp k).isSome
def fE:Ob->Option FC
 |.frz d=>some d
 |ob=>match eR ob with
  |some d=>match bT 0 d.len d with
   |some _=>some d
   |none=>none
  |none=>none
def jq{α:Type}(ob:Ob)(r:Rd α):Rd α :=
 match ob.isFz with
 |true=>.fail
 |false=>r
def zx{α:Type}(c:SC)(k:SC->Rd α):Rd α :=
 match c with
 |.own o=>.h o fun ob=>match ob with
  |.frz d=>k (.ro d)
  |_=>k (.own o)
 |.pre o n=>.h o fun ob=>match ob with
  |.frz d=>match bT 0 n d with
   |some d'=>k (.ro d')
   |none=>.fail
  |_=>k (.pre o n)
 |.sub o off n=>.h o fun ob=>match ob with
  |.frz d=>match bT off n d with
   |some d'=>k (.ro d')
   |none=>.fail
  |_=>k (.sub o off n)
 |c=>k c
def mR:Value->Option SC
 |.int k n=>some (.int k n)
 |.bool b=>some (.bool b)
 |.string s=>some (.str s.data.toList)
 |.slice none 0 0=>some .nil
 |_=>none
def d6{α β:Type}(f:α->Option β):List α->Option (List β)
 | []=>some []
 |x::l=>match f x with
  |some y=>match d6 f l with
   |some ys=>some (y::ys)
   |none=>none
  |none=>none
def eS{α:Type}(x:Operand)(k:SV->Rd α):Rd α :=
 match x with
 |.tmp t=>.f t k
 |.const v=>match v with
  |.agg cs=>match d6 mR cs.toList with
   |some l=>k (.agg l)
   |none=>.fail
  |.nilFunc=>k (.c .any)
  |v=>match mR v with
   |some c=>k (.c c)
   |none=>.fail
 |.func f=>k (.fn f [])
 |.global _=>.fail
def cf{α:Type}(x:Operand)(k:SC->Rd α):Rd α :=
 eS x fun
  |.c c=>zx c k
  |_=>.fail
def lg(P:Program)(t:TypeId):Option Bool :=
 match P.underlying t with
 |some (.struct _)=>some true
 |some (.array _ _)=>some true
 |some _=>some false
 |none=>none
def cr(P:Program)(t:TypeId):Option Nat :=
 match P.info? t with
 |some i=>some i.size
 |none=>none
def bJ(P:Program)(t:TypeId):Option TypeId :=
 match P.underlying t with
 |some (.slice e)=>some e
 |_=>none
def ae(n:Int):Prop:=-9223372036854775808<=n/\n<=9223372036854775807
def ia(wr:Bool)(k:IntKind)(r:Int):Eff :=
 match wr,k with
 |false,.i64=>⟨.c (.int .i64 r),[],some (ae r)⟩
 |_,k=>⟨.c (.int k (k.wrap r)),[],none⟩
def aD(c:SC):Rd Eff:=.ret ⟨.c c,[],none⟩
def zy(P:Program)(t:TypeId):Bool :=
 match P.underlying t with
 |some .bool=>true
 |_=>false
def ag(n:Nat):Prop:=n<=1099511627776
def Qn:BinOp->Bool
 |.shl=>true
 |.shr=>true
 |_=>false
def zA(wr:Bool)(op:BinOp)(cx cy:SC):Rd Eff:=.fail
def HJ(op:BinOp)(cx cy:SC):Bool :=
 match op,cx,cy with
 |.and,.int .u64 _,.int .u64 _=>true
 |_,_,_=>false
def zB(cx cy:SC):Rd Eff:=.fail
def zC(P:Program)(t:TypeId)(wr:Bool)(op:BinOp)(cx cy:SC):Rd Eff :=
 match Qn op with
 |true=>zA wr op cx cy
 |false=>match HJ op cx cy with
 |true=>zB cx cy
 |false=>match cx,cy with
 |.int k a,.int k' b =>
  if k=k' then
   match op with
   |.and=>.ret ⟨.c (.int k ((a.toNat &&& b.toNat:Nat):Int)),[],some (k=.i64/\(0<=a/\a<=9223372036854775807)/\0<=b/\b<=9223372036854775807)⟩
   |.or=>.ret ⟨.c (.int k ((a.toNat ||| b.toNat:Nat):Int)),[],some (k=.i64/\(0<=a/\a<=9223372036854775807)/\0<=b/\b<=9223372036854775807)⟩
   |.add=>.ret (ia wr k (a+b))
   |.sub=>.ret (ia wr k (a-b))
   |.mul=>.ret (ia wr k (a*b))
   |.quo=>.ret ⟨(ia wr k (a.tdiv b)).val,[],some (b≠0/\(ia wr k (a.tdiv b)).obl)⟩
   |.rem=>.ret ⟨.c (.int k (a.tmod b)),[],some (b≠0)⟩
   |.eql=>aD (.bool (a == b))
   |.neq=>aD (.bool (a != b))
   |.lss=>aD (.bool (decide (a<b)))
   |.leq=>aD (.bool (decide (a<=b)))
   |.gtr=>aD (.bool (decide (b<a)))
   |.geq=>aD (.bool (decide (b<=a)))
   |_=>.fail
  else .fail
 |.bool a,.bool b =>
  if zy P t then
   match op with
   |.eql=>aD (.bool (a == b))
   |.neq=>aD (.bool (!(a == b)))
   |_=>.fail
  else .fail
 |.str a,.str b =>
  match op with
  |.eql=>aD (.bool (a == b))
  |.neq=>aD (.bool (!(a == b)))
  |.add=>.ret ⟨.c (.str (a++b)),[],some (ag (a.length+b.length))⟩
  |_=>.fail
 |.nilq b,.nil=>match bJ P t with
  |some _=>match op with
   |.eql=>aD (.bool b)
   |.neq=>aD (.bool (!b))
   |_=>.fail
  |none=>.fail
 |.ro d,.nil=>match bJ P t with
  |some _=>match op with
   |.eql=>.ret ⟨.c (.bool false),[],some (d.len≠0)⟩
   |.neq=>.ret ⟨.c (.bool true),[],some (d.len≠0)⟩
   |_=>.fail
  |none=>.fail
 |_,_=>.fail
def zD(wr:Bool)(op:UnOp)(cx:SC):Rd Eff :=
 match op,cx with
 |.neg,.int k a=>.ret (ia wr k (-a))
 |.not,.bool b=>aD (.bool (!b))
 |_,_=>.fail
def ic(P:Program)(t:TypeId):Option IntKind :=
 match P.underlying t with
 |some (.int k)=>some k
 |_=>none
def zE(P:Program)(wr:Bool)(src dst:TypeId)(cx:SC):Rd Eff :=
 match cx with
 |.int _ n=>match P.underlying src with
  |some _=>match ic P dst with
   |some k=>.ret (ia wr k n)
   |none=>.fail
  |none=>.fail
 |_=>.fail
def zF:FC->Option FC
 |.rows k _=>some (.ints k [])
 |.r3 k _=>some (.rows k [])
 |.r4 k _=>some (.r3 k [])
 |_=>none
def iP:FC->FC->Option FC
 |.rows k l,.rows k' l'=>if k=k' then some (.rows k (l++l'))else none
 |.r3 k l,.r3 k' l'=>if k=k' then some (.r3 k (l++l'))else none
 |.r4 k l,.r4 k' l'=>if k=k' then some (.r4 k (l++l'))else none
 |.p3 k l,.p3 k' l'=>if k=k' then some (.p3 k (l++l'))else none
 |_,_=>none
def fS:List FC->Option FC
 | []=>none
 | [.ints k x]=>some (.rows k [x])
 | [.rows k x]=>some (.r3 k [x])
 | [.r3 k x]=>some (.r4 k [x])
 |.ints k x::l=>match fS l with
  |some (.rows k' ls)=>if k=k' then some (.rows k (x::ls))else none
  |_=>none
 |.rows k x::l=>match fS l with
  |some (.r3 k' ls)=>if k=k' then some (.r3 k (x::ls))else none
  |_=>none
 |.r3 k x::l=>match fS l with
  |some (.r4 k' ls)=>if k=k' then some (.r4 k (x::ls))else none
  |_=>none
 |_=>none
def sV(P:Program):Nat->TypeId->List TypeId
 |0,_=>[]
 |n+1,t=>match bJ P t with
  |some e=>e::sV P n e
  |none=>[]
def zG:FC->Nat->Option FC
 |.rows k _,n=>some (.rows k (List.replicate n []))
 |.r3 k _,n=>some (.r3 k (List.replicate n []))
 |.r4 k _,n=>some (.r4 k (List.replicate n []))
 |_,_=>none
def mS:Ob->Option (List TypeId×FC)
 |.ints e k l=>some ([e],.ints k l)
 |.rows _ e ei k l=>some ([e,ei],.rows k l)
 |.tr _ es d=>some (es,d)
 |_=>none
def sW:FC->Option (IntKind×List Int)
 |.ints k l=>some (k,l)
 |_=>none
def zH:SC->SC
 |.orig _ _ d=>.ro d
 |c=>c
def sX(P:Program)(t:TypeId)(cx:SC):Rd Eff :=
 match lg P t with
 |none=>.fail
 |some true=>match cr P t with
  |none=>.fail
  |some n=>match cx with
   |.ptr o i=>.h o fun
    |.box cs=>if i+n<=cs.length then .ret ⟨.agg ((cs.drop i).take n),[],none⟩else .fail
    |_=>.fail
   |.rob cs i=>if i+n<=cs.length then .ret ⟨.agg (((cs.drop i).take n).map c8),[],none⟩else .fail
   |.rop d i=>match n,d with
    |1,.r3 k l=>.ret ⟨.agg [.ro (.rows k (l.getD i []))],[],none⟩
    |_,_=>.fail
   |_=>.fail
 |some false=>match cx with
  |.ptr o i=>.h o fun
   |.box cs=>match cs[i]? with
    |some c=>aD (zH c)
    |none=>.fail
   |.ints _ k l=>aD (.int k (l.getD i 0))
   |.bools _ l=>aD (.bool (l.getD i false))
   |.rows ver _ _ _ _=>aD (.row o ver i)
   |.bx _=>.fail
   |.strs _ l=>aD (.str (l.getD i []))
   |.lst _ _ d=>match cp d i with
    |some x=>aD (.ro x)
    |none=>.fail
   |.frz _=>.fail
   |.mp _=>.fail
   |.qu _ _ _=>.fail
   |.rowsH _ _ _ _ _ _=>.fail
   |.tr _ _ _=>.fail
   |.yd _ _ _ _=>.fail
   |.trk _ _ _ _=>.fail
  |.rptr o ver i j=>.h o fun
   |.rows ver' _ _ k l=>if ver=ver' then aD (.int k ((l.getD i []).getD j 0))else .fail
   |_=>.fail
  |.rop d i=>match d with
   |.ints k l=>aD (.int k (l.getD i 0))
   |.bools l=>aD (.bool (l.getD i false))
   |.rows k l=>aD (.ro (.ints k (l.getD i [])))
   |.r3 k l=>aD (.ro (.rows k (l.getD i [])))
   |.r4 k l=>aD (.ro (.r3 k (l.getD i [])))
   |_=>.fail
  |.rob cs i=>match cs[i]? with
   |some fc=>aD (c8 fc)
   |none=>.fail
  |.rbb cs=>aD (.rob cs 0)
  |.qptr o i=>.h o fun
   |.qu _ k l=>aD (.int k (l.getD i 0))
   |_=>.fail
  |.kptr o ver p j=>.h o fun
   |.tr ver' _ d=>if ver=ver' then(match gJ d p with
    |some x=>match sW x with
     |some (k,l)=>aD (.int k (l.getD j 0))
     |none=>match cp x j with
      |some _=>aD (.kid o ver (p++[j]))
      |none=>.fail
    |none=>.fail)else .fail
   |_=>.fail
  |_=>.fail
def zI(P:Program)(d:Nat)(t:TypeId)(cx:SC):Rd Eff :=
 match lg P t with
 |some false=>match cx with
  |.kptr o ver [] j=>.h o fun
   |.tr ver' [_,e,ei] (.r3 k l)=>if ver=ver' then .abs d (.ret ⟨.c (.own d),[(d,some (.rows 0 e ei k (l.getD j []))),(o,none)],none⟩)else .fail
   |.trk ver' [e0,e,ei] (.r3 k l) n=>if ver=ver' then .abs d (.ret ⟨.c (.own d),[(d,some (.rows 0 e ei k (l.getD j []))),(o,some (.trk (ver'+1) [e0,e,ei] (.r3 k l) (n+1)))],some (j=n/\n<l.length)⟩)else .fail
   |_=>.fail
  |_=>.fail
 |_=>.fail
def d7{α:Type}(d:FC)(r:Rd α):Rd α :=
 match d.wid with
 |1=>r
 |_=>.fail
def SC.plain:SC->Bool
 |.any=>false
 |.und=>false
 |_=>true
def zJ(P:Program)(t:TypeId)(cx:SC)(sv:SV):Rd Eff :=
 match sv with
 |.c c =>
  if c.plain=true/\cr P t=some 1 then
   match cx with
   |.ptr o i=>.h o fun
    |.box cs=>if i<cs.length then .ret ⟨.c .any,[(o,some (.box (cs.set i c)))],none⟩else .fail
    |.ints e k l=>match c with
     |.int k' n=>if k=k' then .ret ⟨.c .any,[(o,some (.ints e k (l.set i n)))],none⟩else .fail
     |_=>.fail
    |.bools e l=>match c with
     |.bool b=>.ret ⟨.c .any,[(o,some (.bools e (l.set i b)))],none⟩
     |_=>.fail
    |.rows ver e ei k l=>match c with
     |.own o2=>.h o2 fun
      |.ints e2 k2 l2=>if e2=ei/\k2=k/\o2≠o then .ret ⟨.c .any,[(o2,none),(o,some (.rows (ver+1) e ei k (l.set i l2)))],none⟩else .fail
      |_=>.fail
     |.nil=>.ret ⟨.c .any,[(o,some (.rows (ver+1) e ei k (l.set i [])))],none⟩
     |_=>.fail
    |.bx _=>.fail
    |.strs _ _=>.fail
    |.lst ver e d=>match c with
     |.ro x=>match fl d i x with
      |some d'=>.ret ⟨.c .any,[(o,some (.lst ver e d'))],none⟩
      |none=>.fail
     |.nil=>match zF d with
      |some x=>match fl d i x with
       |some d'=>.ret ⟨.c .any,[(o,some (.lst ver e d'))],none⟩
       |none=>.fail
      |none=>.fail
     |.own o2=>.h o2 fun ob2=>match fE ob2 with
      |some x=>match fl d i x with
       |some d'=>if o2≠o then .ret ⟨.c .any,[(o,some (.lst ver e d')),(o2,some (.frz x))],none⟩else .fail
       |none=>.fail
      |none=>.fail
     |_=>.fail
    |.frz _=>.fail
    |.mp _=>.fail
    |.qu _ _ _=>.fail
    |.rowsH ver e ei k l hs=>match c with
     |.own o2=>.h o2 fun
      |.ints e2 k2 l2=>if e2=ei/\k2=k/\o2≠o then
        (match hs with
        | [h]=>.ret ⟨.c .any,[(o2,none),(o,some (.rows (ver+1) e ei k (l.set i l2)))],some (i=h)⟩
        |h::hs'=>.ret ⟨.c .any,[(o2,none),(o,some (.rowsH (ver+1) e ei k (l.set i l2) hs'))],some (i=h/\¬ h∈hs')⟩
        | []=>.fail)else .fail
      |_=>.fail
     |_=>.fail
    |.tr _ _ _=>.fail
    |.yd _ _ _ _=>.fail
    |.trk _ _ _ _=>.fail
   |.kptr o ver p j=>.h o fun
    |.tr ver' es d=>match c with
     |.int k' n=>if ver=ver' then(match gJ d p with
      |some x=>match sW x with
       |some (k,l)=>if k=k' then(match jS d p (.ints k (l.set j n))with
        |some d'=>.ret ⟨.c .any,[(o,some (.tr ver' es d'))],none⟩
        |none=>.fail)else .fail
       |none=>.fail
      |none=>.fail)else .fail
     |.own o2=>.h o2 fun ob2=>match mS ob2 with
      |some (es2,y)=>if ver=ver'/\o2≠o/\fD es2 (es.drop (p.length+1))=true then(match gJ d p with
       |some x=>d7 x (match fl x j y with
        |some x'=>match jS d p x' with
         |some d'=>.ret ⟨.c .any,[(o2,none),(o,some (.tr (ver'+1) es d'))],none⟩
         |none=>.fail
        |none=>.fail)
       |none=>.fail)else .fail
      |none=>.fail
     |_=>.fail
    |_=>.fail
   |.rptr o ver i j=>.h o fun
    |.rows ver' e ei k l=>match c with
     |.int k' n=>if ver=ver'/\k=k' then .ret ⟨.c .any,[(o,some (.rows ver' e ei k (l.set i ((l.getD i []).set j n))))],none⟩else .fail
     |_=>.fail
    |_=>.fail
   |_=>.fail
  else .fail
 |.agg cs' =>
  if cr P t=some cs'.length then
   match cx with
   |.ptr o i=>.h o fun
    |.box cs=>if i+cs'.length<=cs.length then .ret ⟨.c .any,[(o,some (.box (cs.take i++cs'++cs.drop (i+cs'.length))))],none⟩else .fail
    |_=>.fail
   |_=>.fail
  else .fail
 |_=>.fail
def iQ(P:Program)(t:TypeId):Option (List SC) :=
 match P.info? t with
 |some i=>match i.zero with
  |some z=>d6 mR z.cells.toList
  |none=>none
 |none=>none
def zK(P:Program)(d:Nat)(t:TypeId):Rd Eff :=
 match iQ P t with
 |some cs=>.abs d (if cs.isEmpty=false then .ret ⟨.c (.ptr d 0),[(d,some (.box cs))],none⟩else .fail)
 |none=>.fail
def zL(d:Nat)(sv:SV):Rd Eff :=
 match sv with
 |.c c=>if c.plain then .abs d (.ret ⟨.c (.ptr d 0),[(d,some (.box [c]))],none⟩)else .fail
 |.agg cs=>.abs d (if cs.isEmpty=false then .ret ⟨.c (.ptr d 0),[(d,some (.box cs))],none⟩else .fail)
 |_=>.fail
def iR:SV->Option (List SC)
 |.c c=>if c.plain then some [c]else none
 |.agg l=>some l
 |_=>none
def sY(P:Program)(fs:Array Field):List (Nat×Operand)->List SC->(List SC->Rd Eff)->Rd Eff
 | [],cs,k=>k cs
 |(i,x)::rest,cs,k=>eS x fun sv=>match iR sv with
  |none=>.fail
  |some l=>match fs[i]? with
   |none=>.fail
   |some fd=>if cr P fd.type=some l.length/\fd.offset+l.length<=cs.length then
     sY P fs rest (cs.take fd.offset++l++cs.drop (fd.offset+l.length)) k
    else .fail
def zM(P:Program)(t:TypeId)(parts:Array (Nat×Operand)):Rd Eff :=
 match iQ P t with
 |none=>.fail
 |some cs=>match P.underlying t with
  |some (.struct fs)=>match d6 (fun f:Field=>cr P f.type) fs.toList with
   |some _=>sY P fs parts.toList cs fun cs=>.ret ⟨.agg cs,[],none⟩
   |none=>.fail
  |_=>.fail
def ie{α:Type}:List Operand->(List SV->Rd α)->Rd α
 | [],k=>k []
 |x::l,k=>eS x fun sv=>ie l fun svs=>k (sv::svs)
def ot(k:IntKind):List SV->Option (List Int)
 | []=>some []
 |.c (.int k' n)::l=>if k=k' then(match ot k l with|some ns=>some (n::ns)|none=>none)else none
 |_=>none
def ou:List SV->Option (List Bool)
 | []=>some []
 |.c (.bool b)::l=>(match ou l with|some ns=>some (b::ns)|none=>none)
 |_=>none
def ow:List SV->Option (List (List UInt8))
 | []=>some []
 |.c (.str b)::l=>(match ow l with|some ns=>some (b::ns)|none=>none)
 |_=>none
def ox(ei:TypeId)(ki:IntKind):List SV->List Nat->(List (List Int)->List Nat->Rd Eff)->Rd Eff
 | [],_,k=>k [] []
 |.c .nil::l,used,k=>ox ei ki l used fun ls os=>k ([]::ls) os
 |.c (.own o)::l,used,k=>.h o fun
  |.ints e k' r=>if e=ei/\k'=ki/\used.all (fun u=>!(Nat.beq u o))then ox ei ki l (o::used) fun ls os=>k (r::ls) (o::os)else .fail
  |_=>.fail
 |_,_,_=>.fail
def sZ:List SC->Option (List (List Int))
 | []=>some []
 |.ro (.ints .i64 l)::cs=>match sZ cs with
  |some ls=>some (l::ls)
  |none=>none
 |_=>none
def lh(hint:Bool):List SV->(Option (List FC×List (Nat×Option Ob))->Rd Eff)->Rd Eff
 | [],K=>K (some ([],[]))
 |.c (.ro d)::l,K=>lh hint l fun
  |some (ds,fs)=>K (some (d::ds,fs))
  |none=>K none
 |.c (.own o)::l,K=>.h o fun ob=>match ob with
  |.frz d=>lh hint l fun
   |some (ds,fs)=>K (some (d::ds,fs))
   |none=>K none
  |ob=>match hint with
   |true=>match fE ob with
    |some d=>lh hint l fun
     |some (ds,fs)=>K (some (d::ds,(o,some (.frz d))::fs))
     |none=>K none
    |none=>K none
   |false=>K none
 |_,K=>K none
def HK(P:Program)(e:TypeId):Option IntKind :=
 match P.underlying e with
 |some (.struct fs)=>match fs.toList with
  | [f,g]=>match P.underlying f.type,P.underlying g.type with
   |some (.slice e1),some (.slice e2)=>match P.underlying e1,P.underlying e2 with
    |some (.slice a),some (.slice b)=>match ic P a,ic P b with
     |some k,some k'=>if k=k'/\f.offset=0/\g.offset=1 then some k else none
     |_,_=>none
    |_,_=>none
   |_,_=>none
  |_=>none
 |_=>none
def gt(P:Program)(t:TypeId):Option FC :=
 match P.underlying t with
 |some (.slice e)=>match P.underlying e with
  |some (.int k)=>some (.ints k [])
  |some .bool=>some (.bools [])
  |some (.slice e2)=>match P.underlying e2 with
   |some (.int k)=>some (.rows k [])
   |some (.slice e3)=>match P.underlying e3 with
    |some (.int k)=>some (.r3 k [])
    |some (.slice e4)=>match ic P e4 with
     |some k=>some (.r4 k [])
     |none=>none
    |_=>none
   |_=>none
  |some (.struct _)=>match HK P e with
   |some k=>some (.p3 k [])
   |none=>none
  |_=>none
 |_=>none
def zN(P:Program)(hint:Bool)(d:Nat)(t:TypeId)(len:Nat)(parts:Array (Nat×Operand)):Rd Eff :=
 if(parts.toList.map (·.1))=List.range len/\len<=1000 then
  match bJ P t with
  |none=>.fail
  |some e=>match HK P e with
   |none=>.fail
   |some k=>if cr P e=some 2/\(iQ P e).isSome=true then
     ie (parts.toList.map (·.2)) fun svs=>match svs with
     | []=>.abs d (.ret ⟨.c (.own d),[(d,some (.lst 0 e (.p3 k [])))],none⟩)
     | [.agg [c1,c2]]=>lh hint [.c c1,.c c2] fun pr=>match pr with
      |some ([.rows k1 x,.rows k2 y],fs)=>if k1=k/\k2=k then .abs d (.ret ⟨.c (.own d),(d,some (.lst 0 e (.p3 k [(x,y)])))::fs,none⟩)else .fail
      |_=>match c1,c2 with
       |.own o1,.own o2=>.h o1 fun ob1=>.h o2 fun ob2=>match ob1,ob2 with
        |.rows _ e1 ei1 k1 x,.rows _ e2 ei2 k2 y=>if e1=e2/\ei1=ei2/\k1=k/\k2=k/\o1≠o2 then
          .abs d (.ret ⟨.c (.own d),[(d,some (.tr 0 [e,e1,ei1] (.p3 k [(x,y)]))),(o1,none),(o2,none)],none⟩)else .fail
        |_,_=>.fail
       |_,_=>.fail
     |_=>.fail
    else .fail
 else .fail
def zO(P:Program)(d:Nat)(t:TypeId)(len:Nat)(parts:Array (Nat×Operand)):Rd Eff:=.fail
def zP(P:Program)(hint:Bool)(d:Nat)(t:TypeId)(len:Nat)(parts:Array (Nat×Operand)):Rd Eff :=
 if(parts.toList.map (·.1))=List.range len/\len<=1000 then
  match bJ P t with
  |none=>.fail
  |some e=>if cr P e=some 1/\(iQ P e).isSome=true then
    match P.underlying e with
    |some (.int k)=>ie (parts.toList.map (·.2)) fun svs=>match ot k svs with
     |some l=>.abs d (.ret ⟨.c (.own d),[(d,some (.ints e k l))],none⟩)
     |none=>.fail
    |some .bool=>ie (parts.toList.map (·.2)) fun svs=>match ou svs with
     |some l=>.abs d (.ret ⟨.c (.own d),[(d,some (.bools e l))],none⟩)
     |none=>.fail
    |some .string=>ie (parts.toList.map (·.2)) fun svs=>match ow svs with
     |some l=>.abs d (.ret ⟨.c (.own d),[(d,some (.strs e l))],none⟩)
     |none=>.fail
    |some (.slice ei)=>ie (parts.toList.map (·.2)) fun svs=>lh hint svs fun pr=>match pr with
     |some (x::xs,fs)=>match fS (x::xs)with
      |some dd=>.abs d (.ret ⟨.c (.own d),(d,some (.lst 0 e dd))::fs,none⟩)
      |none=>.fail
     |_=>match ic P ei with
      |some ki=>ox ei ki svs [] fun ls os =>
        .abs d (.ret ⟨.c (.own d),(d,some (.rows 0 e ei ki ls))::os.map (fun o=>(o,none)),none⟩)
      |none=>match svs with
       | []=>match gt P t with
        |some dd=>d7 dd (.abs d (.ret ⟨.c (.own d),[(d,some (.lst 0 e dd))],none⟩))
        |none=>.fail
       |_=>.fail
    |_=>.fail
   else .fail
 else .fail
def zQ(P:Program)(d:Nat)(t:TypeId)(len:Nat)(parts:Array (Nat×Operand)):Rd Eff :=
 if(parts.toList.map (·.1))=List.range len/\len<=1000 then
  match bJ P t with
  |none=>.fail
  |some e=>if cr P e=some 1/\(iQ P e).isSome=true then
    match gt P t with
    |none=>.fail
    |some d0=>ie (parts.toList.map (·.2)) fun svs=>match svs with
     | []=>match sV P 4 t with
      |e1::e2::es=>if e1=e/\d0.dep=es.length+1 then d7 d0 (.abs d (.ret ⟨.c (.own d),[(d,some (.tr 0 (e1::e2::es) d0))],none⟩))else .fail
      |_=>.fail
     | [.c (.own o2)]=>.h o2 fun ob2=>match mS ob2 with
      |some (es2,y)=>match fS [y]with
       |some dd=>.abs d (.ret ⟨.c (.own d),[(d,some (.tr 0 (e::es2) dd)),(o2,none)],none⟩)
       |none=>.fail
      |none=>.fail
     | [.c (.own o1),.c (.own o2)]=>.h o1 fun ob1=>.h o2 fun ob2=>match mS ob1 with
      |some (es1,y1)=>match mS ob2 with
       |some (es2,y2)=>match fS [y1,y2]with
        |some dd=>match fD es1 es2&&!Nat.beq o1 o2 with
         |true=>.abs d (.ret ⟨.c (.own d),[(d,some (.tr 0 (e::es1) dd)),(o1,none),(o2,none)],none⟩)
         |false=>.fail
        |none=>.fail
       |none=>.fail
      |none=>.fail
     |_=>.fail
   else .fail
 else .fail
def zR(P:Program)(s:TypeId)(cx:SC)(f:Nat):Rd Eff :=
 match P.underlying s with
 |some (.struct fs)=>match fs[f]? with
  |none=>.fail
  |some fd=>match cr P fd.type with
   |some (_+1)=>match cx with
    |.ptr o i=>.h o fun
     |.box cs=>if i+fd.offset<cs.length then aD (.ptr o (i+fd.offset))else .fail
     |_=>.fail
    |.rob cs i=>aD (.rob cs (i+fd.offset))
    |.kptr o ver p j=>.h o fun
     |.tr ver' _ d=>match p with
      | []=>if ver=ver' then(match fd.offset with
       |0=>.ret ⟨.c (.kptr o ver [] j),[],some (j<d.cn)⟩
       |1=>.ret ⟨.c (.kptr o ver [] (j+1)),[],some (j+1<d.cn)⟩
       |_=>.fail)else .fail
      |_::_=>.fail
     |_=>.fail
    |_=>.fail
   |_=>.fail
 |_=>.fail
def zS(P:Program)(s:TypeId)(sv:SV)(f:Nat):Rd Eff :=
 match P.underlying s with
 |some (.struct fs)=>match fs[f]? with
  |none=>.fail
  |some fd=>match sv with
   |.agg cs=>match lg P fd.type with
    |some true=>match cr P fd.type with
     |some n=>if fd.offset+n<=cs.length then .ret ⟨.agg ((cs.drop fd.offset).take n),[],none⟩else .fail
     |none=>.fail
    |some false=>match cs[fd.offset]? with
     |some c=>aD c
     |none=>.fail
    |none=>.fail
   |_=>.fail
 |_=>.fail
def ab(n:Int)(len:Nat):Prop:=0<=n/\n<(len:Int)
def zT(P:Program)(t:TypeId)(cx ci:SC):Rd Eff :=
 match bJ P t with
 |none=>.fail
 |some e=>if cr P e=some 1 then
   match ci with
   |.int _ n=>match cx with
    |.own o=>.h o fun ob=>match ob with
     |.box _=>.fail
     |.bx _=>.fail
     |.strs _ l=>.ret ⟨.c (.ptr o n.toNat),[],some (ab n l.length)⟩
     |.ints _ _ l=>.ret ⟨.c (.ptr o n.toNat),[],some (ab n l.length)⟩
     |.bools _ l=>.ret ⟨.c (.ptr o n.toNat),[],some (ab n l.length)⟩
     |.rows _ _ _ _ l=>.ret ⟨.c (.ptr o n.toNat),[],some (ab n l.length)⟩
     |.lst _ _ d=>d7 d (.ret ⟨.c (.ptr o n.toNat),[],some (ab n d.len)⟩)
     |.frz _=>.fail
     |.mp _=>.fail
     |.qu _ _ l=>.ret ⟨.c (.qptr o n.toNat),[],some (ab n l.length)⟩
     |.rowsH _ _ _ _ l _=>.ret ⟨.c (.ptr o n.toNat),[],some (ab n l.length)⟩
     |.tr ver _ d=>d7 d (.ret ⟨.c (.kptr o ver [] n.toNat),[],some (ab n d.len)⟩)
     |.yd _ _ _ _=>.fail
     |.trk ver _ d _=>d7 d (.ret ⟨.c (.kptr o ver [] n.toNat),[],some (ab n d.len)⟩)
    |.kid o ver p=>.h o fun
     |.tr ver' _ d=>if ver=ver' then(match gJ d p with
      |some x=>d7 x (.ret ⟨.c (.kptr o ver p n.toNat),[],some (ab n x.len)⟩)
      |none=>.fail)else .fail
     |_=>.fail
    |.pre o len=>.h o fun ob=>jq ob (.ret ⟨.c (.ptr o n.toNat),[],some (ab n len)⟩)
    |.sub o off len=>.h o fun ob=>jq ob (.ret ⟨.c (.ptr o (off+n.toNat)),[],some (ab n len)⟩)
    |.row o ver i=>.h o fun
     |.rows ver' _ _ _ l=>if ver=ver' then .ret ⟨.c (.rptr o ver i n.toNat),[],some (ab n (l.getD i []).length)⟩else .fail
     |_=>.fail
    |.ro d=>match d with
     |.ints k l=>.ret ⟨.c (.rop (.ints k l) n.toNat),[],some (ab n l.length)⟩
     |.bools l=>.ret ⟨.c (.rop (.bools l) n.toNat),[],some (ab n l.length)⟩
     |.rows k l=>.ret ⟨.c (.rop (.rows k l) n.toNat),[],some (ab n l.length)⟩
     |.r3 k l=>.ret ⟨.c (.rop (.r3 k l) n.toNat),[],some (ab n l.length)⟩
     |.r4 k l=>.ret ⟨.c (.rop (.r4 k l) n.toNat),[],some (ab n l.length)⟩
     |_=>.fail
    |_=>.fail
   |_=>.fail
  else if cr P e=some 2 then
   match ci with
   |.int _ n=>match cx with
    |.own o=>.h o fun
     |.tr ver _ (.p3 k l)=>.ret ⟨.c (.kptr o ver [] (n.toNat*2)),[],some (ab n (FC.p3 k l).len)⟩
     |_=>.fail
    |.ro (.p3 k l)=>.ret ⟨.c (.rob [.rows k (l.getD n.toNat ([],[])).1,.rows k (l.getD n.toNat ([],[])).2] 0),[],some (ab n l.length)⟩
    |_=>.fail
   |_=>.fail
  else .fail
def s8(cx:SC):Rd Eff :=
 match cx with
 |.nil=>aD (.int .i64 0)
 |.str l=>aD (.int .i64 (l.length:Int))
 |.own o=>.h o fun ob=>match ob with
  |.box _=>.fail
  |.bx _=>.fail
  |.strs _ l=>aD (.int .i64 (l.length:Int))
  |.ints _ _ l=>aD (.int .i64 (l.length:Int))
  |.bools _ l=>aD (.int .i64 (l.length:Int))
  |.rows _ _ _ _ l=>aD (.int .i64 (l.length:Int))
  |.lst _ _ d=>aD (.int .i64 (d.len:Int))
  |.frz _=>.fail
  |.mp _=>.fail
  |.qu _ _ l=>aD (.int .i64 (l.length:Int))
  |.rowsH _ _ _ _ l _=>aD (.int .i64 (l.length:Int))
  |.tr _ _ d=>aD (.int .i64 (d.len:Int))
  |.yd _ _ _ _=>.fail
  |.trk _ _ d _=>aD (.int .i64 (d.len:Int))
 |.kid o ver p=>.h o fun
  |.tr ver' _ d=>if ver=ver' then(match gJ d p with
   |some x=>aD (.int .i64 (x.len:Int))
   |none=>.fail)else .fail
  |_=>.fail
 |.pre o n=>.h o fun ob=>jq ob (aD (.int .i64 (n:Int)))
 |.sub o _ n=>.h o fun ob=>jq ob (aD (.int .i64 (n:Int)))
 |.row o ver i=>.h o fun
  |.rows ver' _ _ _ l=>if ver=ver' then aD (.int .i64 ((l.getD i []).length:Int))else .fail
  |_=>.fail
 |.ro d=>match d with
  |.ints _ l=>aD (.int .i64 (l.length:Int))
  |.bools l=>aD (.int .i64 (l.length:Int))
  |.rows _ l=>aD (.int .i64 (l.length:Int))
  |.r3 _ l=>aD (.int .i64 (l.length:Int))
  |.r4 _ l=>aD (.int .i64 (l.length:Int))
  |.p3 _ l=>aD (.int .i64 (l.length:Int))
  |_=>.fail
 |_=>.fail
def jV{α:Type}(x:Option Operand)(k:Option Int->Rd α):Rd α :=
 match x with
 |none=>k none
 |some y=>cf y fun
  |.int _ n=>k (some n)
  |_=>.fail
def av(L:Nat):Option Int->Option Int->Prop
 |none,none=>True
 |none,some h=>0<=h/\h<=(L:Int)
 |some l,none=>0<=l/\l<=(L:Int)
 |some l,some h=>0<=l/\l<=h/\h<=(L:Int)
def dl{α:Type}(r:List α):Option Int->Option Int->List α
 |none,none=>r
 |none,some h=>r.take h.toNat
 |some l,none=>r.drop l.toNat
 |some l,some h=>(r.take h.toNat).drop l.toNat
def jW(o L:Nat):Option Int->Option Int->SC
 |none,none=>.pre o L
 |none,some h=>.pre o h.toNat
 |some l,none=>.sub o l.toNat (L-l.toNat)
 |some l,some h=>.sub o l.toNat (h.toNat-l.toNat)
def HL(o off L:Nat):Option Int->Option Int->SC
 |none,none=>.sub o off L
 |none,some h=>.sub o off h.toNat
 |some l,none=>.sub o (off+l.toNat) (L-l.toNat)
 |some l,some h=>.sub o (off+l.toNat) (h.toNat-l.toNat)
def oy(P:Program)(t:TypeId)(cx:SC)(lo hi:Option Operand):Rd Eff :=
 match cx with
 |.str r=>match P.underlying t with
  |some .string=>jV lo fun l=>jV hi fun h=>.ret ⟨.c (.str (dl r l h)),[],some (av r.length l h)⟩
  |_=>.fail
 |cx=>match bJ P t with
  |none=>.fail
  |some e=>if cr P e=some 1 then
    jV lo fun l=>jV hi fun h=>match cx with
     |.own o=>.h o fun
      |.box _=>.fail
      |.bx _=>.fail
      |.strs _ _=>.fail
      |.ints _ _ r=>.ret ⟨.c (jW o r.length l h),[],some (av r.length l h)⟩
      |.bools _ r=>.ret ⟨.c (jW o r.length l h),[],some (av r.length l h)⟩
      |.rows _ _ _ _ r=>.ret ⟨.c (jW o r.length l h),[],some (av r.length l h)⟩
      |.lst _ _ d=>d7 d (.ret ⟨.c (jW o d.len l h),[],some (av d.len l h)⟩)
      |.frz _=>.fail
      |.mp _=>.fail
      |.qu _ _ _=>.fail
      |.rowsH _ _ _ _ _ _=>.fail
      |.tr _ _ _=>.fail
      |.yd _ _ _ _=>.fail
      |.trk _ _ _ _=>.fail
     |.pre o L=>.h o fun ob=>jq ob (.ret ⟨.c (jW o L l h),[],some (av L l h)⟩)
     |.sub o off L=>.h o fun ob=>jq ob (.ret ⟨.c (HL o off L l h),[],some (av L l h)⟩)
     |.ro d=>match d with
      |.ints k r=>.ret ⟨.c (.ro (.ints k (dl r l h))),[],some (av r.length l h)⟩
      |.bools r=>.ret ⟨.c (.ro (.bools (dl r l h))),[],some (av r.length l h)⟩
      |.rows k r=>.ret ⟨.c (.ro (.rows k (dl r l h))),[],some (av r.length l h)⟩
      |.r3 k r=>.ret ⟨.c (.ro (.r3 k (dl r l h))),[],some (av r.length l h)⟩
      |.r4 k r=>.ret ⟨.c (.ro (.r4 k (dl r l h))),[],some (av r.length l h)⟩
      |_=>.fail
     |_=>.fail
   else .fail
def s9(P:Program)(d:Nat)(t:TypeId)(cx:SC)(lo hi:Option Operand):Rd Eff :=
 match cx with
 |.own o=>.h o fun
  |.qu e k l=>match bJ P t,hi with
   |some e',none=>if cr P e'=some 1 then
     jV lo fun
      |some n=>.abs d (.ret ⟨.c (.own d),[(d,some (.qu e k (l.drop n.toNat))),(o,none)],some (0<=n/\n<=(l.length:Int))⟩)
      |none=>.fail
    else .fail
   |_,_=>.fail
  |_=>oy P t (.own o) lo hi
 |cx=>oy P t cx lo hi
def ta(h:Int):Ob->Option (Nat×Ob)
 |.ints e k r=>some (r.length,.ints e k (r.take h.toNat))
 |.lst _ e d=>match d with
  |.rows k r=>some (r.length,.lst 0 e (.rows k (r.take h.toNat)))
  |_=>none
 |_=>none
def zU(P:Program)(d:Nat)(t:TypeId)(cx:SC)(lo hi:Option Operand):Rd Eff :=
 match cx,lo with
 |.own o,none=>.h o fun ob=>match bJ P t with
  |some e=>if cr P e=some 1 then jV hi fun
    |some n=>match ta n ob with
     |some (L,ob')=>.abs d (.ret ⟨.c (.own d),[(d,some ob'),(o,none)],some (0<=n/\n<=(L:Int))⟩)
     |none=>.fail
    |none=>.fail
   else .fail
  |none=>.fail
 |_,_=>.fail
def ig(P:Program)(e:TypeId):Bool :=
 match P.info? e with
 |some i=>Nat.ble i.bytes 128&&Nat.beq i.size 1&&(match i.zero with|some z=>Nat.beq z.cells.size 1|none=>false)
 |none=>false
def zV(P:Program)(e:TypeId):Bool :=
 match P.info? e with
 |some i=>Nat.ble i.bytes 128&&Nat.beq i.size 2&&(match i.zero with|some z=>Nat.beq z.cells.size 2|none=>false)
 |none=>false
def mT(P:Program)(e:TypeId)(c:SC):Bool :=
 match P.info? e with
 |some i=>match i.zero with
  |some (.int k n)=>match c with
   |.int k' n'=>decide (k=k'/\n=n')
   |_=>false
  |some (.bool b)=>match c with
   |.bool b'=>b == b'
   |_=>false
  |some (.slice none 0 0)=>match c with
   |.nil=>true
   |_=>false
  |_=>false
 |none=>false
def zW(P:Program)(d:Nat)(t:TypeId)(cl cc:SC):Rd Eff :=
 match bJ P t with
 |none=>.fail
 |some e=>if ig P e then
   match cl,cc with
   |.int _ n,.int _ m=>match P.underlying e with
    |some (.int k)=>if mT P e (.int k 0)then .abs d (.ret ⟨.c (.own d),[(d,some (.ints e k (List.replicate n.toNat 0)))],some (0<=n/\n<=m/\ag m.toNat)⟩)else .fail
    |some .bool=>if mT P e (.bool false)then .abs d (.ret ⟨.c (.own d),[(d,some (.bools e (List.replicate n.toNat false)))],some (0<=n/\n<=m/\ag m.toNat)⟩)else .fail
    |some (.slice ei)=>match ic P ei with
     |some k=>if mT P e .nil then .abs d (.ret ⟨.c (.own d),[(d,some (.rows 0 e ei k (List.replicate n.toNat [])))],some (0<=n/\n<=m/\ag m.toNat)⟩)else .fail
     |none=>match gt P t with
      |some d0=>match zG d0 n.toNat,sV P 4 t with
       |some dd,e1::e2::es=>if mT P e .nil=true/\e1=e/\d0.dep=es.length+1 then .abs d (.ret ⟨.c (.own d),[(d,some (.tr 0 (e1::e2::es) dd))],some (0<=n/\n<=m/\ag m.toNat)⟩)else .fail
       |_,_=>.fail
      |none=>.fail
    |_=>.fail
   |_,_=>.fail
  else .fail
def oz(k:IntKind)(c:SC)(K:List Int->Rd Eff):Rd Eff :=
 match c with
 |.nil=>K []
 |.own o=>.h o fun
  |.ints _ k' l=>if k'=k then K l else .fail
  |_=>.fail
 |.pre o n=>.h o fun
  |.ints _ k' l=>if k'=k then K (l.take n)else .fail
  |_=>.fail
 |.sub o off n=>.h o fun
  |.ints _ k' l=>if k'=k then K ((l.drop off).take n)else .fail
  |_=>.fail
 |.row o ver i=>.h o fun
  |.rows ver' _ _ k' l=>if k'=k/\ver=ver' then K (l.getD i [])else .fail
  |_=>.fail
 |.ro d=>match d with
  |.ints k' l=>if k'=k then K l else .fail
  |_=>.fail
 |_=>.fail
def tc(c:SC)(K:List Bool->Rd Eff):Rd Eff :=
 match c with
 |.nil=>K []
 |.own o=>.h o fun
  |.bools _ l=>K l
  |_=>.fail
 |.ro d=>match d with
  |.bools l=>K l
  |_=>.fail
 |_=>.fail
def zX(c:SC)(K:List (List UInt8)->Rd Eff):Rd Eff :=
 match c with
 |.own o=>.h o fun
  |.strs _ l=>K l
  |_=>.fail
 |_=>.fail
def zY(c:SC)(K:FC->List (Nat×Option Ob)->Rd Eff):Rd Eff :=
 match c with
 |.ro d=>K d []
 |.own o=>.h o fun
  |.lst _ _ d=>K d []
  |.rows _ _ _ k l=>K (.rows k l) [(o,some (.frz (.rows k l)))]
  |_=>.fail
 |.pre o n=>.h o fun
  |.lst _ _ d=>match bT 0 n d with
   |some d'=>K d' []
   |none=>.fail
  |_=>.fail
 |.sub o off n=>.h o fun
  |.lst _ _ d=>match bT off n d with
   |some d'=>K d' []
   |none=>.fail
  |_=>.fail
 |_=>.fail
def mU(o:Nat):List (Nat×Option Ob)->Bool
 | []=>true
 |(o',_)::l=>!(Nat.beq o' o)&&mU o l
def jX(wd d:Nat)(e:TypeId)(cx cy:SC):Rd Eff :=
 zY cy fun dy fy=>match cx with
  |.nil=>if dE dy=false/\dy.wid=wd then .abs d (.ret ⟨.c (.own d),(d,some (.lst 0 e dy))::fy,some (ag dy.len)⟩)else .fail
  |.own o=>.h o fun
   |.lst _ e1 dx=>match iP dx dy with
    |some dd=>if e1=e/\mU o fy=true/\dy.wid=wd then .abs d (.ret ⟨.c (.own d),(d,some (.lst 0 e dd))::(o,none)::fy,some (ag (dx.len+dy.len))⟩)else .fail
    |none=>.fail
   |.rows _ e1 _ k l=>match iP (.rows k l) dy with
    |some dd=>if e1=e/\mU o fy=true/\dy.wid=wd then .abs d (.ret ⟨.c (.own d),(d,some (.lst 0 e dd))::(o,none)::fy,some (ag (l.length+dy.len))⟩)else .fail
    |none=>.fail
   |_=>.fail
  |.pre o n=>.h o fun
   |.lst _ e1 dx=>match bT 0 n dx with
    |some dx'=>match iP dx' dy with
     |some dd=>if e1=e/\mU o fy=true/\dy.wid=wd then .abs d (.ret ⟨.c (.own d),(d,some (.lst 0 e dd))::(o,none)::fy,some (ag (n+dy.len))⟩)else .fail
     |none=>.fail
    |none=>.fail
   |_=>.fail
  |_=>.fail
def oA(wd d:Nat)(e:TypeId)(cx:SC)(o2:Nat)(es2:List TypeId)(dy:FC):Rd Eff :=
 match cx with
 |.own o=>.h o fun
  |.tr _ es dx=>match iP dx dy with
   |some dd=>if fD es es2=true/\es.head?=some e/\o≠o2/\dy.wid=wd then .abs d (.ret ⟨.c (.own d),[(d,some (.tr 0 es dd)),(o,none),(o2,none)],some (ag (dx.len+dy.len))⟩)else .fail
   |none=>.fail
  |_=>.fail
 |_=>.fail
def iS(id o ver:Nat)(e ei:TypeId)(k:IntKind)(l:List (List Int))(hs:List Nat)(i:Nat):List (Nat×Option Ob) :=
 [(id,some (.ints ei k (l.getD i []))),(o,some (.rowsH ver e ei k l hs))]
def zZ(P:Program)(d:Nat)(t:TypeId)(cx cy:SC):Rd Eff :=
 match bJ P t with
 |none=>.fail
 |some e=>if ig P e then
   match P.underlying e with
   |some (.int k)=>oz k cy fun ys=>match cx with
    |.nil=>.abs d (.ret ⟨.c (.own d),[(d,some (.ints e k ys))],some (ag ys.length)⟩)
    |.emp=>.abs d (.ret ⟨.c (.own d),[(d,some (.ints e k ys))],some (ys.length≠0/\ag ys.length)⟩)
    |.own o=>.h o fun
     |.ints e' k' l=>if e'=e/\k'=k then .abs d (.ret ⟨.c (.own d),[(d,some (.ints e k (l++ys))),(o,none)],some (ag (l.length+ys.length))⟩)else .fail
     |.qu e' k' l=>if e'=e/\k'=k then .abs d (.ret ⟨.c (.own d),[(d,some (.qu e k (l++ys))),(o,none)],some (ys.length≠0/\ag (l.length+ys.length))⟩)else .fail
     |_=>.fail
    |.pre o n=>.h o fun
     |.ints e' k' l=>if e'=e/\k'=k then .abs d (.ret ⟨.c (.own d),[(d,some (.ints e k (l.take n++ys))),(o,none)],some (ag (n+ys.length))⟩)else .fail
     |_=>.fail
    |.row o ver i=>.h o fun
     |.rows ver' e1 ei k' l=>if ver'=ver/\ei=e/\k'=k then .abs d (.abs (d+500000) (.ret ⟨.c (.own d),[(d,some (.ints e k (l.getD i []++ys))),(d+500000,none)]++iS (d+500000) o (ver+1) e1 ei k l [i] i,some (ag ((l.getD i []).length+ys.length))⟩))else .fail
     |_=>.fail
    |_=>.fail
   |some .bool=>tc cy fun ys=>match cx with
    |.nil=>.abs d (.ret ⟨.c (.own d),[(d,some (.bools e ys))],some (ag ys.length)⟩)
    |.own o=>.h o fun
     |.bools e' l=>if e'=e then .abs d (.ret ⟨.c (.own d),[(d,some (.bools e (l++ys))),(o,none)],some (ag (l.length+ys.length))⟩)else .fail
     |_=>.fail
    |_=>.fail
   |some .string=>zX cy fun ys=>match cx with
    |.own o=>.h o fun
     |.strs e' l=>if e'=e then .abs d (.ret ⟨.c (.own d),[(d,some (.strs e (l++ys))),(o,none)],some (ag (l.length+ys.length))⟩)else .fail
     |_=>.fail
    |_=>.fail
   |some (.slice _)=>match cy with
    |.own o2=>.h o2 fun
     |.rows _ e2 ei2 k2 ys=>if e2=e then
       match cx with
       |.nil=>.abs d (.ret ⟨.c (.own d),[(d,some (.rows 0 e ei2 k2 ys)),(o2,none)],some (ag ys.length)⟩)
       |.own o=>.h o fun
        |.rows _ e1 ei1 k1 l=>if e1=e/\ei1=ei2/\k1=k2/\o≠o2 then
          .abs d (.ret ⟨.c (.own d),[(d,some (.rows 0 e ei2 k2 (l++ys))),(o,none),(o2,none)],some (ag (l.length+ys.length))⟩)else .fail
        |_=>jX 1 d e cx cy
       |_=>jX 1 d e cx cy
      else .fail
     |.tr _ es2 dy=>oA 1 d e cx o2 es2 dy
     |_=>jX 1 d e cx cy
    |_=>jX 1 d e cx cy
   |some (.struct _)=>match cy with
    |.own o2=>.h o2 fun
     |.tr _ es2 dy=>oA 1 d e cx o2 es2 dy
     |_=>.fail
    |_=>.fail
   |_=>.fail
  else match zV P e with
   |false=>.fail
   |true=>match cy with
    |.own o2=>.h o2 fun
     |.tr _ es2 dy=>oA 2 d e cx o2 es2 dy
     |_=>jX 2 d e cx cy
    |_=>jX 2 d e cx cy
def Aa(P:Program)(d:Nat)(t:TypeId)(cx cy:SC):Rd Eff:=.fail
def Ab(sv:SV)(i:Nat):Rd Eff :=
 match sv with
 |.tup l=>match l[i]? with
  |some (.inl c)=>aD c
  |some (.inr cs)=>.ret ⟨.agg cs,[],none⟩
  |none=>.fail
 |_=>.fail
def Ac(P:Program)(t:TypeId)(cx ci:SC):Rd Eff:=.fail
def b6(o:Nat):List Nat->Bool
 | []=>true
 |x::l=>match Nat.beq x o with
  |true=>false
  |false=>b6 o l
def memP(i j:Nat):List (Nat×Nat)->Bool
 | []=>false
 |(a,b)::l=>(Nat.beq a i&&Nat.beq b j)||memP i j l
def dP{α:Type}(hid:List Nat)(o:Nat)(K:Ob->Rd α):Rd α :=
 match b6 o hid with
 |true=>.h o K
 |false=>.fail
def jr{α:Type}(hid:List Nat)(nl:Option FC)(c:SC)(K:FC->Rd α):Rd α :=
 match c with
 |.int k n=>K (.int k n)
 |.bool b=>K (.bool b)
 |.str l=>K (.str l)
 |.nil=>match nl with
  |some d=>K d
  |none=>.fail
 |.own o=>dP hid o fun ob=>match ob with
  |.frz d=>K d
  |ob=>match eR ob with
   |some d=>K d
   |none=>.fail
 |.pre o n=>dP hid o fun ob=>match eR ob with
  |some d=>match bT 0 n d with
   |some d=>K d
   |none=>.fail
  |none=>.fail
 |.sub o off n=>dP hid o fun ob=>match eR ob with
  |some d=>match bT off n d with
   |some d=>K d
   |none=>.fail
  |none=>.fail
 |.row o ver i=>dP hid o fun
  |.rows ver' _ _ k l=>if ver=ver' then K (.ints k (l.getD i []))else .fail
  |_=>.fail
 |.kid o ver p=>dP hid o fun
  |.tr ver' _ d=>if ver=ver' then(match gJ d p with
   |some x=>K x
   |none=>.fail)else .fail
  |_=>.fail
 |.ro d=>K d
 |.orig _ _ d=>K d
 |.bsl o _=>dP hid o fun
  |.box cs=>match sZ cs with
   |some ls=>K (.rows .i64 ls)
   |none=>.fail
  |_=>.fail
 |_=>.fail
def Ad{α:Type}(c:SC)(K:FC->Rd α):Rd α :=
 match c with
 |.own o=>.h o fun ob=>match eR ob with
  |some d=>K d
  |none=>.fail
 |_=>.fail
def mV{α:Type}(hid:List Nat)(mt:List (Nat×Nat))(i j:Nat)(nl:Option FC)(c:SC)(K:FC->Rd α):Rd α :=
 match memP i j mt with
 |true=>Ad c K
 |false=>jr hid nl c K
def td(P:Program)(t:TypeId):List TypeId :=
 match P.underlying t with
 |some (.struct fs)=>fs.toList.flatMap fun f=>match P.underlying f.type with
  |some (.struct gs)=>gs.toList.map (·.type)
  |_=>[f.type]
 |_=>[t]
def HM(P:Program):List TypeId->Option FC
 |t::_=>gt P t
 | []=>none
def js{α:Type}(P:Program)(hid:List Nat)(mt:List (Nat×Nat))(i:Nat):Nat->List SC->List TypeId->(List FC->Rd α)->Rd α
 |_,[],_,K=>K []
 |j,c::cs,ts,K=>mV hid mt i j (HM P ts) c fun d=>js P hid mt i (j+1) cs ts.tail fun ds=>K (d::ds)
def HN(P:Program)(t:TypeId):TypeId :=
 match P.underlying t with
 |some (.pointer e)=>e
 |_=>t
def mW(ct:Option Post):Bool:=match ct with
 |some ⟨_,.c (.bool b),[]⟩=>b
 |_=>false
def li(ct:Option Post):Prop:=match ct with
 |some ⟨p,.c (.bool _),[]⟩=>p
 |_=>False
def jY(ct:Option Post):Int:=match ct with
 |some ⟨_,.c (.int .i64 n),[]⟩=>n
 |_=>0
def jZ(ct:Option Post):Prop:=match ct with
 |some ⟨p,.c (.int .i64 _),[]⟩=>p
 |_=>False
def HO(P:Program)(t:TypeId):Nat :=
 match P.underlying t with
 |some (.int .i64)=>1
 |some (.slice e)=>match P.underlying e with
  |some (.slice _)=>4
  |_=>2
 |some .bool=>3
 |_=>0
def Ae(ps rs:List Nat)(ct:List AD->Option Post)(cds:List AD):Option FV :=
 match ps,rs with
 | [1],[3]=>some (.ib (fun x=>li (ct (.c (.int .i64 x)::cds))) (fun x=>mW (ct (.c (.int .i64 x)::cds))))
 | [2],[3]=>some (.lb (fun x=>li (ct (.c (.ints .i64 x)::cds))) (fun x=>mW (ct (.c (.ints .i64 x)::cds))))
 | [1,1],[1]=>some (.iii (fun x y=>jZ (ct (.c (.int .i64 x)::.c (.int .i64 y)::cds))) (fun x y=>jY (ct (.c (.int .i64 x)::.c (.int .i64 y)::cds))))
 | [1,1],[3]=>some (.iib (fun x y=>li (ct (.c (.int .i64 x)::.c (.int .i64 y)::cds))) (fun x y=>mW (ct (.c (.int .i64 x)::.c (.int .i64 y)::cds))))
 | [2,2],[1]=>some (.lli (fun x y=>jZ (ct (.c (.ints .i64 x)::.c (.ints .i64 y)::cds))) (fun x y=>jY (ct (.c (.ints .i64 x)::.c (.ints .i64 y)::cds))))
 | [2,2],[3]=>some (.llb (fun x y=>li (ct (.c (.ints .i64 x)::.c (.ints .i64 y)::cds))) (fun x y=>mW (ct (.c (.ints .i64 x)::.c (.ints .i64 y)::cds))))
 | [4],[3]=>some (.tb (fun x=>li (ct (.c (.rows .i64 x)::cds))) (fun x=>mW (ct (.c (.rows .i64 x)::cds))))
 | [1],[1]=>some (.ii (fun x=>jZ (ct (.c (.int .i64 x)::cds))) (fun x=>jY (ct (.c (.int .i64 x)::cds))))
 |_,_=>none
def Af:List SC->Option Nat
 | [.ptr o 0]=>some o
 |_=>none
def jt{α:Type}(P:Program)(hid:List Nat):List SC->(List AD->Rd α)->Rd α
 | [],K=>K []
 |c::cs,K=>match c with
  |.ptr o 0=>dP hid o fun
   |.box xs=>match Af xs with
    |some o2=>dP hid o2 fun
     |.box ys=>js P hid [] 0 0 ys [] fun ds=>jt P hid cs fun r=>K (.bb ds::r)
     |_=>.fail
    |none=>js P hid [] 0 0 xs [] fun ds=>jt P hid cs fun r=>K (.box ds::r)
   |_=>.fail
  |c=>jr hid none c fun d=>jt P hid cs fun r=>K (.c d::r)
def mX{α:Type}(P:Program)(Γ:FuncId->Option Ctr)(hid:List Nat)(mt:List (Nat×Nat))(i:Nat)(t:TypeId)(sv:SV)(K:AD->Rd α):Rd α :=
 match sv with
 |.c c=>match c with
  |.ptr o x=>match x with
   |0=>dP hid o fun
    |.box xs=>js P hid [] 0 0 xs (td P (HN P t)) fun ds=>K (.box ds)
    |_=>.fail
   |_+1=>.fail
  |.rob cs x=>match x with
   |0=>K (.box cs)
   |_+1=>.fail
  |c=>mV hid mt i 0 (gt P t) c fun d=>K (.c d)
 |.agg cs=>js P hid mt i 0 cs (td P t) fun ds=>K (.agg ds)
 |.fv F=>K (.fv F)
 |.fn f caps=>match P.underlying t with
  |some (.func ps rs _)=>match Γ f with
    |none=>.fail
    |some ⟨[],ct⟩=>jt P hid caps fun cds=>match Ae (ps.toList.map (HO P)) (rs.toList.map (HO P)) ct cds with
     |some F=>K (.fv F)
     |none=>.fail
    |some ⟨_::_,_⟩=>.fail
  |_=>.fail
 |.fvs _ _=>.fail
 |.tup _=>.fail
def il{α:Type}(P:Program)(Γ:FuncId->Option Ctr)(hid:List Nat)(mt:List (Nat×Nat)):Nat->List SV->List TypeId->(List AD->Rd α)->Rd α
 |_,[],_,K=>K []
 |i,sv::svs,ts,K=>mX P Γ hid mt i (ts.headD 0) sv fun ad=>il P Γ hid mt (i+1) svs ts.tail fun ads=>K (ad::ads)
def gO:RC->Option Ob
 |.ints e k l=>some (.ints e k l)
 |.bools e l=>some (.bools e l)
 |.rows e ei k l=>some (.rows 0 e ei k l)
 |.bx cs=>some (.box (cs.map c8))
 |.strs e l=>some (.strs e l)
 |.cut _ _ e ei k l=>some (.rows 0 e ei k l)
 |.lst e d=>some (.lst 0 e d)
 |.tr es d=>some (.tr 0 es d)
 |_=>none
def j8(id:Nat):RC->SC
 |.int k n=>.int k n
 |.bool b=>.bool b
 |.str l=>.str l
 |.ints _ _ _=>.own id
 |.bools _ _=>.own id
 |.rows _ _ _ _=>.own id
 |.nilq b=>.nilq b
 |.ro d=>.ro d
 |.bx _=>.ptr id 0
 |.strs _ _=>.own id
 |.cut off n _ _ _ _=>.sub id off n
 |.lst _ _=>.own id
 |.gone _=>.any
 |.tr _ _=>.own id
def mY:Nat->List RC->List (Nat×RC)
 |_,[]=>[]
 |j,x::l=>(j,x)::mY (j+1) l
def lj:Nat->List (RC ⊕ List RC)->List (Nat×RC)
 |_,[]=>[]
 |i,.inl x::l=>(16*i,x)::lj (i+1) l
 |i,.inr xs::l=>mY (16*i) xs++lj (i+1) l
def dr:RV->List (Nat×RC)
 |.c x=>[(0,x)]
 |.agg l=>mY 0 l
 |.tup l=>lj 0 l
 |.st _ _ _=>[]
def io(d:Nat):Nat->List RC->List SC
 |_,[]=>[]
 |j,x::l=>j8 (d+1000*j) x::io d (j+1) l
def ju(d:Nat):Nat->List (RC ⊕ List RC)->List (SC ⊕ List SC)
 |_,[]=>[]
 |i,.inl x::l=>.inl (j8 (d+1000*(16*i)) x)::ju d (i+1) l
 |i,.inr xs::l=>.inr (io d (16*i) xs)::ju d (i+1) l
def mZ(d:Nat):RV->SV
 |.c x=>.c (j8 (d+1000*0) x)
 |.agg l=>.agg (io d 0 l)
 |.tup l=>.tup (ju d 0 l)
 |.st _ _ _=>.c .any
def oB:List FC->Bool
 | []=>true
 |d::l=>dE d&&oB l
def te:RC->Bool
 |.ro _=>true
 |.lst _ _=>true
 |.bx cs=>!oB cs
 |_=>false
def roL:List (Nat×RC)->Bool
 | []=>false
 |(_,rc)::l=>te rc||roL l
def lm(rv:RV):Bool:=roL (dr rv)
def tg:SC->Option FC
 |.int k n=>some (.int k n)
 |.bool b=>some (.bool b)
 |.str l=>some (.str l)
 |.ro d=>some d
 |_=>none
def Ag:SV->Option AD
 |.c c=>match tg c with
  |some d=>some (.c d)
  |none=>none
 |.agg l=>match d6 tg l with
  |some ds=>some (.agg ds)
  |none=>none
 |_=>none
def Ah(c:Option Ctr)(svs:List SV):Option (List AD×Prop×RV) :=
 match c with
 |some ⟨[],ct⟩=>match d6 Ag svs with
  |some ads=>match ct ads with
   |some ⟨pre,ret,[]⟩=>match lm ret with
    |true=>some (ads,pre,ret)
    |false=>none
   |_=>none
  |none=>none
 |_=>none
def eo(d:Nat):List (Nat×RC)->List (Nat×Option Ob)
 | []=>[]
 |(i,rc)::l=>match gO rc with
  |some ob=>(d+1000*i,some ob)::eo d l
  |none=>eo d l
def m6{α:Type}(ids:List (Nat×Option Ob))(k:Rd α):Rd α :=
 match ids with
 | []=>k
 |(i,_)::l=>.abs i (m6 l k)
def eU:List Nat->Bool
 | []=>true
 |i::l=>b6 i l&&eU l
def m7(svs:List SV):List (Nat×Nat)->Option (List Nat)
 | []=>some []
 |(i,j)::l=>match svs[i]? with
  |some sv=>match iR sv with
   |some cs=>match cs[j]? with
    |some (.own o)=>match m7 svs l with
     |some os=>some (o::os)
     |none=>none
    |_=>none
   |none=>none
  |none=>none
def gu:List FC->List FC->Option Prop
 | [],[]=>some True
 |.int k _::l,.int k' _::l'=>if k=k' then gu l l' else none
 |.bool _::l,.bool _::l'=>gu l l'
 |.str _::l,.str _::l'=>gu l l'
 |.ints k a::l,.ints k' a'::l'=>if k=k' then(match gu l l' with|some p=>some (a=a'/\p)|none=>none)else none
 |.bools a::l,.bools a'::l'=>(match gu l l' with|some p=>some (a=a'/\p)|none=>none)
 |.rows k a::l,.rows k' a'::l'=>if k=k' then(match gu l l' with|some p=>some (a=a'/\p)|none=>none)else none
 |.r3 k a::l,.r3 k' a'::l'=>if k=k' then(match gu l l' with|some p=>some (a=a'/\p)|none=>none)else none
 |.r4 k a::l,.r4 k' a'::l'=>if k=k' then(match gu l l' with|some p=>some (a=a'/\p)|none=>none)else none
 |_,_=>none
def cU:Ob->RC->Option (Ob×Prop)
 |.ints e k r,.ints e' k' r'=>if e=e'/\k=k' then some (.ints e k r',r'.length=r.length)else none
 |.bools e r,.bools e' r'=>if e=e' then some (.bools e r',r'.length=r.length)else none
 |.rows ver e ei k r,.rows e' ei' k' r'=>if e=e'/\ei=ei'/\k=k' then some (.rows ver e ei k r',r'.map List.length=r.map List.length)else none
 |.bx cs,.bx cs'=>match gu cs cs' with
  |some p=>some (.bx cs',p)
  |none=>none
 |.tr ver es r,.tr es' r'=>match fD es es'&&Nat.beq r.wid r'.wid with
  |true=>some (.tr ver es r',r'.len=r.len)
  |false=>none
 |.lst ver e d,.gone (.lst e' _)=>if e=e' then some (.lst ver e d,True)else none
 |.ints e k l,.gone (.ints e' k' _)=>if e=e'/\k=k' then some (.ints e k l,True)else none
 |.rows ver e ei k l,.gone (.rows e' ei' k' _)=>if e=e'/\ei=ei'/\k=k' then some (.rows ver e ei k l,True)else none
 |_,_=>none
def m8(rc:RC)(ob:Ob):Option Ob:=match rc.isGone with
 |true=>none
 |false=>some ob
def lq{α:Type}:List Nat->List RC->(List (Nat×Option Ob)->Prop->Rd α)->Rd α
 | [],[],K=>K [] True
 |o::os,rc::rcs,K=>.h o fun ob=>match cU ob rc with
  |some (ob',p)=>lq os rcs fun ups q=>K ((o,m8 rc ob')::ups) (p/\q)
  |none=>.fail
 |_,_,_=>.fail
def ti{α:Type}(hid:List Nat)(nl:Option FC)(c:SC)(K:FC->List (Nat×Option Ob)->Rd α):Rd α :=
 match c with
 |.int k n=>K (.int k n) []
 |.bool b=>K (.bool b) []
 |.str l=>K (.str l) []
 |.nil=>match nl with
  |some d=>K d []
  |none=>.fail
 |.ro d=>K d []
 |.own o=>dP hid o fun ob=>match fE ob with
  |some d=>K d [(o,some (.frz d))]
  |none=>.fail
 |.pre o n=>dP hid o fun ob=>match fE ob with
  |some d=>match bT 0 n d with
   |some d'=>K d' [(o,some (.frz d))]
   |none=>.fail
  |none=>.fail
 |.sub o off n=>dP hid o fun ob=>match fE ob with
  |some d=>match bT off n d with
   |some d'=>K d' [(o,some (.frz d))]
   |none=>.fail
  |none=>.fail
 |_=>.fail
def tj{α:Type}(P:Program)(hid:List Nat):List SC->List TypeId->(List FC->List (Nat×Option Ob)->Rd α)->Rd α
 | [],_,K=>K [] []
 |c::cs,ts,K=>ti hid (HM P ts) c fun d fs=>tj P hid cs ts.tail fun ds gs=>K (d::ds) (fs++gs)
def Ai{α:Type}(P:Program)(hid:List Nat)(mt:List (Nat×Nat))(i:Nat)(t:TypeId)(sv:SV)(K:AD->List (Nat×Option Ob)->Rd α):Rd α :=
 match sv with
 |.c c=>match memP i 0 mt with
  |true=>Ad c fun d=>K (.c d) []
  |false=>ti hid (gt P t) c fun d fs=>K (.c d) fs
 |.agg cs=>tj P hid cs (td P t) fun ds fs=>K (.agg ds) fs
 |.fv F=>K (.fv F) []
 |_=>.fail
def tp{α:Type}(P:Program)(hid:List Nat)(mt:List (Nat×Nat)):Nat->List SV->List TypeId->(List AD->List (Nat×Option Ob)->Rd α)->Rd α
 |_,[],_,K=>K [] []
 |i,sv::svs,ts,K=>Ai P hid mt i (ts.headD 0) sv fun ad fs=>tp P hid mt (i+1) svs ts.tail fun ads gs=>K (ad::ads) (fs++gs)
def tu(svs:List SV):List (Nat×Nat)->Bool
 | []=>true
 |(i,j)::l=>(match svs[i]? with|some (.c _)=>Nat.beq j 0|_=>false)&&tu svs l
def tv(P:Program)(d:Nat)(mt:List (Nat×Nat))(ct:List AD->Option Post)(hid:List Nat)(svs:List SV)(ts:List TypeId):Rd Eff :=
 match tu svs mt with
 |false=>.fail
 |true=>tp P hid mt 0 svs ts fun ads fs=>match ct ads with
  |none=>.fail
  |some ⟨pre,ret,wrs⟩=>lq hid wrs fun ups p =>
   m6 (eo d (dr ret)) (.ret ⟨mZ d ret,eo d (dr ret)++(ups++fs),some (pre/\p)⟩)
def gv(P:Program)(Γ:FuncId->Option Ctr)(d:Nat)(f:FuncId)(svs:List SV)(ts:List TypeId):Rd Eff :=
 match Γ f with
 |none=>.fail
 |some ⟨mt,ct⟩=>match m7 svs mt with
  |none=>.fail
  |some hid=>match eU hid with
   |false=>.fail
   |true=>il P Γ hid mt 0 svs ts fun ads=>match ct ads with
    |none=>.fail
    |some ⟨pre,ret,wrs⟩=>match lm ret with
     |true=>tv P d mt ct hid svs ts
     |false=>lq hid wrs fun ups p =>
      m6 (eo d (dr ret)) (.ret ⟨mZ d ret,eo d (dr ret)++ups,some (pre/\p)⟩)
def Aj(d:Nat)(pre:Prop)(ret:RV):Rd Eff :=
 m6 (eo d (dr ret)) (.ret ⟨mZ d ret,eo d (dr ret)++[],some (pre/\True)⟩)
def fF:RC->Option SC
 |.int k n=>some (.int k n)
 |.bool b=>some (.bool b)
 |_=>none
def tw(c:Option Ctr):Bool :=
 match c with
 |some ⟨[(0,0)],_⟩=>true
 |_=>false
def Ak(P:Program)(Γ:FuncId->Option Ctr)(f:FuncId)(o ver i:Nat)(svs:List SV)(ts:List TypeId):Rd Eff :=
 match Γ f with
 |some ⟨[(0,0)],ct⟩=>.h o fun ob=>match ob with
  |.rows ver' e ei k l=>match Nat.beq ver' ver with
   |true=>il P Γ [o] [(0,0)] 1 svs ts fun ads=>match ct (.c (.ints k (l.getD i []))::ads)with
    |some ⟨pre,.c rc,[.ints e' k' r]⟩=>match fF rc with
     |some c=>if ei=e'/\k=k' then .ret ⟨.c c,[(o,some (.rows ver' e ei k (l.set i r)))],some (pre/\r.length=(l.getD i []).length)⟩else .fail
     |none=>.fail
    |_=>.fail
   |false=>.fail
  |_=>.fail
 |_=>.fail
def Al(P:Program)(Γ:FuncId->Option Ctr)(f:FuncId)(o ver:Nat)(p:List Nat)(svs:List SV)(ts:List TypeId):Rd Eff :=
 match Γ f with
 |some ⟨[(0,0)],ct⟩=>.h o fun ob=>match ob with
  |.tr ver' es d=>match Nat.beq ver' ver with
   |true=>match gJ d p with
    |some x=>il P Γ [o] [(0,0)] 1 svs ts fun ads=>match ct (.c x::ads)with
     |some ⟨pre,.c rc,[.tr es' x']⟩=>match fF rc with
      |some c=>match fD (es.drop p.length) es'&&Nat.beq x.wid x'.wid with
       |true=>match jS d p x' with
        |some d'=>.ret ⟨.c c,[(o,some (.tr ver' es d'))],some (pre/\x'.len=x.len)⟩
        |none=>.fail
       |false=>.fail
      |none=>.fail
     |_=>.fail
    |none=>.fail
   |false=>.fail
  |_=>.fail
 |_=>.fail
def Am(P:Program)(Γ:FuncId->Option Ctr)(f:FuncId)(o off n:Nat)(svs:List SV)(ts:List TypeId):Rd Eff:=.fail
def Qo(c:Option Ctr):Bool :=
 match c with
 |some ⟨[(1,0)],_⟩=>true
 |_=>false
def An(P:Program)(Γ:FuncId->Option Ctr)(f:FuncId)(k0:IntKind)(n0:Int)(o ver i:Nat)(svs:List SV)(ts:List TypeId):Rd Eff:=.fail
def Ao(P:Program)(Γ:FuncId->Option Ctr)(d:Nat)(f:FuncId)(o:Nat)(svs:List SV)(ts:List TypeId):Rd Eff:=.fail
def fT:Ob->Ob
 |.rows _ e ei k l=>.rows 0 e ei k l
 |.lst _ e d=>.lst 0 e d
 |.tr _ es d=>.tr 0 es d
 |.yd _ Y pre b=>.yd 0 Y pre b
 |ob=>ob
def oC:Ob->Bool
 |.ints _ _ _=>true
 |.bools _ _=>true
 |.rows _ _ _ _ _=>true
 |.lst _ _ _=>true
 |.tr _ _ _=>true
 |.yd _ _ _ _=>true
 |_=>false
def iT(P:Program)(t:TypeId):Option Ob :=
 match bJ P t with
 |none=>none
 |some e=>match P.underlying e with
  |some (.int k)=>some (.ints e k [])
  |some .bool=>some (.bools e [])
  |some (.slice ei)=>match ic P ei with
   |some k=>some (.lst 0 e (.rows k []))
   |none=>match gt P t with
    |some (.r3 k l)=>match l,sV P 4 t with
     | [],[a,b,c]=>some (.tr 0 [a,b,c] (.r3 k []))
     |_,_=>none
    |_=>none
  |_=>none
abbrev Tr:=List (Nat×Option Nat×Ob)
def tz{α:Type}(k:Nat)(nl:Option Ob)(c:SC)(K:MC->Tr->Rd α):Rd α :=
 match c with
 |.int k n=>K (.c (.int k n)) []
 |.bool b=>K (.c (.bool b)) []
 |.str l=>K (.c (.str l)) []
 |.ro d=>K (.c d) []
 |.orig _ _ d=>K (.c d) []
 |.own o=>.h o fun ob=>match ob with
  |.frz d=>K (.c d) []
  |ob=>match oC ob with
   |true=>K (.ob (fT ob)) [(k,some o,ob)]
   |false=>.fail
 |.nil=>match nl with
  |some ob=>K (.ob ob) [(k,none,ob)]
  |none=>.fail
 |_=>.fail
def HP(P:Program):List TypeId->Option Ob
 | []=>none
 |t::_=>iT P t
def tA{α:Type}(P:Program):Nat->List SC->List TypeId->(List MC->Tr->Rd α)->Rd α
 |_,[],_,K=>K [] []
 |k,c::cs,ts,K=>tz k (HP P ts) c fun x os=>tA P (k+1) cs ts.tail fun l os'=>K (x::l) (os++os')
def Ap{α:Type}(P:Program)(k:Nat)(t:TypeId)(sv:SV)(K:MA->Tr->Rd α):Rd α :=
 match sv with
 |.c c=>match c with
  |.ptr o i=>match i with
   |0=>.h o fun ob=>match ob with
    |.box cs=>tA P (k+1) cs (td P (HN P t)) fun l os=>K (.box l) ((k,some o,.box (fm (k+1) l))::os)
    |_=>.fail
   |_+1=>.fail
  |c=>tz k (iT P t) c fun x os=>K (.m x) os
 |_=>.fail
def tB{α:Type}(P:Program):Nat->List SV->List TypeId->(List MA->Tr->Rd α)->Rd α
 |_,[],_,K=>K [] []
 |i,sv::svs,ts,K=>Ap P (cJ i) (ts.headD 0) sv fun x os=>tB P (i+1) svs ts.tail fun l os'=>K (x::l) (os++os')
def gP:Tr->List Nat
 | []=>[]
 |(_,some o,_)::l=>o::gP l
 |(_,none,_)::l=>gP l
def dW:Tr->Nat->Option (Option Nat×Ob)
 | [],_=>none
 |(k,x)::l,t=>match Nat.beq k t with
  |true=>some x
  |false=>dW l t
def d8(d:Nat)(os:Tr)(k:Nat):Nat :=
 match dW os k with
 |some (some o,_)=>o
 |_=>d+1000*k
def m9(f:Nat->Nat):SC->Option SC
 |.int k n=>some (.int k n)
 |.bool b=>some (.bool b)
 |.str l=>some (.str l)
 |.nil=>some .nil
 |.any=>some .any
 |.ro d=>some (.ro d)
 |.own k=>some (.own (f k))
 |.ptr k i=>some (.ptr (f k) i)
 |_=>none
def tC(f:Nat->Nat):SV->Option SV
 |.c c=>match m9 f c with
  |some c'=>some (.c c')
  |none=>none
 |.fn g l=>match d6 (m9 f) l with
  |some l'=>some (.fn g l')
  |none=>none
 |.tup l=>match l with
  | []=>some (.tup [])
  |_=>none
 |_=>none
def ip(f:Nat->Nat)(ob:Ob):Option Ob :=
 match ob with
 |.box cs=>match d6 (m9 f) cs with
  |some cs'=>some (.box cs')
  |none=>none
 |ob=>match oC ob with
  |true=>some ob
  |false=>none
def oD:Ob->Ob->Bool
 |.box cs,.box cs'=>Nat.beq cs.length cs'.length
 |.yd _ _ _ _,.yd _ _ _ _=>true
 |_,_=>false
def fo:Ob->Ob->Ob
 |.yd v _ _ _,.yd v' Y pre b=>.yd (v+v') Y pre b
 |_,ob=>ob
def oE(d:Nat)(os:Tr):List (Nat×Option Ob)->Option (List (Nat×Option Ob)×List (Nat×Option Ob))
 | []=>some ([],[])
 |(_,none)::_=>none
 |(k,some ob)::l=>match ip (d8 d os) ob with
  |none=>none
  |some ob'=>match oE d os l with
   |none=>none
   |some (kept,new)=>match dW os k with
    |some (some o,ob0)=>match oD ob0 ob with
     |true=>some ((o,some (fo ob0 ob'))::kept,new)
     |false=>none
    |some (none,_)=>none
    |none=>some (kept,(d+1000*k,some ob')::new)
def cM(hp:List (Nat×Option Ob)):Tr->List (Nat×Option Ob)
 | []=>[]
 |(k,some o,_)::l=>match lk hp k with
  |none=>(o,none)::cM hp l
  |some _=>cM hp l
 |(_,none,_)::l=>cM hp l
def Aq(c:Option Ctr):Bool :=
 match c with
 |some ⟨[(0,93),(0,93)],_⟩=>true
 |_=>false
def Ar(P:Program)(d:Nat)(c:Option Ctr)(svs:List SV)(ts:List TypeId):Rd Eff :=
 match c with
 |none=>.fail
 |some ⟨_,ct⟩=>tB P 0 svs ts fun mas os=>match ct (mas.map .ma)with
  |some ⟨pre,.st sv ex outs,[]⟩=>match eU (os.map (·.1))&&eU (gP os)&&eU ((gq 0 outs++gN ex).map (·.1))with
   |true=>match tC (d8 d os) sv,oE d os (gq 0 outs++gN ex)with
    |some sv',some (kept,new)=>m6 new (.ret ⟨sv',new++(kept++cM (gq 0 outs++gN ex) os),some pre⟩)
    |_,_=>.fail
   |false=>.fail
  |_=>.fail
def Qp(c:Option Ctr)(svs:List SV):Bool :=
 match c with
 |some ⟨[(1,0)],_⟩=>match svs with
  | [.c (.int .i64 _),.fn _ _]=>true
  |_=>false
 |_=>false
def As(P:Program)(Γ:FuncId->Option Ctr)(d:Nat)(f:FuncId)(svs:List SV):Rd Eff:=.fail
def Au(o:Nat)(F:SFV)(svs:List SV):Rd Eff:=.fail
def Av(c:Option Ctr):Bool :=
 match c with
 |some ⟨[(0,97),(0,97)],_⟩=>true
 |_=>false
def Aw(c:Option Ctr)(svs:List SV):Rd Eff :=
 match c with
 |some ⟨_,ct⟩=>match svs with
  | [.c (.own o),.fn g []]=>.h o fun ob=>match ob with
   |.rows ver e ei .i64 l=>match ct [.c (.rows .i64 l)]with
    |some ⟨pre,.c (.rows g' _ .i64 l'),_⟩=>match Nat.beq g' g with
     |true=>.ret ⟨.tup [],[(o,some (.rows (ver+1) e ei .i64 l'))],some (pre/\l'.length=l.length)⟩
     |false=>.fail
    |_=>.fail
   |.tr ver [e,e2,e3] (.r3 .i64 l)=>match ct [.c (.r3 .i64 l)]with
    |some ⟨pre,.c (.tr [g'] (.r3 .i64 l')),_⟩=>match Nat.beq g' g with
     |true=>.ret ⟨.tup [],[(o,some (.tr (ver+1) [e,e2,e3] (.r3 .i64 l')))],some (pre/\l'.length=l.length)⟩
     |false=>.fail
    |_=>.fail
   |_=>.fail
  |_=>.fail
 |none=>.fail
def HQ(c:Option Ctr):Bool :=
 match c with
 |some ⟨[(0,96),(0,96)],_⟩=>true
 |_=>false
def Ax(c:Option Ctr)(svs:List SV):Rd Eff:=.fail
def HR(c:Option Ctr):Bool :=
 match c with
 |some ⟨[(0,99),(0,99)],_⟩=>true
 |_=>false
def Ay(d:Nat)(svs:List SV):Rd Eff:=.fail
def HS(c:Option Ctr):Option TypeId :=
 match c with
 |some ⟨[(0,98),(0,98)],ct⟩=>match ct []with
  |some ⟨_,.c (.ints e .i64 []),_⟩=>some e
  |_=>none
 |_=>none
def Az(d:Nat)(e:TypeId)(svs:List SV):Rd Eff:=.fail
def Qq(c:Option Ctr):Bool :=
 match c with
 |some ⟨[(0,0),(1,0)],_⟩=>true
 |_=>false
def AA(P:Program)(Γ:FuncId->Option Ctr)(d:Nat)(f:FuncId)(o ver i j:Nat)(ts:List TypeId):Rd Eff:=.fail
def gQ(d:Nat)(ob:Ob):Rd Eff->Rd Eff
 |.ret e=>.ret ⟨e.val,e.hp++[(d,none)],e.owed⟩
 |.fail=>.fail
 |.f t k=>.f t fun sv=>gQ d ob (k sv)
 |.h o k=>match Nat.beq o d with
  |true=>gQ d ob (k ob)
  |false=>.h o fun x=>gQ d ob (k x)
 |.abs o k=>match Nat.beq o d with
  |true=>.fail
  |false=>.abs o (gQ d ob k)
def tD(c:Option Ctr)(svs:List SV):Option Nat :=
 match c with
 |some ⟨[(i,0)],_⟩=>match svs[i]? with
  |some (.c .nil)=>some i
  |_=>none
 |_=>none
def AB(P:Program)(Γ:FuncId->Option Ctr)(d:Nat)(f:FuncId)(i:Nat)(svs:List SV)(ts:List TypeId):Rd Eff :=
 match Γ f with
 |some ⟨_,ct⟩=>il P Γ [] [] 0 svs ts fun ads=>match ct ads with
  |some ⟨_,_,[.gone (.rows e ei k _)]⟩=>.abs (d+490490) (gQ (d+490490) (.rows 0 e ei k []) (gv P Γ d f (svs.set i (.c (.own (d+490490)))) ts))
  |_=>.fail
 |none=>.fail
def tE(sv:SV):Option SC :=
 match sv with
 |.c c=>if c.plain then some c else none
 |_=>none
def AC(P:Program)(o i:Nat):Rd Eff :=
 match Nat.beq o i with
 |true=>.fail
 |false=>.h o fun ob=>match ob with
  |.yd v Y pre b=>.h i fun ob2=>match ob2 with
   |.ints e k x=>match k with
    |.i64=>.ret ⟨.c (.bool (Y.go pre x)),[(o,some (.yd (v+1) Y (pre++[x]) (Y.go pre x)))],some (Y.P=P/\Y.e=e/\b=true/\Y.ok pre x)⟩
    |_=>.fail
   |_=>.fail
  |_=>.fail
def HT(P:Program)(Γ:FuncId->Option Ctr)(d:Nat)(fv:SV)(svs:List SV)(ts:List TypeId):Rd Eff :=
 match fv with
 |.fn f []=>match HR (Γ f)with
  |true=>Ay d svs
  |false=>match HS (Γ f)with
   |some e=>Az d e svs
   |none=>match Av (Γ f)with
    |true=>Aw (Γ f) svs
    |false=>match HQ (Γ f)with
    |true=>Ax (Γ f) svs
    |false=>match Aq (Γ f)with
    |true=>Ar P d (Γ f) svs ts
    |false=>match Qp (Γ f) svs with
    |true=>As P Γ d f svs
    |false=>match Ah (Γ f) svs with
     |some (_,pre,ret)=>Aj d pre ret
     |none=>match svs with
      |.c (.row o ver i)::rest=>match tw (Γ f)with
       |true=>Ak P Γ f o ver i rest ts.tail
       |false=>match Qq (Γ f)with
        |true=>match rest with
         | [.c (.row o' ver' j)]=>match Nat.beq o' o,Nat.beq ver' ver with
          |true,true=>AA P Γ d f o ver i j ts
          |_,_=>gv P Γ d f svs ts
         |_=>gv P Γ d f svs ts
        |false=>gv P Γ d f svs ts
      |.c (.kid o ver p)::rest=>match tw (Γ f)with
       |true=>Al P Γ f o ver p rest ts.tail
       |false=>gv P Γ d f svs ts
      |.c (.sub o off n)::rest=>match tw (Γ f)with
       |true=>Am P Γ f o off n rest ts.tail
       |false=>gv P Γ d f svs ts
      |.c (.ptr o 0)::rest=>match tw (Γ f)with
       |true=>Ao P Γ d f o rest ts
       |false=>gv P Γ d f svs ts
      |.c (.int k0 n0)::.c (.row o ver i)::rest=>match Qo (Γ f)with
       |true=>An P Γ f k0 n0 o ver i rest ts.tail.tail
       |false=>gv P Γ d f svs ts
      |svs=>match tD (Γ f) svs with
       |some i=>AB P Γ d f i svs ts
       |none=>gv P Γ d f svs ts
 |.fvs o F=>Au o F svs
 |.fn f (c::cs)=>gv P Γ d f (svs++(c::cs).map .c) ts
 |.fv F=>match d6 tE svs with
  |some cs=>js P [] [] 0 0 cs ts fun ds=>match F.at ds with
   |some (q,c)=>.ret ⟨.c c,[],some q⟩
   |none=>.fail
  |none=>.fail
 |.c c=>match c with
  |.own o=>match svs with
   | [.c (.own i)]=>AC P o i
   |_=>.fail
  |_=>.fail
 |_=>.fail
def HU(lo hi:Option Operand)(mx:Operand):Bool :=
 match lo,hi,mx with
 |none,some (.const (.int .i64 0)),.const (.int .i64 0)=>true
 |_,_,_=>false
def AE(P:Program)(s t:TypeId):Bool :=
 match P.underlying t with
 |some .string=>match bJ P s with
  |some e=>match ic P e with
   |some .u8=>true
   |_=>false
  |none=>false
 |_=>false
def Qr(l:List Int):List UInt8:=l.map fun n=>UInt8.ofNat n.toNat
def AF(cx cy:SC):Rd Eff:=.fail
def AG(cx cy:SC):Rd Eff:=.fail
def Qs(x:Operand):Bool :=
 match x with
 |.const (.pointer none)=>true
 |_=>false
def AH(P:Program)(d:Nat)(t:TypeId)(r:Option Operand):Rd Eff:=.fail
def AI(P:Program)(t:TypeId)(cm ck cv:SC):Rd Eff:=.fail
def AJ(P:Program)(t:TypeId)(ok:Bool)(cm ck:SC):Rd Eff:=.fail
def cg(P:Program)(Γ:FuncId->Option Ctr)(wr:Nat->Bool)(o:Oper):Rd Eff :=
 let d:=match o.dst with|some d=>d|none=>0
 match o.op with
 |.move x=>eS x fun sv=>.ret ⟨sv,[],none⟩
 |.assign x=>match Qs x with
  |true=>.ret ⟨.c .any,[],none⟩
  |false=>eS x fun sv=>.ret ⟨sv,[],none⟩
 |.nilCheck x=>cf x fun
  |.ptr o i=>.h o fun ob=>jq ob (aD (.ptr o i))
  |.rob cs i=>aD (.rob cs i)
  |_=>.fail
 |.pick c x y=>cf c fun
  |.bool true=>eS x fun sv=>.ret ⟨sv,[],none⟩
  |.bool false=>eS y fun sv=>.ret ⟨sv,[],none⟩
  |_=>.fail
 |.alloc t=>zK P d t
 |.box _ x=>eS x fun sv=>zL d sv
 |.build t parts=>zM P t parts
 |.buildSlice t len parts=>match wr (5000000+d)with
  |true=>zN P (wr (1000000+d)) d t len parts
  | false=>match wr (6000000+d)with
   |true=>zO P d t len parts
   | false=>match wr (2000000+d)with
    |true=>zQ P d t len parts
    |false=>zP P (wr (1000000+d)) d t len parts
 |.load t x=>match wr (3000000+d)with
  |true=>cf x fun cx=>zI P d t cx
  |false=>cf x fun cx=>sX P t cx
 |.store t x y=>cf x fun cx=>eS y fun sv=>zJ P t cx sv
 |.binOp op t x y _=>cf x fun cx=>cf y fun cy=>zC P t (wr d) op cx cy
 |.unOp op _ x=>cf x fun cx=>zD (wr d) op cx
 |.convert s t x=>cf x fun cx=>match AE P s t with
  |true=>jr [] (gt P s) cx fun
   |.ints .u8 l=>.ret ⟨.c (.str (Qr l)),[],none⟩
   |_=>.fail
  |false=>zE P (wr d) s t cx
 |.makeFunc fn first caps=>match fn with
  |.func f=>if first.isEmpty then ie caps.toList fun svs=>match d6 tE svs with
   |some cs=>.ret ⟨.fn f cs,[],none⟩
   |none=>.fail
   else .fail
  |_=>.fail
 |.makeSlice t l c=>cf l fun cl=>cf c fun cc=>zW P d t cl cc
 |.slice t x lo hi mx=>match mx with
  |none=>match wr (4000000+d)with
   |true=>cf x fun cx=>zU P d t cx lo hi
   |false=>cf x fun cx=>s9 P d t cx lo hi
  |some m=>match HU lo hi m with
   |true=>match bJ P t with
    |some e=>match cr P e with
     |some _=>cf x fun cx=>jr [] (gt P t) cx fun
      |.ints _ _=>.ret ⟨.c .emp,[],none⟩
      |.bools _=>.ret ⟨.c .emp,[],none⟩
      |.rows _ _=>.ret ⟨.c .emp,[],none⟩
      |_=>.fail
     |none=>.fail
    |none=>.fail
   |false=>.fail
 |.fieldAddr s x f=>cf x fun cx=>zR P s cx f
 |.field s x f=>eS x fun sv=>zS P s sv f
 |.indexAddr t x i=>cf x fun cx=>cf i fun ci=>zT P t cx ci
 |.index t x i=>cf x fun cx=>cf i fun ci=>Ac P t cx ci
 |.extract x i=>eS x fun sv=>Ab sv i
 |.call c=>match c.callee with
  |.value f=>eS f fun fv=>ie c.args.toList fun svs=>HT P Γ d fv svs c.argTypes.toList
  |.builtin b=>match b with
   |.len=>match c.args.toList,c.argTypes.toList with
    | [x],[t]=>cf x fun cx=>match cx with
     |.str _=>match P.underlying t with
      |some .string=>s8 cx
      |_=>.fail
     |cx=>match bJ P t with
      |some _=>s8 cx
      |none=>.fail
    |_,_=>.fail
   |.append=>match c.args.toList,c.argTypes.toList with
    | [x,y],[t,t']=>if t=t' then cf x fun cx=>cf y fun cy=>zZ P d t cx cy else match ic P t' with
     |some _=>cf x fun cx=>cf y fun cy=>Aa P d t cx cy
     |none=>.fail
    |_,_=>.fail
   |.min=>match c.args.toList with
    | [x,y]=>cf x fun cx=>cf y fun cy=>AF cx cy
    |_=>.fail
   |.max=>match c.args.toList with
    | [x,y]=>cf x fun cx=>cf y fun cy=>AG cx cy
    |_=>.fail
   |_=>.fail
  |.invoke _ _=>.fail
 |.makeMap t r=>AH P d t r
 |.mapUpdate t m k v=>cf m fun cm=>cf k fun ck=>cf v fun cv=>AI P t cm ck cv
 |.lookup t m k ok=>cf m fun cm=>cf k fun ck=>AJ P t ok cm ck
 |_=>.fail
end Go.Sx
