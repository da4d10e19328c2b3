/- SxC -/
import Derived.Test.YtkmldclpaniclaaGreatSxBt
set_option linter.unusedSimpArgs false
set_option linter.unusedVariables false
namespace Go.Sx
open Go.RowKit
inductive Key where
 |f (t:Nat)
 |h (o:Nat)
def Key.eq:Key->Key->Bool
 |.f a,.f b=>Nat.beq a b
 |.h a,.h b=>Nat.beq a b
 |_,_=>false
inductive Rd (α:Type) where
 |ret (x:α)
 |fail
 |f (t:Nat) (k:SV->Rd α)
 |h (o:Nat) (k:Ob->Rd α)
 |abs (o:Nat) (k:Rd α)
def Rd.run{α:Type}(σ:State):Rd α->Option α
 |.ret x=>some x
 |.fail=>none
 |.f t k=>match σ.F t with
  |some sv=>(k sv).run σ
  |none=>none
 |.h o k=>match σ.H o with
  |some (some ob)=>(k ob).run σ
  |some none=>none
  |none=>none
 |.abs o k=>match σ.H o with
  |none=>k.run σ
  |some _=>none
def Rd.keys{α:Type}(σ:State):Rd α->List Key
 |.ret _=>[]
 |.fail=>[]
 |.f t k=>.f t::match σ.F t with
  |some sv=>(k sv).keys σ
  |none=>[]
 |.h o k=>.h o::match σ.H o with
  |some (some ob)=>(k ob).keys σ
  |some none=>[]
  |none=>[]
 |.abs o k=>.h o::k.keys σ
structure Eff where
 val:SV
 hp:List (Nat×Option Ob)
 owed:Option Prop
def Eff.obl(e:Eff):Prop :=
 match e.owed with
 |none=>True
 |some p=>p
inductive MC where
 |c (d:FC)
 |ob (x:Ob)
inductive MA where
 |m (x:MC)
 |box (l:List MC)
inductive AD where
 |c (d:FC)
 |agg (cs:List FC)
 |box (cs:List FC)
 |bb (cs:List FC)
 |fv (F:FV)
 |fvs (F:SFV) (s:Int)
 |cut (off n:Nat) (d:FC)
 |ma (x:MA)
inductive RC where
 |int (k:IntKind) (n:Int)
 |bool (b:Bool)
 |str (l:List UInt8)
 |ints (e:TypeId) (k:IntKind) (l:List Int)
 |bools (e:TypeId) (l:List Bool)
 |rows (e ei:TypeId) (k:IntKind) (l:List (List Int))
 |nilq (b:Bool)
 |ro (d:FC)
 |bx (cs:List FC)
 |strs (e:TypeId) (l:List (List UInt8))
 |cut (off n:Nat) (e ei:TypeId) (k:IntKind) (l:List (List Int))
 |lst (e:TypeId) (d:FC)
 |gone (x:RC)
 |tr (es:List TypeId) (d:FC)
def RC.isGone:RC->Bool
 |.gone _=>true
 |_=>false
inductive RV where
 |c (x:RC)
 |agg (l:List RC)
 |tup (l:List (RC ⊕ List RC))
 |st (sv:SV) (ex:List (Nat×Ob)) (outs:List MA)
structure Post where
 pre:Prop
 ret:RV
 wrs:List RC:=[]
structure Ctr where
 mt:List (Nat×Nat):=[]
 ct:List AD->Option Post
def da:FC->SC
 |.int k n=>.int k n
 |.bool b=>.bool b
 |.str l=>.str l
 |.ints k l=>.ro (.ints k l)
 |.bools l=>.ro (.bools l)
 |.rows k l=>.ro (.rows k l)
 |.r3 k l=>.ro (.r3 k l)
 |.r4 k l=>.ro (.r4 k l)
 |.p3 k l=>.ro (.p3 k l)
def dH:FC->Bool
 |.int _ _=>true
 |.bool _=>true
 |.str _=>true
 |_=>false
def eU:Ob->Option FC
 |.ints _ k l=>some (.ints k l)
 |.bools _ l=>some (.bools l)
 |.rows _ _ _ k l=>some (.rows k l)
 |.box _=>none
 |.bx _=>none
 |.strs _ _=>none
 |.lst _ _ d=>match dH d with
  |true=>none
  |false=>some d
 |.frz _=>none
 |.mp _=>none
 |.qu _ _ _=>none
 |.rowsH _ _ _ _ _ _=>none
 |.tr _ _ d=>some d
 |.yd _ _ _ _=>none
 |.trk _ _ _ _=>none
/- The state that a call by states begins in: argument i's object has the name 7000 + 100 i, its cells' objects those behind it. -/
def cK(i:Nat):Nat:=7000+100*i
def y7(k:Nat):MC->SC
 |.c d=>da d
 |.ob _=>.own k
def ss(k:Nat):MC->List (Nat×Option Ob)
 |.c _=>[]
 |.ob x=>[(k,some x)]
def fm:Nat->List MC->List SC
 |_,[]=>[]
 |k,x::l=>y7 k x::fm (k+1) l
def jX:Nat->List MC->List (Nat×Option Ob)
 |_,[]=>[]
 |k,x::l=>ss k x++jX (k+1) l
def oB(k:Nat):MA->SV
 |.m x=>.c (y7 k x)
 |.box _=>.c (.ptr k 0)
def Hg(k:Nat):MA->List (Nat×Option Ob)
 |.m x=>ss k x
 |.box l=>(k,some (.box (fm (k+1) l)))::jX (k+1) l
def su:Nat->List MA->List (Nat×SV)
 |_,[]=>[]
 |i,x::l=>(i,oB (cK i) x)::su (i+1) l
def gJ:Nat->List MA->List (Nat×Option Ob)
 |_,[]=>[]
 |i,x::l=>Hg (cK i) x++gJ (i+1) l
def d7(mas:List MA):State:=⟨su 0 mas,gJ 0 mas⟩
def Pp(k:Nat):MA->List (Nat×Option Ob)
 |.m x=>ss k x
 |.box l=>(k,some (.box (fm (k+1001) l)))::jX (k+1001) l
def gn:Nat->List MA->List (Nat×Option Ob)
 |_,[]=>[]
 |i,x::l=>Pp (cK i) x++gn (i+1) l
def gK(ex:List (Nat×Ob)):List (Nat×Option Ob):=ex.map fun p=>(p.1,some p.2)
def ic(sv:SV)(hp:List (Nat×Option Ob)):State:=⟨[(0,sv)],hp⟩
def jY(mas:List MA)(hp:List (Nat×Option Ob)):List Nat:=((gJ 0 mas).map (·.1)).filter fun k=>(lk hp k).isSome
def fF:Ob->Option FC
 |.frz d=>some d
 |ob=>match eU ob with
  |some d=>match b6 0 d.len d with
   |some _=>some d
   |none=>none
  |none=>none
def jq{α:Type}(ob:Ob)(r:Rd α):Rd α :=
 match ob.isFz with
 |true=>.fail
 |false=>r
def y8{α:Type}(c:SC)(k:SC->Rd α):Rd α :=
 match c with
 |.own o=>.h o fun ob=>match ob with
  |.frz d=>k (.ro d)
  |_=>k (.own o)
 |.pre o n=>.h o fun ob=>match ob with
  |.frz d=>match b6 0 n d with
   |some d'=>k (.ro d')
   |none=>.fail
  |_=>k (.pre o n)
 |.sub o off n=>.h o fun ob=>match ob with
  |.frz d=>match b6 off n d with
   |some d'=>k (.ro d')
   |none=>.fail
  |_=>k (.sub o off n)
 |c=>k c
def mV:Value->Option SC
 |.int k n=>some (.int k n)
 |.bool b=>some (.bool b)
 |.string s=>some (.str s.data.toList)
 |.slice none 0 0=>some .nil
 |_=>none
def d8{α β:Type}(f:α->Option β):List α->Option (List β)
 | []=>some []
 |x::l=>match f x with
  |some y=>match d8 f l with
   |some ys=>some (y::ys)
   |none=>none
  |none=>none
def eV{α:Type}(x:Operand)(k:SV->Rd α):Rd α :=
 match x with
 |.tmp t=>.f t k
 |.const v=>match v with
  |.agg cs=>match d8 mV cs.toList with
   |some l=>k (.agg l)
   |none=>.fail
  |.nilFunc=>k (.c .any)
  |v=>match mV v with
   |some c=>k (.c c)
   |none=>.fail
 |.func f=>k (.fn f [])
 |.global _=>.fail
def cp{α:Type}(x:Operand)(k:SC->Rd α):Rd α :=
 eV x fun
  |.c c=>y8 c k
  |_=>.fail
def lu(P:Program)(t:TypeId):Option Bool :=
 match P.underlying t with
 |some (.struct _)=>some true
 |some (.array _ _)=>some true
 |some _=>some false
 |none=>none
def cg(P:Program)(t:TypeId):Option Nat :=
 match P.info? t with
 |some i=>some i.size
 |none=>none
def bN(P:Program)(t:TypeId):Option TypeId :=
 match P.underlying t with
 |some (.slice e)=>some e
 |_=>none
def ac(n:Int):Prop:=-9223372036854775808<=n/\n<=9223372036854775807
def ie(wr:Bool)(k:IntKind)(r:Int):Eff :=
 match wr,k with
 |false,.i64=>⟨.c (.int .i64 r),[],some (ac r)⟩
 |_,k=>⟨.c (.int k (k.wrap r)),[],none⟩
def aE(c:SC):Rd Eff:=.ret ⟨.c c,[],none⟩
def y9(P:Program)(t:TypeId):Bool :=
 match P.underlying t with
 |some .bool=>true
 |_=>false
def ah(n:Nat):Prop:=n<=1099511627776
def Pq:BinOp->Bool
 |.shl=>true
 |.shr=>true
 |_=>false
def za(wr:Bool)(op:BinOp)(cx cy:SC):Rd Eff:=.fail
def Hh(op:BinOp)(cx cy:SC):Bool :=
 match op,cx,cy with
 |.and,.int .u64 _,.int .u64 _=>true
 |_,_,_=>false
def zb(cx cy:SC):Rd Eff:=.fail
def zc(P:Program)(t:TypeId)(wr:Bool)(op:BinOp)(cx cy:SC):Rd Eff :=
 match Pq op with
 |true=>za wr op cx cy
 |false=>match Hh op cx cy with
 |true=>zb cx cy
 |false=>match cx,cy with
 |.int k a,.int k' b =>
  if k=k' then
   match op with
   |.and=>.ret ⟨.c (.int k ((a.toNat &&& b.toNat:Nat):Int)),[],some (k=.i64/\(0<=a/\a<=9223372036854775807)/\0<=b/\b<=9223372036854775807)⟩
   |.or=>.ret ⟨.c (.int k ((a.toNat ||| b.toNat:Nat):Int)),[],some (k=.i64/\(0<=a/\a<=9223372036854775807)/\0<=b/\b<=9223372036854775807)⟩
   |.add=>.ret (ie wr k (a+b))
   |.sub=>.ret (ie wr k (a-b))
   |.mul=>.ret (ie wr k (a*b))
   |.quo=>.ret ⟨(ie wr k (a.tdiv b)).val,[],some (b≠0/\(ie wr k (a.tdiv b)).obl)⟩
   |.rem=>.ret ⟨.c (.int k (a.tmod b)),[],some (b≠0)⟩
   |.eql=>aE (.bool (a == b))
   |.neq=>aE (.bool (a != b))
   |.lss=>aE (.bool (decide (a<b)))
   |.leq=>aE (.bool (decide (a<=b)))
   |.gtr=>aE (.bool (decide (b<a)))
   |.geq=>aE (.bool (decide (b<=a)))
   |_=>.fail
  else .fail
 |.bool a,.bool b =>
  if y9 P t then
   match op with
   |.eql=>aE (.bool (a == b))
   |.neq=>aE (.bool (!(a == b)))
   |_=>.fail
  else .fail
 |.str a,.str b =>
  match op with
  |.eql=>aE (.bool (a == b))
  |.neq=>aE (.bool (!(a == b)))
  |.add=>.ret ⟨.c (.str (a++b)),[],some (ah (a.length+b.length))⟩
  |_=>.fail
 |.nilq b,.nil=>match bN P t with
  |some _=>match op with
   |.eql=>aE (.bool b)
   |.neq=>aE (.bool (!b))
   |_=>.fail
  |none=>.fail
 |.ro d,.nil=>match bN P t with
  |some _=>match op with
   |.eql=>.ret ⟨.c (.bool false),[],some (d.len≠0)⟩
   |.neq=>.ret ⟨.c (.bool true),[],some (d.len≠0)⟩
   |_=>.fail
  |none=>.fail
 |_,_=>.fail
def zd(wr:Bool)(op:UnOp)(cx:SC):Rd Eff :=
 match op,cx with
 |.neg,.int k a=>.ret (ie wr k (-a))
 |.not,.bool b=>aE (.bool (!b))
 |_,_=>.fail
def ig(P:Program)(t:TypeId):Option IntKind :=
 match P.underlying t with
 |some (.int k)=>some k
 |_=>none
def ze(P:Program)(wr:Bool)(src dst:TypeId)(cx:SC):Rd Eff :=
 match cx with
 |.int _ n=>match P.underlying src with
  |some _=>match ig P dst with
   |some k=>.ret (ie wr k n)
   |none=>.fail
  |none=>.fail
 |_=>.fail
def zf:FC->Option FC
 |.rows k _=>some (.ints k [])
 |.r3 k _=>some (.rows k [])
 |.r4 k _=>some (.r3 k [])
 |_=>none
def iS:FC->FC->Option FC
 |.rows k l,.rows k' l'=>if k=k' then some (.rows k (l++l'))else none
 |.r3 k l,.r3 k' l'=>if k=k' then some (.r3 k (l++l'))else none
 |.r4 k l,.r4 k' l'=>if k=k' then some (.r4 k (l++l'))else none
 |.p3 k l,.p3 k' l'=>if k=k' then some (.p3 k (l++l'))else none
 |_,_=>none
def fR:List FC->Option FC
 | []=>none
 | [.ints k x]=>some (.rows k [x])
 | [.rows k x]=>some (.r3 k [x])
 | [.r3 k x]=>some (.r4 k [x])
 |.ints k x::l=>match fR l with
  |some (.rows k' ls)=>if k=k' then some (.rows k (x::ls))else none
  |_=>none
 |.rows k x::l=>match fR l with
  |some (.r3 k' ls)=>if k=k' then some (.r3 k (x::ls))else none
  |_=>none
 |.r3 k x::l=>match fR l with
  |some (.r4 k' ls)=>if k=k' then some (.r4 k (x::ls))else none
  |_=>none
 |_=>none
def sw(P:Program):Nat->TypeId->List TypeId
 |0,_=>[]
 |n+1,t=>match bN P t with
  |some e=>e::sw P n e
  |none=>[]
def zg:FC->Nat->Option FC
 |.rows k _,n=>some (.rows k (List.replicate n []))
 |.r3 k _,n=>some (.r3 k (List.replicate n []))
 |.r4 k _,n=>some (.r4 k (List.replicate n []))
 |_,_=>none
def mW:Ob->Option (List TypeId×FC)
 |.ints e k l=>some ([e],.ints k l)
 |.rows _ e ei k l=>some ([e,ei],.rows k l)
 |.tr _ es d=>some (es,d)
 |_=>none
def sx:FC->Option (IntKind×List Int)
 |.ints k l=>some (k,l)
 |_=>none
def zh:SC->SC
 |.orig _ _ d=>.ro d
 |c=>c
def sy(P:Program)(t:TypeId)(cx:SC):Rd Eff :=
 match lu P t with
 |none=>.fail
 |some true=>match cg P t with
  |none=>.fail
  |some n=>match cx with
   |.ptr o i=>.h o fun
    |.box cs=>if i+n<=cs.length then .ret ⟨.agg ((cs.drop i).take n),[],none⟩else .fail
    |_=>.fail
   |.rob cs i=>if i+n<=cs.length then .ret ⟨.agg (((cs.drop i).take n).map da),[],none⟩else .fail
   |.rop d i=>match n,d with
    |1,.r3 k l=>.ret ⟨.agg [.ro (.rows k (l.getD i []))],[],none⟩
    |_,_=>.fail
   |_=>.fail
 |some false=>match cx with
  |.ptr o i=>.h o fun
   |.box cs=>match cs[i]? with
    |some c=>aE (zh c)
    |none=>.fail
   |.ints _ k l=>aE (.int k (l.getD i 0))
   |.bools _ l=>aE (.bool (l.getD i false))
   |.rows ver _ _ _ _=>aE (.row o ver i)
   |.bx _=>.fail
   |.strs _ l=>aE (.str (l.getD i []))
   |.lst _ _ d=>match cz d i with
    |some x=>aE (.ro x)
    |none=>.fail
   |.frz _=>.fail
   |.mp _=>.fail
   |.qu _ _ _=>.fail
   |.rowsH _ _ _ _ _ _=>.fail
   |.tr _ _ _=>.fail
   |.yd _ _ _ _=>.fail
   |.trk _ _ _ _=>.fail
  |.rptr o ver i j=>.h o fun
   |.rows ver' _ _ k l=>if ver=ver' then aE (.int k ((l.getD i []).getD j 0))else .fail
   |_=>.fail
  |.rop d i=>match d with
   |.ints k l=>aE (.int k (l.getD i 0))
   |.bools l=>aE (.bool (l.getD i false))
   |.rows k l=>aE (.ro (.ints k (l.getD i [])))
   |.r3 k l=>aE (.ro (.rows k (l.getD i [])))
   |.r4 k l=>aE (.ro (.r3 k (l.getD i [])))
   |_=>.fail
  |.rob cs i=>match cs[i]? with
   |some fc=>aE (da fc)
   |none=>.fail
  |.rbb cs=>aE (.rob cs 0)
  |.qptr o i=>.h o fun
   |.qu _ k l=>aE (.int k (l.getD i 0))
   |_=>.fail
  |.kptr o ver p j=>.h o fun
   |.tr ver' _ d=>if ver=ver' then(match gH d p with
    |some x=>match sx x with
     |some (k,l)=>aE (.int k (l.getD j 0))
     |none=>match cz x j with
      |some _=>aE (.kid o ver (p++[j]))
      |none=>.fail
    |none=>.fail)else .fail
   |_=>.fail
  |_=>.fail
def zi(P:Program)(d:Nat)(t:TypeId)(cx:SC):Rd Eff :=
 match lu P t with
 |some false=>match cx with
  |.kptr o ver [] j=>.h o fun
   |.tr ver' [_,e,ei] (.r3 k l)=>if ver=ver' then .abs d (.ret ⟨.c (.own d),[(d,some (.rows 0 e ei k (l.getD j []))),(o,none)],none⟩)else .fail
   |.trk ver' [e0,e,ei] (.r3 k l) n=>if ver=ver' then .abs d (.ret ⟨.c (.own d),[(d,some (.rows 0 e ei k (l.getD j []))),(o,some (.trk (ver'+1) [e0,e,ei] (.r3 k l) (n+1)))],some (j=n/\n<l.length)⟩)else .fail
   |_=>.fail
  |_=>.fail
 |_=>.fail
def d9{α:Type}(d:FC)(r:Rd α):Rd α :=
 match d.wid with
 |1=>r
 |_=>.fail
def SC.plain:SC->Bool
 |.any=>false
 |.und=>false
 |_=>true
def zj(P:Program)(t:TypeId)(cx:SC)(sv:SV):Rd Eff :=
 match sv with
 |.c c =>
  if c.plain=true/\cg P t=some 1 then
   match cx with
   |.ptr o i=>.h o fun
    |.box cs=>if i<cs.length then .ret ⟨.c .any,[(o,some (.box (cs.set i c)))],none⟩else .fail
    |.ints e k l=>match c with
     |.int k' n=>if k=k' then .ret ⟨.c .any,[(o,some (.ints e k (l.set i n)))],none⟩else .fail
     |_=>.fail
    |.bools e l=>match c with
     |.bool b=>.ret ⟨.c .any,[(o,some (.bools e (l.set i b)))],none⟩
     |_=>.fail
    |.rows ver e ei k l=>match c with
     |.own o2=>.h o2 fun
      |.ints e2 k2 l2=>if e2=ei/\k2=k/\o2≠o then .ret ⟨.c .any,[(o2,none),(o,some (.rows (ver+1) e ei k (l.set i l2)))],none⟩else .fail
      |_=>.fail
     |.nil=>.ret ⟨.c .any,[(o,some (.rows (ver+1) e ei k (l.set i [])))],none⟩
     |_=>.fail
    |.bx _=>.fail
    |.strs _ _=>.fail
    |.lst ver e d=>match c with
     |.ro x=>match fl d i x with
      |some d'=>.ret ⟨.c .any,[(o,some (.lst ver e d'))],none⟩
      |none=>.fail
     |.nil=>match zf d with
      |some x=>match fl d i x with
       |some d'=>.ret ⟨.c .any,[(o,some (.lst ver e d'))],none⟩
       |none=>.fail
      |none=>.fail
     |.own o2=>.h o2 fun ob2=>match fF ob2 with
      |some x=>match fl d i x with
       |some d'=>if o2≠o then .ret ⟨.c .any,[(o,some (.lst ver e d')),(o2,some (.frz x))],none⟩else .fail
       |none=>.fail
      |none=>.fail
     |_=>.fail
    |.frz _=>.fail
    |.mp _=>.fail
    |.qu _ _ _=>.fail
    |.rowsH ver e ei k l hs=>match c with
     |.own o2=>.h o2 fun
      |.ints e2 k2 l2=>if e2=ei/\k2=k/\o2≠o then
        (match hs with
        | [h]=>.ret ⟨.c .any,[(o2,none),(o,some (.rows (ver+1) e ei k (l.set i l2)))],some (i=h)⟩
        |h::hs'=>.ret ⟨.c .any,[(o2,none),(o,some (.rowsH (ver+1) e ei k (l.set i l2) hs'))],some (i=h/\¬ h∈hs')⟩
        | []=>.fail)else .fail
      |_=>.fail
     |_=>.fail
    |.tr _ _ _=>.fail
    |.yd _ _ _ _=>.fail
    |.trk _ _ _ _=>.fail
   |.kptr o ver p j=>.h o fun
    |.tr ver' es d=>match c with
     |.int k' n=>if ver=ver' then(match gH d p with
      |some x=>match sx x with
       |some (k,l)=>if k=k' then(match jW d p (.ints k (l.set j n))with
        |some d'=>.ret ⟨.c .any,[(o,some (.tr ver' es d'))],none⟩
        |none=>.fail)else .fail
       |none=>.fail
      |none=>.fail)else .fail
     |.own o2=>.h o2 fun ob2=>match mW ob2 with
      |some (es2,y)=>if ver=ver'/\o2≠o/\fE es2 (es.drop (p.length+1))=true then(match gH d p with
       |some x=>d9 x (match fl x j y with
        |some x'=>match jW d p x' with
         |some d'=>.ret ⟨.c .any,[(o2,none),(o,some (.tr (ver'+1) es d'))],none⟩
         |none=>.fail
        |none=>.fail)
       |none=>.fail)else .fail
      |none=>.fail
     |_=>.fail
    |_=>.fail
   |.rptr o ver i j=>.h o fun
    |.rows ver' e ei k l=>match c with
     |.int k' n=>if ver=ver'/\k=k' then .ret ⟨.c .any,[(o,some (.rows ver' e ei k (l.set i ((l.getD i []).set j n))))],none⟩else .fail
     |_=>.fail
    |_=>.fail
   |_=>.fail
  else .fail
 |.agg cs' =>
  if cg P t=some cs'.length then
   match cx with
   |.ptr o i=>.h o fun
    |.box cs=>if i+cs'.length<=cs.length then .ret ⟨.c .any,[(o,some (.box (cs.take i++cs'++cs.drop (i+cs'.length))))],none⟩else .fail
    |_=>.fail
   |_=>.fail
  else .fail
 |_=>.fail
def gL(P:Program)(t:TypeId):Option (List SC) :=
 match P.info? t with
 |some i=>match i.zero with
  |some z=>d8 mV z.cells.toList
  |none=>none
 |none=>none
def zk(P:Program)(d:Nat)(t:TypeId):Rd Eff :=
 match gL P t with
 |some cs=>.abs d (if cs.isEmpty=false then .ret ⟨.c (.ptr d 0),[(d,some (.box cs))],none⟩else .fail)
 |none=>.fail
def zm(d:Nat)(sv:SV):Rd Eff :=
 match sv with
 |.c c=>if c.plain then .abs d (.ret ⟨.c (.ptr d 0),[(d,some (.box [c]))],none⟩)else .fail
 |.agg cs=>.abs d (if cs.isEmpty=false then .ret ⟨.c (.ptr d 0),[(d,some (.box cs))],none⟩else .fail)
 |_=>.fail
def iT:SV->Option (List SC)
 |.c c=>if c.plain then some [c]else none
 |.agg l=>some l
 |_=>none
def sA(P:Program)(fs:Array Field):List (Nat×Operand)->List SC->(List SC->Rd Eff)->Rd Eff
 | [],cs,k=>k cs
 |(i,x)::rest,cs,k=>eV x fun sv=>match iT sv with
  |none=>.fail
  |some l=>match fs[i]? with
   |none=>.fail
   |some fd=>if cg P fd.type=some l.length/\fd.offset+l.length<=cs.length then
     sA P fs rest (cs.take fd.offset++l++cs.drop (fd.offset+l.length)) k
    else .fail
def zn(P:Program)(t:TypeId)(parts:Array (Nat×Operand)):Rd Eff :=
 match gL P t with
 |none=>.fail
 |some cs=>match P.underlying t with
  |some (.struct fs)=>match d8 (fun f:Field=>cg P f.type) fs.toList with
   |some _=>sA P fs parts.toList cs fun cs=>.ret ⟨.agg cs,[],none⟩
   |none=>.fail
  |_=>.fail
def gN{α:Type}:List Operand->(List SV->Rd α)->Rd α
 | [],k=>k []
 |x::l,k=>eV x fun sv=>gN l fun svs=>k (sv::svs)
def oC(k:IntKind):List SV->Option (List Int)
 | []=>some []
 |.c (.int k' n)::l=>if k=k' then(match oC k l with|some ns=>some (n::ns)|none=>none)else none
 |_=>none
def oD:List SV->Option (List Bool)
 | []=>some []
 |.c (.bool b)::l=>(match oD l with|some ns=>some (b::ns)|none=>none)
 |_=>none
def oE:List SV->Option (List (List UInt8))
 | []=>some []
 |.c (.str b)::l=>(match oE l with|some ns=>some (b::ns)|none=>none)
 |_=>none
def oF(ei:TypeId)(ki:IntKind):List SV->List Nat->(List (List Int)->List Nat->Rd Eff)->Rd Eff
 | [],_,k=>k [] []
 |.c .nil::l,used,k=>oF ei ki l used fun ls os=>k ([]::ls) os
 |.c (.own o)::l,used,k=>.h o fun
  |.ints e k' r=>if e=ei/\k'=ki/\used.all (fun u=>!(Nat.beq u o))then oF ei ki l (o::used) fun ls os=>k (r::ls) (o::os)else .fail
  |_=>.fail
 |_,_,_=>.fail
def sB:List SC->Option (List (List Int))
 | []=>some []
 |.ro (.ints .i64 l)::cs=>match sB cs with
  |some ls=>some (l::ls)
  |none=>none
 |_=>none
def lv(hint:Bool):List SV->(Option (List FC×List (Nat×Option Ob))->Rd Eff)->Rd Eff
 | [],K=>K (some ([],[]))
 |.c (.ro d)::l,K=>lv hint l fun
  |some (ds,fs)=>K (some (d::ds,fs))
  |none=>K none
 |.c (.own o)::l,K=>.h o fun ob=>match ob with
  |.frz d=>lv hint l fun
   |some (ds,fs)=>K (some (d::ds,fs))
   |none=>K none
  |ob=>match hint with
   |true=>match fF ob with
    |some d=>lv hint l fun
     |some (ds,fs)=>K (some (d::ds,(o,some (.frz d))::fs))
     |none=>K none
    |none=>K none
   |false=>K none
 |_,K=>K none
def Hi(P:Program)(e:TypeId):Option IntKind :=
 match P.underlying e with
 |some (.struct fs)=>match fs.toList with
  | [f,g]=>match P.underlying f.type,P.underlying g.type with
   |some (.slice e1),some (.slice e2)=>match P.underlying e1,P.underlying e2 with
    |some (.slice a),some (.slice b)=>match ig P a,ig P b with
     |some k,some k'=>if k=k'/\f.offset=0/\g.offset=1 then some k else none
     |_,_=>none
    |_,_=>none
   |_,_=>none
  |_=>none
 |_=>none
def gp(P:Program)(t:TypeId):Option FC :=
 match P.underlying t with
 |some (.slice e)=>match P.underlying e with
  |some (.int k)=>some (.ints k [])
  |some .bool=>some (.bools [])
  |some (.slice e2)=>match P.underlying e2 with
   |some (.int k)=>some (.rows k [])
   |some (.slice e3)=>match P.underlying e3 with
    |some (.int k)=>some (.r3 k [])
    |some (.slice e4)=>match ig P e4 with
     |some k=>some (.r4 k [])
     |none=>none
    |_=>none
   |_=>none
  |some (.struct _)=>match Hi P e with
   |some k=>some (.p3 k [])
   |none=>none
  |_=>none
 |_=>none
def zo(P:Program)(hint:Bool)(d:Nat)(t:TypeId)(len:Nat)(parts:Array (Nat×Operand)):Rd Eff :=
 if(parts.toList.map (·.1))=List.range len/\len<=1000 then
  match bN P t with
  |none=>.fail
  |some e=>match Hi P e with
   |none=>.fail
   |some k=>if cg P e=some 2/\(gL P e).isSome=true then
     gN (parts.toList.map (·.2)) fun svs=>match svs with
     | []=>.abs d (.ret ⟨.c (.own d),[(d,some (.lst 0 e (.p3 k [])))],none⟩)
     | [.agg [c1,c2]]=>lv hint [.c c1,.c c2] fun pr=>match pr with
      |some ([.rows k1 x,.rows k2 y],fs)=>if k1=k/\k2=k then .abs d (.ret ⟨.c (.own d),(d,some (.lst 0 e (.p3 k [(x,y)])))::fs,none⟩)else .fail
      |_=>match c1,c2 with
       |.own o1,.own o2=>.h o1 fun ob1=>.h o2 fun ob2=>match ob1,ob2 with
        |.rows _ e1 ei1 k1 x,.rows _ e2 ei2 k2 y=>if e1=e2/\ei1=ei2/\k1=k/\k2=k/\o1≠o2 then
          .abs d (.ret ⟨.c (.own d),[(d,some (.tr 0 [e,e1,ei1] (.p3 k [(x,y)]))),(o1,none),(o2,none)],none⟩)else .fail
        |_,_=>.fail
       |_,_=>.fail
     |_=>.fail
    else .fail
 else .fail
def zp(P:Program)(d:Nat)(t:TypeId)(len:Nat)(parts:Array (Nat×Operand)):Rd Eff :=
 if(parts.toList.map (·.1))=List.range len/\len<=1000 then
  match bN P t with
  |none=>.fail
  |some e=>if cg P e=some 1/\(gL P e).isSome=true then
    gN (parts.toList.map (·.2)) fun svs=>match svs with
    | [.agg [.own o2]]=>.h o2 fun
     |.rows _ e2 ei2 k2 y=>.abs d (.ret ⟨.c (.own d),[(d,some (.tr 0 [e,e2,ei2] (.r3 k2 [y]))),(o2,none)],none⟩)
     |_=>.fail
    |_=>.fail
   else .fail
 else .fail
def zq(P:Program)(hint:Bool)(d:Nat)(t:TypeId)(len:Nat)(parts:Array (Nat×Operand)):Rd Eff :=
 if(parts.toList.map (·.1))=List.range len/\len<=1000 then
  match bN P t with
  |none=>.fail
  |some e=>if cg P e=some 1/\(gL P e).isSome=true then
    match P.underlying e with
    |some (.int k)=>gN (parts.toList.map (·.2)) fun svs=>match oC k svs with
     |some l=>.abs d (.ret ⟨.c (.own d),[(d,some (.ints e k l))],none⟩)
     |none=>.fail
    |some .bool=>gN (parts.toList.map (·.2)) fun svs=>match oD svs with
     |some l=>.abs d (.ret ⟨.c (.own d),[(d,some (.bools e l))],none⟩)
     |none=>.fail
    |some .string=>gN (parts.toList.map (·.2)) fun svs=>match oE svs with
     |some l=>.abs d (.ret ⟨.c (.own d),[(d,some (.strs e l))],none⟩)
     |none=>.fail
    |some (.slice ei)=>gN (parts.toList.map (·.2)) fun svs=>lv hint svs fun pr=>match pr with
     |some (x::xs,fs)=>match fR (x::xs)with
      |some dd=>.abs d (.ret ⟨.c (.own d),(d,some (.lst 0 e dd))::fs,none⟩)
      |none=>.fail
     |_=>match ig P ei with
      |some ki=>oF ei ki svs [] fun ls os =>
        .abs d (.ret ⟨.c (.own d),(d,some (.rows 0 e ei ki ls))::os.map (fun o=>(o,none)),none⟩)
      |none=>match svs with
       | []=>match gp P t with
        |some dd=>d9 dd (.abs d (.ret ⟨.c (.own d),[(d,some (.lst 0 e dd))],none⟩))
        |none=>.fail
       |_=>.fail
    |_=>.fail
   else .fail
 else .fail
def zr(P:Program)(d:Nat)(t:TypeId)(len:Nat)(parts:Array (Nat×Operand)):Rd Eff :=
 if(parts.toList.map (·.1))=List.range len/\len<=1000 then
  match bN P t with
  |none=>.fail
  |some e=>if cg P e=some 1/\(gL P e).isSome=true then
    match gp P t with
    |none=>.fail
    |some d0=>gN (parts.toList.map (·.2)) fun svs=>match svs with
     | []=>match sw P 4 t with
      |e1::e2::es=>if e1=e/\d0.dep=es.length+1 then d9 d0 (.abs d (.ret ⟨.c (.own d),[(d,some (.tr 0 (e1::e2::es) d0))],none⟩))else .fail
      |_=>.fail
     | [.c (.own o2)]=>.h o2 fun ob2=>match mW ob2 with
      |some (es2,y)=>match fR [y]with
       |some dd=>.abs d (.ret ⟨.c (.own d),[(d,some (.tr 0 (e::es2) dd)),(o2,none)],none⟩)
       |none=>.fail
      |none=>.fail
     | [.c (.own o1),.c (.own o2)]=>.h o1 fun ob1=>.h o2 fun ob2=>match mW ob1 with
      |some (es1,y1)=>match mW ob2 with
       |some (es2,y2)=>match fR [y1,y2]with
        |some dd=>match fE es1 es2&&!Nat.beq o1 o2 with
         |true=>.abs d (.ret ⟨.c (.own d),[(d,some (.tr 0 (e::es1) dd)),(o1,none),(o2,none)],none⟩)
         |false=>.fail
        |none=>.fail
       |none=>.fail
      |none=>.fail
     |_=>.fail
   else .fail
 else .fail
def zs(P:Program)(s:TypeId)(cx:SC)(f:Nat):Rd Eff :=
 match P.underlying s with
 |some (.struct fs)=>match fs[f]? with
  |none=>.fail
  |some fd=>match cg P fd.type with
   |some (_+1)=>match cx with
    |.ptr o i=>.h o fun
     |.box cs=>if i+fd.offset<cs.length then aE (.ptr o (i+fd.offset))else .fail
     |_=>.fail
    |.rob cs i=>aE (.rob cs (i+fd.offset))
    |.kptr o ver p j=>.h o fun
     |.tr ver' _ d=>match p with
      | []=>if ver=ver' then(match fd.offset with
       |0=>.ret ⟨.c (.kptr o ver [] j),[],some (j<d.cn)⟩
       |1=>.ret ⟨.c (.kptr o ver [] (j+1)),[],some (j+1<d.cn)⟩
       |_=>.fail)else .fail
      |_::_=>.fail
     |_=>.fail
    |_=>.fail
   |_=>.fail
 |_=>.fail
def zt(P:Program)(s:TypeId)(sv:SV)(f:Nat):Rd Eff :=
 match P.underlying s with
 |some (.struct fs)=>match fs[f]? with
  |none=>.fail
  |some fd=>match sv with
   |.agg cs=>match lu P fd.type with
    |some true=>match cg P fd.type with
     |some n=>if fd.offset+n<=cs.length then .ret ⟨.agg ((cs.drop fd.offset).take n),[],none⟩else .fail
     |none=>.fail
    |some false=>match cs[fd.offset]? with
     |some c=>aE c
     |none=>.fail
    |none=>.fail
   |_=>.fail
 |_=>.fail
def ab(n:Int)(len:Nat):Prop:=0<=n/\n<(len:Int)
def zu(P:Program)(t:TypeId)(cx ci:SC):Rd Eff :=
 match bN P t with
 |none=>.fail
 |some e=>if cg P e=some 1 then
   match ci with
   |.int _ n=>match cx with
    |.own o=>.h o fun ob=>match ob with
     |.box _=>.fail
     |.bx _=>.fail
     |.strs _ l=>.ret ⟨.c (.ptr o n.toNat),[],some (ab n l.length)⟩
     |.ints _ _ l=>.ret ⟨.c (.ptr o n.toNat),[],some (ab n l.length)⟩
     |.bools _ l=>.ret ⟨.c (.ptr o n.toNat),[],some (ab n l.length)⟩
     |.rows _ _ _ _ l=>.ret ⟨.c (.ptr o n.toNat),[],some (ab n l.length)⟩
     |.lst _ _ d=>d9 d (.ret ⟨.c (.ptr o n.toNat),[],some (ab n d.len)⟩)
     |.frz _=>.fail
     |.mp _=>.fail
     |.qu _ _ l=>.ret ⟨.c (.qptr o n.toNat),[],some (ab n l.length)⟩
     |.rowsH _ _ _ _ l _=>.ret ⟨.c (.ptr o n.toNat),[],some (ab n l.length)⟩
     |.tr ver _ d=>d9 d (.ret ⟨.c (.kptr o ver [] n.toNat),[],some (ab n d.len)⟩)
     |.yd _ _ _ _=>.fail
     |.trk ver _ d _=>d9 d (.ret ⟨.c (.kptr o ver [] n.toNat),[],some (ab n d.len)⟩)
    |.kid o ver p=>.h o fun
     |.tr ver' _ d=>if ver=ver' then(match gH d p with
      |some x=>d9 x (.ret ⟨.c (.kptr o ver p n.toNat),[],some (ab n x.len)⟩)
      |none=>.fail)else .fail
     |_=>.fail
    |.pre o len=>.h o fun ob=>jq ob (.ret ⟨.c (.ptr o n.toNat),[],some (ab n len)⟩)
    |.sub o off len=>.h o fun ob=>jq ob (.ret ⟨.c (.ptr o (off+n.toNat)),[],some (ab n len)⟩)
    |.row o ver i=>.h o fun
     |.rows ver' _ _ _ l=>if ver=ver' then .ret ⟨.c (.rptr o ver i n.toNat),[],some (ab n (l.getD i []).length)⟩else .fail
     |_=>.fail
    |.ro d=>match d with
     |.ints k l=>.ret ⟨.c (.rop (.ints k l) n.toNat),[],some (ab n l.length)⟩
     |.bools l=>.ret ⟨.c (.rop (.bools l) n.toNat),[],some (ab n l.length)⟩
     |.rows k l=>.ret ⟨.c (.rop (.rows k l) n.toNat),[],some (ab n l.length)⟩
     |.r3 k l=>.ret ⟨.c (.rop (.r3 k l) n.toNat),[],some (ab n l.length)⟩
     |.r4 k l=>.ret ⟨.c (.rop (.r4 k l) n.toNat),[],some (ab n l.length)⟩
     |_=>.fail
    |_=>.fail
   |_=>.fail
  else if cg P e=some 2 then
   match ci with
   |.int _ n=>match cx with
    |.own o=>.h o fun
     |.tr ver _ (.p3 k l)=>.ret ⟨.c (.kptr o ver [] (n.toNat*2)),[],some (ab n (FC.p3 k l).len)⟩
     |_=>.fail
    |.ro (.p3 k l)=>.ret ⟨.c (.rob [.rows k (l.getD n.toNat ([],[])).1,.rows k (l.getD n.toNat ([],[])).2] 0),[],some (ab n l.length)⟩
    |_=>.fail
   |_=>.fail
  else .fail
def sC(cx:SC):Rd Eff :=
 match cx with
 |.nil=>aE (.int .i64 0)
 |.str l=>aE (.int .i64 (l.length:Int))
 |.own o=>.h o fun ob=>match ob with
  |.box _=>.fail
  |.bx _=>.fail
  |.strs _ l=>aE (.int .i64 (l.length:Int))
  |.ints _ _ l=>aE (.int .i64 (l.length:Int))
  |.bools _ l=>aE (.int .i64 (l.length:Int))
  |.rows _ _ _ _ l=>aE (.int .i64 (l.length:Int))
  |.lst _ _ d=>aE (.int .i64 (d.len:Int))
  |.frz _=>.fail
  |.mp _=>.fail
  |.qu _ _ l=>aE (.int .i64 (l.length:Int))
  |.rowsH _ _ _ _ l _=>aE (.int .i64 (l.length:Int))
  |.tr _ _ d=>aE (.int .i64 (d.len:Int))
  |.yd _ _ _ _=>.fail
  |.trk _ _ d _=>aE (.int .i64 (d.len:Int))
 |.kid o ver p=>.h o fun
  |.tr ver' _ d=>if ver=ver' then(match gH d p with
   |some x=>aE (.int .i64 (x.len:Int))
   |none=>.fail)else .fail
  |_=>.fail
 |.pre o n=>.h o fun ob=>jq ob (aE (.int .i64 (n:Int)))
 |.sub o _ n=>.h o fun ob=>jq ob (aE (.int .i64 (n:Int)))
 |.row o ver i=>.h o fun
  |.rows ver' _ _ _ l=>if ver=ver' then aE (.int .i64 ((l.getD i []).length:Int))else .fail
  |_=>.fail
 |.ro d=>match d with
  |.ints _ l=>aE (.int .i64 (l.length:Int))
  |.bools l=>aE (.int .i64 (l.length:Int))
  |.rows _ l=>aE (.int .i64 (l.length:Int))
  |.r3 _ l=>aE (.int .i64 (l.length:Int))
  |.r4 _ l=>aE (.int .i64 (l.length:Int))
  |.p3 _ l=>aE (.int .i64 (l.length:Int))
  |_=>.fail
 |_=>.fail
def jZ{α:Type}(x:Option Operand)(k:Option Int->Rd α):Rd α :=
 match x with
 |none=>k none
 |some y=>cp y fun
  |.int _ n=>k (some n)
  |_=>.fail
def ax(L:Nat):Option Int->Option Int->Prop
 |none,none=>True
 |none,some h=>0<=h/\h<=(L:Int)
 |some l,none=>0<=l/\l<=(L:Int)
 |some l,some h=>0<=l/\l<=h/\h<=(L:Int)
def dn{α:Type}(r:List α):Option Int->Option Int->List α
 |none,none=>r
 |none,some h=>r.take h.toNat
 |some l,none=>r.drop l.toNat
 |some l,some h=>(r.take h.toNat).drop l.toNat
def j8(o L:Nat):Option Int->Option Int->SC
 |none,none=>.pre o L
 |none,some h=>.pre o h.toNat
 |some l,none=>.sub o l.toNat (L-l.toNat)
 |some l,some h=>.sub o l.toNat (h.toNat-l.toNat)
def Hj(o off L:Nat):Option Int->Option Int->SC
 |none,none=>.sub o off L
 |none,some h=>.sub o off h.toNat
 |some l,none=>.sub o (off+l.toNat) (L-l.toNat)
 |some l,some h=>.sub o (off+l.toNat) (h.toNat-l.toNat)
def oG(P:Program)(t:TypeId)(cx:SC)(lo hi:Option Operand):Rd Eff :=
 match cx with
 |.str r=>match P.underlying t with
  |some .string=>jZ lo fun l=>jZ hi fun h=>.ret ⟨.c (.str (dn r l h)),[],some (ax r.length l h)⟩
  |_=>.fail
 |cx=>match bN P t with
  |none=>.fail
  |some e=>if cg P e=some 1 then
    jZ lo fun l=>jZ hi fun h=>match cx with
     |.own o=>.h o fun
      |.box _=>.fail
      |.bx _=>.fail
      |.strs _ _=>.fail
      |.ints _ _ r=>.ret ⟨.c (j8 o r.length l h),[],some (ax r.length l h)⟩
      |.bools _ r=>.ret ⟨.c (j8 o r.length l h),[],some (ax r.length l h)⟩
      |.rows _ _ _ _ r=>.ret ⟨.c (j8 o r.length l h),[],some (ax r.length l h)⟩
      |.lst _ _ d=>d9 d (.ret ⟨.c (j8 o d.len l h),[],some (ax d.len l h)⟩)
      |.frz _=>.fail
      |.mp _=>.fail
      |.qu _ _ _=>.fail
      |.rowsH _ _ _ _ _ _=>.fail
      |.tr _ _ _=>.fail
      |.yd _ _ _ _=>.fail
      |.trk _ _ _ _=>.fail
     |.pre o L=>.h o fun ob=>jq ob (.ret ⟨.c (j8 o L l h),[],some (ax L l h)⟩)
     |.sub o off L=>.h o fun ob=>jq ob (.ret ⟨.c (Hj o off L l h),[],some (ax L l h)⟩)
     |.ro d=>match d with
      |.ints k r=>.ret ⟨.c (.ro (.ints k (dn r l h))),[],some (ax r.length l h)⟩
      |.bools r=>.ret ⟨.c (.ro (.bools (dn r l h))),[],some (ax r.length l h)⟩
      |.rows k r=>.ret ⟨.c (.ro (.rows k (dn r l h))),[],some (ax r.length l h)⟩
      |.r3 k r=>.ret ⟨.c (.ro (.r3 k (dn r l h))),[],some (ax r.length l h)⟩
      |.r4 k r=>.ret ⟨.c (.ro (.r4 k (dn r l h))),[],some (ax r.length l h)⟩
      |_=>.fail
     |_=>.fail
   else .fail
def sD(P:Program)(d:Nat)(t:TypeId)(cx:SC)(lo hi:Option Operand):Rd Eff :=
 match cx with
 |.own o=>.h o fun
  |.qu e k l=>match bN P t,hi with
   |some e',none=>if cg P e'=some 1 then
     jZ lo fun
      |some n=>.abs d (.ret ⟨.c (.own d),[(d,some (.qu e k (l.drop n.toNat))),(o,none)],some (0<=n/\n<=(l.length:Int))⟩)
      |none=>.fail
    else .fail
   |_,_=>.fail
  |_=>oG P t (.own o) lo hi
 |cx=>oG P t cx lo hi
def sE(h:Int):Ob->Option (Nat×Ob)
 |.ints e k r=>some (r.length,.ints e k (r.take h.toNat))
 |.lst _ e d=>match d with
  |.rows k r=>some (r.length,.lst 0 e (.rows k (r.take h.toNat)))
  |_=>none
 |_=>none
def zv(P:Program)(d:Nat)(t:TypeId)(cx:SC)(lo hi:Option Operand):Rd Eff :=
 match cx,lo with
 |.own o,none=>.h o fun ob=>match bN P t with
  |some e=>if cg P e=some 1 then jZ hi fun
    |some n=>match sE n ob with
     |some (L,ob')=>.abs d (.ret ⟨.c (.own d),[(d,some ob'),(o,none)],some (0<=n/\n<=(L:Int))⟩)
     |none=>.fail
    |none=>.fail
   else .fail
  |none=>.fail
 |_,_=>.fail
def il(P:Program)(e:TypeId):Bool :=
 match P.info? e with
 |some i=>Nat.ble i.bytes 128&&Nat.beq i.size 1&&(match i.zero with|some z=>Nat.beq z.cells.size 1|none=>false)
 |none=>false
def zw(P:Program)(e:TypeId):Bool :=
 match P.info? e with
 |some i=>Nat.ble i.bytes 128&&Nat.beq i.size 2&&(match i.zero with|some z=>Nat.beq z.cells.size 2|none=>false)
 |none=>false
def mX(P:Program)(e:TypeId)(c:SC):Bool :=
 match P.info? e with
 |some i=>match i.zero with
  |some (.int k n)=>match c with
   |.int k' n'=>decide (k=k'/\n=n')
   |_=>false
  |some (.bool b)=>match c with
   |.bool b'=>b == b'
   |_=>false
  |some (.slice none 0 0)=>match c with
   |.nil=>true
   |_=>false
  |_=>false
 |none=>false
def zx(P:Program)(d:Nat)(t:TypeId)(cl cc:SC):Rd Eff :=
 match bN P t with
 |none=>.fail
 |some e=>if il P e then
   match cl,cc with
   |.int _ n,.int _ m=>match P.underlying e with
    |some (.int k)=>if mX P e (.int k 0)then .abs d (.ret ⟨.c (.own d),[(d,some (.ints e k (List.replicate n.toNat 0)))],some (0<=n/\n<=m/\ah m.toNat)⟩)else .fail
    |some .bool=>if mX P e (.bool false)then .abs d (.ret ⟨.c (.own d),[(d,some (.bools e (List.replicate n.toNat false)))],some (0<=n/\n<=m/\ah m.toNat)⟩)else .fail
    |some (.slice ei)=>match ig P ei with
     |some k=>if mX P e .nil then .abs d (.ret ⟨.c (.own d),[(d,some (.rows 0 e ei k (List.replicate n.toNat [])))],some (0<=n/\n<=m/\ah m.toNat)⟩)else .fail
     |none=>match gp P t with
      |some d0=>match zg d0 n.toNat,sw P 4 t with
       |some dd,e1::e2::es=>if mX P e .nil=true/\e1=e/\d0.dep=es.length+1 then .abs d (.ret ⟨.c (.own d),[(d,some (.tr 0 (e1::e2::es) dd))],some (0<=n/\n<=m/\ah m.toNat)⟩)else .fail
       |_,_=>.fail
      |none=>.fail
    |_=>.fail
   |_,_=>.fail
  else .fail
def oH(k:IntKind)(c:SC)(K:List Int->Rd Eff):Rd Eff :=
 match c with
 |.nil=>K []
 |.own o=>.h o fun
  |.ints _ k' l=>if k'=k then K l else .fail
  |_=>.fail
 |.pre o n=>.h o fun
  |.ints _ k' l=>if k'=k then K (l.take n)else .fail
  |_=>.fail
 |.sub o off n=>.h o fun
  |.ints _ k' l=>if k'=k then K ((l.drop off).take n)else .fail
  |_=>.fail
 |.row o ver i=>.h o fun
  |.rows ver' _ _ k' l=>if k'=k/\ver=ver' then K (l.getD i [])else .fail
  |_=>.fail
 |.ro d=>match d with
  |.ints k' l=>if k'=k then K l else .fail
  |_=>.fail
 |_=>.fail
def sF(c:SC)(K:List Bool->Rd Eff):Rd Eff :=
 match c with
 |.nil=>K []
 |.own o=>.h o fun
  |.bools _ l=>K l
  |_=>.fail
 |.ro d=>match d with
  |.bools l=>K l
  |_=>.fail
 |_=>.fail
def zy(c:SC)(K:List (List UInt8)->Rd Eff):Rd Eff :=
 match c with
 |.own o=>.h o fun
  |.strs _ l=>K l
  |_=>.fail
 |_=>.fail
def zA(c:SC)(K:FC->List (Nat×Option Ob)->Rd Eff):Rd Eff :=
 match c with
 |.ro d=>K d []
 |.own o=>.h o fun
  |.lst _ _ d=>K d []
  |.rows _ _ _ k l=>K (.rows k l) [(o,some (.frz (.rows k l)))]
  |_=>.fail
 |.pre o n=>.h o fun
  |.lst _ _ d=>match b6 0 n d with
   |some d'=>K d' []
   |none=>.fail
  |_=>.fail
 |.sub o off n=>.h o fun
  |.lst _ _ d=>match b6 off n d with
   |some d'=>K d' []
   |none=>.fail
  |_=>.fail
 |_=>.fail
def mY(o:Nat):List (Nat×Option Ob)->Bool
 | []=>true
 |(o',_)::l=>!(Nat.beq o' o)&&mY o l
def j9(wd d:Nat)(e:TypeId)(cx cy:SC):Rd Eff :=
 zA cy fun dy fy=>match cx with
  |.nil=>if dH dy=false/\dy.wid=wd then .abs d (.ret ⟨.c (.own d),(d,some (.lst 0 e dy))::fy,some (ah dy.len)⟩)else .fail
  |.own o=>.h o fun
   |.lst _ e1 dx=>match iS dx dy with
    |some dd=>if e1=e/\mY o fy=true/\dy.wid=wd then .abs d (.ret ⟨.c (.own d),(d,some (.lst 0 e dd))::(o,none)::fy,some (ah (dx.len+dy.len))⟩)else .fail
    |none=>.fail
   |.rows _ e1 _ k l=>match iS (.rows k l) dy with
    |some dd=>if e1=e/\mY o fy=true/\dy.wid=wd then .abs d (.ret ⟨.c (.own d),(d,some (.lst 0 e dd))::(o,none)::fy,some (ah (l.length+dy.len))⟩)else .fail
    |none=>.fail
   |_=>.fail
  |.pre o n=>.h o fun
   |.lst _ e1 dx=>match b6 0 n dx with
    |some dx'=>match iS dx' dy with
     |some dd=>if e1=e/\mY o fy=true/\dy.wid=wd then .abs d (.ret ⟨.c (.own d),(d,some (.lst 0 e dd))::(o,none)::fy,some (ah (n+dy.len))⟩)else .fail
     |none=>.fail
    |none=>.fail
   |_=>.fail
  |_=>.fail
def oI(wd d:Nat)(e:TypeId)(cx:SC)(o2:Nat)(es2:List TypeId)(dy:FC):Rd Eff :=
 match cx with
 |.own o=>.h o fun
  |.tr _ es dx=>match iS dx dy with
   |some dd=>if fE es es2=true/\es.head?=some e/\o≠o2/\dy.wid=wd then .abs d (.ret ⟨.c (.own d),[(d,some (.tr 0 es dd)),(o,none),(o2,none)],some (ah (dx.len+dy.len))⟩)else .fail
   |none=>.fail
  |_=>.fail
 |_=>.fail
def iU(id o ver:Nat)(e ei:TypeId)(k:IntKind)(l:List (List Int))(hs:List Nat)(i:Nat):List (Nat×Option Ob) :=
 [(id,some (.ints ei k (l.getD i []))),(o,some (.rowsH ver e ei k l hs))]
def zB(P:Program)(d:Nat)(t:TypeId)(cx cy:SC):Rd Eff :=
 match bN P t with
 |none=>.fail
 |some e=>if il P e then
   match P.underlying e with
   |some (.int k)=>oH k cy fun ys=>match cx with
    |.nil=>.abs d (.ret ⟨.c (.own d),[(d,some (.ints e k ys))],some (ah ys.length)⟩)
    |.emp=>.abs d (.ret ⟨.c (.own d),[(d,some (.ints e k ys))],some (ys.length≠0/\ah ys.length)⟩)
    |.own o=>.h o fun
     |.ints e' k' l=>if e'=e/\k'=k then .abs d (.ret ⟨.c (.own d),[(d,some (.ints e k (l++ys))),(o,none)],some (ah (l.length+ys.length))⟩)else .fail
     |.qu e' k' l=>if e'=e/\k'=k then .abs d (.ret ⟨.c (.own d),[(d,some (.qu e k (l++ys))),(o,none)],some (ys.length≠0/\ah (l.length+ys.length))⟩)else .fail
     |_=>.fail
    |.pre o n=>.h o fun
     |.ints e' k' l=>if e'=e/\k'=k then .abs d (.ret ⟨.c (.own d),[(d,some (.ints e k (l.take n++ys))),(o,none)],some (ah (n+ys.length))⟩)else .fail
     |_=>.fail
    |.row o ver i=>.h o fun
     |.rows ver' e1 ei k' l=>if ver'=ver/\ei=e/\k'=k then .abs d (.abs (d+500000) (.ret ⟨.c (.own d),[(d,some (.ints e k (l.getD i []++ys))),(d+500000,none)]++iU (d+500000) o (ver+1) e1 ei k l [i] i,some (ah ((l.getD i []).length+ys.length))⟩))else .fail
     |_=>.fail
    |_=>.fail
   |some .bool=>sF cy fun ys=>match cx with
    |.nil=>.abs d (.ret ⟨.c (.own d),[(d,some (.bools e ys))],some (ah ys.length)⟩)
    |.own o=>.h o fun
     |.bools e' l=>if e'=e then .abs d (.ret ⟨.c (.own d),[(d,some (.bools e (l++ys))),(o,none)],some (ah (l.length+ys.length))⟩)else .fail
     |_=>.fail
    |_=>.fail
   |some .string=>zy cy fun ys=>match cx with
    |.own o=>.h o fun
     |.strs e' l=>if e'=e then .abs d (.ret ⟨.c (.own d),[(d,some (.strs e (l++ys))),(o,none)],some (ah (l.length+ys.length))⟩)else .fail
     |_=>.fail
    |_=>.fail
   |some (.slice _)=>match cy with
    |.own o2=>.h o2 fun
     |.rows _ e2 ei2 k2 ys=>if e2=e then
       match cx with
       |.nil=>.abs d (.ret ⟨.c (.own d),[(d,some (.rows 0 e ei2 k2 ys)),(o2,none)],some (ah ys.length)⟩)
       |.own o=>.h o fun
        |.rows _ e1 ei1 k1 l=>if e1=e/\ei1=ei2/\k1=k2/\o≠o2 then
          .abs d (.ret ⟨.c (.own d),[(d,some (.rows 0 e ei2 k2 (l++ys))),(o,none),(o2,none)],some (ah (l.length+ys.length))⟩)else .fail
        |_=>j9 1 d e cx cy
       |_=>j9 1 d e cx cy
      else .fail
     |.tr _ es2 dy=>oI 1 d e cx o2 es2 dy
     |_=>j9 1 d e cx cy
    |_=>j9 1 d e cx cy
   |some (.struct _)=>match cy with
    |.own o2=>.h o2 fun
     |.tr _ es2 dy=>oI 1 d e cx o2 es2 dy
     |_=>.fail
    |_=>.fail
   |_=>.fail
  else match zw P e with
   |false=>.fail
   |true=>match cy with
    |.own o2=>.h o2 fun
     |.tr _ es2 dy=>oI 2 d e cx o2 es2 dy
     |_=>j9 2 d e cx cy
    |_=>j9 2 d e cx cy
def zC(P:Program)(d:Nat)(t:TypeId)(cx cy:SC):Rd Eff:=.fail
def zD(sv:SV)(i:Nat):Rd Eff :=
 match sv with
 |.tup l=>match l[i]? with
  |some (.inl c)=>aE c
  |some (.inr cs)=>.ret ⟨.agg cs,[],none⟩
  |none=>.fail
 |_=>.fail
def zE(P:Program)(t:TypeId)(cx ci:SC):Rd Eff:=.fail
def cb(o:Nat):List Nat->Bool
 | []=>true
 |x::l=>match Nat.beq x o with
  |true=>false
  |false=>cb o l
def memP(i j:Nat):List (Nat×Nat)->Bool
 | []=>false
 |(a,b)::l=>(Nat.beq a i&&Nat.beq b j)||memP i j l
def dQ{α:Type}(hid:List Nat)(o:Nat)(K:Ob->Rd α):Rd α :=
 match cb o hid with
 |true=>.h o K
 |false=>.fail
def jr{α:Type}(hid:List Nat)(nl:Option FC)(c:SC)(K:FC->Rd α):Rd α :=
 match c with
 |.int k n=>K (.int k n)
 |.bool b=>K (.bool b)
 |.str l=>K (.str l)
 |.nil=>match nl with
  |some d=>K d
  |none=>.fail
 |.own o=>dQ hid o fun ob=>match ob with
  |.frz d=>K d
  |ob=>match eU ob with
   |some d=>K d
   |none=>.fail
 |.pre o n=>dQ hid o fun ob=>match eU ob with
  |some d=>match b6 0 n d with
   |some d=>K d
   |none=>.fail
  |none=>.fail
 |.sub o off n=>dQ hid o fun ob=>match eU ob with
  |some d=>match b6 off n d with
   |some d=>K d
   |none=>.fail
  |none=>.fail
 |.row o ver i=>dQ hid o fun
  |.rows ver' _ _ k l=>if ver=ver' then K (.ints k (l.getD i []))else .fail
  |_=>.fail
 |.kid o ver p=>dQ hid o fun
  |.tr ver' _ d=>if ver=ver' then(match gH d p with
   |some x=>K x
   |none=>.fail)else .fail
  |_=>.fail
 |.ro d=>K d
 |.orig _ _ d=>K d
 |.bsl o _=>dQ hid o fun
  |.box cs=>match sB cs with
   |some ls=>K (.rows .i64 ls)
   |none=>.fail
  |_=>.fail
 |_=>.fail
def zF{α:Type}(c:SC)(K:FC->Rd α):Rd α :=
 match c with
 |.own o=>.h o fun ob=>match eU ob with
  |some d=>K d
  |none=>.fail
 |_=>.fail
def mZ{α:Type}(hid:List Nat)(mt:List (Nat×Nat))(i j:Nat)(nl:Option FC)(c:SC)(K:FC->Rd α):Rd α :=
 match memP i j mt with
 |true=>zF c K
 |false=>jr hid nl c K
def sG(P:Program)(t:TypeId):List TypeId :=
 match P.underlying t with
 |some (.struct fs)=>fs.toList.flatMap fun f=>match P.underlying f.type with
  |some (.struct gs)=>gs.toList.map (·.type)
  |_=>[f.type]
 |_=>[t]
def Hk(P:Program):List TypeId->Option FC
 |t::_=>gp P t
 | []=>none
def js{α:Type}(P:Program)(hid:List Nat)(mt:List (Nat×Nat))(i:Nat):Nat->List SC->List TypeId->(List FC->Rd α)->Rd α
 |_,[],_,K=>K []
 |j,c::cs,ts,K=>mZ hid mt i j (Hk P ts) c fun d=>js P hid mt i (j+1) cs ts.tail fun ds=>K (d::ds)
def Hl(P:Program)(t:TypeId):TypeId :=
 match P.underlying t with
 |some (.pointer e)=>e
 |_=>t
def m6(ct:Option Post):Bool:=match ct with
 |some ⟨_,.c (.bool b),[]⟩=>b
 |_=>false
def lw(ct:Option Post):Prop:=match ct with
 |some ⟨p,.c (.bool _),[]⟩=>p
 |_=>False
def io(ct:Option Post):Int:=match ct with
 |some ⟨_,.c (.int .i64 n),[]⟩=>n
 |_=>0
def ip(ct:Option Post):Prop:=match ct with
 |some ⟨p,.c (.int .i64 _),[]⟩=>p
 |_=>False
def Hm(P:Program)(t:TypeId):Nat :=
 match P.underlying t with
 |some (.int .i64)=>1
 |some (.slice e)=>match P.underlying e with
  |some (.slice _)=>4
  |_=>2
 |some .bool=>3
 |_=>0
def zG(ps rs:List Nat)(ct:List AD->Option Post)(cds:List AD):Option FV :=
 match ps,rs with
 | [1],[3]=>some (.ib (fun x=>lw (ct (.c (.int .i64 x)::cds))) (fun x=>m6 (ct (.c (.int .i64 x)::cds))))
 | [2],[3]=>some (.lb (fun x=>lw (ct (.c (.ints .i64 x)::cds))) (fun x=>m6 (ct (.c (.ints .i64 x)::cds))))
 | [1,1],[1]=>some (.iii (fun x y=>ip (ct (.c (.int .i64 x)::.c (.int .i64 y)::cds))) (fun x y=>io (ct (.c (.int .i64 x)::.c (.int .i64 y)::cds))))
 | [1,1],[3]=>some (.iib (fun x y=>lw (ct (.c (.int .i64 x)::.c (.int .i64 y)::cds))) (fun x y=>m6 (ct (.c (.int .i64 x)::.c (.int .i64 y)::cds))))
 | [2,2],[1]=>some (.lli (fun x y=>ip (ct (.c (.ints .i64 x)::.c (.ints .i64 y)::cds))) (fun x y=>io (ct (.c (.ints .i64 x)::.c (.ints .i64 y)::cds))))
 | [2,2],[3]=>some (.llb (fun x y=>lw (ct (.c (.ints .i64 x)::.c (.ints .i64 y)::cds))) (fun x y=>m6 (ct (.c (.ints .i64 x)::.c (.ints .i64 y)::cds))))
 | [4],[3]=>some (.tb (fun x=>lw (ct (.c (.rows .i64 x)::cds))) (fun x=>m6 (ct (.c (.rows .i64 x)::cds))))
 | [1],[1]=>some (.ii (fun x=>ip (ct (.c (.int .i64 x)::cds))) (fun x=>io (ct (.c (.int .i64 x)::cds))))
 |_,_=>none
def zH:List SC->Option Nat
 | [.ptr o 0]=>some o
 |_=>none
def jt{α:Type}(P:Program)(hid:List Nat):List SC->(List AD->Rd α)->Rd α
 | [],K=>K []
 |c::cs,K=>match c with
  |.ptr o 0=>dQ hid o fun
   |.box xs=>match zH xs with
    |some o2=>dQ hid o2 fun
     |.box ys=>js P hid [] 0 0 ys [] fun ds=>jt P hid cs fun r=>K (.bb ds::r)
     |_=>.fail
    |none=>js P hid [] 0 0 xs [] fun ds=>jt P hid cs fun r=>K (.box ds::r)
   |_=>.fail
  |c=>jr hid none c fun d=>jt P hid cs fun r=>K (.c d::r)
def m7{α:Type}(P:Program)(Γ:FuncId->Option Ctr)(hid:List Nat)(mt:List (Nat×Nat))(i:Nat)(t:TypeId)(sv:SV)(K:AD->Rd α):Rd α :=
 match sv with
 |.c c=>match c with
  |.ptr o x=>match x with
   |0=>dQ hid o fun
    |.box xs=>js P hid [] 0 0 xs (sG P (Hl P t)) fun ds=>K (.box ds)
    |_=>.fail
   |_+1=>.fail
  |.rob cs x=>match x with
   |0=>K (.box cs)
   |_+1=>.fail
  |c=>mZ hid mt i 0 (gp P t) c fun d=>K (.c d)
 |.agg cs=>js P hid mt i 0 cs (sG P t) fun ds=>K (.agg ds)
 |.fv F=>K (.fv F)
 |.fn f caps=>match P.underlying t with
  |some (.func ps rs _)=>match Γ f with
    |none=>.fail
    |some ⟨[],ct⟩=>jt P hid caps fun cds=>match zG (ps.toList.map (Hm P)) (rs.toList.map (Hm P)) ct cds with
     |some F=>K (.fv F)
     |none=>.fail
    |some ⟨_::_,_⟩=>.fail
  |_=>.fail
 |.fvs _ _=>.fail
 |.tup _=>.fail
def iq{α:Type}(P:Program)(Γ:FuncId->Option Ctr)(hid:List Nat)(mt:List (Nat×Nat)):Nat->List SV->List TypeId->(List AD->Rd α)->Rd α
 |_,[],_,K=>K []
 |i,sv::svs,ts,K=>m7 P Γ hid mt i (ts.headD 0) sv fun ad=>iq P Γ hid mt (i+1) svs ts.tail fun ads=>K (ad::ads)
def gO:RC->Option Ob
 |.ints e k l=>some (.ints e k l)
 |.bools e l=>some (.bools e l)
 |.rows e ei k l=>some (.rows 0 e ei k l)
 |.bx cs=>some (.box (cs.map da))
 |.strs e l=>some (.strs e l)
 |.cut _ _ e ei k l=>some (.rows 0 e ei k l)
 |.lst e d=>some (.lst 0 e d)
 |.tr es d=>some (.tr 0 es d)
 |_=>none
def ka(id:Nat):RC->SC
 |.int k n=>.int k n
 |.bool b=>.bool b
 |.str l=>.str l
 |.ints _ _ _=>.own id
 |.bools _ _=>.own id
 |.rows _ _ _ _=>.own id
 |.nilq b=>.nilq b
 |.ro d=>.ro d
 |.bx _=>.ptr id 0
 |.strs _ _=>.own id
 |.cut off n _ _ _ _=>.sub id off n
 |.lst _ _=>.own id
 |.gone _=>.any
 |.tr _ _=>.own id
def m8:Nat->List RC->List (Nat×RC)
 |_,[]=>[]
 |j,x::l=>(j,x)::m8 (j+1) l
def lz:Nat->List (RC ⊕ List RC)->List (Nat×RC)
 |_,[]=>[]
 |i,.inl x::l=>(16*i,x)::lz (i+1) l
 |i,.inr xs::l=>m8 (16*i) xs++lz (i+1) l
def dt:RV->List (Nat×RC)
 |.c x=>[(0,x)]
 |.agg l=>m8 0 l
 |.tup l=>lz 0 l
 |.st _ _ _=>[]
def ir(d:Nat):Nat->List RC->List SC
 |_,[]=>[]
 |j,x::l=>ka (d+1000*j) x::ir d (j+1) l
def ju(d:Nat):Nat->List (RC ⊕ List RC)->List (SC ⊕ List SC)
 |_,[]=>[]
 |i,.inl x::l=>.inl (ka (d+1000*(16*i)) x)::ju d (i+1) l
 |i,.inr xs::l=>.inr (ir d (16*i) xs)::ju d (i+1) l
def m9(d:Nat):RV->SV
 |.c x=>.c (ka (d+1000*0) x)
 |.agg l=>.agg (ir d 0 l)
 |.tup l=>.tup (ju d 0 l)
 |.st _ _ _=>.c .any
def oJ:List FC->Bool
 | []=>true
 |d::l=>dH d&&oJ l
def sH:RC->Bool
 |.ro _=>true
 |.lst _ _=>true
 |.bx cs=>!oJ cs
 |_=>false
def roL:List (Nat×RC)->Bool
 | []=>false
 |(_,rc)::l=>sH rc||roL l
def lA(rv:RV):Bool:=roL (dt rv)
def sI:SC->Option FC
 |.int k n=>some (.int k n)
 |.bool b=>some (.bool b)
 |.str l=>some (.str l)
 |.ro d=>some d
 |_=>none
def zI:SV->Option AD
 |.c c=>match sI c with
  |some d=>some (.c d)
  |none=>none
 |.agg l=>match d8 sI l with
  |some ds=>some (.agg ds)
  |none=>none
 |_=>none
def zJ(c:Option Ctr)(svs:List SV):Option (List AD×Prop×RV) :=
 match c with
 |some ⟨[],ct⟩=>match d8 zI svs with
  |some ads=>match ct ads with
   |some ⟨pre,ret,[]⟩=>match lA ret with
    |true=>some (ads,pre,ret)
    |false=>none
   |_=>none
  |none=>none
 |_=>none
def er(d:Nat):List (Nat×RC)->List (Nat×Option Ob)
 | []=>[]
 |(i,rc)::l=>match gO rc with
  |some ob=>(d+1000*i,some ob)::er d l
  |none=>er d l
def na{α:Type}(ids:List (Nat×Option Ob))(k:Rd α):Rd α :=
 match ids with
 | []=>k
 |(i,_)::l=>.abs i (na l k)
def eW:List Nat->Bool
 | []=>true
 |i::l=>cb i l&&eW l
def nc(svs:List SV):List (Nat×Nat)->Option (List Nat)
 | []=>some []
 |(i,j)::l=>match svs[i]? with
  |some sv=>match iT sv with
   |some cs=>match cs[j]? with
    |some (.own o)=>match nc svs l with
     |some os=>some (o::os)
     |none=>none
    |_=>none
   |none=>none
  |none=>none
def gq:List FC->List FC->Option Prop
 | [],[]=>some True
 |.int k _::l,.int k' _::l'=>if k=k' then gq l l' else none
 |.bool _::l,.bool _::l'=>gq l l'
 |.str _::l,.str _::l'=>gq l l'
 |.ints k a::l,.ints k' a'::l'=>if k=k' then(match gq l l' with|some p=>some (a=a'/\p)|none=>none)else none
 |.bools a::l,.bools a'::l'=>(match gq l l' with|some p=>some (a=a'/\p)|none=>none)
 |.rows k a::l,.rows k' a'::l'=>if k=k' then(match gq l l' with|some p=>some (a=a'/\p)|none=>none)else none
 |.r3 k a::l,.r3 k' a'::l'=>if k=k' then(match gq l l' with|some p=>some (a=a'/\p)|none=>none)else none
 |.r4 k a::l,.r4 k' a'::l'=>if k=k' then(match gq l l' with|some p=>some (a=a'/\p)|none=>none)else none
 |_,_=>none
def cV:Ob->RC->Option (Ob×Prop)
 |.ints e k r,.ints e' k' r'=>if e=e'/\k=k' then some (.ints e k r',r'.length=r.length)else none
 |.bools e r,.bools e' r'=>if e=e' then some (.bools e r',r'.length=r.length)else none
 |.rows ver e ei k r,.rows e' ei' k' r'=>if e=e'/\ei=ei'/\k=k' then some (.rows ver e ei k r',r'.map List.length=r.map List.length)else none
 |.bx cs,.bx cs'=>match gq cs cs' with
  |some p=>some (.bx cs',p)
  |none=>none
 |.tr ver es r,.tr es' r'=>match fE es es'&&Nat.beq r.wid r'.wid with
  |true=>some (.tr ver es r',r'.len=r.len)
  |false=>none
 |.lst ver e d,.gone (.lst e' _)=>if e=e' then some (.lst ver e d,True)else none
 |.ints e k l,.gone (.ints e' k' _)=>if e=e'/\k=k' then some (.ints e k l,True)else none
 |.rows ver e ei k l,.gone (.rows e' ei' k' _)=>if e=e'/\ei=ei'/\k=k' then some (.rows ver e ei k l,True)else none
 |_,_=>none
def nf(rc:RC)(ob:Ob):Option Ob:=match rc.isGone with
 |true=>none
 |false=>some ob
def lB{α:Type}:List Nat->List RC->(List (Nat×Option Ob)->Prop->Rd α)->Rd α
 | [],[],K=>K [] True
 |o::os,rc::rcs,K=>.h o fun ob=>match cV ob rc with
  |some (ob',p)=>lB os rcs fun ups q=>K ((o,nf rc ob')::ups) (p/\q)
  |none=>.fail
 |_,_,_=>.fail
def sJ{α:Type}(hid:List Nat)(nl:Option FC)(c:SC)(K:FC->List (Nat×Option Ob)->Rd α):Rd α :=
 match c with
 |.int k n=>K (.int k n) []
 |.bool b=>K (.bool b) []
 |.str l=>K (.str l) []
 |.nil=>match nl with
  |some d=>K d []
  |none=>.fail
 |.ro d=>K d []
 |.own o=>dQ hid o fun ob=>match fF ob with
  |some d=>K d [(o,some (.frz d))]
  |none=>.fail
 |.pre o n=>dQ hid o fun ob=>match fF ob with
  |some d=>match b6 0 n d with
   |some d'=>K d' [(o,some (.frz d))]
   |none=>.fail
  |none=>.fail
 |.sub o off n=>dQ hid o fun ob=>match fF ob with
  |some d=>match b6 off n d with
   |some d'=>K d' [(o,some (.frz d))]
   |none=>.fail
  |none=>.fail
 |_=>.fail
def sK{α:Type}(P:Program)(hid:List Nat):List SC->List TypeId->(List FC->List (Nat×Option Ob)->Rd α)->Rd α
 | [],_,K=>K [] []
 |c::cs,ts,K=>sJ hid (Hk P ts) c fun d fs=>sK P hid cs ts.tail fun ds gs=>K (d::ds) (fs++gs)
def zK{α:Type}(P:Program)(hid:List Nat)(mt:List (Nat×Nat))(i:Nat)(t:TypeId)(sv:SV)(K:AD->List (Nat×Option Ob)->Rd α):Rd α :=
 match sv with
 |.c c=>match memP i 0 mt with
  |true=>zF c fun d=>K (.c d) []
  |false=>sJ hid (gp P t) c fun d fs=>K (.c d) fs
 |.agg cs=>sK P hid cs (sG P t) fun ds fs=>K (.agg ds) fs
 |.fv F=>K (.fv F) []
 |_=>.fail
def sL{α:Type}(P:Program)(hid:List Nat)(mt:List (Nat×Nat)):Nat->List SV->List TypeId->(List AD->List (Nat×Option Ob)->Rd α)->Rd α
 |_,[],_,K=>K [] []
 |i,sv::svs,ts,K=>zK P hid mt i (ts.headD 0) sv fun ad fs=>sL P hid mt (i+1) svs ts.tail fun ads gs=>K (ad::ads) (fs++gs)
def sM(svs:List SV):List (Nat×Nat)->Bool
 | []=>true
 |(i,j)::l=>(match svs[i]? with|some (.c _)=>Nat.beq j 0|_=>false)&&sM svs l
def sN(P:Program)(d:Nat)(mt:List (Nat×Nat))(ct:List AD->Option Post)(hid:List Nat)(svs:List SV)(ts:List TypeId):Rd Eff :=
 match sM svs mt with
 |false=>.fail
 |true=>sL P hid mt 0 svs ts fun ads fs=>match ct ads with
  |none=>.fail
  |some ⟨pre,ret,wrs⟩=>lB hid wrs fun ups p =>
   na (er d (dt ret)) (.ret ⟨m9 d ret,er d (dt ret)++(ups++fs),some (pre/\p)⟩)
def gt(P:Program)(Γ:FuncId->Option Ctr)(d:Nat)(f:FuncId)(svs:List SV)(ts:List TypeId):Rd Eff :=
 match Γ f with
 |none=>.fail
 |some ⟨mt,ct⟩=>match nc svs mt with
  |none=>.fail
  |some hid=>match eW hid with
   |false=>.fail
   |true=>iq P Γ hid mt 0 svs ts fun ads=>match ct ads with
    |none=>.fail
    |some ⟨pre,ret,wrs⟩=>match lA ret with
     |true=>sN P d mt ct hid svs ts
     |false=>lB hid wrs fun ups p =>
      na (er d (dt ret)) (.ret ⟨m9 d ret,er d (dt ret)++ups,some (pre/\p)⟩)
def zL(d:Nat)(pre:Prop)(ret:RV):Rd Eff :=
 na (er d (dt ret)) (.ret ⟨m9 d ret,er d (dt ret)++[],some (pre/\True)⟩)
def fG:RC->Option SC
 |.int k n=>some (.int k n)
 |.bool b=>some (.bool b)
 |_=>none
def sO(c:Option Ctr):Bool :=
 match c with
 |some ⟨[(0,0)],_⟩=>true
 |_=>false
def zM(P:Program)(Γ:FuncId->Option Ctr)(f:FuncId)(o ver i:Nat)(svs:List SV)(ts:List TypeId):Rd Eff :=
 match Γ f with
 |some ⟨[(0,0)],ct⟩=>.h o fun ob=>match ob with
  |.rows ver' e ei k l=>match Nat.beq ver' ver with
   |true=>iq P Γ [o] [(0,0)] 1 svs ts fun ads=>match ct (.c (.ints k (l.getD i []))::ads)with
    |some ⟨pre,.c rc,[.ints e' k' r]⟩=>match fG rc with
     |some c=>if ei=e'/\k=k' then .ret ⟨.c c,[(o,some (.rows ver' e ei k (l.set i r)))],some (pre/\r.length=(l.getD i []).length)⟩else .fail
     |none=>.fail
    |_=>.fail
   |false=>.fail
  |_=>.fail
 |_=>.fail
def zN(P:Program)(Γ:FuncId->Option Ctr)(f:FuncId)(o ver:Nat)(p:List Nat)(svs:List SV)(ts:List TypeId):Rd Eff :=
 match Γ f with
 |some ⟨[(0,0)],ct⟩=>.h o fun ob=>match ob with
  |.tr ver' es d=>match Nat.beq ver' ver with
   |true=>match gH d p with
    |some x=>iq P Γ [o] [(0,0)] 1 svs ts fun ads=>match ct (.c x::ads)with
     |some ⟨pre,.c rc,[.tr es' x']⟩=>match fG rc with
      |some c=>match fE (es.drop p.length) es'&&Nat.beq x.wid x'.wid with
       |true=>match jW d p x' with
        |some d'=>.ret ⟨.c c,[(o,some (.tr ver' es d'))],some (pre/\x'.len=x.len)⟩
        |none=>.fail
       |false=>.fail
      |none=>.fail
     |_=>.fail
    |none=>.fail
   |false=>.fail
  |_=>.fail
 |_=>.fail
def zO(P:Program)(Γ:FuncId->Option Ctr)(f:FuncId)(o off n:Nat)(svs:List SV)(ts:List TypeId):Rd Eff:=.fail
def Pr(c:Option Ctr):Bool :=
 match c with
 |some ⟨[(1,0)],_⟩=>true
 |_=>false
def zP(P:Program)(Γ:FuncId->Option Ctr)(f:FuncId)(k0:IntKind)(n0:Int)(o ver i:Nat)(svs:List SV)(ts:List TypeId):Rd Eff:=.fail
def zQ(P:Program)(Γ:FuncId->Option Ctr)(d:Nat)(f:FuncId)(o:Nat)(svs:List SV)(ts:List TypeId):Rd Eff:=.fail
def fS:Ob->Ob
 |.rows _ e ei k l=>.rows 0 e ei k l
 |.lst _ e d=>.lst 0 e d
 |.tr _ es d=>.tr 0 es d
 |.yd _ Y pre b=>.yd 0 Y pre b
 |ob=>ob
def oK:Ob->Bool
 |.ints _ _ _=>true
 |.bools _ _=>true
 |.rows _ _ _ _ _=>true
 |.lst _ _ _=>true
 |.tr _ _ _=>true
 |.yd _ _ _ _=>true
 |_=>false
def iV(P:Program)(t:TypeId):Option Ob :=
 match bN P t with
 |none=>none
 |some e=>match P.underlying e with
  |some (.int k)=>some (.ints e k [])
  |some .bool=>some (.bools e [])
  |some (.slice ei)=>match ig P ei with
   |some k=>some (.lst 0 e (.rows k []))
   |none=>match gp P t with
    |some (.r3 k l)=>match l,sw P 4 t with
     | [],[a,b,c]=>some (.tr 0 [a,b,c] (.r3 k []))
     |_,_=>none
    |_=>none
  |_=>none
abbrev Tr:=List (Nat×Option Nat×Ob)
def sP{α:Type}(k:Nat)(nl:Option Ob)(c:SC)(K:MC->Tr->Rd α):Rd α :=
 match c with
 |.int k n=>K (.c (.int k n)) []
 |.bool b=>K (.c (.bool b)) []
 |.str l=>K (.c (.str l)) []
 |.ro d=>K (.c d) []
 |.orig _ _ d=>K (.c d) []
 |.own o=>.h o fun ob=>match ob with
  |.frz d=>K (.c d) []
  |ob=>match oK ob with
   |true=>K (.ob (fS ob)) [(k,some o,ob)]
   |false=>.fail
 |.nil=>match nl with
  |some ob=>K (.ob ob) [(k,none,ob)]
  |none=>.fail
 |_=>.fail
def Hn(P:Program):List TypeId->Option Ob
 | []=>none
 |t::_=>iV P t
def sQ{α:Type}(P:Program):Nat->List SC->List TypeId->(List MC->Tr->Rd α)->Rd α
 |_,[],_,K=>K [] []
 |k,c::cs,ts,K=>sP k (Hn P ts) c fun x os=>sQ P (k+1) cs ts.tail fun l os'=>K (x::l) (os++os')
def zR{α:Type}(P:Program)(k:Nat)(t:TypeId)(sv:SV)(K:MA->Tr->Rd α):Rd α :=
 match sv with
 |.c c=>match c with
  |.ptr o i=>match i with
   |0=>.h o fun ob=>match ob with
    |.box cs=>sQ P (k+1) cs (sG P (Hl P t)) fun l os=>K (.box l) ((k,some o,.box (fm (k+1) l))::os)
    |_=>.fail
   |_+1=>.fail
  |c=>sP k (iV P t) c fun x os=>K (.m x) os
 |_=>.fail
def sR{α:Type}(P:Program):Nat->List SV->List TypeId->(List MA->Tr->Rd α)->Rd α
 |_,[],_,K=>K [] []
 |i,sv::svs,ts,K=>zR P (cK i) (ts.headD 0) sv fun x os=>sR P (i+1) svs ts.tail fun l os'=>K (x::l) (os++os')
def gP:Tr->List Nat
 | []=>[]
 |(_,some o,_)::l=>o::gP l
 |(_,none,_)::l=>gP l
def dY:Tr->Nat->Option (Option Nat×Ob)
 | [],_=>none
 |(k,x)::l,t=>match Nat.beq k t with
  |true=>some x
  |false=>dY l t
def ec(d:Nat)(os:Tr)(k:Nat):Nat :=
 match dY os k with
 |some (some o,_)=>o
 |_=>d+1000*k
def nh(f:Nat->Nat):SC->Option SC
 |.int k n=>some (.int k n)
 |.bool b=>some (.bool b)
 |.str l=>some (.str l)
 |.nil=>some .nil
 |.any=>some .any
 |.ro d=>some (.ro d)
 |.own k=>some (.own (f k))
 |.ptr k i=>some (.ptr (f k) i)
 |_=>none
def sS(f:Nat->Nat):SV->Option SV
 |.c c=>match nh f c with
  |some c'=>some (.c c')
  |none=>none
 |.fn g l=>match d8 (nh f) l with
  |some l'=>some (.fn g l')
  |none=>none
 |.tup l=>match l with
  | []=>some (.tup [])
  |_=>none
 |_=>none
def iu(f:Nat->Nat)(ob:Ob):Option Ob :=
 match ob with
 |.box cs=>match d8 (nh f) cs with
  |some cs'=>some (.box cs')
  |none=>none
 |ob=>match oK ob with
  |true=>some ob
  |false=>none
def oL:Ob->Ob->Bool
 |.box cs,.box cs'=>Nat.beq cs.length cs'.length
 |.yd _ _ _ _,.yd _ _ _ _=>true
 |_,_=>false
def fo:Ob->Ob->Ob
 |.yd v _ _ _,.yd v' Y pre b=>.yd (v+v') Y pre b
 |_,ob=>ob
def oM(d:Nat)(os:Tr):List (Nat×Option Ob)->Option (List (Nat×Option Ob)×List (Nat×Option Ob))
 | []=>some ([],[])
 |(_,none)::_=>none
 |(k,some ob)::l=>match iu (ec d os) ob with
  |none=>none
  |some ob'=>match oM d os l with
   |none=>none
   |some (kept,new)=>match dY os k with
    |some (some o,ob0)=>match oL ob0 ob with
     |true=>some ((o,some (fo ob0 ob'))::kept,new)
     |false=>none
    |some (none,_)=>none
    |none=>some (kept,(d+1000*k,some ob')::new)
def cO(hp:List (Nat×Option Ob)):Tr->List (Nat×Option Ob)
 | []=>[]
 |(k,some o,_)::l=>match lk hp k with
  |none=>(o,none)::cO hp l
  |some _=>cO hp l
 |(_,none,_)::l=>cO hp l
def zS(c:Option Ctr):Bool :=
 match c with
 |some ⟨[(0,93),(0,93)],_⟩=>true
 |_=>false
def zT(P:Program)(d:Nat)(c:Option Ctr)(svs:List SV)(ts:List TypeId):Rd Eff :=
 match c with
 |none=>.fail
 |some ⟨_,ct⟩=>sR P 0 svs ts fun mas os=>match ct (mas.map .ma)with
  |some ⟨pre,.st sv ex outs,[]⟩=>match eW (os.map (·.1))&&eW (gP os)&&eW ((gn 0 outs++gK ex).map (·.1))with
   |true=>match sS (ec d os) sv,oM d os (gn 0 outs++gK ex)with
    |some sv',some (kept,new)=>na new (.ret ⟨sv',new++(kept++cO (gn 0 outs++gK ex) os),some pre⟩)
    |_,_=>.fail
   |false=>.fail
  |_=>.fail
def Ps(c:Option Ctr)(svs:List SV):Bool :=
 match c with
 |some ⟨[(1,0)],_⟩=>match svs with
  | [.c (.int .i64 _),.fn _ _]=>true
  |_=>false
 |_=>false
def zU(P:Program)(Γ:FuncId->Option Ctr)(d:Nat)(f:FuncId)(svs:List SV):Rd Eff:=.fail
def zV(o:Nat)(F:SFV)(svs:List SV):Rd Eff:=.fail
def zW(c:Option Ctr):Bool :=
 match c with
 |some ⟨[(0,97),(0,97)],_⟩=>true
 |_=>false
def zX(c:Option Ctr)(svs:List SV):Rd Eff :=
 match c with
 |some ⟨_,ct⟩=>match svs with
  | [.c (.own o),.fn g []]=>.h o fun ob=>match ob with
   |.rows ver e ei .i64 l=>match ct [.c (.rows .i64 l)]with
    |some ⟨pre,.c (.rows g' _ .i64 l'),_⟩=>match Nat.beq g' g with
     |true=>.ret ⟨.tup [],[(o,some (.rows (ver+1) e ei .i64 l'))],some (pre/\l'.length=l.length)⟩
     |false=>.fail
    |_=>.fail
   |.tr ver [e,e2,e3] (.r3 .i64 l)=>match ct [.c (.r3 .i64 l)]with
    |some ⟨pre,.c (.tr [g'] (.r3 .i64 l')),_⟩=>match Nat.beq g' g with
     |true=>.ret ⟨.tup [],[(o,some (.tr (ver+1) [e,e2,e3] (.r3 .i64 l')))],some (pre/\l'.length=l.length)⟩
     |false=>.fail
    |_=>.fail
   |_=>.fail
  |_=>.fail
 |none=>.fail
def Ho(c:Option Ctr):Bool :=
 match c with
 |some ⟨[(0,96),(0,96)],_⟩=>true
 |_=>false
def zY(c:Option Ctr)(svs:List SV):Rd Eff:=.fail
def Hp(c:Option Ctr):Bool :=
 match c with
 |some ⟨[(0,99),(0,99)],_⟩=>true
 |_=>false
def zZ(d:Nat)(svs:List SV):Rd Eff:=.fail
def Hq(c:Option Ctr):Option TypeId :=
 match c with
 |some ⟨[(0,98),(0,98)],ct⟩=>match ct []with
  |some ⟨_,.c (.ints e .i64 []),_⟩=>some e
  |_=>none
 |_=>none
def Aa(d:Nat)(e:TypeId)(svs:List SV):Rd Eff:=.fail
def Pt(c:Option Ctr):Bool :=
 match c with
 |some ⟨[(0,0),(1,0)],_⟩=>true
 |_=>false
def Ab(P:Program)(Γ:FuncId->Option Ctr)(d:Nat)(f:FuncId)(o ver i j:Nat)(ts:List TypeId):Rd Eff:=.fail
def gQ(d:Nat)(ob:Ob):Rd Eff->Rd Eff
 |.ret e=>.ret ⟨e.val,e.hp++[(d,none)],e.owed⟩
 |.fail=>.fail
 |.f t k=>.f t fun sv=>gQ d ob (k sv)
 |.h o k=>match Nat.beq o d with
  |true=>gQ d ob (k ob)
  |false=>.h o fun x=>gQ d ob (k x)
 |.abs o k=>match Nat.beq o d with
  |true=>.fail
  |false=>.abs o (gQ d ob k)
def sT(c:Option Ctr)(svs:List SV):Option Nat :=
 match c with
 |some ⟨[(i,0)],_⟩=>match svs[i]? with
  |some (.c .nil)=>some i
  |_=>none
 |_=>none
def Ac(P:Program)(Γ:FuncId->Option Ctr)(d:Nat)(f:FuncId)(i:Nat)(svs:List SV)(ts:List TypeId):Rd Eff :=
 match Γ f with
 |some ⟨_,ct⟩=>iq P Γ [] [] 0 svs ts fun ads=>match ct ads with
  |some ⟨_,_,[.gone (.rows e ei k _)]⟩=>.abs (d+490490) (gQ (d+490490) (.rows 0 e ei k []) (gt P Γ d f (svs.set i (.c (.own (d+490490)))) ts))
  |_=>.fail
 |none=>.fail
def sU(sv:SV):Option SC :=
 match sv with
 |.c c=>if c.plain then some c else none
 |_=>none
def Ad(P:Program)(o i:Nat):Rd Eff :=
 match Nat.beq o i with
 |true=>.fail
 |false=>.h o fun ob=>match ob with
  |.yd v Y pre b=>.h i fun ob2=>match ob2 with
   |.ints e k x=>match k with
    |.i64=>.ret ⟨.c (.bool (Y.go pre x)),[(o,some (.yd (v+1) Y (pre++[x]) (Y.go pre x)))],some (Y.P=P/\Y.e=e/\b=true/\Y.ok pre x)⟩
    |_=>.fail
   |_=>.fail
  |_=>.fail
def Hr(P:Program)(Γ:FuncId->Option Ctr)(d:Nat)(fv:SV)(svs:List SV)(ts:List TypeId):Rd Eff :=
 match fv with
 |.fn f []=>match Hp (Γ f)with
  |true=>zZ d svs
  |false=>match Hq (Γ f)with
   |some e=>Aa d e svs
   |none=>match zW (Γ f)with
    |true=>zX (Γ f) svs
    |false=>match Ho (Γ f)with
    |true=>zY (Γ f) svs
    |false=>match zS (Γ f)with
    |true=>zT P d (Γ f) svs ts
    |false=>match Ps (Γ f) svs with
    |true=>zU P Γ d f svs
    |false=>match zJ (Γ f) svs with
     |some (_,pre,ret)=>zL d pre ret
     |none=>match svs with
      |.c (.row o ver i)::rest=>match sO (Γ f)with
       |true=>zM P Γ f o ver i rest ts.tail
       |false=>match Pt (Γ f)with
        |true=>match rest with
         | [.c (.row o' ver' j)]=>match Nat.beq o' o,Nat.beq ver' ver with
          |true,true=>Ab P Γ d f o ver i j ts
          |_,_=>gt P Γ d f svs ts
         |_=>gt P Γ d f svs ts
        |false=>gt P Γ d f svs ts
      |.c (.kid o ver p)::rest=>match sO (Γ f)with
       |true=>zN P Γ f o ver p rest ts.tail
       |false=>gt P Γ d f svs ts
      |.c (.sub o off n)::rest=>match sO (Γ f)with
       |true=>zO P Γ f o off n rest ts.tail
       |false=>gt P Γ d f svs ts
      |.c (.ptr o 0)::rest=>match sO (Γ f)with
       |true=>zQ P Γ d f o rest ts
       |false=>gt P Γ d f svs ts
      |.c (.int k0 n0)::.c (.row o ver i)::rest=>match Pr (Γ f)with
       |true=>zP P Γ f k0 n0 o ver i rest ts.tail.tail
       |false=>gt P Γ d f svs ts
      |svs=>match sT (Γ f) svs with
       |some i=>Ac P Γ d f i svs ts
       |none=>gt P Γ d f svs ts
 |.fvs o F=>zV o F svs
 |.fn f (c::cs)=>gt P Γ d f (svs++(c::cs).map .c) ts
 |.fv F=>match d8 sU svs with
  |some cs=>js P [] [] 0 0 cs ts fun ds=>match F.at ds with
   |some (q,c)=>.ret ⟨.c c,[],some q⟩
   |none=>.fail
  |none=>.fail
 |.c c=>match c with
  |.own o=>match svs with
   | [.c (.own i)]=>Ad P o i
   |_=>.fail
  |_=>.fail
 |_=>.fail
def Hs(lo hi:Option Operand)(mx:Operand):Bool :=
 match lo,hi,mx with
 |none,some (.const (.int .i64 0)),.const (.int .i64 0)=>true
 |_,_,_=>false
def Ae(P:Program)(s t:TypeId):Bool :=
 match P.underlying t with
 |some .string=>match bN P s with
  |some e=>match ig P e with
   |some .u8=>true
   |_=>false
  |none=>false
 |_=>false
def Pu(l:List Int):List UInt8:=l.map fun n=>UInt8.ofNat n.toNat
def Af(cx cy:SC):Rd Eff:=.fail
def Ag(cx cy:SC):Rd Eff:=.fail
def Pv(x:Operand):Bool :=
 match x with
 |.const (.pointer none)=>true
 |_=>false
def Ah(P:Program)(d:Nat)(t:TypeId)(r:Option Operand):Rd Eff:=.fail
def Ai(P:Program)(t:TypeId)(cm ck cv:SC):Rd Eff:=.fail
def Aj(P:Program)(t:TypeId)(ok:Bool)(cm ck:SC):Rd Eff:=.fail
def cq(P:Program)(Γ:FuncId->Option Ctr)(wr:Nat->Bool)(o:Oper):Rd Eff :=
 let d:=match o.dst with|some d=>d|none=>0
 match o.op with
 |.move x=>eV x fun sv=>.ret ⟨sv,[],none⟩
 |.assign x=>match Pv x with
  |true=>.ret ⟨.c .any,[],none⟩
  |false=>eV x fun sv=>.ret ⟨sv,[],none⟩
 |.nilCheck x=>cp x fun
  |.ptr o i=>.h o fun ob=>jq ob (aE (.ptr o i))
  |.rob cs i=>aE (.rob cs i)
  |_=>.fail
 |.pick c x y=>cp c fun
  |.bool true=>eV x fun sv=>.ret ⟨sv,[],none⟩
  |.bool false=>eV y fun sv=>.ret ⟨sv,[],none⟩
  |_=>.fail
 |.alloc t=>zk P d t
 |.box _ x=>eV x fun sv=>zm d sv
 |.build t parts=>zn P t parts
 |.buildSlice t len parts=>match wr (5000000+d)with
  |true=>zo P (wr (1000000+d)) d t len parts
  | false=>match wr (6000000+d)with
   |true=>zp P d t len parts
   | false=>match wr (2000000+d)with
    |true=>zr P d t len parts
    |false=>zq P (wr (1000000+d)) d t len parts
 |.load t x=>match wr (3000000+d)with
  |true=>cp x fun cx=>zi P d t cx
  |false=>cp x fun cx=>sy P t cx
 |.store t x y=>cp x fun cx=>eV y fun sv=>zj P t cx sv
 |.binOp op t x y _=>cp x fun cx=>cp y fun cy=>zc P t (wr d) op cx cy
 |.unOp op _ x=>cp x fun cx=>zd (wr d) op cx
 |.convert s t x=>cp x fun cx=>match Ae P s t with
  |true=>jr [] (gp P s) cx fun
   |.ints .u8 l=>.ret ⟨.c (.str (Pu l)),[],none⟩
   |_=>.fail
  |false=>ze P (wr d) s t cx
 |.makeFunc fn first caps=>match fn with
  |.func f=>if first.isEmpty then gN caps.toList fun svs=>match d8 sU svs with
   |some cs=>.ret ⟨.fn f cs,[],none⟩
   |none=>.fail
   else .fail
  |_=>.fail
 |.makeSlice t l c=>cp l fun cl=>cp c fun cc=>zx P d t cl cc
 |.slice t x lo hi mx=>match mx with
  |none=>match wr (4000000+d)with
   |true=>cp x fun cx=>zv P d t cx lo hi
   |false=>cp x fun cx=>sD P d t cx lo hi
  |some m=>match Hs lo hi m with
   |true=>match bN P t with
    |some e=>match cg P e with
     |some _=>cp x fun cx=>jr [] (gp P t) cx fun
      |.ints _ _=>.ret ⟨.c .emp,[],none⟩
      |.bools _=>.ret ⟨.c .emp,[],none⟩
      |.rows _ _=>.ret ⟨.c .emp,[],none⟩
      |_=>.fail
     |none=>.fail
    |none=>.fail
   |false=>.fail
 |.fieldAddr s x f=>cp x fun cx=>zs P s cx f
 |.field s x f=>eV x fun sv=>zt P s sv f
 |.indexAddr t x i=>cp x fun cx=>cp i fun ci=>zu P t cx ci
 |.index t x i=>cp x fun cx=>cp i fun ci=>zE P t cx ci
 |.extract x i=>eV x fun sv=>zD sv i
 |.call c=>match c.callee with
  |.value f=>eV f fun fv=>gN c.args.toList fun svs=>Hr P Γ d fv svs c.argTypes.toList
  |.builtin b=>match b with
   |.len=>match c.args.toList,c.argTypes.toList with
    | [x],[t]=>cp x fun cx=>match cx with
     |.str _=>match P.underlying t with
      |some .string=>sC cx
      |_=>.fail
     |cx=>match bN P t with
      |some _=>sC cx
      |none=>.fail
    |_,_=>.fail
   |.append=>match c.args.toList,c.argTypes.toList with
    | [x,y],[t,t']=>if t=t' then cp x fun cx=>cp y fun cy=>zB P d t cx cy else match ig P t' with
     |some _=>cp x fun cx=>cp y fun cy=>zC P d t cx cy
     |none=>.fail
    |_,_=>.fail
   |.min=>match c.args.toList with
    | [x,y]=>cp x fun cx=>cp y fun cy=>Af cx cy
    |_=>.fail
   |.max=>match c.args.toList with
    | [x,y]=>cp x fun cx=>cp y fun cy=>Ag cx cy
    |_=>.fail
   |_=>.fail
  |.invoke _ _=>.fail
 |.makeMap t r=>Ah P d t r
 |.mapUpdate t m k v=>cp m fun cm=>cp k fun ck=>cp v fun cv=>Ai P t cm ck cv
 |.lookup t m k ok=>cp m fun cm=>cp k fun ck=>Aj P t ok cm ck
 |_=>.fail
end Go.Sx
