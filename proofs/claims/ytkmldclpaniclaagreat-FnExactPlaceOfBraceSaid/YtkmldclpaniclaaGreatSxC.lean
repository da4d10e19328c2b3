/- SxC -/
import Derived.Test.YtkmldclpaniclaaGreatSxBt
set_option linter.unusedSimpArgs false
set_option linter.unusedVariables false
namespace Go.Sx
open Go.RowKit
inductive Key where
 |f (t:Nat)
 |h (o:Nat)
def Key.eq:Key->Key->Bool
 |.f a,.f b=>Nat.beq a b
 |.h a,.h b=>Nat.beq a b
 |_,_=>false
inductive Rd (α:Type) where
 |ret (x:α)
 |fail
 |f (t:Nat) (k:SV->Rd α)
 |h (o:Nat) (k:Ob->Rd α)
 |abs (o:Nat) (k:Rd α)
def Rd.run{α:Type}(σ:State):Rd α->Option α
 |.ret x=>some x
 |.fail=>none
 |.f t k=>match σ.F t with
  |some sv=>(k sv).run σ
  |none=>none
 |.h o k=>match σ.H o with
  |some (some ob)=>(k ob).run σ
  |some none=>none
  |none=>none
 |.abs o k=>match σ.H o with
  |none=>k.run σ
  |some _=>none
def Rd.keys{α:Type}(σ:State):Rd α->List Key
 |.ret _=>[]
 |.fail=>[]
 |.f t k=>.f t::match σ.F t with
  |some sv=>(k sv).keys σ
  |none=>[]
 |.h o k=>.h o::match σ.H o with
  |some (some ob)=>(k ob).keys σ
  |some none=>[]
  |none=>[]
 |.abs o k=>.h o::k.keys σ
structure Eff where
 val:SV
 hp:List (Nat×Option Ob)
 owed:Option Prop
def Eff.obl(e:Eff):Prop :=
 match e.owed with
 |none=>True
 |some p=>p
inductive MC where
 |c (d:FC)
 |ob (x:Ob)
inductive MA where
 |m (x:MC)
 |box (l:List MC)
inductive AD where
 |c (d:FC)
 |agg (cs:List FC)
 |box (cs:List FC)
 |bb (cs:List FC)
 |fv (F:FV)
 |fvs (F:SFV) (s:Int)
 |cut (off n:Nat) (d:FC)
 |ma (x:MA)
inductive RC where
 |int (k:IntKind) (n:Int)
 |bool (b:Bool)
 |str (l:List UInt8)
 |ints (e:TypeId) (k:IntKind) (l:V7)
 |bools (e:TypeId) (l:List Bool)
 |rows (e ei:TypeId) (k:IntKind) (l:V8)
 |nilq (b:Bool)
 |ro (d:FC)
 |bx (cs:List FC)
 |strs (e:TypeId) (l:List (List UInt8))
 |cut (off n:Nat) (e ei:TypeId) (k:IntKind) (l:V8)
 |lst (e:TypeId) (d:FC)
 |gone (x:RC)
 |tr (es:List TypeId) (d:FC)
def RC.isGone:RC->Bool
 |.gone _=>true
 |_=>false
inductive RV where
 |c (x:RC)
 |agg (l:List RC)
 |tup (l:List (RC ⊕ List RC))
 |st (sv:SV) (ex:List (Nat×Ob)) (outs:List MA)
structure Post where
 pre:Prop
 ret:RV
 wrs:List RC:=[]
structure Ctr where
 mt:List (Nat×Nat):=[]
 ct:List AD->Option Post
def dg:FC->SC
 |.int k n=>.int k n
 |.bool b=>.bool b
 |.str l=>.str l
 |.ints k l=>.ro (.ints k l)
 |.bools l=>.ro (.bools l)
 |.rows k l=>.ro (.rows k l)
 |.r3 k l=>.ro (.r3 k l)
 |.r4 k l=>.ro (.r4 k l)
 |.p3 k l=>.ro (.p3 k l)
def dL:FC->Bool
 |.int _ _=>true
 |.bool _=>true
 |.str _=>true
 |_=>false
def fa:Ob->Option FC
 |.ints _ k l=>some (.ints k l)
 |.bools _ l=>some (.bools l)
 |.rows _ _ _ k l=>some (.rows k l)
 |.box _=>none
 |.bx _=>none
 |.strs _ _=>none
 |.lst _ _ d=>match dL d with
  |true=>none
  |false=>some d
 |.frz _=>none
 |.mp _=>none
 |.qu _ _ _=>none
 |.rowsH _ _ _ _ _ _=>none
 |.tr _ _ d=>some d
 |.yd _ _ _ _=>none
 |.trk _ _ _ _=>none
/- The state that a call by states begins in: argument i's object has the name 7000 + 100 i, its cells' objects those behind it. -/
def cR(i:Nat):Nat:=7000+100*i
def A8(k:Nat):MC->SC
 |.c d=>dg d
 |.ob _=>.own k
def tU(k:Nat):MC->List (Nat×Option Ob)
 |.c _=>[]
 |.ob x=>[(k,some x)]
def fA:Nat->List MC->List SC
 |_,[]=>[]
 |k,x::l=>A8 k x::fA (k+1) l
def kv:Nat->List MC->List (Nat×Option Ob)
 |_,[]=>[]
 |k,x::l=>tU k x++kv (k+1) l
def o9(k:Nat):MA->SV
 |.m x=>.c (A8 k x)
 |.box _=>.c (.ptr k 0)
def Jm(k:Nat):MA->List (Nat×Option Ob)
 |.m x=>tU k x
 |.box l=>(k,some (.box (fA (k+1) l)))::kv (k+1) l
def tV:Nat->List MA->List (Nat×SV)
 |_,[]=>[]
 |i,x::l=>(i,o9 (cR i) x)::tV (i+1) l
def gU:Nat->List MA->List (Nat×Option Ob)
 |_,[]=>[]
 |i,x::l=>Jm (cR i) x++gU (i+1) l
def eh(mas:List MA):State:=⟨tV 0 mas,gU 0 mas⟩
def SQ(k:Nat):MA->List (Nat×Option Ob)
 |.m x=>tU k x
 |.box l=>(k,some (.box (fA (k+1001) l)))::kv (k+1001) l
def gy:Nat->List MA->List (Nat×Option Ob)
 |_,[]=>[]
 |i,x::l=>SQ (cR i) x++gy (i+1) l
def gV(ex:List (Nat×Ob)):List (Nat×Option Ob):=ex.map fun p=>(p.1,some p.2)
def iv(sv:SV)(hp:List (Nat×Option Ob)):State:=⟨[(0,sv)],hp⟩
def kw(mas:List MA)(hp:List (Nat×Option Ob)):List Nat:=((gU 0 mas).map (·.1)).filter fun k=>(lk hp k).isSome
def fM:Ob->Option FC
 |.frz d=>some d
 |ob=>match fa ob with
  |some d=>match bZ 0 d.len d with
   |some _=>some d
   |none=>none
  |none=>none
def jG{α:Type}(ob:Ob)(r:Rd α):Rd α :=
 match ob.isFz with
 |true=>.fail
 |false=>r
def A9{α:Type}(c:SC)(k:SC->Rd α):Rd α :=
 match c with
 |.own o=>.h o fun ob=>match ob with
  |.frz d=>k (.ro d)
  |_=>k (.own o)
 |.pre o n=>.h o fun ob=>match ob with
  |.frz d=>match bZ 0 n d with
   |some d'=>k (.ro d')
   |none=>.fail
  |_=>k (.pre o n)
 |.sub o off n=>.h o fun ob=>match ob with
  |.frz d=>match bZ off n d with
   |some d'=>k (.ro d')
   |none=>.fail
  |_=>k (.sub o off n)
 |c=>k c
def nw:Value->Option SC
 |.int k n=>some (.int k n)
 |.bool b=>some (.bool b)
 |.string s=>some (.str s.data.toList)
 |.slice none 0 0=>some .nil
 |_=>none
def em{α β:Type}(f:α->Option β):List α->Option (List β)
 | []=>some []
 |x::l=>match f x with
  |some y=>match em f l with
   |some ys=>some (y::ys)
   |none=>none
  |none=>none
def fb{α:Type}(x:Operand)(k:SV->Rd α):Rd α :=
 match x with
 |.tmp t=>.f t k
 |.const v=>match v with
  |.agg cs=>match em nw cs.toList with
   |some l=>k (.agg l)
   |none=>.fail
  |.nilFunc=>k (.c .any)
  |v=>match nw v with
   |some c=>k (.c c)
   |none=>.fail
 |.func f=>k (.fn f [])
 |.global _=>.fail
def cA{α:Type}(x:Operand)(k:SC->Rd α):Rd α :=
 fb x fun
  |.c c=>A9 c k
  |_=>.fail
def lP(P:Program)(t:TypeId):Option Bool :=
 match P.underlying t with
 |some (.struct _)=>some true
 |some (.array _ _)=>some true
 |some _=>some false
 |none=>none
def cp(P:Program)(t:TypeId):Option Nat :=
 match P.info? t with
 |some i=>some i.size
 |none=>none
def bL(P:Program)(t:TypeId):Option TypeId :=
 match P.underlying t with
 |some (.slice e)=>some e
 |_=>none
def ac(n:Int):Prop:=-9223372036854775808<=n/\n<=9223372036854775807
def iw(wr:Bool)(k:IntKind)(r:Int):Eff :=
 match wr,k with
 |false,.i64=>⟨.c (.int .i64 r),[],some (ac r)⟩
 |_,k=>⟨.c (.int k (k.wrap r)),[],none⟩
def aI(c:SC):Rd Eff:=.ret ⟨.c c,[],none⟩
def Ba(P:Program)(t:TypeId):Bool :=
 match P.underlying t with
 |some .bool=>true
 |_=>false
def af(n:Nat):Prop:=n<=1099511627776
def SR:BinOp->Bool
 |.shl=>true
 |.shr=>true
 |_=>false
def Bb(wr:Bool)(op:BinOp)(cx cy:SC):Rd Eff:=.fail
def Jn(op:BinOp)(cx cy:SC):Bool :=
 match op,cx,cy with
 |.and,.int .u64 _,.int .u64 _=>true
 |_,_,_=>false
def Bc(cx cy:SC):Rd Eff:=.fail
def Bd(P:Program)(t:TypeId)(wr:Bool)(op:BinOp)(cx cy:SC):Rd Eff :=
 match SR op with
 |true=>Bb wr op cx cy
 |false=>match Jn op cx cy with
 |true=>Bc cx cy
 |false=>match cx,cy with
 |.int k a,.int k' b =>
  if k=k' then
   match op with
   |.and=>.ret ⟨.c (.int k ((a.toNat &&& b.toNat:Nat):Int)),[],some (k=.i64/\(0<=a/\a<=9223372036854775807)/\0<=b/\b<=9223372036854775807)⟩
   |.or=>.ret ⟨.c (.int k ((a.toNat ||| b.toNat:Nat):Int)),[],some (k=.i64/\(0<=a/\a<=9223372036854775807)/\0<=b/\b<=9223372036854775807)⟩
   |.add=>.ret (iw wr k (a+b))
   |.sub=>.ret (iw wr k (a-b))
   |.mul=>.ret (iw wr k (a*b))
   |.quo=>.ret ⟨(iw wr k (a.tdiv b)).val,[],some (b≠0/\(iw wr k (a.tdiv b)).obl)⟩
   |.rem=>.ret ⟨.c (.int k (a.tmod b)),[],some (b≠0)⟩
   |.eql=>aI (.bool (a == b))
   |.neq=>aI (.bool (a != b))
   |.lss=>aI (.bool (decide (a<b)))
   |.leq=>aI (.bool (decide (a<=b)))
   |.gtr=>aI (.bool (decide (b<a)))
   |.geq=>aI (.bool (decide (b<=a)))
   |_=>.fail
  else .fail
 |.bool a,.bool b =>
  if Ba P t then
   match op with
   |.eql=>aI (.bool (a == b))
   |.neq=>aI (.bool (!(a == b)))
   |_=>.fail
  else .fail
 |.str a,.str b =>
  match op with
  |.eql=>aI (.bool (a == b))
  |.neq=>aI (.bool (!(a == b)))
  |.add=>.ret ⟨.c (.str (a++b)),[],some (af (a.length+b.length))⟩
  |_=>.fail
 |.nilq b,.nil=>match bL P t with
  |some _=>match op with
   |.eql=>aI (.bool b)
   |.neq=>aI (.bool (!b))
   |_=>.fail
  |none=>.fail
 |.ro d,.nil=>match bL P t with
  |some _=>match op with
   |.eql=>.ret ⟨.c (.bool false),[],some (d.len≠0)⟩
   |.neq=>.ret ⟨.c (.bool true),[],some (d.len≠0)⟩
   |_=>.fail
  |none=>.fail
 |_,_=>.fail
def Be(wr:Bool)(op:UnOp)(cx:SC):Rd Eff :=
 match op,cx with
 |.neg,.int k a=>.ret (iw wr k (-a))
 |.not,.bool b=>aI (.bool (!b))
 |_,_=>.fail
def iy(P:Program)(t:TypeId):Option IntKind :=
 match P.underlying t with
 |some (.int k)=>some k
 |_=>none
def Bf(P:Program)(wr:Bool)(src dst:TypeId)(cx:SC):Rd Eff :=
 match cx with
 |.int _ n=>match P.underlying src with
  |some _=>match iy P dst with
   |some k=>.ret (iw wr k n)
   |none=>.fail
  |none=>.fail
 |_=>.fail
def Bg:FC->Option FC
 |.rows k _=>some (.ints k [])
 |.r3 k _=>some (.rows k [])
 |.r4 k _=>some (.r3 k [])
 |_=>none
def i7:FC->FC->Option FC
 |.rows k l,.rows k' l'=>if k=k' then some (.rows k (l++l'))else none
 |.r3 k l,.r3 k' l'=>if k=k' then some (.r3 k (l++l'))else none
 |.r4 k l,.r4 k' l'=>if k=k' then some (.r4 k (l++l'))else none
 |.p3 k l,.p3 k' l'=>if k=k' then some (.p3 k (l++l'))else none
 |_,_=>none
def f5:List FC->Option FC
 | []=>none
 | [.ints k x]=>some (.rows k [x])
 | [.rows k x]=>some (.r3 k [x])
 | [.r3 k x]=>some (.r4 k [x])
 |.ints k x::l=>match f5 l with
  |some (.rows k' ls)=>if k=k' then some (.rows k (x::ls))else none
  |_=>none
 |.rows k x::l=>match f5 l with
  |some (.r3 k' ls)=>if k=k' then some (.r3 k (x::ls))else none
  |_=>none
 |.r3 k x::l=>match f5 l with
  |some (.r4 k' ls)=>if k=k' then some (.r4 k (x::ls))else none
  |_=>none
 |_=>none
def tW(P:Program):Nat->TypeId->List TypeId
 |0,_=>[]
 |n+1,t=>match bL P t with
  |some e=>e::tW P n e
  |none=>[]
def Bh:FC->Nat->Option FC
 |.rows k _,n=>some (.rows k (List.replicate n []))
 |.r3 k _,n=>some (.r3 k (List.replicate n []))
 |.r4 k _,n=>some (.r4 k (List.replicate n []))
 |_,_=>none
def nz:Ob->Option (List TypeId×FC)
 |.ints e k l=>some ([e],.ints k l)
 |.rows _ e ei k l=>some ([e,ei],.rows k l)
 |.tr _ es d=>some (es,d)
 |_=>none
def tX:FC->Option (IntKind×V7)
 |.ints k l=>some (k,l)
 |_=>none
def Bi:SC->SC
 |.orig _ _ d=>.ro d
 |c=>c
def tY(P:Program)(t:TypeId)(cx:SC):Rd Eff :=
 match lP P t with
 |none=>.fail
 |some true=>match cp P t with
  |none=>.fail
  |some n=>match cx with
   |.ptr o i=>.h o fun
    |.box cs=>if i+n<=cs.length then .ret ⟨.agg ((cs.drop i).take n),[],none⟩else .fail
    |_=>.fail
   |.rob cs i=>if i+n<=cs.length then .ret ⟨.agg (((cs.drop i).take n).map dg),[],none⟩else .fail
   |.rop d i=>match n,d with
    |1,.r3 k l=>.ret ⟨.agg [.ro (.rows k (l.getD i []))],[],none⟩
    |_,_=>.fail
   |_=>.fail
 |some false=>match cx with
  |.ptr o i=>.h o fun
   |.box cs=>match cs[i]? with
    |some c=>aI (Bi c)
    |none=>.fail
   |.ints _ k l=>aI (.int k (l.getD i 0))
   |.bools _ l=>aI (.bool (l.getD i false))
   |.rows ver _ _ _ _=>aI (.row o ver i)
   |.bx _=>.fail
   |.strs _ l=>aI (.str (l.getD i []))
   |.lst _ _ d=>match cE d i with
    |some x=>aI (.ro x)
    |none=>.fail
   |.frz _=>.fail
   |.mp _=>.fail
   |.qu _ _ _=>.fail
   |.rowsH _ _ _ _ _ _=>.fail
   |.tr _ _ _=>.fail
   |.yd _ _ _ _=>.fail
   |.trk _ _ _ _=>.fail
  |.rptr o ver i j=>.h o fun
   |.rows ver' _ _ k l=>if ver=ver' then aI (.int k ((l.getD i []).getD j 0))else .fail
   |_=>.fail
  |.rop d i=>match d with
   |.ints k l=>aI (.int k (l.getD i 0))
   |.bools l=>aI (.bool (l.getD i false))
   |.rows k l=>aI (.ro (.ints k (l.getD i [])))
   |.r3 k l=>aI (.ro (.rows k (l.getD i [])))
   |.r4 k l=>aI (.ro (.r3 k (l.getD i [])))
   |_=>.fail
  |.rob cs i=>match cs[i]? with
   |some fc=>aI (dg fc)
   |none=>.fail
  |.rbb cs=>aI (.rob cs 0)
  |.qptr o i=>.h o fun
   |.qu _ k l=>aI (.int k (l.getD i 0))
   |_=>.fail
  |.kptr o ver p j=>.h o fun
   |.tr ver' _ d=>if ver=ver' then(match gS d p with
    |some x=>match tX x with
     |some (k,l)=>aI (.int k (l.getD j 0))
     |none=>match cE x j with
      |some _=>aI (.kid o ver (p++[j]))
      |none=>.fail
    |none=>.fail)else .fail
   |_=>.fail
  |_=>.fail
def Bj(P:Program)(d:Nat)(t:TypeId)(cx:SC):Rd Eff :=
 match lP P t with
 |some false=>match cx with
  |.kptr o ver [] j=>.h o fun
   |.tr ver' [_,e,ei] (.r3 k l)=>if ver=ver' then .abs d (.ret ⟨.c (.own d),[(d,some (.rows 0 e ei k (l.getD j []))),(o,none)],none⟩)else .fail
   |.trk ver' [e0,e,ei] (.r3 k l) n=>if ver=ver' then .abs d (.ret ⟨.c (.own d),[(d,some (.rows 0 e ei k (l.getD j []))),(o,some (.trk (ver'+1) [e0,e,ei] (.r3 k l) (n+1)))],some (j=n/\n<l.length)⟩)else .fail
   |_=>.fail
  |_=>.fail
 |_=>.fail
def eo{α:Type}(d:FC)(r:Rd α):Rd α :=
 match d.wid with
 |1=>r
 |_=>.fail
def SC.plain:SC->Bool
 |.any=>false
 |.und=>false
 |_=>true
def Bk(P:Program)(t:TypeId)(cx:SC)(sv:SV):Rd Eff :=
 match sv with
 |.c c =>
  if c.plain=true/\cp P t=some 1 then
   match cx with
   |.ptr o i=>.h o fun
    |.box cs=>if i<cs.length then .ret ⟨.c .any,[(o,some (.box (cs.set i c)))],none⟩else .fail
    |.ints e k l=>match c with
     |.int k' n=>if k=k' then .ret ⟨.c .any,[(o,some (.ints e k (l.set i n)))],none⟩else .fail
     |_=>.fail
    |.bools e l=>match c with
     |.bool b=>.ret ⟨.c .any,[(o,some (.bools e (l.set i b)))],none⟩
     |_=>.fail
    |.rows ver e ei k l=>match c with
     |.own o2=>.h o2 fun
      |.ints e2 k2 l2=>if e2=ei/\k2=k/\o2≠o then .ret ⟨.c .any,[(o2,none),(o,some (.rows (ver+1) e ei k (l.set i l2)))],none⟩else .fail
      |_=>.fail
     |.nil=>.ret ⟨.c .any,[(o,some (.rows (ver+1) e ei k (l.set i [])))],none⟩
     |_=>.fail
    |.bx _=>.fail
    |.strs _ _=>.fail
    |.lst ver e d=>match c with
     |.ro x=>match fx d i x with
      |some d'=>.ret ⟨.c .any,[(o,some (.lst ver e d'))],none⟩
      |none=>.fail
     |.nil=>match Bg d with
      |some x=>match fx d i x with
       |some d'=>.ret ⟨.c .any,[(o,some (.lst ver e d'))],none⟩
       |none=>.fail
      |none=>.fail
     |.own o2=>.h o2 fun ob2=>match fM ob2 with
      |some x=>match fx d i x with
       |some d'=>if o2≠o then .ret ⟨.c .any,[(o,some (.lst ver e d')),(o2,some (.frz x))],none⟩else .fail
       |none=>.fail
      |none=>.fail
     |_=>.fail
    |.frz _=>.fail
    |.mp _=>.fail
    |.qu _ _ _=>.fail
    |.rowsH ver e ei k l hs=>match c with
     |.own o2=>.h o2 fun
      |.ints e2 k2 l2=>if e2=ei/\k2=k/\o2≠o then
        (match hs with
        | [h]=>.ret ⟨.c .any,[(o2,none),(o,some (.rows (ver+1) e ei k (l.set i l2)))],some (i=h)⟩
        |h::hs'=>.ret ⟨.c .any,[(o2,none),(o,some (.rowsH (ver+1) e ei k (l.set i l2) hs'))],some (i=h/\¬ h∈hs')⟩
        | []=>.fail)else .fail
      |_=>.fail
     |_=>.fail
    |.tr _ _ _=>.fail
    |.yd _ _ _ _=>.fail
    |.trk _ _ _ _=>.fail
   |.kptr o ver p j=>.h o fun
    |.tr ver' es d=>match c with
     |.int k' n=>if ver=ver' then(match gS d p with
      |some x=>match tX x with
       |some (k,l)=>if k=k' then(match ku d p (.ints k (l.set j n))with
        |some d'=>.ret ⟨.c .any,[(o,some (.tr ver' es d'))],none⟩
        |none=>.fail)else .fail
       |none=>.fail
      |none=>.fail)else .fail
     |.own o2=>.h o2 fun ob2=>match nz ob2 with
      |some (es2,y)=>if ver=ver'/\o2≠o/\fL es2 (es.drop (p.length+1))=true then(match gS d p with
       |some x=>eo x (match fx x j y with
        |some x'=>match ku d p x' with
         |some d'=>.ret ⟨.c .any,[(o2,none),(o,some (.tr (ver'+1) es d'))],none⟩
         |none=>.fail
        |none=>.fail)
       |none=>.fail)else .fail
      |none=>.fail
     |_=>.fail
    |_=>.fail
   |.rptr o ver i j=>.h o fun
    |.rows ver' e ei k l=>match c with
     |.int k' n=>if ver=ver'/\k=k' then .ret ⟨.c .any,[(o,some (.rows ver' e ei k (l.set i ((l.getD i []).set j n))))],none⟩else .fail
     |_=>.fail
    |_=>.fail
   |_=>.fail
  else .fail
 |.agg cs' =>
  if cp P t=some cs'.length then
   match cx with
   |.ptr o i=>.h o fun
    |.box cs=>if i+cs'.length<=cs.length then .ret ⟨.c .any,[(o,some (.box (cs.take i++cs'++cs.drop (i+cs'.length))))],none⟩else .fail
    |_=>.fail
   |_=>.fail
  else .fail
 |_=>.fail
def gW(P:Program)(t:TypeId):Option (List SC) :=
 match P.info? t with
 |some i=>match i.zero with
  |some z=>em nw z.cells.toList
  |none=>none
 |none=>none
def Bl(P:Program)(d:Nat)(t:TypeId):Rd Eff :=
 match gW P t with
 |some cs=>.abs d (if cs.isEmpty=false then .ret ⟨.c (.ptr d 0),[(d,some (.box cs))],none⟩else .fail)
 |none=>.fail
def Bn(d:Nat)(sv:SV):Rd Eff :=
 match sv with
 |.c c=>if c.plain then .abs d (.ret ⟨.c (.ptr d 0),[(d,some (.box [c]))],none⟩)else .fail
 |.agg cs=>.abs d (if cs.isEmpty=false then .ret ⟨.c (.ptr d 0),[(d,some (.box cs))],none⟩else .fail)
 |_=>.fail
def i8:SV->Option (List SC)
 |.c c=>if c.plain then some [c]else none
 |.agg l=>some l
 |_=>none
def tZ(P:Program)(fs:Array Field):List (Nat×Operand)->List SC->(List SC->Rd Eff)->Rd Eff
 | [],cs,k=>k cs
 |(i,x)::rest,cs,k=>fb x fun sv=>match i8 sv with
  |none=>.fail
  |some l=>match fs[i]? with
   |none=>.fail
   |some fd=>if cp P fd.type=some l.length/\fd.offset+l.length<=cs.length then
     tZ P fs rest (cs.take fd.offset++l++cs.drop (fd.offset+l.length)) k
    else .fail
def Bo(P:Program)(t:TypeId)(parts:Array (Nat×Operand)):Rd Eff :=
 match gW P t with
 |none=>.fail
 |some cs=>match P.underlying t with
  |some (.struct fs)=>match em (fun f:Field=>cp P f.type) fs.toList with
   |some _=>tZ P fs parts.toList cs fun cs=>.ret ⟨.agg cs,[],none⟩
   |none=>.fail
  |_=>.fail
def gX{α:Type}:List Operand->(List SV->Rd α)->Rd α
 | [],k=>k []
 |x::l,k=>fb x fun sv=>gX l fun svs=>k (sv::svs)
def pa(k:IntKind):List SV->Option V7
 | []=>some []
 |.c (.int k' n)::l=>if k=k' then(match pa k l with|some ns=>some (n::ns)|none=>none)else none
 |_=>none
def pb:List SV->Option (List Bool)
 | []=>some []
 |.c (.bool b)::l=>(match pb l with|some ns=>some (b::ns)|none=>none)
 |_=>none
def pc:List SV->Option (List (List UInt8))
 | []=>some []
 |.c (.str b)::l=>(match pc l with|some ns=>some (b::ns)|none=>none)
 |_=>none
def pe(ei:TypeId)(ki:IntKind):List SV->List Nat->(V8->List Nat->Rd Eff)->Rd Eff
 | [],_,k=>k [] []
 |.c .nil::l,used,k=>pe ei ki l used fun ls os=>k ([]::ls) os
 |.c (.own o)::l,used,k=>.h o fun
  |.ints e k' r=>if e=ei/\k'=ki/\used.all (fun u=>!(Nat.beq u o))then pe ei ki l (o::used) fun ls os=>k (r::ls) (o::os)else .fail
  |_=>.fail
 |_,_,_=>.fail
def t8:List SC->Option V8
 | []=>some []
 |.ro (.ints .i64 l)::cs=>match t8 cs with
  |some ls=>some (l::ls)
  |none=>none
 |_=>none
def lQ(hint:Bool):List SV->(Option (List FC×List (Nat×Option Ob))->Rd Eff)->Rd Eff
 | [],K=>K (some ([],[]))
 |.c (.ro d)::l,K=>lQ hint l fun
  |some (ds,fs)=>K (some (d::ds,fs))
  |none=>K none
 |.c (.own o)::l,K=>.h o fun ob=>match ob with
  |.frz d=>lQ hint l fun
   |some (ds,fs)=>K (some (d::ds,fs))
   |none=>K none
  |ob=>match hint with
   |true=>match fM ob with
    |some d=>lQ hint l fun
     |some (ds,fs)=>K (some (d::ds,(o,some (.frz d))::fs))
     |none=>K none
    |none=>K none
   |false=>K none
 |_,K=>K none
def Jo(P:Program)(e:TypeId):Option IntKind :=
 match P.underlying e with
 |some (.struct fs)=>match fs.toList with
  | [f,g]=>match P.underlying f.type,P.underlying g.type with
   |some (.slice e1),some (.slice e2)=>match P.underlying e1,P.underlying e2 with
    |some (.slice a),some (.slice b)=>match iy P a,iy P b with
     |some k,some k'=>if k=k'/\f.offset=0/\g.offset=1 then some k else none
     |_,_=>none
    |_,_=>none
   |_,_=>none
  |_=>none
 |_=>none
def gz(P:Program)(t:TypeId):Option FC :=
 match P.underlying t with
 |some (.slice e)=>match P.underlying e with
  |some (.int k)=>some (.ints k [])
  |some .bool=>some (.bools [])
  |some (.slice e2)=>match P.underlying e2 with
   |some (.int k)=>some (.rows k [])
   |some (.slice e3)=>match P.underlying e3 with
    |some (.int k)=>some (.r3 k [])
    |some (.slice e4)=>match iy P e4 with
     |some k=>some (.r4 k [])
     |none=>none
    |_=>none
   |_=>none
  |some (.struct _)=>match Jo P e with
   |some k=>some (.p3 k [])
   |none=>none
  |_=>none
 |_=>none
def Bp(P:Program)(hint:Bool)(d:Nat)(t:TypeId)(len:Nat)(parts:Array (Nat×Operand)):Rd Eff :=
 if(parts.toList.map (·.1))=List.range len/\len<=1000 then
  match bL P t with
  |none=>.fail
  |some e=>match Jo P e with
   |none=>.fail
   |some k=>if cp P e=some 2/\(gW P e).isSome=true then
     gX (parts.toList.map (·.2)) fun svs=>match svs with
     | []=>.abs d (.ret ⟨.c (.own d),[(d,some (.lst 0 e (.p3 k [])))],none⟩)
     | [.agg [c1,c2]]=>lQ hint [.c c1,.c c2] fun pr=>match pr with
      |some ([.rows k1 x,.rows k2 y],fs)=>if k1=k/\k2=k then .abs d (.ret ⟨.c (.own d),(d,some (.lst 0 e (.p3 k [(x,y)])))::fs,none⟩)else .fail
      |_=>match c1,c2 with
       |.own o1,.own o2=>.h o1 fun ob1=>.h o2 fun ob2=>match ob1,ob2 with
        |.rows _ e1 ei1 k1 x,.rows _ e2 ei2 k2 y=>if e1=e2/\ei1=ei2/\k1=k/\k2=k/\o1≠o2 then
          .abs d (.ret ⟨.c (.own d),[(d,some (.tr 0 [e,e1,ei1] (.p3 k [(x,y)]))),(o1,none),(o2,none)],none⟩)else .fail
        |_,_=>.fail
       |_,_=>.fail
     |_=>.fail
    else .fail
 else .fail
def Bq(P:Program)(d:Nat)(t:TypeId)(len:Nat)(parts:Array (Nat×Operand)):Rd Eff :=
 if(parts.toList.map (·.1))=List.range len/\len<=1000 then
  match bL P t with
  |none=>.fail
  |some e=>if cp P e=some 1/\(gW P e).isSome=true then
    gX (parts.toList.map (·.2)) fun svs=>match svs with
    | [.agg [.own o2]]=>.h o2 fun
     |.rows _ e2 ei2 k2 y=>.abs d (.ret ⟨.c (.own d),[(d,some (.tr 0 [e,e2,ei2] (.r3 k2 [y]))),(o2,none)],none⟩)
     |_=>.fail
    |_=>.fail
   else .fail
 else .fail
def Br(P:Program)(hint:Bool)(d:Nat)(t:TypeId)(len:Nat)(parts:Array (Nat×Operand)):Rd Eff :=
 if(parts.toList.map (·.1))=List.range len/\len<=1000 then
  match bL P t with
  |none=>.fail
  |some e=>if cp P e=some 1/\(gW P e).isSome=true then
    match P.underlying e with
    |some (.int k)=>gX (parts.toList.map (·.2)) fun svs=>match pa k svs with
     |some l=>.abs d (.ret ⟨.c (.own d),[(d,some (.ints e k l))],none⟩)
     |none=>.fail
    |some .bool=>gX (parts.toList.map (·.2)) fun svs=>match pb svs with
     |some l=>.abs d (.ret ⟨.c (.own d),[(d,some (.bools e l))],none⟩)
     |none=>.fail
    |some .string=>gX (parts.toList.map (·.2)) fun svs=>match pc svs with
     |some l=>.abs d (.ret ⟨.c (.own d),[(d,some (.strs e l))],none⟩)
     |none=>.fail
    |some (.slice ei)=>gX (parts.toList.map (·.2)) fun svs=>lQ hint svs fun pr=>match pr with
     |some (x::xs,fs)=>match f5 (x::xs)with
      |some dd=>.abs d (.ret ⟨.c (.own d),(d,some (.lst 0 e dd))::fs,none⟩)
      |none=>.fail
     |_=>match iy P ei with
      |some ki=>pe ei ki svs [] fun ls os =>
        .abs d (.ret ⟨.c (.own d),(d,some (.rows 0 e ei ki ls))::os.map (fun o=>(o,none)),none⟩)
      |none=>match svs with
       | []=>match gz P t with
        |some dd=>eo dd (.abs d (.ret ⟨.c (.own d),[(d,some (.lst 0 e dd))],none⟩))
        |none=>.fail
       |_=>.fail
    |_=>.fail
   else .fail
 else .fail
def Bs(P:Program)(d:Nat)(t:TypeId)(len:Nat)(parts:Array (Nat×Operand)):Rd Eff :=
 if(parts.toList.map (·.1))=List.range len/\len<=1000 then
  match bL P t with
  |none=>.fail
  |some e=>if cp P e=some 1/\(gW P e).isSome=true then
    match gz P t with
    |none=>.fail
    |some d0=>gX (parts.toList.map (·.2)) fun svs=>match svs with
     | []=>match tW P 4 t with
      |e1::e2::es=>if e1=e/\d0.dep=es.length+1 then eo d0 (.abs d (.ret ⟨.c (.own d),[(d,some (.tr 0 (e1::e2::es) d0))],none⟩))else .fail
      |_=>.fail
     | [.c (.own o2)]=>.h o2 fun ob2=>match nz ob2 with
      |some (es2,y)=>match f5 [y]with
       |some dd=>.abs d (.ret ⟨.c (.own d),[(d,some (.tr 0 (e::es2) dd)),(o2,none)],none⟩)
       |none=>.fail
      |none=>.fail
     | [.c (.own o1),.c (.own o2)]=>.h o1 fun ob1=>.h o2 fun ob2=>match nz ob1 with
      |some (es1,y1)=>match nz ob2 with
       |some (es2,y2)=>match f5 [y1,y2]with
        |some dd=>match fL es1 es2&&!Nat.beq o1 o2 with
         |true=>.abs d (.ret ⟨.c (.own d),[(d,some (.tr 0 (e::es1) dd)),(o1,none),(o2,none)],none⟩)
         |false=>.fail
        |none=>.fail
       |none=>.fail
      |none=>.fail
     |_=>.fail
   else .fail
 else .fail
def Bt(P:Program)(s:TypeId)(cx:SC)(f:Nat):Rd Eff :=
 match P.underlying s with
 |some (.struct fs)=>match fs[f]? with
  |none=>.fail
  |some fd=>match cp P fd.type with
   |some (_+1)=>match cx with
    |.ptr o i=>.h o fun
     |.box cs=>if i+fd.offset<cs.length then aI (.ptr o (i+fd.offset))else .fail
     |_=>.fail
    |.rob cs i=>aI (.rob cs (i+fd.offset))
    |.kptr o ver p j=>.h o fun
     |.tr ver' _ d=>match p with
      | []=>if ver=ver' then(match fd.offset with
       |0=>.ret ⟨.c (.kptr o ver [] j),[],some (j<d.cn)⟩
       |1=>.ret ⟨.c (.kptr o ver [] (j+1)),[],some (j+1<d.cn)⟩
       |_=>.fail)else .fail
      |_::_=>.fail
     |_=>.fail
    |_=>.fail
   |_=>.fail
 |_=>.fail
def Bv(P:Program)(s:TypeId)(sv:SV)(f:Nat):Rd Eff :=
 match P.underlying s with
 |some (.struct fs)=>match fs[f]? with
  |none=>.fail
  |some fd=>match sv with
   |.agg cs=>match lP P fd.type with
    |some true=>match cp P fd.type with
     |some n=>if fd.offset+n<=cs.length then .ret ⟨.agg ((cs.drop fd.offset).take n),[],none⟩else .fail
     |none=>.fail
    |some false=>match cs[fd.offset]? with
     |some c=>aI c
     |none=>.fail
    |none=>.fail
   |_=>.fail
 |_=>.fail
def aa(n:Int)(len:Nat):Prop:=0<=n/\n<(len:Int)
def Bw(P:Program)(t:TypeId)(cx ci:SC):Rd Eff :=
 match bL P t with
 |none=>.fail
 |some e=>if cp P e=some 1 then
   match ci with
   |.int _ n=>match cx with
    |.own o=>.h o fun ob=>match ob with
     |.box _=>.fail
     |.bx _=>.fail
     |.strs _ l=>.ret ⟨.c (.ptr o n.toNat),[],some (aa n l.length)⟩
     |.ints _ _ l=>.ret ⟨.c (.ptr o n.toNat),[],some (aa n l.length)⟩
     |.bools _ l=>.ret ⟨.c (.ptr o n.toNat),[],some (aa n l.length)⟩
     |.rows _ _ _ _ l=>.ret ⟨.c (.ptr o n.toNat),[],some (aa n l.length)⟩
     |.lst _ _ d=>eo d (.ret ⟨.c (.ptr o n.toNat),[],some (aa n d.len)⟩)
     |.frz _=>.fail
     |.mp _=>.fail
     |.qu _ _ l=>.ret ⟨.c (.qptr o n.toNat),[],some (aa n l.length)⟩
     |.rowsH _ _ _ _ l _=>.ret ⟨.c (.ptr o n.toNat),[],some (aa n l.length)⟩
     |.tr ver _ d=>eo d (.ret ⟨.c (.kptr o ver [] n.toNat),[],some (aa n d.len)⟩)
     |.yd _ _ _ _=>.fail
     |.trk ver _ d _=>eo d (.ret ⟨.c (.kptr o ver [] n.toNat),[],some (aa n d.len)⟩)
    |.kid o ver p=>.h o fun
     |.tr ver' _ d=>if ver=ver' then(match gS d p with
      |some x=>eo x (.ret ⟨.c (.kptr o ver p n.toNat),[],some (aa n x.len)⟩)
      |none=>.fail)else .fail
     |_=>.fail
    |.pre o len=>.h o fun ob=>jG ob (.ret ⟨.c (.ptr o n.toNat),[],some (aa n len)⟩)
    |.sub o off len=>.h o fun ob=>jG ob (.ret ⟨.c (.ptr o (off+n.toNat)),[],some (aa n len)⟩)
    |.row o ver i=>.h o fun
     |.rows ver' _ _ _ l=>if ver=ver' then .ret ⟨.c (.rptr o ver i n.toNat),[],some (aa n (l.getD i []).length)⟩else .fail
     |_=>.fail
    |.ro d=>match d with
     |.ints k l=>.ret ⟨.c (.rop (.ints k l) n.toNat),[],some (aa n l.length)⟩
     |.bools l=>.ret ⟨.c (.rop (.bools l) n.toNat),[],some (aa n l.length)⟩
     |.rows k l=>.ret ⟨.c (.rop (.rows k l) n.toNat),[],some (aa n l.length)⟩
     |.r3 k l=>.ret ⟨.c (.rop (.r3 k l) n.toNat),[],some (aa n l.length)⟩
     |.r4 k l=>.ret ⟨.c (.rop (.r4 k l) n.toNat),[],some (aa n l.length)⟩
     |_=>.fail
    |_=>.fail
   |_=>.fail
  else if cp P e=some 2 then
   match ci with
   |.int _ n=>match cx with
    |.own o=>.h o fun
     |.tr ver _ (.p3 k l)=>.ret ⟨.c (.kptr o ver [] (n.toNat*2)),[],some (aa n (FC.p3 k l).len)⟩
     |_=>.fail
    |.ro (.p3 k l)=>.ret ⟨.c (.rob [.rows k (l.getD n.toNat ([],[])).1,.rows k (l.getD n.toNat ([],[])).2] 0),[],some (aa n l.length)⟩
    |_=>.fail
   |_=>.fail
  else .fail
def ua(cx:SC):Rd Eff :=
 match cx with
 |.nil=>aI (.int .i64 0)
 |.str l=>aI (.int .i64 (l.length:Int))
 |.own o=>.h o fun ob=>match ob with
  |.box _=>.fail
  |.bx _=>.fail
  |.strs _ l=>aI (.int .i64 (l.length:Int))
  |.ints _ _ l=>aI (.int .i64 (l.length:Int))
  |.bools _ l=>aI (.int .i64 (l.length:Int))
  |.rows _ _ _ _ l=>aI (.int .i64 (l.length:Int))
  |.lst _ _ d=>aI (.int .i64 (d.len:Int))
  |.frz _=>.fail
  |.mp _=>.fail
  |.qu _ _ l=>aI (.int .i64 (l.length:Int))
  |.rowsH _ _ _ _ l _=>aI (.int .i64 (l.length:Int))
  |.tr _ _ d=>aI (.int .i64 (d.len:Int))
  |.yd _ _ _ _=>.fail
  |.trk _ _ d _=>aI (.int .i64 (d.len:Int))
 |.kid o ver p=>.h o fun
  |.tr ver' _ d=>if ver=ver' then(match gS d p with
   |some x=>aI (.int .i64 (x.len:Int))
   |none=>.fail)else .fail
  |_=>.fail
 |.pre o n=>.h o fun ob=>jG ob (aI (.int .i64 (n:Int)))
 |.sub o _ n=>.h o fun ob=>jG ob (aI (.int .i64 (n:Int)))
 |.row o ver i=>.h o fun
  |.rows ver' _ _ _ l=>if ver=ver' then aI (.int .i64 ((l.getD i []).length:Int))else .fail
  |_=>.fail
 |.ro d=>match d with
  |.ints _ l=>aI (.int .i64 (l.length:Int))
  |.bools l=>aI (.int .i64 (l.length:Int))
  |.rows _ l=>aI (.int .i64 (l.length:Int))
  |.r3 _ l=>aI (.int .i64 (l.length:Int))
  |.r4 _ l=>aI (.int .i64 (l.length:Int))
  |.p3 _ l=>aI (.int .i64 (l.length:Int))
  |_=>.fail
 |_=>.fail
def kz{α:Type}(x:Option Operand)(k:Option Int->Rd α):Rd α :=
 match x with
 |none=>k none
 |some y=>cA y fun
  |.int _ n=>k (some n)
  |_=>.fail
def ar(L:Nat):Option Int->Option Int->Prop
 |none,none=>True
 |none,some h=>0<=h/\h<=(L:Int)
 |some l,none=>0<=l/\l<=(L:Int)
 |some l,some h=>0<=l/\l<=h/\h<=(L:Int)
def dr{α:Type}(r:List α):Option Int->Option Int->List α
 |none,none=>r
 |none,some h=>r.take h.toNat
 |some l,none=>r.drop l.toNat
 |some l,some h=>(r.take h.toNat).drop l.toNat
def kA(o L:Nat):Option Int->Option Int->SC
 |none,none=>.pre o L
 |none,some h=>.pre o h.toNat
 |some l,none=>.sub o l.toNat (L-l.toNat)
 |some l,some h=>.sub o l.toNat (h.toNat-l.toNat)
def Jp(o off L:Nat):Option Int->Option Int->SC
 |none,none=>.sub o off L
 |none,some h=>.sub o off h.toNat
 |some l,none=>.sub o (off+l.toNat) (L-l.toNat)
 |some l,some h=>.sub o (off+l.toNat) (h.toNat-l.toNat)
def pf(P:Program)(t:TypeId)(cx:SC)(lo hi:Option Operand):Rd Eff :=
 match cx with
 |.str r=>match P.underlying t with
  |some .string=>kz lo fun l=>kz hi fun h=>.ret ⟨.c (.str (dr r l h)),[],some (ar r.length l h)⟩
  |_=>.fail
 |cx=>match bL P t with
  |none=>.fail
  |some e=>if cp P e=some 1 then
    kz lo fun l=>kz hi fun h=>match cx with
     |.own o=>.h o fun
      |.box _=>.fail
      |.bx _=>.fail
      |.strs _ _=>.fail
      |.ints _ _ r=>.ret ⟨.c (kA o r.length l h),[],some (ar r.length l h)⟩
      |.bools _ r=>.ret ⟨.c (kA o r.length l h),[],some (ar r.length l h)⟩
      |.rows _ _ _ _ r=>.ret ⟨.c (kA o r.length l h),[],some (ar r.length l h)⟩
      |.lst _ _ d=>eo d (.ret ⟨.c (kA o d.len l h),[],some (ar d.len l h)⟩)
      |.frz _=>.fail
      |.mp _=>.fail
      |.qu _ _ _=>.fail
      |.rowsH _ _ _ _ _ _=>.fail
      |.tr _ _ _=>.fail
      |.yd _ _ _ _=>.fail
      |.trk _ _ _ _=>.fail
     |.pre o L=>.h o fun ob=>jG ob (.ret ⟨.c (kA o L l h),[],some (ar L l h)⟩)
     |.sub o off L=>.h o fun ob=>jG ob (.ret ⟨.c (Jp o off L l h),[],some (ar L l h)⟩)
     |.ro d=>match d with
      |.ints k r=>.ret ⟨.c (.ro (.ints k (dr r l h))),[],some (ar r.length l h)⟩
      |.bools r=>.ret ⟨.c (.ro (.bools (dr r l h))),[],some (ar r.length l h)⟩
      |.rows k r=>.ret ⟨.c (.ro (.rows k (dr r l h))),[],some (ar r.length l h)⟩
      |.r3 k r=>.ret ⟨.c (.ro (.r3 k (dr r l h))),[],some (ar r.length l h)⟩
      |.r4 k r=>.ret ⟨.c (.ro (.r4 k (dr r l h))),[],some (ar r.length l h)⟩
      |_=>.fail
     |_=>.fail
   else .fail
def ub(P:Program)(d:Nat)(t:TypeId)(cx:SC)(lo hi:Option Operand):Rd Eff :=
 match cx with
 |.own o=>.h o fun
  |.qu e k l=>match bL P t,hi with
   |some e',none=>if cp P e'=some 1 then
     kz lo fun
      |some n=>.abs d (.ret ⟨.c (.own d),[(d,some (.qu e k (l.drop n.toNat))),(o,none)],some (0<=n/\n<=(l.length:Int))⟩)
      |none=>.fail
    else .fail
   |_,_=>.fail
  |_=>pf P t (.own o) lo hi
 |cx=>pf P t cx lo hi
def uc(h:Int):Ob->Option (Nat×Ob)
 |.ints e k r=>some (r.length,.ints e k (r.take h.toNat))
 |.lst _ e d=>match d with
  |.rows k r=>some (r.length,.lst 0 e (.rows k (r.take h.toNat)))
  |_=>none
 |_=>none
def Bz(P:Program)(d:Nat)(t:TypeId)(cx:SC)(lo hi:Option Operand):Rd Eff :=
 match cx,lo with
 |.own o,none=>.h o fun ob=>match bL P t with
  |some e=>if cp P e=some 1 then kz hi fun
    |some n=>match uc n ob with
     |some (L,ob')=>.abs d (.ret ⟨.c (.own d),[(d,some ob'),(o,none)],some (0<=n/\n<=(L:Int))⟩)
     |none=>.fail
    |none=>.fail
   else .fail
  |none=>.fail
 |_,_=>.fail
def iA(P:Program)(e:TypeId):Bool :=
 match P.info? e with
 |some i=>Nat.ble i.bytes 128&&Nat.beq i.size 1&&(match i.zero with|some z=>Nat.beq z.cells.size 1|none=>false)
 |none=>false
def BA(P:Program)(e:TypeId):Bool :=
 match P.info? e with
 |some i=>Nat.ble i.bytes 128&&Nat.beq i.size 2&&(match i.zero with|some z=>Nat.beq z.cells.size 2|none=>false)
 |none=>false
def nA(P:Program)(e:TypeId)(c:SC):Bool :=
 match P.info? e with
 |some i=>match i.zero with
  |some (.int k n)=>match c with
   |.int k' n'=>decide (k=k'/\n=n')
   |_=>false
  |some (.bool b)=>match c with
   |.bool b'=>b == b'
   |_=>false
  |some (.slice none 0 0)=>match c with
   |.nil=>true
   |_=>false
  |_=>false
 |none=>false
def BB(P:Program)(d:Nat)(t:TypeId)(cl cc:SC):Rd Eff :=
 match bL P t with
 |none=>.fail
 |some e=>if iA P e then
   match cl,cc with
   |.int _ n,.int _ m=>match P.underlying e with
    |some (.int k)=>if nA P e (.int k 0)then .abs d (.ret ⟨.c (.own d),[(d,some (.ints e k (List.replicate n.toNat 0)))],some (0<=n/\n<=m/\af m.toNat)⟩)else .fail
    |some .bool=>if nA P e (.bool false)then .abs d (.ret ⟨.c (.own d),[(d,some (.bools e (List.replicate n.toNat false)))],some (0<=n/\n<=m/\af m.toNat)⟩)else .fail
    |some (.slice ei)=>match iy P ei with
     |some k=>if nA P e .nil then .abs d (.ret ⟨.c (.own d),[(d,some (.rows 0 e ei k (List.replicate n.toNat [])))],some (0<=n/\n<=m/\af m.toNat)⟩)else .fail
     |none=>match gz P t with
      |some d0=>match Bh d0 n.toNat,tW P 4 t with
       |some dd,e1::e2::es=>if nA P e .nil=true/\e1=e/\d0.dep=es.length+1 then .abs d (.ret ⟨.c (.own d),[(d,some (.tr 0 (e1::e2::es) dd))],some (0<=n/\n<=m/\af m.toNat)⟩)else .fail
       |_,_=>.fail
      |none=>.fail
    |_=>.fail
   |_,_=>.fail
  else .fail
def pg(k:IntKind)(c:SC)(K:V7->Rd Eff):Rd Eff :=
 match c with
 |.nil=>K []
 |.own o=>.h o fun
  |.ints _ k' l=>if k'=k then K l else .fail
  |_=>.fail
 |.pre o n=>.h o fun
  |.ints _ k' l=>if k'=k then K (l.take n)else .fail
  |_=>.fail
 |.sub o off n=>.h o fun
  |.ints _ k' l=>if k'=k then K ((l.drop off).take n)else .fail
  |_=>.fail
 |.row o ver i=>.h o fun
  |.rows ver' _ _ k' l=>if k'=k/\ver=ver' then K (l.getD i [])else .fail
  |_=>.fail
 |.ro d=>match d with
  |.ints k' l=>if k'=k then K l else .fail
  |_=>.fail
 |_=>.fail
def ud(c:SC)(K:List Bool->Rd Eff):Rd Eff :=
 match c with
 |.nil=>K []
 |.own o=>.h o fun
  |.bools _ l=>K l
  |_=>.fail
 |.ro d=>match d with
  |.bools l=>K l
  |_=>.fail
 |_=>.fail
def BC(c:SC)(K:List (List UInt8)->Rd Eff):Rd Eff :=
 match c with
 |.own o=>.h o fun
  |.strs _ l=>K l
  |_=>.fail
 |_=>.fail
def BD(c:SC)(K:FC->List (Nat×Option Ob)->Rd Eff):Rd Eff :=
 match c with
 |.ro d=>K d []
 |.own o=>.h o fun
  |.lst _ _ d=>K d []
  |.rows _ _ _ k l=>K (.rows k l) [(o,some (.frz (.rows k l)))]
  |_=>.fail
 |.pre o n=>.h o fun
  |.lst _ _ d=>match bZ 0 n d with
   |some d'=>K d' []
   |none=>.fail
  |_=>.fail
 |.sub o off n=>.h o fun
  |.lst _ _ d=>match bZ off n d with
   |some d'=>K d' []
   |none=>.fail
  |_=>.fail
 |_=>.fail
def nB(o:Nat):List (Nat×Option Ob)->Bool
 | []=>true
 |(o',_)::l=>!(Nat.beq o' o)&&nB o l
def kB(wd d:Nat)(e:TypeId)(cx cy:SC):Rd Eff :=
 BD cy fun dy fy=>match cx with
  |.nil=>if dL dy=false/\dy.wid=wd then .abs d (.ret ⟨.c (.own d),(d,some (.lst 0 e dy))::fy,some (af dy.len)⟩)else .fail
  |.own o=>.h o fun
   |.lst _ e1 dx=>match i7 dx dy with
    |some dd=>if e1=e/\nB o fy=true/\dy.wid=wd then .abs d (.ret ⟨.c (.own d),(d,some (.lst 0 e dd))::(o,none)::fy,some (af (dx.len+dy.len))⟩)else .fail
    |none=>.fail
   |.rows _ e1 _ k l=>match i7 (.rows k l) dy with
    |some dd=>if e1=e/\nB o fy=true/\dy.wid=wd then .abs d (.ret ⟨.c (.own d),(d,some (.lst 0 e dd))::(o,none)::fy,some (af (l.length+dy.len))⟩)else .fail
    |none=>.fail
   |_=>.fail
  |.pre o n=>.h o fun
   |.lst _ e1 dx=>match bZ 0 n dx with
    |some dx'=>match i7 dx' dy with
     |some dd=>if e1=e/\nB o fy=true/\dy.wid=wd then .abs d (.ret ⟨.c (.own d),(d,some (.lst 0 e dd))::(o,none)::fy,some (af (n+dy.len))⟩)else .fail
     |none=>.fail
    |none=>.fail
   |_=>.fail
  |_=>.fail
def ph(wd d:Nat)(e:TypeId)(cx:SC)(o2:Nat)(es2:List TypeId)(dy:FC):Rd Eff :=
 match cx with
 |.own o=>.h o fun
  |.tr _ es dx=>match i7 dx dy with
   |some dd=>if fL es es2=true/\es.head?=some e/\o≠o2/\dy.wid=wd then .abs d (.ret ⟨.c (.own d),[(d,some (.tr 0 es dd)),(o,none),(o2,none)],some (af (dx.len+dy.len))⟩)else .fail
   |none=>.fail
  |_=>.fail
 |_=>.fail
def i9(id o ver:Nat)(e ei:TypeId)(k:IntKind)(l:V8)(hs:List Nat)(i:Nat):List (Nat×Option Ob) :=
 [(id,some (.ints ei k (l.getD i []))),(o,some (.rowsH ver e ei k l hs))]
def BE(P:Program)(d:Nat)(t:TypeId)(cx cy:SC):Rd Eff :=
 match bL P t with
 |none=>.fail
 |some e=>if iA P e then
   match P.underlying e with
   |some (.int k)=>pg k cy fun ys=>match cx with
    |.nil=>.abs d (.ret ⟨.c (.own d),[(d,some (.ints e k ys))],some (af ys.length)⟩)
    |.emp=>.abs d (.ret ⟨.c (.own d),[(d,some (.ints e k ys))],some (ys.length≠0/\af ys.length)⟩)
    |.own o=>.h o fun
     |.ints e' k' l=>if e'=e/\k'=k then .abs d (.ret ⟨.c (.own d),[(d,some (.ints e k (l++ys))),(o,none)],some (af (l.length+ys.length))⟩)else .fail
     |.qu e' k' l=>if e'=e/\k'=k then .abs d (.ret ⟨.c (.own d),[(d,some (.qu e k (l++ys))),(o,none)],some (ys.length≠0/\af (l.length+ys.length))⟩)else .fail
     |_=>.fail
    |.pre o n=>.h o fun
     |.ints e' k' l=>if e'=e/\k'=k then .abs d (.ret ⟨.c (.own d),[(d,some (.ints e k (l.take n++ys))),(o,none)],some (af (n+ys.length))⟩)else .fail
     |_=>.fail
    |.row o ver i=>.h o fun
     |.rows ver' e1 ei k' l=>if ver'=ver/\ei=e/\k'=k then .abs d (.abs (d+500000) (.ret ⟨.c (.own d),[(d,some (.ints e k (l.getD i []++ys))),(d+500000,none)]++i9 (d+500000) o (ver+1) e1 ei k l [i] i,some (af ((l.getD i []).length+ys.length))⟩))else .fail
     |_=>.fail
    |_=>.fail
   |some .bool=>ud cy fun ys=>match cx with
    |.nil=>.abs d (.ret ⟨.c (.own d),[(d,some (.bools e ys))],some (af ys.length)⟩)
    |.own o=>.h o fun
     |.bools e' l=>if e'=e then .abs d (.ret ⟨.c (.own d),[(d,some (.bools e (l++ys))),(o,none)],some (af (l.length+ys.length))⟩)else .fail
     |_=>.fail
    |_=>.fail
   |some .string=>BC cy fun ys=>match cx with
    |.own o=>.h o fun
     |.strs e' l=>if e'=e then .abs d (.ret ⟨.c (.own d),[(d,some (.strs e (l++ys))),(o,none)],some (af (l.length+ys.length))⟩)else .fail
     |_=>.fail
    |_=>.fail
   |some (.slice _)=>match cy with
    |.own o2=>.h o2 fun
     |.rows _ e2 ei2 k2 ys=>if e2=e then
       match cx with
       |.nil=>.abs d (.ret ⟨.c (.own d),[(d,some (.rows 0 e ei2 k2 ys)),(o2,none)],some (af ys.length)⟩)
       |.own o=>.h o fun
        |.rows _ e1 ei1 k1 l=>if e1=e/\ei1=ei2/\k1=k2/\o≠o2 then
          .abs d (.ret ⟨.c (.own d),[(d,some (.rows 0 e ei2 k2 (l++ys))),(o,none),(o2,none)],some (af (l.length+ys.length))⟩)else .fail
        |_=>kB 1 d e cx cy
       |_=>kB 1 d e cx cy
      else .fail
     |.tr _ es2 dy=>ph 1 d e cx o2 es2 dy
     |_=>kB 1 d e cx cy
    |_=>kB 1 d e cx cy
   |some (.struct _)=>match cy with
    |.own o2=>.h o2 fun
     |.tr _ es2 dy=>ph 1 d e cx o2 es2 dy
     |_=>.fail
    |_=>.fail
   |_=>.fail
  else match BA P e with
   |false=>.fail
   |true=>match cy with
    |.own o2=>.h o2 fun
     |.tr _ es2 dy=>ph 2 d e cx o2 es2 dy
     |_=>kB 2 d e cx cy
    |_=>kB 2 d e cx cy
def BF(P:Program)(d:Nat)(t:TypeId)(cx cy:SC):Rd Eff:=.fail
def BG(sv:SV)(i:Nat):Rd Eff :=
 match sv with
 |.tup l=>match l[i]? with
  |some (.inl c)=>aI c
  |some (.inr cs)=>.ret ⟨.agg cs,[],none⟩
  |none=>.fail
 |_=>.fail
def BH(P:Program)(t:TypeId)(cx ci:SC):Rd Eff:=.fail
def cb(o:Nat):List Nat->Bool
 | []=>true
 |x::l=>match Nat.beq x o with
  |true=>false
  |false=>cb o l
def memP(i j:Nat):List (Nat×Nat)->Bool
 | []=>false
 |(a,b)::l=>(Nat.beq a i&&Nat.beq b j)||memP i j l
def dU{α:Type}(hid:List Nat)(o:Nat)(K:Ob->Rd α):Rd α :=
 match cb o hid with
 |true=>.h o K
 |false=>.fail
def jH{α:Type}(hid:List Nat)(nl:Option FC)(c:SC)(K:FC->Rd α):Rd α :=
 match c with
 |.int k n=>K (.int k n)
 |.bool b=>K (.bool b)
 |.str l=>K (.str l)
 |.nil=>match nl with
  |some d=>K d
  |none=>.fail
 |.own o=>dU hid o fun ob=>match ob with
  |.frz d=>K d
  |ob=>match fa ob with
   |some d=>K d
   |none=>.fail
 |.pre o n=>dU hid o fun ob=>match fa ob with
  |some d=>match bZ 0 n d with
   |some d=>K d
   |none=>.fail
  |none=>.fail
 |.sub o off n=>dU hid o fun ob=>match fa ob with
  |some d=>match bZ off n d with
   |some d=>K d
   |none=>.fail
  |none=>.fail
 |.row o ver i=>dU hid o fun
  |.rows ver' _ _ k l=>if ver=ver' then K (.ints k (l.getD i []))else .fail
  |_=>.fail
 |.kid o ver p=>dU hid o fun
  |.tr ver' _ d=>if ver=ver' then(match gS d p with
   |some x=>K x
   |none=>.fail)else .fail
  |_=>.fail
 |.ro d=>K d
 |.orig _ _ d=>K d
 |.bsl o _=>dU hid o fun
  |.box cs=>match t8 cs with
   |some ls=>K (.rows .i64 ls)
   |none=>.fail
  |_=>.fail
 |_=>.fail
def BI{α:Type}(c:SC)(K:FC->Rd α):Rd α :=
 match c with
 |.own o=>.h o fun ob=>match fa ob with
  |some d=>K d
  |none=>.fail
 |_=>.fail
def nC{α:Type}(hid:List Nat)(mt:List (Nat×Nat))(i j:Nat)(nl:Option FC)(c:SC)(K:FC->Rd α):Rd α :=
 match memP i j mt with
 |true=>BI c K
 |false=>jH hid nl c K
def ue(P:Program)(t:TypeId):List TypeId :=
 match P.underlying t with
 |some (.struct fs)=>fs.toList.flatMap fun f=>match P.underlying f.type with
  |some (.struct gs)=>gs.toList.map (·.type)
  |_=>[f.type]
 |_=>[t]
def Jq(P:Program):List TypeId->Option FC
 |t::_=>gz P t
 | []=>none
def jI{α:Type}(P:Program)(hid:List Nat)(mt:List (Nat×Nat))(i:Nat):Nat->List SC->List TypeId->(List FC->Rd α)->Rd α
 |_,[],_,K=>K []
 |j,c::cs,ts,K=>nC hid mt i j (Jq P ts) c fun d=>jI P hid mt i (j+1) cs ts.tail fun ds=>K (d::ds)
def Jr(P:Program)(t:TypeId):TypeId :=
 match P.underlying t with
 |some (.pointer e)=>e
 |_=>t
def nD(ct:Option Post):Bool:=match ct with
 |some ⟨_,.c (.bool b),[]⟩=>b
 |_=>false
def lR(ct:Option Post):Prop:=match ct with
 |some ⟨p,.c (.bool _),[]⟩=>p
 |_=>False
def iB(ct:Option Post):Int:=match ct with
 |some ⟨_,.c (.int .i64 n),[]⟩=>n
 |_=>0
def iC(ct:Option Post):Prop:=match ct with
 |some ⟨p,.c (.int .i64 _),[]⟩=>p
 |_=>False
def Js(P:Program)(t:TypeId):Nat :=
 match P.underlying t with
 |some (.int .i64)=>1
 |some (.slice e)=>match P.underlying e with
  |some (.slice _)=>4
  |_=>2
 |some .bool=>3
 |_=>0
def BJ(ps rs:List Nat)(ct:List AD->Option Post)(cds:List AD):Option FV :=
 match ps,rs with
 | [1],[3]=>some (.ib (fun x=>lR (ct (.c (.int .i64 x)::cds))) (fun x=>nD (ct (.c (.int .i64 x)::cds))))
 | [2],[3]=>some (.lb (fun x=>lR (ct (.c (.ints .i64 x)::cds))) (fun x=>nD (ct (.c (.ints .i64 x)::cds))))
 | [1,1],[1]=>some (.iii (fun x y=>iC (ct (.c (.int .i64 x)::.c (.int .i64 y)::cds))) (fun x y=>iB (ct (.c (.int .i64 x)::.c (.int .i64 y)::cds))))
 | [1,1],[3]=>some (.iib (fun x y=>lR (ct (.c (.int .i64 x)::.c (.int .i64 y)::cds))) (fun x y=>nD (ct (.c (.int .i64 x)::.c (.int .i64 y)::cds))))
 | [2,2],[1]=>some (.lli (fun x y=>iC (ct (.c (.ints .i64 x)::.c (.ints .i64 y)::cds))) (fun x y=>iB (ct (.c (.ints .i64 x)::.c (.ints .i64 y)::cds))))
 | [2,2],[3]=>some (.llb (fun x y=>lR (ct (.c (.ints .i64 x)::.c (.ints .i64 y)::cds))) (fun x y=>nD (ct (.c (.ints .i64 x)::.c (.ints .i64 y)::cds))))
 | [4],[3]=>some (.tb (fun x=>lR (ct (.c (.rows .i64 x)::cds))) (fun x=>nD (ct (.c (.rows .i64 x)::cds))))
 | [1],[1]=>some (.ii (fun x=>iC (ct (.c (.int .i64 x)::cds))) (fun x=>iB (ct (.c (.int .i64 x)::cds))))
 |_,_=>none
def BK:List SC->Option Nat
 | [.ptr o 0]=>some o
 |_=>none
def jJ{α:Type}(P:Program)(hid:List Nat):List SC->(List AD->Rd α)->Rd α
 | [],K=>K []
 |c::cs,K=>match c with
  |.ptr o 0=>dU hid o fun
   |.box xs=>match BK xs with
    |some o2=>dU hid o2 fun
     |.box ys=>jI P hid [] 0 0 ys [] fun ds=>jJ P hid cs fun r=>K (.bb ds::r)
     |_=>.fail
    |none=>jI P hid [] 0 0 xs [] fun ds=>jJ P hid cs fun r=>K (.box ds::r)
   |_=>.fail
  |c=>jH hid none c fun d=>jJ P hid cs fun r=>K (.c d::r)
def nE{α:Type}(P:Program)(Γ:FuncId->Option Ctr)(hid:List Nat)(mt:List (Nat×Nat))(i:Nat)(t:TypeId)(sv:SV)(K:AD->Rd α):Rd α :=
 match sv with
 |.c c=>match c with
  |.ptr o x=>match x with
   |0=>dU hid o fun
    |.box xs=>jI P hid [] 0 0 xs (ue P (Jr P t)) fun ds=>K (.box ds)
    |_=>.fail
   |_+1=>.fail
  |.rob cs x=>match x with
   |0=>K (.box cs)
   |_+1=>.fail
  |c=>nC hid mt i 0 (gz P t) c fun d=>K (.c d)
 |.agg cs=>jI P hid mt i 0 cs (ue P t) fun ds=>K (.agg ds)
 |.fv F=>K (.fv F)
 |.fn f caps=>match P.underlying t with
  |some (.func ps rs _)=>match Γ f with
    |none=>.fail
    |some ⟨[],ct⟩=>jJ P hid caps fun cds=>match BJ (ps.toList.map (Js P)) (rs.toList.map (Js P)) ct cds with
     |some F=>K (.fv F)
     |none=>.fail
    |some ⟨_::_,_⟩=>.fail
  |_=>.fail
 |.fvs _ _=>.fail
 |.tup _=>.fail
def iD{α:Type}(P:Program)(Γ:FuncId->Option Ctr)(hid:List Nat)(mt:List (Nat×Nat)):Nat->List SV->List TypeId->(List AD->Rd α)->Rd α
 |_,[],_,K=>K []
 |i,sv::svs,ts,K=>nE P Γ hid mt i (ts.headD 0) sv fun ad=>iD P Γ hid mt (i+1) svs ts.tail fun ads=>K (ad::ads)
def gY:RC->Option Ob
 |.ints e k l=>some (.ints e k l)
 |.bools e l=>some (.bools e l)
 |.rows e ei k l=>some (.rows 0 e ei k l)
 |.bx cs=>some (.box (cs.map dg))
 |.strs e l=>some (.strs e l)
 |.cut _ _ e ei k l=>some (.rows 0 e ei k l)
 |.lst e d=>some (.lst 0 e d)
 |.tr es d=>some (.tr 0 es d)
 |_=>none
def kC(id:Nat):RC->SC
 |.int k n=>.int k n
 |.bool b=>.bool b
 |.str l=>.str l
 |.ints _ _ _=>.own id
 |.bools _ _=>.own id
 |.rows _ _ _ _=>.own id
 |.nilq b=>.nilq b
 |.ro d=>.ro d
 |.bx _=>.ptr id 0
 |.strs _ _=>.own id
 |.cut off n _ _ _ _=>.sub id off n
 |.lst _ _=>.own id
 |.gone _=>.any
 |.tr _ _=>.own id
def nF:Nat->List RC->List (Nat×RC)
 |_,[]=>[]
 |j,x::l=>(j,x)::nF (j+1) l
def lS:Nat->List (RC ⊕ List RC)->List (Nat×RC)
 |_,[]=>[]
 |i,.inl x::l=>(16*i,x)::lS (i+1) l
 |i,.inr xs::l=>nF (16*i) xs++lS (i+1) l
def dv:RV->List (Nat×RC)
 |.c x=>[(0,x)]
 |.agg l=>nF 0 l
 |.tup l=>lS 0 l
 |.st _ _ _=>[]
def iE(d:Nat):Nat->List RC->List SC
 |_,[]=>[]
 |j,x::l=>kC (d+1000*j) x::iE d (j+1) l
def jK(d:Nat):Nat->List (RC ⊕ List RC)->List (SC ⊕ List SC)
 |_,[]=>[]
 |i,.inl x::l=>.inl (kC (d+1000*(16*i)) x)::jK d (i+1) l
 |i,.inr xs::l=>.inr (iE d (16*i) xs)::jK d (i+1) l
def nG(d:Nat):RV->SV
 |.c x=>.c (kC (d+1000*0) x)
 |.agg l=>.agg (iE d 0 l)
 |.tup l=>.tup (jK d 0 l)
 |.st _ _ _=>.c .any
def pi:List FC->Bool
 | []=>true
 |d::l=>dL d&&pi l
def uf:RC->Bool
 |.ro _=>true
 |.lst _ _=>true
 |.bx cs=>!pi cs
 |_=>false
def roL:List (Nat×RC)->Bool
 | []=>false
 |(_,rc)::l=>uf rc||roL l
def lT(rv:RV):Bool:=roL (dv rv)
def ug:SC->Option FC
 |.int k n=>some (.int k n)
 |.bool b=>some (.bool b)
 |.str l=>some (.str l)
 |.ro d=>some d
 |_=>none
def BM:SV->Option AD
 |.c c=>match ug c with
  |some d=>some (.c d)
  |none=>none
 |.agg l=>match em ug l with
  |some ds=>some (.agg ds)
  |none=>none
 |_=>none
def BO(c:Option Ctr)(svs:List SV):Option (List AD×Prop×RV) :=
 match c with
 |some ⟨[],ct⟩=>match em BM svs with
  |some ads=>match ct ads with
   |some ⟨pre,ret,[]⟩=>match lT ret with
    |true=>some (ads,pre,ret)
    |false=>none
   |_=>none
  |none=>none
 |_=>none
def eH(d:Nat):List (Nat×RC)->List (Nat×Option Ob)
 | []=>[]
 |(i,rc)::l=>match gY rc with
  |some ob=>(d+1000*i,some ob)::eH d l
  |none=>eH d l
def nH{α:Type}(ids:List (Nat×Option Ob))(k:Rd α):Rd α :=
 match ids with
 | []=>k
 |(i,_)::l=>.abs i (nH l k)
def fe:List Nat->Bool
 | []=>true
 |i::l=>cb i l&&fe l
def nI(svs:List SV):List (Nat×Nat)->Option (List Nat)
 | []=>some []
 |(i,j)::l=>match svs[i]? with
  |some sv=>match i8 sv with
   |some cs=>match cs[j]? with
    |some (.own o)=>match nI svs l with
     |some os=>some (o::os)
     |none=>none
    |_=>none
   |none=>none
  |none=>none
def gA:List FC->List FC->Option Prop
 | [],[]=>some True
 |.int k _::l,.int k' _::l'=>if k=k' then gA l l' else none
 |.bool _::l,.bool _::l'=>gA l l'
 |.str _::l,.str _::l'=>gA l l'
 |.ints k a::l,.ints k' a'::l'=>if k=k' then(match gA l l' with|some p=>some (a=a'/\p)|none=>none)else none
 |.bools a::l,.bools a'::l'=>(match gA l l' with|some p=>some (a=a'/\p)|none=>none)
 |.rows k a::l,.rows k' a'::l'=>if k=k' then(match gA l l' with|some p=>some (a=a'/\p)|none=>none)else none
 |.r3 k a::l,.r3 k' a'::l'=>if k=k' then(match gA l l' with|some p=>some (a=a'/\p)|none=>none)else none
 |.r4 k a::l,.r4 k' a'::l'=>if k=k' then(match gA l l' with|some p=>some (a=a'/\p)|none=>none)else none
 |_,_=>none
def c9:Ob->RC->Option (Ob×Prop)
 |.ints e k r,.ints e' k' r'=>if e=e'/\k=k' then some (.ints e k r',r'.length=r.length)else none
 |.bools e r,.bools e' r'=>if e=e' then some (.bools e r',r'.length=r.length)else none
 |.rows ver e ei k r,.rows e' ei' k' r'=>if e=e'/\ei=ei'/\k=k' then some (.rows ver e ei k r',r'.map List.length=r.map List.length)else none
 |.bx cs,.bx cs'=>match gA cs cs' with
  |some p=>some (.bx cs',p)
  |none=>none
 |.tr ver es r,.tr es' r'=>match fL es es'&&Nat.beq r.wid r'.wid with
  |true=>some (.tr ver es r',r'.len=r.len)
  |false=>none
 |.lst ver e d,.gone (.lst e' _)=>if e=e' then some (.lst ver e d,True)else none
 |.ints e k l,.gone (.ints e' k' _)=>if e=e'/\k=k' then some (.ints e k l,True)else none
 |.rows ver e ei k l,.gone (.rows e' ei' k' _)=>if e=e'/\ei=ei'/\k=k' then some (.rows ver e ei k l,True)else none
 |_,_=>none
def nJ(rc:RC)(ob:Ob):Option Ob:=match rc.isGone with
 |true=>none
 |false=>some ob
def lU{α:Type}:List Nat->List RC->(List (Nat×Option Ob)->Prop->Rd α)->Rd α
 | [],[],K=>K [] True
 |o::os,rc::rcs,K=>.h o fun ob=>match c9 ob rc with
  |some (ob',p)=>lU os rcs fun ups q=>K ((o,nJ rc ob')::ups) (p/\q)
  |none=>.fail
 |_,_,_=>.fail
def uh{α:Type}(hid:List Nat)(nl:Option FC)(c:SC)(K:FC->List (Nat×Option Ob)->Rd α):Rd α :=
 match c with
 |.int k n=>K (.int k n) []
 |.bool b=>K (.bool b) []
 |.str l=>K (.str l) []
 |.nil=>match nl with
  |some d=>K d []
  |none=>.fail
 |.ro d=>K d []
 |.own o=>dU hid o fun ob=>match fM ob with
  |some d=>K d [(o,some (.frz d))]
  |none=>.fail
 |.pre o n=>dU hid o fun ob=>match fM ob with
  |some d=>match bZ 0 n d with
   |some d'=>K d' [(o,some (.frz d))]
   |none=>.fail
  |none=>.fail
 |.sub o off n=>dU hid o fun ob=>match fM ob with
  |some d=>match bZ off n d with
   |some d'=>K d' [(o,some (.frz d))]
   |none=>.fail
  |none=>.fail
 |_=>.fail
def ui{α:Type}(P:Program)(hid:List Nat):List SC->List TypeId->(List FC->List (Nat×Option Ob)->Rd α)->Rd α
 | [],_,K=>K [] []
 |c::cs,ts,K=>uh hid (Jq P ts) c fun d fs=>ui P hid cs ts.tail fun ds gs=>K (d::ds) (fs++gs)
def BP{α:Type}(P:Program)(hid:List Nat)(mt:List (Nat×Nat))(i:Nat)(t:TypeId)(sv:SV)(K:AD->List (Nat×Option Ob)->Rd α):Rd α :=
 match sv with
 |.c c=>match memP i 0 mt with
  |true=>BI c fun d=>K (.c d) []
  |false=>uh hid (gz P t) c fun d fs=>K (.c d) fs
 |.agg cs=>ui P hid cs (ue P t) fun ds fs=>K (.agg ds) fs
 |.fv F=>K (.fv F) []
 |_=>.fail
def uj{α:Type}(P:Program)(hid:List Nat)(mt:List (Nat×Nat)):Nat->List SV->List TypeId->(List AD->List (Nat×Option Ob)->Rd α)->Rd α
 |_,[],_,K=>K [] []
 |i,sv::svs,ts,K=>BP P hid mt i (ts.headD 0) sv fun ad fs=>uj P hid mt (i+1) svs ts.tail fun ads gs=>K (ad::ads) (fs++gs)
def uk(svs:List SV):List (Nat×Nat)->Bool
 | []=>true
 |(i,j)::l=>(match svs[i]? with|some (.c _)=>Nat.beq j 0|_=>false)&&uk svs l
def ul(P:Program)(d:Nat)(mt:List (Nat×Nat))(ct:List AD->Option Post)(hid:List Nat)(svs:List SV)(ts:List TypeId):Rd Eff :=
 match uk svs mt with
 |false=>.fail
 |true=>uj P hid mt 0 svs ts fun ads fs=>match ct ads with
  |none=>.fail
  |some ⟨pre,ret,wrs⟩=>lU hid wrs fun ups p =>
   nH (eH d (dv ret)) (.ret ⟨nG d ret,eH d (dv ret)++(ups++fs),some (pre/\p)⟩)
def gB(P:Program)(Γ:FuncId->Option Ctr)(d:Nat)(f:FuncId)(svs:List SV)(ts:List TypeId):Rd Eff :=
 match Γ f with
 |none=>.fail
 |some ⟨mt,ct⟩=>match nI svs mt with
  |none=>.fail
  |some hid=>match fe hid with
   |false=>.fail
   |true=>iD P Γ hid mt 0 svs ts fun ads=>match ct ads with
    |none=>.fail
    |some ⟨pre,ret,wrs⟩=>match lT ret with
     |true=>ul P d mt ct hid svs ts
     |false=>lU hid wrs fun ups p =>
      nH (eH d (dv ret)) (.ret ⟨nG d ret,eH d (dv ret)++ups,some (pre/\p)⟩)
def BQ(d:Nat)(pre:Prop)(ret:RV):Rd Eff :=
 nH (eH d (dv ret)) (.ret ⟨nG d ret,eH d (dv ret)++[],some (pre/\True)⟩)
def fN:RC->Option SC
 |.int k n=>some (.int k n)
 |.bool b=>some (.bool b)
 |_=>none
def um(c:Option Ctr):Bool :=
 match c with
 |some ⟨[(0,0)],_⟩=>true
 |_=>false
def BR(P:Program)(Γ:FuncId->Option Ctr)(f:FuncId)(o ver i:Nat)(svs:List SV)(ts:List TypeId):Rd Eff :=
 match Γ f with
 |some ⟨[(0,0)],ct⟩=>.h o fun ob=>match ob with
  |.rows ver' e ei k l=>match Nat.beq ver' ver with
   |true=>iD P Γ [o] [(0,0)] 1 svs ts fun ads=>match ct (.c (.ints k (l.getD i []))::ads)with
    |some ⟨pre,.c rc,[.ints e' k' r]⟩=>match fN rc with
     |some c=>if ei=e'/\k=k' then .ret ⟨.c c,[(o,some (.rows ver' e ei k (l.set i r)))],some (pre/\r.length=(l.getD i []).length)⟩else .fail
     |none=>.fail
    |_=>.fail
   |false=>.fail
  |_=>.fail
 |_=>.fail
def BS(P:Program)(Γ:FuncId->Option Ctr)(f:FuncId)(o ver:Nat)(p:List Nat)(svs:List SV)(ts:List TypeId):Rd Eff :=
 match Γ f with
 |some ⟨[(0,0)],ct⟩=>.h o fun ob=>match ob with
  |.tr ver' es d=>match Nat.beq ver' ver with
   |true=>match gS d p with
    |some x=>iD P Γ [o] [(0,0)] 1 svs ts fun ads=>match ct (.c x::ads)with
     |some ⟨pre,.c rc,[.tr es' x']⟩=>match fN rc with
      |some c=>match fL (es.drop p.length) es'&&Nat.beq x.wid x'.wid with
       |true=>match ku d p x' with
        |some d'=>.ret ⟨.c c,[(o,some (.tr ver' es d'))],some (pre/\x'.len=x.len)⟩
        |none=>.fail
       |false=>.fail
      |none=>.fail
     |_=>.fail
    |none=>.fail
   |false=>.fail
  |_=>.fail
 |_=>.fail
def BT(P:Program)(Γ:FuncId->Option Ctr)(f:FuncId)(o off n:Nat)(svs:List SV)(ts:List TypeId):Rd Eff:=.fail
def ST(c:Option Ctr):Bool :=
 match c with
 |some ⟨[(1,0)],_⟩=>true
 |_=>false
def BU(P:Program)(Γ:FuncId->Option Ctr)(f:FuncId)(k0:IntKind)(n0:Int)(o ver i:Nat)(svs:List SV)(ts:List TypeId):Rd Eff:=.fail
def BV(P:Program)(Γ:FuncId->Option Ctr)(d:Nat)(f:FuncId)(o:Nat)(svs:List SV)(ts:List TypeId):Rd Eff:=.fail
def f7:Ob->Ob
 |.rows _ e ei k l=>.rows 0 e ei k l
 |.lst _ e d=>.lst 0 e d
 |.tr _ es d=>.tr 0 es d
 |.yd _ Y pre b=>.yd 0 Y pre b
 |ob=>ob
def pj:Ob->Bool
 |.ints _ _ _=>true
 |.bools _ _=>true
 |.rows _ _ _ _ _=>true
 |.lst _ _ _=>true
 |.tr _ _ _=>true
 |.yd _ _ _ _=>true
 |_=>false
def ja(P:Program)(t:TypeId):Option Ob :=
 match bL P t with
 |none=>none
 |some e=>match P.underlying e with
  |some (.int k)=>some (.ints e k [])
  |some .bool=>some (.bools e [])
  |some (.slice ei)=>match iy P ei with
   |some k=>some (.lst 0 e (.rows k []))
   |none=>match gz P t with
    |some (.r3 k l)=>match l,tW P 4 t with
     | [],[a,b,c]=>some (.tr 0 [a,b,c] (.r3 k []))
     |_,_=>none
    |_=>none
  |_=>none
abbrev Tr:=List (Nat×Option Nat×Ob)
def un{α:Type}(k:Nat)(nl:Option Ob)(c:SC)(K:MC->Tr->Rd α):Rd α :=
 match c with
 |.int k n=>K (.c (.int k n)) []
 |.bool b=>K (.c (.bool b)) []
 |.str l=>K (.c (.str l)) []
 |.ro d=>K (.c d) []
 |.orig _ _ d=>K (.c d) []
 |.own o=>.h o fun ob=>match ob with
  |.frz d=>K (.c d) []
  |ob=>match pj ob with
   |true=>K (.ob (f7 ob)) [(k,some o,ob)]
   |false=>.fail
 |.nil=>match nl with
  |some ob=>K (.ob ob) [(k,none,ob)]
  |none=>.fail
 |_=>.fail
def Jt(P:Program):List TypeId->Option Ob
 | []=>none
 |t::_=>ja P t
def uo{α:Type}(P:Program):Nat->List SC->List TypeId->(List MC->Tr->Rd α)->Rd α
 |_,[],_,K=>K [] []
 |k,c::cs,ts,K=>un k (Jt P ts) c fun x os=>uo P (k+1) cs ts.tail fun l os'=>K (x::l) (os++os')
def BW{α:Type}(P:Program)(k:Nat)(t:TypeId)(sv:SV)(K:MA->Tr->Rd α):Rd α :=
 match sv with
 |.c c=>match c with
  |.ptr o i=>match i with
   |0=>.h o fun ob=>match ob with
    |.box cs=>uo P (k+1) cs (ue P (Jr P t)) fun l os=>K (.box l) ((k,some o,.box (fA (k+1) l))::os)
    |_=>.fail
   |_+1=>.fail
  |c=>un k (ja P t) c fun x os=>K (.m x) os
 |_=>.fail
def uq{α:Type}(P:Program):Nat->List SV->List TypeId->(List MA->Tr->Rd α)->Rd α
 |_,[],_,K=>K [] []
 |i,sv::svs,ts,K=>BW P (cR i) (ts.headD 0) sv fun x os=>uq P (i+1) svs ts.tail fun l os'=>K (x::l) (os++os')
def gZ:Tr->List Nat
 | []=>[]
 |(_,some o,_)::l=>o::gZ l
 |(_,none,_)::l=>gZ l
def d8:Tr->Nat->Option (Option Nat×Ob)
 | [],_=>none
 |(k,x)::l,t=>match Nat.beq k t with
  |true=>some x
  |false=>d8 l t
def ep(d:Nat)(os:Tr)(k:Nat):Nat :=
 match d8 os k with
 |some (some o,_)=>o
 |_=>d+1000*k
def nK(f:Nat->Nat):SC->Option SC
 |.int k n=>some (.int k n)
 |.bool b=>some (.bool b)
 |.str l=>some (.str l)
 |.nil=>some .nil
 |.any=>some .any
 |.ro d=>some (.ro d)
 |.own k=>some (.own (f k))
 |.ptr k i=>some (.ptr (f k) i)
 |_=>none
def ur(f:Nat->Nat):SV->Option SV
 |.c c=>match nK f c with
  |some c'=>some (.c c')
  |none=>none
 |.fn g l=>match em (nK f) l with
  |some l'=>some (.fn g l')
  |none=>none
 |.tup l=>match l with
  | []=>some (.tup [])
  |_=>none
 |_=>none
def iF(f:Nat->Nat)(ob:Ob):Option Ob :=
 match ob with
 |.box cs=>match em (nK f) cs with
  |some cs'=>some (.box cs')
  |none=>none
 |ob=>match pj ob with
  |true=>some ob
  |false=>none
def pk:Ob->Ob->Bool
 |.box cs,.box cs'=>Nat.beq cs.length cs'.length
 |.yd _ _ _ _,.yd _ _ _ _=>true
 |_,_=>false
def fB:Ob->Ob->Ob
 |.yd v _ _ _,.yd v' Y pre b=>.yd (v+v') Y pre b
 |_,ob=>ob
def pm(d:Nat)(os:Tr):List (Nat×Option Ob)->Option (List (Nat×Option Ob)×List (Nat×Option Ob))
 | []=>some ([],[])
 |(_,none)::_=>none
 |(k,some ob)::l=>match iF (ep d os) ob with
  |none=>none
  |some ob'=>match pm d os l with
   |none=>none
   |some (kept,new)=>match d8 os k with
    |some (some o,ob0)=>match pk ob0 ob with
     |true=>some ((o,some (fB ob0 ob'))::kept,new)
     |false=>none
    |some (none,_)=>none
    |none=>some (kept,(d+1000*k,some ob')::new)
def cX(hp:List (Nat×Option Ob)):Tr->List (Nat×Option Ob)
 | []=>[]
 |(k,some o,_)::l=>match lk hp k with
  |none=>(o,none)::cX hp l
  |some _=>cX hp l
 |(_,none,_)::l=>cX hp l
def BX(c:Option Ctr):Bool :=
 match c with
 |some ⟨[(0,93),(0,93)],_⟩=>true
 |_=>false
def BY(P:Program)(d:Nat)(c:Option Ctr)(svs:List SV)(ts:List TypeId):Rd Eff :=
 match c with
 |none=>.fail
 |some ⟨_,ct⟩=>uq P 0 svs ts fun mas os=>match ct (mas.map .ma)with
  |some ⟨pre,.st sv ex outs,[]⟩=>match fe (os.map (·.1))&&fe (gZ os)&&fe ((gy 0 outs++gV ex).map (·.1))with
   |true=>match ur (ep d os) sv,pm d os (gy 0 outs++gV ex)with
    |some sv',some (kept,new)=>nH new (.ret ⟨sv',new++(kept++cX (gy 0 outs++gV ex) os),some pre⟩)
    |_,_=>.fail
   |false=>.fail
  |_=>.fail
def SU(c:Option Ctr)(svs:List SV):Bool :=
 match c with
 |some ⟨[(1,0)],_⟩=>match svs with
  | [.c (.int .i64 _),.fn _ _]=>true
  |_=>false
 |_=>false
def BZ(P:Program)(Γ:FuncId->Option Ctr)(d:Nat)(f:FuncId)(svs:List SV):Rd Eff:=.fail
def B4(o:Nat)(F:SFV)(svs:List SV):Rd Eff:=.fail
def B5(c:Option Ctr):Bool :=
 match c with
 |some ⟨[(0,97),(0,97)],_⟩=>true
 |_=>false
def B6(c:Option Ctr)(svs:List SV):Rd Eff :=
 match c with
 |some ⟨_,ct⟩=>match svs with
  | [.c (.own o),.fn g []]=>.h o fun ob=>match ob with
   |.rows ver e ei .i64 l=>match ct [.c (.rows .i64 l)]with
    |some ⟨pre,.c (.rows g' _ .i64 l'),_⟩=>match Nat.beq g' g with
     |true=>.ret ⟨.tup [],[(o,some (.rows (ver+1) e ei .i64 l'))],some (pre/\l'.length=l.length)⟩
     |false=>.fail
    |_=>.fail
   |.tr ver [e,e2,e3] (.r3 .i64 l)=>match ct [.c (.r3 .i64 l)]with
    |some ⟨pre,.c (.tr [g'] (.r3 .i64 l')),_⟩=>match Nat.beq g' g with
     |true=>.ret ⟨.tup [],[(o,some (.tr (ver+1) [e,e2,e3] (.r3 .i64 l')))],some (pre/\l'.length=l.length)⟩
     |false=>.fail
    |_=>.fail
   |_=>.fail
  |_=>.fail
 |none=>.fail
def Ju(c:Option Ctr):Bool :=
 match c with
 |some ⟨[(0,96),(0,96)],_⟩=>true
 |_=>false
def B7(c:Option Ctr)(svs:List SV):Rd Eff:=.fail
def Jv(c:Option Ctr):Bool :=
 match c with
 |some ⟨[(0,99),(0,99)],_⟩=>true
 |_=>false
def B8(d:Nat)(svs:List SV):Rd Eff:=.fail
def Jw(c:Option Ctr):Option TypeId :=
 match c with
 |some ⟨[(0,98),(0,98)],ct⟩=>match ct []with
  |some ⟨_,.c (.ints e .i64 []),_⟩=>some e
  |_=>none
 |_=>none
def B9(d:Nat)(e:TypeId)(svs:List SV):Rd Eff:=.fail
def SW(c:Option Ctr):Bool :=
 match c with
 |some ⟨[(0,0),(1,0)],_⟩=>true
 |_=>false
def Ca(P:Program)(Γ:FuncId->Option Ctr)(d:Nat)(f:FuncId)(o ver i j:Nat)(ts:List TypeId):Rd Eff:=.fail
def g3(d:Nat)(ob:Ob):Rd Eff->Rd Eff
 |.ret e=>.ret ⟨e.val,e.hp++[(d,none)],e.owed⟩
 |.fail=>.fail
 |.f t k=>.f t fun sv=>g3 d ob (k sv)
 |.h o k=>match Nat.beq o d with
  |true=>g3 d ob (k ob)
  |false=>.h o fun x=>g3 d ob (k x)
 |.abs o k=>match Nat.beq o d with
  |true=>.fail
  |false=>.abs o (g3 d ob k)
def ut(c:Option Ctr)(svs:List SV):Option Nat :=
 match c with
 |some ⟨[(i,0)],_⟩=>match svs[i]? with
  |some (.c .nil)=>some i
  |_=>none
 |_=>none
def Cb(P:Program)(Γ:FuncId->Option Ctr)(d:Nat)(f:FuncId)(i:Nat)(svs:List SV)(ts:List TypeId):Rd Eff :=
 match Γ f with
 |some ⟨_,ct⟩=>iD P Γ [] [] 0 svs ts fun ads=>match ct ads with
  |some ⟨_,_,[.gone (.rows e ei k _)]⟩=>.abs (d+490490) (g3 (d+490490) (.rows 0 e ei k []) (gB P Γ d f (svs.set i (.c (.own (d+490490)))) ts))
  |_=>.fail
 |none=>.fail
def uu(sv:SV):Option SC :=
 match sv with
 |.c c=>if c.plain then some c else none
 |_=>none
def Cd(P:Program)(o i:Nat):Rd Eff :=
 match Nat.beq o i with
 |true=>.fail
 |false=>.h o fun ob=>match ob with
  |.yd v Y pre b=>.h i fun ob2=>match ob2 with
   |.ints e k x=>match k with
    |.i64=>.ret ⟨.c (.bool (Y.go pre x)),[(o,some (.yd (v+1) Y (pre++[x]) (Y.go pre x)))],some (Y.P=P/\Y.e=e/\b=true/\Y.ok pre x)⟩
    |_=>.fail
   |_=>.fail
  |_=>.fail
def Jx(P:Program)(Γ:FuncId->Option Ctr)(d:Nat)(fv:SV)(svs:List SV)(ts:List TypeId):Rd Eff :=
 match fv with
 |.fn f []=>match Jv (Γ f)with
  |true=>B8 d svs
  |false=>match Jw (Γ f)with
   |some e=>B9 d e svs
   |none=>match B5 (Γ f)with
    |true=>B6 (Γ f) svs
    |false=>match Ju (Γ f)with
    |true=>B7 (Γ f) svs
    |false=>match BX (Γ f)with
    |true=>BY P d (Γ f) svs ts
    |false=>match SU (Γ f) svs with
    |true=>BZ P Γ d f svs
    |false=>match BO (Γ f) svs with
     |some (_,pre,ret)=>BQ d pre ret
     |none=>match svs with
      |.c (.row o ver i)::rest=>match um (Γ f)with
       |true=>BR P Γ f o ver i rest ts.tail
       |false=>match SW (Γ f)with
        |true=>match rest with
         | [.c (.row o' ver' j)]=>match Nat.beq o' o,Nat.beq ver' ver with
          |true,true=>Ca P Γ d f o ver i j ts
          |_,_=>gB P Γ d f svs ts
         |_=>gB P Γ d f svs ts
        |false=>gB P Γ d f svs ts
      |.c (.kid o ver p)::rest=>match um (Γ f)with
       |true=>BS P Γ f o ver p rest ts.tail
       |false=>gB P Γ d f svs ts
      |.c (.sub o off n)::rest=>match um (Γ f)with
       |true=>BT P Γ f o off n rest ts.tail
       |false=>gB P Γ d f svs ts
      |.c (.ptr o 0)::rest=>match um (Γ f)with
       |true=>BV P Γ d f o rest ts
       |false=>gB P Γ d f svs ts
      |.c (.int k0 n0)::.c (.row o ver i)::rest=>match ST (Γ f)with
       |true=>BU P Γ f k0 n0 o ver i rest ts.tail.tail
       |false=>gB P Γ d f svs ts
      |svs=>match ut (Γ f) svs with
       |some i=>Cb P Γ d f i svs ts
       |none=>gB P Γ d f svs ts
 |.fvs o F=>B4 o F svs
 |.fn f (c::cs)=>gB P Γ d f (svs++(c::cs).map .c) ts
 |.fv F=>match em uu svs with
  |some cs=>jI P [] [] 0 0 cs ts fun ds=>match F.at ds with
   |some (q,c)=>.ret ⟨.c c,[],some q⟩
   |none=>.fail
  |none=>.fail
 |.c c=>match c with
  |.own o=>match svs with
   | [.c (.own i)]=>Cd P o i
   |_=>.fail
  |_=>.fail
 |_=>.fail
def Jy(lo hi:Option Operand)(mx:Operand):Bool :=
 match lo,hi,mx with
 |none,some (.const (.int .i64 0)),.const (.int .i64 0)=>true
 |_,_,_=>false
def Ce(P:Program)(s t:TypeId):Bool :=
 match P.underlying t with
 |some .string=>match bL P s with
  |some e=>match iy P e with
   |some .u8=>true
   |_=>false
  |none=>false
 |_=>false
def SX(l:V7):List UInt8:=l.map fun n=>UInt8.ofNat n.toNat
def Cf(cx cy:SC):Rd Eff:=.fail
def Cg(cx cy:SC):Rd Eff:=.fail
def SY(x:Operand):Bool :=
 match x with
 |.const (.pointer none)=>true
 |_=>false
def Ch(P:Program)(d:Nat)(t:TypeId)(r:Option Operand):Rd Eff:=.fail
def Ci(P:Program)(t:TypeId)(cm ck cv:SC):Rd Eff:=.fail
def Cj(P:Program)(t:TypeId)(ok:Bool)(cm ck:SC):Rd Eff:=.fail
def cB(P:Program)(Γ:FuncId->Option Ctr)(wr:Nat->Bool)(o:Oper):Rd Eff :=
 let d:=match o.dst with|some d=>d|none=>0
 match o.op with
 |.move x=>fb x fun sv=>.ret ⟨sv,[],none⟩
 |.assign x=>match SY x with
  |true=>.ret ⟨.c .any,[],none⟩
  |false=>fb x fun sv=>.ret ⟨sv,[],none⟩
 |.nilCheck x=>cA x fun
  |.ptr o i=>.h o fun ob=>jG ob (aI (.ptr o i))
  |.rob cs i=>aI (.rob cs i)
  |_=>.fail
 |.pick c x y=>cA c fun
  |.bool true=>fb x fun sv=>.ret ⟨sv,[],none⟩
  |.bool false=>fb y fun sv=>.ret ⟨sv,[],none⟩
  |_=>.fail
 |.alloc t=>Bl P d t
 |.box _ x=>fb x fun sv=>Bn d sv
 |.build t parts=>Bo P t parts
 |.buildSlice t len parts=>match wr (5000000+d)with
  |true=>Bp P (wr (1000000+d)) d t len parts
  | false=>match wr (6000000+d)with
   |true=>Bq P d t len parts
   | false=>match wr (2000000+d)with
    |true=>Bs P d t len parts
    |false=>Br P (wr (1000000+d)) d t len parts
 |.load t x=>match wr (3000000+d)with
  |true=>cA x fun cx=>Bj P d t cx
  |false=>cA x fun cx=>tY P t cx
 |.store t x y=>cA x fun cx=>fb y fun sv=>Bk P t cx sv
 |.binOp op t x y _=>cA x fun cx=>cA y fun cy=>Bd P t (wr d) op cx cy
 |.unOp op _ x=>cA x fun cx=>Be (wr d) op cx
 |.convert s t x=>cA x fun cx=>match Ce P s t with
  |true=>jH [] (gz P s) cx fun
   |.ints .u8 l=>.ret ⟨.c (.str (SX l)),[],none⟩
   |_=>.fail
  |false=>Bf P (wr d) s t cx
 |.makeFunc fn first caps=>match fn with
  |.func f=>if first.isEmpty then gX caps.toList fun svs=>match em uu svs with
   |some cs=>.ret ⟨.fn f cs,[],none⟩
   |none=>.fail
   else .fail
  |_=>.fail
 |.makeSlice t l c=>cA l fun cl=>cA c fun cc=>BB P d t cl cc
 |.slice t x lo hi mx=>match mx with
  |none=>match wr (4000000+d)with
   |true=>cA x fun cx=>Bz P d t cx lo hi
   |false=>cA x fun cx=>ub P d t cx lo hi
  |some m=>match Jy lo hi m with
   |true=>match bL P t with
    |some e=>match cp P e with
     |some _=>cA x fun cx=>jH [] (gz P t) cx fun
      |.ints _ _=>.ret ⟨.c .emp,[],none⟩
      |.bools _=>.ret ⟨.c .emp,[],none⟩
      |.rows _ _=>.ret ⟨.c .emp,[],none⟩
      |_=>.fail
     |none=>.fail
    |none=>.fail
   |false=>.fail
 |.fieldAddr s x f=>cA x fun cx=>Bt P s cx f
 |.field s x f=>fb x fun sv=>Bv P s sv f
 |.indexAddr t x i=>cA x fun cx=>cA i fun ci=>Bw P t cx ci
 |.index t x i=>cA x fun cx=>cA i fun ci=>BH P t cx ci
 |.extract x i=>fb x fun sv=>BG sv i
 |.call c=>match c.callee with
  |.value f=>fb f fun fv=>gX c.args.toList fun svs=>Jx P Γ d fv svs c.argTypes.toList
  |.builtin b=>match b with
   |.len=>match c.args.toList,c.argTypes.toList with
    | [x],[t]=>cA x fun cx=>match cx with
     |.str _=>match P.underlying t with
      |some .string=>ua cx
      |_=>.fail
     |cx=>match bL P t with
      |some _=>ua cx
      |none=>.fail
    |_,_=>.fail
   |.append=>match c.args.toList,c.argTypes.toList with
    | [x,y],[t,t']=>if t=t' then cA x fun cx=>cA y fun cy=>BE P d t cx cy else match iy P t' with
     |some _=>cA x fun cx=>cA y fun cy=>BF P d t cx cy
     |none=>.fail
    |_,_=>.fail
   |.min=>match c.args.toList with
    | [x,y]=>cA x fun cx=>cA y fun cy=>Cf cx cy
    |_=>.fail
   |.max=>match c.args.toList with
    | [x,y]=>cA x fun cx=>cA y fun cy=>Cg cx cy
    |_=>.fail
   |_=>.fail
  |.invoke _ _=>.fail
 |.makeMap t r=>Ch P d t r
 |.mapUpdate t m k v=>cA m fun cm=>cA k fun ck=>cA v fun cv=>Ci P t cm ck cv
 |.lookup t m k ok=>cA m fun cm=>cA k fun ck=>Cj P t ok cm ck
 |_=>.fail
end Go.Sx
