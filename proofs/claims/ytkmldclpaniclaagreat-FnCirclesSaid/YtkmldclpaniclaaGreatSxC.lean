/- SxC -/
import Derived.Test.YtkmldclpaniclaaGreatSxBt
set_option linter.unusedSimpArgs false
set_option linter.unusedVariables false
set_option linter.defProp false
namespace Go.Sx
open Go.RowKit
inductive Key where
 |f (t:Nat)
 |h (o:Nat)
def Key.eq:Key->Key->Bool
 |.f a,.f b=>Nat.beq a b
 |.h a,.h b=>Nat.beq a b
 |_,_=>false
inductive Rd (α:Type) where
 |ret (x:α)
 |fail
 |f (t:Nat) (k:SV->Rd α)
 |h (o:Nat) (k:Ob->Rd α)
 |abs (o:Nat) (k:Rd α)
def Rd.run{α:Type}(σ:State):Rd α->Option α
 |.ret x=>some x
 |.fail=>none
 |.f t k=>match σ.F t with
  |some sv=>(k sv).run σ
  |none=>none
 |.h o k=>match σ.H o with
  |some (some ob)=>(k ob).run σ
  |some none=>none
  |none=>none
 |.abs o k=>match σ.H o with
  |none=>k.run σ
  |some _=>none
def Rd.keys{α:Type}(σ:State):Rd α->List Key
 |.ret _=>[]
 |.fail=>[]
 |.f t k=>.f t::match σ.F t with
  |some sv=>(k sv).keys σ
  |none=>[]
 |.h o k=>.h o::match σ.H o with
  |some (some ob)=>(k ob).keys σ
  |some none=>[]
  |none=>[]
 |.abs o k=>.h o::k.keys σ
structure Eff where
 val:SV
 hp:List (Nat×Option Ob)
 owed:Option Prop
def Eff.obl(e:Eff):Prop :=
 match e.owed with
 |none=>True
 |some p=>p
inductive MC where
 |c (d:FC)
 |ob (x:Ob)
inductive MA where
 |m (x:MC)
 |box (l:List MC)
inductive AD where
 |c (d:FC)
 |agg (cs:List FC)
 |box (cs:List FC)
 |bb (cs:List FC)
 |fv (F:FV)
 |fvs (F:SFV) (s:Int)
 |cut (off n:Nat) (d:FC)
 |ma (x:MA)
inductive RC where
 |int (k:IntKind) (n:Int)
 |bool (b:Bool)
 |str (l:List UInt8)
 |ints (e:TypeId) (k:IntKind) (l:D1)
 |bools (e:TypeId) (l:List Bool)
 |rows (e ei:TypeId) (k:IntKind) (l:D2)
 |nilq (b:Bool)
 |ro (d:FC)
 |bx (cs:List FC)
 |strs (e:TypeId) (l:List (List UInt8))
 |cut (off n:Nat) (e ei:TypeId) (k:IntKind) (l:D2)
 |lst (e:TypeId) (d:FC)
 |gone (x:RC)
 |tr (es:List TypeId) (d:FC)
def RC.isGone:RC->Bool
 |.gone _=>true
 |_=>false
inductive RV where
 |c (x:RC)
 |agg (l:List RC)
 |tup (l:List (RC ⊕ List RC))
 |st (sv:SV) (ex:List (Nat×Ob)) (outs:List MA)
structure Post where
 pre:Prop
 ret:RV
 wrs:List RC:=[]
structure Ctr where
 mt:List (Nat×Nat):=[]
 ct:List AD->Option Post
def di:FC->SC
 |.int k n=>.int k n
 |.bool b=>.bool b
 |.str l=>.str l
 |.ints k l=>.ro (.ints k l)
 |.bools l=>.ro (.bools l)
 |.rows k l=>.ro (.rows k l)
 |.r3 k l=>.ro (.r3 k l)
 |.r4 k l=>.ro (.r4 k l)
 |.p3 k l=>.ro (.p3 k l)
def dn:FC->Bool
 |.int _ _=>true
 |.bool _=>true
 |.str _=>true
 |_=>false
def fC:Ob->Option FC
 |.ints _ k l=>some (.ints k l)
 |.bools _ l=>some (.bools l)
 |.rows _ _ _ k l=>some (.rows k l)
 |.box _=>none
 |.bx _=>none
 |.strs _ _=>none
 |.lst _ _ d=>match dn d with
  |true=>none
  |false=>some d
 |.frz _=>none
 |.mp _=>none
 |.qu _ _ _=>none
 |.rowsH _ _ _ _ _ _=>none
 |.tr _ _ d=>some d
 |.yd _ _ _ _=>none
 |.trk _ _ _ _=>none
/- The state that a call by states begins in: argument i's object has the name 7000 + 100 i, its cells' objects those behind it. -/
def c8(i:Nat):Nat:=7000+100*i
def FW(k:Nat):MC->SC
 |.c d=>di d
 |.ob _=>.own k
def uR(k:Nat):MC->List (Nat×Option Ob)
 |.c _=>[]
 |.ob x=>[(k,some x)]
def fS:Nat->List MC->List SC
 |_,[]=>[]
 |k,x::l=>FW k x::fS (k+1) l
def lj:Nat->List MC->List (Nat×Option Ob)
 |_,[]=>[]
 |k,x::l=>uR k x++lj (k+1) l
def qe(k:Nat):MA->SV
 |.m x=>.c (FW k x)
 |.box _=>.c (.ptr k 0)
def Ov(k:Nat):MA->List (Nat×Option Ob)
 |.m x=>uR k x
 |.box l=>(k,some (.box (fS (k+1) l)))::lj (k+1) l
def uS:Nat->List MA->List (Nat×SV)
 |_,[]=>[]
 |i,x::l=>(i,qe (c8 i) x)::uS (i+1) l
def iB:Nat->List MA->List (Nat×Option Ob)
 |_,[]=>[]
 |i,x::l=>Ov (c8 i) x++iB (i+1) l
def eP(mas:List MA):State:=⟨uS 0 mas,iB 0 mas⟩
def Xk(k:Nat):MA->List (Nat×Option Ob)
 |.m x=>uR k x
 |.box l=>(k,some (.box (fS (k+1001) l)))::lj (k+1001) l
def gD:Nat->List MA->List (Nat×Option Ob)
 |_,[]=>[]
 |i,x::l=>Xk (c8 i) x++gD (i+1) l
def g4(ex:List (Nat×Ob)):List (Nat×Option Ob):=ex.map fun p=>(p.1,some p.2)
def i9(sv:SV)(hp:List (Nat×Option Ob)):State:=⟨[(0,sv)],hp⟩
def lm(mas:List MA)(hp:List (Nat×Option Ob)):List Nat:=((iB 0 mas).map (·.1)).filter fun k=>(lk hp k).isSome
def gb:Ob->Option FC
 |.frz d=>some d
 |ob=>match fC ob with
  |some d=>match cg 0 d.len d with
   |some _=>some d
   |none=>none
  |none=>none
def kq{α:Type}(ob:Ob)(r:Rd α):Rd α :=
 match ob.isFz with
 |true=>.fail
 |false=>r
def FX{α:Type}(c:SC)(k:SC->Rd α):Rd α :=
 match c with
 |.own o=>.h o fun ob=>match ob with
  |.frz d=>k (.ro d)
  |_=>k (.own o)
 |.pre o n=>.h o fun ob=>match ob with
  |.frz d=>match cg 0 n d with
   |some d'=>k (.ro d')
   |none=>.fail
  |_=>k (.pre o n)
 |.sub o off n=>.h o fun ob=>match ob with
  |.frz d=>match cg off n d with
   |some d'=>k (.ro d')
   |none=>.fail
  |_=>k (.sub o off n)
 |c=>k c
def oF:Value->Option SC
 |.int k n=>some (.int k n)
 |.bool b=>some (.bool b)
 |.string s=>some (.str s.data.toList)
 |.slice none 0 0=>some .nil
 |_=>none
def ec{α β:Type}(f:α->Option β):List α->Option (List β)
 | []=>some []
 |x::l=>match f x with
  |some y=>match ec f l with
   |some ys=>some (y::ys)
   |none=>none
  |none=>none
def fD{α:Type}(x:Operand)(k:SV->Rd α):Rd α :=
 match x with
 |.tmp t=>.f t k
 |.const v=>match v with
  |.agg cs=>match ec oF cs.toList with
   |some l=>k (.agg l)
   |none=>.fail
  |.nilFunc=>k (.c .any)
  |v=>match oF v with
   |some c=>k (.c c)
   |none=>.fail
 |.func f=>k (.fn f [])
 |.global _=>.fail
def cL{α:Type}(x:Operand)(k:SC->Rd α):Rd α :=
 fD x fun
  |.c c=>FX c k
  |_=>.fail
def mK(P:Program)(t:TypeId):Option Bool :=
 match P.underlying t with
 |some (.struct _)=>some true
 |some (.array _ _)=>some true
 |some _=>some false
 |none=>none
def cG(P:Program)(t:TypeId):Option Nat :=
 match P.info? t with
 |some i=>some i.size
 |none=>none
def bS(P:Program)(t:TypeId):Option TypeId :=
 match P.underlying t with
 |some (.slice e)=>some e
 |_=>none
def af(n:Int):Prop:=-9223372036854775808<=n/\n<=9223372036854775807
def g5(wr:Bool)(k:IntKind)(r:Int):Eff :=
 match wr,k with
 |false,.i64=>⟨.c (.int .i64 r),[],some (af r)⟩
 |_,k=>⟨.c (.int k (k.wrap r)),[],none⟩
def aG(c:SC):Rd Eff:=.ret ⟨.c c,[],none⟩
def FY(P:Program)(t:TypeId):Bool :=
 match P.underlying t with
 |some .bool=>true
 |_=>false
def am(n:Nat):Prop:=n<=1099511627776
def Xl:BinOp->Bool
 |.shl=>true
 |.shr=>true
 |_=>false
def FZ(wr:Bool)(op:BinOp)(cx cy:SC):Rd Eff :=
 match cx,cy with
 |.int .i64 a,.int _ b =>
  match op with
  |.shl=>.ret ⟨(g5 wr .i64 (a*2 ^ b.toNat)).val,[],some ((0<=b/\b<=62)/\(g5 wr .i64 (a*2 ^ b.toNat)).obl)⟩
  |.shr=>.ret ⟨.c (.int .i64 (a / 2 ^ b.toNat)),[],some (0<=b/\b<=62)⟩
  |_=>.fail
 |.int .u64 a,.int _ b =>
  match op with
  |.shr=>.ret ⟨.c (.int .u64 (a / 2 ^ b.toNat)),[],some (0<=b/\b<=62)⟩
  |_=>.fail
 |_,_=>.fail
def F0(op:BinOp)(cx cy:SC):Bool :=
 match op,cx,cy with
 |.and,.int .u64 _,.int .u64 _=>true
 |_,_,_=>false
def F1(cx cy:SC):Rd Eff :=
 match cx,cy with
 |.int .u64 a,.int .u64 b=>.ret ⟨.c (.int .u64 ((a.toNat &&& b.toNat:Nat):Int)),[],some ((0<=a/\a<=18446744073709551615)/\0<=b/\b<=18446744073709551615)⟩
 |_,_=>.fail
def F2(P:Program)(t:TypeId)(wr:Bool)(op:BinOp)(cx cy:SC):Rd Eff :=
 match Xl op with
 |true=>FZ wr op cx cy
 |false=>match F0 op cx cy with
 |true=>F1 cx cy
 |false=>match cx,cy with
 |.int k a,.int k' b =>
  if k=k' then
   match op with
   |.and=>.ret ⟨.c (.int k ((a.toNat &&& b.toNat:Nat):Int)),[],some (k=.i64/\(0<=a/\a<=9223372036854775807)/\0<=b/\b<=9223372036854775807)⟩
   |.or=>.ret ⟨.c (.int k ((a.toNat ||| b.toNat:Nat):Int)),[],some (k=.i64/\(0<=a/\a<=9223372036854775807)/\0<=b/\b<=9223372036854775807)⟩
   |.add=>.ret (g5 wr k (a+b))
   |.sub=>.ret (g5 wr k (a-b))
   |.mul=>.ret (g5 wr k (a*b))
   |.quo=>.ret ⟨(g5 wr k (a.tdiv b)).val,[],some (b≠0/\(g5 wr k (a.tdiv b)).obl)⟩
   |.rem=>.ret ⟨.c (.int k (a.tmod b)),[],some (b≠0)⟩
   |.eql=>aG (.bool (a == b))
   |.neq=>aG (.bool (a != b))
   |.lss=>aG (.bool (decide (a<b)))
   |.leq=>aG (.bool (decide (a<=b)))
   |.gtr=>aG (.bool (decide (b<a)))
   |.geq=>aG (.bool (decide (b<=a)))
   |_=>.fail
  else .fail
 |.bool a,.bool b =>
  if FY P t then
   match op with
   |.eql=>aG (.bool (a == b))
   |.neq=>aG (.bool (!(a == b)))
   |_=>.fail
  else .fail
 |.str a,.str b =>
  match op with
  |.eql=>aG (.bool (a == b))
  |.neq=>aG (.bool (!(a == b)))
  |.add=>.ret ⟨.c (.str (a++b)),[],some (am (a.length+b.length))⟩
  |_=>.fail
 |.nilq b,.nil=>match bS P t with
  |some _=>match op with
   |.eql=>aG (.bool b)
   |.neq=>aG (.bool (!b))
   |_=>.fail
  |none=>.fail
 |.ro d,.nil=>match bS P t with
  |some _=>match op with
   |.eql=>.ret ⟨.c (.bool false),[],some (d.len≠0)⟩
   |.neq=>.ret ⟨.c (.bool true),[],some (d.len≠0)⟩
   |_=>.fail
  |none=>.fail
 |_,_=>.fail
def F3(wr:Bool)(op:UnOp)(cx:SC):Rd Eff :=
 match op,cx with
 |.neg,.int k a=>.ret (g5 wr k (-a))
 |.not,.bool b=>aG (.bool (!b))
 |_,_=>.fail
def ja(P:Program)(t:TypeId):Option IntKind :=
 match P.underlying t with
 |some (.int k)=>some k
 |_=>none
def F4(P:Program)(wr:Bool)(src dst:TypeId)(cx:SC):Rd Eff :=
 match cx with
 |.int _ n=>match P.underlying src with
  |some _=>match ja P dst with
   |some k=>.ret (g5 wr k n)
   |none=>.fail
  |none=>.fail
 |_=>.fail
def F5:FC->Option FC
 |.rows k _=>some (.ints k [])
 |.r3 k _=>some (.rows k [])
 |.r4 k _=>some (.r3 k [])
 |_=>none
def jB:FC->FC->Option FC
 |.rows k l,.rows k' l'=>if k=k' then some (.rows k (l++l'))else none
 |.r3 k l,.r3 k' l'=>if k=k' then some (.r3 k (l++l'))else none
 |.r4 k l,.r4 k' l'=>if k=k' then some (.r4 k (l++l'))else none
 |.p3 k l,.p3 k' l'=>if k=k' then some (.p3 k (l++l'))else none
 |_,_=>none
def gE:List FC->Option FC
 | []=>none
 | [.ints k x]=>some (.rows k [x])
 | [.rows k x]=>some (.r3 k [x])
 | [.r3 k x]=>some (.r4 k [x])
 |.ints k x::l=>match gE l with
  |some (.rows k' ls)=>if k=k' then some (.rows k (x::ls))else none
  |_=>none
 |.rows k x::l=>match gE l with
  |some (.r3 k' ls)=>if k=k' then some (.r3 k (x::ls))else none
  |_=>none
 |.r3 k x::l=>match gE l with
  |some (.r4 k' ls)=>if k=k' then some (.r4 k (x::ls))else none
  |_=>none
 |_=>none
def uT(P:Program):Nat->TypeId->List TypeId
 |0,_=>[]
 |n+1,t=>match bS P t with
  |some e=>e::uT P n e
  |none=>[]
def F6:FC->Nat->Option FC
 |.rows k _,n=>some (.rows k (List.replicate n []))
 |.r3 k _,n=>some (.r3 k (List.replicate n []))
 |.r4 k _,n=>some (.r4 k (List.replicate n []))
 |_,_=>none
def oG:Ob->Option (List TypeId×FC)
 |.ints e k l=>some ([e],.ints k l)
 |.rows _ e ei k l=>some ([e,ei],.rows k l)
 |.tr _ es d=>some (es,d)
 |_=>none
def uU:FC->Option (IntKind×D1)
 |.ints k l=>some (k,l)
 |_=>none
def F7:SC->SC
 |.orig _ _ d=>.ro d
 |c=>c
def uV(P:Program)(t:TypeId)(cx:SC):Rd Eff :=
 match mK P t with
 |none=>.fail
 |some true=>match cG P t with
  |none=>.fail
  |some n=>match cx with
   |.ptr o i=>.h o fun
    |.box cs=>if i+n<=cs.length then .ret ⟨.agg ((cs.drop i).take n),[],none⟩else .fail
    |_=>.fail
   |.rob cs i=>if i+n<=cs.length then .ret ⟨.agg (((cs.drop i).take n).map di),[],none⟩else .fail
   |.rop d i=>match n,d with
    |1,.r3 k l=>.ret ⟨.agg [.ro (.rows k (l.getD i []))],[],none⟩
    |_,_=>.fail
   |_=>.fail
 |some false=>match cx with
  |.ptr o i=>.h o fun
   |.box cs=>match cs[i]? with
    |some c=>aG (F7 c)
    |none=>.fail
   |.ints _ k l=>aG (.int k (l.getD i 0))
   |.bools _ l=>aG (.bool (l.getD i false))
   |.rows ver _ _ _ _=>aG (.row o ver i)
   |.bx _=>.fail
   |.strs _ l=>aG (.str (l.getD i []))
   |.lst _ _ d=>match cQ d i with
    |some x=>aG (.ro x)
    |none=>.fail
   |.frz _=>.fail
   |.mp _=>.fail
   |.qu _ _ _=>.fail
   |.rowsH _ _ _ _ _ _=>.fail
   |.tr _ _ _=>.fail
   |.yd _ _ _ _=>.fail
   |.trk _ _ _ _=>.fail
  |.rptr o ver i j=>.h o fun
   |.rows ver' _ _ k l=>if ver=ver' then aG (.int k ((l.getD i []).getD j 0))else .fail
   |_=>.fail
  |.rop d i=>match d with
   |.ints k l=>aG (.int k (l.getD i 0))
   |.bools l=>aG (.bool (l.getD i false))
   |.rows k l=>aG (.ro (.ints k (l.getD i [])))
   |.r3 k l=>aG (.ro (.rows k (l.getD i [])))
   |.r4 k l=>aG (.ro (.r3 k (l.getD i [])))
   |_=>.fail
  |.rob cs i=>match cs[i]? with
   |some fc=>aG (di fc)
   |none=>.fail
  |.rbb cs=>aG (.rob cs 0)
  |.qptr o i=>.h o fun
   |.qu _ k l=>aG (.int k (l.getD i 0))
   |_=>.fail
  |.kptr o ver p j=>.h o fun
   |.tr ver' _ d=>if ver=ver' then(match i6 d p with
    |some x=>match uU x with
     |some (k,l)=>aG (.int k (l.getD j 0))
     |none=>match cQ x j with
      |some _=>aG (.kid o ver (p++[j]))
      |none=>.fail
    |none=>.fail)else .fail
   |_=>.fail
  |_=>.fail
def F8(P:Program)(d:Nat)(t:TypeId)(cx:SC):Rd Eff :=
 match mK P t with
 |some false=>match cx with
  |.kptr o ver [] j=>.h o fun
   |.tr ver' [_,e,ei] (.r3 k l)=>if ver=ver' then .abs d (.ret ⟨.c (.own d),[(d,some (.rows 0 e ei k (l.getD j []))),(o,none)],none⟩)else .fail
   |.trk ver' [e0,e,ei] (.r3 k l) n=>if ver=ver' then .abs d (.ret ⟨.c (.own d),[(d,some (.rows 0 e ei k (l.getD j []))),(o,some (.trk (ver'+1) [e0,e,ei] (.r3 k l) (n+1)))],some (j=n/\n<l.length)⟩)else .fail
   |_=>.fail
  |_=>.fail
 |_=>.fail
def ed{α:Type}(d:FC)(r:Rd α):Rd α :=
 match d.wid with
 |1=>r
 |_=>.fail
def SC.plain:SC->Bool
 |.any=>false
 |.und=>false
 |_=>true
def F9(P:Program)(t:TypeId)(cx:SC)(sv:SV):Rd Eff :=
 match sv with
 |.c c =>
  if c.plain=true/\cG P t=some 1 then
   match cx with
   |.ptr o i=>.h o fun
    |.box cs=>if i<cs.length then .ret ⟨.c .any,[(o,some (.box (cs.set i c)))],none⟩else .fail
    |.ints e k l=>match c with
     |.int k' n=>if k=k' then .ret ⟨.c .any,[(o,some (.ints e k (l.set i n)))],none⟩else .fail
     |_=>.fail
    |.bools e l=>match c with
     |.bool b=>.ret ⟨.c .any,[(o,some (.bools e (l.set i b)))],none⟩
     |_=>.fail
    |.rows ver e ei k l=>match c with
     |.own o2=>.h o2 fun
      |.ints e2 k2 l2=>if e2=ei/\k2=k/\o2≠o then .ret ⟨.c .any,[(o2,none),(o,some (.rows (ver+1) e ei k (l.set i l2)))],none⟩else .fail
      |_=>.fail
     |.nil=>.ret ⟨.c .any,[(o,some (.rows (ver+1) e ei k (l.set i [])))],none⟩
     |_=>.fail
    |.bx _=>.fail
    |.strs _ _=>.fail
    |.lst ver e d=>match c with
     |.ro x=>match fR d i x with
      |some d'=>.ret ⟨.c .any,[(o,some (.lst ver e d'))],none⟩
      |none=>.fail
     |.nil=>match F5 d with
      |some x=>match fR d i x with
       |some d'=>.ret ⟨.c .any,[(o,some (.lst ver e d'))],none⟩
       |none=>.fail
      |none=>.fail
     |.own o2=>.h o2 fun ob2=>match gb ob2 with
      |some x=>match fR d i x with
       |some d'=>if o2≠o then .ret ⟨.c .any,[(o,some (.lst ver e d')),(o2,some (.frz x))],none⟩else .fail
       |none=>.fail
      |none=>.fail
     |_=>.fail
    |.frz _=>.fail
    |.mp _=>.fail
    |.qu _ _ _=>.fail
    |.rowsH ver e ei k l hs=>match c with
     |.own o2=>.h o2 fun
      |.ints e2 k2 l2=>if e2=ei/\k2=k/\o2≠o then
        (match hs with
        | [h]=>.ret ⟨.c .any,[(o2,none),(o,some (.rows (ver+1) e ei k (l.set i l2)))],some (i=h)⟩
        |h::hs'=>.ret ⟨.c .any,[(o2,none),(o,some (.rowsH (ver+1) e ei k (l.set i l2) hs'))],some (i=h/\¬ h∈hs')⟩
        | []=>.fail)else .fail
      |_=>.fail
     |_=>.fail
    |.tr _ _ _=>.fail
    |.yd _ _ _ _=>.fail
    |.trk _ _ _ _=>.fail
   |.kptr o ver p j=>.h o fun
    |.tr ver' es d=>match c with
     |.int k' n=>if ver=ver' then(match i6 d p with
      |some x=>match uU x with
       |some (k,l)=>if k=k' then(match mJ d p (.ints k (l.set j n))with
        |some d'=>.ret ⟨.c .any,[(o,some (.tr ver' es d'))],none⟩
        |none=>.fail)else .fail
       |none=>.fail
      |none=>.fail)else .fail
     |.own o2=>.h o2 fun ob2=>match oG ob2 with
      |some (es2,y)=>if ver=ver'/\o2≠o/\gC es2 (es.drop (p.length+1))=true then(match i6 d p with
       |some x=>ed x (match fR x j y with
        |some x'=>match mJ d p x' with
         |some d'=>.ret ⟨.c .any,[(o2,none),(o,some (.tr (ver'+1) es d'))],none⟩
         |none=>.fail
        |none=>.fail)
       |none=>.fail)else .fail
      |none=>.fail
     |_=>.fail
    |_=>.fail
   |.rptr o ver i j=>.h o fun
    |.rows ver' e ei k l=>match c with
     |.int k' n=>if ver=ver'/\k=k' then .ret ⟨.c .any,[(o,some (.rows ver' e ei k (l.set i ((l.getD i []).set j n))))],none⟩else .fail
     |_=>.fail
    |_=>.fail
   |_=>.fail
  else .fail
 |.agg cs' =>
  if cG P t=some cs'.length then
   match cx with
   |.ptr o i=>.h o fun
    |.box cs=>if i+cs'.length<=cs.length then .ret ⟨.c .any,[(o,some (.box (cs.take i++cs'++cs.drop (i+cs'.length))))],none⟩else .fail
    |_=>.fail
   |_=>.fail
  else .fail
 |_=>.fail
def iC(P:Program)(t:TypeId):Option (List SC) :=
 match P.info? t with
 |some i=>match i.zero with
  |some z=>ec oF z.cells.toList
  |none=>none
 |none=>none
def Ga(P:Program)(d:Nat)(t:TypeId):Rd Eff :=
 match iC P t with
 |some cs=>.abs d (if cs.isEmpty=false then .ret ⟨.c (.ptr d 0),[(d,some (.box cs))],none⟩else .fail)
 |none=>.fail
def Gb(d:Nat)(sv:SV):Rd Eff :=
 match sv with
 |.c c=>if c.plain then .abs d (.ret ⟨.c (.ptr d 0),[(d,some (.box [c]))],none⟩)else .fail
 |.agg cs=>.abs d (if cs.isEmpty=false then .ret ⟨.c (.ptr d 0),[(d,some (.box cs))],none⟩else .fail)
 |_=>.fail
def jC:SV->Option (List SC)
 |.c c=>if c.plain then some [c]else none
 |.agg l=>some l
 |_=>none
def uW(P:Program)(fs:Array Field):List (Nat×Operand)->List SC->(List SC->Rd Eff)->Rd Eff
 | [],cs,k=>k cs
 |(i,x)::rest,cs,k=>fD x fun sv=>match jC sv with
  |none=>.fail
  |some l=>match fs[i]? with
   |none=>.fail
   |some fd=>if cG P fd.type=some l.length/\fd.offset+l.length<=cs.length then
     uW P fs rest (cs.take fd.offset++l++cs.drop (fd.offset+l.length)) k
    else .fail
def Gc(P:Program)(t:TypeId)(parts:Array (Nat×Operand)):Rd Eff :=
 match iC P t with
 |none=>.fail
 |some cs=>match P.underlying t with
  |some (.struct fs)=>match ec (fun f:Field=>cG P f.type) fs.toList with
   |some _=>uW P fs parts.toList cs fun cs=>.ret ⟨.agg cs,[],none⟩
   |none=>.fail
  |_=>.fail
def iD{α:Type}:List Operand->(List SV->Rd α)->Rd α
 | [],k=>k []
 |x::l,k=>fD x fun sv=>iD l fun svs=>k (sv::svs)
def qf(k:IntKind):List SV->Option D1
 | []=>some []
 |.c (.int k' n)::l=>if k=k' then(match qf k l with|some ns=>some (n::ns)|none=>none)else none
 |_=>none
def qg:List SV->Option (List Bool)
 | []=>some []
 |.c (.bool b)::l=>(match qg l with|some ns=>some (b::ns)|none=>none)
 |_=>none
def qh:List SV->Option (List (List UInt8))
 | []=>some []
 |.c (.str b)::l=>(match qh l with|some ns=>some (b::ns)|none=>none)
 |_=>none
def qi(ei:TypeId)(ki:IntKind):List SV->List Nat->(D2->List Nat->Rd Eff)->Rd Eff
 | [],_,k=>k [] []
 |.c .nil::l,used,k=>qi ei ki l used fun ls os=>k ([]::ls) os
 |.c (.own o)::l,used,k=>.h o fun
  |.ints e k' r=>if e=ei/\k'=ki/\used.all (fun u=>!(Nat.beq u o))then qi ei ki l (o::used) fun ls os=>k (r::ls) (o::os)else .fail
  |_=>.fail
 |_,_,_=>.fail
def uX:List SC->Option D2
 | []=>some []
 |.ro (.ints .i64 l)::cs=>match uX cs with
  |some ls=>some (l::ls)
  |none=>none
 |_=>none
def mL(hint:Bool):List SV->(Option (List FC×List (Nat×Option Ob))->Rd Eff)->Rd Eff
 | [],K=>K (some ([],[]))
 |.c (.ro d)::l,K=>mL hint l fun
  |some (ds,fs)=>K (some (d::ds,fs))
  |none=>K none
 |.c (.own o)::l,K=>.h o fun ob=>match ob with
  |.frz d=>mL hint l fun
   |some (ds,fs)=>K (some (d::ds,fs))
   |none=>K none
  |ob=>match hint with
   |true=>match gb ob with
    |some d=>mL hint l fun
     |some (ds,fs)=>K (some (d::ds,(o,some (.frz d))::fs))
     |none=>K none
    |none=>K none
   |false=>K none
 |_,K=>K none
def Ow(P:Program)(e:TypeId):Option IntKind :=
 match P.underlying e with
 |some (.struct fs)=>match fs.toList with
  | [f,g]=>match P.underlying f.type,P.underlying g.type with
   |some (.slice e1),some (.slice e2)=>match P.underlying e1,P.underlying e2 with
    |some (.slice a),some (.slice b)=>match ja P a,ja P b with
     |some k,some k'=>if k=k'/\f.offset=0/\g.offset=1 then some k else none
     |_,_=>none
    |_,_=>none
   |_,_=>none
  |_=>none
 |_=>none
def g6(P:Program)(t:TypeId):Option FC :=
 match P.underlying t with
 |some (.slice e)=>match P.underlying e with
  |some (.int k)=>some (.ints k [])
  |some .bool=>some (.bools [])
  |some (.slice e2)=>match P.underlying e2 with
   |some (.int k)=>some (.rows k [])
   |some (.slice e3)=>match P.underlying e3 with
    |some (.int k)=>some (.r3 k [])
    |some (.slice e4)=>match ja P e4 with
     |some k=>some (.r4 k [])
     |none=>none
    |_=>none
   |_=>none
  |some (.struct _)=>match Ow P e with
   |some k=>some (.p3 k [])
   |none=>none
  |_=>none
 |_=>none
def Gd(P:Program)(hint:Bool)(d:Nat)(t:TypeId)(len:Nat)(parts:Array (Nat×Operand)):Rd Eff :=
 if(parts.toList.map (·.1))=List.range len/\len<=1000 then
  match bS P t with
  |none=>.fail
  |some e=>match Ow P e with
   |none=>.fail
   |some k=>if cG P e=some 2/\(iC P e).isSome=true then
     iD (parts.toList.map (·.2)) fun svs=>match svs with
     | []=>.abs d (.ret ⟨.c (.own d),[(d,some (.lst 0 e (.p3 k [])))],none⟩)
     | [.agg [c1,c2]]=>mL hint [.c c1,.c c2] fun pr=>match pr with
      |some ([.rows k1 x,.rows k2 y],fs)=>if k1=k/\k2=k then .abs d (.ret ⟨.c (.own d),(d,some (.lst 0 e (.p3 k [(x,y)])))::fs,none⟩)else .fail
      |_=>match c1,c2 with
       |.own o1,.own o2=>.h o1 fun ob1=>.h o2 fun ob2=>match ob1,ob2 with
        |.rows _ e1 ei1 k1 x,.rows _ e2 ei2 k2 y=>if e1=e2/\ei1=ei2/\k1=k/\k2=k/\o1≠o2 then
          .abs d (.ret ⟨.c (.own d),[(d,some (.tr 0 [e,e1,ei1] (.p3 k [(x,y)]))),(o1,none),(o2,none)],none⟩)else .fail
        |_,_=>.fail
       |_,_=>.fail
     |_=>.fail
    else .fail
 else .fail
def Ge(P:Program)(d:Nat)(t:TypeId)(len:Nat)(parts:Array (Nat×Operand)):Rd Eff :=
 if(parts.toList.map (·.1))=List.range len/\len<=1000 then
  match bS P t with
  |none=>.fail
  |some e=>if cG P e=some 1/\(iC P e).isSome=true then
    iD (parts.toList.map (·.2)) fun svs=>match svs with
    | [.agg [.own o2]]=>.h o2 fun
     |.rows _ e2 ei2 k2 y=>.abs d (.ret ⟨.c (.own d),[(d,some (.tr 0 [e,e2,ei2] (.r3 k2 [y]))),(o2,none)],none⟩)
     |_=>.fail
    |_=>.fail
   else .fail
 else .fail
def Gf(P:Program)(hint:Bool)(d:Nat)(t:TypeId)(len:Nat)(parts:Array (Nat×Operand)):Rd Eff :=
 if(parts.toList.map (·.1))=List.range len/\len<=1000 then
  match bS P t with
  |none=>.fail
  |some e=>if cG P e=some 1/\(iC P e).isSome=true then
    match P.underlying e with
    |some (.int k)=>iD (parts.toList.map (·.2)) fun svs=>match qf k svs with
     |some l=>.abs d (.ret ⟨.c (.own d),[(d,some (.ints e k l))],none⟩)
     |none=>.fail
    |some .bool=>iD (parts.toList.map (·.2)) fun svs=>match qg svs with
     |some l=>.abs d (.ret ⟨.c (.own d),[(d,some (.bools e l))],none⟩)
     |none=>.fail
    |some .string=>iD (parts.toList.map (·.2)) fun svs=>match qh svs with
     |some l=>.abs d (.ret ⟨.c (.own d),[(d,some (.strs e l))],none⟩)
     |none=>.fail
    |some (.slice ei)=>iD (parts.toList.map (·.2)) fun svs=>mL hint svs fun pr=>match pr with
     |some (x::xs,fs)=>match gE (x::xs)with
      |some dd=>.abs d (.ret ⟨.c (.own d),(d,some (.lst 0 e dd))::fs,none⟩)
      |none=>.fail
     |_=>match ja P ei with
      |some ki=>qi ei ki svs [] fun ls os =>
        .abs d (.ret ⟨.c (.own d),(d,some (.rows 0 e ei ki ls))::os.map (fun o=>(o,none)),none⟩)
      |none=>match svs with
       | []=>match g6 P t with
        |some dd=>ed dd (.abs d (.ret ⟨.c (.own d),[(d,some (.lst 0 e dd))],none⟩))
        |none=>.fail
       |_=>.fail
    |_=>.fail
   else .fail
 else .fail
def Gg(P:Program)(d:Nat)(t:TypeId)(len:Nat)(parts:Array (Nat×Operand)):Rd Eff :=
 if(parts.toList.map (·.1))=List.range len/\len<=1000 then
  match bS P t with
  |none=>.fail
  |some e=>if cG P e=some 1/\(iC P e).isSome=true then
    match g6 P t with
    |none=>.fail
    |some d0=>iD (parts.toList.map (·.2)) fun svs=>match svs with
     | []=>match uT P 4 t with
      |e1::e2::es=>if e1=e/\d0.dep=es.length+1 then ed d0 (.abs d (.ret ⟨.c (.own d),[(d,some (.tr 0 (e1::e2::es) d0))],none⟩))else .fail
      |_=>.fail
     | [.c (.own o2)]=>.h o2 fun ob2=>match oG ob2 with
      |some (es2,y)=>match gE [y]with
       |some dd=>.abs d (.ret ⟨.c (.own d),[(d,some (.tr 0 (e::es2) dd)),(o2,none)],none⟩)
       |none=>.fail
      |none=>.fail
     | [.c (.own o1),.c (.own o2)]=>.h o1 fun ob1=>.h o2 fun ob2=>match oG ob1 with
      |some (es1,y1)=>match oG ob2 with
       |some (es2,y2)=>match gE [y1,y2]with
        |some dd=>match gC es1 es2&&!Nat.beq o1 o2 with
         |true=>.abs d (.ret ⟨.c (.own d),[(d,some (.tr 0 (e::es1) dd)),(o1,none),(o2,none)],none⟩)
         |false=>.fail
        |none=>.fail
       |none=>.fail
      |none=>.fail
     |_=>.fail
   else .fail
 else .fail
def Gh(P:Program)(s:TypeId)(cx:SC)(f:Nat):Rd Eff :=
 match P.underlying s with
 |some (.struct fs)=>match fs[f]? with
  |none=>.fail
  |some fd=>match cG P fd.type with
   |some (_+1)=>match cx with
    |.ptr o i=>.h o fun
     |.box cs=>if i+fd.offset<cs.length then aG (.ptr o (i+fd.offset))else .fail
     |_=>.fail
    |.rob cs i=>aG (.rob cs (i+fd.offset))
    |.kptr o ver p j=>.h o fun
     |.tr ver' _ d=>match p with
      | []=>if ver=ver' then(match fd.offset with
       |0=>.ret ⟨.c (.kptr o ver [] j),[],some (j<d.cn)⟩
       |1=>.ret ⟨.c (.kptr o ver [] (j+1)),[],some (j+1<d.cn)⟩
       |_=>.fail)else .fail
      |_::_=>.fail
     |_=>.fail
    |_=>.fail
   |_=>.fail
 |_=>.fail
def Gi(P:Program)(s:TypeId)(sv:SV)(f:Nat):Rd Eff :=
 match P.underlying s with
 |some (.struct fs)=>match fs[f]? with
  |none=>.fail
  |some fd=>match sv with
   |.agg cs=>match mK P fd.type with
    |some true=>match cG P fd.type with
     |some n=>if fd.offset+n<=cs.length then .ret ⟨.agg ((cs.drop fd.offset).take n),[],none⟩else .fail
     |none=>.fail
    |some false=>match cs[fd.offset]? with
     |some c=>aG c
     |none=>.fail
    |none=>.fail
   |_=>.fail
 |_=>.fail
def ac(n:Int)(len:Nat):Prop:=0<=n/\n<(len:Int)
def Gj(P:Program)(t:TypeId)(cx ci:SC):Rd Eff :=
 match bS P t with
 |none=>.fail
 |some e=>if cG P e=some 1 then
   match ci with
   |.int _ n=>match cx with
    |.own o=>.h o fun ob=>match ob with
     |.box _=>.fail
     |.bx _=>.fail
     |.strs _ l=>.ret ⟨.c (.ptr o n.toNat),[],some (ac n l.length)⟩
     |.ints _ _ l=>.ret ⟨.c (.ptr o n.toNat),[],some (ac n l.length)⟩
     |.bools _ l=>.ret ⟨.c (.ptr o n.toNat),[],some (ac n l.length)⟩
     |.rows _ _ _ _ l=>.ret ⟨.c (.ptr o n.toNat),[],some (ac n l.length)⟩
     |.lst _ _ d=>ed d (.ret ⟨.c (.ptr o n.toNat),[],some (ac n d.len)⟩)
     |.frz _=>.fail
     |.mp _=>.fail
     |.qu _ _ l=>.ret ⟨.c (.qptr o n.toNat),[],some (ac n l.length)⟩
     |.rowsH _ _ _ _ l _=>.ret ⟨.c (.ptr o n.toNat),[],some (ac n l.length)⟩
     |.tr ver _ d=>ed d (.ret ⟨.c (.kptr o ver [] n.toNat),[],some (ac n d.len)⟩)
     |.yd _ _ _ _=>.fail
     |.trk ver _ d _=>ed d (.ret ⟨.c (.kptr o ver [] n.toNat),[],some (ac n d.len)⟩)
    |.kid o ver p=>.h o fun
     |.tr ver' _ d=>if ver=ver' then(match i6 d p with
      |some x=>ed x (.ret ⟨.c (.kptr o ver p n.toNat),[],some (ac n x.len)⟩)
      |none=>.fail)else .fail
     |_=>.fail
    |.pre o len=>.h o fun ob=>kq ob (.ret ⟨.c (.ptr o n.toNat),[],some (ac n len)⟩)
    |.sub o off len=>.h o fun ob=>kq ob (.ret ⟨.c (.ptr o (off+n.toNat)),[],some (ac n len)⟩)
    |.row o ver i=>.h o fun
     |.rows ver' _ _ _ l=>if ver=ver' then .ret ⟨.c (.rptr o ver i n.toNat),[],some (ac n (l.getD i []).length)⟩else .fail
     |_=>.fail
    |.ro d=>match d with
     |.ints k l=>.ret ⟨.c (.rop (.ints k l) n.toNat),[],some (ac n l.length)⟩
     |.bools l=>.ret ⟨.c (.rop (.bools l) n.toNat),[],some (ac n l.length)⟩
     |.rows k l=>.ret ⟨.c (.rop (.rows k l) n.toNat),[],some (ac n l.length)⟩
     |.r3 k l=>.ret ⟨.c (.rop (.r3 k l) n.toNat),[],some (ac n l.length)⟩
     |.r4 k l=>.ret ⟨.c (.rop (.r4 k l) n.toNat),[],some (ac n l.length)⟩
     |_=>.fail
    |_=>.fail
   |_=>.fail
  else if cG P e=some 2 then
   match ci with
   |.int _ n=>match cx with
    |.own o=>.h o fun
     |.tr ver _ (.p3 k l)=>.ret ⟨.c (.kptr o ver [] (n.toNat*2)),[],some (ac n (FC.p3 k l).len)⟩
     |_=>.fail
    |.ro (.p3 k l)=>.ret ⟨.c (.rob [.rows k (l.getD n.toNat ([],[])).1,.rows k (l.getD n.toNat ([],[])).2] 0),[],some (ac n l.length)⟩
    |_=>.fail
   |_=>.fail
  else .fail
def uY(cx:SC):Rd Eff :=
 match cx with
 |.nil=>aG (.int .i64 0)
 |.str l=>aG (.int .i64 (l.length:Int))
 |.own o=>.h o fun ob=>match ob with
  |.box _=>.fail
  |.bx _=>.fail
  |.strs _ l=>aG (.int .i64 (l.length:Int))
  |.ints _ _ l=>aG (.int .i64 (l.length:Int))
  |.bools _ l=>aG (.int .i64 (l.length:Int))
  |.rows _ _ _ _ l=>aG (.int .i64 (l.length:Int))
  |.lst _ _ d=>aG (.int .i64 (d.len:Int))
  |.frz _=>.fail
  |.mp _=>.fail
  |.qu _ _ l=>aG (.int .i64 (l.length:Int))
  |.rowsH _ _ _ _ l _=>aG (.int .i64 (l.length:Int))
  |.tr _ _ d=>aG (.int .i64 (d.len:Int))
  |.yd _ _ _ _=>.fail
  |.trk _ _ d _=>aG (.int .i64 (d.len:Int))
 |.kid o ver p=>.h o fun
  |.tr ver' _ d=>if ver=ver' then(match i6 d p with
   |some x=>aG (.int .i64 (x.len:Int))
   |none=>.fail)else .fail
  |_=>.fail
 |.pre o n=>.h o fun ob=>kq ob (aG (.int .i64 (n:Int)))
 |.sub o _ n=>.h o fun ob=>kq ob (aG (.int .i64 (n:Int)))
 |.row o ver i=>.h o fun
  |.rows ver' _ _ _ l=>if ver=ver' then aG (.int .i64 ((l.getD i []).length:Int))else .fail
  |_=>.fail
 |.ro d=>match d with
  |.ints _ l=>aG (.int .i64 (l.length:Int))
  |.bools l=>aG (.int .i64 (l.length:Int))
  |.rows _ l=>aG (.int .i64 (l.length:Int))
  |.r3 _ l=>aG (.int .i64 (l.length:Int))
  |.r4 _ l=>aG (.int .i64 (l.length:Int))
  |.p3 _ l=>aG (.int .i64 (l.length:Int))
  |_=>.fail
 |_=>.fail
def lq{α:Type}(x:Option Operand)(k:Option Int->Rd α):Rd α :=
 match x with
 |none=>k none
 |some y=>cL y fun
  |.int _ n=>k (some n)
  |_=>.fail
def bM(L:Nat):Option Int->Option Int->Prop
 |none,none=>True
 |none,some h=>0<=h/\h<=(L:Int)
 |some l,none=>0<=l/\l<=(L:Int)
 |some l,some h=>0<=l/\l<=h/\h<=(L:Int)
def dF{α:Type}(r:List α):Option Int->Option Int->List α
 |none,none=>r
 |none,some h=>r.take h.toNat
 |some l,none=>r.drop l.toNat
 |some l,some h=>(r.take h.toNat).drop l.toNat
def lu(o L:Nat):Option Int->Option Int->SC
 |none,none=>.pre o L
 |none,some h=>.pre o h.toNat
 |some l,none=>.sub o l.toNat (L-l.toNat)
 |some l,some h=>.sub o l.toNat (h.toNat-l.toNat)
def Ox(o off L:Nat):Option Int->Option Int->SC
 |none,none=>.sub o off L
 |none,some h=>.sub o off h.toNat
 |some l,none=>.sub o (off+l.toNat) (L-l.toNat)
 |some l,some h=>.sub o (off+l.toNat) (h.toNat-l.toNat)
def qj(P:Program)(t:TypeId)(cx:SC)(lo hi:Option Operand):Rd Eff :=
 match cx with
 |.str r=>match P.underlying t with
  |some .string=>lq lo fun l=>lq hi fun h=>.ret ⟨.c (.str (dF r l h)),[],some (bM r.length l h)⟩
  |_=>.fail
 |cx=>match bS P t with
  |none=>.fail
  |some e=>if cG P e=some 1 then
    lq lo fun l=>lq hi fun h=>match cx with
     |.own o=>.h o fun
      |.box _=>.fail
      |.bx _=>.fail
      |.strs _ _=>.fail
      |.ints _ _ r=>.ret ⟨.c (lu o r.length l h),[],some (bM r.length l h)⟩
      |.bools _ r=>.ret ⟨.c (lu o r.length l h),[],some (bM r.length l h)⟩
      |.rows _ _ _ _ r=>.ret ⟨.c (lu o r.length l h),[],some (bM r.length l h)⟩
      |.lst _ _ d=>ed d (.ret ⟨.c (lu o d.len l h),[],some (bM d.len l h)⟩)
      |.frz _=>.fail
      |.mp _=>.fail
      |.qu _ _ _=>.fail
      |.rowsH _ _ _ _ _ _=>.fail
      |.tr _ _ _=>.fail
      |.yd _ _ _ _=>.fail
      |.trk _ _ _ _=>.fail
     |.pre o L=>.h o fun ob=>kq ob (.ret ⟨.c (lu o L l h),[],some (bM L l h)⟩)
     |.sub o off L=>.h o fun ob=>kq ob (.ret ⟨.c (Ox o off L l h),[],some (bM L l h)⟩)
     |.ro d=>match d with
      |.ints k r=>.ret ⟨.c (.ro (.ints k (dF r l h))),[],some (bM r.length l h)⟩
      |.bools r=>.ret ⟨.c (.ro (.bools (dF r l h))),[],some (bM r.length l h)⟩
      |.rows k r=>.ret ⟨.c (.ro (.rows k (dF r l h))),[],some (bM r.length l h)⟩
      |.r3 k r=>.ret ⟨.c (.ro (.r3 k (dF r l h))),[],some (bM r.length l h)⟩
      |.r4 k r=>.ret ⟨.c (.ro (.r4 k (dF r l h))),[],some (bM r.length l h)⟩
      |_=>.fail
     |_=>.fail
   else .fail
def uZ(P:Program)(d:Nat)(t:TypeId)(cx:SC)(lo hi:Option Operand):Rd Eff :=
 match cx with
 |.own o=>.h o fun
  |.qu e k l=>match bS P t,hi with
   |some e',none=>if cG P e'=some 1 then
     lq lo fun
      |some n=>.abs d (.ret ⟨.c (.own d),[(d,some (.qu e k (l.drop n.toNat))),(o,none)],some (0<=n/\n<=(l.length:Int))⟩)
      |none=>.fail
    else .fail
   |_,_=>.fail
  |_=>qj P t (.own o) lo hi
 |cx=>qj P t cx lo hi
def va(h:Int):Ob->Option (Nat×Ob)
 |.ints e k r=>some (r.length,.ints e k (r.take h.toNat))
 |.lst _ e d=>match d with
  |.rows k r=>some (r.length,.lst 0 e (.rows k (r.take h.toNat)))
  |_=>none
 |_=>none
def Gk(P:Program)(d:Nat)(t:TypeId)(cx:SC)(lo hi:Option Operand):Rd Eff :=
 match cx,lo with
 |.own o,none=>.h o fun ob=>match bS P t with
  |some e=>if cG P e=some 1 then lq hi fun
    |some n=>match va n ob with
     |some (L,ob')=>.abs d (.ret ⟨.c (.own d),[(d,some ob'),(o,none)],some (0<=n/\n<=(L:Int))⟩)
     |none=>.fail
    |none=>.fail
   else .fail
  |none=>.fail
 |_,_=>.fail
def jb(P:Program)(e:TypeId):Bool :=
 match P.info? e with
 |some i=>Nat.ble i.bytes 128&&Nat.beq i.size 1&&(match i.zero with|some z=>Nat.beq z.cells.size 1|none=>false)
 |none=>false
def Gl(P:Program)(e:TypeId):Bool :=
 match P.info? e with
 |some i=>Nat.ble i.bytes 128&&Nat.beq i.size 2&&(match i.zero with|some z=>Nat.beq z.cells.size 2|none=>false)
 |none=>false
def oH(P:Program)(e:TypeId)(c:SC):Bool :=
 match P.info? e with
 |some i=>match i.zero with
  |some (.int k n)=>match c with
   |.int k' n'=>decide (k=k'/\n=n')
   |_=>false
  |some (.bool b)=>match c with
   |.bool b'=>b == b'
   |_=>false
  |some (.slice none 0 0)=>match c with
   |.nil=>true
   |_=>false
  |_=>false
 |none=>false
def Gm(P:Program)(d:Nat)(t:TypeId)(cl cc:SC):Rd Eff :=
 match bS P t with
 |none=>.fail
 |some e=>if jb P e then
   match cl,cc with
   |.int _ n,.int _ m=>match P.underlying e with
    |some (.int k)=>if oH P e (.int k 0)then .abs d (.ret ⟨.c (.own d),[(d,some (.ints e k (List.replicate n.toNat 0)))],some (0<=n/\n<=m/\am m.toNat)⟩)else .fail
    |some .bool=>if oH P e (.bool false)then .abs d (.ret ⟨.c (.own d),[(d,some (.bools e (List.replicate n.toNat false)))],some (0<=n/\n<=m/\am m.toNat)⟩)else .fail
    |some (.slice ei)=>match ja P ei with
     |some k=>if oH P e .nil then .abs d (.ret ⟨.c (.own d),[(d,some (.rows 0 e ei k (List.replicate n.toNat [])))],some (0<=n/\n<=m/\am m.toNat)⟩)else .fail
     |none=>match g6 P t with
      |some d0=>match F6 d0 n.toNat,uT P 4 t with
       |some dd,e1::e2::es=>if oH P e .nil=true/\e1=e/\d0.dep=es.length+1 then .abs d (.ret ⟨.c (.own d),[(d,some (.tr 0 (e1::e2::es) dd))],some (0<=n/\n<=m/\am m.toNat)⟩)else .fail
       |_,_=>.fail
      |none=>.fail
    |_=>.fail
   |_,_=>.fail
  else .fail
def qk(k:IntKind)(c:SC)(K:D1->Rd Eff):Rd Eff :=
 match c with
 |.nil=>K []
 |.own o=>.h o fun
  |.ints _ k' l=>if k'=k then K l else .fail
  |_=>.fail
 |.pre o n=>.h o fun
  |.ints _ k' l=>if k'=k then K (l.take n)else .fail
  |_=>.fail
 |.sub o off n=>.h o fun
  |.ints _ k' l=>if k'=k then K ((l.drop off).take n)else .fail
  |_=>.fail
 |.row o ver i=>.h o fun
  |.rows ver' _ _ k' l=>if k'=k/\ver=ver' then K (l.getD i [])else .fail
  |_=>.fail
 |.ro d=>match d with
  |.ints k' l=>if k'=k then K l else .fail
  |_=>.fail
 |_=>.fail
def vd(c:SC)(K:List Bool->Rd Eff):Rd Eff :=
 match c with
 |.nil=>K []
 |.own o=>.h o fun
  |.bools _ l=>K l
  |_=>.fail
 |.ro d=>match d with
  |.bools l=>K l
  |_=>.fail
 |_=>.fail
def Gn(c:SC)(K:List (List UInt8)->Rd Eff):Rd Eff :=
 match c with
 |.own o=>.h o fun
  |.strs _ l=>K l
  |_=>.fail
 |_=>.fail
def Gp(c:SC)(K:FC->List (Nat×Option Ob)->Rd Eff):Rd Eff :=
 match c with
 |.ro d=>K d []
 |.own o=>.h o fun
  |.lst _ _ d=>K d []
  |.rows _ _ _ k l=>K (.rows k l) [(o,some (.frz (.rows k l)))]
  |_=>.fail
 |.pre o n=>.h o fun
  |.lst _ _ d=>match cg 0 n d with
   |some d'=>K d' []
   |none=>.fail
  |_=>.fail
 |.sub o off n=>.h o fun
  |.lst _ _ d=>match cg off n d with
   |some d'=>K d' []
   |none=>.fail
  |_=>.fail
 |_=>.fail
def oI(o:Nat):List (Nat×Option Ob)->Bool
 | []=>true
 |(o',_)::l=>!(Nat.beq o' o)&&oI o l
def lv(wd d:Nat)(e:TypeId)(cx cy:SC):Rd Eff :=
 Gp cy fun dy fy=>match cx with
  |.nil=>if dn dy=false/\dy.wid=wd then .abs d (.ret ⟨.c (.own d),(d,some (.lst 0 e dy))::fy,some (am dy.len)⟩)else .fail
  |.own o=>.h o fun
   |.lst _ e1 dx=>match jB dx dy with
    |some dd=>if e1=e/\oI o fy=true/\dy.wid=wd then .abs d (.ret ⟨.c (.own d),(d,some (.lst 0 e dd))::(o,none)::fy,some (am (dx.len+dy.len))⟩)else .fail
    |none=>.fail
   |.rows _ e1 _ k l=>match jB (.rows k l) dy with
    |some dd=>if e1=e/\oI o fy=true/\dy.wid=wd then .abs d (.ret ⟨.c (.own d),(d,some (.lst 0 e dd))::(o,none)::fy,some (am (l.length+dy.len))⟩)else .fail
    |none=>.fail
   |_=>.fail
  |.pre o n=>.h o fun
   |.lst _ e1 dx=>match cg 0 n dx with
    |some dx'=>match jB dx' dy with
     |some dd=>if e1=e/\oI o fy=true/\dy.wid=wd then .abs d (.ret ⟨.c (.own d),(d,some (.lst 0 e dd))::(o,none)::fy,some (am (n+dy.len))⟩)else .fail
     |none=>.fail
    |none=>.fail
   |_=>.fail
  |_=>.fail
def ql(wd d:Nat)(e:TypeId)(cx:SC)(o2:Nat)(es2:List TypeId)(dy:FC):Rd Eff :=
 match cx with
 |.own o=>.h o fun
  |.tr _ es dx=>match jB dx dy with
   |some dd=>if gC es es2=true/\es.head?=some e/\o≠o2/\dy.wid=wd then .abs d (.ret ⟨.c (.own d),[(d,some (.tr 0 es dd)),(o,none),(o2,none)],some (am (dx.len+dy.len))⟩)else .fail
   |none=>.fail
  |_=>.fail
 |_=>.fail
def jD(id o ver:Nat)(e ei:TypeId)(k:IntKind)(l:D2)(hs:List Nat)(i:Nat):List (Nat×Option Ob) :=
 [(id,some (.ints ei k (l.getD i []))),(o,some (.rowsH ver e ei k l hs))]
def Gq(P:Program)(d:Nat)(t:TypeId)(cx cy:SC):Rd Eff :=
 match bS P t with
 |none=>.fail
 |some e=>if jb P e then
   match P.underlying e with
   |some (.int k)=>qk k cy fun ys=>match cx with
    |.nil=>.abs d (.ret ⟨.c (.own d),[(d,some (.ints e k ys))],some (am ys.length)⟩)
    |.emp=>.abs d (.ret ⟨.c (.own d),[(d,some (.ints e k ys))],some (ys.length≠0/\am ys.length)⟩)
    |.own o=>.h o fun
     |.ints e' k' l=>if e'=e/\k'=k then .abs d (.ret ⟨.c (.own d),[(d,some (.ints e k (l++ys))),(o,none)],some (am (l.length+ys.length))⟩)else .fail
     |.qu e' k' l=>if e'=e/\k'=k then .abs d (.ret ⟨.c (.own d),[(d,some (.qu e k (l++ys))),(o,none)],some (ys.length≠0/\am (l.length+ys.length))⟩)else .fail
     |_=>.fail
    |.pre o n=>.h o fun
     |.ints e' k' l=>if e'=e/\k'=k then .abs d (.ret ⟨.c (.own d),[(d,some (.ints e k (l.take n++ys))),(o,none)],some (am (n+ys.length))⟩)else .fail
     |_=>.fail
    |.row o ver i=>.h o fun
     |.rows ver' e1 ei k' l=>if ver'=ver/\ei=e/\k'=k then .abs d (.abs (d+500000) (.ret ⟨.c (.own d),[(d,some (.ints e k (l.getD i []++ys))),(d+500000,none)]++jD (d+500000) o (ver+1) e1 ei k l [i] i,some (am ((l.getD i []).length+ys.length))⟩))else .fail
     |_=>.fail
    |_=>.fail
   |some .bool=>vd cy fun ys=>match cx with
    |.nil=>.abs d (.ret ⟨.c (.own d),[(d,some (.bools e ys))],some (am ys.length)⟩)
    |.own o=>.h o fun
     |.bools e' l=>if e'=e then .abs d (.ret ⟨.c (.own d),[(d,some (.bools e (l++ys))),(o,none)],some (am (l.length+ys.length))⟩)else .fail
     |_=>.fail
    |_=>.fail
   |some .string=>Gn cy fun ys=>match cx with
    |.own o=>.h o fun
     |.strs e' l=>if e'=e then .abs d (.ret ⟨.c (.own d),[(d,some (.strs e (l++ys))),(o,none)],some (am (l.length+ys.length))⟩)else .fail
     |_=>.fail
    |_=>.fail
   |some (.slice _)=>match cy with
    |.own o2=>.h o2 fun
     |.rows _ e2 ei2 k2 ys=>if e2=e then
       match cx with
       |.nil=>.abs d (.ret ⟨.c (.own d),[(d,some (.rows 0 e ei2 k2 ys)),(o2,none)],some (am ys.length)⟩)
       |.own o=>.h o fun
        |.rows _ e1 ei1 k1 l=>if e1=e/\ei1=ei2/\k1=k2/\o≠o2 then
          .abs d (.ret ⟨.c (.own d),[(d,some (.rows 0 e ei2 k2 (l++ys))),(o,none),(o2,none)],some (am (l.length+ys.length))⟩)else .fail
        |_=>lv 1 d e cx cy
       |_=>lv 1 d e cx cy
      else .fail
     |.tr _ es2 dy=>ql 1 d e cx o2 es2 dy
     |_=>lv 1 d e cx cy
    |_=>lv 1 d e cx cy
   |some (.struct _)=>match cy with
    |.own o2=>.h o2 fun
     |.tr _ es2 dy=>ql 1 d e cx o2 es2 dy
     |_=>.fail
    |_=>.fail
   |_=>.fail
  else match Gl P e with
   |false=>.fail
   |true=>match cy with
    |.own o2=>.h o2 fun
     |.tr _ es2 dy=>ql 2 d e cx o2 es2 dy
     |_=>lv 2 d e cx cy
    |_=>lv 2 d e cx cy
def Gr(P:Program)(d:Nat)(t:TypeId)(cx cy:SC):Rd Eff:=.fail
def Gs(sv:SV)(i:Nat):Rd Eff :=
 match sv with
 |.tup l=>match l[i]? with
  |some (.inl c)=>aG c
  |some (.inr cs)=>.ret ⟨.agg cs,[],none⟩
  |none=>.fail
 |_=>.fail
def Gt(P:Program)(t:TypeId)(cx ci:SC):Rd Eff:=.fail
def cA(o:Nat):List Nat->Bool
 | []=>true
 |x::l=>match Nat.beq x o with
  |true=>false
  |false=>cA o l
def memP(i j:Nat):List (Nat×Nat)->Bool
 | []=>false
 |(a,b)::l=>(Nat.beq a i&&Nat.beq b j)||memP i j l
def ef{α:Type}(hid:List Nat)(o:Nat)(K:Ob->Rd α):Rd α :=
 match cA o hid with
 |true=>.h o K
 |false=>.fail
def kr{α:Type}(hid:List Nat)(nl:Option FC)(c:SC)(K:FC->Rd α):Rd α :=
 match c with
 |.int k n=>K (.int k n)
 |.bool b=>K (.bool b)
 |.str l=>K (.str l)
 |.nil=>match nl with
  |some d=>K d
  |none=>.fail
 |.own o=>ef hid o fun ob=>match ob with
  |.frz d=>K d
  |ob=>match fC ob with
   |some d=>K d
   |none=>.fail
 |.pre o n=>ef hid o fun ob=>match fC ob with
  |some d=>match cg 0 n d with
   |some d=>K d
   |none=>.fail
  |none=>.fail
 |.sub o off n=>ef hid o fun ob=>match fC ob with
  |some d=>match cg off n d with
   |some d=>K d
   |none=>.fail
  |none=>.fail
 |.row o ver i=>ef hid o fun
  |.rows ver' _ _ k l=>if ver=ver' then K (.ints k (l.getD i []))else .fail
  |_=>.fail
 |.kid o ver p=>ef hid o fun
  |.tr ver' _ d=>if ver=ver' then(match i6 d p with
   |some x=>K x
   |none=>.fail)else .fail
  |_=>.fail
 |.ro d=>K d
 |.orig _ _ d=>K d
 |.bsl o _=>ef hid o fun
  |.box cs=>match uX cs with
   |some ls=>K (.rows .i64 ls)
   |none=>.fail
  |_=>.fail
 |_=>.fail
def Gu{α:Type}(c:SC)(K:FC->Rd α):Rd α :=
 match c with
 |.own o=>.h o fun ob=>match fC ob with
  |some d=>K d
  |none=>.fail
 |_=>.fail
def oJ{α:Type}(hid:List Nat)(mt:List (Nat×Nat))(i j:Nat)(nl:Option FC)(c:SC)(K:FC->Rd α):Rd α :=
 match memP i j mt with
 |true=>Gu c K
 |false=>kr hid nl c K
def qm(P:Program)(t:TypeId):List TypeId :=
 match P.underlying t with
 |some (.struct fs)=>fs.toList.flatMap fun f=>match P.underlying f.type with
  |some (.struct gs)=>gs.toList.map (·.type)
  |_=>[f.type]
 |_=>[t]
def Oy(P:Program):List TypeId->Option FC
 |t::_=>g6 P t
 | []=>none
def jE{α:Type}(P:Program)(hid:List Nat)(mt:List (Nat×Nat))(i:Nat):Nat->List SC->List TypeId->(List FC->Rd α)->Rd α
 |_,[],_,K=>K []
 |j,c::cs,ts,K=>oJ hid mt i j (Oy P ts) c fun d=>jE P hid mt i (j+1) cs ts.tail fun ds=>K (d::ds)
def Gv(P:Program)(t:TypeId):TypeId :=
 match P.underlying t with
 |some (.pointer e)=>e
 |_=>t
def oK(ct:Option Post):Bool:=match ct with
 |some ⟨_,.c (.bool b),[]⟩=>b
 |_=>false
def mM(ct:Option Post):Prop:=match ct with
 |some ⟨p,.c (.bool _),[]⟩=>p
 |_=>False
def lw(ct:Option Post):Int:=match ct with
 |some ⟨_,.c (.int .i64 n),[]⟩=>n
 |_=>0
def lz(ct:Option Post):Prop:=match ct with
 |some ⟨p,.c (.int .i64 _),[]⟩=>p
 |_=>False
def Oz(P:Program)(t:TypeId):Nat :=
 match P.underlying t with
 |some (.int .i64)=>1
 |some (.slice e)=>match P.underlying e with
  |some (.slice _)=>4
  |_=>2
 |some .bool=>3
 |_=>0
def Gw(ps rs:List Nat)(ct:List AD->Option Post)(cds:List AD):Option FV :=
 match ps,rs with
 | [1],[3]=>some (.ib (fun x=>mM (ct (.c (.int .i64 x)::cds))) (fun x=>oK (ct (.c (.int .i64 x)::cds))))
 | [2],[3]=>some (.lb (fun x=>mM (ct (.c (.ints .i64 x)::cds))) (fun x=>oK (ct (.c (.ints .i64 x)::cds))))
 | [1,1],[1]=>some (.iii (fun x y=>lz (ct (.c (.int .i64 x)::.c (.int .i64 y)::cds))) (fun x y=>lw (ct (.c (.int .i64 x)::.c (.int .i64 y)::cds))))
 | [1,1],[3]=>some (.iib (fun x y=>mM (ct (.c (.int .i64 x)::.c (.int .i64 y)::cds))) (fun x y=>oK (ct (.c (.int .i64 x)::.c (.int .i64 y)::cds))))
 | [2,2],[1]=>some (.lli (fun x y=>lz (ct (.c (.ints .i64 x)::.c (.ints .i64 y)::cds))) (fun x y=>lw (ct (.c (.ints .i64 x)::.c (.ints .i64 y)::cds))))
 | [2,2],[3]=>some (.llb (fun x y=>mM (ct (.c (.ints .i64 x)::.c (.ints .i64 y)::cds))) (fun x y=>oK (ct (.c (.ints .i64 x)::.c (.ints .i64 y)::cds))))
 | [4],[3]=>some (.tb (fun x=>mM (ct (.c (.rows .i64 x)::cds))) (fun x=>oK (ct (.c (.rows .i64 x)::cds))))
 | [1],[1]=>some (.ii (fun x=>lz (ct (.c (.int .i64 x)::cds))) (fun x=>lw (ct (.c (.int .i64 x)::cds))))
 |_,_=>none
def Gx:List SC->Option Nat
 | [.ptr o 0]=>some o
 |_=>none
def kt{α:Type}(P:Program)(hid:List Nat):List SC->(List AD->Rd α)->Rd α
 | [],K=>K []
 |c::cs,K=>match c with
  |.ptr o 0=>ef hid o fun
   |.box xs=>match Gx xs with
    |some o2=>ef hid o2 fun
     |.box ys=>jE P hid [] 0 0 ys [] fun ds=>kt P hid cs fun r=>K (.bb ds::r)
     |_=>.fail
    |none=>jE P hid [] 0 0 xs [] fun ds=>kt P hid cs fun r=>K (.box ds::r)
   |_=>.fail
  |c=>kr hid none c fun d=>kt P hid cs fun r=>K (.c d::r)
def oL{α:Type}(P:Program)(Γ:FuncId->Option Ctr)(hid:List Nat)(mt:List (Nat×Nat))(i:Nat)(t:TypeId)(sv:SV)(K:AD->Rd α):Rd α :=
 match sv with
 |.c c=>match c with
  |.ptr o x=>match x with
   |0=>ef hid o fun
    |.box xs=>jE P hid [] 0 0 xs (qm P (Gv P t)) fun ds=>K (.box ds)
    |_=>.fail
   |_+1=>.fail
  |.rob cs x=>match x with
   |0=>K (.box cs)
   |_+1=>.fail
  |c=>oJ hid mt i 0 (g6 P t) c fun d=>K (.c d)
 |.agg cs=>jE P hid mt i 0 cs (qm P t) fun ds=>K (.agg ds)
 |.fv F=>K (.fv F)
 |.fn f caps=>match P.underlying t with
  |some (.func ps rs _)=>match Γ f with
    |none=>.fail
    |some ⟨[],ct⟩=>kt P hid caps fun cds=>match Gw (ps.toList.map (Oz P)) (rs.toList.map (Oz P)) ct cds with
     |some F=>K (.fv F)
     |none=>.fail
    |some ⟨_::_,_⟩=>.fail
  |_=>.fail
 |.fvs _ _=>.fail
 |.tup _=>.fail
def jF{α:Type}(P:Program)(Γ:FuncId->Option Ctr)(hid:List Nat)(mt:List (Nat×Nat)):Nat->List SV->List TypeId->(List AD->Rd α)->Rd α
 |_,[],_,K=>K []
 |i,sv::svs,ts,K=>oL P Γ hid mt i (ts.headD 0) sv fun ad=>jF P Γ hid mt (i+1) svs ts.tail fun ads=>K (ad::ads)
def iE:RC->Option Ob
 |.ints e k l=>some (.ints e k l)
 |.bools e l=>some (.bools e l)
 |.rows e ei k l=>some (.rows 0 e ei k l)
 |.bx cs=>some (.box (cs.map di))
 |.strs e l=>some (.strs e l)
 |.cut _ _ e ei k l=>some (.rows 0 e ei k l)
 |.lst e d=>some (.lst 0 e d)
 |.tr es d=>some (.tr 0 es d)
 |_=>none
def lA(id:Nat):RC->SC
 |.int k n=>.int k n
 |.bool b=>.bool b
 |.str l=>.str l
 |.ints _ _ _=>.own id
 |.bools _ _=>.own id
 |.rows _ _ _ _=>.own id
 |.nilq b=>.nilq b
 |.ro d=>.ro d
 |.bx _=>.ptr id 0
 |.strs _ _=>.own id
 |.cut off n _ _ _ _=>.sub id off n
 |.lst _ _=>.own id
 |.gone _=>.any
 |.tr _ _=>.own id
def oM:Nat->List RC->List (Nat×RC)
 |_,[]=>[]
 |j,x::l=>(j,x)::oM (j+1) l
def mN:Nat->List (RC ⊕ List RC)->List (Nat×RC)
 |_,[]=>[]
 |i,.inl x::l=>(16*i,x)::mN (i+1) l
 |i,.inr xs::l=>oM (16*i) xs++mN (i+1) l
def dj:RV->List (Nat×RC)
 |.c x=>[(0,x)]
 |.agg l=>oM 0 l
 |.tup l=>mN 0 l
 |.st _ _ _=>[]
def jc(d:Nat):Nat->List RC->List SC
 |_,[]=>[]
 |j,x::l=>lA (d+1000*j) x::jc d (j+1) l
def ku(d:Nat):Nat->List (RC ⊕ List RC)->List (SC ⊕ List SC)
 |_,[]=>[]
 |i,.inl x::l=>.inl (lA (d+1000*(16*i)) x)::ku d (i+1) l
 |i,.inr xs::l=>.inr (jc d (16*i) xs)::ku d (i+1) l
def lB(d:Nat):RV->SV
 |.c x=>.c (lA (d+1000*0) x)
 |.agg l=>.agg (jc d 0 l)
 |.tup l=>.tup (ku d 0 l)
 |.st _ _ _=>.c .any
def qn:List FC->Bool
 | []=>true
 |d::l=>dn d&&qn l
def ve:RC->Bool
 |.ro _=>true
 |.lst _ _=>true
 |.bx cs=>!qn cs
 |_=>false
def roL:List (Nat×RC)->Bool
 | []=>false
 |(_,rc)::l=>ve rc||roL l
def lC(rv:RV):Bool:=roL (dj rv)
def vf:SC->Option FC
 |.int k n=>some (.int k n)
 |.bool b=>some (.bool b)
 |.str l=>some (.str l)
 |.ro d=>some d
 |_=>none
def oN:SV->Option AD
 |.c c=>match vf c with
  |some d=>some (.c d)
  |none=>none
 |.agg l=>match ec vf l with
  |some ds=>some (.agg ds)
  |none=>none
 |_=>none
def Gy(c:Option Ctr)(svs:List SV):Option (List AD×Prop×RV) :=
 match c with
 |some ⟨[],ct⟩=>match ec oN svs with
  |some ads=>match ct ads with
   |some ⟨pre,ret,[]⟩=>match lC ret with
    |true=>some (ads,pre,ret)
    |false=>none
   |_=>none
  |none=>none
 |_=>none
def dY(d:Nat):List (Nat×RC)->List (Nat×Option Ob)
 | []=>[]
 |(i,rc)::l=>match iE rc with
  |some ob=>(d+1000*i,some ob)::dY d l
  |none=>dY d l
def lD{α:Type}(ids:List (Nat×Option Ob))(k:Rd α):Rd α :=
 match ids with
 | []=>k
 |(i,_)::l=>.abs i (lD l k)
def fm:List Nat->Bool
 | []=>true
 |i::l=>cA i l&&fm l
def oO(svs:List SV):List (Nat×Nat)->Option (List Nat)
 | []=>some []
 |(i,j)::l=>match svs[i]? with
  |some sv=>match jC sv with
   |some cs=>match cs[j]? with
    |some (.own o)=>match oO svs l with
     |some os=>some (o::os)
     |none=>none
    |_=>none
   |none=>none
  |none=>none
def gg:List FC->List FC->Option Prop
 | [],[]=>some True
 |.int k _::l,.int k' _::l'=>if k=k' then gg l l' else none
 |.bool _::l,.bool _::l'=>gg l l'
 |.str _::l,.str _::l'=>gg l l'
 |.ints k a::l,.ints k' a'::l'=>if k=k' then(match gg l l' with|some p=>some (a=a'/\p)|none=>none)else none
 |.bools a::l,.bools a'::l'=>(match gg l l' with|some p=>some (a=a'/\p)|none=>none)
 |.rows k a::l,.rows k' a'::l'=>if k=k' then(match gg l l' with|some p=>some (a=a'/\p)|none=>none)else none
 |.r3 k a::l,.r3 k' a'::l'=>if k=k' then(match gg l l' with|some p=>some (a=a'/\p)|none=>none)else none
 |.r4 k a::l,.r4 k' a'::l'=>if k=k' then(match gg l l' with|some p=>some (a=a'/\p)|none=>none)else none
 |_,_=>none
def gF:List SC->List FC->List SC
 |c::cs,d::ds=>(if dn d then di d else c)::gF cs ds
 |_,_=>[]
def dt:Ob->RC->Option (Ob×Prop)
 |.ints e k r,.ints e' k' r'=>if e=e'/\k=k' then some (.ints e k r',r'.length=r.length)else none
 |.bools e r,.bools e' r'=>if e=e' then some (.bools e r',r'.length=r.length)else none
 |.rows ver e ei k r,.rows e' ei' k' r'=>if e=e'/\ei=ei'/\k=k' then some (.rows ver e ei k r',r'.map List.length=r.map List.length)else none
 |.bx cs,.bx cs'=>match gg cs cs' with
  |some p=>some (.bx cs',p)
  |none=>none
 |.tr ver es r,.tr es' r'=>match gC es es'&&Nat.beq r.wid r'.wid with
  |true=>some (.tr ver es r',r'.len=r.len)
  |false=>none
 |.lst ver e d,.gone (.lst e' _)=>if e=e' then some (.lst ver e d,True)else none
 |.ints e k l,.gone (.ints e' k' _)=>if e=e'/\k=k' then some (.ints e k l,True)else none
 |.rows ver e ei k l,.gone (.rows e' ei' k' _)=>if e=e'/\ei=ei'/\k=k' then some (.rows ver e ei k l,True)else none
 |_,_=>none
def oP(rc:RC)(ob:Ob):Option Ob:=match rc.isGone with
 |true=>none
 |false=>some ob
def mO{α:Type}:List Nat->List RC->(List (Nat×Option Ob)->Prop->Rd α)->Rd α
 | [],[],K=>K [] True
 |o::os,rc::rcs,K=>.h o fun ob=>match dt ob rc with
  |some (ob',p)=>mO os rcs fun ups q=>K ((o,oP rc ob')::ups) (p/\q)
  |none=>.fail
 |_,_,_=>.fail
def vg{α:Type}(hid:List Nat)(nl:Option FC)(c:SC)(K:FC->List (Nat×Option Ob)->Rd α):Rd α :=
 match c with
 |.int k n=>K (.int k n) []
 |.bool b=>K (.bool b) []
 |.str l=>K (.str l) []
 |.nil=>match nl with
  |some d=>K d []
  |none=>.fail
 |.ro d=>K d []
 |.own o=>ef hid o fun ob=>match gb ob with
  |some d=>K d [(o,some (.frz d))]
  |none=>.fail
 |.pre o n=>ef hid o fun ob=>match gb ob with
  |some d=>match cg 0 n d with
   |some d'=>K d' [(o,some (.frz d))]
   |none=>.fail
  |none=>.fail
 |.sub o off n=>ef hid o fun ob=>match gb ob with
  |some d=>match cg off n d with
   |some d'=>K d' [(o,some (.frz d))]
   |none=>.fail
  |none=>.fail
 |_=>.fail
def vh{α:Type}(P:Program)(hid:List Nat):List SC->List TypeId->(List FC->List (Nat×Option Ob)->Rd α)->Rd α
 | [],_,K=>K [] []
 |c::cs,ts,K=>vg hid (Oy P ts) c fun d fs=>vh P hid cs ts.tail fun ds gs=>K (d::ds) (fs++gs)
def Gz{α:Type}(P:Program)(hid:List Nat)(mt:List (Nat×Nat))(i:Nat)(t:TypeId)(sv:SV)(K:AD->List (Nat×Option Ob)->Rd α):Rd α :=
 match sv with
 |.c c=>match memP i 0 mt with
  |true=>Gu c fun d=>K (.c d) []
  |false=>vg hid (g6 P t) c fun d fs=>K (.c d) fs
 |.agg cs=>vh P hid cs (qm P t) fun ds fs=>K (.agg ds) fs
 |.fv F=>K (.fv F) []
 |_=>.fail
def vj{α:Type}(P:Program)(hid:List Nat)(mt:List (Nat×Nat)):Nat->List SV->List TypeId->(List AD->List (Nat×Option Ob)->Rd α)->Rd α
 |_,[],_,K=>K [] []
 |i,sv::svs,ts,K=>Gz P hid mt i (ts.headD 0) sv fun ad fs=>vj P hid mt (i+1) svs ts.tail fun ads gs=>K (ad::ads) (fs++gs)
def vn(svs:List SV):List (Nat×Nat)->Bool
 | []=>true
 |(i,j)::l=>(match svs[i]? with|some (.c _)=>Nat.beq j 0|_=>false)&&vn svs l
def vo(P:Program)(d:Nat)(mt:List (Nat×Nat))(ct:List AD->Option Post)(hid:List Nat)(svs:List SV)(ts:List TypeId):Rd Eff :=
 match vn svs mt with
 |false=>.fail
 |true=>vj P hid mt 0 svs ts fun ads fs=>match ct ads with
  |none=>.fail
  |some ⟨pre,ret,wrs⟩=>mO hid wrs fun ups p =>
   lD (dY d (dj ret)) (.ret ⟨lB d ret,dY d (dj ret)++(ups++fs),some (pre/\p)⟩)
def g7(P:Program)(Γ:FuncId->Option Ctr)(d:Nat)(f:FuncId)(svs:List SV)(ts:List TypeId):Rd Eff :=
 match Γ f with
 |none=>.fail
 |some ⟨mt,ct⟩=>match oO svs mt with
  |none=>.fail
  |some hid=>match fm hid with
   |false=>.fail
   |true=>jF P Γ hid mt 0 svs ts fun ads=>match ct ads with
    |none=>.fail
    |some ⟨pre,ret,wrs⟩=>match lC ret with
     |true=>vo P d mt ct hid svs ts
     |false=>mO hid wrs fun ups p =>
      lD (dY d (dj ret)) (.ret ⟨lB d ret,dY d (dj ret)++ups,some (pre/\p)⟩)
def GA(d:Nat)(pre:Prop)(ret:RV):Rd Eff :=
 lD (dY d (dj ret)) (.ret ⟨lB d ret,dY d (dj ret)++[],some (pre/\True)⟩)
def jd:RC->Option SC
 |.int k n=>some (.int k n)
 |.bool b=>some (.bool b)
 |_=>none
def vp(c:Option Ctr):Bool :=
 match c with
 |some ⟨[(0,0)],_⟩=>true
 |_=>false
def GB(P:Program)(Γ:FuncId->Option Ctr)(f:FuncId)(o ver i:Nat)(svs:List SV)(ts:List TypeId):Rd Eff:=.fail
def GC(P:Program)(Γ:FuncId->Option Ctr)(f:FuncId)(o ver:Nat)(p:List Nat)(svs:List SV)(ts:List TypeId):Rd Eff:=.fail
def GD(P:Program)(Γ:FuncId->Option Ctr)(f:FuncId)(o off n:Nat)(svs:List SV)(ts:List TypeId):Rd Eff:=.fail
def Xm(c:Option Ctr):Bool :=
 match c with
 |some ⟨[(1,0)],_⟩=>true
 |_=>false
def GE(P:Program)(Γ:FuncId->Option Ctr)(f:FuncId)(k0:IntKind)(n0:Int)(o ver i:Nat)(svs:List SV)(ts:List TypeId):Rd Eff:=.fail
def GF:SC->Option FC
 |.int k n=>some (.int k n)
 |.bool b=>some (.bool b)
 |.str l=>some (.str l)
 |.ro d=>some d
 |.orig _ _ d=>some d
 |_=>none
def GG(P:Program)(Γ:FuncId->Option Ctr)(d:Nat)(f:FuncId)(o:Nat)(svs:List SV):Rd Eff :=
 match Γ f with
 |some ⟨[(0,0)],ct⟩=>.h o fun ob=>match ob with
  |.box xs=>match ec GF xs with
   |some fcs=>match ec oN svs with
    |some ads=>match ct (.box fcs::ads)with
     |some ⟨pre,ret,[.bx fcs']⟩=>match gg fcs fcs' with
      |some q=>lD (dY d (dj ret)) (.ret ⟨lB d ret,dY d (dj ret)++[(o,some (.box (gF xs fcs')))],some (pre/\q)⟩)
      |none=>.fail
     |_=>.fail
    |none=>.fail
   |none=>.fail
  |_=>.fail
 |_=>.fail
def GH(P:Program)(Γ:FuncId->Option Ctr)(d:Nat)(f:FuncId)(o:Nat)(svs:List SV)(ts:List TypeId):Rd Eff :=
 match Γ f with
 |some ⟨[(0,0)],ct⟩=>.h o fun ob=>match ob with
  |.box xs=>jE P [o] [] 0 0 xs (qm P (Gv P (ts.headD 0))) fun fcs=>jF P Γ [o] [(0,0)] 1 svs ts.tail fun ads=>match ct (.box fcs::ads)with
   |some ⟨pre,ret,[.bx fcs']⟩=>match lC ret with
    |true=>GG P Γ d f o svs
    |false=>match gg fcs fcs' with
     |some q=>lD (dY d (dj ret)) (.ret ⟨lB d ret,dY d (dj ret)++[(o,some (.box (gF xs fcs')))],some (pre/\q)⟩)
     |none=>.fail
   |_=>.fail
  |_=>.fail
 |_=>.fail
def gG:Ob->Ob
 |.rows _ e ei k l=>.rows 0 e ei k l
 |.lst _ e d=>.lst 0 e d
 |.tr _ es d=>.tr 0 es d
 |.yd _ Y pre b=>.yd 0 Y pre b
 |ob=>ob
def qo:Ob->Bool
 |.ints _ _ _=>true
 |.bools _ _=>true
 |.rows _ _ _ _ _=>true
 |.lst _ _ _=>true
 |.tr _ _ _=>true
 |.yd _ _ _ _=>true
 |_=>false
def jG(P:Program)(t:TypeId):Option Ob :=
 match bS P t with
 |none=>none
 |some e=>match P.underlying e with
  |some (.int k)=>some (.ints e k [])
  |some .bool=>some (.bools e [])
  |some (.slice ei)=>match ja P ei with
   |some k=>some (.lst 0 e (.rows k []))
   |none=>match g6 P t with
    |some (.r3 k l)=>match l,uT P 4 t with
     | [],[a,b,c]=>some (.tr 0 [a,b,c] (.r3 k []))
     |_,_=>none
    |_=>none
  |_=>none
abbrev Tr:=List (Nat×Option Nat×Ob)
def vq{α:Type}(k:Nat)(nl:Option Ob)(c:SC)(K:MC->Tr->Rd α):Rd α :=
 match c with
 |.int k n=>K (.c (.int k n)) []
 |.bool b=>K (.c (.bool b)) []
 |.str l=>K (.c (.str l)) []
 |.ro d=>K (.c d) []
 |.orig _ _ d=>K (.c d) []
 |.own o=>.h o fun ob=>match ob with
  |.frz d=>K (.c d) []
  |ob=>match qo ob with
   |true=>K (.ob (gG ob)) [(k,some o,ob)]
   |false=>.fail
 |.nil=>match nl with
  |some ob=>K (.ob ob) [(k,none,ob)]
  |none=>.fail
 |_=>.fail
def OA(P:Program):List TypeId->Option Ob
 | []=>none
 |t::_=>jG P t
def vr{α:Type}(P:Program):Nat->List SC->List TypeId->(List MC->Tr->Rd α)->Rd α
 |_,[],_,K=>K [] []
 |k,c::cs,ts,K=>vq k (OA P ts) c fun x os=>vr P (k+1) cs ts.tail fun l os'=>K (x::l) (os++os')
def GI{α:Type}(P:Program)(k:Nat)(t:TypeId)(sv:SV)(K:MA->Tr->Rd α):Rd α :=
 match sv with
 |.c c=>match c with
  |.ptr o i=>match i with
   |0=>.h o fun ob=>match ob with
    |.box cs=>vr P (k+1) cs (qm P (Gv P t)) fun l os=>K (.box l) ((k,some o,.box (fS (k+1) l))::os)
    |_=>.fail
   |_+1=>.fail
  |c=>vq k (jG P t) c fun x os=>K (.m x) os
 |_=>.fail
def vt{α:Type}(P:Program):Nat->List SV->List TypeId->(List MA->Tr->Rd α)->Rd α
 |_,[],_,K=>K [] []
 |i,sv::svs,ts,K=>GI P (c8 i) (ts.headD 0) sv fun x os=>vt P (i+1) svs ts.tail fun l os'=>K (x::l) (os++os')
def iF:Tr->List Nat
 | []=>[]
 |(_,some o,_)::l=>o::iF l
 |(_,none,_)::l=>iF l
def eG:Tr->Nat->Option (Option Nat×Ob)
 | [],_=>none
 |(k,x)::l,t=>match Nat.beq k t with
  |true=>some x
  |false=>eG l t
def eQ(d:Nat)(os:Tr)(k:Nat):Nat :=
 match eG os k with
 |some (some o,_)=>o
 |_=>d+1000*k
def oQ(f:Nat->Nat):SC->Option SC
 |.int k n=>some (.int k n)
 |.bool b=>some (.bool b)
 |.str l=>some (.str l)
 |.nil=>some .nil
 |.any=>some .any
 |.ro d=>some (.ro d)
 |.own k=>some (.own (f k))
 |.ptr k i=>some (.ptr (f k) i)
 |_=>none
def vu(f:Nat->Nat):SV->Option SV
 |.c c=>match oQ f c with
  |some c'=>some (.c c')
  |none=>none
 |.fn g l=>match ec (oQ f) l with
  |some l'=>some (.fn g l')
  |none=>none
 |.tup l=>match l with
  | []=>some (.tup [])
  |_=>none
 |_=>none
def je(f:Nat->Nat)(ob:Ob):Option Ob :=
 match ob with
 |.box cs=>match ec (oQ f) cs with
  |some cs'=>some (.box cs')
  |none=>none
 |ob=>match qo ob with
  |true=>some ob
  |false=>none
def qp:Ob->Ob->Bool
 |.box cs,.box cs'=>Nat.beq cs.length cs'.length
 |.yd _ _ _ _,.yd _ _ _ _=>true
 |_,_=>false
def fT:Ob->Ob->Ob
 |.yd v _ _ _,.yd v' Y pre b=>.yd (v+v') Y pre b
 |_,ob=>ob
def qq(d:Nat)(os:Tr):List (Nat×Option Ob)->Option (List (Nat×Option Ob)×List (Nat×Option Ob))
 | []=>some ([],[])
 |(_,none)::_=>none
 |(k,some ob)::l=>match je (eQ d os) ob with
  |none=>none
  |some ob'=>match qq d os l with
   |none=>none
   |some (kept,new)=>match eG os k with
    |some (some o,ob0)=>match qp ob0 ob with
     |true=>some ((o,some (fT ob0 ob'))::kept,new)
     |false=>none
    |some (none,_)=>none
    |none=>some (kept,(d+1000*k,some ob')::new)
def de(hp:List (Nat×Option Ob)):Tr->List (Nat×Option Ob)
 | []=>[]
 |(k,some o,_)::l=>match lk hp k with
  |none=>(o,none)::de hp l
  |some _=>de hp l
 |(_,none,_)::l=>de hp l
def GJ(c:Option Ctr):Bool :=
 match c with
 |some ⟨[(0,93),(0,93)],_⟩=>true
 |_=>false
def GK(P:Program)(d:Nat)(c:Option Ctr)(svs:List SV)(ts:List TypeId):Rd Eff :=
 match c with
 |none=>.fail
 |some ⟨_,ct⟩=>vt P 0 svs ts fun mas os=>match ct (mas.map .ma)with
  |some ⟨pre,.st sv ex outs,[]⟩=>match fm (os.map (·.1))&&fm (iF os)&&fm ((gD 0 outs++g4 ex).map (·.1))with
   |true=>match vu (eQ d os) sv,qq d os (gD 0 outs++g4 ex)with
    |some sv',some (kept,new)=>lD new (.ret ⟨sv',new++(kept++de (gD 0 outs++g4 ex) os),some pre⟩)
    |_,_=>.fail
   |false=>.fail
  |_=>.fail
def Xn(c:Option Ctr)(svs:List SV):Bool :=
 match c with
 |some ⟨[(1,0)],_⟩=>match svs with
  | [.c (.int .i64 _),.fn _ _]=>true
  |_=>false
 |_=>false
def GL(P:Program)(Γ:FuncId->Option Ctr)(d:Nat)(f:FuncId)(svs:List SV):Rd Eff:=.fail
def GM(o:Nat)(F:SFV)(svs:List SV):Rd Eff:=.fail
def GN(c:Option Ctr):Bool :=
 match c with
 |some ⟨[(0,97),(0,97)],_⟩=>true
 |_=>false
def GO(c:Option Ctr)(svs:List SV):Rd Eff :=
 match c with
 |some ⟨_,ct⟩=>match svs with
  | [.c (.own o),.fn g []]=>.h o fun ob=>match ob with
   |.rows ver e ei .i64 l=>match ct [.c (.rows .i64 l)]with
    |some ⟨pre,.c (.rows g' _ .i64 l'),_⟩=>match Nat.beq g' g with
     |true=>.ret ⟨.tup [],[(o,some (.rows (ver+1) e ei .i64 l'))],some (pre/\l'.length=l.length)⟩
     |false=>.fail
    |_=>.fail
   |.tr ver [e,e2,e3] (.r3 .i64 l)=>match ct [.c (.r3 .i64 l)]with
    |some ⟨pre,.c (.tr [g'] (.r3 .i64 l')),_⟩=>match Nat.beq g' g with
     |true=>.ret ⟨.tup [],[(o,some (.tr (ver+1) [e,e2,e3] (.r3 .i64 l')))],some (pre/\l'.length=l.length)⟩
     |false=>.fail
    |_=>.fail
   |_=>.fail
  |_=>.fail
 |none=>.fail
def OB(c:Option Ctr):Bool :=
 match c with
 |some ⟨[(0,96),(0,96)],_⟩=>true
 |_=>false
def GP(c:Option Ctr)(svs:List SV):Rd Eff:=.fail
def OC(c:Option Ctr):Bool :=
 match c with
 |some ⟨[(0,99),(0,99)],_⟩=>true
 |_=>false
def GQ(d:Nat)(svs:List SV):Rd Eff:=.fail
def OD(c:Option Ctr):Option TypeId :=
 match c with
 |some ⟨[(0,98),(0,98)],ct⟩=>match ct []with
  |some ⟨_,.c (.ints e .i64 []),_⟩=>some e
  |_=>none
 |_=>none
def GR(d:Nat)(e:TypeId)(svs:List SV):Rd Eff:=.fail
def Xo(c:Option Ctr):Bool :=
 match c with
 |some ⟨[(0,0),(1,0)],_⟩=>true
 |_=>false
def GS(P:Program)(Γ:FuncId->Option Ctr)(d:Nat)(f:FuncId)(o ver i j:Nat)(ts:List TypeId):Rd Eff:=.fail
def iG(d:Nat)(ob:Ob):Rd Eff->Rd Eff
 |.ret e=>.ret ⟨e.val,e.hp++[(d,none)],e.owed⟩
 |.fail=>.fail
 |.f t k=>.f t fun sv=>iG d ob (k sv)
 |.h o k=>match Nat.beq o d with
  |true=>iG d ob (k ob)
  |false=>.h o fun x=>iG d ob (k x)
 |.abs o k=>match Nat.beq o d with
  |true=>.fail
  |false=>.abs o (iG d ob k)
def vw(c:Option Ctr)(svs:List SV):Option Nat :=
 match c with
 |some ⟨[(i,0)],_⟩=>match svs[i]? with
  |some (.c .nil)=>some i
  |_=>none
 |_=>none
def GT(P:Program)(Γ:FuncId->Option Ctr)(d:Nat)(f:FuncId)(i:Nat)(svs:List SV)(ts:List TypeId):Rd Eff :=
 match Γ f with
 |some ⟨_,ct⟩=>jF P Γ [] [] 0 svs ts fun ads=>match ct ads with
  |some ⟨_,_,[.gone (.rows e ei k _)]⟩=>.abs (d+490490) (iG (d+490490) (.rows 0 e ei k []) (g7 P Γ d f (svs.set i (.c (.own (d+490490)))) ts))
  |_=>.fail
 |none=>.fail
def vz(sv:SV):Option SC :=
 match sv with
 |.c c=>if c.plain then some c else none
 |_=>none
def GU(P:Program)(o i:Nat):Rd Eff :=
 match Nat.beq o i with
 |true=>.fail
 |false=>.h o fun ob=>match ob with
  |.yd v Y pre b=>.h i fun ob2=>match ob2 with
   |.ints e k x=>match k with
    |.i64=>.ret ⟨.c (.bool (Y.go pre x)),[(o,some (.yd (v+1) Y (pre++[x]) (Y.go pre x)))],some (Y.P=P/\Y.e=e/\b=true/\Y.ok pre x)⟩
    |_=>.fail
   |_=>.fail
  |_=>.fail
def OE(P:Program)(Γ:FuncId->Option Ctr)(d:Nat)(fv:SV)(svs:List SV)(ts:List TypeId):Rd Eff :=
 match fv with
 |.fn f []=>match OC (Γ f)with
  |true=>GQ d svs
  |false=>match OD (Γ f)with
   |some e=>GR d e svs
   |none=>match GN (Γ f)with
    |true=>GO (Γ f) svs
    |false=>match OB (Γ f)with
    |true=>GP (Γ f) svs
    |false=>match GJ (Γ f)with
    |true=>GK P d (Γ f) svs ts
    |false=>match Xn (Γ f) svs with
    |true=>GL P Γ d f svs
    |false=>match Gy (Γ f) svs with
     |some (_,pre,ret)=>GA d pre ret
     |none=>match svs with
      |.c (.row o ver i)::rest=>match vp (Γ f)with
       |true=>GB P Γ f o ver i rest ts.tail
       |false=>match Xo (Γ f)with
        |true=>match rest with
         | [.c (.row o' ver' j)]=>match Nat.beq o' o,Nat.beq ver' ver with
          |true,true=>GS P Γ d f o ver i j ts
          |_,_=>g7 P Γ d f svs ts
         |_=>g7 P Γ d f svs ts
        |false=>g7 P Γ d f svs ts
      |.c (.kid o ver p)::rest=>match vp (Γ f)with
       |true=>GC P Γ f o ver p rest ts.tail
       |false=>g7 P Γ d f svs ts
      |.c (.sub o off n)::rest=>match vp (Γ f)with
       |true=>GD P Γ f o off n rest ts.tail
       |false=>g7 P Γ d f svs ts
      |.c (.ptr o 0)::rest=>match vp (Γ f)with
       |true=>GH P Γ d f o rest ts
       |false=>g7 P Γ d f svs ts
      |.c (.int k0 n0)::.c (.row o ver i)::rest=>match Xm (Γ f)with
       |true=>GE P Γ f k0 n0 o ver i rest ts.tail.tail
       |false=>g7 P Γ d f svs ts
      |svs=>match vw (Γ f) svs with
       |some i=>GT P Γ d f i svs ts
       |none=>g7 P Γ d f svs ts
 |.fvs o F=>GM o F svs
 |.fn f (c::cs)=>g7 P Γ d f (svs++(c::cs).map .c) ts
 |.fv F=>match ec vz svs with
  |some cs=>jE P [] [] 0 0 cs ts fun ds=>match F.at ds with
   |some (q,c)=>.ret ⟨.c c,[],some q⟩
   |none=>.fail
  |none=>.fail
 |.c c=>match c with
  |.own o=>match svs with
   | [.c (.own i)]=>GU P o i
   |_=>.fail
  |_=>.fail
 |_=>.fail
def OF(lo hi:Option Operand)(mx:Operand):Bool :=
 match lo,hi,mx with
 |none,some (.const (.int .i64 0)),.const (.int .i64 0)=>true
 |_,_,_=>false
def GV(P:Program)(s t:TypeId):Bool :=
 match P.underlying t with
 |some .string=>match bS P s with
  |some e=>match ja P e with
   |some .u8=>true
   |_=>false
  |none=>false
 |_=>false
def Xp(l:D1):List UInt8:=l.map fun n=>UInt8.ofNat n.toNat
def GW(cx cy:SC):Rd Eff :=
 match cx,cy with
 |.int k a,.int k' b=>if k=k' then .ret ⟨.c (.int k (if b<a then b else a)),[],none⟩else .fail
 |_,_=>.fail
def GX(cx cy:SC):Rd Eff:=.fail
def Xq(x:Operand):Bool :=
 match x with
 |.const (.pointer none)=>true
 |_=>false
def GY(P:Program)(d:Nat)(t:TypeId)(r:Option Operand):Rd Eff:=.fail
def GZ(P:Program)(t:TypeId)(cm ck cv:SC):Rd Eff:=.fail
def G0(P:Program)(t:TypeId)(ok:Bool)(cm ck:SC):Rd Eff:=.fail
def cM(P:Program)(Γ:FuncId->Option Ctr)(wr:Nat->Bool)(o:Oper):Rd Eff :=
 let d:=match o.dst with|some d=>d|none=>0
 match o.op with
 |.move x=>fD x fun sv=>.ret ⟨sv,[],none⟩
 |.assign x=>match Xq x with
  |true=>.ret ⟨.c .any,[],none⟩
  |false=>fD x fun sv=>.ret ⟨sv,[],none⟩
 |.nilCheck x=>cL x fun
  |.ptr o i=>.h o fun ob=>kq ob (aG (.ptr o i))
  |.rob cs i=>aG (.rob cs i)
  |_=>.fail
 |.pick c x y=>cL c fun
  |.bool true=>fD x fun sv=>.ret ⟨sv,[],none⟩
  |.bool false=>fD y fun sv=>.ret ⟨sv,[],none⟩
  |_=>.fail
 |.alloc t=>Ga P d t
 |.box _ x=>fD x fun sv=>Gb d sv
 |.build t parts=>Gc P t parts
 |.buildSlice t len parts=>match wr (5000000+d)with
  |true=>Gd P (wr (1000000+d)) d t len parts
  | false=>match wr (6000000+d)with
   |true=>Ge P d t len parts
   | false=>match wr (2000000+d)with
    |true=>Gg P d t len parts
    |false=>Gf P (wr (1000000+d)) d t len parts
 |.load t x=>match wr (3000000+d)with
  |true=>cL x fun cx=>F8 P d t cx
  |false=>cL x fun cx=>uV P t cx
 |.store t x y=>cL x fun cx=>fD y fun sv=>F9 P t cx sv
 |.binOp op t x y _=>cL x fun cx=>cL y fun cy=>F2 P t (wr d) op cx cy
 |.unOp op _ x=>cL x fun cx=>F3 (wr d) op cx
 |.convert s t x=>cL x fun cx=>match GV P s t with
  |true=>kr [] (g6 P s) cx fun
   |.ints .u8 l=>.ret ⟨.c (.str (Xp l)),[],none⟩
   |_=>.fail
  |false=>F4 P (wr d) s t cx
 |.makeFunc fn first caps=>match fn with
  |.func f=>if first.isEmpty then iD caps.toList fun svs=>match ec vz svs with
   |some cs=>.ret ⟨.fn f cs,[],none⟩
   |none=>.fail
   else .fail
  |_=>.fail
 |.makeSlice t l c=>cL l fun cl=>cL c fun cc=>Gm P d t cl cc
 |.slice t x lo hi mx=>match mx with
  |none=>match wr (4000000+d)with
   |true=>cL x fun cx=>Gk P d t cx lo hi
   |false=>cL x fun cx=>uZ P d t cx lo hi
  |some m=>match OF lo hi m with
   |true=>match bS P t with
    |some e=>match cG P e with
     |some _=>cL x fun cx=>kr [] (g6 P t) cx fun
      |.ints _ _=>.ret ⟨.c .emp,[],none⟩
      |.bools _=>.ret ⟨.c .emp,[],none⟩
      |.rows _ _=>.ret ⟨.c .emp,[],none⟩
      |_=>.fail
     |none=>.fail
    |none=>.fail
   |false=>.fail
 |.fieldAddr s x f=>cL x fun cx=>Gh P s cx f
 |.field s x f=>fD x fun sv=>Gi P s sv f
 |.indexAddr t x i=>cL x fun cx=>cL i fun ci=>Gj P t cx ci
 |.index t x i=>cL x fun cx=>cL i fun ci=>Gt P t cx ci
 |.extract x i=>fD x fun sv=>Gs sv i
 |.call c=>match c.callee with
  |.value f=>fD f fun fv=>iD c.args.toList fun svs=>OE P Γ d fv svs c.argTypes.toList
  |.builtin b=>match b with
   |.len=>match c.args.toList,c.argTypes.toList with
    | [x],[t]=>cL x fun cx=>match cx with
     |.str _=>match P.underlying t with
      |some .string=>uY cx
      |_=>.fail
     |cx=>match bS P t with
      |some _=>uY cx
      |none=>.fail
    |_,_=>.fail
   |.append=>match c.args.toList,c.argTypes.toList with
    | [x,y],[t,t']=>if t=t' then cL x fun cx=>cL y fun cy=>Gq P d t cx cy else match ja P t' with
     |some _=>cL x fun cx=>cL y fun cy=>Gr P d t cx cy
     |none=>.fail
    |_,_=>.fail
   |.min=>match c.args.toList with
    | [x,y]=>cL x fun cx=>cL y fun cy=>GW cx cy
    |_=>.fail
   |.max=>match c.args.toList with
    | [x,y]=>cL x fun cx=>cL y fun cy=>GX cx cy
    |_=>.fail
   |_=>.fail
  |.invoke _ _=>.fail
 |.makeMap t r=>GY P d t r
 |.mapUpdate t m k v=>cL m fun cm=>cL k fun ck=>cL v fun cv=>GZ P t cm ck cv
 |.lookup t m k ok=>cL m fun cm=>cL k fun ck=>G0 P t ok cm ck
 |_=>.fail
end Go.Sx
