/- SxC -/
import Derived.Test.YtkmldclpaniclaaGreatSxBt
set_option linter.unusedSimpArgs false
set_option linter.unusedVariables false
set_option linter.defProp false
namespace Go.Sx
open Go.RowKit
inductive Key where
 |f (t:Nat)
 |h (o:Nat)
def Key.eq:Key->Key->Bool
 |.f a,.f b=>Nat.beq a b
 |.h a,.h b=>Nat.beq a b
 |_,_=>false
inductive Rd (α:Type) where
 |ret (x:α)
 |fail
 |f (t:Nat) (k:SV->Rd α)
 |h (o:Nat) (k:Ob->Rd α)
 |abs (o:Nat) (k:Rd α)
def Rd.run{α:Type}(σ:State):Rd α->Option α
 |.ret x=>some x
 |.fail=>none
 |.f t k=>match σ.F t with
  |some sv=>(k sv).run σ
  |none=>none
 |.h o k=>match σ.H o with
  |some (some ob)=>(k ob).run σ
  |some none=>none
  |none=>none
 |.abs o k=>match σ.H o with
  |none=>k.run σ
  |some _=>none
def Rd.keys{α:Type}(σ:State):Rd α->List Key
 |.ret _=>[]
 |.fail=>[]
 |.f t k=>.f t::match σ.F t with
  |some sv=>(k sv).keys σ
  |none=>[]
 |.h o k=>.h o::match σ.H o with
  |some (some ob)=>(k ob).keys σ
  |some none=>[]
  |none=>[]
 |.abs o k=>.h o::k.keys σ
structure Eff where
 val:SV
 hp:List (Nat×Option Ob)
 owed:Option Prop
def Eff.obl(e:Eff):Prop :=
 match e.owed with
 |none=>True
 |some p=>p
inductive MC where
 |c (d:FC)
 |ob (x:Ob)
inductive MA where
 |m (x:MC)
 |box (l:List MC)
inductive AD where
 |c (d:FC)
 |agg (cs:List FC)
 |box (cs:List FC)
 |bb (cs:List FC)
 |fv (F:FV)
 |fvs (F:SFV) (s:Int)
 |cut (off n:Nat) (d:FC)
 |ma (x:MA)
inductive RC where
 |int (k:IntKind) (n:Int)
 |bool (b:Bool)
 |str (l:List UInt8)
 |ints (e:TypeId) (k:IntKind) (l:D6)
 |bools (e:TypeId) (l:List Bool)
 |rows (e ei:TypeId) (k:IntKind) (l:D7)
 |nilq (b:Bool)
 |ro (d:FC)
 |bx (cs:List FC)
 |strs (e:TypeId) (l:List (List UInt8))
 |cut (off n:Nat) (e ei:TypeId) (k:IntKind) (l:D7)
 |lst (e:TypeId) (d:FC)
 |gone (x:RC)
 |tr (es:List TypeId) (d:FC)
def RC.isGone:RC->Bool
 |.gone _=>true
 |_=>false
inductive RV where
 |c (x:RC)
 |agg (l:List RC)
 |tup (l:List (RC ⊕ List RC))
 |st (sv:SV) (ex:List (Nat×Ob)) (outs:List MA)
structure Post where
 pre:Prop
 ret:RV
 wrs:List RC:=[]
structure Ctr where
 mt:List (Nat×Nat):=[]
 ct:List AD->Option Post
def dB:FC->SC
 |.int k n=>.int k n
 |.bool b=>.bool b
 |.str l=>.str l
 |.ints k l=>.ro (.ints k l)
 |.bools l=>.ro (.bools l)
 |.rows k l=>.ro (.rows k l)
 |.r3 k l=>.ro (.r3 k l)
 |.r4 k l=>.ro (.r4 k l)
 |.p3 k l=>.ro (.p3 k l)
def dH:FC->Bool
 |.int _ _=>true
 |.bool _=>true
 |.str _=>true
 |_=>false
def fP:Ob->Option FC
 |.ints _ k l=>some (.ints k l)
 |.bools _ l=>some (.bools l)
 |.rows _ _ _ k l=>some (.rows k l)
 |.box _=>none
 |.bx _=>none
 |.strs _ _=>none
 |.lst _ _ d=>match dH d with
  |true=>none
  |false=>some d
 |.frz _=>none
 |.mp _=>none
 |.qu _ _ _=>none
 |.rowsH _ _ _ _ _ _=>none
 |.tr _ _ d=>some d
 |.yd _ _ _ _=>none
 |.trk _ _ _ _=>none
/- The state that a call by states begins in: argument i's object has the name 7000 + 100 i, its cells' objects those behind it. -/
def dq(i:Nat):Nat:=7000+100*i
def HS(k:Nat):MC->SC
 |.c d=>dB d
 |.ob _=>.own k
def wZ(k:Nat):MC->List (Nat×Option Ob)
 |.c _=>[]
 |.ob x=>[(k,some x)]
def gb:Nat->List MC->List SC
 |_,[]=>[]
 |k,x::l=>HS k x::gb (k+1) l
def lX:Nat->List MC->List (Nat×Option Ob)
 |_,[]=>[]
 |k,x::l=>wZ k x++lX (k+1) l
def rB(k:Nat):MA->SV
 |.m x=>.c (HS k x)
 |.box _=>.c (.ptr k 0)
def Rq(k:Nat):MA->List (Nat×Option Ob)
 |.m x=>wZ k x
 |.box l=>(k,some (.box (gb (k+1) l)))::lX (k+1) l
def w5:Nat->List MA->List (Nat×SV)
 |_,[]=>[]
 |i,x::l=>(i,rB (dq i) x)::w5 (i+1) l
def iT:Nat->List MA->List (Nat×Option Ob)
 |_,[]=>[]
 |i,x::l=>Rq (dq i) x++iT (i+1) l
def fk(mas:List MA):State:=⟨w5 0 mas,iT 0 mas⟩
def maO(k:Nat):MA->List (Nat×Option Ob)
 |.m x=>wZ k x
 |.box l=>(k,some (.box (gb (k+1001) l)))::lX (k+1001) l
def iv:Nat->List MA->List (Nat×Option Ob)
 |_,[]=>[]
 |i,x::l=>maO (dq i) x++iv (i+1) l
def iU(ex:List (Nat×Ob)):List (Nat×Option Ob):=ex.map λp=>(p.1,some p.2)
def ju(sv:SV)(hp:List (Nat×Option Ob)):State:=⟨[(0,sv)],hp⟩
def lY(mas:List MA)(hp:List (Nat×Option Ob)):List Nat:=((iT 0 mas).map (·.1)).filter λk=>(lk hp k).isSome
def gy:Ob->Option FC
 |.frz d=>some d
 |ob=>match fP ob with
  |some d=>match cD 0 d.len d with
   |some _=>some d
   |none=>none
  |none=>none
def kZ{α:Type}(ob:Ob)(r:Rd α):Rd α :=
 match ob.isFz with
 |true=>.fail
 |false=>r
def HT{α:Type}(c:SC)(k:SC->Rd α):Rd α :=
 match c with
 |.own o=>.h o λob=>match ob with
  |.frz d=>k (.ro d)
  |_=>k (.own o)
 |.pre o n=>.h o λob=>match ob with
  |.frz d=>match cD 0 n d with
   |some d'=>k (.ro d')
   |none=>.fail
  |_=>k (.pre o n)
 |.sub o off n=>.h o λob=>match ob with
  |.frz d=>match cD off n d with
   |some d'=>k (.ro d')
   |none=>.fail
  |_=>k (.sub o off n)
 |c=>k c
def pz:Value->Option SC
 |.int k n=>some (.int k n)
 |.bool b=>some (.bool b)
 |.string s=>some (.str s.data.toList)
 |.slice none 0 0=>some .nil
 |_=>none
def eM{α β:Type}(f:α->Option β):List α->Option (List β)
 | []=>some []
 |x::l=>match f x with
  |some y=>match eM f l with
   |some ys=>some (y::ys)
   |none=>none
  |none=>none
def fQ{α:Type}(x:Operand)(k:SV->Rd α):Rd α :=
 match x with
 |.tmp t=>.f t k
 |.const v=>match v with
  |.agg cs=>match eM pz cs.toList with
   |some l=>k (.agg l)
   |none=>.fail
  |.nilFunc=>k (.c .any)
  |v=>match pz v with
   |some c=>k (.c c)
   |none=>.fail
 |.func f=>k (.fn f [])
 |.global _=>.fail
def cY{α:Type}(x:Operand)(k:SC->Rd α):Rd α :=
 fQ x fun
  |.c c=>HT c k
  |_=>.fail
def nv(P:Program)(t:TypeId):Option Bool :=
 match P.underlying t with
 |some (.struct _)=>some true
 |some (.array _ _)=>some true
 |some _=>some false
 |none=>none
def cU(P:Program)(t:TypeId):Option Nat :=
 match P.info? t with
 |some i=>some i.size
 |none=>none
def b8(P:Program)(t:TypeId):Option TypeId :=
 match P.underlying t with
 |some (.slice e)=>some e
 |_=>none
def ae(n:Int):Prop:=-9223372036854775808<=n/\n<=9223372036854775807
def iw(wr:Bool)(k:IntKind)(r:Int):Eff :=
 match wr,k with
 |false,.i64=>⟨.c (.int .i64 r),[],some (ae r)⟩
 |_,k=>⟨.c (.int k (k.wrap r)),[],none⟩
def aS(c:SC):Rd Eff:=.ret ⟨.c c,[],none⟩
def HU(P:Program)(t:TypeId):Bool :=
 match P.underlying t with
 |some .bool=>true
 |_=>false
def au(n:Nat):Prop:=n<=1099511627776
def ai1:BinOp->Bool
 |.shl=>true
 |.shr=>true
 |_=>false
def HV(wr:Bool)(op:BinOp)(cx cy:SC):Rd Eff :=
 match cx,cy with
 |.int .i64 a,.int _ b =>
  match op with
  |.shl=>.ret ⟨(iw wr .i64 (a*2 ^ b.toNat)).val,[],some ((0<=b/\b<=62)/\(iw wr .i64 (a*2 ^ b.toNat)).obl)⟩
  |.shr=>.ret ⟨.c (.int .i64 (a / 2 ^ b.toNat)),[],some (0<=b/\b<=62)⟩
  |_=>.fail
 |.int .u64 a,.int _ b =>
  match op with
  |.shr=>.ret ⟨.c (.int .u64 (a / 2 ^ b.toNat)),[],some (0<=b/\b<=62)⟩
  |_=>.fail
 |_,_=>.fail
def HW(op:BinOp)(cx cy:SC):Bool :=
 match op,cx,cy with
 |.and,.int .u64 _,.int .u64 _=>true
 |_,_,_=>false
def HX(cx cy:SC):Rd Eff :=
 match cx,cy with
 |.int .u64 a,.int .u64 b=>.ret ⟨.c (.int .u64 ((a.toNat &&& b.toNat:Nat):Int)),[],some ((0<=a/\a<=18446744073709551615)/\0<=b/\b<=18446744073709551615)⟩
 |_,_=>.fail
def HY(P:Program)(t:TypeId)(wr:Bool)(op:BinOp)(cx cy:SC):Rd Eff :=
 match ai1 op with
 |true=>HV wr op cx cy
 |false=>match HW op cx cy with
 |true=>HX cx cy
 |false=>match cx,cy with
 |.int k a,.int k' b =>
  if k=k' then
   match op with
   |.and=>.ret ⟨.c (.int k ((a.toNat &&& b.toNat:Nat):Int)),[],some (k=.i64/\(0<=a/\a<=9223372036854775807)/\0<=b/\b<=9223372036854775807)⟩
   |.or=>.ret ⟨.c (.int k ((a.toNat ||| b.toNat:Nat):Int)),[],some (k=.i64/\(0<=a/\a<=9223372036854775807)/\0<=b/\b<=9223372036854775807)⟩
   |.add=>.ret (iw wr k (a+b))
   |.sub=>.ret (iw wr k (a-b))
   |.mul=>.ret (iw wr k (a*b))
   |.quo=>.ret ⟨(iw wr k (a.tdiv b)).val,[],some (b≠0/\(iw wr k (a.tdiv b)).obl)⟩
   |.rem=>.ret ⟨.c (.int k (a.tmod b)),[],some (b≠0)⟩
   |.eql=>aS (.bool (a == b))
   |.neq=>aS (.bool (a != b))
   |.lss=>aS (.bool (decide (a<b)))
   |.leq=>aS (.bool (decide (a<=b)))
   |.gtr=>aS (.bool (decide (b<a)))
   |.geq=>aS (.bool (decide (b<=a)))
   |_=>.fail
  else .fail
 |.bool a,.bool b =>
  if HU P t then
   match op with
   |.eql=>aS (.bool (a == b))
   |.neq=>aS (.bool (!(a == b)))
   |_=>.fail
  else .fail
 |.str a,.str b =>
  match op with
  |.eql=>aS (.bool (a == b))
  |.neq=>aS (.bool (!(a == b)))
  |.add=>.ret ⟨.c (.str (a++b)),[],some (au (a.length+b.length))⟩
  |_=>.fail
 |.nilq b,.nil=>match b8 P t with
  |some _=>match op with
   |.eql=>aS (.bool b)
   |.neq=>aS (.bool (!b))
   |_=>.fail
  |none=>.fail
 |.ro d,.nil=>match b8 P t with
  |some _=>match op with
   |.eql=>.ret ⟨.c (.bool false),[],some (d.len≠0)⟩
   |.neq=>.ret ⟨.c (.bool true),[],some (d.len≠0)⟩
   |_=>.fail
  |none=>.fail
 |_,_=>.fail
def HZ(wr:Bool)(op:UnOp)(cx:SC):Rd Eff :=
 match op,cx with
 |.neg,.int k a=>.ret (iw wr k (-a))
 |.not,.bool b=>aS (.bool (!b))
 |_,_=>.fail
def jv(P:Program)(t:TypeId):Option IntKind :=
 match P.underlying t with
 |some (.int k)=>some k
 |_=>none
def H0(P:Program)(wr:Bool)(src dst:TypeId)(cx:SC):Rd Eff :=
 match cx with
 |.int _ n=>match P.underlying src with
  |some _=>match jv P dst with
   |some k=>.ret (iw wr k n)
   |none=>.fail
  |none=>.fail
 |_=>.fail
def H1:FC->Option FC
 |.rows k _=>some (.ints k [])
 |.r3 k _=>some (.rows k [])
 |.r4 k _=>some (.r3 k [])
 |_=>none
def j9:FC->FC->Option FC
 |.rows k l,.rows k' l'=>if k=k' then some (.rows k (l++l'))else none
 |.r3 k l,.r3 k' l'=>if k=k' then some (.r3 k (l++l'))else none
 |.r4 k l,.r4 k' l'=>if k=k' then some (.r4 k (l++l'))else none
 |.p3 k l,.p3 k' l'=>if k=k' then some (.p3 k (l++l'))else none
 |_,_=>none
def gU:List FC->Option FC
 | []=>none
 | [.ints k x]=>some (.rows k [x])
 | [.rows k x]=>some (.r3 k [x])
 | [.r3 k x]=>some (.r4 k [x])
 |.ints k x::l=>match gU l with
  |some (.rows k' ls)=>if k=k' then some (.rows k (x::ls))else none
  |_=>none
 |.rows k x::l=>match gU l with
  |some (.r3 k' ls)=>if k=k' then some (.r3 k (x::ls))else none
  |_=>none
 |.r3 k x::l=>match gU l with
  |some (.r4 k' ls)=>if k=k' then some (.r4 k (x::ls))else none
  |_=>none
 |_=>none
def w6(P:Program):Nat->TypeId->List TypeId
 |0,_=>[]
 |n+1,t=>match b8 P t with
  |some e=>e::w6 P n e
  |none=>[]
def H2:FC->Nat->Option FC
 |.rows k _,n=>some (.rows k (List.replicate n []))
 |.r3 k _,n=>some (.r3 k (List.replicate n []))
 |.r4 k _,n=>some (.r4 k (List.replicate n []))
 |_,_=>none
def pA:Ob->Option (List TypeId×FC)
 |.ints e k l=>some ([e],.ints k l)
 |.rows _ e ei k l=>some ([e,ei],.rows k l)
 |.tr _ es d=>some (es,d)
 |_=>none
def w7:FC->Option (IntKind×D6)
 |.ints k l=>some (k,l)
 |_=>none
def H3:SC->SC
 |.orig _ _ d=>.ro d
 |c=>c
def w8(P:Program)(t:TypeId)(cx:SC):Rd Eff :=
 match nv P t with
 |none=>.fail
 |some true=>match cU P t with
  |none=>.fail
  |some n=>match cx with
   |.ptr o i=>.h o fun
    |.box cs=>if i+n<=cs.length then .ret ⟨.agg ((cs.drop i).take n),[],none⟩else .fail
    |_=>.fail
   |.rob cs i=>if i+n<=cs.length then .ret ⟨.agg (((cs.drop i).take n).map dB),[],none⟩else .fail
   |.rop d i=>match n,d with
    |1,.r3 k l=>.ret ⟨.agg [.ro (.rows k (l.getD i []))],[],none⟩
    |_,_=>.fail
   |_=>.fail
 |some false=>match cx with
  |.ptr o i=>.h o fun
   |.box cs=>match cs[i]? with
    |some c=>aS (H3 c)
    |none=>.fail
   |.ints _ k l=>aS (.int k (l.getD i 0))
   |.bools _ l=>aS (.bool (l.getD i false))
   |.rows ver _ _ _ _=>aS (.row o ver i)
   |.bx _=>.fail
   |.strs _ l=>aS (.str (l.getD i []))
   |.lst _ _ d=>match c9 d i with
    |some x=>aS (.ro x)
    |none=>.fail
   |.frz _=>.fail
   |.mp _=>.fail
   |.qu _ _ _=>.fail
   |.rowsH _ _ _ _ _ _=>.fail
   |.tr _ _ _=>.fail
   |.yd _ _ _ _=>.fail
   |.trk _ _ _ _=>.fail
  |.rptr o ver i j=>.h o fun
   |.rows ver' _ _ k l=>if ver=ver' then aS (.int k ((l.getD i []).getD j 0))else .fail
   |_=>.fail
  |.rop d i=>match d with
   |.ints k l=>aS (.int k (l.getD i 0))
   |.bools l=>aS (.bool (l.getD i false))
   |.rows k l=>aS (.ro (.ints k (l.getD i [])))
   |.r3 k l=>aS (.ro (.rows k (l.getD i [])))
   |.r4 k l=>aS (.ro (.r3 k (l.getD i [])))
   |_=>.fail
  |.rob cs i=>match cs[i]? with
   |some fc=>aS (dB fc)
   |none=>.fail
  |.rbb cs=>aS (.rob cs 0)
  |.qptr o i=>.h o fun
   |.qu _ k l=>aS (.int k (l.getD i 0))
   |_=>.fail
  |.kptr o ver p j=>.h o fun
   |.tr ver' _ d=>if ver=ver' then(match jr d p with
    |some x=>match w7 x with
     |some (k,l)=>aS (.int k (l.getD j 0))
     |none=>match c9 x j with
      |some _=>aS (.kid o ver (p++[j]))
      |none=>.fail
    |none=>.fail)else .fail
   |_=>.fail
  |_=>.fail
def H4(P:Program)(d:Nat)(t:TypeId)(cx:SC):Rd Eff :=
 match nv P t with
 |some false=>match cx with
  |.kptr o ver [] j=>.h o fun
   |.tr ver' [_,e,ei] (.r3 k l)=>if ver=ver' then .abs d (.ret ⟨.c (.own d),[(d,some (.rows 0 e ei k (l.getD j []))),(o,none)],none⟩)else .fail
   |.trk ver' [e0,e,ei] (.r3 k l) n=>if ver=ver' then .abs d (.ret ⟨.c (.own d),[(d,some (.rows 0 e ei k (l.getD j []))),(o,some (.trk (ver'+1) [e0,e,ei] (.r3 k l) (n+1)))],some (j=n/\n<l.length)⟩)else .fail
   |_=>.fail
  |_=>.fail
 |_=>.fail
def ep{α:Type}(d:FC)(r:Rd α):Rd α :=
 match d.wid with
 |1=>r
 |_=>.fail
def SC.plain:SC->Bool
 |.any=>false
 |.und=>false
 |_=>true
def H5(P:Program)(t:TypeId)(cx:SC)(sv:SV):Rd Eff :=
 match sv with
 |.c c =>
  if c.plain=true/\cU P t=some 1 then
   match cx with
   |.ptr o i=>.h o fun
    |.box cs=>if i<cs.length then .ret ⟨.c .any,[(o,some (.box (cs.set i c)))],none⟩else .fail
    |.ints e k l=>match c with
     |.int k' n=>if k=k' then .ret ⟨.c .any,[(o,some (.ints e k (l.set i n)))],none⟩else .fail
     |_=>.fail
    |.bools e l=>match c with
     |.bool b=>.ret ⟨.c .any,[(o,some (.bools e (l.set i b)))],none⟩
     |_=>.fail
    |.rows ver e ei k l=>match c with
     |.own o2=>.h o2 fun
      |.ints e2 k2 l2=>if e2=ei/\k2=k/\o2≠o then .ret ⟨.c .any,[(o2,none),(o,some (.rows (ver+1) e ei k (l.set i l2)))],none⟩else .fail
      |_=>.fail
     |.nil=>.ret ⟨.c .any,[(o,some (.rows (ver+1) e ei k (l.set i [])))],none⟩
     |_=>.fail
    |.bx _=>.fail
    |.strs _ _=>.fail
    |.lst ver e d=>match c with
     |.ro x=>match ga d i x with
      |some d'=>.ret ⟨.c .any,[(o,some (.lst ver e d'))],none⟩
      |none=>.fail
     |.nil=>match H1 d with
      |some x=>match ga d i x with
       |some d'=>.ret ⟨.c .any,[(o,some (.lst ver e d'))],none⟩
       |none=>.fail
      |none=>.fail
     |.own o2=>.h o2 λob2=>match gy ob2 with
      |some x=>match ga d i x with
       |some d'=>if o2≠o then .ret ⟨.c .any,[(o,some (.lst ver e d')),(o2,some (.frz x))],none⟩else .fail
       |none=>.fail
      |none=>.fail
     |_=>.fail
    |.frz _=>.fail
    |.mp _=>.fail
    |.qu _ _ _=>.fail
    |.rowsH ver e ei k l hs=>match c with
     |.own o2=>.h o2 fun
      |.ints e2 k2 l2=>if e2=ei/\k2=k/\o2≠o then
        (match hs with
        | [h]=>.ret ⟨.c .any,[(o2,none),(o,some (.rows (ver+1) e ei k (l.set i l2)))],some (i=h)⟩
        |h::hs'=>.ret ⟨.c .any,[(o2,none),(o,some (.rowsH (ver+1) e ei k (l.set i l2) hs'))],some (i=h/\¬ h∈hs')⟩
        | []=>.fail)else .fail
      |_=>.fail
     |_=>.fail
    |.tr _ _ _=>.fail
    |.yd _ _ _ _=>.fail
    |.trk _ _ _ _=>.fail
   |.kptr o ver p j=>.h o fun
    |.tr ver' es d=>match c with
     |.int k' n=>if ver=ver' then(match jr d p with
      |some x=>match w7 x with
       |some (k,l)=>if k=k' then(match nu d p (.ints k (l.set j n))with
        |some d'=>.ret ⟨.c .any,[(o,some (.tr ver' es d'))],none⟩
        |none=>.fail)else .fail
       |none=>.fail
      |none=>.fail)else .fail
     |.own o2=>.h o2 λob2=>match pA ob2 with
      |some (es2,y)=>if ver=ver'/\o2≠o/\gT es2 (es.drop (p.length+1))=true then(match jr d p with
       |some x=>ep x (match ga x j y with
        |some x'=>match nu d p x' with
         |some d'=>.ret ⟨.c .any,[(o2,none),(o,some (.tr (ver'+1) es d'))],none⟩
         |none=>.fail
        |none=>.fail)
       |none=>.fail)else .fail
      |none=>.fail
     |_=>.fail
    |_=>.fail
   |.rptr o ver i j=>.h o fun
    |.rows ver' e ei k l=>match c with
     |.int k' n=>if ver=ver'/\k=k' then .ret ⟨.c .any,[(o,some (.rows ver' e ei k (l.set i ((l.getD i []).set j n))))],none⟩else .fail
     |_=>.fail
    |_=>.fail
   |_=>.fail
  else .fail
 |.agg cs' =>
  if cU P t=some cs'.length then
   match cx with
   |.ptr o i=>.h o fun
    |.box cs=>if i+cs'.length<=cs.length then .ret ⟨.c .any,[(o,some (.box (cs.take i++cs'++cs.drop (i+cs'.length))))],none⟩else .fail
    |_=>.fail
   |_=>.fail
  else .fail
 |_=>.fail
def iV(P:Program)(t:TypeId):Option (List SC) :=
 match P.info? t with
 |some i=>match i.zero with
  |some z=>eM pz z.cells.toList
  |none=>none
 |none=>none
def H6(P:Program)(d:Nat)(t:TypeId):Rd Eff :=
 match iV P t with
 |some cs=>.abs d (if cs.isEmpty=false then .ret ⟨.c (.ptr d 0),[(d,some (.box cs))],none⟩else .fail)
 |none=>.fail
def H7(d:Nat)(sv:SV):Rd Eff :=
 match sv with
 |.c c=>if c.plain then .abs d (.ret ⟨.c (.ptr d 0),[(d,some (.box [c]))],none⟩)else .fail
 |.agg cs=>.abs d (if cs.isEmpty=false then .ret ⟨.c (.ptr d 0),[(d,some (.box cs))],none⟩else .fail)
 |_=>.fail
def ka:SV->Option (List SC)
 |.c c=>if c.plain then some [c]else none
 |.agg l=>some l
 |_=>none
def w9(P:Program)(fs:Array Field):List (Nat×Operand)->List SC->(List SC->Rd Eff)->Rd Eff
 | [],cs,k=>k cs
 |(i,x)::rest,cs,k=>fQ x λsv=>match ka sv with
  |none=>.fail
  |some l=>match fs[i]? with
   |none=>.fail
   |some fd=>if cU P fd.type=some l.length/\fd.offset+l.length<=cs.length then
     w9 P fs rest (cs.take fd.offset++l++cs.drop (fd.offset+l.length)) k
    else .fail
def H8(P:Program)(t:TypeId)(parts:Array (Nat×Operand)):Rd Eff :=
 match iV P t with
 |none=>.fail
 |some cs=>match P.underlying t with
  |some (.struct fs)=>match eM (λf:Field=>cU P f.type) fs.toList with
   |some _=>w9 P fs parts.toList cs λcs=>.ret ⟨.agg cs,[],none⟩
   |none=>.fail
  |_=>.fail
def iW{α:Type}:List Operand->(List SV->Rd α)->Rd α
 | [],k=>k []
 |x::l,k=>fQ x λsv=>iW l λsvs=>k (sv::svs)
def rC(k:IntKind):List SV->Option D6
 | []=>some []
 |.c (.int k' n)::l=>if k=k' then(match rC k l with|some ns=>some (n::ns)|none=>none)else none
 |_=>none
def rD:List SV->Option (List Bool)
 | []=>some []
 |.c (.bool b)::l=>(match rD l with|some ns=>some (b::ns)|none=>none)
 |_=>none
def rE:List SV->Option (List (List UInt8))
 | []=>some []
 |.c (.str b)::l=>(match rE l with|some ns=>some (b::ns)|none=>none)
 |_=>none
def rF(ei:TypeId)(ki:IntKind):List SV->List Nat->(D7->List Nat->Rd Eff)->Rd Eff
 | [],_,k=>k [] []
 |.c .nil::l,used,k=>rF ei ki l used λls os=>k ([]::ls) os
 |.c (.own o)::l,used,k=>.h o fun
  |.ints e k' r=>if e=ei/\k'=ki/\used.all (λu=>!(Nat.beq u o))then rF ei ki l (o::used) λls os=>k (r::ls) (o::os)else .fail
  |_=>.fail
 |_,_,_=>.fail
def xa:List SC->Option D7
 | []=>some []
 |.ro (.ints .i64 l)::cs=>match xa cs with
  |some ls=>some (l::ls)
  |none=>none
 |_=>none
def nw(hint:Bool):List SV->(Option (List FC×List (Nat×Option Ob))->Rd Eff)->Rd Eff
 | [],K=>K (some ([],[]))
 |.c (.ro d)::l,K=>nw hint l fun
  |some (ds,fs)=>K (some (d::ds,fs))
  |none=>K none
 |.c (.own o)::l,K=>.h o λob=>match ob with
  |.frz d=>nw hint l fun
   |some (ds,fs)=>K (some (d::ds,fs))
   |none=>K none
  |ob=>match hint with
   |true=>match gy ob with
    |some d=>nw hint l fun
     |some (ds,fs)=>K (some (d::ds,(o,some (.frz d))::fs))
     |none=>K none
    |none=>K none
   |false=>K none
 |_,K=>K none
def Rr(P:Program)(e:TypeId):Option IntKind :=
 match P.underlying e with
 |some (.struct fs)=>match fs.toList with
  | [f,g]=>match P.underlying f.type,P.underlying g.type with
   |some (.slice e1),some (.slice e2)=>match P.underlying e1,P.underlying e2 with
    |some (.slice a),some (.slice b)=>match jv P a,jv P b with
     |some k,some k'=>if k=k'/\f.offset=0/\g.offset=1 then some k else none
     |_,_=>none
    |_,_=>none
   |_,_=>none
  |_=>none
 |_=>none
def iy(P:Program)(t:TypeId):Option FC :=
 match P.underlying t with
 |some (.slice e)=>match P.underlying e with
  |some (.int k)=>some (.ints k [])
  |some .bool=>some (.bools [])
  |some (.slice e2)=>match P.underlying e2 with
   |some (.int k)=>some (.rows k [])
   |some (.slice e3)=>match P.underlying e3 with
    |some (.int k)=>some (.r3 k [])
    |some (.slice e4)=>match jv P e4 with
     |some k=>some (.r4 k [])
     |none=>none
    |_=>none
   |_=>none
  |some (.struct _)=>match Rr P e with
   |some k=>some (.p3 k [])
   |none=>none
  |_=>none
 |_=>none
def H9(P:Program)(hint:Bool)(d:Nat)(t:TypeId)(len:Nat)(parts:Array (Nat×Operand)):Rd Eff :=
 if(parts.toList.map (·.1))=List.range len/\len<=1000 then
  match b8 P t with
  |none=>.fail
  |some e=>match Rr P e with
   |none=>.fail
   |some k=>if cU P e=some 2/\(iV P e).isSome=true then
     iW (parts.toList.map (·.2)) λsvs=>match svs with
     | []=>.abs d (.ret ⟨.c (.own d),[(d,some (.lst 0 e (.p3 k [])))],none⟩)
     | [.agg [c1,c2]]=>nw hint [.c c1,.c c2] λpr=>match pr with
      |some ([.rows k1 x,.rows k2 y],fs)=>if k1=k/\k2=k then .abs d (.ret ⟨.c (.own d),(d,some (.lst 0 e (.p3 k [(x,y)])))::fs,none⟩)else .fail
      |_=>match c1,c2 with
       |.own o1,.own o2=>.h o1 λob1=>.h o2 λob2=>match ob1,ob2 with
        |.rows _ e1 ei1 k1 x,.rows _ e2 ei2 k2 y=>if e1=e2/\ei1=ei2/\k1=k/\k2=k/\o1≠o2 then
          .abs d (.ret ⟨.c (.own d),[(d,some (.tr 0 [e,e1,ei1] (.p3 k [(x,y)]))),(o1,none),(o2,none)],none⟩)else .fail
        |_,_=>.fail
       |_,_=>.fail
     |_=>.fail
    else .fail
 else .fail
def Ia(P:Program)(d:Nat)(t:TypeId)(len:Nat)(parts:Array (Nat×Operand)):Rd Eff :=
 if(parts.toList.map (·.1))=List.range len/\len<=1000 then
  match b8 P t with
  |none=>.fail
  |some e=>if cU P e=some 1/\(iV P e).isSome=true then
    iW (parts.toList.map (·.2)) λsvs=>match svs with
    | [.agg [.own o2]]=>.h o2 fun
     |.rows _ e2 ei2 k2 y=>.abs d (.ret ⟨.c (.own d),[(d,some (.tr 0 [e,e2,ei2] (.r3 k2 [y]))),(o2,none)],none⟩)
     |_=>.fail
    |_=>.fail
   else .fail
 else .fail
def Ib(P:Program)(hint:Bool)(d:Nat)(t:TypeId)(len:Nat)(parts:Array (Nat×Operand)):Rd Eff :=
 if(parts.toList.map (·.1))=List.range len/\len<=1000 then
  match b8 P t with
  |none=>.fail
  |some e=>if cU P e=some 1/\(iV P e).isSome=true then
    match P.underlying e with
    |some (.int k)=>iW (parts.toList.map (·.2)) λsvs=>match rC k svs with
     |some l=>.abs d (.ret ⟨.c (.own d),[(d,some (.ints e k l))],none⟩)
     |none=>.fail
    |some .bool=>iW (parts.toList.map (·.2)) λsvs=>match rD svs with
     |some l=>.abs d (.ret ⟨.c (.own d),[(d,some (.bools e l))],none⟩)
     |none=>.fail
    |some .string=>iW (parts.toList.map (·.2)) λsvs=>match rE svs with
     |some l=>.abs d (.ret ⟨.c (.own d),[(d,some (.strs e l))],none⟩)
     |none=>.fail
    |some (.slice ei)=>iW (parts.toList.map (·.2)) λsvs=>nw hint svs λpr=>match pr with
     |some (x::xs,fs)=>match gU (x::xs)with
      |some dd=>.abs d (.ret ⟨.c (.own d),(d,some (.lst 0 e dd))::fs,none⟩)
      |none=>.fail
     |_=>match jv P ei with
      |some ki=>rF ei ki svs [] λls os =>
        .abs d (.ret ⟨.c (.own d),(d,some (.rows 0 e ei ki ls))::os.map (λo=>(o,none)),none⟩)
      |none=>match svs with
       | []=>match iy P t with
        |some dd=>ep dd (.abs d (.ret ⟨.c (.own d),[(d,some (.lst 0 e dd))],none⟩))
        |none=>.fail
       |_=>.fail
    |_=>.fail
   else .fail
 else .fail
def Ic(P:Program)(d:Nat)(t:TypeId)(len:Nat)(parts:Array (Nat×Operand)):Rd Eff :=
 if(parts.toList.map (·.1))=List.range len/\len<=1000 then
  match b8 P t with
  |none=>.fail
  |some e=>if cU P e=some 1/\(iV P e).isSome=true then
    match iy P t with
    |none=>.fail
    |some d0=>iW (parts.toList.map (·.2)) λsvs=>match svs with
     | []=>match w6 P 4 t with
      |e1::e2::es=>if e1=e/\d0.dep=es.length+1 then ep d0 (.abs d (.ret ⟨.c (.own d),[(d,some (.tr 0 (e1::e2::es) d0))],none⟩))else .fail
      |_=>.fail
     | [.c (.own o2)]=>.h o2 λob2=>match pA ob2 with
      |some (es2,y)=>match gU [y]with
       |some dd=>.abs d (.ret ⟨.c (.own d),[(d,some (.tr 0 (e::es2) dd)),(o2,none)],none⟩)
       |none=>.fail
      |none=>.fail
     | [.c (.own o1),.c (.own o2)]=>.h o1 λob1=>.h o2 λob2=>match pA ob1 with
      |some (es1,y1)=>match pA ob2 with
       |some (es2,y2)=>match gU [y1,y2]with
        |some dd=>match gT es1 es2&&!Nat.beq o1 o2 with
         |true=>.abs d (.ret ⟨.c (.own d),[(d,some (.tr 0 (e::es1) dd)),(o1,none),(o2,none)],none⟩)
         |false=>.fail
        |none=>.fail
       |none=>.fail
      |none=>.fail
     |_=>.fail
   else .fail
 else .fail
def Id(P:Program)(s:TypeId)(cx:SC)(f:Nat):Rd Eff :=
 match P.underlying s with
 |some (.struct fs)=>match fs[f]? with
  |none=>.fail
  |some fd=>match cU P fd.type with
   |some (_+1)=>match cx with
    |.ptr o i=>.h o fun
     |.box cs=>if i+fd.offset<cs.length then aS (.ptr o (i+fd.offset))else .fail
     |_=>.fail
    |.rob cs i=>aS (.rob cs (i+fd.offset))
    |.kptr o ver p j=>.h o fun
     |.tr ver' _ d=>match p with
      | []=>if ver=ver' then(match fd.offset with
       |0=>.ret ⟨.c (.kptr o ver [] j),[],some (j<d.cn)⟩
       |1=>.ret ⟨.c (.kptr o ver [] (j+1)),[],some (j+1<d.cn)⟩
       |_=>.fail)else .fail
      |_::_=>.fail
     |_=>.fail
    |_=>.fail
   |_=>.fail
 |_=>.fail
def Ie(P:Program)(s:TypeId)(sv:SV)(f:Nat):Rd Eff :=
 match P.underlying s with
 |some (.struct fs)=>match fs[f]? with
  |none=>.fail
  |some fd=>match sv with
   |.agg cs=>match nv P fd.type with
    |some true=>match cU P fd.type with
     |some n=>if fd.offset+n<=cs.length then .ret ⟨.agg ((cs.drop fd.offset).take n),[],none⟩else .fail
     |none=>.fail
    |some false=>match cs[fd.offset]? with
     |some c=>aS c
     |none=>.fail
    |none=>.fail
   |_=>.fail
 |_=>.fail
def ac(n:Int)(len:Nat):Prop:=0<=n/\n<(len:Int)
def If(P:Program)(t:TypeId)(cx ci:SC):Rd Eff :=
 match b8 P t with
 |none=>.fail
 |some e=>if cU P e=some 1 then
   match ci with
   |.int _ n=>match cx with
    |.own o=>.h o λob=>match ob with
     |.box _=>.fail
     |.bx _=>.fail
     |.strs _ l=>.ret ⟨.c (.ptr o n.toNat),[],some (ac n l.length)⟩
     |.ints _ _ l=>.ret ⟨.c (.ptr o n.toNat),[],some (ac n l.length)⟩
     |.bools _ l=>.ret ⟨.c (.ptr o n.toNat),[],some (ac n l.length)⟩
     |.rows _ _ _ _ l=>.ret ⟨.c (.ptr o n.toNat),[],some (ac n l.length)⟩
     |.lst _ _ d=>ep d (.ret ⟨.c (.ptr o n.toNat),[],some (ac n d.len)⟩)
     |.frz _=>.fail
     |.mp _=>.fail
     |.qu _ _ l=>.ret ⟨.c (.qptr o n.toNat),[],some (ac n l.length)⟩
     |.rowsH _ _ _ _ l _=>.ret ⟨.c (.ptr o n.toNat),[],some (ac n l.length)⟩
     |.tr ver _ d=>ep d (.ret ⟨.c (.kptr o ver [] n.toNat),[],some (ac n d.len)⟩)
     |.yd _ _ _ _=>.fail
     |.trk ver _ d _=>ep d (.ret ⟨.c (.kptr o ver [] n.toNat),[],some (ac n d.len)⟩)
    |.kid o ver p=>.h o fun
     |.tr ver' _ d=>if ver=ver' then(match jr d p with
      |some x=>ep x (.ret ⟨.c (.kptr o ver p n.toNat),[],some (ac n x.len)⟩)
      |none=>.fail)else .fail
     |_=>.fail
    |.pre o len=>.h o λob=>kZ ob (.ret ⟨.c (.ptr o n.toNat),[],some (ac n len)⟩)
    |.sub o off len=>.h o λob=>kZ ob (.ret ⟨.c (.ptr o (off+n.toNat)),[],some (ac n len)⟩)
    |.row o ver i=>.h o fun
     |.rows ver' _ _ _ l=>if ver=ver' then .ret ⟨.c (.rptr o ver i n.toNat),[],some (ac n (l.getD i []).length)⟩else .fail
     |_=>.fail
    |.ro d=>match d with
     |.ints k l=>.ret ⟨.c (.rop (.ints k l) n.toNat),[],some (ac n l.length)⟩
     |.bools l=>.ret ⟨.c (.rop (.bools l) n.toNat),[],some (ac n l.length)⟩
     |.rows k l=>.ret ⟨.c (.rop (.rows k l) n.toNat),[],some (ac n l.length)⟩
     |.r3 k l=>.ret ⟨.c (.rop (.r3 k l) n.toNat),[],some (ac n l.length)⟩
     |.r4 k l=>.ret ⟨.c (.rop (.r4 k l) n.toNat),[],some (ac n l.length)⟩
     |_=>.fail
    |_=>.fail
   |_=>.fail
  else if cU P e=some 2 then
   match ci with
   |.int _ n=>match cx with
    |.own o=>.h o fun
     |.tr ver _ (.p3 k l)=>.ret ⟨.c (.kptr o ver [] (n.toNat*2)),[],some (ac n (FC.p3 k l).len)⟩
     |_=>.fail
    |.ro (.p3 k l)=>.ret ⟨.c (.rob [.rows k (l.getD n.toNat ([],[])).1,.rows k (l.getD n.toNat ([],[])).2] 0),[],some (ac n l.length)⟩
    |_=>.fail
   |_=>.fail
  else .fail
def xb(cx:SC):Rd Eff :=
 match cx with
 |.nil=>aS (.int .i64 0)
 |.str l=>aS (.int .i64 (l.length:Int))
 |.own o=>.h o λob=>match ob with
  |.box _=>.fail
  |.bx _=>.fail
  |.strs _ l=>aS (.int .i64 (l.length:Int))
  |.ints _ _ l=>aS (.int .i64 (l.length:Int))
  |.bools _ l=>aS (.int .i64 (l.length:Int))
  |.rows _ _ _ _ l=>aS (.int .i64 (l.length:Int))
  |.lst _ _ d=>aS (.int .i64 (d.len:Int))
  |.frz _=>.fail
  |.mp _=>.fail
  |.qu _ _ l=>aS (.int .i64 (l.length:Int))
  |.rowsH _ _ _ _ l _=>aS (.int .i64 (l.length:Int))
  |.tr _ _ d=>aS (.int .i64 (d.len:Int))
  |.yd _ _ _ _=>.fail
  |.trk _ _ d _=>aS (.int .i64 (d.len:Int))
 |.kid o ver p=>.h o fun
  |.tr ver' _ d=>if ver=ver' then(match jr d p with
   |some x=>aS (.int .i64 (x.len:Int))
   |none=>.fail)else .fail
  |_=>.fail
 |.pre o n=>.h o λob=>kZ ob (aS (.int .i64 (n:Int)))
 |.sub o _ n=>.h o λob=>kZ ob (aS (.int .i64 (n:Int)))
 |.row o ver i=>.h o fun
  |.rows ver' _ _ _ l=>if ver=ver' then aS (.int .i64 ((l.getD i []).length:Int))else .fail
  |_=>.fail
 |.ro d=>match d with
  |.ints _ l=>aS (.int .i64 (l.length:Int))
  |.bools l=>aS (.int .i64 (l.length:Int))
  |.rows _ l=>aS (.int .i64 (l.length:Int))
  |.r3 _ l=>aS (.int .i64 (l.length:Int))
  |.r4 _ l=>aS (.int .i64 (l.length:Int))
  |.p3 _ l=>aS (.int .i64 (l.length:Int))
  |_=>.fail
 |_=>.fail
def lZ{α:Type}(x:Option Operand)(k:Option Int->Rd α):Rd α :=
 match x with
 |none=>k none
 |some y=>cY y fun
  |.int _ n=>k (some n)
  |_=>.fail
def bS(L:Nat):Option Int->Option Int->Prop
 |none,none=>True
 |none,some h=>0<=h/\h<=(L:Int)
 |some l,none=>0<=l/\l<=(L:Int)
 |some l,some h=>0<=l/\l<=h/\h<=(L:Int)
def cZ{α:Type}(r:List α):Option Int->Option Int->List α
 |none,none=>r
 |none,some h=>r.take h.toNat
 |some l,none=>r.drop l.toNat
 |some l,some h=>(r.take h.toNat).drop l.toNat
def l7(o L:Nat):Option Int->Option Int->SC
 |none,none=>.pre o L
 |none,some h=>.pre o h.toNat
 |some l,none=>.sub o l.toNat (L-l.toNat)
 |some l,some h=>.sub o l.toNat (h.toNat-l.toNat)
def Rs(o off L:Nat):Option Int->Option Int->SC
 |none,none=>.sub o off L
 |none,some h=>.sub o off h.toNat
 |some l,none=>.sub o (off+l.toNat) (L-l.toNat)
 |some l,some h=>.sub o (off+l.toNat) (h.toNat-l.toNat)
def rG(P:Program)(t:TypeId)(cx:SC)(lo hi:Option Operand):Rd Eff :=
 match cx with
 |.str r=>match P.underlying t with
  |some .string=>lZ lo λl=>lZ hi λh=>.ret ⟨.c (.str (cZ r l h)),[],some (bS r.length l h)⟩
  |_=>.fail
 |cx=>match b8 P t with
  |none=>.fail
  |some e=>if cU P e=some 1 then
    lZ lo λl=>lZ hi λh=>match cx with
     |.own o=>.h o fun
      |.box _=>.fail
      |.bx _=>.fail
      |.strs _ _=>.fail
      |.ints _ _ r=>.ret ⟨.c (l7 o r.length l h),[],some (bS r.length l h)⟩
      |.bools _ r=>.ret ⟨.c (l7 o r.length l h),[],some (bS r.length l h)⟩
      |.rows _ _ _ _ r=>.ret ⟨.c (l7 o r.length l h),[],some (bS r.length l h)⟩
      |.lst _ _ d=>ep d (.ret ⟨.c (l7 o d.len l h),[],some (bS d.len l h)⟩)
      |.frz _=>.fail
      |.mp _=>.fail
      |.qu _ _ _=>.fail
      |.rowsH _ _ _ _ _ _=>.fail
      |.tr _ _ _=>.fail
      |.yd _ _ _ _=>.fail
      |.trk _ _ _ _=>.fail
     |.pre o L=>.h o λob=>kZ ob (.ret ⟨.c (l7 o L l h),[],some (bS L l h)⟩)
     |.sub o off L=>.h o λob=>kZ ob (.ret ⟨.c (Rs o off L l h),[],some (bS L l h)⟩)
     |.ro d=>match d with
      |.ints k r=>.ret ⟨.c (.ro (.ints k (cZ r l h))),[],some (bS r.length l h)⟩
      |.bools r=>.ret ⟨.c (.ro (.bools (cZ r l h))),[],some (bS r.length l h)⟩
      |.rows k r=>.ret ⟨.c (.ro (.rows k (cZ r l h))),[],some (bS r.length l h)⟩
      |.r3 k r=>.ret ⟨.c (.ro (.r3 k (cZ r l h))),[],some (bS r.length l h)⟩
      |.r4 k r=>.ret ⟨.c (.ro (.r4 k (cZ r l h))),[],some (bS r.length l h)⟩
      |_=>.fail
     |_=>.fail
   else .fail
def xc(P:Program)(d:Nat)(t:TypeId)(cx:SC)(lo hi:Option Operand):Rd Eff :=
 match cx with
 |.own o=>.h o fun
  |.qu e k l=>match b8 P t,hi with
   |some e',none=>if cU P e'=some 1 then
     lZ lo fun
      |some n=>.abs d (.ret ⟨.c (.own d),[(d,some (.qu e k (l.drop n.toNat))),(o,none)],some (0<=n/\n<=(l.length:Int))⟩)
      |none=>.fail
    else .fail
   |_,_=>.fail
  |_=>rG P t (.own o) lo hi
 |cx=>rG P t cx lo hi
def xd(h:Int):Ob->Option (Nat×Ob)
 |.ints e k r=>some (r.length,.ints e k (r.take h.toNat))
 |.lst _ e d=>match d with
  |.rows k r=>some (r.length,.lst 0 e (.rows k (r.take h.toNat)))
  |_=>none
 |_=>none
def Ig(P:Program)(d:Nat)(t:TypeId)(cx:SC)(lo hi:Option Operand):Rd Eff :=
 match cx,lo with
 |.own o,none=>.h o λob=>match b8 P t with
  |some e=>if cU P e=some 1 then lZ hi fun
    |some n=>match xd n ob with
     |some (L,ob')=>.abs d (.ret ⟨.c (.own d),[(d,some ob'),(o,none)],some (0<=n/\n<=(L:Int))⟩)
     |none=>.fail
    |none=>.fail
   else .fail
  |none=>.fail
 |_,_=>.fail
def jw(P:Program)(e:TypeId):Bool :=
 match P.info? e with
 |some i=>Nat.ble i.bytes 128&&Nat.beq i.size 1&&(match i.zero with|some z=>Nat.beq z.cells.size 1|none=>false)
 |none=>false
def Ih(P:Program)(e:TypeId):Bool :=
 match P.info? e with
 |some i=>Nat.ble i.bytes 128&&Nat.beq i.size 2&&(match i.zero with|some z=>Nat.beq z.cells.size 2|none=>false)
 |none=>false
def pB(P:Program)(e:TypeId)(c:SC):Bool :=
 match P.info? e with
 |some i=>match i.zero with
  |some (.int k n)=>match c with
   |.int k' n'=>decide (k=k'/\n=n')
   |_=>false
  |some (.bool b)=>match c with
   |.bool b'=>b == b'
   |_=>false
  |some (.slice none 0 0)=>match c with
   |.nil=>true
   |_=>false
  |_=>false
 |none=>false
def Ii(P:Program)(d:Nat)(t:TypeId)(cl cc:SC):Rd Eff :=
 match b8 P t with
 |none=>.fail
 |some e=>if jw P e then
   match cl,cc with
   |.int _ n,.int _ m=>match P.underlying e with
    |some (.int k)=>if pB P e (.int k 0)then .abs d (.ret ⟨.c (.own d),[(d,some (.ints e k (List.replicate n.toNat 0)))],some (0<=n/\n<=m/\au m.toNat)⟩)else .fail
    |some .bool=>if pB P e (.bool false)then .abs d (.ret ⟨.c (.own d),[(d,some (.bools e (List.replicate n.toNat false)))],some (0<=n/\n<=m/\au m.toNat)⟩)else .fail
    |some (.slice ei)=>match jv P ei with
     |some k=>if pB P e .nil then .abs d (.ret ⟨.c (.own d),[(d,some (.rows 0 e ei k (List.replicate n.toNat [])))],some (0<=n/\n<=m/\au m.toNat)⟩)else .fail
     |none=>match iy P t with
      |some d0=>match H2 d0 n.toNat,w6 P 4 t with
       |some dd,e1::e2::es=>if pB P e .nil=true/\e1=e/\d0.dep=es.length+1 then .abs d (.ret ⟨.c (.own d),[(d,some (.tr 0 (e1::e2::es) dd))],some (0<=n/\n<=m/\au m.toNat)⟩)else .fail
       |_,_=>.fail
      |none=>.fail
    |_=>.fail
   |_,_=>.fail
  else .fail
def rH(k:IntKind)(c:SC)(K:D6->Rd Eff):Rd Eff :=
 match c with
 |.nil=>K []
 |.own o=>.h o fun
  |.ints _ k' l=>if k'=k then K l else .fail
  |_=>.fail
 |.pre o n=>.h o fun
  |.ints _ k' l=>if k'=k then K (l.take n)else .fail
  |_=>.fail
 |.sub o off n=>.h o fun
  |.ints _ k' l=>if k'=k then K ((l.drop off).take n)else .fail
  |_=>.fail
 |.row o ver i=>.h o fun
  |.rows ver' _ _ k' l=>if k'=k/\ver=ver' then K (l.getD i [])else .fail
  |_=>.fail
 |.ro d=>match d with
  |.ints k' l=>if k'=k then K l else .fail
  |_=>.fail
 |_=>.fail
def xe(c:SC)(K:List Bool->Rd Eff):Rd Eff :=
 match c with
 |.nil=>K []
 |.own o=>.h o fun
  |.bools _ l=>K l
  |_=>.fail
 |.ro d=>match d with
  |.bools l=>K l
  |_=>.fail
 |_=>.fail
def Ij(c:SC)(K:List (List UInt8)->Rd Eff):Rd Eff :=
 match c with
 |.own o=>.h o fun
  |.strs _ l=>K l
  |_=>.fail
 |_=>.fail
def Ik(c:SC)(K:FC->List (Nat×Option Ob)->Rd Eff):Rd Eff :=
 match c with
 |.ro d=>K d []
 |.own o=>.h o fun
  |.lst _ _ d=>K d []
  |.rows _ _ _ k l=>K (.rows k l) [(o,some (.frz (.rows k l)))]
  |_=>.fail
 |.pre o n=>.h o fun
  |.lst _ _ d=>match cD 0 n d with
   |some d'=>K d' []
   |none=>.fail
  |_=>.fail
 |.sub o off n=>.h o fun
  |.lst _ _ d=>match cD off n d with
   |some d'=>K d' []
   |none=>.fail
  |_=>.fail
 |_=>.fail
def pC(o:Nat):List (Nat×Option Ob)->Bool
 | []=>true
 |(o',_)::l=>!(Nat.beq o' o)&&pC o l
def l8(wd d:Nat)(e:TypeId)(cx cy:SC):Rd Eff :=
 Ik cy λdy fy=>match cx with
  |.nil=>if dH dy=false/\dy.wid=wd then .abs d (.ret ⟨.c (.own d),(d,some (.lst 0 e dy))::fy,some (au dy.len)⟩)else .fail
  |.own o=>.h o fun
   |.lst _ e1 dx=>match j9 dx dy with
    |some dd=>if e1=e/\pC o fy=true/\dy.wid=wd then .abs d (.ret ⟨.c (.own d),(d,some (.lst 0 e dd))::(o,none)::fy,some (au (dx.len+dy.len))⟩)else .fail
    |none=>.fail
   |.rows _ e1 _ k l=>match j9 (.rows k l) dy with
    |some dd=>if e1=e/\pC o fy=true/\dy.wid=wd then .abs d (.ret ⟨.c (.own d),(d,some (.lst 0 e dd))::(o,none)::fy,some (au (l.length+dy.len))⟩)else .fail
    |none=>.fail
   |_=>.fail
  |.pre o n=>.h o fun
   |.lst _ e1 dx=>match cD 0 n dx with
    |some dx'=>match j9 dx' dy with
     |some dd=>if e1=e/\pC o fy=true/\dy.wid=wd then .abs d (.ret ⟨.c (.own d),(d,some (.lst 0 e dd))::(o,none)::fy,some (au (n+dy.len))⟩)else .fail
     |none=>.fail
    |none=>.fail
   |_=>.fail
  |_=>.fail
def rI(wd d:Nat)(e:TypeId)(cx:SC)(o2:Nat)(es2:List TypeId)(dy:FC):Rd Eff :=
 match cx with
 |.own o=>.h o fun
  |.tr _ es dx=>match j9 dx dy with
   |some dd=>if gT es es2=true/\es.head?=some e/\o≠o2/\dy.wid=wd then .abs d (.ret ⟨.c (.own d),[(d,some (.tr 0 es dd)),(o,none),(o2,none)],some (au (dx.len+dy.len))⟩)else .fail
   |none=>.fail
  |_=>.fail
 |_=>.fail
def kb(id o ver:Nat)(e ei:TypeId)(k:IntKind)(l:D7)(hs:List Nat)(i:Nat):List (Nat×Option Ob) :=
 [(id,some (.ints ei k (l.getD i []))),(o,some (.rowsH ver e ei k l hs))]
def Il(P:Program)(d:Nat)(t:TypeId)(cx cy:SC):Rd Eff :=
 match b8 P t with
 |none=>.fail
 |some e=>if jw P e then
   match P.underlying e with
   |some (.int k)=>rH k cy λys=>match cx with
    |.nil=>.abs d (.ret ⟨.c (.own d),[(d,some (.ints e k ys))],some (au ys.length)⟩)
    |.emp=>.abs d (.ret ⟨.c (.own d),[(d,some (.ints e k ys))],some (ys.length≠0/\au ys.length)⟩)
    |.own o=>.h o fun
     |.ints e' k' l=>if e'=e/\k'=k then .abs d (.ret ⟨.c (.own d),[(d,some (.ints e k (l++ys))),(o,none)],some (au (l.length+ys.length))⟩)else .fail
     |.qu e' k' l=>if e'=e/\k'=k then .abs d (.ret ⟨.c (.own d),[(d,some (.qu e k (l++ys))),(o,none)],some (ys.length≠0/\au (l.length+ys.length))⟩)else .fail
     |_=>.fail
    |.pre o n=>.h o fun
     |.ints e' k' l=>if e'=e/\k'=k then .abs d (.ret ⟨.c (.own d),[(d,some (.ints e k (l.take n++ys))),(o,none)],some (au (n+ys.length))⟩)else .fail
     |_=>.fail
    |.row o ver i=>.h o fun
     |.rows ver' e1 ei k' l=>if ver'=ver/\ei=e/\k'=k then .abs d (.abs (d+500000) (.ret ⟨.c (.own d),[(d,some (.ints e k (l.getD i []++ys))),(d+500000,none)]++kb (d+500000) o (ver+1) e1 ei k l [i] i,some (au ((l.getD i []).length+ys.length))⟩))else .fail
     |_=>.fail
    |_=>.fail
   |some .bool=>xe cy λys=>match cx with
    |.nil=>.abs d (.ret ⟨.c (.own d),[(d,some (.bools e ys))],some (au ys.length)⟩)
    |.own o=>.h o fun
     |.bools e' l=>if e'=e then .abs d (.ret ⟨.c (.own d),[(d,some (.bools e (l++ys))),(o,none)],some (au (l.length+ys.length))⟩)else .fail
     |_=>.fail
    |_=>.fail
   |some .string=>Ij cy λys=>match cx with
    |.own o=>.h o fun
     |.strs e' l=>if e'=e then .abs d (.ret ⟨.c (.own d),[(d,some (.strs e (l++ys))),(o,none)],some (au (l.length+ys.length))⟩)else .fail
     |_=>.fail
    |_=>.fail
   |some (.slice _)=>match cy with
    |.own o2=>.h o2 fun
     |.rows _ e2 ei2 k2 ys=>if e2=e then
       match cx with
       |.nil=>.abs d (.ret ⟨.c (.own d),[(d,some (.rows 0 e ei2 k2 ys)),(o2,none)],some (au ys.length)⟩)
       |.own o=>.h o fun
        |.rows _ e1 ei1 k1 l=>if e1=e/\ei1=ei2/\k1=k2/\o≠o2 then
          .abs d (.ret ⟨.c (.own d),[(d,some (.rows 0 e ei2 k2 (l++ys))),(o,none),(o2,none)],some (au (l.length+ys.length))⟩)else .fail
        |_=>l8 1 d e cx cy
       |_=>l8 1 d e cx cy
      else .fail
     |.tr _ es2 dy=>rI 1 d e cx o2 es2 dy
     |_=>l8 1 d e cx cy
    |_=>l8 1 d e cx cy
   |some (.struct _)=>match cy with
    |.own o2=>.h o2 fun
     |.tr _ es2 dy=>rI 1 d e cx o2 es2 dy
     |_=>.fail
    |_=>.fail
   |_=>.fail
  else match Ih P e with
   |false=>.fail
   |true=>match cy with
    |.own o2=>.h o2 fun
     |.tr _ es2 dy=>rI 2 d e cx o2 es2 dy
     |_=>l8 2 d e cx cy
    |_=>l8 2 d e cx cy
def Im(P:Program)(d:Nat)(t:TypeId)(cx cy:SC):Rd Eff:=.fail
def In(sv:SV)(i:Nat):Rd Eff :=
 match sv with
 |.tup l=>match l[i]? with
  |some (.inl c)=>aS c
  |some (.inr cs)=>.ret ⟨.agg cs,[],none⟩
  |none=>.fail
 |_=>.fail
def Io(P:Program)(t:TypeId)(cx ci:SC):Rd Eff:=.fail
def cM(o:Nat):List Nat->Bool
 | []=>true
 |x::l=>match Nat.beq x o with
  |true=>false
  |false=>cM o l
def memP(i j:Nat):List (Nat×Nat)->Bool
 | []=>false
 |(a,b)::l=>(Nat.beq a i&&Nat.beq b j)||memP i j l
def eN{α:Type}(hid:List Nat)(o:Nat)(K:Ob->Rd α):Rd α :=
 match cM o hid with
 |true=>.h o K
 |false=>.fail
def la{α:Type}(hid:List Nat)(nl:Option FC)(c:SC)(K:FC->Rd α):Rd α :=
 match c with
 |.int k n=>K (.int k n)
 |.bool b=>K (.bool b)
 |.str l=>K (.str l)
 |.nil=>match nl with
  |some d=>K d
  |none=>.fail
 |.own o=>eN hid o λob=>match ob with
  |.frz d=>K d
  |ob=>match fP ob with
   |some d=>K d
   |none=>.fail
 |.pre o n=>eN hid o λob=>match fP ob with
  |some d=>match cD 0 n d with
   |some d=>K d
   |none=>.fail
  |none=>.fail
 |.sub o off n=>eN hid o λob=>match fP ob with
  |some d=>match cD off n d with
   |some d=>K d
   |none=>.fail
  |none=>.fail
 |.row o ver i=>eN hid o fun
  |.rows ver' _ _ k l=>if ver=ver' then K (.ints k (l.getD i []))else .fail
  |_=>.fail
 |.kid o ver p=>eN hid o fun
  |.tr ver' _ d=>if ver=ver' then(match jr d p with
   |some x=>K x
   |none=>.fail)else .fail
  |_=>.fail
 |.ro d=>K d
 |.orig _ _ d=>K d
 |.bsl o _=>eN hid o fun
  |.box cs=>match xa cs with
   |some ls=>K (.rows .i64 ls)
   |none=>.fail
  |_=>.fail
 |_=>.fail
def Ip{α:Type}(c:SC)(K:FC->Rd α):Rd α :=
 match c with
 |.own o=>.h o λob=>match fP ob with
  |some d=>K d
  |none=>.fail
 |_=>.fail
def pD{α:Type}(hid:List Nat)(mt:List (Nat×Nat))(i j:Nat)(nl:Option FC)(c:SC)(K:FC->Rd α):Rd α :=
 match memP i j mt with
 |true=>Ip c K
 |false=>la hid nl c K
def rJ(P:Program)(t:TypeId):List TypeId :=
 match P.underlying t with
 |some (.struct fs)=>fs.toList.flatMap λf=>match P.underlying f.type with
  |some (.struct gs)=>gs.toList.map (·.type)
  |_=>[f.type]
 |_=>[t]
def Rt(P:Program):List TypeId->Option FC
 |t::_=>iy P t
 | []=>none
def ke{α:Type}(P:Program)(hid:List Nat)(mt:List (Nat×Nat))(i:Nat):Nat->List SC->List TypeId->(List FC->Rd α)->Rd α
 |_,[],_,K=>K []
 |j,c::cs,ts,K=>pD hid mt i j (Rt P ts) c λd=>ke P hid mt i (j+1) cs ts.tail λds=>K (d::ds)
def Iq(P:Program)(t:TypeId):TypeId :=
 match P.underlying t with
 |some (.pointer e)=>e
 |_=>t
def pE(ct:Option Post):Bool:=match ct with
 |some ⟨_,.c (.bool b),[]⟩=>b
 |_=>false
def nz(ct:Option Post):Prop:=match ct with
 |some ⟨p,.c (.bool _),[]⟩=>p
 |_=>False
def jx(ct:Option Post):Int:=match ct with
 |some ⟨_,.c (.int .i64 n),[]⟩=>n
 |_=>0
def jy(ct:Option Post):Prop:=match ct with
 |some ⟨p,.c (.int .i64 _),[]⟩=>p
 |_=>False
def Ru(P:Program)(t:TypeId):Nat :=
 match P.underlying t with
 |some (.int .i64)=>1
 |some (.slice e)=>match P.underlying e with
  |some (.slice _)=>4
  |_=>2
 |some .bool=>3
 |_=>0
def Ir(ps rs:List Nat)(ct:List AD->Option Post)(cds:List AD):Option FV :=
 match ps,rs with
 | [1],[3]=>some (.ib (λx=>nz (ct (.c (.int .i64 x)::cds))) (λx=>pE (ct (.c (.int .i64 x)::cds))))
 | [2],[3]=>some (.lb (λx=>nz (ct (.c (.ints .i64 x)::cds))) (λx=>pE (ct (.c (.ints .i64 x)::cds))))
 | [1,1],[1]=>some (.iii (λx y=>jy (ct (.c (.int .i64 x)::.c (.int .i64 y)::cds))) (λx y=>jx (ct (.c (.int .i64 x)::.c (.int .i64 y)::cds))))
 | [1,1],[3]=>some (.iib (λx y=>nz (ct (.c (.int .i64 x)::.c (.int .i64 y)::cds))) (λx y=>pE (ct (.c (.int .i64 x)::.c (.int .i64 y)::cds))))
 | [2,2],[1]=>some (.lli (λx y=>jy (ct (.c (.ints .i64 x)::.c (.ints .i64 y)::cds))) (λx y=>jx (ct (.c (.ints .i64 x)::.c (.ints .i64 y)::cds))))
 | [2,2],[3]=>some (.llb (λx y=>nz (ct (.c (.ints .i64 x)::.c (.ints .i64 y)::cds))) (λx y=>pE (ct (.c (.ints .i64 x)::.c (.ints .i64 y)::cds))))
 | [4],[3]=>some (.tb (λx=>nz (ct (.c (.rows .i64 x)::cds))) (λx=>pE (ct (.c (.rows .i64 x)::cds))))
 | [1],[1]=>some (.ii (λx=>jy (ct (.c (.int .i64 x)::cds))) (λx=>jx (ct (.c (.int .i64 x)::cds))))
 |_,_=>none
def Is:List SC->Option Nat
 | [.ptr o 0]=>some o
 |_=>none
def ld{α:Type}(P:Program)(hid:List Nat):List SC->(List AD->Rd α)->Rd α
 | [],K=>K []
 |c::cs,K=>match c with
  |.ptr o 0=>eN hid o fun
   |.box xs=>match Is xs with
    |some o2=>eN hid o2 fun
     |.box ys=>ke P hid [] 0 0 ys [] λds=>ld P hid cs λr=>K (.bb ds::r)
     |_=>.fail
    |none=>ke P hid [] 0 0 xs [] λds=>ld P hid cs λr=>K (.box ds::r)
   |_=>.fail
  |c=>la hid none c λd=>ld P hid cs λr=>K (.c d::r)
def pF{α:Type}(P:Program)(Γ:FuncId->Option Ctr)(hid:List Nat)(mt:List (Nat×Nat))(i:Nat)(t:TypeId)(sv:SV)(K:AD->Rd α):Rd α :=
 match sv with
 |.c c=>match c with
  |.ptr o x=>match x with
   |0=>eN hid o fun
    |.box xs=>ke P hid [] 0 0 xs (rJ P (Iq P t)) λds=>K (.box ds)
    |_=>.fail
   |_+1=>.fail
  |.rob cs x=>match x with
   |0=>K (.box cs)
   |_+1=>.fail
  |c=>pD hid mt i 0 (iy P t) c λd=>K (.c d)
 |.agg cs=>ke P hid mt i 0 cs (rJ P t) λds=>K (.agg ds)
 |.fv F=>K (.fv F)
 |.fn f caps=>match P.underlying t with
  |some (.func ps rs _)=>match Γ f with
    |none=>.fail
    |some ⟨[],ct⟩=>ld P hid caps λcds=>match Ir (ps.toList.map (Ru P)) (rs.toList.map (Ru P)) ct cds with
     |some F=>K (.fv F)
     |none=>.fail
    |some ⟨_::_,_⟩=>.fail
  |_=>.fail
 |.fvs _ _=>.fail
 |.tup _=>.fail
def kf{α:Type}(P:Program)(Γ:FuncId->Option Ctr)(hid:List Nat)(mt:List (Nat×Nat)):Nat->List SV->List TypeId->(List AD->Rd α)->Rd α
 |_,[],_,K=>K []
 |i,sv::svs,ts,K=>pF P Γ hid mt i (ts.headD 0) sv λad=>kf P Γ hid mt (i+1) svs ts.tail λads=>K (ad::ads)
def iX:RC->Option Ob
 |.ints e k l=>some (.ints e k l)
 |.bools e l=>some (.bools e l)
 |.rows e ei k l=>some (.rows 0 e ei k l)
 |.bx cs=>some (.box (cs.map dB))
 |.strs e l=>some (.strs e l)
 |.cut _ _ e ei k l=>some (.rows 0 e ei k l)
 |.lst e d=>some (.lst 0 e d)
 |.tr es d=>some (.tr 0 es d)
 |_=>none
def l9(id:Nat):RC->SC
 |.int k n=>.int k n
 |.bool b=>.bool b
 |.str l=>.str l
 |.ints _ _ _=>.own id
 |.bools _ _=>.own id
 |.rows _ _ _ _=>.own id
 |.nilq b=>.nilq b
 |.ro d=>.ro d
 |.bx _=>.ptr id 0
 |.strs _ _=>.own id
 |.cut off n _ _ _ _=>.sub id off n
 |.lst _ _=>.own id
 |.gone _=>.any
 |.tr _ _=>.own id
def pG:Nat->List RC->List (Nat×RC)
 |_,[]=>[]
 |j,x::l=>(j,x)::pG (j+1) l
def nA:Nat->List (RC ⊕ List RC)->List (Nat×RC)
 |_,[]=>[]
 |i,.inl x::l=>(16*i,x)::nA (i+1) l
 |i,.inr xs::l=>pG (16*i) xs++nA (i+1) l
def dC:RV->List (Nat×RC)
 |.c x=>[(0,x)]
 |.agg l=>pG 0 l
 |.tup l=>nA 0 l
 |.st _ _ _=>[]
def jz(d:Nat):Nat->List RC->List SC
 |_,[]=>[]
 |j,x::l=>l9 (d+1000*j) x::jz d (j+1) l
def lf(d:Nat):Nat->List (RC ⊕ List RC)->List (SC ⊕ List SC)
 |_,[]=>[]
 |i,.inl x::l=>.inl (l9 (d+1000*(16*i)) x)::lf d (i+1) l
 |i,.inr xs::l=>.inr (jz d (16*i) xs)::lf d (i+1) l
def mc(d:Nat):RV->SV
 |.c x=>.c (l9 (d+1000*0) x)
 |.agg l=>.agg (jz d 0 l)
 |.tup l=>.tup (lf d 0 l)
 |.st _ _ _=>.c .any
def rK:List FC->Bool
 | []=>true
 |d::l=>dH d&&rK l
def xf:RC->Bool
 |.ro _=>true
 |.lst _ _=>true
 |.bx cs=>!rK cs
 |_=>false
def roL:List (Nat×RC)->Bool
 | []=>false
 |(_,rc)::l=>xf rc||roL l
def md(rv:RV):Bool:=roL (dC rv)
def xg:SC->Option FC
 |.int k n=>some (.int k n)
 |.bool b=>some (.bool b)
 |.str l=>some (.str l)
 |.ro d=>some d
 |_=>none
def pH:SV->Option AD
 |.c c=>match xg c with
  |some d=>some (.c d)
  |none=>none
 |.agg l=>match eM xg l with
  |some ds=>some (.agg ds)
  |none=>none
 |_=>none
def It(c:Option Ctr)(svs:List SV):Option (List AD×Prop×RV) :=
 match c with
 |some ⟨[],ct⟩=>match eM pH svs with
  |some ads=>match ct ads with
   |some ⟨pre,ret,[]⟩=>match md ret with
    |true=>some (ads,pre,ret)
    |false=>none
   |_=>none
  |none=>none
 |_=>none
def eu(d:Nat):List (Nat×RC)->List (Nat×Option Ob)
 | []=>[]
 |(i,rc)::l=>match iX rc with
  |some ob=>(d+1000*i,some ob)::eu d l
  |none=>eu d l
def me{α:Type}(ids:List (Nat×Option Ob))(k:Rd α):Rd α :=
 match ids with
 | []=>k
 |(i,_)::l=>.abs i (me l k)
def fG:List Nat->Bool
 | []=>true
 |i::l=>cM i l&&fG l
def pI(svs:List SV):List (Nat×Nat)->Option (List Nat)
 | []=>some []
 |(i,j)::l=>match svs[i]? with
  |some sv=>match ka sv with
   |some cs=>match cs[j]? with
    |some (.own o)=>match pI svs l with
     |some os=>some (o::os)
     |none=>none
    |_=>none
   |none=>none
  |none=>none
def gz:List FC->List FC->Option Prop
 | [],[]=>some True
 |.int k _::l,.int k' _::l'=>if k=k' then gz l l' else none
 |.bool _::l,.bool _::l'=>gz l l'
 |.str _::l,.str _::l'=>gz l l'
 |.ints k a::l,.ints k' a'::l'=>if k=k' then(match gz l l' with|some p=>some (a=a'/\p)|none=>none)else none
 |.bools a::l,.bools a'::l'=>(match gz l l' with|some p=>some (a=a'/\p)|none=>none)
 |.rows k a::l,.rows k' a'::l'=>if k=k' then(match gz l l' with|some p=>some (a=a'/\p)|none=>none)else none
 |.r3 k a::l,.r3 k' a'::l'=>if k=k' then(match gz l l' with|some p=>some (a=a'/\p)|none=>none)else none
 |.r4 k a::l,.r4 k' a'::l'=>if k=k' then(match gz l l' with|some p=>some (a=a'/\p)|none=>none)else none
 |_,_=>none
def gV:List SC->List FC->List SC
 |c::cs,d::ds=>(if dH d then dB d else c)::gV cs ds
 |_,_=>[]
def dO:Ob->RC->Option (Ob×Prop)
 |.ints e k r,.ints e' k' r'=>if e=e'/\k=k' then some (.ints e k r',r'.length=r.length)else none
 |.bools e r,.bools e' r'=>if e=e' then some (.bools e r',r'.length=r.length)else none
 |.rows ver e ei k r,.rows e' ei' k' r'=>if e=e'/\ei=ei'/\k=k' then some (.rows ver e ei k r',r'.map List.length=r.map List.length)else none
 |.bx cs,.bx cs'=>match gz cs cs' with
  |some p=>some (.bx cs',p)
  |none=>none
 |.tr ver es r,.tr es' r'=>match gT es es'&&Nat.beq r.wid r'.wid with
  |true=>some (.tr ver es r',r'.len=r.len)
  |false=>none
 |.lst ver e d,.gone (.lst e' _)=>if e=e' then some (.lst ver e d,True)else none
 |.ints e k l,.gone (.ints e' k' _)=>if e=e'/\k=k' then some (.ints e k l,True)else none
 |.rows ver e ei k l,.gone (.rows e' ei' k' _)=>if e=e'/\ei=ei'/\k=k' then some (.rows ver e ei k l,True)else none
 |_,_=>none
def pJ(rc:RC)(ob:Ob):Option Ob:=match rc.isGone with
 |true=>none
 |false=>some ob
def nB{α:Type}:List Nat->List RC->(List (Nat×Option Ob)->Prop->Rd α)->Rd α
 | [],[],K=>K [] True
 |o::os,rc::rcs,K=>.h o λob=>match dO ob rc with
  |some (ob',p)=>nB os rcs λups q=>K ((o,pJ rc ob')::ups) (p/\q)
  |none=>.fail
 |_,_,_=>.fail
def xh{α:Type}(hid:List Nat)(nl:Option FC)(c:SC)(K:FC->List (Nat×Option Ob)->Rd α):Rd α :=
 match c with
 |.int k n=>K (.int k n) []
 |.bool b=>K (.bool b) []
 |.str l=>K (.str l) []
 |.nil=>match nl with
  |some d=>K d []
  |none=>.fail
 |.ro d=>K d []
 |.own o=>eN hid o λob=>match gy ob with
  |some d=>K d [(o,some (.frz d))]
  |none=>.fail
 |.pre o n=>eN hid o λob=>match gy ob with
  |some d=>match cD 0 n d with
   |some d'=>K d' [(o,some (.frz d))]
   |none=>.fail
  |none=>.fail
 |.sub o off n=>eN hid o λob=>match gy ob with
  |some d=>match cD off n d with
   |some d'=>K d' [(o,some (.frz d))]
   |none=>.fail
  |none=>.fail
 |_=>.fail
def xi{α:Type}(P:Program)(hid:List Nat):List SC->List TypeId->(List FC->List (Nat×Option Ob)->Rd α)->Rd α
 | [],_,K=>K [] []
 |c::cs,ts,K=>xh hid (Rt P ts) c λd fs=>xi P hid cs ts.tail λds gs=>K (d::ds) (fs++gs)
def Iu{α:Type}(P:Program)(hid:List Nat)(mt:List (Nat×Nat))(i:Nat)(t:TypeId)(sv:SV)(K:AD->List (Nat×Option Ob)->Rd α):Rd α :=
 match sv with
 |.c c=>match memP i 0 mt with
  |true=>Ip c λd=>K (.c d) []
  |false=>xh hid (iy P t) c λd fs=>K (.c d) fs
 |.agg cs=>xi P hid cs (rJ P t) λds fs=>K (.agg ds) fs
 |.fv F=>K (.fv F) []
 |_=>.fail
def xj{α:Type}(P:Program)(hid:List Nat)(mt:List (Nat×Nat)):Nat->List SV->List TypeId->(List AD->List (Nat×Option Ob)->Rd α)->Rd α
 |_,[],_,K=>K [] []
 |i,sv::svs,ts,K=>Iu P hid mt i (ts.headD 0) sv λad fs=>xj P hid mt (i+1) svs ts.tail λads gs=>K (ad::ads) (fs++gs)
def xk(svs:List SV):List (Nat×Nat)->Bool
 | []=>true
 |(i,j)::l=>(match svs[i]? with|some (.c _)=>Nat.beq j 0|_=>false)&&xk svs l
def xm(P:Program)(d:Nat)(mt:List (Nat×Nat))(ct:List AD->Option Post)(hid:List Nat)(svs:List SV)(ts:List TypeId):Rd Eff :=
 match xk svs mt with
 |false=>.fail
 |true=>xj P hid mt 0 svs ts λads fs=>match ct ads with
  |none=>.fail
  |some ⟨pre,ret,wrs⟩=>nB hid wrs λups p =>
   me (eu d (dC ret)) (.ret ⟨mc d ret,eu d (dC ret)++(ups++fs),some (pre/\p)⟩)
def iA(P:Program)(Γ:FuncId->Option Ctr)(d:Nat)(f:FuncId)(svs:List SV)(ts:List TypeId):Rd Eff :=
 match Γ f with
 |none=>.fail
 |some ⟨mt,ct⟩=>match pI svs mt with
  |none=>.fail
  |some hid=>match fG hid with
   |false=>.fail
   |true=>kf P Γ hid mt 0 svs ts λads=>match ct ads with
    |none=>.fail
    |some ⟨pre,ret,wrs⟩=>match md ret with
     |true=>xm P d mt ct hid svs ts
     |false=>nB hid wrs λups p =>
      me (eu d (dC ret)) (.ret ⟨mc d ret,eu d (dC ret)++ups,some (pre/\p)⟩)
def Iv(d:Nat)(pre:Prop)(ret:RV):Rd Eff :=
 me (eu d (dC ret)) (.ret ⟨mc d ret,eu d (dC ret)++[],some (pre/\True)⟩)
def jA:RC->Option SC
 |.int k n=>some (.int k n)
 |.bool b=>some (.bool b)
 |_=>none
def xn(c:Option Ctr):Bool :=
 match c with
 |some ⟨[(0,0)],_⟩=>true
 |_=>false
def Iw(P:Program)(Γ:FuncId->Option Ctr)(f:FuncId)(o ver i:Nat)(svs:List SV)(ts:List TypeId):Rd Eff:=.fail
def Ix(P:Program)(Γ:FuncId->Option Ctr)(f:FuncId)(o ver:Nat)(p:List Nat)(svs:List SV)(ts:List TypeId):Rd Eff:=.fail
def Iy(P:Program)(Γ:FuncId->Option Ctr)(f:FuncId)(o off n:Nat)(svs:List SV)(ts:List TypeId):Rd Eff:=.fail
def ai2(c:Option Ctr):Bool :=
 match c with
 |some ⟨[(1,0)],_⟩=>true
 |_=>false
def Iz(P:Program)(Γ:FuncId->Option Ctr)(f:FuncId)(k0:IntKind)(n0:Int)(o ver i:Nat)(svs:List SV)(ts:List TypeId):Rd Eff:=.fail
def IA:SC->Option FC
 |.int k n=>some (.int k n)
 |.bool b=>some (.bool b)
 |.str l=>some (.str l)
 |.ro d=>some d
 |.orig _ _ d=>some d
 |_=>none
def IB(P:Program)(Γ:FuncId->Option Ctr)(d:Nat)(f:FuncId)(o:Nat)(svs:List SV):Rd Eff :=
 match Γ f with
 |some ⟨[(0,0)],ct⟩=>.h o λob=>match ob with
  |.box xs=>match eM IA xs with
   |some fcs=>match eM pH svs with
    |some ads=>match ct (.box fcs::ads)with
     |some ⟨pre,ret,[.bx fcs']⟩=>match gz fcs fcs' with
      |some q=>me (eu d (dC ret)) (.ret ⟨mc d ret,eu d (dC ret)++[(o,some (.box (gV xs fcs')))],some (pre/\q)⟩)
      |none=>.fail
     |_=>.fail
    |none=>.fail
   |none=>.fail
  |_=>.fail
 |_=>.fail
def IC(P:Program)(Γ:FuncId->Option Ctr)(d:Nat)(f:FuncId)(o:Nat)(svs:List SV)(ts:List TypeId):Rd Eff :=
 match Γ f with
 |some ⟨[(0,0)],ct⟩=>.h o λob=>match ob with
  |.box xs=>ke P [o] [] 0 0 xs (rJ P (Iq P (ts.headD 0))) λfcs=>kf P Γ [o] [(0,0)] 1 svs ts.tail λads=>match ct (.box fcs::ads)with
   |some ⟨pre,ret,[.bx fcs']⟩=>match md ret with
    |true=>IB P Γ d f o svs
    |false=>match gz fcs fcs' with
     |some q=>me (eu d (dC ret)) (.ret ⟨mc d ret,eu d (dC ret)++[(o,some (.box (gV xs fcs')))],some (pre/\q)⟩)
     |none=>.fail
   |_=>.fail
  |_=>.fail
 |_=>.fail
def gW:Ob->Ob
 |.rows _ e ei k l=>.rows 0 e ei k l
 |.lst _ e d=>.lst 0 e d
 |.tr _ es d=>.tr 0 es d
 |.yd _ Y pre b=>.yd 0 Y pre b
 |ob=>ob
def rL:Ob->Bool
 |.ints _ _ _=>true
 |.bools _ _=>true
 |.rows _ _ _ _ _=>true
 |.lst _ _ _=>true
 |.tr _ _ _=>true
 |.yd _ _ _ _=>true
 |_=>false
def kh(P:Program)(t:TypeId):Option Ob :=
 match b8 P t with
 |none=>none
 |some e=>match P.underlying e with
  |some (.int k)=>some (.ints e k [])
  |some .bool=>some (.bools e [])
  |some (.slice ei)=>match jv P ei with
   |some k=>some (.lst 0 e (.rows k []))
   |none=>match iy P t with
    |some (.r3 k l)=>match l,w6 P 4 t with
     | [],[a,b,c]=>some (.tr 0 [a,b,c] (.r3 k []))
     |_,_=>none
    |_=>none
  |_=>none
abbrev Tr:=List (Nat×Option Nat×Ob)
def xo{α:Type}(k:Nat)(nl:Option Ob)(c:SC)(K:MC->Tr->Rd α):Rd α :=
 match c with
 |.int k n=>K (.c (.int k n)) []
 |.bool b=>K (.c (.bool b)) []
 |.str l=>K (.c (.str l)) []
 |.ro d=>K (.c d) []
 |.orig _ _ d=>K (.c d) []
 |.own o=>.h o λob=>match ob with
  |.frz d=>K (.c d) []
  |ob=>match rL ob with
   |true=>K (.ob (gW ob)) [(k,some o,ob)]
   |false=>.fail
 |.nil=>match nl with
  |some ob=>K (.ob ob) [(k,none,ob)]
  |none=>.fail
 |_=>.fail
def Rv(P:Program):List TypeId->Option Ob
 | []=>none
 |t::_=>kh P t
def xp{α:Type}(P:Program):Nat->List SC->List TypeId->(List MC->Tr->Rd α)->Rd α
 |_,[],_,K=>K [] []
 |k,c::cs,ts,K=>xo k (Rv P ts) c λx os=>xp P (k+1) cs ts.tail λl os'=>K (x::l) (os++os')
def IE{α:Type}(P:Program)(k:Nat)(t:TypeId)(sv:SV)(K:MA->Tr->Rd α):Rd α :=
 match sv with
 |.c c=>match c with
  |.ptr o i=>match i with
   |0=>.h o λob=>match ob with
    |.box cs=>xp P (k+1) cs (rJ P (Iq P t)) λl os=>K (.box l) ((k,some o,.box (gb (k+1) l))::os)
    |_=>.fail
   |_+1=>.fail
  |c=>xo k (kh P t) c λx os=>K (.m x) os
 |_=>.fail
def xq{α:Type}(P:Program):Nat->List SV->List TypeId->(List MA->Tr->Rd α)->Rd α
 |_,[],_,K=>K [] []
 |i,sv::svs,ts,K=>IE P (dq i) (ts.headD 0) sv λx os=>xq P (i+1) svs ts.tail λl os'=>K (x::l) (os++os')
def iY:Tr->List Nat
 | []=>[]
 |(_,some o,_)::l=>o::iY l
 |(_,none,_)::l=>iY l
def eX:Tr->Nat->Option (Option Nat×Ob)
 | [],_=>none
 |(k,x)::l,t=>match Nat.beq k t with
  |true=>some x
  |false=>eX l t
def fl(d:Nat)(os:Tr)(k:Nat):Nat :=
 match eX os k with
 |some (some o,_)=>o
 |_=>d+1000*k
def pK(f:Nat->Nat):SC->Option SC
 |.int k n=>some (.int k n)
 |.bool b=>some (.bool b)
 |.str l=>some (.str l)
 |.nil=>some .nil
 |.any=>some .any
 |.ro d=>some (.ro d)
 |.own k=>some (.own (f k))
 |.ptr k i=>some (.ptr (f k) i)
 |_=>none
def xr(f:Nat->Nat):SV->Option SV
 |.c c=>match pK f c with
  |some c'=>some (.c c')
  |none=>none
 |.fn g l=>match eM (pK f) l with
  |some l'=>some (.fn g l')
  |none=>none
 |.tup l=>match l with
  | []=>some (.tup [])
  |_=>none
 |_=>none
def jB(f:Nat->Nat)(ob:Ob):Option Ob :=
 match ob with
 |.box cs=>match eM (pK f) cs with
  |some cs'=>some (.box cs')
  |none=>none
 |ob=>match rL ob with
  |true=>some ob
  |false=>none
def rM:Ob->Ob->Bool
 |.box cs,.box cs'=>Nat.beq cs.length cs'.length
 |.yd _ _ _ _,.yd _ _ _ _=>true
 |_,_=>false
def gg:Ob->Ob->Ob
 |.yd v _ _ _,.yd v' Y pre b=>.yd (v+v') Y pre b
 |_,ob=>ob
def rN(d:Nat)(os:Tr):List (Nat×Option Ob)->Option (List (Nat×Option Ob)×List (Nat×Option Ob))
 | []=>some ([],[])
 |(_,none)::_=>none
 |(k,some ob)::l=>match jB (fl d os) ob with
  |none=>none
  |some ob'=>match rN d os l with
   |none=>none
   |some (kept,new)=>match eX os k with
    |some (some o,ob0)=>match rM ob0 ob with
     |true=>some ((o,some (gg ob0 ob'))::kept,new)
     |false=>none
    |some (none,_)=>none
    |none=>some (kept,(d+1000*k,some ob')::new)
def du(hp:List (Nat×Option Ob)):Tr->List (Nat×Option Ob)
 | []=>[]
 |(k,some o,_)::l=>match lk hp k with
  |none=>(o,none)::du hp l
  |some _=>du hp l
 |(_,none,_)::l=>du hp l
def IF(c:Option Ctr):Bool :=
 match c with
 |some ⟨[(0,93),(0,93)],_⟩=>true
 |_=>false
def IG(P:Program)(d:Nat)(c:Option Ctr)(svs:List SV)(ts:List TypeId):Rd Eff :=
 match c with
 |none=>.fail
 |some ⟨_,ct⟩=>xq P 0 svs ts λmas os=>match ct (mas.map .ma)with
  |some ⟨pre,.st sv ex outs,[]⟩=>match fG (os.map (·.1))&&fG (iY os)&&fG ((iv 0 outs++iU ex).map (·.1))with
   |true=>match xr (fl d os) sv,rN d os (iv 0 outs++iU ex)with
    |some sv',some (kept,new)=>me new (.ret ⟨sv',new++(kept++du (iv 0 outs++iU ex) os),some pre⟩)
    |_,_=>.fail
   |false=>.fail
  |_=>.fail
def ai3(c:Option Ctr)(svs:List SV):Bool :=
 match c with
 |some ⟨[(1,0)],_⟩=>match svs with
  | [.c (.int .i64 _),.fn _ _]=>true
  |_=>false
 |_=>false
def IH(P:Program)(Γ:FuncId->Option Ctr)(d:Nat)(f:FuncId)(svs:List SV):Rd Eff:=.fail
def II(o:Nat)(F:SFV)(svs:List SV):Rd Eff:=.fail
def IJ(c:Option Ctr):Bool :=
 match c with
 |some ⟨[(0,97),(0,97)],_⟩=>true
 |_=>false
def IK(c:Option Ctr)(svs:List SV):Rd Eff :=
 match c with
 |some ⟨_,ct⟩=>match svs with
  | [.c (.own o),.fn g []]=>.h o λob=>match ob with
   |.rows ver e ei .i64 l=>match ct [.c (.rows .i64 l)]with
    |some ⟨pre,.c (.rows g' _ .i64 l'),_⟩=>match Nat.beq g' g with
     |true=>.ret ⟨.tup [],[(o,some (.rows (ver+1) e ei .i64 l'))],some (pre/\l'.length=l.length)⟩
     |false=>.fail
    |_=>.fail
   |.tr ver [e,e2,e3] (.r3 .i64 l)=>match ct [.c (.r3 .i64 l)]with
    |some ⟨pre,.c (.tr [g'] (.r3 .i64 l')),_⟩=>match Nat.beq g' g with
     |true=>.ret ⟨.tup [],[(o,some (.tr (ver+1) [e,e2,e3] (.r3 .i64 l')))],some (pre/\l'.length=l.length)⟩
     |false=>.fail
    |_=>.fail
   |_=>.fail
  |_=>.fail
 |none=>.fail
def Rw(c:Option Ctr):Bool :=
 match c with
 |some ⟨[(0,96),(0,96)],_⟩=>true
 |_=>false
def IL(c:Option Ctr)(svs:List SV):Rd Eff:=.fail
def Rx(c:Option Ctr):Bool :=
 match c with
 |some ⟨[(0,99),(0,99)],_⟩=>true
 |_=>false
def IM(d:Nat)(svs:List SV):Rd Eff:=.fail
def Ry(c:Option Ctr):Option TypeId :=
 match c with
 |some ⟨[(0,98),(0,98)],ct⟩=>match ct []with
  |some ⟨_,.c (.ints e .i64 []),_⟩=>some e
  |_=>none
 |_=>none
def IN(d:Nat)(e:TypeId)(svs:List SV):Rd Eff:=.fail
def ai4(c:Option Ctr):Bool :=
 match c with
 |some ⟨[(0,0),(1,0)],_⟩=>true
 |_=>false
def IP(P:Program)(Γ:FuncId->Option Ctr)(d:Nat)(f:FuncId)(o ver i j:Nat)(ts:List TypeId):Rd Eff:=.fail
def iZ(d:Nat)(ob:Ob):Rd Eff->Rd Eff
 |.ret e=>.ret ⟨e.val,e.hp++[(d,none)],e.owed⟩
 |.fail=>.fail
 |.f t k=>.f t λsv=>iZ d ob (k sv)
 |.h o k=>match Nat.beq o d with
  |true=>iZ d ob (k ob)
  |false=>.h o λx=>iZ d ob (k x)
 |.abs o k=>match Nat.beq o d with
  |true=>.fail
  |false=>.abs o (iZ d ob k)
def xt(c:Option Ctr)(svs:List SV):Option Nat :=
 match c with
 |some ⟨[(i,0)],_⟩=>match svs[i]? with
  |some (.c .nil)=>some i
  |_=>none
 |_=>none
def IQ(P:Program)(Γ:FuncId->Option Ctr)(d:Nat)(f:FuncId)(i:Nat)(svs:List SV)(ts:List TypeId):Rd Eff :=
 match Γ f with
 |some ⟨_,ct⟩=>kf P Γ [] [] 0 svs ts λads=>match ct ads with
  |some ⟨_,_,[.gone (.rows e ei k _)]⟩=>.abs (d+490490) (iZ (d+490490) (.rows 0 e ei k []) (iA P Γ d f (svs.set i (.c (.own (d+490490)))) ts))
  |_=>.fail
 |none=>.fail
def xu(sv:SV):Option SC :=
 match sv with
 |.c c=>if c.plain then some c else none
 |_=>none
def IR(P:Program)(o i:Nat):Rd Eff :=
 match Nat.beq o i with
 |true=>.fail
 |false=>.h o λob=>match ob with
  |.yd v Y pre b=>.h i λob2=>match ob2 with
   |.ints e k x=>match k with
    |.i64=>.ret ⟨.c (.bool (Y.go pre x)),[(o,some (.yd (v+1) Y (pre++[x]) (Y.go pre x)))],some (Y.P=P/\Y.e=e/\b=true/\Y.ok pre x)⟩
    |_=>.fail
   |_=>.fail
  |_=>.fail
def Rz(P:Program)(Γ:FuncId->Option Ctr)(d:Nat)(fv:SV)(svs:List SV)(ts:List TypeId):Rd Eff :=
 match fv with
 |.fn f []=>match Rx (Γ f)with
  |true=>IM d svs
  |false=>match Ry (Γ f)with
   |some e=>IN d e svs
   |none=>match IJ (Γ f)with
    |true=>IK (Γ f) svs
    |false=>match Rw (Γ f)with
    |true=>IL (Γ f) svs
    |false=>match IF (Γ f)with
    |true=>IG P d (Γ f) svs ts
    |false=>match ai3 (Γ f) svs with
    |true=>IH P Γ d f svs
    |false=>match It (Γ f) svs with
     |some (_,pre,ret)=>Iv d pre ret
     |none=>match svs with
      |.c (.row o ver i)::rest=>match xn (Γ f)with
       |true=>Iw P Γ f o ver i rest ts.tail
       |false=>match ai4 (Γ f)with
        |true=>match rest with
         | [.c (.row o' ver' j)]=>match Nat.beq o' o,Nat.beq ver' ver with
          |true,true=>IP P Γ d f o ver i j ts
          |_,_=>iA P Γ d f svs ts
         |_=>iA P Γ d f svs ts
        |false=>iA P Γ d f svs ts
      |.c (.kid o ver p)::rest=>match xn (Γ f)with
       |true=>Ix P Γ f o ver p rest ts.tail
       |false=>iA P Γ d f svs ts
      |.c (.sub o off n)::rest=>match xn (Γ f)with
       |true=>Iy P Γ f o off n rest ts.tail
       |false=>iA P Γ d f svs ts
      |.c (.ptr o 0)::rest=>match xn (Γ f)with
       |true=>IC P Γ d f o rest ts
       |false=>iA P Γ d f svs ts
      |.c (.int k0 n0)::.c (.row o ver i)::rest=>match ai2 (Γ f)with
       |true=>Iz P Γ f k0 n0 o ver i rest ts.tail.tail
       |false=>iA P Γ d f svs ts
      |svs=>match xt (Γ f) svs with
       |some i=>IQ P Γ d f i svs ts
       |none=>iA P Γ d f svs ts
 |.fvs o F=>II o F svs
 |.fn f (c::cs)=>iA P Γ d f (svs++(c::cs).map .c) ts
 |.fv F=>match eM xu svs with
  |some cs=>ke P [] [] 0 0 cs ts λds=>match F.at ds with
   |some (q,c)=>.ret ⟨.c c,[],some q⟩
   |none=>.fail
  |none=>.fail
 |.c c=>match c with
  |.own o=>match svs with
   | [.c (.own i)]=>IR P o i
   |_=>.fail
  |_=>.fail
 |_=>.fail
def RA(lo hi:Option Operand)(mx:Operand):Bool :=
 match lo,hi,mx with
 |none,some (.const (.int .i64 0)),.const (.int .i64 0)=>true
 |_,_,_=>false
def IS(P:Program)(s t:TypeId):Bool :=
 match P.underlying t with
 |some .string=>match b8 P s with
  |some e=>match jv P e with
   |some .u8=>true
   |_=>false
  |none=>false
 |_=>false
def ai5(l:D6):List UInt8:=l.map λn=>UInt8.ofNat n.toNat
def IT(cx cy:SC):Rd Eff :=
 match cx,cy with
 |.int k a,.int k' b=>if k=k' then .ret ⟨.c (.int k (if b<a then b else a)),[],none⟩else .fail
 |_,_=>.fail
def IU(cx cy:SC):Rd Eff:=.fail
def ai6(x:Operand):Bool :=
 match x with
 |.const (.pointer none)=>true
 |_=>false
def IV(P:Program)(d:Nat)(t:TypeId)(r:Option Operand):Rd Eff:=.fail
def IW(P:Program)(t:TypeId)(cm ck cv:SC):Rd Eff:=.fail
def IX(P:Program)(t:TypeId)(ok:Bool)(cm ck:SC):Rd Eff:=.fail
def c6(P:Program)(Γ:FuncId->Option Ctr)(wr:Nat->Bool)(o:Oper):Rd Eff :=
 let d:=match o.dst with|some d=>d|none=>0
 match o.op with
 |.move x=>fQ x λsv=>.ret ⟨sv,[],none⟩
 |.assign x=>match ai6 x with
  |true=>.ret ⟨.c .any,[],none⟩
  |false=>fQ x λsv=>.ret ⟨sv,[],none⟩
 |.nilCheck x=>cY x fun
  |.ptr o i=>.h o λob=>kZ ob (aS (.ptr o i))
  |.rob cs i=>aS (.rob cs i)
  |_=>.fail
 |.pick c x y=>cY c fun
  |.bool true=>fQ x λsv=>.ret ⟨sv,[],none⟩
  |.bool false=>fQ y λsv=>.ret ⟨sv,[],none⟩
  |_=>.fail
 |.alloc t=>H6 P d t
 |.box _ x=>fQ x λsv=>H7 d sv
 |.build t parts=>H8 P t parts
 |.buildSlice t len parts=>match wr (5000000+d)with
  |true=>H9 P (wr (1000000+d)) d t len parts
  | false=>match wr (6000000+d)with
   |true=>Ia P d t len parts
   | false=>match wr (2000000+d)with
    |true=>Ic P d t len parts
    |false=>Ib P (wr (1000000+d)) d t len parts
 |.load t x=>match wr (3000000+d)with
  |true=>cY x λcx=>H4 P d t cx
  |false=>cY x λcx=>w8 P t cx
 |.store t x y=>cY x λcx=>fQ y λsv=>H5 P t cx sv
 |.binOp op t x y _=>cY x λcx=>cY y λcy=>HY P t (wr d) op cx cy
 |.unOp op _ x=>cY x λcx=>HZ (wr d) op cx
 |.convert s t x=>cY x λcx=>match IS P s t with
  |true=>la [] (iy P s) cx fun
   |.ints .u8 l=>.ret ⟨.c (.str (ai5 l)),[],none⟩
   |_=>.fail
  |false=>H0 P (wr d) s t cx
 |.makeFunc fn first caps=>match fn with
  |.func f=>if first.isEmpty then iW caps.toList λsvs=>match eM xu svs with
   |some cs=>.ret ⟨.fn f cs,[],none⟩
   |none=>.fail
   else .fail
  |_=>.fail
 |.makeSlice t l c=>cY l λcl=>cY c λcc=>Ii P d t cl cc
 |.slice t x lo hi mx=>match mx with
  |none=>match wr (4000000+d)with
   |true=>cY x λcx=>Ig P d t cx lo hi
   |false=>cY x λcx=>xc P d t cx lo hi
  |some m=>match RA lo hi m with
   |true=>match b8 P t with
    |some e=>match cU P e with
     |some _=>cY x λcx=>la [] (iy P t) cx fun
      |.ints _ _=>.ret ⟨.c .emp,[],none⟩
      |.bools _=>.ret ⟨.c .emp,[],none⟩
      |.rows _ _=>.ret ⟨.c .emp,[],none⟩
      |_=>.fail
     |none=>.fail
    |none=>.fail
   |false=>.fail
 |.fieldAddr s x f=>cY x λcx=>Id P s cx f
 |.field s x f=>fQ x λsv=>Ie P s sv f
 |.indexAddr t x i=>cY x λcx=>cY i λci=>If P t cx ci
 |.index t x i=>cY x λcx=>cY i λci=>Io P t cx ci
 |.extract x i=>fQ x λsv=>In sv i
 |.call c=>match c.callee with
  |.value f=>fQ f λfv=>iW c.args.toList λsvs=>Rz P Γ d fv svs c.argTypes.toList
  |.builtin b=>match b with
   |.len=>match c.args.toList,c.argTypes.toList with
    | [x],[t]=>cY x λcx=>match cx with
     |.str _=>match P.underlying t with
      |some .string=>xb cx
      |_=>.fail
     |cx=>match b8 P t with
      |some _=>xb cx
      |none=>.fail
    |_,_=>.fail
   |.append=>match c.args.toList,c.argTypes.toList with
    | [x,y],[t,t']=>if t=t' then cY x λcx=>cY y λcy=>Il P d t cx cy else match jv P t' with
     |some _=>cY x λcx=>cY y λcy=>Im P d t cx cy
     |none=>.fail
    |_,_=>.fail
   |.min=>match c.args.toList with
    | [x,y]=>cY x λcx=>cY y λcy=>IT cx cy
    |_=>.fail
   |.max=>match c.args.toList with
    | [x,y]=>cY x λcx=>cY y λcy=>IU cx cy
    |_=>.fail
   |_=>.fail
  |.invoke _ _=>.fail
 |.makeMap t r=>IV P d t r
 |.mapUpdate t m k v=>cY m λcm=>cY k λck=>cY v λcv=>IW P t cm ck cv
 |.lookup t m k ok=>cY m λcm=>cY k λck=>IX P t ok cm ck
 |_=>.fail
end Go.Sx
