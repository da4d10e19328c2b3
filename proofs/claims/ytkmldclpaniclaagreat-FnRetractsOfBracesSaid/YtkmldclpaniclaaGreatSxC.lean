/- SxC -/
import Derived.Test.YtkmldclpaniclaaGreatSxBt
set_option linter.unusedSimpArgs false
set_option linter.unusedVariables false
set_option linter.defProp false
namespace Go.Sx
open Go.RowKit
inductive Key where
 |f (t:Nat)
 |h (o:Nat)
def Key.eq:Key->Key->Bool
 |.f a,.f b=>Nat.beq a b
 |.h a,.h b=>Nat.beq a b
 |_,_=>false
inductive Rd (α:Type) where
 |ret (x:α)
 |fail
 |f (t:Nat) (k:SV->Rd α)
 |h (o:Nat) (k:Ob->Rd α)
 |abs (o:Nat) (k:Rd α)
def Rd.run{α:Type}(σ:State):Rd α->Option α
 |.ret x=>some x
 |.fail=>none
 |.f t k=>match σ.F t with
  |some sv=>(k sv).run σ
  |none=>none
 |.h o k=>match σ.H o with
  |some (some ob)=>(k ob).run σ
  |some none=>none
  |none=>none
 |.abs o k=>match σ.H o with
  |none=>k.run σ
  |some _=>none
def Rd.keys{α:Type}(σ:State):Rd α->List Key
 |.ret _=>[]
 |.fail=>[]
 |.f t k=>.f t::match σ.F t with
  |some sv=>(k sv).keys σ
  |none=>[]
 |.h o k=>.h o::match σ.H o with
  |some (some ob)=>(k ob).keys σ
  |some none=>[]
  |none=>[]
 |.abs o k=>.h o::k.keys σ
structure Eff where
 val:SV
 hp:List (Nat×Option Ob)
 owed:Option Prop
def Eff.obl(e:Eff):Prop :=
 match e.owed with
 |none=>True
 |some p=>p
inductive MC where
 |c (d:FC)
 |ob (x:Ob)
inductive MA where
 |m (x:MC)
 |box (l:List MC)
inductive AD where
 |c (d:FC)
 |agg (cs:List FC)
 |box (cs:List FC)
 |bb (cs:List FC)
 |bf (P:Program) (F:FV)
 |fv (F:FV)
 |fvs (F:SFV) (s:Int)
 |cut (off n:Nat) (d:FC)
 |ma (x:MA)
inductive RC where
 |int (k:IntKind) (n:Int)
 |bool (b:Bool)
 |str (l:List UInt8)
 |ints (e:TypeId) (k:IntKind) (l:Db)
 |bools (e:TypeId) (l:List Bool)
 |rows (e ei:TypeId) (k:IntKind) (l:Dc)
 |nilq (b:Bool)
 |ro (d:FC)
 |bx (cs:List FC)
 |strs (e:TypeId) (l:List (List UInt8))
 |cut (off n:Nat) (e ei:TypeId) (k:IntKind) (l:Dc)
 |lst (e:TypeId) (d:FC)
 |gone (x:RC)
 |tr (es:List TypeId) (d:FC)
def RC.isGone:RC->Bool
 |.gone _=>true
 |_=>false
inductive RV where
 |c (x:RC)
 |agg (l:List RC)
 |tup (l:List (RC ⊕ List RC))
 |st (sv:SV) (ex:List (Nat×Ob)) (outs:List MA)
structure Post where
 pre:Prop
 ret:RV
 wrs:List RC:=[]
structure Ctr where
 mt:List (Nat×Nat):=[]
 ct:List AD->Option Post
def dm:FC->SC
 |.int k n=>.int k n
 |.bool b=>.bool b
 |.str l=>.str l
 |.ints k l=>.ro (.ints k l)
 |.bools l=>.ro (.bools l)
 |.rows k l=>.ro (.rows k l)
 |.r3 k l=>.ro (.r3 k l)
 |.r4 k l=>.ro (.r4 k l)
 |.p3 k l=>.ro (.p3 k l)
def dt:FC->Bool
 |.int _ _=>true
 |.bool _=>true
 |.str _=>true
 |_=>false
def fA:Ob->Option FC
 |.ints _ k l=>some (.ints k l)
 |.bools _ l=>some (.bools l)
 |.rows _ _ _ k l=>some (.rows k l)
 |.box _=>none
 |.bx _=>none
 |.strs _ _=>none
 |.lst _ _ d=>match dt d with
  |true=>none
  |false=>some d
 |.frz _=>none
 |.mp _=>none
 |.qu _ _ _=>none
 |.rowsH _ _ _ _ _ _=>none
 |.tr _ _ d=>some d
 |.yd _ _ _ _=>none
 |.trk _ _ _ _=>none
/- The state that a call by states begins in: argument i's object has the name 7000 + 100 i, its cells' objects those behind it. -/
def da(i:Nat):Nat:=7000+100*i
def Gn(k:Nat):MC->SC
 |.c d=>dm d
 |.ob _=>.own k
def wo(k:Nat):MC->List (Nat×Option Ob)
 |.c _=>[]
 |.ob x=>[(k,some x)]
def fR:Nat->List MC->List SC
 |_,[]=>[]
 |k,x::l=>Gn k x::fR (k+1) l
def lI:Nat->List MC->List (Nat×Option Ob)
 |_,[]=>[]
 |k,x::l=>wo k x++lI (k+1) l
def qw(k:Nat):MA->SV
 |.m x=>.c (Gn k x)
 |.box _=>.c (.ptr k 0)
def OH(k:Nat):MA->List (Nat×Option Ob)
 |.m x=>wo k x
 |.box l=>(k,some (.box (fR (k+1) l)))::lI (k+1) l
def wp:Nat->List MA->List (Nat×SV)
 |_,[]=>[]
 |i,x::l=>(i,qw (da i) x)::wp (i+1) l
def iO:Nat->List MA->List (Nat×Option Ob)
 |_,[]=>[]
 |i,x::l=>OH (da i) x++iO (i+1) l
def fB(mas:List MA):State:=⟨wp 0 mas,iO 0 mas⟩
def Yu(k:Nat):MA->List (Nat×Option Ob)
 |.m x=>wo k x
 |.box l=>(k,some (.box (fR (k+1001) l)))::lI (k+1001) l
def oH:Nat->List MA->List (Nat×Option Ob)
 |_,[]=>[]
 |i,x::l=>Yu (da i) x++oH (i+1) l
def qx(ex:List (Nat×Ob)):List (Nat×Option Ob):=ex.map fun p=>(p.1,some p.2)
def jP(sv:SV)(hp:List (Nat×Option Ob)):State:=⟨[(0,sv)],hp⟩
def Gp(mas:List MA)(hp:List (Nat×Option Ob)):List Nat:=((iO 0 mas).map (·.1)).filter fun k=>(lk hp k).isSome
def gk:Ob->Option FC
 |.frz d=>some d
 |ob=>match fA ob with
  |some d=>match cz 0 d.len d with
   |some _=>some d
   |none=>none
  |none=>none
def kI{α:Type}(ob:Ob)(r:Rd α):Rd α :=
 match ob.isFz with
 |true=>.fail
 |false=>r
def Gq{α:Type}(c:SC)(k:SC->Rd α):Rd α :=
 match c with
 |.own o=>.h o fun ob=>match ob with
  |.frz d=>k (.ro d)
  |_=>k (.own o)
 |.pre o n=>.h o fun ob=>match ob with
  |.frz d=>match cz 0 n d with
   |some d'=>k (.ro d')
   |none=>.fail
  |_=>k (.pre o n)
 |.sub o off n=>.h o fun ob=>match ob with
  |.frz d=>match cz off n d with
   |some d'=>k (.ro d')
   |none=>.fail
  |_=>k (.sub o off n)
 |c=>k c
def oI:Value->Option SC
 |.int k n=>some (.int k n)
 |.bool b=>some (.bool b)
 |.string s=>some (.str s.data.toList)
 |.slice none 0 0=>some .nil
 |_=>none
def eG{α β:Type}(f:α->Option β):List α->Option (List β)
 | []=>some []
 |x::l=>match f x with
  |some y=>match eG f l with
   |some ys=>some (y::ys)
   |none=>none
  |none=>none
def fC{α:Type}(x:Operand)(k:SV->Rd α):Rd α :=
 match x with
 |.tmp t=>.f t k
 |.const v=>match v with
  |.agg cs=>match eG oI cs.toList with
   |some l=>k (.agg l)
   |none=>.fail
  |.nilFunc=>k (.c .any)
  |v=>match oI v with
   |some c=>k (.c c)
   |none=>.fail
 |.func f=>k (.fn f [])
 |.global _=>.fail
def cR{α:Type}(x:Operand)(k:SC->Rd α):Rd α :=
 fC x fun
  |.c c=>Gq c k
  |_=>.fail
def lJ(P:Program)(t:TypeId):Option Bool :=
 match P.underlying t with
 |some (.struct _)=>some true
 |some (.array _ _)=>some true
 |some _=>some false
 |none=>none
def cK(P:Program)(t:TypeId):Option Nat :=
 match P.info? t with
 |some i=>some i.size
 |none=>none
def bX(P:Program)(t:TypeId):Option TypeId :=
 match P.underlying t with
 |some (.slice e)=>some e
 |_=>none
def ae(n:Int):Prop:=-9223372036854775808<=n/\n<=9223372036854775807
def ic(wr:Bool)(k:IntKind)(r:Int):Eff :=
 match wr,k with
 |false,.i64=>⟨.c (.int .i64 r),[],some (ae r)⟩
 |_,k=>⟨.c (.int k (k.wrap r)),[],none⟩
def aN(c:SC):Rd Eff:=.ret ⟨.c c,[],none⟩
def Gr(P:Program)(t:TypeId):Bool :=
 match P.underlying t with
 |some .bool=>true
 |_=>false
def ar(n:Nat):Prop:=n<=1099511627776
def Yv:BinOp->Bool
 |.shl=>true
 |.shr=>true
 |_=>false
def Gs(wr:Bool)(op:BinOp)(cx cy:SC):Rd Eff :=
 match cx,cy with
 |.int .i64 a,.int _ b =>
  match op with
  |.shl=>.ret ⟨(ic wr .i64 (a*2 ^ b.toNat)).val,[],some ((0<=b/\b<=62)/\(ic wr .i64 (a*2 ^ b.toNat)).obl)⟩
  |.shr=>.ret ⟨.c (.int .i64 (a / 2 ^ b.toNat)),[],some (0<=b/\b<=62)⟩
  |_=>.fail
 |.int .u64 a,.int _ b =>
  match op with
  |.shr=>.ret ⟨.c (.int .u64 (a / 2 ^ b.toNat)),[],some (0<=b/\b<=62)⟩
  |_=>.fail
 |_,_=>.fail
def Gt(op:BinOp)(cx cy:SC):Bool :=
 match op,cx,cy with
 |.and,.int .u64 _,.int .u64 _=>true
 |_,_,_=>false
def Gu(cx cy:SC):Rd Eff :=
 match cx,cy with
 |.int .u64 a,.int .u64 b=>.ret ⟨.c (.int .u64 ((a.toNat &&& b.toNat:Nat):Int)),[],some ((0<=a/\a<=18446744073709551615)/\0<=b/\b<=18446744073709551615)⟩
 |_,_=>.fail
def Gv(P:Program)(t:TypeId)(wr:Bool)(op:BinOp)(cx cy:SC):Rd Eff :=
 match Yv op with
 |true=>Gs wr op cx cy
 |false=>match Gt op cx cy with
 |true=>Gu cx cy
 |false=>match cx,cy with
 |.int k a,.int k' b =>
  if k=k' then
   match op with
   |.and=>.ret ⟨.c (.int k ((a.toNat &&& b.toNat:Nat):Int)),[],some (k=.i64/\(0<=a/\a<=9223372036854775807)/\0<=b/\b<=9223372036854775807)⟩
   |.or=>.ret ⟨.c (.int k ((a.toNat ||| b.toNat:Nat):Int)),[],some (k=.i64/\(0<=a/\a<=9223372036854775807)/\0<=b/\b<=9223372036854775807)⟩
   |.add=>.ret (ic wr k (a+b))
   |.sub=>.ret (ic wr k (a-b))
   |.mul=>.ret (ic wr k (a*b))
   |.quo=>.ret ⟨(ic wr k (a.tdiv b)).val,[],some (b≠0/\(ic wr k (a.tdiv b)).obl)⟩
   |.rem=>.ret ⟨.c (.int k (a.tmod b)),[],some (b≠0)⟩
   |.eql=>aN (.bool (a == b))
   |.neq=>aN (.bool (a != b))
   |.lss=>aN (.bool (decide (a<b)))
   |.leq=>aN (.bool (decide (a<=b)))
   |.gtr=>aN (.bool (decide (b<a)))
   |.geq=>aN (.bool (decide (b<=a)))
   |_=>.fail
  else .fail
 |.bool a,.bool b =>
  if Gr P t then
   match op with
   |.eql=>aN (.bool (a == b))
   |.neq=>aN (.bool (!(a == b)))
   |_=>.fail
  else .fail
 |.str a,.str b =>
  match op with
  |.eql=>aN (.bool (a == b))
  |.neq=>aN (.bool (!(a == b)))
  |.add=>.ret ⟨.c (.str (a++b)),[],some (ar (a.length+b.length))⟩
  |_=>.fail
 |.nilq b,.nil=>match bX P t with
  |some _=>match op with
   |.eql=>aN (.bool b)
   |.neq=>aN (.bool (!b))
   |_=>.fail
  |none=>.fail
 |.ro d,.nil=>match bX P t with
  |some _=>match op with
   |.eql=>.ret ⟨.c (.bool false),[],some (d.len≠0)⟩
   |.neq=>.ret ⟨.c (.bool true),[],some (d.len≠0)⟩
   |_=>.fail
  |none=>.fail
 |_,_=>.fail
def Gw(wr:Bool)(op:UnOp)(cx:SC):Rd Eff :=
 match op,cx with
 |.neg,.int k a=>.ret (ic wr k (-a))
 |.not,.bool b=>aN (.bool (!b))
 |_,_=>.fail
def jm(P:Program)(t:TypeId):Option IntKind :=
 match P.underlying t with
 |some (.int k)=>some k
 |_=>none
def Gx(P:Program)(wr:Bool)(src dst:TypeId)(cx:SC):Rd Eff :=
 match cx with
 |.int _ n=>match P.underlying src with
  |some _=>match jm P dst with
   |some k=>.ret (ic wr k n)
   |none=>.fail
  |none=>.fail
 |_=>.fail
def Gy:FC->Option FC
 |.rows k _=>some (.ints k [])
 |.r3 k _=>some (.rows k [])
 |.r4 k _=>some (.r3 k [])
 |_=>none
def jQ:FC->FC->Option FC
 |.rows k l,.rows k' l'=>if k=k' then some (.rows k (l++l'))else none
 |.r3 k l,.r3 k' l'=>if k=k' then some (.r3 k (l++l'))else none
 |.r4 k l,.r4 k' l'=>if k=k' then some (.r4 k (l++l'))else none
 |.p3 k l,.p3 k' l'=>if k=k' then some (.p3 k (l++l'))else none
 |_,_=>none
def gO:List FC->Option FC
 | []=>none
 | [.ints k x]=>some (.rows k [x])
 | [.rows k x]=>some (.r3 k [x])
 | [.r3 k x]=>some (.r4 k [x])
 |.ints k x::l=>match gO l with
  |some (.rows k' ls)=>if k=k' then some (.rows k (x::ls))else none
  |_=>none
 |.rows k x::l=>match gO l with
  |some (.r3 k' ls)=>if k=k' then some (.r3 k (x::ls))else none
  |_=>none
 |.r3 k x::l=>match gO l with
  |some (.r4 k' ls)=>if k=k' then some (.r4 k (x::ls))else none
  |_=>none
 |_=>none
def wq(P:Program):Nat->TypeId->List TypeId
 |0,_=>[]
 |n+1,t=>match bX P t with
  |some e=>e::wq P n e
  |none=>[]
def Gz:FC->Nat->Option FC
 |.rows k _,n=>some (.rows k (List.replicate n []))
 |.r3 k _,n=>some (.r3 k (List.replicate n []))
 |.r4 k _,n=>some (.r4 k (List.replicate n []))
 |_,_=>none
def oJ:Ob->Option (List TypeId×FC)
 |.ints e k l=>some ([e],.ints k l)
 |.rows _ e ei k l=>some ([e,ei],.rows k l)
 |.tr _ es d=>some (es,d)
 |_=>none
def wt:FC->Option (IntKind×Db)
 |.ints k l=>some (k,l)
 |_=>none
def GA:SC->SC
 |.orig _ _ d=>.ro d
 |c=>c
def wu(P:Program)(t:TypeId)(cx:SC):Rd Eff :=
 match lJ P t with
 |none=>.fail
 |some true=>match cK P t with
  |none=>.fail
  |some n=>match cx with
   |.ptr o i=>.h o fun
    |.box cs=>if i+n<=cs.length then .ret ⟨.agg ((cs.drop i).take n),[],none⟩else .fail
    |_=>.fail
   |.rob cs i=>if i+n<=cs.length then .ret ⟨.agg (((cs.drop i).take n).map dm),[],none⟩else .fail
   |.rop d i=>match n,d with
    |1,.r3 k l=>.ret ⟨.agg [.ro (.rows k (l.getD i []))],[],none⟩
    |_,_=>.fail
   |_=>.fail
 |some false=>match cx with
  |.ptr o i=>.h o fun
   |.box cs=>match cs[i]? with
    |some c=>aN (GA c)
    |none=>.fail
   |.ints _ k l=>aN (.int k (l.getD i 0))
   |.bools _ l=>aN (.bool (l.getD i false))
   |.rows ver _ _ _ _=>aN (.row o ver i)
   |.bx _=>.fail
   |.strs _ l=>aN (.str (l.getD i []))
   |.lst _ _ d=>match cX d i with
    |some x=>aN (.ro x)
    |none=>.fail
   |.frz _=>.fail
   |.mp _=>.fail
   |.qu _ _ _=>.fail
   |.rowsH _ _ _ _ _ _=>.fail
   |.tr _ _ _=>.fail
   |.yd _ _ _ _=>.fail
   |.trk _ _ _ _=>.fail
  |.rptr o ver i j=>.h o fun
   |.rows ver' _ _ k l=>if ver=ver' then aN (.int k ((l.getD i []).getD j 0))else .fail
   |_=>.fail
  |.rop d i=>match d with
   |.ints k l=>aN (.int k (l.getD i 0))
   |.bools l=>aN (.bool (l.getD i false))
   |.rows k l=>aN (.ro (.ints k (l.getD i [])))
   |.r3 k l=>aN (.ro (.rows k (l.getD i [])))
   |.r4 k l=>aN (.ro (.r3 k (l.getD i [])))
   |_=>.fail
  |.rob cs i=>match cs[i]? with
   |some fc=>aN (dm fc)
   |none=>.fail
  |.rbb cs=>aN (.rob cs 0)
  |.qptr o i=>.h o fun
   |.qu _ k l=>aN (.int k (l.getD i 0))
   |_=>.fail
  |.kptr o ver p j=>.h o fun
   |.tr ver' _ d=>if ver=ver' then(match jj d p with
    |some x=>match wt x with
     |some (k,l)=>aN (.int k (l.getD j 0))
     |none=>match cX x j with
      |some _=>aN (.kid o ver (p++[j]))
      |none=>.fail
    |none=>.fail)else .fail
   |_=>.fail
  |_=>.fail
def GB:SC->SV
 |.pr a b=>.tup [.inl (.int .i64 a),.inl (.int .i64 b)]
 |c=>.c c
def Yw:SC->Bool
 |.rbf _ _=>true
 |.pptr _ _=>true
 |_=>false
def GC(P:Program)(t:TypeId)(cx:SC):Rd Eff :=
 match lJ P t with
 |some false=>match cx with
  |.rbf P' F=>.ret ⟨.fv F,[],some (P'=P)⟩
  |_=>.fail
 |some true=>match cK P t with
  |some 2=>match cx with
   |.pptr o i=>.h o fun
    |.lst _ _ (.p3 k l)=>.ret ⟨.agg [.ro (.rows k (l.getD i ([],[])).1),.ro (.rows k (l.getD i ([],[])).2)],[],some (i<l.length)⟩
    |_=>.fail
   |_=>.fail
  |_=>.fail
 |_=>.fail
def GD(P:Program)(d:Nat)(t:TypeId)(cx:SC):Rd Eff :=
 match lJ P t with
 |some false=>match cx with
  |.kptr o ver [] j=>.h o fun
   |.tr ver' [_,e,ei] (.r3 k l)=>if ver=ver' then .abs d (.ret ⟨.c (.own d),[(d,some (.rows 0 e ei k (l.getD j []))),(o,none)],none⟩)else .fail
   |.trk ver' [e0,e,ei] (.r3 k l) n=>if ver=ver' then .abs d (.ret ⟨.c (.own d),[(d,some (.rows 0 e ei k (l.getD j []))),(o,some (.trk (ver'+1) [e0,e,ei] (.r3 k l) (n+1)))],some (j=n/\n<l.length)⟩)else .fail
   |_=>.fail
  |_=>.fail
 |_=>.fail
def eg{α:Type}(d:FC)(r:Rd α):Rd α :=
 match d.wid with
 |1=>r
 |_=>.fail
def SC.plain:SC->Bool
 |.any=>false
 |.pr _ _=>false
 |.und=>false
 |_=>true
def GE(P:Program)(t:TypeId)(cx:SC)(sv:SV):Rd Eff :=
 match sv with
 |.c c =>
  if c.plain=true/\cK P t=some 1 then
   match cx with
   |.ptr o i=>.h o fun
    |.box cs=>if i<cs.length then .ret ⟨.c .any,[(o,some (.box (cs.set i c)))],none⟩else .fail
    |.ints e k l=>match c with
     |.int k' n=>if k=k' then .ret ⟨.c .any,[(o,some (.ints e k (l.set i n)))],none⟩else .fail
     |_=>.fail
    |.bools e l=>match c with
     |.bool b=>.ret ⟨.c .any,[(o,some (.bools e (l.set i b)))],none⟩
     |_=>.fail
    |.rows ver e ei k l=>match c with
     |.own o2=>.h o2 fun
      |.ints e2 k2 l2=>if e2=ei/\k2=k/\o2≠o then .ret ⟨.c .any,[(o2,none),(o,some (.rows (ver+1) e ei k (l.set i l2)))],none⟩else .fail
      |_=>.fail
     |.nil=>.ret ⟨.c .any,[(o,some (.rows (ver+1) e ei k (l.set i [])))],none⟩
     |_=>.fail
    |.bx _=>.fail
    |.strs _ _=>.fail
    |.lst ver e d=>match c with
     |.ro x=>match fQ d i x with
      |some d'=>.ret ⟨.c .any,[(o,some (.lst ver e d'))],none⟩
      |none=>.fail
     |.nil=>match Gy d with
      |some x=>match fQ d i x with
       |some d'=>.ret ⟨.c .any,[(o,some (.lst ver e d'))],none⟩
       |none=>.fail
      |none=>.fail
     |.own o2=>.h o2 fun ob2=>match gk ob2 with
      |some x=>match fQ d i x with
       |some d'=>if o2≠o then .ret ⟨.c .any,[(o,some (.lst ver e d')),(o2,some (.frz x))],none⟩else .fail
       |none=>.fail
      |none=>.fail
     |_=>.fail
    |.frz _=>.fail
    |.mp _=>.fail
    |.qu _ _ _=>.fail
    |.rowsH ver e ei k l hs=>match c with
     |.own o2=>.h o2 fun
      |.ints e2 k2 l2=>if e2=ei/\k2=k/\o2≠o then
        (match hs with
        | [h]=>.ret ⟨.c .any,[(o2,none),(o,some (.rows (ver+1) e ei k (l.set i l2)))],some (i=h)⟩
        |h::hs'=>.ret ⟨.c .any,[(o2,none),(o,some (.rowsH (ver+1) e ei k (l.set i l2) hs'))],some (i=h/\¬ h∈hs')⟩
        | []=>.fail)else .fail
      |_=>.fail
     |_=>.fail
    |.tr _ _ _=>.fail
    |.yd _ _ _ _=>.fail
    |.trk _ _ _ _=>.fail
   |.kptr o ver p j=>.h o fun
    |.tr ver' es d=>match c with
     |.int k' n=>if ver=ver' then(match jj d p with
      |some x=>match wt x with
       |some (k,l)=>if k=k' then(match mP d p (.ints k (l.set j n))with
        |some d'=>.ret ⟨.c .any,[(o,some (.tr ver' es d'))],none⟩
        |none=>.fail)else .fail
       |none=>.fail
      |none=>.fail)else .fail
     |.own o2=>.h o2 fun ob2=>match oJ ob2 with
      |some (es2,y)=>if ver=ver'/\o2≠o/\gN es2 (es.drop (p.length+1))=true then(match jj d p with
       |some x=>eg x (match fQ x j y with
        |some x'=>match mP d p x' with
         |some d'=>.ret ⟨.c .any,[(o2,none),(o,some (.tr (ver'+1) es d'))],none⟩
         |none=>.fail
        |none=>.fail)
       |none=>.fail)else .fail
      |none=>.fail
     |_=>.fail
    |_=>.fail
   |.rptr o ver i j=>.h o fun
    |.rows ver' e ei k l=>match c with
     |.int k' n=>if ver=ver'/\k=k' then .ret ⟨.c .any,[(o,some (.rows ver' e ei k (l.set i ((l.getD i []).set j n))))],none⟩else .fail
     |_=>.fail
    |_=>.fail
   |_=>.fail
  else .fail
 |.agg cs' =>
  if cK P t=some cs'.length then
   match cx with
   |.ptr o i=>.h o fun
    |.box cs=>if i+cs'.length<=cs.length then .ret ⟨.c .any,[(o,some (.box (cs.take i++cs'++cs.drop (i+cs'.length))))],none⟩else .fail
    |_=>.fail
   |_=>.fail
  else .fail
 |_=>.fail
def iP(P:Program)(t:TypeId):Option (List SC) :=
 match P.info? t with
 |some i=>match i.zero with
  |some z=>eG oI z.cells.toList
  |none=>none
 |none=>none
def GF(P:Program)(d:Nat)(t:TypeId):Rd Eff :=
 match iP P t with
 |some cs=>.abs d (if cs.isEmpty=false then .ret ⟨.c (.ptr d 0),[(d,some (.box cs))],none⟩else .fail)
 |none=>.fail
def GG(P:Program)(d:Nat)(sv:SV):Rd Eff :=
 match sv with
 |.fv F=>.abs d (.ret ⟨.c (.ptr d 0),[(d,some (.box [.fnc P F]))],none⟩)
 |.c c=>if c.plain then .abs d (.ret ⟨.c (.ptr d 0),[(d,some (.box [c]))],none⟩)else .fail
 |.agg cs=>.abs d (if cs.isEmpty=false then .ret ⟨.c (.ptr d 0),[(d,some (.box cs))],none⟩else .fail)
 |_=>.fail
def jR:SV->Option (List SC)
 |.c c=>if c.plain then some [c]else none
 |.agg l=>some l
 |_=>none
def wv(P:Program)(fs:Array Field):List (Nat×Operand)->List SC->(List SC->Rd Eff)->Rd Eff
 | [],cs,k=>k cs
 |(i,x)::rest,cs,k=>fC x fun sv=>match jR sv with
  |none=>.fail
  |some l=>match fs[i]? with
   |none=>.fail
   |some fd=>if cK P fd.type=some l.length/\fd.offset+l.length<=cs.length then
     wv P fs rest (cs.take fd.offset++l++cs.drop (fd.offset+l.length)) k
    else .fail
def GH(P:Program)(t:TypeId)(parts:Array (Nat×Operand)):Rd Eff :=
 match iP P t with
 |none=>.fail
 |some cs=>match P.underlying t with
  |some (.struct fs)=>match eG (fun f:Field=>cK P f.type) fs.toList with
   |some _=>wv P fs parts.toList cs fun cs=>.ret ⟨.agg cs,[],none⟩
   |none=>.fail
  |_=>.fail
def iQ{α:Type}:List Operand->(List SV->Rd α)->Rd α
 | [],k=>k []
 |x::l,k=>fC x fun sv=>iQ l fun svs=>k (sv::svs)
def qy(k:IntKind):List SV->Option Db
 | []=>some []
 |.c (.int k' n)::l=>if k=k' then(match qy k l with|some ns=>some (n::ns)|none=>none)else none
 |_=>none
def qz:List SV->Option (List Bool)
 | []=>some []
 |.c (.bool b)::l=>(match qz l with|some ns=>some (b::ns)|none=>none)
 |_=>none
def qA:List SV->Option (List (List UInt8))
 | []=>some []
 |.c (.str b)::l=>(match qA l with|some ns=>some (b::ns)|none=>none)
 |_=>none
def qB(ei:TypeId)(ki:IntKind):List SV->List Nat->(Dc->List Nat->Rd Eff)->Rd Eff
 | [],_,k=>k [] []
 |.c .nil::l,used,k=>qB ei ki l used fun ls os=>k ([]::ls) os
 |.c (.own o)::l,used,k=>.h o fun
  |.ints e k' r=>if e=ei/\k'=ki/\used.all (fun u=>!(Nat.beq u o))then qB ei ki l (o::used) fun ls os=>k (r::ls) (o::os)else .fail
  |_=>.fail
 |_,_,_=>.fail
def ww:List SC->Option Dc
 | []=>some []
 |.ro (.ints .i64 l)::cs=>match ww cs with
  |some ls=>some (l::ls)
  |none=>none
 |_=>none
def mQ(hint:Bool):List SV->(Option (List FC×List (Nat×Option Ob))->Rd Eff)->Rd Eff
 | [],K=>K (some ([],[]))
 |.c (.ro d)::l,K=>mQ hint l fun
  |some (ds,fs)=>K (some (d::ds,fs))
  |none=>K none
 |.c (.own o)::l,K=>.h o fun ob=>match ob with
  |.frz d=>mQ hint l fun
   |some (ds,fs)=>K (some (d::ds,fs))
   |none=>K none
  |ob=>match hint with
   |true=>match gk ob with
    |some d=>mQ hint l fun
     |some (ds,fs)=>K (some (d::ds,(o,some (.frz d))::fs))
     |none=>K none
    |none=>K none
   |false=>K none
 |_,K=>K none
def OI(P:Program)(e:TypeId):Option IntKind :=
 match P.underlying e with
 |some (.struct fs)=>match fs.toList with
  | [f,g]=>match P.underlying f.type,P.underlying g.type with
   |some (.slice e1),some (.slice e2)=>match P.underlying e1,P.underlying e2 with
    |some (.slice a),some (.slice b)=>match jm P a,jm P b with
     |some k,some k'=>if k=k'/\f.offset=0/\g.offset=1 then some k else none
     |_,_=>none
    |_,_=>none
   |_,_=>none
  |_=>none
 |_=>none
def ie(P:Program)(t:TypeId):Option FC :=
 match P.underlying t with
 |some (.slice e)=>match P.underlying e with
  |some (.int k)=>some (.ints k [])
  |some .bool=>some (.bools [])
  |some (.slice e2)=>match P.underlying e2 with
   |some (.int k)=>some (.rows k [])
   |some (.slice e3)=>match P.underlying e3 with
    |some (.int k)=>some (.r3 k [])
    |some (.slice e4)=>match jm P e4 with
     |some k=>some (.r4 k [])
     |none=>none
    |_=>none
   |_=>none
  |some (.struct _)=>match OI P e with
   |some k=>some (.p3 k [])
   |none=>none
  |_=>none
 |_=>none
def GI(P:Program)(hint:Bool)(d:Nat)(t:TypeId)(len:Nat)(parts:Array (Nat×Operand)):Rd Eff :=
 if(parts.toList.map (·.1))=List.range len/\len<=1000 then
  match bX P t with
  |none=>.fail
  |some e=>match OI P e with
   |none=>.fail
   |some k=>if cK P e=some 2/\(iP P e).isSome=true then
     iQ (parts.toList.map (·.2)) fun svs=>match svs with
     | []=>.abs d (.ret ⟨.c (.own d),[(d,some (.lst 0 e (.p3 k [])))],none⟩)
     | [.agg [c1,c2]]=>mQ hint [.c c1,.c c2] fun pr=>match pr with
      |some ([.rows k1 x,.rows k2 y],fs)=>if k1=k/\k2=k then .abs d (.ret ⟨.c (.own d),(d,some (.lst 0 e (.p3 k [(x,y)])))::fs,none⟩)else .fail
      |_=>match c1,c2 with
       |.own o1,.own o2=>.h o1 fun ob1=>.h o2 fun ob2=>match ob1,ob2 with
        |.rows _ e1 ei1 k1 x,.rows _ e2 ei2 k2 y=>if e1=e2/\ei1=ei2/\k1=k/\k2=k/\o1≠o2 then
          .abs d (.ret ⟨.c (.own d),[(d,some (.tr 0 [e,e1,ei1] (.p3 k [(x,y)]))),(o1,none),(o2,none)],none⟩)else .fail
        |_,_=>.fail
       |_,_=>.fail
     |_=>.fail
    else .fail
 else .fail
def GJ(P:Program)(d:Nat)(t:TypeId)(len:Nat)(parts:Array (Nat×Operand)):Rd Eff :=
 if(parts.toList.map (·.1))=List.range len/\len<=1000 then
  match bX P t with
  |none=>.fail
  |some e=>if cK P e=some 1/\(iP P e).isSome=true then
    iQ (parts.toList.map (·.2)) fun svs=>match svs with
    | [.agg [.own o2]]=>.h o2 fun
     |.rows _ e2 ei2 k2 y=>.abs d (.ret ⟨.c (.own d),[(d,some (.tr 0 [e,e2,ei2] (.r3 k2 [y]))),(o2,none)],none⟩)
     |_=>.fail
    |_=>.fail
   else .fail
 else .fail
def GK(P:Program)(hint:Bool)(d:Nat)(t:TypeId)(len:Nat)(parts:Array (Nat×Operand)):Rd Eff :=
 if(parts.toList.map (·.1))=List.range len/\len<=1000 then
  match bX P t with
  |none=>.fail
  |some e=>if cK P e=some 1/\(iP P e).isSome=true then
    match P.underlying e with
    |some (.int k)=>iQ (parts.toList.map (·.2)) fun svs=>match qy k svs with
     |some l=>.abs d (.ret ⟨.c (.own d),[(d,some (.ints e k l))],none⟩)
     |none=>.fail
    |some .bool=>iQ (parts.toList.map (·.2)) fun svs=>match qz svs with
     |some l=>.abs d (.ret ⟨.c (.own d),[(d,some (.bools e l))],none⟩)
     |none=>.fail
    |some .string=>iQ (parts.toList.map (·.2)) fun svs=>match qA svs with
     |some l=>.abs d (.ret ⟨.c (.own d),[(d,some (.strs e l))],none⟩)
     |none=>.fail
    |some (.slice ei)=>iQ (parts.toList.map (·.2)) fun svs=>mQ hint svs fun pr=>match pr with
     |some (x::xs,fs)=>match gO (x::xs)with
      |some dd=>.abs d (.ret ⟨.c (.own d),(d,some (.lst 0 e dd))::fs,none⟩)
      |none=>.fail
     |_=>match jm P ei with
      |some ki=>qB ei ki svs [] fun ls os =>
        .abs d (.ret ⟨.c (.own d),(d,some (.rows 0 e ei ki ls))::os.map (fun o=>(o,none)),none⟩)
      |none=>match svs with
       | []=>match ie P t with
        |some dd=>eg dd (.abs d (.ret ⟨.c (.own d),[(d,some (.lst 0 e dd))],none⟩))
        |none=>.fail
       |_=>.fail
    |_=>.fail
   else .fail
 else .fail
def GL(P:Program)(d:Nat)(t:TypeId)(len:Nat)(parts:Array (Nat×Operand)):Rd Eff :=
 if(parts.toList.map (·.1))=List.range len/\len<=1000 then
  match bX P t with
  |none=>.fail
  |some e=>if cK P e=some 1/\(iP P e).isSome=true then
    match ie P t with
    |none=>.fail
    |some d0=>iQ (parts.toList.map (·.2)) fun svs=>match svs with
     | []=>match wq P 4 t with
      |e1::e2::es=>if e1=e/\d0.dep=es.length+1 then eg d0 (.abs d (.ret ⟨.c (.own d),[(d,some (.tr 0 (e1::e2::es) d0))],none⟩))else .fail
      |_=>.fail
     | [.c (.own o2)]=>.h o2 fun ob2=>match oJ ob2 with
      |some (es2,y)=>match gO [y]with
       |some dd=>.abs d (.ret ⟨.c (.own d),[(d,some (.tr 0 (e::es2) dd)),(o2,none)],none⟩)
       |none=>.fail
      |none=>.fail
     | [.c (.own o1),.c (.own o2)]=>.h o1 fun ob1=>.h o2 fun ob2=>match oJ ob1 with
      |some (es1,y1)=>match oJ ob2 with
       |some (es2,y2)=>match gO [y1,y2]with
        |some dd=>match gN es1 es2&&!Nat.beq o1 o2 with
         |true=>.abs d (.ret ⟨.c (.own d),[(d,some (.tr 0 (e::es1) dd)),(o1,none),(o2,none)],none⟩)
         |false=>.fail
        |none=>.fail
       |none=>.fail
      |none=>.fail
     |_=>.fail
   else .fail
 else .fail
def GM(P:Program)(s:TypeId)(cx:SC)(f:Nat):Rd Eff :=
 match P.underlying s with
 |some (.struct fs)=>match fs[f]? with
  |none=>.fail
  |some fd=>match cK P fd.type with
   |some (_+1)=>match cx with
    |.ptr o i=>.h o fun
     |.box cs=>if i+fd.offset<cs.length then aN (.ptr o (i+fd.offset))else .fail
     |_=>.fail
    |.rob cs i=>aN (.rob cs (i+fd.offset))
    |.kptr o ver p j=>.h o fun
     |.tr ver' _ d=>match p with
      | []=>if ver=ver' then(match fd.offset with
       |0=>.ret ⟨.c (.kptr o ver [] j),[],some (j<d.cn)⟩
       |1=>.ret ⟨.c (.kptr o ver [] (j+1)),[],some (j+1<d.cn)⟩
       |_=>.fail)else .fail
      |_::_=>.fail
     |_=>.fail
    |_=>.fail
   |_=>.fail
 |_=>.fail
def GN(P:Program)(s:TypeId)(sv:SV)(f:Nat):Rd Eff :=
 match P.underlying s with
 |some (.struct fs)=>match fs[f]? with
  |none=>.fail
  |some fd=>match sv with
   |.agg cs=>match lJ P fd.type with
    |some true=>match cK P fd.type with
     |some n=>if fd.offset+n<=cs.length then .ret ⟨.agg ((cs.drop fd.offset).take n),[],none⟩else .fail
     |none=>.fail
    |some false=>match cs[fd.offset]? with
     |some c=>aN c
     |none=>.fail
    |none=>.fail
   |_=>.fail
 |_=>.fail
def aa(n:Int)(len:Nat):Prop:=0<=n/\n<(len:Int)
def GO(P:Program)(t:TypeId)(cx ci:SC):Rd Eff :=
 match bX P t with
 |none=>.fail
 |some e=>if cK P e=some 1 then
   match ci with
   |.int _ n=>match cx with
    |.own o=>.h o fun ob=>match ob with
     |.box _=>.fail
     |.bx _=>.fail
     |.strs _ l=>.ret ⟨.c (.ptr o n.toNat),[],some (aa n l.length)⟩
     |.ints _ _ l=>.ret ⟨.c (.ptr o n.toNat),[],some (aa n l.length)⟩
     |.bools _ l=>.ret ⟨.c (.ptr o n.toNat),[],some (aa n l.length)⟩
     |.rows _ _ _ _ l=>.ret ⟨.c (.ptr o n.toNat),[],some (aa n l.length)⟩
     |.lst _ _ d=>eg d (.ret ⟨.c (.ptr o n.toNat),[],some (aa n d.len)⟩)
     |.frz _=>.fail
     |.mp _=>.fail
     |.qu _ _ l=>.ret ⟨.c (.qptr o n.toNat),[],some (aa n l.length)⟩
     |.rowsH _ _ _ _ l _=>.ret ⟨.c (.ptr o n.toNat),[],some (aa n l.length)⟩
     |.tr ver _ d=>eg d (.ret ⟨.c (.kptr o ver [] n.toNat),[],some (aa n d.len)⟩)
     |.yd _ _ _ _=>.fail
     |.trk ver _ d _=>eg d (.ret ⟨.c (.kptr o ver [] n.toNat),[],some (aa n d.len)⟩)
    |.kid o ver p=>.h o fun
     |.tr ver' _ d=>if ver=ver' then(match jj d p with
      |some x=>eg x (.ret ⟨.c (.kptr o ver p n.toNat),[],some (aa n x.len)⟩)
      |none=>.fail)else .fail
     |_=>.fail
    |.pre o len=>.h o fun ob=>kI ob (.ret ⟨.c (.ptr o n.toNat),[],some (aa n len)⟩)
    |.sub o off len=>.h o fun ob=>kI ob (.ret ⟨.c (.ptr o (off+n.toNat)),[],some (aa n len)⟩)
    |.row o ver i=>.h o fun
     |.rows ver' _ _ _ l=>if ver=ver' then .ret ⟨.c (.rptr o ver i n.toNat),[],some (aa n (l.getD i []).length)⟩else .fail
     |_=>.fail
    |.ro d=>match d with
     |.ints k l=>.ret ⟨.c (.rop (.ints k l) n.toNat),[],some (aa n l.length)⟩
     |.bools l=>.ret ⟨.c (.rop (.bools l) n.toNat),[],some (aa n l.length)⟩
     |.rows k l=>.ret ⟨.c (.rop (.rows k l) n.toNat),[],some (aa n l.length)⟩
     |.r3 k l=>.ret ⟨.c (.rop (.r3 k l) n.toNat),[],some (aa n l.length)⟩
     |.r4 k l=>.ret ⟨.c (.rop (.r4 k l) n.toNat),[],some (aa n l.length)⟩
     |_=>.fail
    |_=>.fail
   |_=>.fail
  else if cK P e=some 2 then
   match ci with
   |.int _ n=>match cx with
    |.own o=>.h o fun
     |.tr ver _ (.p3 k l)=>.ret ⟨.c (.kptr o ver [] (n.toNat*2)),[],some (aa n (FC.p3 k l).len)⟩
     |.lst _ _ (.p3 _ l)=>.ret ⟨.c (.pptr o n.toNat),[],some (aa n l.length)⟩
     |_=>.fail
    |.ro (.p3 k l)=>.ret ⟨.c (.rob [.rows k (l.getD n.toNat ([],[])).1,.rows k (l.getD n.toNat ([],[])).2] 0),[],some (aa n l.length)⟩
    |_=>.fail
   |_=>.fail
  else .fail
def wx(cx:SC):Rd Eff :=
 match cx with
 |.nil=>aN (.int .i64 0)
 |.str l=>aN (.int .i64 (l.length:Int))
 |.own o=>.h o fun ob=>match ob with
  |.box _=>.fail
  |.bx _=>.fail
  |.strs _ l=>aN (.int .i64 (l.length:Int))
  |.ints _ _ l=>aN (.int .i64 (l.length:Int))
  |.bools _ l=>aN (.int .i64 (l.length:Int))
  |.rows _ _ _ _ l=>aN (.int .i64 (l.length:Int))
  |.lst _ _ d=>aN (.int .i64 (d.len:Int))
  |.frz _=>.fail
  |.mp _=>.fail
  |.qu _ _ l=>aN (.int .i64 (l.length:Int))
  |.rowsH _ _ _ _ l _=>aN (.int .i64 (l.length:Int))
  |.tr _ _ d=>aN (.int .i64 (d.len:Int))
  |.yd _ _ _ _=>.fail
  |.trk _ _ d _=>aN (.int .i64 (d.len:Int))
 |.kid o ver p=>.h o fun
  |.tr ver' _ d=>if ver=ver' then(match jj d p with
   |some x=>aN (.int .i64 (x.len:Int))
   |none=>.fail)else .fail
  |_=>.fail
 |.pre o n=>.h o fun ob=>kI ob (aN (.int .i64 (n:Int)))
 |.sub o _ n=>.h o fun ob=>kI ob (aN (.int .i64 (n:Int)))
 |.row o ver i=>.h o fun
  |.rows ver' _ _ _ l=>if ver=ver' then aN (.int .i64 ((l.getD i []).length:Int))else .fail
  |_=>.fail
 |.ro d=>match d with
  |.ints _ l=>aN (.int .i64 (l.length:Int))
  |.bools l=>aN (.int .i64 (l.length:Int))
  |.rows _ l=>aN (.int .i64 (l.length:Int))
  |.r3 _ l=>aN (.int .i64 (l.length:Int))
  |.r4 _ l=>aN (.int .i64 (l.length:Int))
  |.p3 _ l=>aN (.int .i64 (l.length:Int))
  |_=>.fail
 |_=>.fail
def lK{α:Type}(x:Option Operand)(k:Option Int->Rd α):Rd α :=
 match x with
 |none=>k none
 |some y=>cR y fun
  |.int _ n=>k (some n)
  |_=>.fail
def bD(L:Nat):Option Int->Option Int->Prop
 |none,none=>True
 |none,some h=>0<=h/\h<=(L:Int)
 |some l,none=>0<=l/\l<=(L:Int)
 |some l,some h=>0<=l/\l<=h/\h<=(L:Int)
def bZ{α:Type}(r:List α):Option Int->Option Int->List α
 |none,none=>r
 |none,some h=>r.take h.toNat
 |some l,none=>r.drop l.toNat
 |some l,some h=>(r.take h.toNat).drop l.toNat
def lL(o L:Nat):Option Int->Option Int->SC
 |none,none=>.pre o L
 |none,some h=>.pre o h.toNat
 |some l,none=>.sub o l.toNat (L-l.toNat)
 |some l,some h=>.sub o l.toNat (h.toNat-l.toNat)
def OJ(o off L:Nat):Option Int->Option Int->SC
 |none,none=>.sub o off L
 |none,some h=>.sub o off h.toNat
 |some l,none=>.sub o (off+l.toNat) (L-l.toNat)
 |some l,some h=>.sub o (off+l.toNat) (h.toNat-l.toNat)
def qC(P:Program)(t:TypeId)(cx:SC)(lo hi:Option Operand):Rd Eff :=
 match cx with
 |.str r=>match P.underlying t with
  |some .string=>lK lo fun l=>lK hi fun h=>.ret ⟨.c (.str (bZ r l h)),[],some (bD r.length l h)⟩
  |_=>.fail
 |cx=>match bX P t with
  |none=>.fail
  |some e=>if cK P e=some 1 then
    lK lo fun l=>lK hi fun h=>match cx with
     |.own o=>.h o fun
      |.box _=>.fail
      |.bx _=>.fail
      |.strs _ _=>.fail
      |.ints _ _ r=>.ret ⟨.c (lL o r.length l h),[],some (bD r.length l h)⟩
      |.bools _ r=>.ret ⟨.c (lL o r.length l h),[],some (bD r.length l h)⟩
      |.rows _ _ _ _ r=>.ret ⟨.c (lL o r.length l h),[],some (bD r.length l h)⟩
      |.lst _ _ d=>eg d (.ret ⟨.c (lL o d.len l h),[],some (bD d.len l h)⟩)
      |.frz _=>.fail
      |.mp _=>.fail
      |.qu _ _ _=>.fail
      |.rowsH _ _ _ _ _ _=>.fail
      |.tr _ _ _=>.fail
      |.yd _ _ _ _=>.fail
      |.trk _ _ _ _=>.fail
     |.pre o L=>.h o fun ob=>kI ob (.ret ⟨.c (lL o L l h),[],some (bD L l h)⟩)
     |.sub o off L=>.h o fun ob=>kI ob (.ret ⟨.c (OJ o off L l h),[],some (bD L l h)⟩)
     |.ro d=>match d with
      |.ints k r=>.ret ⟨.c (.ro (.ints k (bZ r l h))),[],some (bD r.length l h)⟩
      |.bools r=>.ret ⟨.c (.ro (.bools (bZ r l h))),[],some (bD r.length l h)⟩
      |.rows k r=>.ret ⟨.c (.ro (.rows k (bZ r l h))),[],some (bD r.length l h)⟩
      |.r3 k r=>.ret ⟨.c (.ro (.r3 k (bZ r l h))),[],some (bD r.length l h)⟩
      |.r4 k r=>.ret ⟨.c (.ro (.r4 k (bZ r l h))),[],some (bD r.length l h)⟩
      |_=>.fail
     |_=>.fail
   else .fail
def wy(P:Program)(d:Nat)(t:TypeId)(cx:SC)(lo hi:Option Operand):Rd Eff :=
 match cx with
 |.own o=>.h o fun
  |.qu e k l=>match bX P t,hi with
   |some e',none=>if cK P e'=some 1 then
     lK lo fun
      |some n=>.abs d (.ret ⟨.c (.own d),[(d,some (.qu e k (l.drop n.toNat))),(o,none)],some (0<=n/\n<=(l.length:Int))⟩)
      |none=>.fail
    else .fail
   |_,_=>.fail
  |_=>qC P t (.own o) lo hi
 |cx=>qC P t cx lo hi
def wz(h:Int):Ob->Option (Nat×Ob)
 |.ints e k r=>some (r.length,.ints e k (r.take h.toNat))
 |.lst _ e d=>match d with
  |.rows k r=>some (r.length,.lst 0 e (.rows k (r.take h.toNat)))
  |_=>none
 |_=>none
def GP(P:Program)(d:Nat)(t:TypeId)(cx:SC)(lo hi:Option Operand):Rd Eff :=
 match cx,lo with
 |.own o,none=>.h o fun ob=>match bX P t with
  |some e=>if cK P e=some 1 then lK hi fun
    |some n=>match wz n ob with
     |some (L,ob')=>.abs d (.ret ⟨.c (.own d),[(d,some ob'),(o,none)],some (0<=n/\n<=(L:Int))⟩)
     |none=>.fail
    |none=>.fail
   else .fail
  |none=>.fail
 |_,_=>.fail
def jn(P:Program)(e:TypeId):Bool :=
 match P.info? e with
 |some i=>Nat.ble i.bytes 128&&Nat.beq i.size 1&&(match i.zero with|some z=>Nat.beq z.cells.size 1|none=>false)
 |none=>false
def GQ(P:Program)(e:TypeId):Bool :=
 match P.info? e with
 |some i=>Nat.ble i.bytes 128&&Nat.beq i.size 2&&(match i.zero with|some z=>Nat.beq z.cells.size 2|none=>false)
 |none=>false
def oK(P:Program)(e:TypeId)(c:SC):Bool :=
 match P.info? e with
 |some i=>match i.zero with
  |some (.int k n)=>match c with
   |.int k' n'=>decide (k=k'/\n=n')
   |_=>false
  |some (.bool b)=>match c with
   |.bool b'=>b == b'
   |_=>false
  |some (.slice none 0 0)=>match c with
   |.nil=>true
   |_=>false
  |_=>false
 |none=>false
def GR(P:Program)(d:Nat)(t:TypeId)(cl cc:SC):Rd Eff :=
 match bX P t with
 |none=>.fail
 |some e=>if jn P e then
   match cl,cc with
   |.int _ n,.int _ m=>match P.underlying e with
    |some (.int k)=>if oK P e (.int k 0)then .abs d (.ret ⟨.c (.own d),[(d,some (.ints e k (List.replicate n.toNat 0)))],some (0<=n/\n<=m/\ar m.toNat)⟩)else .fail
    |some .bool=>if oK P e (.bool false)then .abs d (.ret ⟨.c (.own d),[(d,some (.bools e (List.replicate n.toNat false)))],some (0<=n/\n<=m/\ar m.toNat)⟩)else .fail
    |some (.slice ei)=>match jm P ei with
     |some k=>if oK P e .nil then .abs d (.ret ⟨.c (.own d),[(d,some (.rows 0 e ei k (List.replicate n.toNat [])))],some (0<=n/\n<=m/\ar m.toNat)⟩)else .fail
     |none=>match ie P t with
      |some d0=>match Gz d0 n.toNat,wq P 4 t with
       |some dd,e1::e2::es=>if oK P e .nil=true/\e1=e/\d0.dep=es.length+1 then .abs d (.ret ⟨.c (.own d),[(d,some (.tr 0 (e1::e2::es) dd))],some (0<=n/\n<=m/\ar m.toNat)⟩)else .fail
       |_,_=>.fail
      |none=>.fail
    |_=>.fail
   |_,_=>.fail
  else .fail
def qD(k:IntKind)(c:SC)(K:Db->Rd Eff):Rd Eff :=
 match c with
 |.nil=>K []
 |.own o=>.h o fun
  |.ints _ k' l=>if k'=k then K l else .fail
  |_=>.fail
 |.pre o n=>.h o fun
  |.ints _ k' l=>if k'=k then K (l.take n)else .fail
  |_=>.fail
 |.sub o off n=>.h o fun
  |.ints _ k' l=>if k'=k then K ((l.drop off).take n)else .fail
  |_=>.fail
 |.row o ver i=>.h o fun
  |.rows ver' _ _ k' l=>if k'=k/\ver=ver' then K (l.getD i [])else .fail
  |_=>.fail
 |.ro d=>match d with
  |.ints k' l=>if k'=k then K l else .fail
  |_=>.fail
 |_=>.fail
def wA(c:SC)(K:List Bool->Rd Eff):Rd Eff :=
 match c with
 |.nil=>K []
 |.own o=>.h o fun
  |.bools _ l=>K l
  |_=>.fail
 |.ro d=>match d with
  |.bools l=>K l
  |_=>.fail
 |_=>.fail
def GS(c:SC)(K:List (List UInt8)->Rd Eff):Rd Eff :=
 match c with
 |.own o=>.h o fun
  |.strs _ l=>K l
  |_=>.fail
 |_=>.fail
def GT(c:SC)(K:FC->List (Nat×Option Ob)->Rd Eff):Rd Eff :=
 match c with
 |.ro d=>K d []
 |.own o=>.h o fun
  |.lst _ _ d=>K d []
  |.rows _ _ _ k l=>K (.rows k l) [(o,some (.frz (.rows k l)))]
  |_=>.fail
 |.pre o n=>.h o fun
  |.lst _ _ d=>match cz 0 n d with
   |some d'=>K d' []
   |none=>.fail
  |_=>.fail
 |.sub o off n=>.h o fun
  |.lst _ _ d=>match cz off n d with
   |some d'=>K d' []
   |none=>.fail
  |_=>.fail
 |_=>.fail
def oL(o:Nat):List (Nat×Option Ob)->Bool
 | []=>true
 |(o',_)::l=>!(Nat.beq o' o)&&oL o l
def lM(wd d:Nat)(e:TypeId)(cx cy:SC):Rd Eff :=
 GT cy fun dy fy=>match cx with
  |.nil=>if dt dy=false/\dy.wid=wd then .abs d (.ret ⟨.c (.own d),(d,some (.lst 0 e dy))::fy,some (ar dy.len)⟩)else .fail
  |.own o=>.h o fun
   |.lst _ e1 dx=>match jQ dx dy with
    |some dd=>if e1=e/\oL o fy=true/\dy.wid=wd then .abs d (.ret ⟨.c (.own d),(d,some (.lst 0 e dd))::(o,none)::fy,some (ar (dx.len+dy.len))⟩)else .fail
    |none=>.fail
   |.rows _ e1 _ k l=>match jQ (.rows k l) dy with
    |some dd=>if e1=e/\oL o fy=true/\dy.wid=wd then .abs d (.ret ⟨.c (.own d),(d,some (.lst 0 e dd))::(o,none)::fy,some (ar (l.length+dy.len))⟩)else .fail
    |none=>.fail
   |_=>.fail
  |.pre o n=>.h o fun
   |.lst _ e1 dx=>match cz 0 n dx with
    |some dx'=>match jQ dx' dy with
     |some dd=>if e1=e/\oL o fy=true/\dy.wid=wd then .abs d (.ret ⟨.c (.own d),(d,some (.lst 0 e dd))::(o,none)::fy,some (ar (n+dy.len))⟩)else .fail
     |none=>.fail
    |none=>.fail
   |_=>.fail
  |_=>.fail
def qE(wd d:Nat)(e:TypeId)(cx:SC)(o2:Nat)(es2:List TypeId)(dy:FC):Rd Eff :=
 match cx with
 |.own o=>.h o fun
  |.tr _ es dx=>match jQ dx dy with
   |some dd=>if gN es es2=true/\es.head?=some e/\o≠o2/\dy.wid=wd then .abs d (.ret ⟨.c (.own d),[(d,some (.tr 0 es dd)),(o,none),(o2,none)],some (ar (dx.len+dy.len))⟩)else .fail
   |none=>.fail
  |_=>.fail
 |_=>.fail
def jS(id o ver:Nat)(e ei:TypeId)(k:IntKind)(l:Dc)(hs:List Nat)(i:Nat):List (Nat×Option Ob) :=
 [(id,some (.ints ei k (l.getD i []))),(o,some (.rowsH ver e ei k l hs))]
def GU(P:Program)(d:Nat)(t:TypeId)(cx cy:SC):Rd Eff :=
 match bX P t with
 |none=>.fail
 |some e=>if jn P e then
   match P.underlying e with
   |some (.int k)=>qD k cy fun ys=>match cx with
    |.nil=>.abs d (.ret ⟨.c (.own d),[(d,some (.ints e k ys))],some (ar ys.length)⟩)
    |.emp=>.abs d (.ret ⟨.c (.own d),[(d,some (.ints e k ys))],some (ys.length≠0/\ar ys.length)⟩)
    |.own o=>.h o fun
     |.ints e' k' l=>if e'=e/\k'=k then .abs d (.ret ⟨.c (.own d),[(d,some (.ints e k (l++ys))),(o,none)],some (ar (l.length+ys.length))⟩)else .fail
     |.qu e' k' l=>if e'=e/\k'=k then .abs d (.ret ⟨.c (.own d),[(d,some (.qu e k (l++ys))),(o,none)],some (ys.length≠0/\ar (l.length+ys.length))⟩)else .fail
     |_=>.fail
    |.pre o n=>.h o fun
     |.ints e' k' l=>if e'=e/\k'=k then .abs d (.ret ⟨.c (.own d),[(d,some (.ints e k (l.take n++ys))),(o,none)],some (ar (n+ys.length))⟩)else .fail
     |_=>.fail
    |.row o ver i=>.h o fun
     |.rows ver' e1 ei k' l=>if ver'=ver/\ei=e/\k'=k then .abs d (.abs (d+500000) (.ret ⟨.c (.own d),[(d,some (.ints e k (l.getD i []++ys))),(d+500000,none)]++jS (d+500000) o (ver+1) e1 ei k l [i] i,some (ar ((l.getD i []).length+ys.length))⟩))else .fail
     |_=>.fail
    |_=>.fail
   |some .bool=>wA cy fun ys=>match cx with
    |.nil=>.abs d (.ret ⟨.c (.own d),[(d,some (.bools e ys))],some (ar ys.length)⟩)
    |.own o=>.h o fun
     |.bools e' l=>if e'=e then .abs d (.ret ⟨.c (.own d),[(d,some (.bools e (l++ys))),(o,none)],some (ar (l.length+ys.length))⟩)else .fail
     |_=>.fail
    |_=>.fail
   |some .string=>GS cy fun ys=>match cx with
    |.own o=>.h o fun
     |.strs e' l=>if e'=e then .abs d (.ret ⟨.c (.own d),[(d,some (.strs e (l++ys))),(o,none)],some (ar (l.length+ys.length))⟩)else .fail
     |_=>.fail
    |_=>.fail
   |some (.slice _)=>match cy with
    |.own o2=>.h o2 fun
     |.rows _ e2 ei2 k2 ys=>if e2=e then
       match cx with
       |.nil=>.abs d (.ret ⟨.c (.own d),[(d,some (.rows 0 e ei2 k2 ys)),(o2,none)],some (ar ys.length)⟩)
       |.own o=>.h o fun
        |.rows _ e1 ei1 k1 l=>if e1=e/\ei1=ei2/\k1=k2/\o≠o2 then
          .abs d (.ret ⟨.c (.own d),[(d,some (.rows 0 e ei2 k2 (l++ys))),(o,none),(o2,none)],some (ar (l.length+ys.length))⟩)else .fail
        |_=>lM 1 d e cx cy
       |_=>lM 1 d e cx cy
      else .fail
     |.tr _ es2 dy=>qE 1 d e cx o2 es2 dy
     |_=>lM 1 d e cx cy
    |_=>lM 1 d e cx cy
   |some (.struct _)=>match cy with
    |.own o2=>.h o2 fun
     |.tr _ es2 dy=>qE 1 d e cx o2 es2 dy
     |_=>.fail
    |_=>.fail
   |_=>.fail
  else match GQ P e with
   |false=>.fail
   |true=>match cy with
    |.own o2=>.h o2 fun
     |.tr _ es2 dy=>qE 2 d e cx o2 es2 dy
     |_=>lM 2 d e cx cy
    |_=>lM 2 d e cx cy
def GV(P:Program)(d:Nat)(t:TypeId)(cx cy:SC):Rd Eff:=.fail
def GW(sv:SV)(i:Nat):Rd Eff :=
 match sv with
 |.tup l=>match l[i]? with
  |some (.inl c)=>aN c
  |some (.inr cs)=>.ret ⟨.agg cs,[],none⟩
  |none=>.fail
 |_=>.fail
def GX(P:Program)(t:TypeId)(cx ci:SC):Rd Eff:=.fail
def cE(o:Nat):List Nat->Bool
 | []=>true
 |x::l=>match Nat.beq x o with
  |true=>false
  |false=>cE o l
def memP(i j:Nat):List (Nat×Nat)->Bool
 | []=>false
 |(a,b)::l=>(Nat.beq a i&&Nat.beq b j)||memP i j l
def eh{α:Type}(hid:List Nat)(o:Nat)(K:Ob->Rd α):Rd α :=
 match cE o hid with
 |true=>.h o K
 |false=>.fail
def kJ{α:Type}(hid:List Nat)(nl:Option FC)(c:SC)(K:FC->Rd α):Rd α :=
 match c with
 |.int k n=>K (.int k n)
 |.bool b=>K (.bool b)
 |.str l=>K (.str l)
 |.nil=>match nl with
  |some d=>K d
  |none=>.fail
 |.own o=>eh hid o fun ob=>match ob with
  |.frz d=>K d
  |ob=>match fA ob with
   |some d=>K d
   |none=>.fail
 |.pre o n=>eh hid o fun ob=>match fA ob with
  |some d=>match cz 0 n d with
   |some d=>K d
   |none=>.fail
  |none=>.fail
 |.sub o off n=>eh hid o fun ob=>match fA ob with
  |some d=>match cz off n d with
   |some d=>K d
   |none=>.fail
  |none=>.fail
 |.row o ver i=>eh hid o fun
  |.rows ver' _ _ k l=>if ver=ver' then K (.ints k (l.getD i []))else .fail
  |_=>.fail
 |.kid o ver p=>eh hid o fun
  |.tr ver' _ d=>if ver=ver' then(match jj d p with
   |some x=>K x
   |none=>.fail)else .fail
  |_=>.fail
 |.ro d=>K d
 |.orig _ _ d=>K d
 |.bsl o _=>eh hid o fun
  |.box cs=>match ww cs with
   |some ls=>K (.rows .i64 ls)
   |none=>.fail
  |_=>.fail
 |_=>.fail
def GY{α:Type}(c:SC)(K:FC->Rd α):Rd α :=
 match c with
 |.own o=>.h o fun ob=>match fA ob with
  |some d=>K d
  |none=>.fail
 |_=>.fail
def oM{α:Type}(hid:List Nat)(mt:List (Nat×Nat))(i j:Nat)(nl:Option FC)(c:SC)(K:FC->Rd α):Rd α :=
 match memP i j mt with
 |true=>GY c K
 |false=>kJ hid nl c K
def qF(P:Program)(t:TypeId):List TypeId :=
 match P.underlying t with
 |some (.struct fs)=>fs.toList.flatMap fun f=>match P.underlying f.type with
  |some (.struct gs)=>gs.toList.map (·.type)
  |_=>[f.type]
 |_=>[t]
def OK(P:Program):List TypeId->Option FC
 |t::_=>ie P t
 | []=>none
def jT{α:Type}(P:Program)(hid:List Nat)(mt:List (Nat×Nat))(i:Nat):Nat->List SC->List TypeId->(List FC->Rd α)->Rd α
 |_,[],_,K=>K []
 |j,c::cs,ts,K=>oM hid mt i j (OK P ts) c fun d=>jT P hid mt i (j+1) cs ts.tail fun ds=>K (d::ds)
def GZ(P:Program)(t:TypeId):TypeId :=
 match P.underlying t with
 |some (.pointer e)=>e
 |_=>t
def oN(ct:Option Post):Bool:=match ct with
 |some ⟨_,.c (.bool b),[]⟩=>b
 |_=>false
def mR(ct:Option Post):Prop:=match ct with
 |some ⟨p,.c (.bool _),[]⟩=>p
 |_=>False
def kK(ct:Option Post):Int:=match ct with
 |some ⟨_,.c (.int .i64 n),[]⟩=>n
 |_=>0
def mS(ct:Option Post):Int×Int:=match ct with
 |some ⟨_,.tup [.inl (.int .i64 a),.inl (.int .i64 b)],[]⟩=>(a,b)
 |_=>(0,0)
def qG(ct:Option Post):Prop:=match ct with
 |some ⟨p,.tup [.inl (.int .i64 _),.inl (.int .i64 _)],[]⟩=>p
 |_=>False
def jU(ct:Option Post):Prop:=match ct with
 |some ⟨p,.c (.int .i64 _),[]⟩=>p
 |_=>False
def OL(P:Program)(t:TypeId):Nat :=
 match P.underlying t with
 |some (.int .i64)=>1
 |some (.slice e)=>match P.underlying e with
  |some (.slice _)=>4
  |_=>2
 |some .bool=>3
 |_=>0
def G0(ps rs:List Nat)(ct:List AD->Option Post)(cds:List AD):Option FV :=
 match ps,rs with
 | [1],[3]=>some (.ib (fun x=>mR (ct (.c (.int .i64 x)::cds))) (fun x=>oN (ct (.c (.int .i64 x)::cds))))
 | [2],[3]=>some (.lb (fun x=>mR (ct (.c (.ints .i64 x)::cds))) (fun x=>oN (ct (.c (.ints .i64 x)::cds))))
 | [1,1],[1]=>some (.iii (fun x y=>jU (ct (.c (.int .i64 x)::.c (.int .i64 y)::cds))) (fun x y=>kK (ct (.c (.int .i64 x)::.c (.int .i64 y)::cds))))
 | [1,1],[3]=>some (.iib (fun x y=>mR (ct (.c (.int .i64 x)::.c (.int .i64 y)::cds))) (fun x y=>oN (ct (.c (.int .i64 x)::.c (.int .i64 y)::cds))))
 | [2,2],[1]=>some (.lli (fun x y=>jU (ct (.c (.ints .i64 x)::.c (.ints .i64 y)::cds))) (fun x y=>kK (ct (.c (.ints .i64 x)::.c (.ints .i64 y)::cds))))
 | [2,2],[3]=>some (.llb (fun x y=>mR (ct (.c (.ints .i64 x)::.c (.ints .i64 y)::cds))) (fun x y=>oN (ct (.c (.ints .i64 x)::.c (.ints .i64 y)::cds))))
 | [4],[3]=>some (.tb (fun x=>mR (ct (.c (.rows .i64 x)::cds))) (fun x=>oN (ct (.c (.rows .i64 x)::cds))))
 | [1,1],[1,1]=>some (.ii2 (fun x y=>qG (ct (.c (.int .i64 x)::.c (.int .i64 y)::cds))) (fun x y=>(mS (ct (.c (.int .i64 x)::.c (.int .i64 y)::cds))).1) (fun x y=>(mS (ct (.c (.int .i64 x)::.c (.int .i64 y)::cds))).2))
 | [1],[1]=>some (.ii (fun x=>jU (ct (.c (.int .i64 x)::cds))) (fun x=>kK (ct (.c (.int .i64 x)::cds))))
 |_,_=>none
def G1:List SC->Option Nat
 | [.ptr o 0]=>some o
 |_=>none
def G2:List SC->Option (Program×FV)
 | [.fnc P F]=>some (P,F)
 |_=>none
def jV{α:Type}(P:Program)(hid:List Nat):List SC->(List AD->Rd α)->Rd α
 | [],K=>K []
 |c::cs,K=>match c with
  |.ptr o 0=>eh hid o fun
   |.box xs=>match G1 xs with
    |some o2=>eh hid o2 fun
     |.box ys=>jT P hid [] 0 0 ys [] fun ds=>jV P hid cs fun r=>K (.bb ds::r)
     |_=>.fail
    |none=>match G2 xs with
     |some (P',F)=>jV P hid cs fun r=>K (.bf P' F::r)
     |none=>jT P hid [] 0 0 xs [] fun ds=>jV P hid cs fun r=>K (.box ds::r)
   |_=>.fail
  |c=>kJ hid none c fun d=>jV P hid cs fun r=>K (.c d::r)
def oO{α:Type}(P:Program)(Γ:FuncId->Option Ctr)(hid:List Nat)(mt:List (Nat×Nat))(i:Nat)(t:TypeId)(sv:SV)(K:AD->Rd α):Rd α :=
 match sv with
 |.c c=>match c with
  |.ptr o x=>match x with
   |0=>eh hid o fun
    |.box xs=>jT P hid [] 0 0 xs (qF P (GZ P t)) fun ds=>K (.box ds)
    |_=>.fail
   |_+1=>.fail
  |.rob cs x=>match x with
   |0=>K (.box cs)
   |_+1=>.fail
  |c=>oM hid mt i 0 (ie P t) c fun d=>K (.c d)
 |.agg cs=>jT P hid mt i 0 cs (qF P t) fun ds=>K (.agg ds)
 |.fv F=>K (.fv F)
 |.fn f caps=>match P.underlying t with
  |some (.func ps rs _)=>match Γ f with
    |none=>.fail
    |some ⟨[],ct⟩=>jV P hid caps fun cds=>match G0 (ps.toList.map (OL P)) (rs.toList.map (OL P)) ct cds with
     |some F=>K (.fv F)
     |none=>.fail
    |some ⟨_::_,_⟩=>.fail
  |_=>.fail
 |.fvs _ _=>.fail
 |.tup _=>.fail
def jW{α:Type}(P:Program)(Γ:FuncId->Option Ctr)(hid:List Nat)(mt:List (Nat×Nat)):Nat->List SV->List TypeId->(List AD->Rd α)->Rd α
 |_,[],_,K=>K []
 |i,sv::svs,ts,K=>oO P Γ hid mt i (ts.headD 0) sv fun ad=>jW P Γ hid mt (i+1) svs ts.tail fun ads=>K (ad::ads)
def iR:RC->Option Ob
 |.ints e k l=>some (.ints e k l)
 |.bools e l=>some (.bools e l)
 |.rows e ei k l=>some (.rows 0 e ei k l)
 |.bx cs=>some (.box (cs.map dm))
 |.strs e l=>some (.strs e l)
 |.cut _ _ e ei k l=>some (.rows 0 e ei k l)
 |.lst e d=>some (.lst 0 e d)
 |.tr es d=>some (.tr 0 es d)
 |_=>none
def lN(id:Nat):RC->SC
 |.int k n=>.int k n
 |.bool b=>.bool b
 |.str l=>.str l
 |.ints _ _ _=>.own id
 |.bools _ _=>.own id
 |.rows _ _ _ _=>.own id
 |.nilq b=>.nilq b
 |.ro d=>.ro d
 |.bx _=>.ptr id 0
 |.strs _ _=>.own id
 |.cut off n _ _ _ _=>.sub id off n
 |.lst _ _=>.own id
 |.gone _=>.any
 |.tr _ _=>.own id
def oP:Nat->List RC->List (Nat×RC)
 |_,[]=>[]
 |j,x::l=>(j,x)::oP (j+1) l
def mT:Nat->List (RC ⊕ List RC)->List (Nat×RC)
 |_,[]=>[]
 |i,.inl x::l=>(16*i,x)::mT (i+1) l
 |i,.inr xs::l=>oP (16*i) xs++mT (i+1) l
def dn:RV->List (Nat×RC)
 |.c x=>[(0,x)]
 |.agg l=>oP 0 l
 |.tup l=>mT 0 l
 |.st _ _ _=>[]
def jo(d:Nat):Nat->List RC->List SC
 |_,[]=>[]
 |j,x::l=>lN (d+1000*j) x::jo d (j+1) l
def kL(d:Nat):Nat->List (RC ⊕ List RC)->List (SC ⊕ List SC)
 |_,[]=>[]
 |i,.inl x::l=>.inl (lN (d+1000*(16*i)) x)::kL d (i+1) l
 |i,.inr xs::l=>.inr (jo d (16*i) xs)::kL d (i+1) l
def lO(d:Nat):RV->SV
 |.c x=>.c (lN (d+1000*0) x)
 |.agg l=>.agg (jo d 0 l)
 |.tup l=>.tup (kL d 0 l)
 |.st _ _ _=>.c .any
def qH:List FC->Bool
 | []=>true
 |d::l=>dt d&&qH l
def wB:RC->Bool
 |.ro _=>true
 |.lst _ _=>true
 |.bx cs=>!qH cs
 |_=>false
def roL:List (Nat×RC)->Bool
 | []=>false
 |(_,rc)::l=>wB rc||roL l
def lP(rv:RV):Bool:=roL (dn rv)
def wD:SC->Option FC
 |.int k n=>some (.int k n)
 |.bool b=>some (.bool b)
 |.str l=>some (.str l)
 |.ro d=>some d
 |_=>none
def oQ:SV->Option AD
 |.c c=>match wD c with
  |some d=>some (.c d)
  |none=>none
 |.agg l=>match eG wD l with
  |some ds=>some (.agg ds)
  |none=>none
 |_=>none
def G3(c:Option Ctr)(svs:List SV):Option (List AD×Prop×RV) :=
 match c with
 |some ⟨[],ct⟩=>match eG oQ svs with
  |some ads=>match ct ads with
   |some ⟨pre,ret,[]⟩=>match lP ret with
    |true=>some (ads,pre,ret)
    |false=>none
   |_=>none
  |none=>none
 |_=>none
def d5(d:Nat):List (Nat×RC)->List (Nat×Option Ob)
 | []=>[]
 |(i,rc)::l=>match iR rc with
  |some ob=>(d+1000*i,some ob)::d5 d l
  |none=>d5 d l
def lQ{α:Type}(ids:List (Nat×Option Ob))(k:Rd α):Rd α :=
 match ids with
 | []=>k
 |(i,_)::l=>.abs i (lQ l k)
def fk:List Nat->Bool
 | []=>true
 |i::l=>cE i l&&fk l
def oR(svs:List SV):List (Nat×Nat)->Option (List Nat)
 | []=>some []
 |(i,j)::l=>match svs[i]? with
  |some sv=>match jR sv with
   |some cs=>match cs[j]? with
    |some (.own o)=>match oR svs l with
     |some os=>some (o::os)
     |none=>none
    |_=>none
   |none=>none
  |none=>none
def gm:List FC->List FC->Option Prop
 | [],[]=>some True
 |.int k _::l,.int k' _::l'=>if k=k' then gm l l' else none
 |.bool _::l,.bool _::l'=>gm l l'
 |.str _::l,.str _::l'=>gm l l'
 |.ints k a::l,.ints k' a'::l'=>if k=k' then(match gm l l' with|some p=>some (a=a'/\p)|none=>none)else none
 |.bools a::l,.bools a'::l'=>(match gm l l' with|some p=>some (a=a'/\p)|none=>none)
 |.rows k a::l,.rows k' a'::l'=>if k=k' then(match gm l l' with|some p=>some (a=a'/\p)|none=>none)else none
 |.r3 k a::l,.r3 k' a'::l'=>if k=k' then(match gm l l' with|some p=>some (a=a'/\p)|none=>none)else none
 |.r4 k a::l,.r4 k' a'::l'=>if k=k' then(match gm l l' with|some p=>some (a=a'/\p)|none=>none)else none
 |_,_=>none
def gP:List SC->List FC->List SC
 |c::cs,d::ds=>(if dt d then dm d else c)::gP cs ds
 |_,_=>[]
def dz:Ob->RC->Option (Ob×Prop)
 |.ints e k r,.ints e' k' r'=>if e=e'/\k=k' then some (.ints e k r',r'.length=r.length)else none
 |.bools e r,.bools e' r'=>if e=e' then some (.bools e r',r'.length=r.length)else none
 |.rows ver e ei k r,.rows e' ei' k' r'=>if e=e'/\ei=ei'/\k=k' then some (.rows ver e ei k r',r'.map List.length=r.map List.length)else none
 |.bx cs,.bx cs'=>match gm cs cs' with
  |some p=>some (.bx cs',p)
  |none=>none
 |.tr ver es r,.tr es' r'=>match gN es es'&&Nat.beq r.wid r'.wid with
  |true=>some (.tr ver es r',r'.len=r.len)
  |false=>none
 |.lst ver e d,.gone (.lst e' _)=>if e=e' then some (.lst ver e d,True)else none
 |.ints e k l,.gone (.ints e' k' _)=>if e=e'/\k=k' then some (.ints e k l,True)else none
 |.rows ver e ei k l,.gone (.rows e' ei' k' _)=>if e=e'/\ei=ei'/\k=k' then some (.rows ver e ei k l,True)else none
 |_,_=>none
def oS(rc:RC)(ob:Ob):Option Ob:=match rc.isGone with
 |true=>none
 |false=>some ob
def mU{α:Type}:List Nat->List RC->(List (Nat×Option Ob)->Prop->Rd α)->Rd α
 | [],[],K=>K [] True
 |o::os,rc::rcs,K=>.h o fun ob=>match dz ob rc with
  |some (ob',p)=>mU os rcs fun ups q=>K ((o,oS rc ob')::ups) (p/\q)
  |none=>.fail
 |_,_,_=>.fail
def wE{α:Type}(hid:List Nat)(nl:Option FC)(c:SC)(K:FC->List (Nat×Option Ob)->Rd α):Rd α :=
 match c with
 |.int k n=>K (.int k n) []
 |.bool b=>K (.bool b) []
 |.str l=>K (.str l) []
 |.nil=>match nl with
  |some d=>K d []
  |none=>.fail
 |.ro d=>K d []
 |.own o=>eh hid o fun ob=>match gk ob with
  |some d=>K d [(o,some (.frz d))]
  |none=>.fail
 |.pre o n=>eh hid o fun ob=>match gk ob with
  |some d=>match cz 0 n d with
   |some d'=>K d' [(o,some (.frz d))]
   |none=>.fail
  |none=>.fail
 |.sub o off n=>eh hid o fun ob=>match gk ob with
  |some d=>match cz off n d with
   |some d'=>K d' [(o,some (.frz d))]
   |none=>.fail
  |none=>.fail
 |_=>.fail
def wI{α:Type}(P:Program)(hid:List Nat):List SC->List TypeId->(List FC->List (Nat×Option Ob)->Rd α)->Rd α
 | [],_,K=>K [] []
 |c::cs,ts,K=>wE hid (OK P ts) c fun d fs=>wI P hid cs ts.tail fun ds gs=>K (d::ds) (fs++gs)
def G4{α:Type}(P:Program)(hid:List Nat)(mt:List (Nat×Nat))(i:Nat)(t:TypeId)(sv:SV)(K:AD->List (Nat×Option Ob)->Rd α):Rd α :=
 match sv with
 |.c c=>match memP i 0 mt with
  |true=>GY c fun d=>K (.c d) []
  |false=>wE hid (ie P t) c fun d fs=>K (.c d) fs
 |.agg cs=>wI P hid cs (qF P t) fun ds fs=>K (.agg ds) fs
 |.fv F=>K (.fv F) []
 |_=>.fail
def wJ{α:Type}(P:Program)(hid:List Nat)(mt:List (Nat×Nat)):Nat->List SV->List TypeId->(List AD->List (Nat×Option Ob)->Rd α)->Rd α
 |_,[],_,K=>K [] []
 |i,sv::svs,ts,K=>G4 P hid mt i (ts.headD 0) sv fun ad fs=>wJ P hid mt (i+1) svs ts.tail fun ads gs=>K (ad::ads) (fs++gs)
def wK(svs:List SV):List (Nat×Nat)->Bool
 | []=>true
 |(i,j)::l=>(match svs[i]? with|some (.c _)=>Nat.beq j 0|_=>false)&&wK svs l
def wL(P:Program)(d:Nat)(mt:List (Nat×Nat))(ct:List AD->Option Post)(hid:List Nat)(svs:List SV)(ts:List TypeId):Rd Eff :=
 match wK svs mt with
 |false=>.fail
 |true=>wJ P hid mt 0 svs ts fun ads fs=>match ct ads with
  |none=>.fail
  |some ⟨pre,ret,wrs⟩=>mU hid wrs fun ups p =>
   lQ (d5 d (dn ret)) (.ret ⟨lO d ret,d5 d (dn ret)++(ups++fs),some (pre/\p)⟩)
def ig(P:Program)(Γ:FuncId->Option Ctr)(d:Nat)(f:FuncId)(svs:List SV)(ts:List TypeId):Rd Eff :=
 match Γ f with
 |none=>.fail
 |some ⟨mt,ct⟩=>match oR svs mt with
  |none=>.fail
  |some hid=>match fk hid with
   |false=>.fail
   |true=>jW P Γ hid mt 0 svs ts fun ads=>match ct ads with
    |none=>.fail
    |some ⟨pre,ret,wrs⟩=>match lP ret with
     |true=>wL P d mt ct hid svs ts
     |false=>mU hid wrs fun ups p =>
      lQ (d5 d (dn ret)) (.ret ⟨lO d ret,d5 d (dn ret)++ups,some (pre/\p)⟩)
def G5(d:Nat)(pre:Prop)(ret:RV):Rd Eff :=
 lQ (d5 d (dn ret)) (.ret ⟨lO d ret,d5 d (dn ret)++[],some (pre/\True)⟩)
def jp:RC->Option SC
 |.int k n=>some (.int k n)
 |.bool b=>some (.bool b)
 |_=>none
def wM(c:Option Ctr):Bool :=
 match c with
 |some ⟨[(0,0)],_⟩=>true
 |_=>false
def G6(P:Program)(Γ:FuncId->Option Ctr)(f:FuncId)(o ver i:Nat)(svs:List SV)(ts:List TypeId):Rd Eff:=.fail
def G7(P:Program)(Γ:FuncId->Option Ctr)(f:FuncId)(o ver:Nat)(p:List Nat)(svs:List SV)(ts:List TypeId):Rd Eff:=.fail
def G8(P:Program)(Γ:FuncId->Option Ctr)(f:FuncId)(o off n:Nat)(svs:List SV)(ts:List TypeId):Rd Eff:=.fail
def Yx(c:Option Ctr):Bool :=
 match c with
 |some ⟨[(1,0)],_⟩=>true
 |_=>false
def G9(P:Program)(Γ:FuncId->Option Ctr)(f:FuncId)(k0:IntKind)(n0:Int)(o ver i:Nat)(svs:List SV)(ts:List TypeId):Rd Eff:=.fail
def Ha:SC->Option FC
 |.int k n=>some (.int k n)
 |.bool b=>some (.bool b)
 |.str l=>some (.str l)
 |.ro d=>some d
 |.orig _ _ d=>some d
 |_=>none
def Hb(P:Program)(Γ:FuncId->Option Ctr)(d:Nat)(f:FuncId)(o:Nat)(svs:List SV):Rd Eff :=
 match Γ f with
 |some ⟨[(0,0)],ct⟩=>.h o fun ob=>match ob with
  |.box xs=>match eG Ha xs with
   |some fcs=>match eG oQ svs with
    |some ads=>match ct (.box fcs::ads)with
     |some ⟨pre,ret,[.bx fcs']⟩=>match gm fcs fcs' with
      |some q=>lQ (d5 d (dn ret)) (.ret ⟨lO d ret,d5 d (dn ret)++[(o,some (.box (gP xs fcs')))],some (pre/\q)⟩)
      |none=>.fail
     |_=>.fail
    |none=>.fail
   |none=>.fail
  |_=>.fail
 |_=>.fail
def Hc(P:Program)(Γ:FuncId->Option Ctr)(d:Nat)(f:FuncId)(o:Nat)(svs:List SV)(ts:List TypeId):Rd Eff :=
 match Γ f with
 |some ⟨[(0,0)],ct⟩=>.h o fun ob=>match ob with
  |.box xs=>jT P [o] [] 0 0 xs (qF P (GZ P (ts.headD 0))) fun fcs=>jW P Γ [o] [(0,0)] 1 svs ts.tail fun ads=>match ct (.box fcs::ads)with
   |some ⟨pre,ret,[.bx fcs']⟩=>match lP ret with
    |true=>Hb P Γ d f o svs
    |false=>match gm fcs fcs' with
     |some q=>lQ (d5 d (dn ret)) (.ret ⟨lO d ret,d5 d (dn ret)++[(o,some (.box (gP xs fcs')))],some (pre/\q)⟩)
     |none=>.fail
   |_=>.fail
  |_=>.fail
 |_=>.fail
def gQ:Ob->Ob
 |.rows _ e ei k l=>.rows 0 e ei k l
 |.lst _ e d=>.lst 0 e d
 |.tr _ es d=>.tr 0 es d
 |.yd _ Y pre b=>.yd 0 Y pre b
 |ob=>ob
def qI:Ob->Bool
 |.ints _ _ _=>true
 |.bools _ _=>true
 |.rows _ _ _ _ _=>true
 |.lst _ _ _=>true
 |.tr _ _ _=>true
 |.yd _ _ _ _=>true
 |_=>false
def jX(P:Program)(t:TypeId):Option Ob :=
 match bX P t with
 |none=>none
 |some e=>match P.underlying e with
  |some (.int k)=>some (.ints e k [])
  |some .bool=>some (.bools e [])
  |some (.slice ei)=>match jm P ei with
   |some k=>some (.lst 0 e (.rows k []))
   |none=>match ie P t with
    |some (.r3 k l)=>match l,wq P 4 t with
     | [],[a,b,c]=>some (.tr 0 [a,b,c] (.r3 k []))
     |_,_=>none
    |_=>none
  |_=>none
abbrev Tr:=List (Nat×Option Nat×Ob)
def wN{α:Type}(k:Nat)(nl:Option Ob)(c:SC)(K:MC->Tr->Rd α):Rd α :=
 match c with
 |.int k n=>K (.c (.int k n)) []
 |.bool b=>K (.c (.bool b)) []
 |.str l=>K (.c (.str l)) []
 |.ro d=>K (.c d) []
 |.orig _ _ d=>K (.c d) []
 |.own o=>.h o fun ob=>match ob with
  |.frz d=>K (.c d) []
  |ob=>match qI ob with
   |true=>K (.ob (gQ ob)) [(k,some o,ob)]
   |false=>.fail
 |.nil=>match nl with
  |some ob=>K (.ob ob) [(k,none,ob)]
  |none=>.fail
 |_=>.fail
def OM(P:Program):List TypeId->Option Ob
 | []=>none
 |t::_=>jX P t
def wO{α:Type}(P:Program):Nat->List SC->List TypeId->(List MC->Tr->Rd α)->Rd α
 |_,[],_,K=>K [] []
 |k,c::cs,ts,K=>wN k (OM P ts) c fun x os=>wO P (k+1) cs ts.tail fun l os'=>K (x::l) (os++os')
def Hd{α:Type}(P:Program)(k:Nat)(t:TypeId)(sv:SV)(K:MA->Tr->Rd α):Rd α :=
 match sv with
 |.c c=>match c with
  |.ptr o i=>match i with
   |0=>.h o fun ob=>match ob with
    |.box cs=>wO P (k+1) cs (qF P (GZ P t)) fun l os=>K (.box l) ((k,some o,.box (fR (k+1) l))::os)
    |_=>.fail
   |_+1=>.fail
  |c=>wN k (jX P t) c fun x os=>K (.m x) os
 |_=>.fail
def wP{α:Type}(P:Program):Nat->List SV->List TypeId->(List MA->Tr->Rd α)->Rd α
 |_,[],_,K=>K [] []
 |i,sv::svs,ts,K=>Hd P (da i) (ts.headD 0) sv fun x os=>wP P (i+1) svs ts.tail fun l os'=>K (x::l) (os++os')
def iS:Tr->List Nat
 | []=>[]
 |(_,some o,_)::l=>o::iS l
 |(_,none,_)::l=>iS l
def eH:Tr->Nat->Option (Option Nat×Ob)
 | [],_=>none
 |(k,x)::l,t=>match Nat.beq k t with
  |true=>some x
  |false=>eH l t
def eR(d:Nat)(os:Tr)(k:Nat):Nat :=
 match eH os k with
 |some (some o,_)=>o
 |_=>d+1000*k
def oT(f:Nat->Nat):SC->Option SC
 |.int k n=>some (.int k n)
 |.bool b=>some (.bool b)
 |.str l=>some (.str l)
 |.nil=>some .nil
 |.any=>some .any
 |.ro d=>some (.ro d)
 |.own k=>some (.own (f k))
 |.ptr k i=>some (.ptr (f k) i)
 |_=>none
def wQ(f:Nat->Nat):SV->Option SV
 |.c c=>match oT f c with
  |some c'=>some (.c c')
  |none=>none
 |.fn g l=>match eG (oT f) l with
  |some l'=>some (.fn g l')
  |none=>none
 |.tup l=>match l with
  | []=>some (.tup [])
  |_=>none
 |_=>none
def jq(f:Nat->Nat)(ob:Ob):Option Ob :=
 match ob with
 |.box cs=>match eG (oT f) cs with
  |some cs'=>some (.box cs')
  |none=>none
 |ob=>match qI ob with
  |true=>some ob
  |false=>none
def qJ:Ob->Ob->Bool
 |.box cs,.box cs'=>Nat.beq cs.length cs'.length
 |.yd _ _ _ _,.yd _ _ _ _=>true
 |_,_=>false
def fS:Ob->Ob->Ob
 |.yd v _ _ _,.yd v' Y pre b=>.yd (v+v') Y pre b
 |_,ob=>ob
def qK(d:Nat)(os:Tr):List (Nat×Option Ob)->Option (List (Nat×Option Ob)×List (Nat×Option Ob))
 | []=>some ([],[])
 |(_,none)::_=>none
 |(k,some ob)::l=>match jq (eR d os) ob with
  |none=>none
  |some ob'=>match qK d os l with
   |none=>none
   |some (kept,new)=>match eH os k with
    |some (some o,ob0)=>match qJ ob0 ob with
     |true=>some ((o,some (fS ob0 ob'))::kept,new)
     |false=>none
    |some (none,_)=>none
    |none=>some (kept,(d+1000*k,some ob')::new)
def de(hp:List (Nat×Option Ob)):Tr->List (Nat×Option Ob)
 | []=>[]
 |(k,some o,_)::l=>match lk hp k with
  |none=>(o,none)::de hp l
  |some _=>de hp l
 |(_,none,_)::l=>de hp l
def He(c:Option Ctr):Bool :=
 match c with
 |some ⟨[(0,93),(0,93)],_⟩=>true
 |_=>false
def Hf(P:Program)(d:Nat)(c:Option Ctr)(svs:List SV)(ts:List TypeId):Rd Eff :=
 match c with
 |none=>.fail
 |some ⟨_,ct⟩=>wP P 0 svs ts fun mas os=>match ct (mas.map .ma)with
  |some ⟨pre,.st sv ex outs,[]⟩=>match fk (os.map (·.1))&&fk (iS os)&&fk ((oH 0 outs++qx ex).map (·.1))with
   |true=>match wQ (eR d os) sv,qK d os (oH 0 outs++qx ex)with
    |some sv',some (kept,new)=>lQ new (.ret ⟨sv',new++(kept++de (oH 0 outs++qx ex) os),some pre⟩)
    |_,_=>.fail
   |false=>.fail
  |_=>.fail
def Yy(c:Option Ctr)(svs:List SV):Bool :=
 match c with
 |some ⟨[(1,0)],_⟩=>match svs with
  | [.c (.int .i64 _),.fn _ _]=>true
  |_=>false
 |_=>false
def Hg(P:Program)(Γ:FuncId->Option Ctr)(d:Nat)(f:FuncId)(svs:List SV):Rd Eff:=.fail
def Hh(o:Nat)(F:SFV)(svs:List SV):Rd Eff:=.fail
def Hi(c:Option Ctr):Bool :=
 match c with
 |some ⟨[(0,97),(0,97)],_⟩=>true
 |_=>false
def Hj(c:Option Ctr)(svs:List SV):Rd Eff :=
 match c with
 |some ⟨_,ct⟩=>match svs with
  | [.c (.own o),.fn g []]=>.h o fun ob=>match ob with
   |.rows ver e ei .i64 l=>match ct [.c (.rows .i64 l)]with
    |some ⟨pre,.c (.rows g' _ .i64 l'),_⟩=>match Nat.beq g' g with
     |true=>.ret ⟨.tup [],[(o,some (.rows (ver+1) e ei .i64 l'))],some (pre/\l'.length=l.length)⟩
     |false=>.fail
    |_=>.fail
   |.tr ver [e,e2,e3] (.r3 .i64 l)=>match ct [.c (.r3 .i64 l)]with
    |some ⟨pre,.c (.tr [g'] (.r3 .i64 l')),_⟩=>match Nat.beq g' g with
     |true=>.ret ⟨.tup [],[(o,some (.tr (ver+1) [e,e2,e3] (.r3 .i64 l')))],some (pre/\l'.length=l.length)⟩
     |false=>.fail
    |_=>.fail
   |_=>.fail
  |_=>.fail
 |none=>.fail
def ON(c:Option Ctr):Bool :=
 match c with
 |some ⟨[(0,96),(0,96)],_⟩=>true
 |_=>false
def Hk(c:Option Ctr)(svs:List SV):Rd Eff:=.fail
def OO(c:Option Ctr):Bool :=
 match c with
 |some ⟨[(0,99),(0,99)],_⟩=>true
 |_=>false
def Hl(d:Nat)(svs:List SV):Rd Eff:=.fail
def OP(c:Option Ctr):Option TypeId :=
 match c with
 |some ⟨[(0,98),(0,98)],ct⟩=>match ct []with
  |some ⟨_,.c (.ints e .i64 []),_⟩=>some e
  |_=>none
 |_=>none
def Hm(d:Nat)(e:TypeId)(svs:List SV):Rd Eff:=.fail
def Yz(c:Option Ctr):Bool :=
 match c with
 |some ⟨[(0,0),(1,0)],_⟩=>true
 |_=>false
def Hn(P:Program)(Γ:FuncId->Option Ctr)(d:Nat)(f:FuncId)(o ver i j:Nat)(ts:List TypeId):Rd Eff:=.fail
def iT(d:Nat)(ob:Ob):Rd Eff->Rd Eff
 |.ret e=>.ret ⟨e.val,e.hp++[(d,none)],e.owed⟩
 |.fail=>.fail
 |.f t k=>.f t fun sv=>iT d ob (k sv)
 |.h o k=>match Nat.beq o d with
  |true=>iT d ob (k ob)
  |false=>.h o fun x=>iT d ob (k x)
 |.abs o k=>match Nat.beq o d with
  |true=>.fail
  |false=>.abs o (iT d ob k)
def wR(c:Option Ctr)(svs:List SV):Option Nat :=
 match c with
 |some ⟨[(i,0)],_⟩=>match svs[i]? with
  |some (.c .nil)=>some i
  |_=>none
 |_=>none
def Ho(P:Program)(Γ:FuncId->Option Ctr)(d:Nat)(f:FuncId)(i:Nat)(svs:List SV)(ts:List TypeId):Rd Eff :=
 match Γ f with
 |some ⟨_,ct⟩=>jW P Γ [] [] 0 svs ts fun ads=>match ct ads with
  |some ⟨_,_,[.gone (.rows e ei k _)]⟩=>.abs (d+490490) (iT (d+490490) (.rows 0 e ei k []) (ig P Γ d f (svs.set i (.c (.own (d+490490)))) ts))
  |_=>.fail
 |none=>.fail
def wS(sv:SV):Option SC :=
 match sv with
 |.c c=>if c.plain then some c else none
 |_=>none
def Hp(P:Program)(o i:Nat):Rd Eff :=
 match Nat.beq o i with
 |true=>.fail
 |false=>.h o fun ob=>match ob with
  |.yd v Y pre b=>.h i fun ob2=>match ob2 with
   |.ints e k x=>match k with
    |.i64=>.ret ⟨.c (.bool (Y.go pre x)),[(o,some (.yd (v+1) Y (pre++[x]) (Y.go pre x)))],some (Y.P=P/\Y.e=e/\b=true/\Y.ok pre x)⟩
    |_=>.fail
   |_=>.fail
  |_=>.fail
def OQ(P:Program)(Γ:FuncId->Option Ctr)(d:Nat)(fv:SV)(svs:List SV)(ts:List TypeId):Rd Eff :=
 match fv with
 |.fn f []=>match OO (Γ f)with
  |true=>Hl d svs
  |false=>match OP (Γ f)with
   |some e=>Hm d e svs
   |none=>match Hi (Γ f)with
    |true=>Hj (Γ f) svs
    |false=>match ON (Γ f)with
    |true=>Hk (Γ f) svs
    |false=>match He (Γ f)with
    |true=>Hf P d (Γ f) svs ts
    |false=>match Yy (Γ f) svs with
    |true=>Hg P Γ d f svs
    |false=>match G3 (Γ f) svs with
     |some (_,pre,ret)=>G5 d pre ret
     |none=>match svs with
      |.c (.row o ver i)::rest=>match wM (Γ f)with
       |true=>G6 P Γ f o ver i rest ts.tail
       |false=>match Yz (Γ f)with
        |true=>match rest with
         | [.c (.row o' ver' j)]=>match Nat.beq o' o,Nat.beq ver' ver with
          |true,true=>Hn P Γ d f o ver i j ts
          |_,_=>ig P Γ d f svs ts
         |_=>ig P Γ d f svs ts
        |false=>ig P Γ d f svs ts
      |.c (.kid o ver p)::rest=>match wM (Γ f)with
       |true=>G7 P Γ f o ver p rest ts.tail
       |false=>ig P Γ d f svs ts
      |.c (.sub o off n)::rest=>match wM (Γ f)with
       |true=>G8 P Γ f o off n rest ts.tail
       |false=>ig P Γ d f svs ts
      |.c (.ptr o 0)::rest=>match wM (Γ f)with
       |true=>Hc P Γ d f o rest ts
       |false=>ig P Γ d f svs ts
      |.c (.int k0 n0)::.c (.row o ver i)::rest=>match Yx (Γ f)with
       |true=>G9 P Γ f k0 n0 o ver i rest ts.tail.tail
       |false=>ig P Γ d f svs ts
      |svs=>match wR (Γ f) svs with
       |some i=>Ho P Γ d f i svs ts
       |none=>ig P Γ d f svs ts
 |.fvs o F=>Hh o F svs
 |.fn f (c::cs)=>ig P Γ d f (svs++(c::cs).map .c) ts
 |.fv F=>match eG wS svs with
  |some cs=>jT P [] [] 0 0 cs ts fun ds=>match F.at ds with
   |some (q,c)=>.ret ⟨GB c,[],some q⟩
   |none=>.fail
  |none=>.fail
 |.c c=>match c with
  |.own o=>match svs with
   | [.c (.own i)]=>Hp P o i
   |_=>.fail
  |_=>.fail
 |_=>.fail
def OR(lo hi:Option Operand)(mx:Operand):Bool :=
 match lo,hi,mx with
 |none,some (.const (.int .i64 0)),.const (.int .i64 0)=>true
 |_,_,_=>false
def Hq(P:Program)(s t:TypeId):Bool :=
 match P.underlying t with
 |some .string=>match bX P s with
  |some e=>match jm P e with
   |some .u8=>true
   |_=>false
  |none=>false
 |_=>false
def YA(l:Db):List UInt8:=l.map fun n=>UInt8.ofNat n.toNat
def Hr(cx cy:SC):Rd Eff :=
 match cx,cy with
 |.int k a,.int k' b=>if k=k' then .ret ⟨.c (.int k (if b<a then b else a)),[],none⟩else .fail
 |_,_=>.fail
def Hs(cx cy:SC):Rd Eff :=
 match cx,cy with
 |.int k a,.int k' b=>if k=k' then .ret ⟨.c (.int k (if b > a then b else a)),[],none⟩else .fail
 |_,_=>.fail
def YB(x:Operand):Bool :=
 match x with
 |.const (.pointer none)=>true
 |_=>false
def Ht(P:Program)(d:Nat)(t:TypeId)(r:Option Operand):Rd Eff:=.fail
def Hu(P:Program)(t:TypeId)(cm ck cv:SC):Rd Eff:=.fail
def Hv(P:Program)(t:TypeId)(ok:Bool)(cm ck:SC):Rd Eff:=.fail
def cS(P:Program)(Γ:FuncId->Option Ctr)(wr:Nat->Bool)(o:Oper):Rd Eff :=
 let d:=match o.dst with|some d=>d|none=>0
 match o.op with
 |.move x=>fC x fun sv=>.ret ⟨sv,[],none⟩
 |.assign x=>match YB x with
  |true=>.ret ⟨.c .any,[],none⟩
  |false=>fC x fun sv=>.ret ⟨sv,[],none⟩
 |.nilCheck x=>cR x fun
  |.ptr o i=>.h o fun ob=>kI ob (aN (.ptr o i))
  |.rob cs i=>aN (.rob cs i)
  |_=>.fail
 |.pick c x y=>cR c fun
  |.bool true=>fC x fun sv=>.ret ⟨sv,[],none⟩
  |.bool false=>fC y fun sv=>.ret ⟨sv,[],none⟩
  |_=>.fail
 |.alloc t=>GF P d t
 |.box _ x=>fC x fun sv=>GG P d sv
 |.build t parts=>GH P t parts
 |.buildSlice t len parts=>match wr (5000000+d)with
  |true=>GI P (wr (1000000+d)) d t len parts
  | false=>match wr (6000000+d)with
   |true=>GJ P d t len parts
   | false=>match wr (2000000+d)with
    |true=>GL P d t len parts
    |false=>GK P (wr (1000000+d)) d t len parts
 |.load t x=>match wr (3000000+d)with
  |true=>cR x fun cx=>GD P d t cx
  |false=>cR x fun cx=>match Yw cx with
   |true=>GC P t cx
   |false=>wu P t cx
 |.store t x y=>cR x fun cx=>fC y fun sv=>GE P t cx sv
 |.binOp op t x y _=>cR x fun cx=>cR y fun cy=>Gv P t (wr d) op cx cy
 |.unOp op _ x=>cR x fun cx=>Gw (wr d) op cx
 |.convert s t x=>cR x fun cx=>match Hq P s t with
  |true=>kJ [] (ie P s) cx fun
   |.ints .u8 l=>.ret ⟨.c (.str (YA l)),[],none⟩
   |_=>.fail
  |false=>Gx P (wr d) s t cx
 |.makeFunc fn first caps=>match fn with
  |.func f=>if first.isEmpty then iQ caps.toList fun svs=>match eG wS svs with
   |some cs=>.ret ⟨.fn f cs,[],none⟩
   |none=>.fail
   else .fail
  |_=>.fail
 |.makeSlice t l c=>cR l fun cl=>cR c fun cc=>GR P d t cl cc
 |.slice t x lo hi mx=>match mx with
  |none=>match wr (4000000+d)with
   |true=>cR x fun cx=>GP P d t cx lo hi
   |false=>cR x fun cx=>wy P d t cx lo hi
  |some m=>match OR lo hi m with
   |true=>match bX P t with
    |some e=>match cK P e with
     |some _=>cR x fun cx=>kJ [] (ie P t) cx fun
      |.ints _ _=>.ret ⟨.c .emp,[],none⟩
      |.bools _=>.ret ⟨.c .emp,[],none⟩
      |.rows _ _=>.ret ⟨.c .emp,[],none⟩
      |_=>.fail
     |none=>.fail
    |none=>.fail
   |false=>.fail
 |.fieldAddr s x f=>cR x fun cx=>GM P s cx f
 |.field s x f=>fC x fun sv=>GN P s sv f
 |.indexAddr t x i=>cR x fun cx=>cR i fun ci=>GO P t cx ci
 |.index t x i=>cR x fun cx=>cR i fun ci=>GX P t cx ci
 |.extract x i=>fC x fun sv=>GW sv i
 |.call c=>match c.callee with
  |.value f=>fC f fun fv=>iQ c.args.toList fun svs=>OQ P Γ d fv svs c.argTypes.toList
  |.builtin b=>match b with
   |.len=>match c.args.toList,c.argTypes.toList with
    | [x],[t]=>cR x fun cx=>match cx with
     |.str _=>match P.underlying t with
      |some .string=>wx cx
      |_=>.fail
     |cx=>match bX P t with
      |some _=>wx cx
      |none=>.fail
    |_,_=>.fail
   |.append=>match c.args.toList,c.argTypes.toList with
    | [x,y],[t,t']=>if t=t' then cR x fun cx=>cR y fun cy=>GU P d t cx cy else match jm P t' with
     |some _=>cR x fun cx=>cR y fun cy=>GV P d t cx cy
     |none=>.fail
    |_,_=>.fail
   |.min=>match c.args.toList with
    | [x,y]=>cR x fun cx=>cR y fun cy=>Hr cx cy
    |_=>.fail
   |.max=>match c.args.toList with
    | [x,y]=>cR x fun cx=>cR y fun cy=>Hs cx cy
    |_=>.fail
   |_=>.fail
  |.invoke _ _=>.fail
 |.makeMap t r=>Ht P d t r
 |.mapUpdate t m k v=>cR m fun cm=>cR k fun ck=>cR v fun cv=>Hu P t cm ck cv
 |.lookup t m k ok=>cR m fun cm=>cR k fun ck=>Hv P t ok cm ck
 |_=>.fail
end Go.Sx
