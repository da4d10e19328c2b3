/- SxA -/
import Derived.WalkKit
import Derived.Orders
import Derived.Deep.LoopGhost
import Derived.WalkSpells
import Derived.RangeFuncSeq
import Derived.OrdersIn
set_option linter.unusedSimpArgs false
set_option linter.unusedVariables false
set_option linter.defProp false
namespace Go.Sx
abbrev D1:=List Int
abbrev D2:=List (List Int)
abbrev D3:=List (List (List Int))
abbrev D4:=List (List (List (List Int)))
abbrev D5:=List (List (List Int)×List (List Int))
def AA:=@if_pos
def AB:=@if_neg
def AC:=@Option.some.injEq
def AE:=@Nat.le_refl
def AF:=@List.getElem?_eq_getElem
def AG:=@List.mem_cons
def AH:=@List.mem_map
def AI:=@List.mem_append
def AJ:=@Nat.zero_add
def AK:=@List.mem_of_getElem?
def AL:=@Bool.and_eq_true
def AM:=@Ne.symm
def AN:=@List.getElem?_eq_some_iff
def AO:=@List.mem_cons_of_mem
def AP:=@List.getD_eq_getElem?_getD
def AQ:=@Nat.zero_le
def AR:=@List.length_map
def AS:=@List.length_cons
def AT:=@List.length_take
def AU:=@List.take_of_length_le
def AV:=@if_true
def AW:=@List.all_eq_true
def AX:=@List.mem_cons_self
def AY:=@Nat.eq_of_beq_eq_true
def AZ:=@List.nodup_cons
def Aa:=@decide_eq_true
def Ab:=@decide_eq_true_eq
def Ac:=@List.append_nil
def Ad:=@List.nodup_append
def Ae:=@decide_eq_false
def Af:=@List.mem_range
def Ag:=@List.length_append
def Ah:=@List.getElem?_of_mem
def Ai:=@List.getElem?_map
def Aj:=@List.mem_flatMap
def Ak:=@List.length_set
def Al:=@if_false
def Am:=@Int.toNat_natCast
def An:=@List.mem_filter
def Ao:=@List.append_assoc
def Ap:=@Nat.mul_one
def Aq:=@List.mem_filterMap
def Ar:=@Nat.le_trans
def As:=@List.mem_singleton
def Au:=@List.getElem?_append_left
def Av:=@Classical.byContradiction
def Aw:=@List.getElem_of_mem
def Ax:=@List.map_cons
def Ay:=@List.eq_nil_of_length_eq_zero
def Az:=@List.getElem?_take
def A0:=@List.getElem?_append_right
def A4:=@congrArg
def A5:=@Array.ext'
def A6:=@List.filterMap_nil
def A7:=@List.getElem_mem
def A8:=@List.getElem?_set_ne
def A9:=@Bool.true_and
def BA:=@List.filterMap_cons
def BB:=@List.getElem?_set
def BC:=@Array.getElem?_eq_some_iff
def BD:=@List.pairwise_iff_getElem
def BE:=@List.pairwise_map
def BF:=@List.drop_of_length_le
def BG:=@List.length_drop
def BH:=@Array.getElem?_eq_none
def BI:=@List.getElem?_drop
def BJ:=@Option.some.inj
def BK:=@List.mem_append_right
def BM:=@List.mem_append_left
def BO:=@Array.getD_eq_getD_getElem?
def BP:=@List.ext_getElem
def BQ:=@List.getElem?_eq_none
def BR:=@Bool.or_eq_true
def BS:=@List.ext_getElem?
def BT:=@Prod.mk.injEq
def BU:=@Nat.le_succ
def BV:=@List.mem_iff_getElem
def BW:=@Nat.add_mul
def BX:=@Nat.add_assoc
def BY:=@Option.mem_toList
def BZ:=@List.Pairwise.imp_of_mem
def Ba:=@List.nil_append
def Bb:=@List.nodup_range
def Bc:=@Nat.add_zero
def Bd:=@List.getElem?_set_self
def Be:=@Nat.mul_le_mul
def Bf:=@List.map_append
def Bg:=@List.flatMap_cons
def Bh:=@List.take_length
def Bi:=@and_true
def Bj:=@List.cons_append
def Bk:=@List.map_congr_left
def Bl:=@List.length_replicate
def Bn:=@List.length_nil
def Bo:=@List.range_succ
def Bp:=@List.getElem?_cons_succ
def Bq:=@decide_eq_false_iff_not
def Br:=@Nat.mul_le_mul_right
def Bs:=@List.length_singleton
def Bt:=@List.sum_cons
def Bu:=@Bool.false_eq_true
def Bv:=@List.mem_of_mem_take
def Bw:=@List.map_map
def Bz:=@of_decide_eq_true
def B4:=@Option.getD_some
def B5:=@Nat.sub_zero
def B6:=@List.countP_cons
def B7:=@Array.ext_getElem?
def B8:=@true_and
def B9:=@Nat.min_eq_left
def CA:=@Array.getElem?_eq_getElem
def CB:=@List.map_set
def CC:=@Nat.ne_of_beq_eq_false
def CD:=@Array.getElem?_setIfInBounds_ne
def CE:=@List.drop_zero
def CF:=@List.take_append_drop
def CG:=@List.pairwise_cons
def CH:=@List.getElem_inj
def CJ:=@Nat.pow_succ
def CK:=@Nat.mul_comm
def CM:=@List.getD_cons_zero
def CO:=@List.flatMap_append
def CP:=@List.pairwise_flatMap
def CQ:=@not_true_eq_false
def CR:=@List.map_take
def CT:=@List.getElem?_cons_zero
def CU:=@List.drop_eq_nil_of_le
def CV:=@List.length_range
def CW:=@List.length_pos_of_mem
def CX:=@List.getD_cons_succ
def CY:=@List.cons.injEq
def CZ:=@not_false_eq_true
def Ca:=@Nat.pow_le_pow_right
def Cb:=@Array.getElem?_extract
def Cc:=@Array.toArray_toList
def Cd:=@Bool.not_eq_true'
def Ce:=@List.countP_append
def Cf:=@List.eq_of_mem_replicate
def Cg:=@List.size_toArray
def Ch:=@Option.map_some
def Ci:=@Nat.add_comm
def Cj:=@List.perm_middle
def Ck:=@List.pairwise_append
def Cm:=@List.drop_eq_getElem_cons
def Cn:=@Nat.mul_le_mul_left
def Co:=@List.foldl_cons
def Cp:=@List.mem_or_eq_of_mem_set
def Cq:=@List.map_nil
def Cr:=@List.countP_eq_length_filter
def Cs:=@Bool.eq_iff_iff
def Ct:=@Int.le_refl
def Cu:=@List.not_mem_nil
def Cw:=@Bool.not_eq_true
def Cy:=@Nat.succ_mul
def Cz:=@Option.bind_eq_some_iff
def C0:=@Nat.succ_le_succ
def C3:=@Int.toNat_of_nonneg
def C4:=@Array.getElem?_modify
def C5:=@Array.getElem?_append_left
def C6:=@List.countP_eq_zero
def C7:=@List.flatMap_nil
def C8:=@List.take_take
def C9:=@List.take_sublist
def DA:=@List.singleton_append
def DB:=@List.length_erase_of_mem
def DC:=@List.countP_map
def DD:=@List.take_left
def DE:=@Array.toList_map
def DF:=@List.getElem?_inj
def DG:=@Option.bind_some
def DH:=@List.getElem?_tail
def DI:=@List.Perm.eq_of_pairwise
def DJ:=@List.Perm.append_left
def DK:=@List.perm_ext_iff_of_nodup
def DL:=@Nat.one_le_pow
def DM:=@Int.tmod_nonneg
def DN:=@Int.tmod_lt_of_pos
def DO:=@Bool.false_and
def DP:=@Nat.add_sub_cancel
def DQ:=@List.set_cons_succ
def DR:=@Nat.le_add_right
def DS:=@List.range'_succ
def DT:=@List.range_eq_range'
def DU:=@List.drop_length
def DV:=@List.mem_erase_of_ne
def DW:=@Bool.and_false
def DX:=@List.getElem_take
def DY:=@List.countP_nil
def DZ:=@Bool.and_true
def Da:=@Bool.not_true
def Db:=@Bool.not_false
def Dc:=@List.replicate_succ
def Dd:=@Int.natCast_mul
def De:=@List.filterMap_append
def Df:=@Nat.not_lt_zero
def Dg:=@List.getElem?_toArray
def Dh:=@List.length_pos_iff
def Di:=@Array.size_append
def Dj:=@Array.toList_append
def Dk:=@Array.length_toList
def Dl:=@Array.getElem?_map
def Dm:=@Array.getElem?_range
def Dn:=@Array.mem_toList_iff
def Do:=@List.zip_cons_cons
def Dp:=@Array.eq_empty_of_size_eq_zero
def Dq:=@List.countP_cons_of_neg
def Ds:=@Int.tmod_eq_emod_of_nonneg
def Dt:=@Array.getElem?_append_right
def Du:=@List.all_eq_not_any_not
def Dv:=@Int.tdiv_eq_ediv_of_nonneg
def Dw:=@Int.fdiv_eq_ediv_of_nonneg
def Dx:=@List.getElem?_replicate
def Dy:=@List.filterMap_eq_nil_iff
def Dz:=@Option.isSome_iff_exists
def D0:=@Array.all_eq_true_iff_forall_mem
open Go.RowKit
inductive FC where
 |int (k:IntKind) (n:Int)
 |bool (b:Bool)
 |str (l:List UInt8)
 |ints (k:IntKind) (l:D1)
 |bools (l:List Bool)
 |rows (k:IntKind) (l:D2)
 |r3 (k:IntKind) (l:D3)
 |r4 (k:IntKind) (l:D4)
 |p3 (k:IntKind) (l:D5)
def bG(w:World)(v:Value)(n:Nat)(R:Nat->Value->Prop):Prop :=
 ∃a c,v=.slice a n c/\n<=c/\(0<n->∃b off,a=some ⟨b,off,none⟩/\∀i,i<n->∃u,w.cell? ⟨b,off+i,none⟩=some u/\R i u)
def ga(w:World)(v:Value)(n:Nat)(R:Nat->Value->Prop):Prop :=
 ∃a c,v=.slice a n c/\n<=c/\(0<n->∃b off,a=some ⟨b,off,none⟩/\∀j,j<n*2->∃u,w.cell? ⟨b,off+j,none⟩=some u/\R j u)
def eO(l:D5)(j:Nat):D2:=if j % 2=0 then(l.getD (j / 2) ([],[])).1 else(l.getD (j / 2) ([],[])).2
def ld(l:D5)(j:Nat)(x:D2):D5 :=
 l.set (j / 2) (if j % 2=0 then(x,(l.getD (j / 2) ([],[])).2)else((l.getD (j / 2) ([],[])).1,x))
def gA(w:World)(k:IntKind)(v:Value)(l:D1):Prop:=bG w v l.length fun i u=>u=.int k (l.getD i 0)
def Om(w:World)(k:IntKind)(v:Value)(l:D2):Prop:=bG w v l.length fun i u=>gA w k u (l.getD i [])
def On(w:World)(k:IntKind)(v:Value)(l:D3):Prop:=bG w v l.length fun i u=>Om w k u (l.getD i [])
def bj(w:World)(v:Value):FC->Prop
 |.int k n=>v=.int k n
 |.bool b=>v=.bool b
 |.str l=>v=.string ⟨l.toArray⟩
 |.ints k l=>gA w k v l
 |.bools l=>bG w v l.length fun i u=>u=.bool (l.getD i false)
 |.rows k l=>bG w v l.length fun i u=>gA w k u (l.getD i [])
 |.r3 k l=>On w k v l
 |.r4 k l=>bG w v l.length fun i u=>On w k u (l.getD i [])
 |.p3 k l=>ga w v l.length fun j u=>Om w k u (eO l j)
def FC.elem:FC->Nat->Option FC
 |.ints k l,i=>if i<l.length then some (.int k (l.getD i 0))else none
 |.bools l,i=>if i<l.length then some (.bool (l.getD i false))else none
 |.rows k l,i=>if i<l.length then some (.ints k (l.getD i []))else none
 |.r3 k l,i=>if i<l.length then some (.rows k (l.getD i []))else none
 |.r4 k l,i=>if i<l.length then some (.r3 k (l.getD i []))else none
 |.p3 k l,i=>if i<l.length*2 then some (.rows k (eO l i))else none
 |_,_=>none
def FC.len:FC->Nat
 |.ints _ l=>l.length
 |.bools l=>l.length
 |.rows _ l=>l.length
 |.r3 _ l=>l.length
 |.r4 _ l=>l.length
 |.p3 _ l=>l.length
 |.str l=>l.length
 |_=>0
def FC.wid:FC->Nat
 |.p3 _ _=>2
 |_=>1
def FC.slen:FC->Nat
 |.p3 _ _=>0
 |d=>d.len
def FC.cn(d:FC):Nat:=d.len*d.wid
inductive SC where
 |any
 |und
 |int (k:IntKind) (n:Int)
 |bool (b:Bool)
 |str (l:List UInt8)
 |nil
 |own (o:Nat)
 |pre (o n:Nat)
 |sub (o off n:Nat)
 |ptr (o i:Nat)
 |row (o ver i:Nat)
 |rptr (o ver i j:Nat)
 |ro (d:FC)
 |rop (d:FC) (i:Nat)
 |rob (cs:List FC) (i:Nat)
 |rbb (cs:List FC)
 |nilq (b:Bool)
 |emp
 |bsl (o n:Nat)
 |orig (o j:Nat) (d:FC)
 |qptr (o i:Nat)
 |kid (o ver:Nat) (p:List Nat)
 |kptr (o ver:Nat) (p:List Nat) (j:Nat)
inductive FV where
 |ib (q:Int->Prop) (p:Int->Bool)
 |lb (q:D1->Prop) (p:D1->Bool)
 |iii (q:Int->Int->Prop) (p:Int->Int->Int)
 |iib (q:Int->Int->Prop) (p:Int->Int->Bool)
 |lli (q:D1->D1->Prop) (p:D1->D1->Int)
 |llb (q:D1->D1->Prop) (p:D1->D1->Bool)
 |ii (q:Int->Prop) (p:Int->Int)
 |tb (q:D2->Prop) (p:D2->Bool)
structure SFV where
 q:Int->Int->Int->Prop
 p:Int->Int->Int->Int
 nx:Int->Int->Int->Int
def uJ:List FC->Option Int
 | [.int .i64 x]=>some x
 |_=>none
def FR:List FC->Option D1
 | [.ints .i64 l]=>some l
 |_=>none
def FS:List FC->Option D2
 | [.rows .i64 l]=>some l
 |_=>none
def uK:List FC->Option (Int×Int)
 | [.int .i64 x,.int .i64 y]=>some (x,y)
 |_=>none
def uL:List FC->Option (D1×D1)
 | [.ints .i64 l,.ints .i64 m]=>some (l,m)
 |_=>none
def FV.at(F:FV)(ds:List FC):Option (Prop×SC) :=
 match F with
 |.ib q p=>match uJ ds with
  |some x=>some (q x,.bool (p x))
  |none=>none
 |.ii q p=>match uJ ds with
  |some x=>some (q x,.int .i64 (p x))
  |none=>none
 |.lb q p=>match FR ds with
  |some x=>some (q x,.bool (p x))
  |none=>none
 |.tb q p=>match FS ds with
  |some x=>some (q x,.bool (p x))
  |none=>none
 |.iii q p=>match uK ds with
  |some (x,y)=>some (q x y,.int .i64 (p x y))
  |none=>none
 |.iib q p=>match uK ds with
  |some (x,y)=>some (q x y,.bool (p x y))
  |none=>none
 |.lli q p=>match uL ds with
  |some (x,y)=>some (q x y,.int .i64 (p x y))
  |none=>none
 |.llb q p=>match uL ds with
  |some (x,y)=>some (q x y,.bool (p x y))
  |none=>none
def uM:SC->Value
 |.int k n=>.int k n
 |.bool b=>.bool b
 |_=>undef
inductive SV where
 |c (x:SC)
 |agg (l:List SC)
 |fn (f:FuncId) (l:List SC)
 |fv (F:FV)
 |fvs (o:Nat) (F:SFV)
 |tup (l:List (SC ⊕ List SC))
structure OsD (w w':World):Prop where
 os:w'.os=w.os
 drawn:w.drawn<=w'.drawn
theorem OsD.trans{w w' w'':World}(h:OsD w' w'')(k:OsD w w'):OsD w w'':=⟨h.os.trans k.os,Ar k.drawn h.drawn⟩
theorem OsD.refl(w:World):OsD w w:=⟨rfl,AE _⟩
def ae:Value->Option Nat
 |.slice (some a) _ _=>some a.block
 |.pointer (some a)=>some a.block
 |.map (some b)=>some b
 |_=>none
structure YJ where
 P:Program
 l:Nat
 e:TypeId
 wF:World
 go:D2->D1->Bool
 ok:D2->D1->Prop
 J:D2->Bool->World->List Nat->Prop
 loc:∀(pre:D2) (b:Bool) (w w':World) (S:List Nat),J pre b w S->(∀k∈S,w'.heap[k]?=w.heap[k]?)->J pre b w' S
 spec:∀(pre:D2) (x:D1) (w:World) (S:List Nat) (v:Value),J pre true w S->ok pre x->S.Nodup->(∀k∈S,k<w.heap.size)->v.oneCell'=true ->
  w.ownsRow 0 e 1 v x.length (x.map (.int .i64))->(∀k∈S,ae v≠some k)->(∀p u,wF.cell? p=some u->w.cell? p=some u/\ae v≠some p.block) ->
  YieldAt Fence.wide 0 P l #[v] w fun r w'=>∃S',r=.returned (.bool (go pre x))/\J (pre++[x]) (go pre x) w' S'/\S'.Nodup/\(∀k∈S,k∈S')/\(∀k∈S',(k∈S\/w.heap.size<=k)/\k<w'.heap.size) /\
   w'.ownsRow 0 e 1 v x.length (x.map (.int .i64))/\OsD w w'/\w'.tape=w.tape/\w'.output=w.output/\w.heap.size<=w'.heap.size/\∀k,k<w.heap.size->k ∉ S->ae v≠some k->w'.heap[k]?=w.heap[k]?
inductive Ob where
 |box (cs:List SC)
 |ints (e:TypeId) (k:IntKind) (l:D1)
 |bools (e:TypeId) (l:List Bool)
 |rows (ver:Nat) (e ei:TypeId) (k:IntKind) (l:D2)
 |bx (cs:List FC)
 |strs (e:TypeId) (l:List (List UInt8))
 |lst (ver:Nat) (e:TypeId) (d:FC)
 |frz (d:FC)
 |mp (l:D1)
 |qu (e:TypeId) (k:IntKind) (l:D1)
 |rowsH (ver:Nat) (e ei:TypeId) (k:IntKind) (l:D2) (hs:List Nat)
 |tr (ver:Nat) (es:List TypeId) (d:FC)
 |yd (ver:Nat) (Y:YJ) (pre:D2) (b:Bool)
 |trk (ver:Nat) (es:List TypeId) (d:FC) (n:Nat)
def Ob.isFz:Ob->Bool
 |.frz _=>true
 |_=>false
structure Shp where
 len:Nat
 ver:Nat
 rl:List Nat
def Ob.shp:Ob->Shp
 |.box cs=>⟨cs.length,0,[]⟩
 |.ints _ _ l=>⟨l.length,0,[]⟩
 |.bools _ l=>⟨l.length,0,[]⟩
 |.rows ver _ _ _ l=>⟨l.length,ver,l.map List.length⟩
 |.bx cs=>⟨cs.length,0,[]⟩
 |.strs _ l=>⟨l.length,0,[]⟩
 |.lst ver _ d=>⟨d.slen,ver,[]⟩
 |.frz d=>⟨d.slen,0,[]⟩
 |.mp _=>⟨0,0,[]⟩
 |.qu _ _ l=>⟨l.length,0,[]⟩
 |.rowsH ver _ _ _ l _=>⟨l.length,ver,l.map List.length⟩
 |.tr ver _ d=>⟨d.slen,ver,[]⟩
 |.yd ver _ _ _=>⟨0,ver,[]⟩
 |.trk ver _ d _=>⟨d.slen,ver,[]⟩
structure Img where
 hd:Value
 ins:List Value
def Img.blocks(m:Img):List Nat:=(ae m.hd).toList++m.ins.filterMap ae
/- A tree of own slices: a node is a tuple of its head value and its children. -/
def aD:Value->Value
 |.tuple arr=>arr.toList.headD undef
 |_=>undef
def aT:Value->List Value
 |.tuple arr=>arr.toList.tail
 |_=>[]
def bp(hd:Value)(ks:List Value):Value:=.tuple (hd::ks).toArray
def eD:Value->List Nat->Option Value
 |nd,[]=>some nd
 |nd,i::p=>match(aT nd)[i]? with
  |some u=>eD u p
  |none=>none
def gZ:Nat->Value->List Value
 |0,_=>[]
 |n+1,nd=>aD nd::(aT nd).flatMap (gZ n)
def aQ(n:Nat)(nd:Value):List Nat:=(gZ n nd).filterMap ae
def FC.dep:FC->Nat
 |.rows _ _=>1
 |.r3 _ _=>2
 |.r4 _ _=>3
 |.p3 _ _=>2
 |_=>0
def cQ:FC->Nat->Option FC
 |.rows k l,i=>some (.ints k (l.getD i []))
 |.r3 k l,i=>some (.rows k (l.getD i []))
 |.r4 k l,i=>some (.r3 k (l.getD i []))
 |.p3 k l,i=>some (.rows k (eO l i))
 |_,_=>none
def bf(w:World):List TypeId->Value->FC->Prop
 | [],_,_=>False
 | [e],nd,d=>nd=bp (aD nd) []/\∃k l,d=.ints k l/\w.ownsRow 0 e 1 (aD nd) l.length (l.map (.int k))
 |e::e2::es,nd,d=>nd=bp (aD nd) (aT nd)/\d.dep=es.length+1/\w.ownsRow 0 e d.wid (aD nd) d.len ((aT nd).map aD) /\
   ∀(i:Nat) (u:Value) (x:FC),(aT nd)[i]?=some u->cQ d i=some x->bf w (e2::es) u x
def i5(w:World)(n:Nat):List TypeId->Value->FC->Prop
 |e::e2::es,nd,d=>nd=bp (aD nd) (aT nd)/\d.dep=es.length+1/\(aT nd).length+n=d.cn /\
   (∃vs,w.ownsRow 0 e d.wid (aD nd) d.len vs/\∀(i:Nat) (u:Value),(aT nd)[i]?=some u->vs[n+i]?=some (aD u)) /\
   ∀(i:Nat) (u:Value) (x:FC),(aT nd)[i]?=some u->cQ d (n+i)=some x->bf w (e2::es) u x
 |_,_,_=>False
def dr(n:Nat)(nd:Value):Img:=⟨aD nd,nd::(gZ n nd).tail⟩
inductive OSt where
 |absent
 |dead
 |live (s:Shp)
 |frz (d:FC)
structure Env where
 wF:World
 mu:Nat->Img
 st:Nat->OSt
def cp(hd:Value)(off n:Nat)(v:Value):Prop :=
 (hd=.slice none 0 0/\v=.slice none 0 0/\off=0/\n=0) \/
 ∃g len cap ao,hd=.slice (some ⟨g,0,none⟩) len cap/\v=.slice (some ao) n (cap-off)/\off<=cap/\n<=cap-off/\(off=0\/cap-off≠0->ao=⟨g,off,none⟩)
def OSt.on(s:OSt)(p:Shp->Prop)(q:FC->Prop:=fun _=>True):Prop :=
 match s with
 |.absent=>False
 |.dead=>True
 |.live x=>p x
 |.frz d=>q d
def bR(E:Env)(o:Nat)(v:Value)(p:Shp->Prop)(q:FC->Prop:=fun _=>True):Prop:=v.oneCell'=true/\(E.st o).on p q
def fP(wF:World)(v:Value)(d:FC):Prop:=(∃a n c,v=.slice a n c/\n<=c)/\bj wF v d
def cg(off n:Nat):FC->Option FC
 |.ints k l=>some (.ints k ((l.drop off).take n))
 |.bools l=>some (.bools ((l.drop off).take n))
 |.rows k l=>some (.rows k ((l.drop off).take n))
 |.r3 k l=>some (.r3 k ((l.drop off).take n))
 |.r4 k l=>some (.r4 k ((l.drop off).take n))
 |.p3 k l=>match off with
  |0=>some (.p3 k (l.take n))
  |_+1=>none
 |_=>none
def ag(E:Env):SC->Value->Prop
 |.any,_=>True
 |.und,v=>v=undef
 |.int k n,v=>v=.int k n
 |.bool b,v=>v=.bool b
 |.str l,v=>v=.string ⟨l.toArray⟩
 |.nil,v=>v=.slice none 0 0
 |.own o,v=>bR E o v (fun _=>v=(E.mu o).hd) fun d=>fP E.wF v d
 |.pre o n,v=>bR E o v (fun s=>n<=s.len/\cp (E.mu o).hd 0 n v) fun d=>∃d',cg 0 n d=some d'/\fP E.wF v d'
 |.sub o off n,v=>bR E o v (fun s=>off+n<=s.len/\cp (E.mu o).hd off n v) fun d=>∃d',cg off n d=some d'/\fP E.wF v d'
 |.ptr o i,v=>bR E o v fun s=>i<s.len/\∃b,ae (E.mu o).hd=some b/\v=.pointer (some ⟨b,i,none⟩)
 |.row o ver i,v=>bR E o v fun s=>ver<=s.ver/\(s.ver=ver->(E.mu o).ins[i]?=some v/\i<s.len)
 |.rptr o ver i j,v=>bR E o v fun s=>ver<=s.ver/\(s.ver=ver->i<s.len/\j<s.rl.getD i 0/\∃r b,(E.mu o).ins[i]?=some r/\ae r=some b/\v=.pointer (some ⟨b,j,none⟩))
 |.ro d,v=>(∃a n c,v=.slice a n c/\n<=c)/\bj E.wF v d
 |.rop d i,v=>∃b off fc u,d.elem i=some fc/\v=.pointer (some ⟨b,off,none⟩)/\E.wF.cell? ⟨b,off,none⟩=some u/\bj E.wF u fc
 |.emp,v=>∃a,v=.slice a 0 0
 |.bsl o n,v=>bR E o v fun s=>n=s.len/\∃b,ae (E.mu o).hd=some b/\v=.slice (some ⟨b,0,none⟩) n n
 |.nilq b,v=>∃a n c,v=.slice a n c/\a.isNone=b
 |.orig o j d,v=>((∃a n c,v=.slice a n c/\n<=c)/\bj E.wF v d)/\bR E o v fun s=>s.ver=0->(E.mu o).ins[j]?=some (.agg #[v])
 |.qptr o i,v=>bR E o v fun s=>i<s.len/\∃b off n c,(E.mu o).hd=.slice (some ⟨b,off,none⟩) n c/\v=.pointer (some ⟨b,off+i,none⟩)
 |.kid o ver p,v=>bR E o v fun s=>ver<=s.ver/\(s.ver=ver->∃nd u,(E.mu o).ins[0]?=some nd/\eD nd p=some u/\v=aD u)
 |.kptr o ver p j,v=>bR E o v fun s=>ver<=s.ver/\(s.ver=ver->∃nd u b n c,(E.mu o).ins[0]?=some nd/\eD nd p=some u/\aD u=.slice (some ⟨b,0,none⟩) n c/\(j<n\/j<(aT u).length)/\v=.pointer (some ⟨b,j,none⟩))
 |.rbb cs,v=>∃b off b2 off2,v=.pointer (some ⟨b,off,none⟩)/\E.wF.cell? ⟨b,off,none⟩=some (.pointer (some ⟨b2,off2,none⟩))/\∀(j:Nat) (fc:FC),cs[j]?=some fc->∃u,E.wF.cell? ⟨b2,off2+j,none⟩=some u/\bj E.wF u fc
 |.rob cs i,v=>∃b off,v=.pointer (some ⟨b,off,none⟩)/\∀(j:Nat) (fc:FC),cs[i+j]?=some fc->∃u,E.wF.cell? ⟨b,off+j,none⟩=some u/\bj E.wF u fc
def c7(E:Env)(cs:List SC)(arr:Array Value):Prop :=
 arr.size=cs.length/\∀(i:Nat) (c:SC),cs[i]?=some c->∃u,arr[i]?=some u/\u.oneCell'=true/\ag E c u
structure GrB (w w':World) (row:Option Nat):Prop where
 os:OsD w w'
 tape:w'.tape=w.tape
 output:w'.output=w.output
 size:w.heap.size<=w'.heap.size
 block:∀k,k<w.heap.size->some k≠row->w'.heap[k]?=w.heap[k]?
theorem fQ(w:World)(o:Obj)(row:Option Nat):GrB w (w.alloc o) row :=
 let h:=World.grownBy_alloc w o row
 ⟨⟨h.os,AE _⟩,h.tape,h.output,h.size,h.block⟩
def bL(wF w:World):Prop:=∀p u,wF.cell? p=some u->w.cell? p=some u
def mH(P:Program)(wF:World)(F:FV)(v:Value):Prop :=
 ∃f caps fn,v=.func (.func f) #[] caps/\P.funcs[f]?=some fn/\fn.body.isSome=true/\fn.name≠"runtime.NumGoroutine" /\
  ∀(w:World) (us:List Value) (ds:List FC) (q:Prop) (c:SC),bL wF w->F.at ds=some (q,c)->q->us.length=ds.length ->
   (∀(i:Nat) (d:FC),ds[i]?=some d->∃u,us[i]?=some u/\u.oneCell'=true/\bj w u d) ->
   Calls P f (us.toArray++caps) w fun e w'=>e=.returned (uM c)/\Below w.heap.size w w'/\w.drawn<=w'.drawn
def qc(P:Program)(wF:World)(b:Nat)(F:SFV)(v:Value):Prop :=
 ∃f caps fn,v=.func (.func f) #[] caps/\P.funcs[f]?=some fn/\fn.body.isSome=true/\fn.name≠"runtime.NumGoroutine" /\
  ∀(w:World) (s x y:Int),bL wF w->(∃t,w.heap[b]?=some (.cells #[.int .i64 s] t (0,0)))->F.q s x y ->
   Calls P f (#[.int .i64 x,.int .i64 y]++caps) w fun e w'=>e=.returned (.int .i64 (F.p s x y))/\OsD w w'/\w'.tape=w.tape/\w'.output=w.output/\w.heap.size<=w'.heap.size /\
    (∀k,k<w.heap.size->k≠b->w'.heap[k]?=w.heap[k]?)/\∃t,w'.heap[b]?=some (.cells #[.int .i64 (F.nx s x y)] t (0,0))
def uN(E:Env):SC ⊕ List SC->Value->Prop
 |.inl c,v=>v.oneCell'=true/\ag E c v
 |.inr cs,v=>∃arr,v=.agg arr/\c7 E cs arr
def av(P:Program)(E:Env):SV->Value->Prop
 |.c x,v=>ag E x v
 |.agg l,v=>∃arr,v=.agg arr/\c7 E l arr
 |.fn f l,v=>∃arr,v=.func (.func f) #[] arr/\c7 E l arr
 |.fv F,v=>mH P E.wF F v
 |.fvs o F,v=>bR E o v fun _=>∃b,(E.mu o).hd=.pointer (some ⟨b,0,none⟩)/\qc P E.wF b F v
 |.tup l,v=>∃arr,v=.tuple arr/\arr.size=l.length/\∀(i:Nat) (c:SC ⊕ List SC),l[i]?=some c->∃u,arr[i]?=some u/\uN E c u
def lg(m:Img)(j:Nat)(d:FC)(u:Value):Prop :=
 match d with
 |.int k n=>u=.int k n
 |.bool b=>u=.bool b
 |.str l=>u=.string ⟨l.toArray⟩
 |_=>m.ins[j]?=some (.agg #[u])
def oD(l:List UInt8):Value:=.string ⟨l.toArray⟩
def mI(w:World)(v:Value)(xs:List Value):Prop :=
 (v=.slice none 0 0/\xs=[])\/∃g off cap,v=.slice (some ⟨g,off,none⟩) xs.length cap/\xs.length<=cap/\cap<=maxLen/\g<w.heap.size/\(∀j,j<cap->(w.cell? ⟨g,off+j,none⟩).isSome=true/\w.frozen? ⟨g,off+j,none⟩=false)/\∀(i:Nat) (u:Value),xs[i]?=some u->w.cell? ⟨g,off+i,none⟩=some u
def jA(w:World)(m:Img)(e ei:TypeId)(k:IntKind)(l:D2)(hs:List Nat):Prop :=
 m.ins.length=l.length/\(∃vs,w.ownsRow 0 e 1 m.hd l.length vs/\∀(i:Nat) (v:Value),m.ins[i]?=some v->¬ i∈hs->vs[i]?=some v)/\∀(i:Nat) (v:Value) (r:D1),m.ins[i]?=some v->l[i]?=some r->(i∈hs->ae v=none)/\(¬ i∈hs->w.ownsRow 0 ei 1 v r.length (r.map (.int k)))
def aO(E:Env)(w:World)(m:Img):Ob->Prop
 |.bx cs=>∃b arr t,m.hd=.pointer (some ⟨b,0,none⟩)/\(∀u∈m.ins,ae u=none)/\w.heap[b]?=some (.cells arr t (0,0))/\arr.size=cs.length /\
   ∀(j:Nat) (d:FC),cs[j]?=some d->∃u,arr[j]?=some u/\u.oneCell'=true/\lg m j d u
 |.box cs=>∃b arr t,m.hd=.pointer (some ⟨b,0,none⟩)/\(∀u∈m.ins,ae u=none)/\w.heap[b]?=some (.cells arr t (0,0))/\c7 E cs arr
 |.ints e k l=>m.ins=[]/\w.ownsRow 0 e 1 m.hd l.length (l.map (.int k))
 |.bools e l=>m.ins=[]/\w.ownsRow 0 e 1 m.hd l.length (l.map .bool)
 |.strs e l=>m.ins=[]/\w.ownsRow 0 e 1 m.hd l.length (l.map oD)
 |.rows _ e ei k l=>w.ownsRow 0 e 1 m.hd l.length m.ins/\m.ins.length=l.length /\
   ∀(i:Nat) (v:Value) (r:D1),m.ins[i]?=some v->l[i]?=some r->w.ownsRow 0 ei 1 v r.length (r.map (.int k))
 |.lst _ e d=>m.ins=[]/\∃vs,w.ownsRow 0 e d.wid m.hd d.len vs/\∀(i:Nat) (u:Value),vs[i]?=some u->u.oneCell'=true/\∃fc,d.elem i=some fc/\bj E.wF u fc
 |.frz _=>m.blocks=[]
 |.mp l=>m.ins=[]/\∃b es ck,m.hd=.map (some b)/\w.heap[b]?=some (.map es ck)/\es.toList.map (fun e=>(e.key,e.val))=l.map fun n=>(.int .i64 n,.bool true)
 |.qu _ k l=>m.ins=[]/\mI w m.hd (l.map (.int k))
 |.rowsH _ e ei k l hs=>jA w m e ei k l hs
 |.tr _ es d=>∃nd,m=dr es.length nd/\bf w es nd d
 |.trk _ es d n=>∃nd,m=dr es.length nd/\i5 w n es nd d
 |.yd _ Y pre b=>m.hd=.func (.yield Y.l) #[] #[]/\bL Y.wF E.wF/\Y.J pre b w m.blocks/\∀k∈m.blocks,k<w.heap.size
structure State where
 fr:List (Nat×SV)
 hp:List (Nat×Option Ob)
def lk{α:Type}:List (Nat×α)->Nat->Option α
 | [],_=>none
 |(k,v)::l,t=>match Nat.beq k t with
  |true=>some v
  |false=>lk l t
def State.F(σ:State)(t:Nat):Option SV:=lk σ.fr t
def State.H(σ:State)(o:Nat):Option (Option Ob):=lk σ.hp o
def dV:Ob->OSt
 |.frz d=>.frz d
 |ob=>.live ob.shp
def State.ost(σ:State)(o:Nat):OSt :=
 match σ.H o with
 |none=>.absent
 |some none=>.dead
 |some (some ob)=>dV ob
def State.env(σ:State)(wF:World)(mu:Nat->Img):Env:=⟨wF,mu,σ.ost⟩
structure Cx where
 P:Program
 N:Nat
 w0:World
 wF:World
 M:Nat->Prop
 pin:Nat->Option Img
def km(n:Nat)(σ:State)(mu:Nat->Img)(ds:List Deferred)(w:World):Prop :=
 ∃rs:List Nat,ds=rs.map (fun r=>{ target:=.collected r,args:=#[] })/\rs.Nodup/\∀r∈rs,n<=r/\w.heap[r]?=some (.deferred (some []))/\∀o ob,σ.H o=some (some ob)->r ∉ (mu o).blocks
theorem km.nil{n:Nat}{σ:State}{mu:Nat->Img}{w:World}:km n σ mu [] w:=⟨[],rfl,.nil,fun r h=>by cases h⟩
theorem km.sub{n:Nat}{σ σ':State}{mu mu':Nat->Img}{ds:List Deferred}{w:World}(h:km n σ mu ds w)
  (hs:∀o ob,σ'.H o=some (some ob)->∃o' ob',σ.H o'=some (some ob')/\∀b∈(mu' o).blocks,b∈(mu o').blocks):km n σ' mu' ds w:=by
 obtain⟨rs,h1,h2,h3⟩:=h;refine⟨rs,h1,h2,fun r hr=>?_⟩
 obtain⟨k1,k2,k3⟩:=h3 r hr;refine⟨k1,k2,fun o ob ho hb=>?_⟩
 obtain⟨o',ob',q1,q2⟩:=hs o ob ho;exact k3 o' ob' q1 (q2 r hb)
structure St (C:Cx) (σ:State) (mu:Nat->Img) (a:Act) (w:World):Prop where
 os:OsD C.w0 w
 tape:w.tape=C.w0.tape
 output:w.output=C.w0.output
 size:C.w0.heap.size<=w.heap.size
 block:∀k,k<C.w0.heap.size->¬ C.M k->w.heap[k]?=C.w0.heap[k]?
 cells:∀p u,C.wF.cell? p=some u->(∀o ob,σ.H o=some (some ob)->p.block ∉ (mu o).blocks)/\w.cell? p=some u
 sz:a.tmps.size=C.N
 df:km C.w0.heap.size σ mu a.defers w
 fr:∀t sv,σ.F t=some sv->av C.P (σ.env C.wF mu) sv (a.tmps.getD t undef)
 ob:∀o ob,σ.H o=some (some ob)->aO (σ.env C.wF mu) w (mu o) ob
 nd:∀o ob,σ.H o=some (some ob)->(mu o).blocks.Nodup/\∀b∈(mu o).blocks,C.M b\/C.w0.heap.size<=b
 sep:∀o o' ob ob',o≠o'->σ.H o=some (some ob)->σ.H o'=some (some ob')->∀b∈(mu o).blocks,b ∉ (mu o').blocks
 pins:∀o m,C.pin o=some m->match σ.ost o with|.absent=>False|.dead=>True|.frz _=>True|.live s=>(mu o).hd=m.hd/\(s.ver=0->mu o=m)
def Cx.fz(C:Cx)(wG:World):Cx:=⟨C.P,C.N,C.w0,wG,C.M,C.pin⟩
structure GrowF (C:Cx) (wG:World):Prop where
 kept:bL C.wF wG
 new:∀p u,wG.cell? p=some u->C.wF.cell? p=some u\/C.w0.heap.size<=p.block\/C.M p.block
def ax(C:Cx)(σ:State)(a:Act)(w:World):Prop:=∃wG mu,GrowF C wG/\St (C.fz wG) σ mu a w
theorem GrowF.refl(C:Cx):GrowF C C.wF:=⟨fun _ _ h=>h,fun _ _ h=>.inl h⟩
theorem GrowF.trans{C:Cx}{wG wH:World}(h:GrowF C wG)(k:GrowF (C.fz wG) wH):GrowF C wH :=
 ⟨fun p u hp=>k.kept p u (h.kept p u hp),fun p u hp=>(k.new p u hp).elim (fun h2=>h.new p u h2) .inr⟩
theorem St.ex{C:Cx}{σ:State}{mu:Nat->Img}{a:Act}{w:World}(h:St C σ mu a w):ax C σ a w:=⟨C.wF,mu,.refl C,h⟩
theorem ax.up{C:Cx}{wG:World}(hg:GrowF C wG){σ:State}{a:Act}{w:World}(h:ax (C.fz wG) σ a w):ax C σ a w:=by
 obtain⟨wH,mu,h1,h2⟩:=h;exact⟨wH,mu,hg.trans h1,h2⟩
end Go.Sx
