/- SxA -/
import Derived.WalkKit
import Derived.Orders
import Derived.Deep.LoopGhost
import Derived.WalkSpells
import Derived.RangeFuncSeq
import Derived.OrdersIn
set_option linter.unusedSimpArgs false
set_option linter.unusedVariables false
set_option linter.defProp false
namespace Go.Sx
abbrev D6:=List Int
abbrev D7:=List (List Int)
abbrev D8:=List (List (List Int))
abbrev D9:=List (List (List (List Int)))
abbrev EA:=List (List (List Int)×List (List Int))
def AA:=@if_pos
def AB:=@if_neg
def AC:=@Option.some.injEq
def AE:=@Nat.le_refl
def AF:=@List.getElem?_eq_getElem
def AG:=@List.mem_cons
def AH:=@List.mem_append
def AI:=@Nat.zero_add
def AJ:=@List.mem_map
def AK:=@List.mem_of_getElem?
def AL:=@List.getElem?_eq_some_iff
def AM:=@List.getD_eq_getElem?_getD
def AN:=@Ne.symm
def AO:=@Bool.and_eq_true
def AP:=@List.length_take
def AQ:=@List.mem_cons_of_mem
def AR:=@List.length_cons
def AT:=@Nat.zero_le
def AU:=@List.take_of_length_le
def AV:=@List.append_nil
def AW:=@List.length_map
def AX:=@if_true
def AY:=@Nat.eq_of_beq_eq_true
def AZ:=@List.mem_cons_self
def Aa:=@List.nodup_cons
def Ab:=@decide_eq_true
def Ac:=@List.all_eq_true
def Ad:=@decide_eq_false
def Ae:=@List.nodup_append
def Af:=@List.mem_range
def Ag:=@List.length_append
def Ah:=@List.getElem?_of_mem
def Ai:=@decide_eq_true_eq
def Aj:=@List.length_set
def Ak:=@List.getElem?_map
def Al:=@if_false
def Am:=@List.mem_flatMap
def An:=@Int.toNat_natCast
def Ao:=@Nat.le_trans
def Ap:=@List.append_assoc
def Aq:=@Nat.mul_one
def Ar:=@List.mem_singleton
def As:=@List.getElem?_append_left
def Au:=@List.mem_filterMap
def Av:=@List.flatMap_cons
def Aw:=@List.getElem?_take
def Ax:=@Classical.byContradiction
def Ay:=@List.getElem?_append_right
def Az:=@Bool.true_and
def A0:=@Array.ext'
def A4:=@List.filterMap_nil
def A5:=@List.getElem_mem
def A6:=@List.getElem?_set_ne
def A7:=@List.getElem_of_mem
def A8:=@List.filterMap_cons
def A9:=@List.getElem?_set
def BA:=@List.eq_nil_of_length_eq_zero
def BB:=@Array.getElem?_eq_some_iff
def BC:=@congrArg
def BD:=@List.length_drop
def BE:=@List.drop_of_length_le
def BF:=@Option.some.inj
def BG:=@List.getElem?_drop
def BH:=@List.mem_append_right
def BI:=@List.mem_append_left
def BJ:=@Array.getD_eq_getD_getElem?
def BK:=@Bool.or_eq_true
def BM:=@List.getElem?_eq_none
def BO:=@Array.getElem?_eq_none
def BP:=@List.ext_getElem?
def BQ:=@Prod.mk.injEq
def BR:=@Nat.le_succ
def BS:=@List.mem_iff_getElem
def BT:=@List.nil_append
def BU:=@Nat.add_assoc
def BV:=@Option.mem_toList
def BW:=@List.map_cons
def BX:=@List.flatMap_nil
def BY:=@List.ext_getElem
def BZ:=@List.pairwise_map
def Ba:=@List.getElem?_set_self
def Bb:=@Nat.mul_le_mul
def Bc:=@List.mem_filter
def Be:=@List.map_append
def Bf:=@List.pairwise_iff_getElem
def Bg:=@Nat.add_zero
def Bh:=@List.length_singleton
def Bi:=@and_true
def Bj:=@Int.toNat_of_nonneg
def Bk:=@List.cons_append
def Bl:=@List.nodup_range
def Bn:=@List.length_replicate
def Bo:=@List.length_nil
def Bp:=@Nat.mul_le_mul_right
def Bq:=@List.getElem?_cons_succ
def Br:=@List.range_succ
def Bs:=@List.take_length
def Bt:=@List.Pairwise.imp_of_mem
def Bu:=@Nat.add_mul
def Bv:=@Nat.pow_le_pow_right
def Bw:=@Bool.false_eq_true
def Bz:=@List.flatMap_append
def B4:=@decide_eq_false_iff_not
def B5:=@Nat.min_eq_left
def B6:=@List.map_congr_left
def B7:=@List.map_map
def B8:=@Nat.pow_succ
def B9:=@Nat.mul_comm
def CA:=@Int.mul_nonneg
def CB:=@Nat.sub_zero
def CC:=@List.countP_cons
def CD:=@true_and
def CE:=@Option.getD_some
def CF:=@Array.getElem?_eq_getElem
def CG:=@List.map_set
def CH:=@Nat.ne_of_beq_eq_false
def CJ:=@Array.getElem?_setIfInBounds_ne
def CK:=@List.drop_zero
def CM:=@List.getElem_inj
def CO:=@List.take_append_drop
def CP:=@List.mem_of_mem_take
def CQ:=@List.pairwise_cons
def CR:=@List.getD_cons_zero
def CT:=@of_decide_eq_true
def CU:=@Array.ext_getElem?
def CV:=@not_true_eq_false
def CW:=@List.map_take
def CX:=@List.getElem?_cons_zero
def CY:=@Bool.not_eq_true'
def CZ:=@List.pairwise_flatMap
def Ca:=@List.drop_eq_nil_of_le
def Cb:=@Nat.mul_le_mul_left
def Cc:=@List.length_range
def Cd:=@List.length_pos_of_mem
def Ce:=@Nat.succ_mul
def Cf:=@List.cons.injEq
def Cg:=@not_false_eq_true
def Ch:=@List.getD_cons_succ
def Ci:=@List.countP_append
def Cj:=@List.eq_of_mem_replicate
def Ck:=@List.size_toArray
def Cm:=@Option.map_some
def Cn:=@Nat.add_comm
def Co:=@List.take_take
def Cp:=@List.perm_middle
def Cq:=@List.pairwise_append
def Cr:=@List.drop_eq_getElem_cons
def Cs:=@Nat.one_le_pow
def Ct:=@List.foldl_cons
def Cu:=@Bool.eq_iff_iff
def Cw:=@Int.tmod_nonneg
def Cy:=@Int.tmod_lt_of_pos
def Cz:=@List.getElem?_replicate
def C0:=@List.replicate_succ'
def C3:=@Bool.and_true
def C4:=@Bool.not_eq_true
def C5:=@List.not_mem_nil
def C6:=@Option.bind_eq_some_iff
def C7:=@List.countP_eq_zero
def C8:=@Nat.succ_le_succ
def C9:=@Array.getElem?_extract
def DA:=@Array.toArray_toList
def DB:=@List.singleton_append
def DC:=@List.length_erase_of_mem
def DD:=@List.countP_map
def DE:=@Int.le_refl
def DF:=@Int.natCast_mul
def DG:=@List.take_left
def DH:=@Array.toList_map
def DI:=@List.getElem?_inj
def DJ:=@Option.bind_some
def DK:=@List.getElem?_tail
def DL:=@List.Perm.eq_of_pairwise
def DM:=@List.Perm.append_left
def DN:=@List.perm_ext_iff_of_nodup
def DO:=@Bool.false_and
def DP:=@Int.tdiv_eq_ediv_of_nonneg
def DQ:=@List.mem_or_eq_of_mem_set
def DR:=@Nat.add_sub_cancel
def DS:=@List.set_cons_succ
def DT:=@Array.getElem?_append_left
def DU:=@List.range'_succ
def DV:=@List.range_eq_range'
def DW:=@List.drop_length
def DX:=@List.take_sublist
def DY:=@List.mem_erase_of_ne
def DZ:=@Bool.and_false
def Da:=@List.getElem_take
def Db:=@List.countP_nil
def Dc:=@Bool.not_true
def Dd:=@Bool.not_false
def De:=@List.replicate_succ
def Df:=@List.filter_cons
def Dg:=@List.filter_nil
def Dh:=@List.length_filter_le
def Di:=@List.filterMap_append
def Dj:=@Nat.not_lt_zero
def Dk:=@List.getElem?_toArray
def Dl:=@List.length_pos_iff
def Dm:=@Array.size_append
def Dn:=@Array.toList_append
def Do:=@Array.length_toList
def Dp:=@Array.getElem?_map
def Dq:=@Array.getElem?_range
def Ds:=@Array.mem_toList_iff
def Dt:=@List.zip_cons_cons
def Du:=@Array.eq_empty_of_size_eq_zero
def Dv:=@Int.tmod_eq_emod_of_nonneg
def Dw:=@List.all_eq_not_any_not
def Dx:=@Int.fdiv_eq_ediv_of_nonneg
def Dy:=@List.filterMap_eq_nil_iff
def Dz:=@Option.isSome_iff_exists
def D5:=@Array.all_eq_true_iff_forall_mem
open Go.RowKit
inductive FC where
 |int (k:IntKind) (n:Int)
 |bool (b:Bool)
 |str (l:List UInt8)
 |ints (k:IntKind) (l:D6)
 |bools (l:List Bool)
 |rows (k:IntKind) (l:D7)
 |r3 (k:IntKind) (l:D8)
 |r4 (k:IntKind) (l:D9)
 |p3 (k:IntKind) (l:EA)
def bP(w:World)(v:Value)(n:Nat)(R:Nat->Value->Prop):Prop :=
 ∃a c,v=.slice a n c/\n<=c/\(0<n->∃b off,a=some ⟨b,off,none⟩/\∀i,i<n->∃u,w.cell? ⟨b,off+i,none⟩=some u/\R i u)
def gx(w:World)(v:Value)(n:Nat)(R:Nat->Value->Prop):Prop :=
 ∃a c,v=.slice a n c/\n<=c/\(0<n->∃b off,a=some ⟨b,off,none⟩/\∀j,j<n*2->∃u,w.cell? ⟨b,off+j,none⟩=some u/\R j u)
def fh(l:EA)(j:Nat):D7:=if j % 2=0 then(l.getD (j / 2) ([],[])).1 else(l.getD (j / 2) ([],[])).2
def lU(l:EA)(j:Nat)(x:D7):EA :=
 l.set (j / 2) (if j % 2=0 then(x,(l.getD (j / 2) ([],[])).2)else((l.getD (j / 2) ([],[])).1,x))
def ip(w:World)(k:IntKind)(v:Value)(l:D6):Prop:=bP w v l.length λi u=>u=.int k (l.getD i 0)
def Rk(w:World)(k:IntKind)(v:Value)(l:D7):Prop:=bP w v l.length λi u=>ip w k u (l.getD i [])
def Rl(w:World)(k:IntKind)(v:Value)(l:D8):Prop:=bP w v l.length λi u=>Rk w k u (l.getD i [])
def bu(w:World)(v:Value):FC->Prop
 |.int k n=>v=.int k n
 |.bool b=>v=.bool b
 |.str l=>v=.string ⟨l.toArray⟩
 |.ints k l=>ip w k v l
 |.bools l=>bP w v l.length λi u=>u=.bool (l.getD i false)
 |.rows k l=>bP w v l.length λi u=>ip w k u (l.getD i [])
 |.r3 k l=>Rl w k v l
 |.r4 k l=>bP w v l.length λi u=>Rl w k u (l.getD i [])
 |.p3 k l=>gx w v l.length λj u=>Rk w k u (fh l j)
def FC.elem:FC->Nat->Option FC
 |.ints k l,i=>if i<l.length then some (.int k (l.getD i 0))else none
 |.bools l,i=>if i<l.length then some (.bool (l.getD i false))else none
 |.rows k l,i=>if i<l.length then some (.ints k (l.getD i []))else none
 |.r3 k l,i=>if i<l.length then some (.rows k (l.getD i []))else none
 |.r4 k l,i=>if i<l.length then some (.r3 k (l.getD i []))else none
 |.p3 k l,i=>if i<l.length*2 then some (.rows k (fh l i))else none
 |_,_=>none
def FC.len:FC->Nat
 |.ints _ l=>l.length
 |.bools l=>l.length
 |.rows _ l=>l.length
 |.r3 _ l=>l.length
 |.r4 _ l=>l.length
 |.p3 _ l=>l.length
 |.str l=>l.length
 |_=>0
def FC.wid:FC->Nat
 |.p3 _ _=>2
 |_=>1
def FC.slen:FC->Nat
 |.p3 _ _=>0
 |d=>d.len
def FC.cn(d:FC):Nat:=d.len*d.wid
inductive SC where
 |any
 |und
 |int (k:IntKind) (n:Int)
 |bool (b:Bool)
 |str (l:List UInt8)
 |nil
 |own (o:Nat)
 |pre (o n:Nat)
 |sub (o off n:Nat)
 |ptr (o i:Nat)
 |row (o ver i:Nat)
 |rptr (o ver i j:Nat)
 |ro (d:FC)
 |rop (d:FC) (i:Nat)
 |rob (cs:List FC) (i:Nat)
 |rbb (cs:List FC)
 |nilq (b:Bool)
 |emp
 |bsl (o n:Nat)
 |orig (o j:Nat) (d:FC)
 |qptr (o i:Nat)
 |kid (o ver:Nat) (p:List Nat)
 |kptr (o ver:Nat) (p:List Nat) (j:Nat)
inductive FV where
 |ib (q:Int->Prop) (p:Int->Bool)
 |lb (q:D6->Prop) (p:D6->Bool)
 |iii (q:Int->Int->Prop) (p:Int->Int->Int)
 |iib (q:Int->Int->Prop) (p:Int->Int->Bool)
 |lli (q:D6->D6->Prop) (p:D6->D6->Int)
 |llb (q:D6->D6->Prop) (p:D6->D6->Bool)
 |ii (q:Int->Prop) (p:Int->Int)
 |tb (q:D7->Prop) (p:D7->Bool)
structure SFV where
 q:Int->Int->Int->Prop
 p:Int->Int->Int->Int
 nx:Int->Int->Int->Int
def wR:List FC->Option Int
 | [.int .i64 x]=>some x
 |_=>none
def HO:List FC->Option D6
 | [.ints .i64 l]=>some l
 |_=>none
def HP:List FC->Option D7
 | [.rows .i64 l]=>some l
 |_=>none
def wS:List FC->Option (Int×Int)
 | [.int .i64 x,.int .i64 y]=>some (x,y)
 |_=>none
def wT:List FC->Option (D6×D6)
 | [.ints .i64 l,.ints .i64 m]=>some (l,m)
 |_=>none
def FV.at(F:FV)(ds:List FC):Option (Prop×SC) :=
 match F with
 |.ib q p=>match wR ds with
  |some x=>some (q x,.bool (p x))
  |none=>none
 |.ii q p=>match wR ds with
  |some x=>some (q x,.int .i64 (p x))
  |none=>none
 |.lb q p=>match HO ds with
  |some x=>some (q x,.bool (p x))
  |none=>none
 |.tb q p=>match HP ds with
  |some x=>some (q x,.bool (p x))
  |none=>none
 |.iii q p=>match wS ds with
  |some (x,y)=>some (q x y,.int .i64 (p x y))
  |none=>none
 |.iib q p=>match wS ds with
  |some (x,y)=>some (q x y,.bool (p x y))
  |none=>none
 |.lli q p=>match wT ds with
  |some (x,y)=>some (q x y,.int .i64 (p x y))
  |none=>none
 |.llb q p=>match wT ds with
  |some (x,y)=>some (q x y,.bool (p x y))
  |none=>none
def wU:SC->Value
 |.int k n=>.int k n
 |.bool b=>.bool b
 |_=>undef
inductive SV where
 |c (x:SC)
 |agg (l:List SC)
 |fn (f:FuncId) (l:List SC)
 |fv (F:FV)
 |fvs (o:Nat) (F:SFV)
 |tup (l:List (SC ⊕ List SC))
structure OsD (w w':World):Prop where
 os:w'.os=w.os
 drawn:w.drawn<=w'.drawn
theorem OsD.trans{w w' w'':World}(h:OsD w' w'')(k:OsD w w'):OsD w w'':=⟨h.os.trans k.os,Ao k.drawn h.drawn⟩
theorem OsD.refl(w:World):OsD w w:=⟨rfl,AE _⟩
def ag:Value->Option Nat
 |.slice (some a) _ _=>some a.block
 |.pointer (some a)=>some a.block
 |.map (some b)=>some b
 |_=>none
structure YJ where
 P:Program
 l:Nat
 e:TypeId
 wF:World
 go:D7->D6->Bool
 ok:D7->D6->Prop
 J:D7->Bool->World->List Nat->Prop
 loc:∀(pre:D7) (b:Bool) (w w':World) (S:List Nat),J pre b w S->(∀k∈S,w'.heap[k]?=w.heap[k]?)->J pre b w' S
 spec:∀(pre:D7) (x:D6) (w:World) (S:List Nat) (v:Value),J pre true w S->ok pre x->S.Nodup->(∀k∈S,k<w.heap.size)->v.oneCell'=true ->
  w.ownsRow 0 e 1 v x.length (x.map (.int .i64))->(∀k∈S,ag v≠some k)->(∀p u,wF.cell? p=some u->w.cell? p=some u/\ag v≠some p.block) ->
  YieldAt Fence.wide 0 P l #[v] w λr w'=>∃S',r=.returned (.bool (go pre x))/\J (pre++[x]) (go pre x) w' S'/\S'.Nodup/\(∀k∈S,k∈S')/\(∀k∈S',(k∈S\/w.heap.size<=k)/\k<w'.heap.size) /\
   w'.ownsRow 0 e 1 v x.length (x.map (.int .i64))/\OsD w w'/\w'.tape=w.tape/\w'.output=w.output/\w.heap.size<=w'.heap.size/\∀k,k<w.heap.size->k ∉ S->ag v≠some k->w'.heap[k]?=w.heap[k]?
inductive Ob where
 |box (cs:List SC)
 |ints (e:TypeId) (k:IntKind) (l:D6)
 |bools (e:TypeId) (l:List Bool)
 |rows (ver:Nat) (e ei:TypeId) (k:IntKind) (l:D7)
 |bx (cs:List FC)
 |strs (e:TypeId) (l:List (List UInt8))
 |lst (ver:Nat) (e:TypeId) (d:FC)
 |frz (d:FC)
 |mp (l:D6)
 |qu (e:TypeId) (k:IntKind) (l:D6)
 |rowsH (ver:Nat) (e ei:TypeId) (k:IntKind) (l:D7) (hs:List Nat)
 |tr (ver:Nat) (es:List TypeId) (d:FC)
 |yd (ver:Nat) (Y:YJ) (pre:D7) (b:Bool)
 |trk (ver:Nat) (es:List TypeId) (d:FC) (n:Nat)
def Ob.isFz:Ob->Bool
 |.frz _=>true
 |_=>false
structure Shp where
 len:Nat
 ver:Nat
 rl:List Nat
def Ob.shp:Ob->Shp
 |.box cs=>⟨cs.length,0,[]⟩
 |.ints _ _ l=>⟨l.length,0,[]⟩
 |.bools _ l=>⟨l.length,0,[]⟩
 |.rows ver _ _ _ l=>⟨l.length,ver,l.map List.length⟩
 |.bx cs=>⟨cs.length,0,[]⟩
 |.strs _ l=>⟨l.length,0,[]⟩
 |.lst ver _ d=>⟨d.slen,ver,[]⟩
 |.frz d=>⟨d.slen,0,[]⟩
 |.mp _=>⟨0,0,[]⟩
 |.qu _ _ l=>⟨l.length,0,[]⟩
 |.rowsH ver _ _ _ l _=>⟨l.length,ver,l.map List.length⟩
 |.tr ver _ d=>⟨d.slen,ver,[]⟩
 |.yd ver _ _ _=>⟨0,ver,[]⟩
 |.trk ver _ d _=>⟨d.slen,ver,[]⟩
structure Img where
 hd:Value
 ins:List Value
def Img.blocks(m:Img):List Nat:=(ag m.hd).toList++m.ins.filterMap ag
/- A tree of own slices: a node is a tuple of its head value and its children. -/
def aM:Value->Value
 |.tuple arr=>arr.toList.headD undef
 |_=>undef
def ba:Value->List Value
 |.tuple arr=>arr.toList.tail
 |_=>[]
def bB(hd:Value)(ks:List Value):Value:=.tuple (hd::ks).toArray
def eV:Value->List Nat->Option Value
 |nd,[]=>some nd
 |nd,i::p=>match(ba nd)[i]? with
  |some u=>eV u p
  |none=>none
def iq:Nat->Value->List Value
 |0,_=>[]
 |n+1,nd=>aM nd::(ba nd).flatMap (iq n)
def aZ(n:Nat)(nd:Value):List Nat:=(iq n nd).filterMap ag
def FC.dep:FC->Nat
 |.rows _ _=>1
 |.r3 _ _=>2
 |.r4 _ _=>3
 |.p3 _ _=>2
 |_=>0
def c9:FC->Nat->Option FC
 |.rows k l,i=>some (.ints k (l.getD i []))
 |.r3 k l,i=>some (.rows k (l.getD i []))
 |.r4 k l,i=>some (.r3 k (l.getD i []))
 |.p3 k l,i=>some (.rows k (fh l i))
 |_,_=>none
def bq(w:World):List TypeId->Value->FC->Prop
 | [],_,_=>False
 | [e],nd,d=>nd=bB (aM nd) []/\∃k l,d=.ints k l/\w.ownsRow 0 e 1 (aM nd) l.length (l.map (.int k))
 |e::e2::es,nd,d=>nd=bB (aM nd) (ba nd)/\d.dep=es.length+1/\w.ownsRow 0 e d.wid (aM nd) d.len ((ba nd).map aM) /\
   ∀(i:Nat) (u:Value) (x:FC),(ba nd)[i]?=some u->c9 d i=some x->bq w (e2::es) u x
def jq(w:World)(n:Nat):List TypeId->Value->FC->Prop
 |e::e2::es,nd,d=>nd=bB (aM nd) (ba nd)/\d.dep=es.length+1/\(ba nd).length+n=d.cn /\
   (∃vs,w.ownsRow 0 e d.wid (aM nd) d.len vs/\∀(i:Nat) (u:Value),(ba nd)[i]?=some u->vs[n+i]?=some (aM u)) /\
   ∀(i:Nat) (u:Value) (x:FC),(ba nd)[i]?=some u->c9 d (n+i)=some x->bq w (e2::es) u x
 |_,_,_=>False
def dN(n:Nat)(nd:Value):Img:=⟨aM nd,nd::(iq n nd).tail⟩
inductive OSt where
 |absent
 |dead
 |live (s:Shp)
 |frz (d:FC)
structure Env where
 wF:World
 mu:Nat->Img
 st:Nat->OSt
def cF(hd:Value)(off n:Nat)(v:Value):Prop :=
 (hd=.slice none 0 0/\v=.slice none 0 0/\off=0/\n=0) \/
 ∃g len cap ao,hd=.slice (some ⟨g,0,none⟩) len cap/\v=.slice (some ao) n (cap-off)/\off<=cap/\n<=cap-off/\(off=0\/cap-off≠0->ao=⟨g,off,none⟩)
def OSt.on(s:OSt)(p:Shp->Prop)(q:FC->Prop:=λ_=>True):Prop :=
 match s with
 |.absent=>False
 |.dead=>True
 |.live x=>p x
 |.frz d=>q d
def b7(E:Env)(o:Nat)(v:Value)(p:Shp->Prop)(q:FC->Prop:=λ_=>True):Prop:=v.oneCell'=true/\(E.st o).on p q
def f8(wF:World)(v:Value)(d:FC):Prop:=(∃a n c,v=.slice a n c/\n<=c)/\bu wF v d
def cD(off n:Nat):FC->Option FC
 |.ints k l=>some (.ints k ((l.drop off).take n))
 |.bools l=>some (.bools ((l.drop off).take n))
 |.rows k l=>some (.rows k ((l.drop off).take n))
 |.r3 k l=>some (.r3 k ((l.drop off).take n))
 |.r4 k l=>some (.r4 k ((l.drop off).take n))
 |.p3 k l=>match off with
  |0=>some (.p3 k (l.take n))
  |_+1=>none
 |_=>none
def ak(E:Env):SC->Value->Prop
 |.any,_=>True
 |.und,v=>v=undef
 |.int k n,v=>v=.int k n
 |.bool b,v=>v=.bool b
 |.str l,v=>v=.string ⟨l.toArray⟩
 |.nil,v=>v=.slice none 0 0
 |.own o,v=>b7 E o v (λ_=>v=(E.mu o).hd) λd=>f8 E.wF v d
 |.pre o n,v=>b7 E o v (λs=>n<=s.len/\cF (E.mu o).hd 0 n v) λd=>∃d',cD 0 n d=some d'/\f8 E.wF v d'
 |.sub o off n,v=>b7 E o v (λs=>off+n<=s.len/\cF (E.mu o).hd off n v) λd=>∃d',cD off n d=some d'/\f8 E.wF v d'
 |.ptr o i,v=>b7 E o v λs=>i<s.len/\∃b,ag (E.mu o).hd=some b/\v=.pointer (some ⟨b,i,none⟩)
 |.row o ver i,v=>b7 E o v λs=>ver<=s.ver/\(s.ver=ver->(E.mu o).ins[i]?=some v/\i<s.len)
 |.rptr o ver i j,v=>b7 E o v λs=>ver<=s.ver/\(s.ver=ver->i<s.len/\j<s.rl.getD i 0/\∃r b,(E.mu o).ins[i]?=some r/\ag r=some b/\v=.pointer (some ⟨b,j,none⟩))
 |.ro d,v=>(∃a n c,v=.slice a n c/\n<=c)/\bu E.wF v d
 |.rop d i,v=>∃b off fc u,d.elem i=some fc/\v=.pointer (some ⟨b,off,none⟩)/\E.wF.cell? ⟨b,off,none⟩=some u/\bu E.wF u fc
 |.emp,v=>∃a,v=.slice a 0 0
 |.bsl o n,v=>b7 E o v λs=>n=s.len/\∃b,ag (E.mu o).hd=some b/\v=.slice (some ⟨b,0,none⟩) n n
 |.nilq b,v=>∃a n c,v=.slice a n c/\a.isNone=b
 |.orig o j d,v=>((∃a n c,v=.slice a n c/\n<=c)/\bu E.wF v d)/\b7 E o v λs=>s.ver=0->(E.mu o).ins[j]?=some (.agg #[v])
 |.qptr o i,v=>b7 E o v λs=>i<s.len/\∃b off n c,(E.mu o).hd=.slice (some ⟨b,off,none⟩) n c/\v=.pointer (some ⟨b,off+i,none⟩)
 |.kid o ver p,v=>b7 E o v λs=>ver<=s.ver/\(s.ver=ver->∃nd u,(E.mu o).ins[0]?=some nd/\eV nd p=some u/\v=aM u)
 |.kptr o ver p j,v=>b7 E o v λs=>ver<=s.ver/\(s.ver=ver->∃nd u b n c,(E.mu o).ins[0]?=some nd/\eV nd p=some u/\aM u=.slice (some ⟨b,0,none⟩) n c/\(j<n\/j<(ba u).length)/\v=.pointer (some ⟨b,j,none⟩))
 |.rbb cs,v=>∃b off b2 off2,v=.pointer (some ⟨b,off,none⟩)/\E.wF.cell? ⟨b,off,none⟩=some (.pointer (some ⟨b2,off2,none⟩))/\∀(j:Nat) (fc:FC),cs[j]?=some fc->∃u,E.wF.cell? ⟨b2,off2+j,none⟩=some u/\bu E.wF u fc
 |.rob cs i,v=>∃b off,v=.pointer (some ⟨b,off,none⟩)/\∀(j:Nat) (fc:FC),cs[i+j]?=some fc->∃u,E.wF.cell? ⟨b,off+j,none⟩=some u/\bu E.wF u fc
def dp(E:Env)(cs:List SC)(arr:Array Value):Prop :=
 arr.size=cs.length/\∀(i:Nat) (c:SC),cs[i]?=some c->∃u,arr[i]?=some u/\u.oneCell'=true/\ak E c u
structure GrB (w w':World) (row:Option Nat):Prop where
 os:OsD w w'
 tape:w'.tape=w.tape
 output:w'.output=w.output
 size:w.heap.size<=w'.heap.size
 block:∀k,k<w.heap.size->some k≠row->w'.heap[k]?=w.heap[k]?
def f9(w:World)(o:Obj)(row:Option Nat):GrB w (w.alloc o) row :=
 let h:=World.grownBy_alloc w o row
 ⟨⟨h.os,AE _⟩,h.tape,h.output,h.size,h.block⟩
def bU(wF w:World):Prop:=∀p u,wF.cell? p=some u->w.cell? p=some u
def nr(P:Program)(wF:World)(F:FV)(v:Value):Prop :=
 ∃f caps fn,v=.func (.func f) #[] caps/\P.funcs[f]?=some fn/\fn.body.isSome=true/\fn.name≠"runtime.NumGoroutine" /\
  ∀(w:World) (us:List Value) (ds:List FC) (q:Prop) (c:SC),bU wF w->F.at ds=some (q,c)->q->us.length=ds.length ->
   (∀(i:Nat) (d:FC),ds[i]?=some d->∃u,us[i]?=some u/\u.oneCell'=true/\bu w u d) ->
   Calls P f (us.toArray++caps) w λe w'=>e=.returned (wU c)/\Below w.heap.size w w'/\w.drawn<=w'.drawn
def rz(P:Program)(wF:World)(b:Nat)(F:SFV)(v:Value):Prop :=
 ∃f caps fn,v=.func (.func f) #[] caps/\P.funcs[f]?=some fn/\fn.body.isSome=true/\fn.name≠"runtime.NumGoroutine" /\
  ∀(w:World) (s x y:Int),bU wF w->(∃t,w.heap[b]?=some (.cells #[.int .i64 s] t (0,0)))->F.q s x y ->
   Calls P f (#[.int .i64 x,.int .i64 y]++caps) w λe w'=>e=.returned (.int .i64 (F.p s x y))/\OsD w w'/\w'.tape=w.tape/\w'.output=w.output/\w.heap.size<=w'.heap.size /\
    (∀k,k<w.heap.size->k≠b->w'.heap[k]?=w.heap[k]?)/\∃t,w'.heap[b]?=some (.cells #[.int .i64 (F.nx s x y)] t (0,0))
def wV(E:Env):SC ⊕ List SC->Value->Prop
 |.inl c,v=>v.oneCell'=true/\ak E c v
 |.inr cs,v=>∃arr,v=.agg arr/\dp E cs arr
def aA(P:Program)(E:Env):SV->Value->Prop
 |.c x,v=>ak E x v
 |.agg l,v=>∃arr,v=.agg arr/\dp E l arr
 |.fn f l,v=>∃arr,v=.func (.func f) #[] arr/\dp E l arr
 |.fv F,v=>nr P E.wF F v
 |.fvs o F,v=>b7 E o v λ_=>∃b,(E.mu o).hd=.pointer (some ⟨b,0,none⟩)/\rz P E.wF b F v
 |.tup l,v=>∃arr,v=.tuple arr/\arr.size=l.length/\∀(i:Nat) (c:SC ⊕ List SC),l[i]?=some c->∃u,arr[i]?=some u/\wV E c u
def lV(m:Img)(j:Nat)(d:FC)(u:Value):Prop :=
 match d with
 |.int k n=>u=.int k n
 |.bool b=>u=.bool b
 |.str l=>u=.string ⟨l.toArray⟩
 |_=>m.ins[j]?=some (.agg #[u])
def pu(l:List UInt8):Value:=.string ⟨l.toArray⟩
def nt(w:World)(v:Value)(xs:List Value):Prop :=
 (v=.slice none 0 0/\xs=[])\/∃g off cap,v=.slice (some ⟨g,off,none⟩) xs.length cap/\xs.length<=cap/\cap<=maxLen/\g<w.heap.size/\(∀j,j<cap->(w.cell? ⟨g,off+j,none⟩).isSome=true/\w.frozen? ⟨g,off+j,none⟩=false)/\∀(i:Nat) (u:Value),xs[i]?=some u->w.cell? ⟨g,off+i,none⟩=some u
def j8(w:World)(m:Img)(e ei:TypeId)(k:IntKind)(l:D7)(hs:List Nat):Prop :=
 m.ins.length=l.length/\(∃vs,w.ownsRow 0 e 1 m.hd l.length vs/\∀(i:Nat) (v:Value),m.ins[i]?=some v->¬ i∈hs->vs[i]?=some v)/\∀(i:Nat) (v:Value) (r:D6),m.ins[i]?=some v->l[i]?=some r->(i∈hs->ag v=none)/\(¬ i∈hs->w.ownsRow 0 ei 1 v r.length (r.map (.int k)))
def aX(E:Env)(w:World)(m:Img):Ob->Prop
 |.bx cs=>∃b arr t,m.hd=.pointer (some ⟨b,0,none⟩)/\(∀u∈m.ins,ag u=none)/\w.heap[b]?=some (.cells arr t (0,0))/\arr.size=cs.length /\
   ∀(j:Nat) (d:FC),cs[j]?=some d->∃u,arr[j]?=some u/\u.oneCell'=true/\lV m j d u
 |.box cs=>∃b arr t,m.hd=.pointer (some ⟨b,0,none⟩)/\(∀u∈m.ins,ag u=none)/\w.heap[b]?=some (.cells arr t (0,0))/\dp E cs arr
 |.ints e k l=>m.ins=[]/\w.ownsRow 0 e 1 m.hd l.length (l.map (.int k))
 |.bools e l=>m.ins=[]/\w.ownsRow 0 e 1 m.hd l.length (l.map .bool)
 |.strs e l=>m.ins=[]/\w.ownsRow 0 e 1 m.hd l.length (l.map pu)
 |.rows _ e ei k l=>w.ownsRow 0 e 1 m.hd l.length m.ins/\m.ins.length=l.length /\
   ∀(i:Nat) (v:Value) (r:D6),m.ins[i]?=some v->l[i]?=some r->w.ownsRow 0 ei 1 v r.length (r.map (.int k))
 |.lst _ e d=>m.ins=[]/\∃vs,w.ownsRow 0 e d.wid m.hd d.len vs/\∀(i:Nat) (u:Value),vs[i]?=some u->u.oneCell'=true/\∃fc,d.elem i=some fc/\bu E.wF u fc
 |.frz _=>m.blocks=[]
 |.mp l=>m.ins=[]/\∃b es ck,m.hd=.map (some b)/\w.heap[b]?=some (.map es ck)/\es.toList.map (λe=>(e.key,e.val))=l.map λn=>(.int .i64 n,.bool true)
 |.qu _ k l=>m.ins=[]/\nt w m.hd (l.map (.int k))
 |.rowsH _ e ei k l hs=>j8 w m e ei k l hs
 |.tr _ es d=>∃nd,m=dN es.length nd/\bq w es nd d
 |.trk _ es d n=>∃nd,m=dN es.length nd/\jq w n es nd d
 |.yd _ Y pre b=>m.hd=.func (.yield Y.l) #[] #[]/\bU Y.wF E.wF/\Y.J pre b w m.blocks/\∀k∈m.blocks,k<w.heap.size
structure State where
 fr:List (Nat×SV)
 hp:List (Nat×Option Ob)
def lk{α:Type}:List (Nat×α)->Nat->Option α
 | [],_=>none
 |(k,v)::l,t=>match Nat.beq k t with
  |true=>some v
  |false=>lk l t
def State.F(σ:State)(t:Nat):Option SV:=lk σ.fr t
def State.H(σ:State)(o:Nat):Option (Option Ob):=lk σ.hp o
def eo:Ob->OSt
 |.frz d=>.frz d
 |ob=>.live ob.shp
def State.ost(σ:State)(o:Nat):OSt :=
 match σ.H o with
 |none=>.absent
 |some none=>.dead
 |some (some ob)=>eo ob
def State.env(σ:State)(wF:World)(mu:Nat->Img):Env:=⟨wF,mu,σ.ost⟩
structure Cx where
 P:Program
 N:Nat
 w0:World
 wF:World
 M:Nat->Prop
 pin:Nat->Option Img
def kX(n:Nat)(σ:State)(mu:Nat->Img)(ds:List Deferred)(w:World):Prop :=
 ∃rs:List Nat,ds=rs.map (λr=>{ target:=.collected r,args:=#[] })/\rs.Nodup/\∀r∈rs,n<=r/\w.heap[r]?=some (.deferred (some []))/\∀o ob,σ.H o=some (some ob)->r ∉ (mu o).blocks
theorem kX.nil{n:Nat}{σ:State}{mu:Nat->Img}{w:World}:kX n σ mu [] w:=⟨[],rfl,.nil,λr h=>by cases h⟩
theorem kX.sub{n:Nat}{σ σ':State}{mu mu':Nat->Img}{ds:List Deferred}{w:World}(h:kX n σ mu ds w)
  (hs:∀o ob,σ'.H o=some (some ob)->∃o' ob',σ.H o'=some (some ob')/\∀b∈(mu' o).blocks,b∈(mu o').blocks):kX n σ' mu' ds w:=by
 obtain⟨rs,h1,h2,h3⟩:=h;refine⟨rs,h1,h2,λr hr=>?_⟩
 obtain⟨k1,k2,k3⟩:=h3 r hr;refine⟨k1,k2,λo ob ho hb=>?_⟩
 obtain⟨o',ob',q1,q2⟩:=hs o ob ho;exact k3 o' ob' q1 (q2 r hb)
structure St (C:Cx) (σ:State) (mu:Nat->Img) (a:Act) (w:World):Prop where
 os:OsD C.w0 w
 tape:w.tape=C.w0.tape
 output:w.output=C.w0.output
 size:C.w0.heap.size<=w.heap.size
 block:∀k,k<C.w0.heap.size->¬ C.M k->w.heap[k]?=C.w0.heap[k]?
 cells:∀p u,C.wF.cell? p=some u->(∀o ob,σ.H o=some (some ob)->p.block ∉ (mu o).blocks)/\w.cell? p=some u
 sz:a.tmps.size=C.N
 df:kX C.w0.heap.size σ mu a.defers w
 fr:∀t sv,σ.F t=some sv->aA C.P (σ.env C.wF mu) sv (a.tmps.getD t undef)
 ob:∀o ob,σ.H o=some (some ob)->aX (σ.env C.wF mu) w (mu o) ob
 nd:∀o ob,σ.H o=some (some ob)->(mu o).blocks.Nodup/\∀b∈(mu o).blocks,C.M b\/C.w0.heap.size<=b
 sep:∀o o' ob ob',o≠o'->σ.H o=some (some ob)->σ.H o'=some (some ob')->∀b∈(mu o).blocks,b ∉ (mu o').blocks
 pins:∀o m,C.pin o=some m->match σ.ost o with|.absent=>False|.dead=>True|.frz _=>True|.live s=>(mu o).hd=m.hd/\(s.ver=0->mu o=m)
def Cx.fz(C:Cx)(wG:World):Cx:=⟨C.P,C.N,C.w0,wG,C.M,C.pin⟩
structure GrowF (C:Cx) (wG:World):Prop where
 kept:bU C.wF wG
 new:∀p u,wG.cell? p=some u->C.wF.cell? p=some u\/C.w0.heap.size<=p.block\/C.M p.block
def aD(C:Cx)(σ:State)(a:Act)(w:World):Prop:=∃wG mu,GrowF C wG/\St (C.fz wG) σ mu a w
theorem GrowF.refl(C:Cx):GrowF C C.wF:=⟨λ_ _ h=>h,λ_ _ h=>.inl h⟩
theorem GrowF.trans{C:Cx}{wG wH:World}(h:GrowF C wG)(k:GrowF (C.fz wG) wH):GrowF C wH :=
 ⟨λp u hp=>k.kept p u (h.kept p u hp),λp u hp=>(k.new p u hp).elim (λh2=>h.new p u h2) .inr⟩
theorem St.ex{C:Cx}{σ:State}{mu:Nat->Img}{a:Act}{w:World}(h:St C σ mu a w):aD C σ a w:=⟨C.wF,mu,.refl C,h⟩
theorem aD.up{C:Cx}{wG:World}(hg:GrowF C wG){σ:State}{a:Act}{w:World}(h:aD (C.fz wG) σ a w):aD C σ a w:=by
 obtain⟨wH,mu,h1,h2⟩:=h;exact⟨wH,mu,hg.trans h1,h2⟩
end Go.Sx
