/- SxA -/
import Derived.WalkKit
import Derived.Orders
import Derived.Deep.LoopGhost
import Derived.WalkSpells
import Derived.RangeFuncSeq
import Derived.OrdersIn
set_option linter.unusedSimpArgs false
set_option linter.unusedVariables false
set_option linter.defProp false
namespace Go.Sx
abbrev Db:=List Int
abbrev Dc:=List (List Int)
abbrev Dd:=List (List (List Int))
abbrev De:=List (List (List (List Int)))
abbrev Df:=List (List (List Int)×List (List Int))
def AA:=@if_pos
def AB:=@if_neg
def AC:=@Option.some.injEq
def AE:=@Nat.le_refl
def AF:=@List.getElem?_eq_getElem
def AG:=@Bool.and_eq_true
def AH:=@List.mem_cons
def AI:=@List.mem_of_getElem?
def AJ:=@List.getElem?_eq_some_iff
def AK:=@Nat.zero_add
def AL:=@List.mem_append
def AM:=@List.all_eq_true
def AN:=@List.getD_eq_getElem?_getD
def AO:=@Ne.symm
def AP:=@Int.toNat_natCast
def AQ:=@decide_eq_true_eq
def AR:=@List.length_cons
def AS:=@List.length_take
def AT:=@List.mem_map
def AU:=@List.take_of_length_le
def AV:=@if_true
def AW:=@List.mem_range
def AX:=@Nat.eq_of_beq_eq_true
def AY:=@decide_eq_true
def AZ:=@decide_eq_false
def Aa:=@List.nodup_cons
def Ab:=@List.mem_cons_of_mem
def Ac:=@Bool.true_and
def Ad:=@Nat.zero_le
def Ae:=@List.length_map
def Af:=@List.append_nil
def Ag:=@if_false
def Ah:=@List.getElem?_of_mem
def Ai:=@List.length_set
def Aj:=@List.getElem?_map
def Ak:=@List.nodup_append
def Al:=@List.length_append
def Am:=@List.getElem?_append_left
def An:=@Nat.le_trans
def Ao:=@List.mem_flatMap
def Ap:=@List.append_assoc
def Aq:=@List.getElem?_append_right
def Ar:=@List.mem_filterMap
def As:=@Nat.mul_one
def At:=@List.mem_cons_self
def Au:=@List.getElem?_take
def Av:=@List.getElem?_set
def Aw:=@Array.ext'
def Ax:=@List.filterMap_nil
def Ay:=@List.getElem_of_mem
def Az:=@List.filterMap_cons
def A0:=@Nat.add_assoc
def A4:=@List.drop_of_length_le
def A5:=@Array.getElem?_eq_some_iff
def A6:=@List.length_drop
def A7:=@List.getElem?_eq_none
def A8:=@congrArg
def A9:=@List.getElem?_drop
def BA:=@List.ext_getElem?
def BB:=@Prod.mk.injEq
def BC:=@Nat.le_succ
def BD:=@Array.getElem?_eq_none
def BE:=@Option.some.inj
def BF:=@List.mem_append_left
def BG:=@List.mem_append_right
def BH:=@List.mem_filter
def BI:=@Bool.or_eq_true
def BJ:=@List.eq_nil_of_length_eq_zero
def BK:=@Option.mem_toList
def BM:=@Array.getD_eq_getD_getElem?
def BO:=@Nat.mul_le_mul
def BP:=@List.map_cons
def BQ:=@List.getElem?_set_ne
def BR:=@List.range_succ
def BS:=@of_decide_eq_true
def BT:=@List.cons_append
def BU:=@Classical.byContradiction
def BV:=@List.length_nil
def BW:=@Int.natCast_nonneg
def BX:=@List.getElem?_cons_succ
def BY:=@List.getElem?_set_self
def BZ:=@List.map_append
def Ba:=@List.flatMap_cons
def Bb:=@List.mem_singleton
def Bc:=@Nat.add_zero
def Be:=@and_true
def Bf:=@Bool.eq_iff_iff
def Bg:=@Nat.pow_succ
def Bh:=@Nat.pow_le_pow_right
def Bi:=@Bool.false_eq_true
def Bj:=@List.length_range
def Bk:=@Array.getElem?_eq_getElem
def Bl:=@List.map_set
def Bn:=@Nat.ne_of_beq_eq_false
def Bo:=@Array.getElem?_setIfInBounds_ne
def Bp:=@List.drop_zero
def Bq:=@Bool.false_and
def Br:=@Int.mul_nonneg
def Bs:=@List.nil_append
def Bt:=@List.nodup_range
def Bu:=@List.pairwise_iff_getElem
def Bv:=@Int.natCast_pow
def Bw:=@List.getElem_range
def Bz:=@not_true_eq_false
def B4:=@true_and
def B5:=@List.map_take
def B6:=@Array.ext_getElem?
def B7:=@List.getElem?_cons_zero
def B8:=@Int.one_mul
def B9:=@Bool.and_true
def CA:=@List.countP_append
def CB:=@List.eq_of_mem_replicate
def CC:=@List.size_toArray
def CD:=@Nat.min_eq_left
def CE:=@Option.map_some
def CF:=@Nat.add_comm
def CG:=@Int.tmod_nonneg
def CH:=@Int.tmod_lt_of_pos
def CJ:=@List.getElem_mem
def CK:=@List.countP_cons
def CM:=@Nat.succ_le_succ
def CO:=@List.take_append_drop
def CP:=@List.singleton_append
def CQ:=@Nat.add_mul
def CR:=@Int.toNat_of_nonneg
def CT:=@List.length_pos_of_mem
def CU:=@Bool.not_eq_true
def CV:=@Nat.sub_zero
def CW:=@List.ext_getElem
def CX:=@List.length_erase_of_mem
def CY:=@List.pairwise_cons
def CZ:=@List.countP_map
def Ca:=@Bool.not_eq_true'
def Cb:=@Int.natCast_mul
def Cc:=@not_false_eq_true
def Cd:=@List.findIdx_getElem
def Ce:=@List.take_left
def Cf:=@Array.toList_map
def Cg:=@List.getElem?_inj
def Ch:=@List.map_congr_left
def Ci:=@Option.bind_some
def Cj:=@List.getElem?_tail
def Ck:=@Nat.one_le_pow
def Cl:=@Nat.mul_le_mul_left
def Cm:=@List.getElem_inj
def Cn:=@List.pairwise_map
def Co:=@Int.emod_eq_of_lt
def Cp:=@List.range'_succ
def Cq:=@List.range_eq_range'
def Cr:=@Nat.add_sub_cancel
def Cs:=@List.drop_eq_nil_of_le
def Ct:=@List.all_append
def Cu:=@List.take_sublist
def Cw:=@List.pairwise_flatMap
def Cy:=@List.flatMap_append
def Cz:=@List.mem_erase_of_ne
def C0:=@Bool.and_false
def C3:=@decide_eq_false_iff_not
def C4:=@List.countP_nil
def C5:=@Bool.not_true
def C6:=@Bool.not_false
def C7:=@Nat.le_of_not_lt
def C8:=@List.mem_or_eq_of_mem_set
def C9:=@List.filterMap_append
def DA:=@Nat.not_lt_zero
def DB:=@List.getElem?_toArray
def DC:=@Array.getElem?_extract
def DD:=@List.length_pos_iff
def DE:=@Array.size_append
def DF:=@Array.toList_append
def DG:=@Array.length_toList
def DH:=@List.take_take
def DI:=@Array.getElem?_map
def DJ:=@Array.getElem?_range
def DK:=@List.length_singleton
def DL:=@List.foldl_cons
def DM:=@Array.mem_toList_iff
def DN:=@List.zip_cons_cons
def DO:=@Option.getD_some
def DP:=@Array.eq_empty_of_size_eq_zero
def DQ:=@Array.toArray_toList
def DR:=@List.length_replicate
def DS:=@Int.tmod_eq_emod_of_nonneg
def DT:=@Option.bind_eq_some_iff
def DU:=@List.all_eq_not_any_not
def DV:=@Int.tdiv_eq_ediv_of_nonneg
def DW:=@Int.fdiv_eq_ediv_of_nonneg
def DX:=@List.getElem?_replicate
def DY:=@List.filterMap_eq_nil_iff
def DZ:=@Option.isSome_iff_exists
def Da:=@Array.all_eq_true_iff_forall_mem
open Go.RowKit
inductive FC where
 |int (k:IntKind) (n:Int)
 |bool (b:Bool)
 |str (l:List UInt8)
 |ints (k:IntKind) (l:Db)
 |bools (l:List Bool)
 |rows (k:IntKind) (l:Dc)
 |r3 (k:IntKind) (l:Dd)
 |r4 (k:IntKind) (l:De)
 |p3 (k:IntKind) (l:Df)
def bE(w:World)(v:Value)(n:Nat)(R:Nat->Value->Prop):Prop :=
 ∃a c,v=.slice a n c/\n<=c/\(0<n->∃b off,a=some ⟨b,off,none⟩/\∀i,i<n->∃u,w.cell? ⟨b,off+i,none⟩=some u/\R i u)
def gh(w:World)(v:Value)(n:Nat)(R:Nat->Value->Prop):Prop :=
 ∃a c,v=.slice a n c/\n<=c/\(0<n->∃b off,a=some ⟨b,off,none⟩/\∀j,j<n*2->∃u,w.cell? ⟨b,off+j,none⟩=some u/\R j u)
def dP(l:Df)(j:Nat):Dc:=if j % 2=0 then(l.getD (j / 2) ([],[])).1 else(l.getD (j / 2) ([],[])).2
def lF(l:Df)(j:Nat)(x:Dc):Df :=
 l.set (j / 2) (if j % 2=0 then(x,(l.getD (j / 2) ([],[])).2)else((l.getD (j / 2) ([],[])).1,x))
def g9(w:World)(k:IntKind)(v:Value)(l:Db):Prop:=bE w v l.length fun i u=>u=.int k (l.getD i 0)
def OB(w:World)(k:IntKind)(v:Value)(l:Dc):Prop:=bE w v l.length fun i u=>g9 w k u (l.getD i [])
def OC(w:World)(k:IntKind)(v:Value)(l:Dd):Prop:=bE w v l.length fun i u=>OB w k u (l.getD i [])
def bp(w:World)(v:Value):FC->Prop
 |.int k n=>v=.int k n
 |.bool b=>v=.bool b
 |.str l=>v=.string ⟨l.toArray⟩
 |.ints k l=>g9 w k v l
 |.bools l=>bE w v l.length fun i u=>u=.bool (l.getD i false)
 |.rows k l=>bE w v l.length fun i u=>g9 w k u (l.getD i [])
 |.r3 k l=>OC w k v l
 |.r4 k l=>bE w v l.length fun i u=>OC w k u (l.getD i [])
 |.p3 k l=>gh w v l.length fun j u=>OB w k u (dP l j)
def FC.elem:FC->Nat->Option FC
 |.ints k l,i=>if i<l.length then some (.int k (l.getD i 0))else none
 |.bools l,i=>if i<l.length then some (.bool (l.getD i false))else none
 |.rows k l,i=>if i<l.length then some (.ints k (l.getD i []))else none
 |.r3 k l,i=>if i<l.length then some (.rows k (l.getD i []))else none
 |.r4 k l,i=>if i<l.length then some (.r3 k (l.getD i []))else none
 |.p3 k l,i=>if i<l.length*2 then some (.rows k (dP l i))else none
 |_,_=>none
def FC.len:FC->Nat
 |.ints _ l=>l.length
 |.bools l=>l.length
 |.rows _ l=>l.length
 |.r3 _ l=>l.length
 |.r4 _ l=>l.length
 |.p3 _ l=>l.length
 |.str l=>l.length
 |_=>0
def FC.wid:FC->Nat
 |.p3 _ _=>2
 |_=>1
def FC.slen:FC->Nat
 |.p3 _ _=>0
 |d=>d.len
def FC.cn(d:FC):Nat:=d.len*d.wid
inductive FV where
 |ib (q:Int->Prop) (p:Int->Bool)
 |lb (q:Db->Prop) (p:Db->Bool)
 |iii (q:Int->Int->Prop) (p:Int->Int->Int)
 |iib (q:Int->Int->Prop) (p:Int->Int->Bool)
 |lli (q:Db->Db->Prop) (p:Db->Db->Int)
 |llb (q:Db->Db->Prop) (p:Db->Db->Bool)
 |ii (q:Int->Prop) (p:Int->Int)
 |tb (q:Dc->Prop) (p:Dc->Bool)
 |ii2 (q:Int->Int->Prop) (p r:Int->Int->Int)
inductive SC where
 |any
 |und
 |int (k:IntKind) (n:Int)
 |bool (b:Bool)
 |str (l:List UInt8)
 |nil
 |own (o:Nat)
 |pre (o n:Nat)
 |sub (o off n:Nat)
 |ptr (o i:Nat)
 |row (o ver i:Nat)
 |rptr (o ver i j:Nat)
 |ro (d:FC)
 |rop (d:FC) (i:Nat)
 |rob (cs:List FC) (i:Nat)
 |rbb (cs:List FC)
 |nilq (b:Bool)
 |emp
 |bsl (o n:Nat)
 |orig (o j:Nat) (d:FC)
 |qptr (o i:Nat)
 |kid (o ver:Nat) (p:List Nat)
 |kptr (o ver:Nat) (p:List Nat) (j:Nat)
 |fnc (P:Program) (F:FV)
 |rbf (P:Program) (F:FV)
 |pr (a b:Int)
 |pptr (o i:Nat)
structure SFV where
 q:Int->Int->Int->Prop
 p:Int->Int->Int->Int
 nx:Int->Int->Int->Int
def wg:List FC->Option Int
 | [.int .i64 x]=>some x
 |_=>none
def Gj:List FC->Option Db
 | [.ints .i64 l]=>some l
 |_=>none
def Gk:List FC->Option Dc
 | [.rows .i64 l]=>some l
 |_=>none
def qr:List FC->Option (Int×Int)
 | [.int .i64 x,.int .i64 y]=>some (x,y)
 |_=>none
def wh:List FC->Option (Db×Db)
 | [.ints .i64 l,.ints .i64 m]=>some (l,m)
 |_=>none
def FV.at(F:FV)(ds:List FC):Option (Prop×SC) :=
 match F with
 |.ib q p=>match wg ds with
  |some x=>some (q x,.bool (p x))
  |none=>none
 |.ii q p=>match wg ds with
  |some x=>some (q x,.int .i64 (p x))
  |none=>none
 |.lb q p=>match Gj ds with
  |some x=>some (q x,.bool (p x))
  |none=>none
 |.tb q p=>match Gk ds with
  |some x=>some (q x,.bool (p x))
  |none=>none
 |.iii q p=>match qr ds with
  |some (x,y)=>some (q x y,.int .i64 (p x y))
  |none=>none
 |.ii2 q p r=>match qr ds with
  |some (x,y)=>some (q x y,.pr (p x y) (r x y))
  |none=>none
 |.iib q p=>match qr ds with
  |some (x,y)=>some (q x y,.bool (p x y))
  |none=>none
 |.lli q p=>match wh ds with
  |some (x,y)=>some (q x y,.int .i64 (p x y))
  |none=>none
 |.llb q p=>match wh ds with
  |some (x,y)=>some (q x y,.bool (p x y))
  |none=>none
def wj:SC->Value
 |.pr a b=>.tuple #[.int .i64 a,.int .i64 b]
 |.int k n=>.int k n
 |.bool b=>.bool b
 |_=>undef
inductive SV where
 |c (x:SC)
 |agg (l:List SC)
 |fn (f:FuncId) (l:List SC)
 |fv (F:FV)
 |fvs (o:Nat) (F:SFV)
 |tup (l:List (SC ⊕ List SC))
structure OsD (w w':World):Prop where
 os:w'.os=w.os
 drawn:w.drawn<=w'.drawn
theorem OsD.trans{w w' w'':World}(h:OsD w' w'')(k:OsD w w'):OsD w w'':=⟨h.os.trans k.os,An k.drawn h.drawn⟩
theorem OsD.refl(w:World):OsD w w:=⟨rfl,AE _⟩
def ac:Value->Option Nat
 |.slice (some a) _ _=>some a.block
 |.pointer (some a)=>some a.block
 |.map (some b)=>some b
 |_=>none
structure YJ where
 P:Program
 l:Nat
 e:TypeId
 wF:World
 go:Dc->Db->Bool
 ok:Dc->Db->Prop
 J:Dc->Bool->World->List Nat->Prop
 loc:∀(pre:Dc) (b:Bool) (w w':World) (S:List Nat),J pre b w S->(∀k∈S,w'.heap[k]?=w.heap[k]?)->J pre b w' S
 spec:∀(pre:Dc) (x:Db) (w:World) (S:List Nat) (v:Value),J pre true w S->ok pre x->S.Nodup->(∀k∈S,k<w.heap.size)->v.oneCell'=true ->
  w.ownsRow 0 e 1 v x.length (x.map (.int .i64))->(∀k∈S,ac v≠some k)->(∀p u,wF.cell? p=some u->w.cell? p=some u/\ac v≠some p.block) ->
  YieldAt Fence.wide 0 P l #[v] w fun r w'=>∃S',r=.returned (.bool (go pre x))/\J (pre++[x]) (go pre x) w' S'/\S'.Nodup/\(∀k∈S,k∈S')/\(∀k∈S',(k∈S\/w.heap.size<=k)/\k<w'.heap.size) /\
   w'.ownsRow 0 e 1 v x.length (x.map (.int .i64))/\OsD w w'/\w'.tape=w.tape/\w'.output=w.output/\w.heap.size<=w'.heap.size/\∀k,k<w.heap.size->k ∉ S->ac v≠some k->w'.heap[k]?=w.heap[k]?
inductive Ob where
 |box (cs:List SC)
 |ints (e:TypeId) (k:IntKind) (l:Db)
 |bools (e:TypeId) (l:List Bool)
 |rows (ver:Nat) (e ei:TypeId) (k:IntKind) (l:Dc)
 |bx (cs:List FC)
 |strs (e:TypeId) (l:List (List UInt8))
 |lst (ver:Nat) (e:TypeId) (d:FC)
 |frz (d:FC)
 |mp (l:Db)
 |qu (e:TypeId) (k:IntKind) (l:Db)
 |rowsH (ver:Nat) (e ei:TypeId) (k:IntKind) (l:Dc) (hs:List Nat)
 |tr (ver:Nat) (es:List TypeId) (d:FC)
 |yd (ver:Nat) (Y:YJ) (pre:Dc) (b:Bool)
 |trk (ver:Nat) (es:List TypeId) (d:FC) (n:Nat)
def Ob.isFz:Ob->Bool
 |.frz _=>true
 |_=>false
structure Shp where
 len:Nat
 ver:Nat
 rl:List Nat
def Ob.shp:Ob->Shp
 |.box cs=>⟨cs.length,0,[]⟩
 |.ints _ _ l=>⟨l.length,0,[]⟩
 |.bools _ l=>⟨l.length,0,[]⟩
 |.rows ver _ _ _ l=>⟨l.length,ver,l.map List.length⟩
 |.bx cs=>⟨cs.length,0,[]⟩
 |.strs _ l=>⟨l.length,0,[]⟩
 |.lst ver _ d=>⟨d.slen,ver,[]⟩
 |.frz d=>⟨d.slen,0,[]⟩
 |.mp _=>⟨0,0,[]⟩
 |.qu _ _ l=>⟨l.length,0,[]⟩
 |.rowsH ver _ _ _ l _=>⟨l.length,ver,l.map List.length⟩
 |.tr ver _ d=>⟨d.slen,ver,[]⟩
 |.yd ver _ _ _=>⟨0,ver,[]⟩
 |.trk ver _ d _=>⟨d.slen,ver,[]⟩
structure Img where
 hd:Value
 ins:List Value
def Img.blocks(m:Img):List Nat:=(ac m.hd).toList++m.ins.filterMap ac
/- A tree of own slices: a node is a tuple of its head value and its children. -/
def aK:Value->Value
 |.tuple arr=>arr.toList.headD undef
 |_=>undef
def bo:Value->List Value
 |.tuple arr=>arr.toList.tail
 |_=>[]
def bu(hd:Value)(ks:List Value):Value:=.tuple (hd::ks).toArray
def eE:Value->List Nat->Option Value
 |nd,[]=>some nd
 |nd,i::p=>match(bo nd)[i]? with
  |some u=>eE u p
  |none=>none
def hU:Nat->Value->List Value
 |0,_=>[]
 |n+1,nd=>aK nd::(bo nd).flatMap (hU n)
def aW(n:Nat)(nd:Value):List Nat:=(hU n nd).filterMap ac
def FC.dep:FC->Nat
 |.rows _ _=>1
 |.r3 _ _=>2
 |.r4 _ _=>3
 |.p3 _ _=>2
 |_=>0
def cX:FC->Nat->Option FC
 |.rows k l,i=>some (.ints k (l.getD i []))
 |.r3 k l,i=>some (.rows k (l.getD i []))
 |.r4 k l,i=>some (.r3 k (l.getD i []))
 |.p3 k l,i=>some (.rows k (dP l i))
 |_,_=>none
def br(w:World):List TypeId->Value->FC->Prop
 | [],_,_=>False
 | [e],nd,d=>nd=bu (aK nd) []/\∃k l,d=.ints k l/\w.ownsRow 0 e 1 (aK nd) l.length (l.map (.int k))
 |e::e2::es,nd,d=>nd=bu (aK nd) (bo nd)/\d.dep=es.length+1/\w.ownsRow 0 e d.wid (aK nd) d.len ((bo nd).map aK) /\
   ∀(i:Nat) (u:Value) (x:FC),(bo nd)[i]?=some u->cX d i=some x->br w (e2::es) u x
def ji(w:World)(n:Nat):List TypeId->Value->FC->Prop
 |e::e2::es,nd,d=>nd=bu (aK nd) (bo nd)/\d.dep=es.length+1/\(bo nd).length+n=d.cn /\
   (∃vs,w.ownsRow 0 e d.wid (aK nd) d.len vs/\∀(i:Nat) (u:Value),(bo nd)[i]?=some u->vs[n+i]?=some (aK u)) /\
   ∀(i:Nat) (u:Value) (x:FC),(bo nd)[i]?=some u->cX d (n+i)=some x->br w (e2::es) u x
 |_,_,_=>False
def dw(n:Nat)(nd:Value):Img:=⟨aK nd,nd::(hU n nd).tail⟩
inductive OSt where
 |absent
 |dead
 |live (s:Shp)
 |frz (d:FC)
structure Env where
 wF:World
 mu:Nat->Img
 st:Nat->OSt
def cA(hd:Value)(off n:Nat)(v:Value):Prop :=
 (hd=.slice none 0 0/\v=.slice none 0 0/\off=0/\n=0) \/
 ∃g len cap ao,hd=.slice (some ⟨g,0,none⟩) len cap/\v=.slice (some ao) n (cap-off)/\off<=cap/\n<=cap-off/\(off=0\/cap-off≠0->ao=⟨g,off,none⟩)
def OSt.on(s:OSt)(p:Shp->Prop)(q:FC->Prop:=fun _=>True):Prop :=
 match s with
 |.absent=>False
 |.dead=>True
 |.live x=>p x
 |.frz d=>q d
def bS(E:Env)(o:Nat)(v:Value)(p:Shp->Prop)(q:FC->Prop:=fun _=>True):Prop:=v.oneCell'=true/\(E.st o).on p q
def fO(wF:World)(v:Value)(d:FC):Prop:=(∃a n c,v=.slice a n c/\n<=c)/\bp wF v d
def cz(off n:Nat):FC->Option FC
 |.ints k l=>some (.ints k ((l.drop off).take n))
 |.bools l=>some (.bools ((l.drop off).take n))
 |.rows k l=>some (.rows k ((l.drop off).take n))
 |.r3 k l=>some (.r3 k ((l.drop off).take n))
 |.r4 k l=>some (.r4 k ((l.drop off).take n))
 |.p3 k l=>match off with
  |0=>some (.p3 k (l.take n))
  |_+1=>none
 |_=>none
def bJ(wF w:World):Prop:=∀p u,wF.cell? p=some u->w.cell? p=some u
def gj(P:Program)(wF:World)(F:FV)(v:Value):Prop :=
 ∃f caps fn,v=.func (.func f) #[] caps/\P.funcs[f]?=some fn/\fn.body.isSome=true/\fn.name≠"runtime.NumGoroutine" /\
  ∀(w:World) (us:List Value) (ds:List FC) (q:Prop) (c:SC),bJ wF w->F.at ds=some (q,c)->q->us.length=ds.length ->
   (∀(i:Nat) (d:FC),ds[i]?=some d->∃u,us[i]?=some u/\u.oneCell'=true/\bp w u d) ->
   Calls P f (us.toArray++caps) w fun e w'=>e=.returned (wj c)/\Below w.heap.size w w'/\w.drawn<=w'.drawn
def ai(E:Env):SC->Value->Prop
 |.any,_=>True
 |.und,v=>v=undef
 |.int k n,v=>v=.int k n
 |.bool b,v=>v=.bool b
 |.str l,v=>v=.string ⟨l.toArray⟩
 |.nil,v=>v=.slice none 0 0
 |.own o,v=>bS E o v (fun _=>v=(E.mu o).hd) fun d=>fO E.wF v d
 |.pre o n,v=>bS E o v (fun s=>n<=s.len/\cA (E.mu o).hd 0 n v) fun d=>∃d',cz 0 n d=some d'/\fO E.wF v d'
 |.sub o off n,v=>bS E o v (fun s=>off+n<=s.len/\cA (E.mu o).hd off n v) fun d=>∃d',cz off n d=some d'/\fO E.wF v d'
 |.ptr o i,v=>bS E o v fun s=>i<s.len/\∃b,ac (E.mu o).hd=some b/\v=.pointer (some ⟨b,i,none⟩)
 |.row o ver i,v=>bS E o v fun s=>ver<=s.ver/\(s.ver=ver->(E.mu o).ins[i]?=some v/\i<s.len)
 |.rptr o ver i j,v=>bS E o v fun s=>ver<=s.ver/\(s.ver=ver->i<s.len/\j<s.rl.getD i 0/\∃r b,(E.mu o).ins[i]?=some r/\ac r=some b/\v=.pointer (some ⟨b,j,none⟩))
 |.ro d,v=>(∃a n c,v=.slice a n c/\n<=c)/\bp E.wF v d
 |.rop d i,v=>∃b off fc u,d.elem i=some fc/\v=.pointer (some ⟨b,off,none⟩)/\E.wF.cell? ⟨b,off,none⟩=some u/\bp E.wF u fc
 |.emp,v=>∃a,v=.slice a 0 0
 |.bsl o n,v=>bS E o v fun s=>n=s.len/\∃b,ac (E.mu o).hd=some b/\v=.slice (some ⟨b,0,none⟩) n n
 |.nilq b,v=>∃a n c,v=.slice a n c/\a.isNone=b
 |.orig o j d,v=>((∃a n c,v=.slice a n c/\n<=c)/\bp E.wF v d)/\bS E o v fun s=>s.ver=0->(E.mu o).ins[j]?=some (.agg #[v])
 |.qptr o i,v=>bS E o v fun s=>i<s.len/\∃b off n c,(E.mu o).hd=.slice (some ⟨b,off,none⟩) n c/\v=.pointer (some ⟨b,off+i,none⟩)
 |.kid o ver p,v=>bS E o v fun s=>ver<=s.ver/\(s.ver=ver->∃nd u,(E.mu o).ins[0]?=some nd/\eE nd p=some u/\v=aK u)
 |.kptr o ver p j,v=>bS E o v fun s=>ver<=s.ver/\(s.ver=ver->∃nd u b n c,(E.mu o).ins[0]?=some nd/\eE nd p=some u/\aK u=.slice (some ⟨b,0,none⟩) n c/\(j<n\/j<(bo u).length)/\v=.pointer (some ⟨b,j,none⟩))
 |.fnc P F,v=>gj P E.wF F v
 |.rbf P F,v=>∃b off u,v=.pointer (some ⟨b,off,none⟩)/\E.wF.cell? ⟨b,off,none⟩=some u/\gj P E.wF F u
 |.pr a b,v=>v=.tuple #[.int .i64 a,.int .i64 b]
 |.pptr o i,v=>bS E o v fun _=>∃b,ac (E.mu o).hd=some b/\v=.pointer (some ⟨b,i*2,none⟩)
 |.rbb cs,v=>∃b off b2 off2,v=.pointer (some ⟨b,off,none⟩)/\E.wF.cell? ⟨b,off,none⟩=some (.pointer (some ⟨b2,off2,none⟩))/\∀(j:Nat) (fc:FC),cs[j]?=some fc->∃u,E.wF.cell? ⟨b2,off2+j,none⟩=some u/\bp E.wF u fc
 |.rob cs i,v=>∃b off,v=.pointer (some ⟨b,off,none⟩)/\∀(j:Nat) (fc:FC),cs[i+j]?=some fc->∃u,E.wF.cell? ⟨b,off+j,none⟩=some u/\bp E.wF u fc
def c9(E:Env)(cs:List SC)(arr:Array Value):Prop :=
 arr.size=cs.length/\∀(i:Nat) (c:SC),cs[i]?=some c->∃u,arr[i]?=some u/\u.oneCell'=true/\ai E c u
structure GrB (w w':World) (row:Option Nat):Prop where
 os:OsD w w'
 tape:w'.tape=w.tape
 output:w'.output=w.output
 size:w.heap.size<=w'.heap.size
 block:∀k,k<w.heap.size->some k≠row->w'.heap[k]?=w.heap[k]?
theorem fP(w:World)(o:Obj)(row:Option Nat):GrB w (w.alloc o) row :=
 let h:=World.grownBy_alloc w o row
 ⟨⟨h.os,AE _⟩,h.tape,h.output,h.size,h.block⟩
def qt(P:Program)(wF:World)(b:Nat)(F:SFV)(v:Value):Prop :=
 ∃f caps fn,v=.func (.func f) #[] caps/\P.funcs[f]?=some fn/\fn.body.isSome=true/\fn.name≠"runtime.NumGoroutine" /\
  ∀(w:World) (s x y:Int),bJ wF w->(∃t,w.heap[b]?=some (.cells #[.int .i64 s] t (0,0)))->F.q s x y ->
   Calls P f (#[.int .i64 x,.int .i64 y]++caps) w fun e w'=>e=.returned (.int .i64 (F.p s x y))/\OsD w w'/\w'.tape=w.tape/\w'.output=w.output/\w.heap.size<=w'.heap.size /\
    (∀k,k<w.heap.size->k≠b->w'.heap[k]?=w.heap[k]?)/\∃t,w'.heap[b]?=some (.cells #[.int .i64 (F.nx s x y)] t (0,0))
def wk(E:Env):SC ⊕ List SC->Value->Prop
 |.inl c,v=>v.oneCell'=true/\ai E c v
 |.inr cs,v=>∃arr,v=.agg arr/\c9 E cs arr
def aw(P:Program)(E:Env):SV->Value->Prop
 |.c x,v=>ai E x v
 |.agg l,v=>∃arr,v=.agg arr/\c9 E l arr
 |.fn f l,v=>∃arr,v=.func (.func f) #[] arr/\c9 E l arr
 |.fv F,v=>gj P E.wF F v
 |.fvs o F,v=>bS E o v fun _=>∃b,(E.mu o).hd=.pointer (some ⟨b,0,none⟩)/\qt P E.wF b F v
 |.tup l,v=>∃arr,v=.tuple arr/\arr.size=l.length/\∀(i:Nat) (c:SC ⊕ List SC),l[i]?=some c->∃u,arr[i]?=some u/\wk E c u
def lG(m:Img)(j:Nat)(d:FC)(u:Value):Prop :=
 match d with
 |.int k n=>u=.int k n
 |.bool b=>u=.bool b
 |.str l=>u=.string ⟨l.toArray⟩
 |_=>m.ins[j]?=some (.agg #[u])
def oF(l:List UInt8):Value:=.string ⟨l.toArray⟩
def mO(w:World)(v:Value)(xs:List Value):Prop :=
 (v=.slice none 0 0/\xs=[])\/∃g off cap,v=.slice (some ⟨g,off,none⟩) xs.length cap/\xs.length<=cap/\cap<=maxLen/\g<w.heap.size/\(∀j,j<cap->(w.cell? ⟨g,off+j,none⟩).isSome=true/\w.frozen? ⟨g,off+j,none⟩=false)/\∀(i:Nat) (u:Value),xs[i]?=some u->w.cell? ⟨g,off+i,none⟩=some u
def jN(w:World)(m:Img)(e ei:TypeId)(k:IntKind)(l:Dc)(hs:List Nat):Prop :=
 m.ins.length=l.length/\(∃vs,w.ownsRow 0 e 1 m.hd l.length vs/\∀(i:Nat) (v:Value),m.ins[i]?=some v->¬ i∈hs->vs[i]?=some v)/\∀(i:Nat) (v:Value) (r:Db),m.ins[i]?=some v->l[i]?=some r->(i∈hs->ac v=none)/\(¬ i∈hs->w.ownsRow 0 ei 1 v r.length (r.map (.int k)))
def aR(E:Env)(w:World)(m:Img):Ob->Prop
 |.bx cs=>∃b arr t,m.hd=.pointer (some ⟨b,0,none⟩)/\(∀u∈m.ins,ac u=none)/\w.heap[b]?=some (.cells arr t (0,0))/\arr.size=cs.length /\
   ∀(j:Nat) (d:FC),cs[j]?=some d->∃u,arr[j]?=some u/\u.oneCell'=true/\lG m j d u
 |.box cs=>∃b arr t,m.hd=.pointer (some ⟨b,0,none⟩)/\(∀u∈m.ins,ac u=none)/\w.heap[b]?=some (.cells arr t (0,0))/\c9 E cs arr
 |.ints e k l=>m.ins=[]/\w.ownsRow 0 e 1 m.hd l.length (l.map (.int k))
 |.bools e l=>m.ins=[]/\w.ownsRow 0 e 1 m.hd l.length (l.map .bool)
 |.strs e l=>m.ins=[]/\w.ownsRow 0 e 1 m.hd l.length (l.map oF)
 |.rows _ e ei k l=>w.ownsRow 0 e 1 m.hd l.length m.ins/\m.ins.length=l.length /\
   ∀(i:Nat) (v:Value) (r:Db),m.ins[i]?=some v->l[i]?=some r->w.ownsRow 0 ei 1 v r.length (r.map (.int k))
 |.lst _ e d=>m.ins=[]/\∃vs,w.ownsRow 0 e d.wid m.hd d.len vs/\∀(i:Nat) (u:Value),vs[i]?=some u->u.oneCell'=true/\∃fc,d.elem i=some fc/\bp E.wF u fc
 |.frz _=>m.blocks=[]
 |.mp l=>m.ins=[]/\∃b es ck,m.hd=.map (some b)/\w.heap[b]?=some (.map es ck)/\es.toList.map (fun e=>(e.key,e.val))=l.map fun n=>(.int .i64 n,.bool true)
 |.qu _ k l=>m.ins=[]/\mO w m.hd (l.map (.int k))
 |.rowsH _ e ei k l hs=>jN w m e ei k l hs
 |.tr _ es d=>∃nd,m=dw es.length nd/\br w es nd d
 |.trk _ es d n=>∃nd,m=dw es.length nd/\ji w n es nd d
 |.yd _ Y pre b=>m.hd=.func (.yield Y.l) #[] #[]/\bJ Y.wF E.wF/\Y.J pre b w m.blocks/\∀k∈m.blocks,k<w.heap.size
structure State where
 fr:List (Nat×SV)
 hp:List (Nat×Option Ob)
def lk{α:Type}:List (Nat×α)->Nat->Option α
 | [],_=>none
 |(k,v)::l,t=>match Nat.beq k t with
  |true=>some v
  |false=>lk l t
def State.F(σ:State)(t:Nat):Option SV:=lk σ.fr t
def State.H(σ:State)(o:Nat):Option (Option Ob):=lk σ.hp o
def dX:Ob->OSt
 |.frz d=>.frz d
 |ob=>.live ob.shp
def State.ost(σ:State)(o:Nat):OSt :=
 match σ.H o with
 |none=>.absent
 |some none=>.dead
 |some (some ob)=>dX ob
def State.env(σ:State)(wF:World)(mu:Nat->Img):Env:=⟨wF,mu,σ.ost⟩
structure Cx where
 P:Program
 N:Nat
 w0:World
 wF:World
 M:Nat->Prop
 pin:Nat->Option Img
def kG(n:Nat)(σ:State)(mu:Nat->Img)(ds:List Deferred)(w:World):Prop :=
 ∃rs:List Nat,ds=rs.map (fun r=>{ target:=.collected r,args:=#[] })/\rs.Nodup/\∀r∈rs,n<=r/\w.heap[r]?=some (.deferred (some []))/\∀o ob,σ.H o=some (some ob)->r ∉ (mu o).blocks
theorem kG.nil{n:Nat}{σ:State}{mu:Nat->Img}{w:World}:kG n σ mu [] w:=⟨[],rfl,.nil,fun r h=>by cases h⟩
theorem kG.sub{n:Nat}{σ σ':State}{mu mu':Nat->Img}{ds:List Deferred}{w:World}(h:kG n σ mu ds w)
  (hs:∀o ob,σ'.H o=some (some ob)->∃o' ob',σ.H o'=some (some ob')/\∀b∈(mu' o).blocks,b∈(mu o').blocks):kG n σ' mu' ds w:=by
 obtain⟨rs,h1,h2,h3⟩:=h;refine⟨rs,h1,h2,fun r hr=>?_⟩
 obtain⟨k1,k2,k3⟩:=h3 r hr;refine⟨k1,k2,fun o ob ho hb=>?_⟩
 obtain⟨o',ob',q1,q2⟩:=hs o ob ho;exact k3 o' ob' q1 (q2 r hb)
structure St (C:Cx) (σ:State) (mu:Nat->Img) (a:Act) (w:World):Prop where
 os:OsD C.w0 w
 tape:w.tape=C.w0.tape
 output:w.output=C.w0.output
 size:C.w0.heap.size<=w.heap.size
 block:∀k,k<C.w0.heap.size->¬ C.M k->w.heap[k]?=C.w0.heap[k]?
 cells:∀p u,C.wF.cell? p=some u->(∀o ob,σ.H o=some (some ob)->p.block ∉ (mu o).blocks)/\w.cell? p=some u
 sz:a.tmps.size=C.N
 df:kG C.w0.heap.size σ mu a.defers w
 fr:∀t sv,σ.F t=some sv->aw C.P (σ.env C.wF mu) sv (a.tmps.getD t undef)
 ob:∀o ob,σ.H o=some (some ob)->aR (σ.env C.wF mu) w (mu o) ob
 nd:∀o ob,σ.H o=some (some ob)->(mu o).blocks.Nodup/\∀b∈(mu o).blocks,C.M b\/C.w0.heap.size<=b
 sep:∀o o' ob ob',o≠o'->σ.H o=some (some ob)->σ.H o'=some (some ob')->∀b∈(mu o).blocks,b ∉ (mu o').blocks
 pins:∀o m,C.pin o=some m->match σ.ost o with|.absent=>False|.dead=>True|.frz _=>True|.live s=>(mu o).hd=m.hd/\(s.ver=0->mu o=m)
def Cx.fz(C:Cx)(wG:World):Cx:=⟨C.P,C.N,C.w0,wG,C.M,C.pin⟩
structure GrowF (C:Cx) (wG:World):Prop where
 kept:bJ C.wF wG
 new:∀p u,wG.cell? p=some u->C.wF.cell? p=some u\/C.w0.heap.size<=p.block\/C.M p.block
def ay(C:Cx)(σ:State)(a:Act)(w:World):Prop:=∃wG mu,GrowF C wG/\St (C.fz wG) σ mu a w
theorem GrowF.refl(C:Cx):GrowF C C.wF:=⟨fun _ _ h=>h,fun _ _ h=>.inl h⟩
theorem GrowF.trans{C:Cx}{wG wH:World}(h:GrowF C wG)(k:GrowF (C.fz wG) wH):GrowF C wH :=
 ⟨fun p u hp=>k.kept p u (h.kept p u hp),fun p u hp=>(k.new p u hp).elim (fun h2=>h.new p u h2) .inr⟩
theorem St.ex{C:Cx}{σ:State}{mu:Nat->Img}{a:Act}{w:World}(h:St C σ mu a w):ay C σ a w:=⟨C.wF,mu,.refl C,h⟩
theorem ay.up{C:Cx}{wG:World}(hg:GrowF C wG){σ:State}{a:Act}{w:World}(h:ay (C.fz wG) σ a w):ay C σ a w:=by
 obtain⟨wH,mu,h1,h2⟩:=h;exact⟨wH,mu,hg.trans h1,h2⟩
end Go.Sx
