/- SxA -/
import Derived.WalkKit
import Derived.Orders
import Derived.Deep.LoopGhost
import Derived.WalkSpells
import Derived.RangeFuncSeq
import Derived.OrdersIn
set_option linter.unusedSimpArgs false
set_option linter.unusedVariables false
namespace Go.Sx
abbrev V7:=List Int
abbrev V8:=List (List Int)
abbrev V9:=List (List (List Int))
abbrev WA:=List (List (List (List Int)))
abbrev WB:=List (List (List Int)×List (List Int))
open Go.RowKit
inductive FC where
 |int (k:IntKind) (n:Int)
 |bool (b:Bool)
 |str (l:List UInt8)
 |ints (k:IntKind) (l:V7)
 |bools (l:List Bool)
 |rows (k:IntKind) (l:V8)
 |r3 (k:IntKind) (l:V9)
 |r4 (k:IntKind) (l:WA)
 |p3 (k:IntKind) (l:WB)
def bw(w:World)(v:Value)(n:Nat)(R:Nat->Value->Prop):Prop :=
 ∃a c,v=.slice a n c/\n<=c/\(0<n->∃b off,a=some ⟨b,off,none⟩/\∀i,i<n->∃u,w.cell? ⟨b,off+i,none⟩=some u/\R i u)
def fK(w:World)(v:Value)(n:Nat)(R:Nat->Value->Prop):Prop :=
 ∃a c,v=.slice a n c/\n<=c/\(0<n->∃b off,a=some ⟨b,off,none⟩/\∀j,j<n*2->∃u,w.cell? ⟨b,off+j,none⟩=some u/\R j u)
def eg(l:WB)(j:Nat):V8:=if j % 2=0 then(l.getD (j / 2) ([],[])).1 else(l.getD (j / 2) ([],[])).2
def kq(l:WB)(j:Nat)(x:V8):WB :=
 l.set (j / 2) (if j % 2=0 then(x,(l.getD (j / 2) ([],[])).2)else((l.getD (j / 2) ([],[])).1,x))
def f4(w:World)(k:IntKind)(v:Value)(l:V7):Prop:=bw w v l.length fun i u=>u=.int k (l.getD i 0)
def Jg(w:World)(k:IntKind)(v:Value)(l:V8):Prop:=bw w v l.length fun i u=>f4 w k u (l.getD i [])
def Jh(w:World)(k:IntKind)(v:Value)(l:V9):Prop:=bw w v l.length fun i u=>Jg w k u (l.getD i [])
def bp(w:World)(v:Value):FC->Prop
 |.int k n=>v=.int k n
 |.bool b=>v=.bool b
 |.str l=>v=.string ⟨l.toArray⟩
 |.ints k l=>f4 w k v l
 |.bools l=>bw w v l.length fun i u=>u=.bool (l.getD i false)
 |.rows k l=>bw w v l.length fun i u=>f4 w k u (l.getD i [])
 |.r3 k l=>Jh w k v l
 |.r4 k l=>bw w v l.length fun i u=>Jh w k u (l.getD i [])
 |.p3 k l=>fK w v l.length fun j u=>Jg w k u (eg l j)
def FC.elem:FC->Nat->Option FC
 |.ints k l,i=>if i<l.length then some (.int k (l.getD i 0))else none
 |.bools l,i=>if i<l.length then some (.bool (l.getD i false))else none
 |.rows k l,i=>if i<l.length then some (.ints k (l.getD i []))else none
 |.r3 k l,i=>if i<l.length then some (.rows k (l.getD i []))else none
 |.r4 k l,i=>if i<l.length then some (.r3 k (l.getD i []))else none
 |.p3 k l,i=>if i<l.length*2 then some (.rows k (eg l i))else none
 |_,_=>none
def FC.len:FC->Nat
 |.ints _ l=>l.length
 |.bools l=>l.length
 |.rows _ l=>l.length
 |.r3 _ l=>l.length
 |.r4 _ l=>l.length
 |.p3 _ l=>l.length
 |.str l=>l.length
 |_=>0
def FC.wid:FC->Nat
 |.p3 _ _=>2
 |_=>1
def FC.slen:FC->Nat
 |.p3 _ _=>0
 |d=>d.len
def FC.cn(d:FC):Nat:=d.len*d.wid
inductive SC where
 |any
 |und
 |int (k:IntKind) (n:Int)
 |bool (b:Bool)
 |str (l:List UInt8)
 |nil
 |own (o:Nat)
 |pre (o n:Nat)
 |sub (o off n:Nat)
 |ptr (o i:Nat)
 |row (o ver i:Nat)
 |rptr (o ver i j:Nat)
 |ro (d:FC)
 |rop (d:FC) (i:Nat)
 |rob (cs:List FC) (i:Nat)
 |rbb (cs:List FC)
 |nilq (b:Bool)
 |emp
 |bsl (o n:Nat)
 |orig (o j:Nat) (d:FC)
 |qptr (o i:Nat)
 |kid (o ver:Nat) (p:List Nat)
 |kptr (o ver:Nat) (p:List Nat) (j:Nat)
inductive FV where
 |ib (q:Int->Prop) (p:Int->Bool)
 |lb (q:V7->Prop) (p:V7->Bool)
 |iii (q:Int->Int->Prop) (p:Int->Int->Int)
 |iib (q:Int->Int->Prop) (p:Int->Int->Bool)
 |lli (q:V7->V7->Prop) (p:V7->V7->Int)
 |llb (q:V7->V7->Prop) (p:V7->V7->Bool)
 |ii (q:Int->Prop) (p:Int->Int)
 |tb (q:V8->Prop) (p:V8->Bool)
structure SFV where
 q:Int->Int->Int->Prop
 p:Int->Int->Int->Int
 nx:Int->Int->Int->Int
def tL:List FC->Option Int
 | [.int .i64 x]=>some x
 |_=>none
def A5:List FC->Option V7
 | [.ints .i64 l]=>some l
 |_=>none
def A6:List FC->Option V8
 | [.rows .i64 l]=>some l
 |_=>none
def tM:List FC->Option (Int×Int)
 | [.int .i64 x,.int .i64 y]=>some (x,y)
 |_=>none
def tN:List FC->Option (V7×V7)
 | [.ints .i64 l,.ints .i64 m]=>some (l,m)
 |_=>none
def FV.at(F:FV)(ds:List FC):Option (Prop×SC) :=
 match F with
 |.ib q p=>match tL ds with
  |some x=>some (q x,.bool (p x))
  |none=>none
 |.ii q p=>match tL ds with
  |some x=>some (q x,.int .i64 (p x))
  |none=>none
 |.lb q p=>match A5 ds with
  |some x=>some (q x,.bool (p x))
  |none=>none
 |.tb q p=>match A6 ds with
  |some x=>some (q x,.bool (p x))
  |none=>none
 |.iii q p=>match tM ds with
  |some (x,y)=>some (q x y,.int .i64 (p x y))
  |none=>none
 |.iib q p=>match tM ds with
  |some (x,y)=>some (q x y,.bool (p x y))
  |none=>none
 |.lli q p=>match tN ds with
  |some (x,y)=>some (q x y,.int .i64 (p x y))
  |none=>none
 |.llb q p=>match tN ds with
  |some (x,y)=>some (q x y,.bool (p x y))
  |none=>none
def tO:SC->Value
 |.int k n=>.int k n
 |.bool b=>.bool b
 |_=>undef
inductive SV where
 |c (x:SC)
 |agg (l:List SC)
 |fn (f:FuncId) (l:List SC)
 |fv (F:FV)
 |fvs (o:Nat) (F:SFV)
 |tup (l:List (SC ⊕ List SC))
structure OsD (w w':World):Prop where
 os:w'.os=w.os
 drawn:w.drawn<=w'.drawn
theorem OsD.trans{w w' w'':World}(h:OsD w' w'')(k:OsD w w'):OsD w w'':=⟨h.os.trans k.os,Nat.le_trans k.drawn h.drawn⟩
theorem OsD.refl(w:World):OsD w w:=⟨rfl,Nat.le_refl _⟩
def ag:Value->Option Nat
 |.slice (some a) _ _=>some a.block
 |.pointer (some a)=>some a.block
 |.map (some b)=>some b
 |_=>none
structure YJ where
 P:Program
 l:Nat
 e:TypeId
 wF:World
 go:V8->V7->Bool
 ok:V8->V7->Prop
 J:V8->Bool->World->List Nat->Prop
 loc:∀(pre:V8) (b:Bool) (w w':World) (S:List Nat),J pre b w S->(∀k∈S,w'.heap[k]?=w.heap[k]?)->J pre b w' S
 spec:∀(pre:V8) (x:V7) (w:World) (S:List Nat) (v:Value),J pre true w S->ok pre x->S.Nodup->(∀k∈S,k<w.heap.size)->v.oneCell'=true ->
  w.ownsRow 0 e 1 v x.length (x.map (.int .i64))->(∀k∈S,ag v≠some k)->(∀p u,wF.cell? p=some u->w.cell? p=some u/\ag v≠some p.block) ->
  YieldAt Fence.wide 0 P l #[v] w fun r w'=>∃S',r=.returned (.bool (go pre x))/\J (pre++[x]) (go pre x) w' S'/\S'.Nodup/\(∀k∈S,k∈S')/\(∀k∈S',(k∈S\/w.heap.size<=k)/\k<w'.heap.size) /\
   w'.ownsRow 0 e 1 v x.length (x.map (.int .i64))/\OsD w w'/\w'.tape=w.tape/\w'.output=w.output/\w.heap.size<=w'.heap.size/\∀k,k<w.heap.size->k ∉ S->ag v≠some k->w'.heap[k]?=w.heap[k]?
inductive Ob where
 |box (cs:List SC)
 |ints (e:TypeId) (k:IntKind) (l:V7)
 |bools (e:TypeId) (l:List Bool)
 |rows (ver:Nat) (e ei:TypeId) (k:IntKind) (l:V8)
 |bx (cs:List FC)
 |strs (e:TypeId) (l:List (List UInt8))
 |lst (ver:Nat) (e:TypeId) (d:FC)
 |frz (d:FC)
 |mp (l:V7)
 |qu (e:TypeId) (k:IntKind) (l:V7)
 |rowsH (ver:Nat) (e ei:TypeId) (k:IntKind) (l:V8) (hs:List Nat)
 |tr (ver:Nat) (es:List TypeId) (d:FC)
 |yd (ver:Nat) (Y:YJ) (pre:V8) (b:Bool)
 |trk (ver:Nat) (es:List TypeId) (d:FC) (n:Nat)
def Ob.isFz:Ob->Bool
 |.frz _=>true
 |_=>false
structure Shp where
 len:Nat
 ver:Nat
 rl:List Nat
def Ob.shp:Ob->Shp
 |.box cs=>⟨cs.length,0,[]⟩
 |.ints _ _ l=>⟨l.length,0,[]⟩
 |.bools _ l=>⟨l.length,0,[]⟩
 |.rows ver _ _ _ l=>⟨l.length,ver,l.map List.length⟩
 |.bx cs=>⟨cs.length,0,[]⟩
 |.strs _ l=>⟨l.length,0,[]⟩
 |.lst ver _ d=>⟨d.slen,ver,[]⟩
 |.frz d=>⟨d.slen,0,[]⟩
 |.mp _=>⟨0,0,[]⟩
 |.qu _ _ l=>⟨l.length,0,[]⟩
 |.rowsH ver _ _ _ l _=>⟨l.length,ver,l.map List.length⟩
 |.tr ver _ d=>⟨d.slen,ver,[]⟩
 |.yd ver _ _ _=>⟨0,ver,[]⟩
 |.trk ver _ d _=>⟨d.slen,ver,[]⟩
structure Img where
 hd:Value
 ins:List Value
def Img.blocks(m:Img):List Nat:=(ag m.hd).toList++m.ins.filterMap ag
/- A tree of own slices: a node is a tuple of its head value and its children. -/
def aB:Value->Value
 |.tuple arr=>arr.toList.headD undef
 |_=>undef
def aU:Value->List Value
 |.tuple arr=>arr.toList.tail
 |_=>[]
def bm(hd:Value)(ks:List Value):Value:=.tuple (hd::ks).toArray
def d6:Value->List Nat->Option Value
 |nd,[]=>some nd
 |nd,i::p=>match(aU nd)[i]? with
  |some u=>d6 u p
  |none=>none
def gv:Nat->Value->List Value
 |0,_=>[]
 |n+1,nd=>aB nd::(aU nd).flatMap (gv n)
def aR(n:Nat)(nd:Value):List Nat:=(gv n nd).filterMap ag
def FC.dep:FC->Nat
 |.rows _ _=>1
 |.r3 _ _=>2
 |.r4 _ _=>3
 |.p3 _ _=>2
 |_=>0
def cE:FC->Nat->Option FC
 |.rows k l,i=>some (.ints k (l.getD i []))
 |.r3 k l,i=>some (.rows k (l.getD i []))
 |.r4 k l,i=>some (.r3 k (l.getD i []))
 |.p3 k l,i=>some (.rows k (eg l i))
 |_,_=>none
def bh(w:World):List TypeId->Value->FC->Prop
 | [],_,_=>False
 | [e],nd,d=>nd=bm (aB nd) []/\∃k l,d=.ints k l/\w.ownsRow 0 e 1 (aB nd) l.length (l.map (.int k))
 |e::e2::es,nd,d=>nd=bm (aB nd) (aU nd)/\d.dep=es.length+1/\w.ownsRow 0 e d.wid (aB nd) d.len ((aU nd).map aB) /\
   ∀(i:Nat) (u:Value) (x:FC),(aU nd)[i]?=some u->cE d i=some x->bh w (e2::es) u x
def ir(w:World)(n:Nat):List TypeId->Value->FC->Prop
 |e::e2::es,nd,d=>nd=bm (aB nd) (aU nd)/\d.dep=es.length+1/\(aU nd).length+n=d.cn /\
   (∃vs,w.ownsRow 0 e d.wid (aB nd) d.len vs/\∀(i:Nat) (u:Value),(aU nd)[i]?=some u->vs[n+i]?=some (aB u)) /\
   ∀(i:Nat) (u:Value) (x:FC),(aU nd)[i]?=some u->cE d (n+i)=some x->bh w (e2::es) u x
 |_,_,_=>False
def cW(n:Nat)(nd:Value):Img:=⟨aB nd,nd::(gv n nd).tail⟩
inductive OSt where
 |absent
 |dead
 |live (s:Shp)
 |frz (d:FC)
structure Env where
 wF:World
 mu:Nat->Img
 st:Nat->OSt
def b7(hd:Value)(off n:Nat)(v:Value):Prop :=
 (hd=.slice none 0 0/\v=.slice none 0 0/\off=0/\n=0) \/
 ∃g len cap ao,hd=.slice (some ⟨g,0,none⟩) len cap/\v=.slice (some ao) n (cap-off)/\off<=cap/\n<=cap-off/\(off=0\/cap-off≠0->ao=⟨g,off,none⟩)
def OSt.on(s:OSt)(p:Shp->Prop)(q:FC->Prop:=fun _=>True):Prop :=
 match s with
 |.absent=>False
 |.dead=>True
 |.live x=>p x
 |.frz d=>q d
def bK(E:Env)(o:Nat)(v:Value)(p:Shp->Prop)(q:FC->Prop:=fun _=>True):Prop:=v.oneCell'=true/\(E.st o).on p q
def ft(wF:World)(v:Value)(d:FC):Prop:=(∃a n c,v=.slice a n c/\n<=c)/\bp wF v d
def bZ(off n:Nat):FC->Option FC
 |.ints k l=>some (.ints k ((l.drop off).take n))
 |.bools l=>some (.bools ((l.drop off).take n))
 |.rows k l=>some (.rows k ((l.drop off).take n))
 |.r3 k l=>some (.r3 k ((l.drop off).take n))
 |.r4 k l=>some (.r4 k ((l.drop off).take n))
 |.p3 k l=>match off with
  |0=>some (.p3 k (l.take n))
  |_+1=>none
 |_=>none
def aj(E:Env):SC->Value->Prop
 |.any,_=>True
 |.und,v=>v=undef
 |.int k n,v=>v=.int k n
 |.bool b,v=>v=.bool b
 |.str l,v=>v=.string ⟨l.toArray⟩
 |.nil,v=>v=.slice none 0 0
 |.own o,v=>bK E o v (fun _=>v=(E.mu o).hd) fun d=>ft E.wF v d
 |.pre o n,v=>bK E o v (fun s=>n<=s.len/\b7 (E.mu o).hd 0 n v) fun d=>∃d',bZ 0 n d=some d'/\ft E.wF v d'
 |.sub o off n,v=>bK E o v (fun s=>off+n<=s.len/\b7 (E.mu o).hd off n v) fun d=>∃d',bZ off n d=some d'/\ft E.wF v d'
 |.ptr o i,v=>bK E o v fun s=>i<s.len/\∃b,ag (E.mu o).hd=some b/\v=.pointer (some ⟨b,i,none⟩)
 |.row o ver i,v=>bK E o v fun s=>ver<=s.ver/\(s.ver=ver->(E.mu o).ins[i]?=some v/\i<s.len)
 |.rptr o ver i j,v=>bK E o v fun s=>ver<=s.ver/\(s.ver=ver->i<s.len/\j<s.rl.getD i 0/\∃r b,(E.mu o).ins[i]?=some r/\ag r=some b/\v=.pointer (some ⟨b,j,none⟩))
 |.ro d,v=>(∃a n c,v=.slice a n c/\n<=c)/\bp E.wF v d
 |.rop d i,v=>∃b off fc u,d.elem i=some fc/\v=.pointer (some ⟨b,off,none⟩)/\E.wF.cell? ⟨b,off,none⟩=some u/\bp E.wF u fc
 |.emp,v=>∃a,v=.slice a 0 0
 |.bsl o n,v=>bK E o v fun s=>n=s.len/\∃b,ag (E.mu o).hd=some b/\v=.slice (some ⟨b,0,none⟩) n n
 |.nilq b,v=>∃a n c,v=.slice a n c/\a.isNone=b
 |.orig o j d,v=>((∃a n c,v=.slice a n c/\n<=c)/\bp E.wF v d)/\bK E o v fun s=>s.ver=0->(E.mu o).ins[j]?=some (.agg #[v])
 |.qptr o i,v=>bK E o v fun s=>i<s.len/\∃b off n c,(E.mu o).hd=.slice (some ⟨b,off,none⟩) n c/\v=.pointer (some ⟨b,off+i,none⟩)
 |.kid o ver p,v=>bK E o v fun s=>ver<=s.ver/\(s.ver=ver->∃nd u,(E.mu o).ins[0]?=some nd/\d6 nd p=some u/\v=aB u)
 |.kptr o ver p j,v=>bK E o v fun s=>ver<=s.ver/\(s.ver=ver->∃nd u b n c,(E.mu o).ins[0]?=some nd/\d6 nd p=some u/\aB u=.slice (some ⟨b,0,none⟩) n c/\(j<n\/j<(aU u).length)/\v=.pointer (some ⟨b,j,none⟩))
 |.rbb cs,v=>∃b off b2 off2,v=.pointer (some ⟨b,off,none⟩)/\E.wF.cell? ⟨b,off,none⟩=some (.pointer (some ⟨b2,off2,none⟩))/\∀(j:Nat) (fc:FC),cs[j]?=some fc->∃u,E.wF.cell? ⟨b2,off2+j,none⟩=some u/\bp E.wF u fc
 |.rob cs i,v=>∃b off,v=.pointer (some ⟨b,off,none⟩)/\∀(j:Nat) (fc:FC),cs[i+j]?=some fc->∃u,E.wF.cell? ⟨b,off+j,none⟩=some u/\bp E.wF u fc
def cQ(E:Env)(cs:List SC)(arr:Array Value):Prop :=
 arr.size=cs.length/\∀(i:Nat) (c:SC),cs[i]?=some c->∃u,arr[i]?=some u/\u.oneCell'=true/\aj E c u
structure GrB (w w':World) (row:Option Nat):Prop where
 os:OsD w w'
 tape:w'.tape=w.tape
 output:w'.output=w.output
 size:w.heap.size<=w'.heap.size
 block:∀k,k<w.heap.size->some k≠row->w'.heap[k]?=w.heap[k]?
theorem fw(w:World)(o:Obj)(row:Option Nat):GrB w (w.alloc o) row :=
 let h:=World.grownBy_alloc w o row
 ⟨⟨h.os,Nat.le_refl _⟩,h.tape,h.output,h.size,h.block⟩
def bC(wF w:World):Prop:=∀p u,wF.cell? p=some u->w.cell? p=some u
def lM(P:Program)(wF:World)(F:FV)(v:Value):Prop :=
 ∃f caps fn,v=.func (.func f) #[] caps/\P.funcs[f]?=some fn/\fn.body.isSome=true/\fn.name≠"runtime.NumGoroutine" /\
  ∀(w:World) (us:List Value) (ds:List FC) (q:Prop) (c:SC),bC wF w->F.at ds=some (q,c)->q->us.length=ds.length ->
   (∀(i:Nat) (d:FC),ds[i]?=some d->∃u,us[i]?=some u/\u.oneCell'=true/\bp w u d) ->
   Calls P f (us.toArray++caps) w fun e w'=>e=.returned (tO c)/\Below w.heap.size w w'/\w.drawn<=w'.drawn
def o6(P:Program)(wF:World)(b:Nat)(F:SFV)(v:Value):Prop :=
 ∃f caps fn,v=.func (.func f) #[] caps/\P.funcs[f]?=some fn/\fn.body.isSome=true/\fn.name≠"runtime.NumGoroutine" /\
  ∀(w:World) (s x y:Int),bC wF w->(∃t,w.heap[b]?=some (.cells #[.int .i64 s] t (0,0)))->F.q s x y ->
   Calls P f (#[.int .i64 x,.int .i64 y]++caps) w fun e w'=>e=.returned (.int .i64 (F.p s x y))/\OsD w w'/\w'.tape=w.tape/\w'.output=w.output/\w.heap.size<=w'.heap.size /\
    (∀k,k<w.heap.size->k≠b->w'.heap[k]?=w.heap[k]?)/\∃t,w'.heap[b]?=some (.cells #[.int .i64 (F.nx s x y)] t (0,0))
def tP(E:Env):SC ⊕ List SC->Value->Prop
 |.inl c,v=>v.oneCell'=true/\aj E c v
 |.inr cs,v=>∃arr,v=.agg arr/\cQ E cs arr
def av(P:Program)(E:Env):SV->Value->Prop
 |.c x,v=>aj E x v
 |.agg l,v=>∃arr,v=.agg arr/\cQ E l arr
 |.fn f l,v=>∃arr,v=.func (.func f) #[] arr/\cQ E l arr
 |.fv F,v=>lM P E.wF F v
 |.fvs o F,v=>bK E o v fun _=>∃b,(E.mu o).hd=.pointer (some ⟨b,0,none⟩)/\o6 P E.wF b F v
 |.tup l,v=>∃arr,v=.tuple arr/\arr.size=l.length/\∀(i:Nat) (c:SC ⊕ List SC),l[i]?=some c->∃u,arr[i]?=some u/\tP E c u
def lN(m:Img)(j:Nat)(d:FC)(u:Value):Prop :=
 match d with
 |.int k n=>u=.int k n
 |.bool b=>u=.bool b
 |.str l=>u=.string ⟨l.toArray⟩
 |_=>m.ins[j]?=some (.agg #[u])
def nv(l:List UInt8):Value:=.string ⟨l.toArray⟩
def lO(w:World)(v:Value)(xs:List Value):Prop :=
 (v=.slice none 0 0/\xs=[])\/∃g off cap,v=.slice (some ⟨g,off,none⟩) xs.length cap/\xs.length<=cap/\cap<=maxLen/\g<w.heap.size /\
  (∀j,j<cap->(w.cell? ⟨g,off+j,none⟩).isSome=true/\w.frozen? ⟨g,off+j,none⟩=false)/\∀(i:Nat) (u:Value),xs[i]?=some u->w.cell? ⟨g,off+i,none⟩=some u
def i6(w:World)(m:Img)(e ei:TypeId)(k:IntKind)(l:V8)(hs:List Nat):Prop :=
 m.ins.length=l.length/\(∃vs,w.ownsRow 0 e 1 m.hd l.length vs/\∀(i:Nat) (v:Value),m.ins[i]?=some v->¬ i∈hs->vs[i]?=some v) /\
  ∀(i:Nat) (v:Value) (r:V7),m.ins[i]?=some v->l[i]?=some r->(i∈hs->ag v=none)/\(¬ i∈hs->w.ownsRow 0 ei 1 v r.length (r.map (.int k)))
def aS(E:Env)(w:World)(m:Img):Ob->Prop
 |.bx cs=>∃b arr t,m.hd=.pointer (some ⟨b,0,none⟩)/\(∀u∈m.ins,ag u=none)/\w.heap[b]?=some (.cells arr t (0,0))/\arr.size=cs.length /\
   ∀(j:Nat) (d:FC),cs[j]?=some d->∃u,arr[j]?=some u/\u.oneCell'=true/\lN m j d u
 |.box cs=>∃b arr t,m.hd=.pointer (some ⟨b,0,none⟩)/\(∀u∈m.ins,ag u=none)/\w.heap[b]?=some (.cells arr t (0,0))/\cQ E cs arr
 |.ints e k l=>m.ins=[]/\w.ownsRow 0 e 1 m.hd l.length (l.map (.int k))
 |.bools e l=>m.ins=[]/\w.ownsRow 0 e 1 m.hd l.length (l.map .bool)
 |.strs e l=>m.ins=[]/\w.ownsRow 0 e 1 m.hd l.length (l.map nv)
 |.rows _ e ei k l=>w.ownsRow 0 e 1 m.hd l.length m.ins/\m.ins.length=l.length /\
   ∀(i:Nat) (v:Value) (r:V7),m.ins[i]?=some v->l[i]?=some r->w.ownsRow 0 ei 1 v r.length (r.map (.int k))
 |.lst _ e d=>m.ins=[]/\∃vs,w.ownsRow 0 e d.wid m.hd d.len vs/\∀(i:Nat) (u:Value),vs[i]?=some u->u.oneCell'=true/\∃fc,d.elem i=some fc/\bp E.wF u fc
 |.frz _=>m.blocks=[]
 |.mp l=>m.ins=[]/\∃b es ck,m.hd=.map (some b)/\w.heap[b]?=some (.map es ck)/\es.toList.map (fun e=>(e.key,e.val))=l.map fun n=>(.int .i64 n,.bool true)
 |.qu _ k l=>m.ins=[]/\lO w m.hd (l.map (.int k))
 |.rowsH _ e ei k l hs=>i6 w m e ei k l hs
 |.tr _ es d=>∃nd,m=cW es.length nd/\bh w es nd d
 |.trk _ es d n=>∃nd,m=cW es.length nd/\ir w n es nd d
 |.yd _ Y pre b=>m.hd=.func (.yield Y.l) #[] #[]/\bC Y.wF E.wF/\Y.J pre b w m.blocks/\∀k∈m.blocks,k<w.heap.size
structure State where
 fr:List (Nat×SV)
 hp:List (Nat×Option Ob)
def lk{α:Type}:List (Nat×α)->Nat->Option α
 | [],_=>none
 |(k,v)::l,t=>match Nat.beq k t with
  |true=>some v
  |false=>lk l t
def State.F(σ:State)(t:Nat):Option SV:=lk σ.fr t
def State.H(σ:State)(o:Nat):Option (Option Ob):=lk σ.hp o
def dJ:Ob->OSt
 |.frz d=>.frz d
 |ob=>.live ob.shp
def State.ost(σ:State)(o:Nat):OSt :=
 match σ.H o with
 |none=>.absent
 |some none=>.dead
 |some (some ob)=>dJ ob
def State.env(σ:State)(wF:World)(mu:Nat->Img):Env:=⟨wF,mu,σ.ost⟩
structure Cx where
 P:Program
 N:Nat
 w0:World
 wF:World
 M:Nat->Prop
 pin:Nat->Option Img
def jE(n:Nat)(σ:State)(mu:Nat->Img)(ds:List Deferred)(w:World):Prop :=
 ∃rs:List Nat,ds=rs.map (fun r=>{ target:=.collected r,args:=#[] })/\rs.Nodup/\∀r∈rs,n<=r/\w.heap[r]?=some (.deferred (some []))/\∀o ob,σ.H o=some (some ob)->r ∉ (mu o).blocks
theorem jE.nil{n:Nat}{σ:State}{mu:Nat->Img}{w:World}:jE n σ mu [] w:=⟨[],rfl,.nil,fun r h=>by cases h⟩
theorem jE.sub{n:Nat}{σ σ':State}{mu mu':Nat->Img}{ds:List Deferred}{w:World}(h:jE n σ mu ds w)
  (hs:∀o ob,σ'.H o=some (some ob)->∃o' ob',σ.H o'=some (some ob')/\∀b∈(mu' o).blocks,b∈(mu o').blocks):jE n σ' mu' ds w:=by
 obtain⟨rs,h1,h2,h3⟩:=h;refine⟨rs,h1,h2,fun r hr=>?_⟩
 obtain⟨k1,k2,k3⟩:=h3 r hr;refine⟨k1,k2,fun o ob ho hb=>?_⟩
 obtain⟨o',ob',q1,q2⟩:=hs o ob ho;exact k3 o' ob' q1 (q2 r hb)
structure St (C:Cx) (σ:State) (mu:Nat->Img) (a:Act) (w:World):Prop where
 os:OsD C.w0 w
 tape:w.tape=C.w0.tape
 output:w.output=C.w0.output
 size:C.w0.heap.size<=w.heap.size
 block:∀k,k<C.w0.heap.size->¬ C.M k->w.heap[k]?=C.w0.heap[k]?
 cells:∀p u,C.wF.cell? p=some u->(∀o ob,σ.H o=some (some ob)->p.block ∉ (mu o).blocks)/\w.cell? p=some u
 sz:a.tmps.size=C.N
 df:jE C.w0.heap.size σ mu a.defers w
 fr:∀t sv,σ.F t=some sv->av C.P (σ.env C.wF mu) sv (a.tmps.getD t undef)
 ob:∀o ob,σ.H o=some (some ob)->aS (σ.env C.wF mu) w (mu o) ob
 nd:∀o ob,σ.H o=some (some ob)->(mu o).blocks.Nodup/\∀b∈(mu o).blocks,C.M b\/C.w0.heap.size<=b
 sep:∀o o' ob ob',o≠o'->σ.H o=some (some ob)->σ.H o'=some (some ob')->∀b∈(mu o).blocks,b ∉ (mu o').blocks
 pins:∀o m,C.pin o=some m->match σ.ost o with|.absent=>False|.dead=>True|.frz _=>True|.live s=>(mu o).hd=m.hd/\(s.ver=0->mu o=m)
def Cx.fz(C:Cx)(wG:World):Cx:=⟨C.P,C.N,C.w0,wG,C.M,C.pin⟩
structure GrowF (C:Cx) (wG:World):Prop where
 kept:bC C.wF wG
 new:∀p u,wG.cell? p=some u->C.wF.cell? p=some u\/C.w0.heap.size<=p.block\/C.M p.block
def ax(C:Cx)(σ:State)(a:Act)(w:World):Prop:=∃wG mu,GrowF C wG/\St (C.fz wG) σ mu a w
theorem GrowF.refl(C:Cx):GrowF C C.wF:=⟨fun _ _ h=>h,fun _ _ h=>.inl h⟩
theorem GrowF.trans{C:Cx}{wG wH:World}(h:GrowF C wG)(k:GrowF (C.fz wG) wH):GrowF C wH :=
 ⟨fun p u hp=>k.kept p u (h.kept p u hp),fun p u hp=>(k.new p u hp).elim (fun h2=>h.new p u h2) .inr⟩
theorem St.ex{C:Cx}{σ:State}{mu:Nat->Img}{a:Act}{w:World}(h:St C σ mu a w):ax C σ a w:=⟨C.wF,mu,.refl C,h⟩
theorem ax.up{C:Cx}{wG:World}(hg:GrowF C wG){σ:State}{a:Act}{w:World}(h:ax (C.fz wG) σ a w):ax C σ a w:=by
 obtain⟨wH,mu,h1,h2⟩:=h;exact⟨wH,mu,hg.trans h1,h2⟩
end Go.Sx
