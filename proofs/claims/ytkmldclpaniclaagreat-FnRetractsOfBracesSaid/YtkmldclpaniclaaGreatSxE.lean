/- SxE -/
import Derived.Test.YtkmldclpaniclaaGreatSxC
set_option linter.unusedSimpArgs false
set_option linter.unusedVariables false
set_option linter.defProp false
section
namespace Go.Sx
open Go.RowKit
set_option linter.unusedSimpArgs false
def State.app(σ:State)(dst:Option Nat)(e:Eff):State :=
 ⟨match dst with
  |some d=>(d,e.val)::σ.fr
  |none=>σ.fr,e.hp++σ.hp⟩
theorem bt{α:Type}(k:Nat)(v:α)(l:List (Nat×α))(t:Nat):lk ((k,v)::l) t=if k=t then some v else lk l t:=by
 simp only[lk];cases h:Nat.beq k t with
 |true=>have:=AX h;simp[this]
 |false=>have:=Bn h;simp[this]
theorem YC(a:Act)(dst:Option Nat)(v:Value)(t:Nat) :
  (a.put dst v).tmps.getD t undef=if dst=some t/\t<a.tmps.size then v else a.tmps.getD t undef:=by
 cases dst with
 |none=>simp[Act.put]
 |some d =>
  simp only[Act.put,AC];by_cases h:d=t
  ·subst h
   by_cases hs:d<a.tmps.size<;>simp[Array.getD,hs]
  ·simp[h,BM,Bo h]
theorem wT(a:Act)(dst:Option Nat)(v:Value):(a.put dst v).tmps.size=a.tmps.size:=by cases dst<;>simp[Act.put]
theorem wU(a:Act)(dst:Option Nat)(v:Value):(a.put dst v).defers=a.defers:=by cases dst<;>simp[Act.put]
section
variable {C:Cx} {σ:State} {mu:Nat->Img} {a:Act} {w:World}
theorem lR{dst:Option Nat}{e:Eff}{t:Nat}:(σ.app dst e).F t=if dst=some t then some e.val else σ.F t:=by
 cases dst with
 |none=>simp[State.app,State.F]
 |some d=>simp[State.app,State.F,bt]
theorem wV(h:St C σ mu a w){dst:Option Nat}(hd:∀d,dst=some d->d<C.N){e:Eff}{v:Value}{E:Env}(χ:aw C.P E e.val v) :
  ∀t sv,(σ.app dst e).F t=some sv->(σ.F t=some sv/\(a.put dst v).tmps.getD t undef=a.tmps.getD t undef)\/aw C.P E sv ((a.put dst v).tmps.getD t undef):=by
 intro t sv ht
 rw[lR]at ht;rw[YC];by_cases hdt:dst=some t
 ·have ψ:=hd t hdt
  rw[AA hdt]at ht;rw[AA ⟨hdt,by rw[h.sz];exact ψ⟩]
  cases ht;exact .inr χ
 ·rw[AB hdt]at ht
  rw[AB (fun hc=>hdt hc.1)]
  exact .inl ⟨ht,rfl⟩
theorem St.put_pure(h:St C σ mu a w){dst:Option Nat}(hd:∀d,dst=some d->d<C.N){e:Eff}(he:e.hp=[]){v:Value}
  (χ:aw C.P (σ.env C.wF mu) e.val v):St C (σ.app dst e) mu (a.put dst v) w:=by
 have hH:∀o,(σ.app dst e).H o=σ.H o:=fun o=>by simp[State.app,State.H,he]
 have hst:(σ.app dst e).ost=σ.ost:=funext fun o=>by simp[State.ost,hH]
 have henv:(σ.app dst e).env C.wF mu=σ.env C.wF mu:=by simp[State.env,hst]
 refine h.upd (fun _=>False) (.refl _) rfl rfl (AE _) (fun _ hs=>hs.elim) (fun _ _ _=>rfl) (fun o=>by rw[hst];exact dL.refl _ _) (fun o ob ho=>?_)
  (by rw[wT];exact h.sz) (wU _ _ _) ?_
 ·rw[hH]at ho;exact .inl ⟨ho,rfl,fun _ _ hs=>hs⟩
 ·rw[henv];exact wV h hd χ
theorem im{α β:Type}{f:α->Option β}:∀{l:List α} {r:List β},eG f l=some r->r.length=l.length/\∀(i:Nat) (y:β),r[i]?=some y->∃x,l[i]?=some x/\f x=some y
 | [],r,h=>by simp[eG]at h;subst h;simp
 |x::l,r,h=>by
  simp only[eG]at h;split at h
  ·rename_i y hy
   split at h
   ·rename_i ys hys
    simp at h;subst h
    obtain⟨h1,h2⟩:=im hys;refine⟨by simp[h1],fun i z hz=>?_⟩
    cases i with
    |zero=>simp at hz;subst hz;exact⟨x,by simp,hy⟩
    |succ i=>simp at hz;obtain⟨x',h3,h4⟩:=h2 i z hz;exact⟨x',by simpa using h3,h4⟩
   ·cases h
  ·cases h
theorem Hw{E:Env}{v:Value}{c:SC}(h:oI v=some c):ai E c v/\v.oneCell'=true/\v.cells=#[v]/\c.plain=true:=by
 unfold oI at h;split at h<;>cases h<;>simp[ai,Value.oneCell',Value.cells,SC.plain]
theorem iU{α:Type}{x:Operand}{k:SV->Rd α}{r:α}(hr:(fC x k).run σ=some r)(h:St C σ mu a w) :
  ∃sv,(k sv).run σ=some r/\aw C.P (σ.env C.wF mu) sv (a.eval x):=by
 cases x with
 |tmp t =>
  simp only[fC,Rd.run]at hr;split at hr
  ·rename_i sv hsv;exact⟨sv,hr,h.fr t sv hsv⟩
  ·cases hr
 |const v =>
  have key:∀c,oI v=some c->(k (.c c)).run σ=some r->∃sv,(k sv).run σ=some r/\aw C.P (σ.env C.wF mu) sv (a.eval (.const v)) :=
   fun c hc hk=>⟨_,hk,(Hw hc).1⟩
  cases v with
  |agg cs =>
   simp only[fC]at hr;split at hr
   ·rename_i l hl
    obtain⟨h1,h2⟩:=im hl;refine⟨_,hr,cs,rfl,by simpa using h1.symm,fun i c hc=>?_⟩
    obtain⟨x,h3,h4⟩:=h2 i c hc;have:=Hw (E:=σ.env C.wF mu) h4
    exact⟨x,by simpa using h3,this.2.1,this.1⟩
   ·simp[Rd.run]at hr
  |nilFunc=>exact⟨.c .any,hr,trivial⟩
  |_ =>
   simp only[fC]at hr;split at hr
   ·rename_i c hc;exact key c hc hr
   ·simp[Rd.run]at hr
 |global g=>simp[fC,Rd.run]at hr
 |func f=>exact⟨_,hr,#[],rfl,by simp[c9]⟩
theorem wW{o:Nat}{ob:Ob}{m m':Img}(h:σ.H o=some (some ob)):dL (σ.ost o) .dead m m':=by
 simp only[State.ost,h];cases ob<;>trivial
theorem mV{α:Type}{ob:Ob}{k:Rd α}{r:α}(hr:(kI ob k).run σ=some r):ob.isFz=false/\k.run σ=some r:=by
 unfold kI at hr;split at hr
 ·simp[Rd.run]at hr
 ·exact⟨by assumption,hr⟩
theorem mW{ob:Ob}(hf:ob.isFz=false:=by first|rfl|assumption):dX ob=.live ob.shp:=by cases ob<;>first|rfl|cases hf
theorem fD{o:Nat}{d:FC}(h:σ.H o=some (some (.frz d))):σ.ost o=.frz d:=by simp[State.ost,h,dX]
theorem YD{α:Type}{c:SC}{k:SC->Rd α}{r:α}(hr:(Gq c k).run σ=some r){v:Value}(hv:ai (σ.env C.wF mu) c v) :
  ∃c',(k c').run σ=some r/\ai (σ.env C.wF mu) c' v:=by
 have two:∀{o:Nat} {K:Ob->Rd α},(Rd.h o K).run σ=some r->∃ob,σ.H o=some (some ob)/\(K ob).run σ=some r:=fun {o K} hr=>by
  simp only[Rd.run]at hr;split at hr
  ·rename_i ob hob;exact⟨ob,hob,hr⟩
  ·cases hr
  ·cases hr
 unfold Gq at hr;split at hr
 ·obtain⟨ob,ho,hr⟩:=two hr
  split at hr
  ·refine⟨_,hr,?_⟩
   have h2:=hv.2
   have e:(σ.env C.wF mu).st _=.frz _:=fD ho
   rw[e]at h2;exact h2
  ·exact⟨_,hr,hv⟩
 ·obtain⟨ob,ho,hr⟩:=two hr
  split at hr
  ·have h2:=hv.2
   have e:(σ.env C.wF mu).st _=.frz _:=fD ho
   rw[e]at h2;obtain⟨d',h3,h4⟩:=h2;rw[h3]at hr;exact⟨_,hr,h4⟩
  ·exact⟨_,hr,hv⟩
 ·obtain⟨ob,ho,hr⟩:=two hr
  split at hr
  ·have h2:=hv.2
   have e:(σ.env C.wF mu).st _=.frz _:=fD ho
   rw[e]at h2;obtain⟨d',h3,h4⟩:=h2;rw[h3]at hr;exact⟨_,hr,h4⟩
  ·exact⟨_,hr,hv⟩
 ·exact⟨_,hr,hv⟩
theorem cZ{α:Type}{x:Operand}{k:SC->Rd α}{r:α}(hr:(cR x k).run σ=some r)(h:St C σ mu a w) :
  ∃c,(k c).run σ=some r/\ai (σ.env C.wF mu) c (a.eval x):=by
 obtain⟨sv,h1,h2⟩:=iU hr h;cases sv with
 |c c=>exact YD h1 h2
 |_=>simp[Rd.run]at h1
theorem aZ{α:Type}{o:Nat}{k:Ob->Rd α}{r:α}(hr:(Rd.h o k).run σ=some r):∃ob,σ.H o=some (some ob)/\(k ob).run σ=some r:=by
 simp only[Rd.run]at hr;split at hr
 ·rename_i ob hob;exact⟨ob,hob,hr⟩
 ·cases hr
 ·cases hr
theorem b8{α:Type}{o:Nat}{k:Rd α}{r:α}(hr:(Rd.abs o k).run σ=some r):σ.H o=none/\k.run σ=some r:=by
 simp only[Rd.run]at hr;split at hr
 ·rename_i hob;exact⟨hob,hr⟩
 ·cases hr
theorem cr{o:Nat}{ob:Ob}(h:σ.H o=some (some ob))(hf:ob.isFz=false:=by first|rfl|assumption):σ.ost o=.live ob.shp:=by
 simp only[State.ost,h];exact mW hf
theorem mX{E:Env}{P:Program}{wr:Bool}{k:IntKind}{r:Int}(h:(ic wr k r).obl) :
  (ic wr k r).hp=[]/\aw P E (ic wr k r).val (.int k (k.wrap r)):=by
 unfold ic at *;split at h
 ·refine⟨rfl,?_⟩
  have:IntKind.i64.wrap r=r:=by rw[IntKind.wrap_i64];obtain⟨h1,h2⟩:=h;omega
  rw[this];exact rfl
 ·exact⟨rfl,rfl⟩
theorem YE{P:Program}{t:TypeId}(h:Gr P t=true):P.underlying t=some .bool:=by
 unfold Gr at h;split at h
 ·assumption
 ·cases h
theorem qL{w:World}{a:Option Addr}{n c m:Nat}{R:Nat->Value->Prop}(h:bE w (.slice a n c) m R)(hm:m≠0):a.isNone=false:=by
 obtain⟨a',c',h1,_,h2⟩:=h;cases h1;obtain⟨b,off,h3,_⟩:=h2 (by omega)
 rw[h3];rfl
theorem YF{w:World}{a:Option Addr}{n c m:Nat}{R:Nat->Value->Prop}(h:gh w (.slice a n c) m R)(hm:m≠0):a.isNone=false:=by
 obtain⟨a',c',h1,_,h2⟩:=h;cases h1;obtain⟨b,off,h3,_⟩:=h2 (by omega)
 rw[h3];rfl
theorem OS{w:World}{d:FC}{a:Option Addr}{n c:Nat}(h:bp w (.slice a n c) d)(hd:d.len≠0):a.isNone=false:=by
 cases d with
 |int k n=>exact absurd rfl hd
 |bool b=>exact absurd rfl hd
 |str l=>cases h
 |ints k l=>exact qL h hd
 |bools l=>exact qL h hd
 |rows k l=>exact qL h hd
 |r3 k l=>exact qL h hd
 |r4 k l=>exact qL h hd
 |p3 k l=>exact YF h hd
theorem wX{a:Int}(h:0<=a/\a<=9223372036854775807):(BitVec.ofInt IntKind.i64.bits a).toNat=a.toNat:=by
 show(BitVec.ofInt 64 a).toNat=a.toNat
 rw[BitVec.toNat_ofInt];have:a % ((2 ^ 64:Nat):Int)=a:=Co h.1 (by omega)
 rw[this]
theorem YG{a b:Int}(ha:0<=a/\a<=9223372036854775807)(hb:0<=b/\b<=9223372036854775807) :
  IntKind.i64.wrap ((BitVec.ofInt IntKind.i64.bits a &&& BitVec.ofInt IntKind.i64.bits b).toNat:Int)=((a.toNat &&& b.toNat:Nat):Int):=by
 rw[BitVec.toNat_and,wX ha,wX hb];have:a.toNat &&& b.toNat<=a.toNat:=Nat.and_le_left
 rw[IntKind.wrap_i64];omega
theorem YH{a b:Int}(ha:0<=a/\a<=9223372036854775807)(hb:0<=b/\b<=9223372036854775807) :
  IntKind.i64.wrap ((BitVec.ofInt IntKind.i64.bits a ||| BitVec.ofInt IntKind.i64.bits b).toNat:Int)=((a.toNat ||| b.toNat:Nat):Int):=by
 rw[BitVec.toNat_or,wX ha,wX hb];have:a.toNat ||| b.toNat<2 ^ 63:=Nat.or_lt_two_pow (by omega) (by omega)
 rw[IntKind.wrap_i64];omega
theorem OT{a:Int}(h:0<=a/\a<=18446744073709551615):(BitVec.ofInt IntKind.u64.bits a).toNat=a.toNat:=by
 show(BitVec.ofInt 64 a).toNat=a.toNat
 rw[BitVec.toNat_ofInt];have:a % ((2 ^ 64:Nat):Int)=a:=Co h.1 (by omega)
 rw[this]
theorem YI{a b:Int}(ha:0<=a/\a<=18446744073709551615)(hb:0<=b/\b<=18446744073709551615) :
  IntKind.u64.wrap ((BitVec.ofInt IntKind.u64.bits a &&& BitVec.ofInt IntKind.u64.bits b).toNat:Int)=((a.toNat &&& b.toNat:Nat):Int):=by
 rw[BitVec.toNat_and,OT ha,OT hb];have:a.toNat &&& b.toNat<=a.toNat:=Nat.and_le_left
 exact IntWalk.u64_in _ (by omega)
theorem YK{P:Program}{E:Env}{op:BinOp}{cx cy:SC}{vx vy:Value}{eff:Eff}{t:TypeId}(hop:Gt op cx cy=true)(hr:(Gu cx cy).run σ=some eff)(hob:eff.obl)
  (hx:ai E cx vx)(hy:ai E cy vy)(x y:Operand)(w:World) :
  eff.hp=[]/\∃v,(do eqGuard op t x y vx vy;binOp op t vx vy:Sem Value).run P w=.ok v w/\aw P E eff.val v:=by
 unfold Gt at hop;split at hop
 ·simp only[Gu,Rd.run,AC]at hr
  subst hr;obtain⟨ha,hb⟩:=hob;simp only[ai]at hx hy;subst hx;subst hy;rename_i a b;refine⟨rfl,.int .u64 (IntKind.u64.wrap ((BitVec.ofInt IntKind.u64.bits a &&& BitVec.ofInt IntKind.u64.bits b).toNat:Int)),?_,by rw[YI ha hb];rfl⟩
  simp[binOp,Op.intBits,eqGuard_at_int]
 ·cases hop
theorem YL{P:Program}{E:Env}{wr:Bool}{op:BinOp}{cx cy:SC}{vx vy:Value}{eff:Eff}{t:TypeId}(hr:(Gs wr op cx cy).run σ=some eff)(hob:eff.obl)
  (hx:ai E cx vx)(hy:ai E cy vy)(x y:Operand)(w:World) :
  eff.hp=[]/\∃v,(do eqGuard op t x y vx vy;binOp op t vx vy:Sem Value).run P w=.ok v w/\aw P E eff.val v:=by
 unfold Gs at hr;split at hr
 ·rename_i a k' b
  simp only[ai]at hx hy;subst hx;subst hy;split at hr
  ·simp only[Rd.run,AC]at hr
   subst hr;obtain⟨⟨hb0,hb⟩,h3⟩:=hob;obtain⟨_,h2⟩:=mX (P:=P) (E:=E) h3;have hn:¬ b<0:=by omega
   have hm:min b.toNat IntKind.i64.bits=b.toNat:=by show min b.toNat 64=b.toNat;omega
   exact⟨rfl,_,by simp[binOp,Op.shift,eqGuard_at_int,hn,hm],h2⟩
  ·simp only[Rd.run,AC]at hr
   subst hr;obtain⟨hb0,hb⟩:=hob;have hn:¬ b<0:=by omega
   have hm:min b.toNat IntKind.i64.bits=b.toNat:=by show min b.toNat 64=b.toNat;omega
   have hf:a.fdiv (2 ^ b.toNat)=a / 2 ^ b.toNat:=DW _ (Int.le_of_lt (Int.pow_pos (by omega)))
   exact⟨rfl,.int .i64 (a / 2 ^ b.toNat),by simp[binOp,Op.shift,eqGuard_at_int,hn,hm,hf],rfl⟩
  ·simp[Rd.run]at hr
 ·rename_i a k' b
  simp only[ai]at hx hy;subst hx;subst hy;split at hr
  ·simp only[Rd.run,AC]at hr
   subst hr;obtain⟨hb0,hb⟩:=hob;have hn:¬ b<0:=by omega
   have hm:min b.toNat IntKind.u64.bits=b.toNat:=by show min b.toNat 64=b.toNat;omega
   have hf:a.fdiv (2 ^ b.toNat)=a / 2 ^ b.toNat:=DW _ (Int.le_of_lt (Int.pow_pos (by omega)))
   exact⟨rfl,.int .u64 (a / 2 ^ b.toNat),by simp[binOp,Op.shift,eqGuard_at_int,hn,hm,hf],rfl⟩
  ·simp[Rd.run]at hr
 ·simp[Rd.run]at hr
theorem YM{P:Program}{E:Env}{cx cy:SC}{vx vy:Value}{eff:Eff}(hr:(Hr cx cy).run σ=some eff)(hx:ai E cx vx)(hy:ai E cy vy)(ts:Array TypeId)(ty:TypeId)(w:World) :
  eff.hp=[]/\∃v,(Builtin.min_ ts ty #[vx,vy]).run P w=.ok v w/\aw P E eff.val v:=by
 unfold Hr at hr;split at hr
 ·rename_i k a k' b
  simp only[ai]at hx hy;subst hx;subst hy;split at hr
  ·rename_i hk
   subst hk;simp only[Rd.run,AC]at hr;subst hr;exact⟨rfl,_,by simp[Builtin.min_,Builtin.min2],rfl⟩
  ·simp[Rd.run]at hr
 ·simp[Rd.run]at hr
theorem YN{P:Program}{E:Env}{cx cy:SC}{vx vy:Value}{eff:Eff}(hr:(Hs cx cy).run σ=some eff)(hx:ai E cx vx)(hy:ai E cy vy)(ts:Array TypeId)(ty:TypeId)(w:World) :
  eff.hp=[]/\∃v,(Builtin.max_ ts ty #[vx,vy]).run P w=.ok v w/\aw P E eff.val v:=by
 unfold Hs at hr;split at hr
 ·rename_i k a k' b
  simp only[ai]at hx hy;subst hx;subst hy;split at hr
  ·rename_i hk
   subst hk;simp only[Rd.run,AC]at hr;subst hr;exact⟨rfl,_,by simp[Builtin.max_,Builtin.max2],rfl⟩
  ·simp[Rd.run]at hr
 ·simp[Rd.run]at hr
theorem YO{P:Program}{E:Env}{wr:Bool}{op:BinOp}{cx cy:SC}{vx vy:Value}{eff:Eff}{t:TypeId}(hr:(Gv P t wr op cx cy).run σ=some eff)(hob:eff.obl)
  (hx:ai E cx vx)(hy:ai E cy vy)(x y:Operand)(w:World) :
  eff.hp=[]/\∃v,(do eqGuard op t x y vx vy;binOp op t vx vy:Sem Value).run P w=.ok v w/\aw P E eff.val v:=by
 unfold Gv at hr;split at hr
 ·exact YL hr hob hx hy x y w
 split at hr
 ·rename_i hop
  exact YK hop hr hob hx hy x y w
 rename_i hopf;clear hopf;split at hr
 ·rename_i k a k' b
  simp only[ai]at hx hy;subst hx;subst hy;split at hr
  ·rename_i hk
   subst hk;cases op<;>simp only[Rd.run,aN,AC,reduceCtorEq]at hr<;>subst hr
   ·obtain⟨h1,h2⟩:=mX (P:=P) (E:=E) hob
    exact⟨h1,_,by simp[binOp,Op.intArith,eqGuard_at_int],h2⟩
   ·obtain⟨h1,h2⟩:=mX (P:=P) (E:=E) hob
    exact⟨h1,_,by simp[binOp,Op.intArith,eqGuard_at_int],h2⟩
   ·obtain⟨h1,h2⟩:=mX (P:=P) (E:=E) hob
    exact⟨h1,_,by simp[binOp,Op.intArith,eqGuard_at_int],h2⟩
   ·obtain⟨h1,h2⟩:=mX (P:=P) (E:=E) hob.2
    have hne:b≠0:=hob.1
    exact⟨rfl,_,by simp[binOp,Op.intDiv,eqGuard_at_int,hne],h2⟩
   ·have hne:b≠0:=hob
    exact⟨rfl,_,by simp[binOp,Op.intDiv,eqGuard_at_int,hne],rfl⟩
   ·obtain⟨hk,ha,hb⟩:=hob
    subst hk;refine⟨rfl,.int .i64 (IntKind.i64.wrap ((BitVec.ofInt IntKind.i64.bits a &&& BitVec.ofInt IntKind.i64.bits b).toNat:Int)),?_,by rw[YG ha hb];rfl⟩
    simp[binOp,Op.intBits,eqGuard_at_int]
   ·obtain⟨hk,ha,hb⟩:=hob
    subst hk;refine⟨rfl,.int .i64 (IntKind.i64.wrap ((BitVec.ofInt IntKind.i64.bits a ||| BitVec.ofInt IntKind.i64.bits b).toNat:Int)),?_,by rw[YH ha hb];rfl⟩
    simp[binOp,Op.intBits,eqGuard_at_int]
   all_goals exact⟨rfl,_,by simp[binOp,Op.intCmp,eqGuard_at_int],rfl⟩
  ·simp[Rd.run]at hr
 ·rename_i a b
  simp only[ai]at hx hy;subst hx;subst hy;split at hr
  ·rename_i hb
   have hb:=YE hb
   cases op<;>simp only[Rd.run,aN,AC,reduceCtorEq]at hr<;>subst hr
   ·exact⟨rfl,_,by simp[eqGuard_at_bool,run_eql_bool (P:=P) w t a b hb],rfl⟩
   ·exact⟨rfl,_,by simp[eqGuard_at_bool,run_neq_bool (P:=P) w t a b hb],rfl⟩
  ·simp[Rd.run]at hr
 ·rename_i a b
  simp only[ai]at hx hy;subst hx;subst hy;cases op<;>simp only[Rd.run,aN,AC,reduceCtorEq]at hr<;>subst hr
  ·have ψ:¬ ((9223372036854775807:Int)<((⟨a.toArray⟩:ByteArray).size:Int)+((⟨b.toArray⟩:ByteArray).size:Int)):=by
    have h1:(⟨a.toArray⟩:ByteArray).size=a.length:=by simp[ByteArray.size]
    have h2:(⟨b.toArray⟩:ByteArray).size=b.length:=by simp[ByteArray.size]
    have h3:a.length+b.length<=1099511627776:=hob
    rw[h1,h2];omega
   refine⟨rfl,.string (⟨a.toArray⟩++⟨b.toArray⟩),by simp[binOp,Op.stringOp,eqGuard_at_string,ψ],?_⟩
   have:(⟨a.toArray⟩++⟨b.toArray⟩:ByteArray)=⟨(a++b).toArray⟩:=by
    apply ByteArray.ext;simp
   simp[aw,ai,this]
  ·exact⟨rfl,_,by simp[binOp,Op.stringOp,eqGuard_at_string],rfl⟩
  ·exact⟨rfl,_,by simp[binOp,Op.stringOp,eqGuard_at_string],rfl⟩
 ·rename_i b
  obtain⟨a,n,c,rfl,hb⟩:=hx;simp only[ai]at hy;subst hy;split at hr
  ·rename_i e he
   have hu:P.underlying t=some (.slice e):=by
    unfold bX at he;split at he
    ·cases he;assumption
    ·cases he
   have hg:(eqGuard op t x y (.slice a n c) (.slice none 0 0)).run P w=.ok () w:=by
    unfold eqGuard;split<;>rfl
   cases op<;>simp only[Rd.run,aN,AC,reduceCtorEq]at hr<;>subst hr
   ·refine⟨rfl,.bool a.isNone,?_,by rw[hb];rfl⟩
    rw[Sem.run_bind,hg];exact Lib.run_eql_slice_nil w t e a n c 0 0 hu
   ·refine⟨rfl,.bool (!a.isNone),?_,by rw[hb];rfl⟩
    rw[Sem.run_bind,hg];exact Go.run_neq_slice_nil_any w t e a n c 0 0 hu
  ·simp[Rd.run]at hr
 ·rename_i d
  obtain⟨⟨a,n,c,rfl,_⟩,hrd⟩:=hx;simp only[ai]at hy;subst hy;split at hr
  ·rename_i e he
   have hu:P.underlying t=some (.slice e):=by
    unfold bX at he;split at he
    ·cases he;assumption
    ·cases he
   have hg:(eqGuard op t x y (.slice a n c) (.slice none 0 0)).run P w=.ok () w:=by
    unfold eqGuard;split<;>rfl
   cases op<;>simp only[Rd.run,aN,AC,reduceCtorEq]at hr<;>subst hr
   ·have hb:=OS hrd hob
    refine⟨rfl,.bool a.isNone,?_,by rw[hb];rfl⟩
    rw[Sem.run_bind,hg];exact Lib.run_eql_slice_nil w t e a n c 0 0 hu
   ·have hb:=OS hrd hob
    refine⟨rfl,.bool (!a.isNone),?_,by rw[hb];rfl⟩
    rw[Sem.run_bind,hg];exact Go.run_neq_slice_nil_any w t e a n c 0 0 hu
  ·simp[Rd.run]at hr
 ·simp[Rd.run]at hr
theorem YP{P:Program}{E:Env}{wr:Bool}{op:UnOp}{cx:SC}{vx:Value}{eff:Eff}(hr:(Gw wr op cx).run σ=some eff)(hob:eff.obl)
  (hx:ai E cx vx)(w:World):eff.hp=[]/\∃v,(Op.unary op vx).run P w=.ok v w/\aw P E eff.val v:=by
 unfold Gw at hr;split at hr
 ·simp only[ai]at hx
  simp only[Rd.run,AC]at hr;subst hx;subst hr;obtain⟨h1,h2⟩:=mX (P:=P) (E:=E) hob;exact⟨h1,_,by simp[Op.unary,Op.intArith],h2⟩
 ·simp only[ai]at hx
  simp only[Rd.run,aN,AC]at hr;subst hx;subst hr;exact⟨rfl,_,by simp[Op.unary],rfl⟩
 ·simp[Rd.run]at hr
theorem Hx{P:Program}{t:TypeId}{k:IntKind}(h:jm P t=some k):P.underlying t=some (.int k):=by
 unfold jm at h;split at h
 ·cases h;assumption
 ·cases h
theorem YQ{P:Program}{E:Env}{wr:Bool}{src dst:TypeId}{cx:SC}{vx:Value}{eff:Eff}(hr:(Gx P wr src dst cx).run σ=some eff)(hob:eff.obl)
  (hx:ai E cx vx)(w:World):eff.hp=[]/\∃v,(convert src dst vx).run P w=.ok v w/\aw P E eff.val v:=by
 unfold Gx at hr;split at hr
 ·simp only[ai]at hx
  subst hx;split at hr
  ·rename_i d hd
   split at hr
   ·rename_i k hk
    simp only[Rd.run,AC]at hr;subst hr;obtain⟨h1,h2⟩:=mX (P:=P) (E:=E) hob;refine⟨h1,_,?_,h2⟩
    simp[convert,run_underlying hd,run_underlying (Hx hk),Conv.intToInt]
   ·simp[Rd.run]at hr
  ·simp[Rd.run]at hr
 ·simp[Rd.run]at hr
theorem wY{P:Program}{t:TypeId}{b:Bool}(h:lJ P t=some b)(w:World):(isAgg t).run P w=.ok b w:=by
 unfold lJ at h;unfold isAgg;split at h
 ·rename_i hu;cases h;simp[run_underlying hu]
 ·rename_i hu;cases h;simp[run_underlying hu]
 ·rename_i d _ _ hu
  cases h;rw[Sem.run_bind,run_underlying hu];cases d<;>simp_all
 ·cases h
theorem gn{P:Program}{t:TypeId}{n:Nat}(h:cK P t=some n)(w:World):(sizeOf t).run P w=.ok n w:=by
 unfold cK at h;split at h
 ·rename_i i hi;cases h;simp[sizeOf,typeInfo,hi]
 ·cases h
theorem gp{P:Program}{t e:TypeId}(h:bX P t=some e):P.underlying t=some (.slice e):=by
 unfold bX at h;split at h
 ·cases h;assumption
 ·cases h
theorem Hy{P:Program}{t:TypeId}(ha:lJ P t=some false){p:Addr}{u:Value}(hp:w.cell? p=some u):(loadVar t p).run P w=.ok u w:=by
 simp[loadVar,wY ha,hp]
theorem wZ{P:Program}{t:TypeId}(ha:lJ P t=some true){b i n:Nat}(hn:cK P t=some n){cs:List Value}(hl:cs.length=n)
  (hc:∀(j:Nat) (u:Value),cs[j]?=some u->w.cell? ⟨b,i+j,none⟩=some u):(loadVar t ⟨b,i,none⟩).run P w=.ok (.agg cs.toArray) w:=by
 have hl':=run_loadCells_list (P:=P) w ⟨b,i,none⟩ cs (fun j v hv=>by rw[Addr.add_lit];exact hc j v hv)
 rw[hl]at hl';simp[loadVar,wY ha,gn hn,hl']
end
end Go.Sx
end
section
namespace Go.Sx
open Go.RowKit
theorem mY{w:World}{B e size n:Nat}{v:Value}{xs:List Value}(h:w.ownsRow B e size v n xs){b:Nat}(hb:ac v=some b) :
  ∃cap,v=.slice (some ⟨b,0,none⟩) n cap/\n<=cap:=by
 rcases h.2 with⟨rfl,_⟩|⟨g,cap,cur,rfl,_,_,hn,_⟩
 ·simp[ac]at hb
 ·simp[ac]at hb;subst hb;exact⟨cap,rfl,hn⟩
theorem iV{w:World}{B e n:Nat}{v:Value}{xs:List Value}(h:w.ownsRow B e 1 v n xs){b:Nat}(hb:ac v=some b)(j:Nat)(hj:j<n) :
  w.cell? ⟨b,j,none⟩=xs[j]?:=by
 obtain⟨cap,rfl,_⟩:=mY h hb;exact h.cellAt j (by omega)
theorem w5{w:World}{B e sz n:Nat}{v:Value}{xs:List Value}(h:w.ownsRow B e sz v n xs){b:Nat}(hb:ac v=some b)(j:Nat)(hj:j<n*sz) :
  w.cell? ⟨b,j,none⟩=xs[j]?:=by
 rcases h.2 with⟨rfl,_⟩|⟨g,cap,cur,rfl,_,hg,_,_,_,hx⟩
 ·simp[ac]at hb
 ·simp[ac]at hb;subst hb
  rw[cell_of_row w g j cur e (0,0) hg,<-hx,Au,AA hj];simp
theorem OU{d:FC}{i:Nat}(h:i<d.slen):d.slen=d.len/\d.wid=1:=by
 cases d with
 |p3 k l=>exact absurd h (DA i)
 |_=>exact⟨rfl,rfl⟩
theorem gq{w:World}{B e size n:Nat}{v:Value}{xs:List Value}(h:w.ownsRow B e size v n xs):v.oneCell'=true:=by
 rcases h.2 with⟨rfl,_⟩|⟨g,cap,cur,rfl,_⟩<;>rfl
theorem OW:∀{p:List Nat} {nd u v:Value} {j:Nat},eE nd p=some u->(bo u)[j]?=some v->eE nd (p++[j])=some v
 | [],nd,u,v,j,h,hj=>by
  cases h;simp[eE,hj]
 |i::p,nd,u,v,j,h,hj=>by
  simp only[eE,BT]at h⊢;split at h
  ·exact OW h hj
  ·cases h
theorem YR(d:FC):1<=d.wid:=by cases d<;>simp[FC.wid]
theorem br.row{w:World}:∀{es:List TypeId} {u:Value} {x:FC},br w es u x->∃e xs,w.ownsRow 0 e x.wid (aK u) x.len xs
 | [],_,_,h=>False.elim h
 | [e],_,_,⟨_,k,l,h2,h3⟩=>by subst h2;exact⟨e,_,h3⟩
 |e::_::_,_,_,⟨_,_,h3,_⟩=>⟨e,_,h3⟩
theorem br.one{w:World}{es:List TypeId}{u:Value}{x:FC}(h:br w es u x):(aK u).oneCell'=true:=by
 obtain⟨e,xs,h1⟩:=h.row;exact gq h1
theorem ji.row{w:World}{n:Nat}:∀{es:List TypeId} {u:Value} {x:FC},ji w n es u x->∃e xs,w.ownsRow 0 e x.wid (aK u) x.len xs
 | [],_,_,h=>False.elim h
 | [_],_,_,h=>False.elim h
 |e::_::_,_,_,⟨_,_,_,⟨vs,h4,_⟩,_⟩=>⟨e,vs,h4⟩
theorem br.len{w:World}{es:List TypeId}{u:Value}{x:FC}(h:br w es u x){b n c:Nat}(hd:aK u=.slice (some ⟨b,0,none⟩) n c):n=x.len:=by
 obtain⟨e,xs,h1⟩:=h.row;obtain⟨cap,h2,_⟩:=mY h1 (b:=b) (by rw[hd];rfl)
 rw[hd]at h2;cases h2;rfl
theorem Hz{w:World}{es:List TypeId}{u:Value}{k:IntKind}{l:Db}(h:br w es u (.ints k l)):∃e,es=[e]/\w.ownsRow 0 e 1 (aK u) l.length (l.map (.int k)):=by
 match es,h with
 | [],h=>exact False.elim h
 | [e],⟨_,k',l',h2,h3⟩=>cases h2;exact⟨e,rfl,h3⟩
 |_::_::_,⟨_,h2,_⟩=>simp[FC.dep]at h2
theorem OX{w:World}{es:List TypeId}{u:Value}{x y:FC}{j:Nat}(h:br w es u x)(hy:cX x j=some y)(hj:j<x.cn) :
  ∃e e2 es',es=e::e2::es'/\w.ownsRow 0 e x.wid (aK u) x.len ((bo u).map aK)/\∃v,(bo u)[j]?=some v/\br w (e2::es') v y:=by
 match es,h with
 | [],h=>exact False.elim h
 | [e],⟨_,k',l',h2,h3⟩=>subst h2;cases hy
 |e::e2::es',h =>
  have hl:=jO h
  obtain⟨_,h2,h3,h4⟩:=h;exact⟨e,e2,es',rfl,h3,_,AF (by omega),h4 j _ y (AF (by omega)) hy⟩
theorem OY{w:World}{es:List TypeId}{u:Value}{k:IntKind}{l:Db}{j:Nat}(h:br w es u (.ints k l))(q4:j<(FC.ints k l).len\/j<(bo u).length):j<l.length:=by
 rcases q4 with q4|q4
 ·exact q4
 ·match es,h with
  | [],h=>exact False.elim h
  | [_],⟨z1,_⟩=>rw[kH z1]at q4;exact absurd q4 (DA j)
  |_::_::_,⟨_,z2,_⟩=>simp[FC.dep]at z2
theorem HA{w:World}{es:List TypeId}{u:Value}{x:FC}{j:Nat}(h:br w es u x)(q4:j<x.len\/j<(bo u).length):j<x.cn:=by
 rcases q4 with q4|q4
 ·have:x.len*1<=x.len*x.wid:=Cl _ (YR x)
  simp only[FC.cn];omega
 ·match es,h with
  | [],h=>exact False.elim h
  | [_],⟨z1,_⟩=>rw[kH z1]at q4;exact absurd q4 (DA j)
  |_::_::_,h=>rw[<-jO h];exact q4
theorem lS{E:Env}{w:World}{m:Img}{ver:Nat}{es:List TypeId}{d:FC}(h:aR E w m (.tr ver es d)){nd u:Value}{p:List Nat}(h1:m.ins[0]?=some nd)(h2:eE nd p=some u) :
  m=dw es.length nd/\br w es nd d/\∃x,jj d p=some x/\br w (es.drop p.length) u x/\∀b∈aW (es.drop p.length).length u,b∈m.blocks:=by
 obtain⟨nd',rfl,h3⟩:=h;cases h1;obtain⟨x,k1,k2,k3⟩:=br.at h3 h2;exact⟨rfl,h3,x,k1,k2,fun b hb=>by rw[ef h3];exact k3 b hb⟩
section
variable {C:Cx} {σ:State} {mu:Nat->Img} {a:Act} {w:World}
theorem aP{o:Nat}{ob:Ob}(ho:σ.H o=some (some ob)){v:Value}{p:Shp->Prop}{q:FC->Prop}(h:bS (σ.env C.wF mu) o v p q)(hf:ob.isFz=false:=by first|rfl|assumption):p ob.shp:=by
 have h:=h.2
 have:(σ.env C.wF mu).st o=.live ob.shp:=cr ho hf
 rw[this]at h;exact h
theorem bp.slice{w:World}{v:Value}{d:FC}(h:bp w v d)(hd:dt d=false:=by rfl):∃a n c,v=.slice a n c/\n<=c:=by
 cases d with
 |int k n=>cases hd
 |bool b=>cases hd
 |str l=>cases hd
 |_=>obtain⟨a,c,hv,hle,_⟩:=h;exact⟨a,_,c,hv,hle⟩
theorem jY{E:Env}{u:Value}{fc:FC}(h:bp E.wF u fc):ai E (dm fc) u/\u.oneCell'=true:=by
 cases fc with
 |int k n=>simp only[bp]at h;subst h;exact⟨rfl,rfl⟩
 |bool b=>simp only[bp]at h;subst h;exact⟨rfl,rfl⟩
 |str l=>simp only[bp]at h;subst h;exact⟨rfl,rfl⟩
 |ints k l=>obtain⟨a,n,c,hv,hle⟩:=h.slice;exact⟨⟨⟨a,n,c,hv,hle⟩,h⟩,by rw[hv];rfl⟩
 |bools l=>obtain⟨a,n,c,hv,hle⟩:=h.slice;exact⟨⟨⟨a,n,c,hv,hle⟩,h⟩,by rw[hv];rfl⟩
 |rows k l=>obtain⟨a,n,c,hv,hle⟩:=h.slice;exact⟨⟨⟨a,n,c,hv,hle⟩,h⟩,by rw[hv];rfl⟩
 |r3 k l=>obtain⟨a,n,c,hv,hle⟩:=h.slice;exact⟨⟨⟨a,n,c,hv,hle⟩,h⟩,by rw[hv];rfl⟩
 |r4 k l=>obtain⟨a,n,c,hv,hle⟩:=h.slice;exact⟨⟨⟨a,n,c,hv,hle⟩,h⟩,by rw[hv];rfl⟩
 |p3 k l=>obtain⟨a,n,c,hv,hle⟩:=h.slice;exact⟨⟨⟨a,n,c,hv,hle⟩,h⟩,by rw[hv];rfl⟩
theorem YS{d:FC}{i:Nat}{x fc:FC}(h:cX d i=some x)(h2:d.elem i=some fc):x=fc:=by
 cases d<;>simp only[cX,reduceCtorEq]at h<;>simp only[FC.elem]at h2<;>split at h2<;>cases h2<;>cases h<;>rfl
theorem YT{d:FC}{i:Nat}{x:FC}(h:cX d i=some x):dt x=false:=by
 cases d<;>simp only[cX,reduceCtorEq]at h<;>cases h<;>rfl
theorem YU{E:Env}{c:SC}{v:Value}(h:ai E c v):ai E (GA c) v:=by
 unfold GA;split
 ·exact h.1
 ·exact h
theorem kM(h:St C σ mu a w){o:Nat}{cs:List SC}(ho:σ.H o=some (some (.box cs))) :
  ∃b arr t,(mu o).hd=.pointer (some ⟨b,0,none⟩)/\(∀u∈(mu o).ins,ac u=none)/\w.heap[b]?=some (.cells arr t (0,0))/\c9 (σ.env C.wF mu) cs arr:=h.ob o _ ho
theorem YV{t:TypeId}{cx:SC}{vx:Value}{eff:Eff}(hr:(GC C.P t cx).run σ=some eff)(hob:eff.obl)(hx:ai (σ.env C.wF mu) cx vx)(h:St C σ mu a w) :
  eff.hp=[]/\∃v,(Instr.loadAt t vx).run C.P w=.ok v w/\aw C.P (σ.env C.wF mu) eff.val v:=by
 unfold GC at hr;split at hr
 ·rename_i hagg
  split at hr
  ·rename_i P' F
   simp only[Rd.run,AC]at hr;subst hr;have e:P'=C.P:=hob
   subst e;obtain⟨b,off,u,rfl,hcell,hcl⟩:=hx;refine⟨rfl,u,?_,hcl⟩
   simp only[Instr.loadAt,Instr.sureAddr,Sem.run_bind,Sem.run_pure,Result.andThen_ok];exact Hy hagg (h.cells _ _ hcell).2
  ·simp[Rd.run]at hr
 ·rename_i hagg
  split at hr
  ·rename_i hn
   split at hr
   ·rename_i o i
    obtain⟨ob,ho,hr⟩:=aZ hr;have hnf:ob.isFz=false:=by cases ob<;>first|rfl|simp[Rd.run]at hr
    have hx:=aP ho hx hnf
    clear hnf;split at hr
    ·rename_i ver e k l
     simp only[Rd.run,AC]at hr;subst hr;have ψ:i<l.length:=hob
     obtain⟨b,hb,rfl⟩:=hx;obtain⟨_,vs,h1,h2⟩:=h.ob o _ ho;have hlv:vs.length=l.length*2:=h1.1
     have get:∀j,j<2->∃u,vs[i*2+j]?=some u/\w.cell? ⟨b,i*2+j,none⟩=some u/\bp C.wF u (.rows k (dP l (i*2+j)))/\u.oneCell'=true:=fun j hj=>by
      have hq:i*2+j<vs.length:=by omega
      obtain⟨h3,fc,h4,h5⟩:=h2 (i*2+j) _ (AF hq);simp only[FC.elem]at h4;rw[AA (by omega)]at h4
      cases h4;exact⟨_,AF hq,by rw[w5 h1 hb (i*2+j) (show i*2+j<l.length*2 by omega)];exact AF hq,h5,h3⟩
     obtain⟨u0,_,c0,r0,o0⟩:=get 0 (by omega)
     obtain⟨u1,_,c1,r1,o1⟩:=get 1 (by omega)
     have e0:dP l (i*2+0)=(l.getD i ([],[])).1:=by
      simp only[dP,show(i*2+0) % 2=0 by omega,show(i*2+0) / 2=i by omega,AV]
     have e1:dP l (i*2+1)=(l.getD i ([],[])).2:=by
      simp only[dP,show ¬ (i*2+1) % 2=0 by omega,show(i*2+1) / 2=i by omega,Ag]
     rw[e0]at r0;rw[e1]at r1;refine⟨rfl,.agg #[u0,u1],?_,_,rfl,?_⟩
     ·simp only[Instr.loadAt,Instr.sureAddr,Sem.run_bind,Sem.run_pure,Result.andThen_ok]
      refine wZ (cs:=[u0,u1]) hagg hn rfl fun j v hj=>?_
      match j,hj with
      |0,hj=>cases hj;exact c0
      |1,hj=>cases hj;exact c1
      |j+2,hj=>simp at hj
     ·refine⟨rfl,fun j c hj=>?_⟩
      match j,hj with
      |0,hj=>cases hj;exact⟨u0,rfl,o0,(jY (E:=σ.env C.wF mu) (fc:=.rows k (l.getD i ([],[])).1) r0).1⟩
      |1,hj=>cases hj;exact⟨u1,rfl,o1,(jY (E:=σ.env C.wF mu) (fc:=.rows k (l.getD i ([],[])).2) r1).1⟩
      |j+2,hj=>simp at hj
    ·simp[Rd.run]at hr
   ·simp[Rd.run]at hr
  ·simp[Rd.run]at hr
 ·simp[Rd.run]at hr
theorem YW{P:Program}{E:Env}{c:SC}{v:Value}(h:ai E c v):aw P E (GB c) v:=by
 unfold GB;split
 ·rename_i a b
  refine⟨_,h,rfl,fun i c hi=>?_⟩
  match i,hi with
  |0,hi=>cases hi;exact⟨_,rfl,rfl,rfl⟩
  |1,hi=>cases hi;exact⟨_,rfl,rfl,rfl⟩
  |i+2,hi=>simp at hi
 ·exact h
theorem OZ{t:TypeId}{cx:SC}{vx:Value}{eff:Eff}(hr:(wu C.P t cx).run σ=some eff)(hx:ai (σ.env C.wF mu) cx vx)(h:St C σ mu a w) :
  eff.hp=[]/\∃v,(Instr.loadAt t vx).run C.P w=.ok v w/\aw C.P (σ.env C.wF mu) eff.val v:=by
 unfold wu at hr;split at hr
 ·simp[Rd.run]at hr
 ·rename_i hagg
  split at hr
  ·simp[Rd.run]at hr
  ·rename_i n hn
   split at hr
   ·rename_i o i
    obtain⟨ob,ho,hr⟩:=aZ hr;cases ob with
    |box cs =>
     simp only at hr;split at hr
     ·rename_i hle
      simp only[Rd.run,AC]at hr;subst hr;obtain⟨_,b,hb,rfl⟩:=aP ho hx;obtain⟨g,arr,ty,h1,h2,h3,h4⟩:=kM h ho;rw[State.env,h1]at hb;simp[ac]at hb
      subst hb;refine⟨rfl,.agg ((arr.toList.drop i).take n).toArray,?_,_,rfl,?_⟩
      ·simp only[Instr.loadAt,Instr.sureAddr,Sem.run_bind,Sem.run_pure,Result.andThen_ok]
       refine wZ hagg hn (by simp[h4.1];omega) fun j u hu=>?_
       rw[cell_of_row w g (i+j) arr ty (0,0) h3];rw[Au]at hu;split at hu
       ·simpa using hu
       ·cases hu
      ·refine⟨by simp[h4.1],fun j c hj=>?_⟩
       rw[Au]at hj;split at hj
       ·rename_i hjn
        rw[A9]at hj;obtain⟨u,h5,h6⟩:=h4.2 (i+j) c hj;exact⟨u,by simp[hjn,h5],h6⟩
       ·cases hj
     ·simp[Rd.run]at hr
    |_=>simp[Rd.run]at hr
   ·rename_i cs i
    split at hr
    ·rename_i hle
     simp only[Rd.run,AC]at hr;subst hr;obtain⟨b,off,rfl,hc⟩:=hx;have hex:∀j,j<n->∃u,w.cell? ⟨b,off+j,none⟩=some u/\∃fc,cs[i+j]?=some fc/\bp C.wF u fc:=fun j hj=>by
      obtain⟨u,h1,h2⟩:=hc j _ (AF (by omega:i+j<cs.length))
      exact⟨u,(h.cells _ _ h1).2,_,AF (by omega:i+j<cs.length),h2⟩
     let us:=(List.range n).map fun j=>(w.cell? ⟨b,off+j,none⟩).getD undef
     have hus:∀j,j<n->us[j]?=w.cell? ⟨b,off+j,none⟩:=fun j hj=>by
      obtain⟨u,h1,_⟩:=hex j hj;simp[us,hj,h1]
     refine⟨rfl,.agg us.toArray,?_,_,rfl,?_⟩
     ·simp only[Instr.loadAt,Instr.sureAddr,Sem.run_bind,Sem.run_pure,Result.andThen_ok]
      refine wZ hagg hn (by simp[us]) fun j u hu=>?_
      have hj:j<n:=by have:=(AJ.1 hu).1;simpa[us]using this
      rw[<-hus j hj];exact hu
     ·refine⟨by simp[us];omega,fun j c hj=>?_⟩
      rw[Aj,Au]at hj;split at hj
      ·rename_i hjn
       rw[A9]at hj;obtain⟨u,h1,fc,h2,h3⟩:=hex j hjn;rw[h2]at hj;simp at hj
       subst hj;have:=jY (E:=σ.env C.wF mu) h3
       exact⟨u,by simp only[DB];rw[hus j hjn];exact h1,this.2,this.1⟩
      ·simp at hj
    ·simp[Rd.run]at hr
   ·rename_i d i
    split at hr
    ·rename_i k l
     simp only[Rd.run,AC]at hr;subst hr;obtain⟨b,off,fc,u,hfc,rfl,hcell,hrd⟩:=hx;simp only[FC.elem]at hfc;split at hfc<;>cases hfc
     have hw:=(h.cells _ _ hcell).2
     refine⟨rfl,.agg #[u],?_,_,rfl,?_⟩
     ·simp only[Instr.loadAt,Instr.sureAddr,Sem.run_bind,Sem.run_pure,Result.andThen_ok]
      refine wZ (cs:=[u]) hagg hn rfl fun j v hj=>?_
      match j,hj with
      |0,hj=>cases hj;exact hw
      |j+1,hj=>simp at hj
     ·refine⟨rfl,fun j c hj=>?_⟩
      match j,hj with
      |0,hj =>
       cases hj;have:=jY (E:=σ.env C.wF mu) (fc:=.rows k (l.getD i [])) hrd
       exact⟨u,rfl,this.2,this.1⟩
      |j+1,hj=>simp at hj
    ·simp[Rd.run]at hr
   ·simp[Rd.run]at hr
 ·rename_i hagg
  have hone:∀(b i:Nat) (u:Value),w.cell? ⟨b,i,none⟩=some u->(Instr.loadAt t (.pointer (some ⟨b,i,none⟩))).run C.P w=.ok u w:=fun b i u hu=>by
   simp only[Instr.loadAt,Instr.sureAddr,Sem.run_bind,Sem.run_pure,Result.andThen_ok];exact Hy hagg hu
  split at hr
  ·rename_i o i
   obtain⟨ob,ho,hr⟩:=aZ hr;have hnf:ob.isFz=false:=by cases ob<;>first|rfl|simp[Rd.run]at hr
   obtain⟨ψ,b,hb,rfl⟩:=aP ho hx hnf;clear hnf;cases ob with
   |frz d=>simp[Rd.run]at hr
   |mp l=>simp[Rd.run]at hr
   |qu e k l=>simp[Rd.run]at hr
   |rowsH ver e ei k l hs=>simp[Rd.run]at hr
   |yd yv Y pre g=>simp[Rd.run]at hr
   |tr ver es d=>simp[Rd.run]at hr
   |trk ver es d n=>simp[Rd.run]at hr
   |lst ver e d =>
    simp only at hr;split at hr
    ·rename_i x hx'
     simp only[Rd.run,aN,AC]at hr;subst hr;obtain⟨_,vs,h1,h2⟩:=h.ob o _ ho;obtain⟨sl1,sl2⟩:=OU (show i<d.slen from ψ)
     have hlt2:i<d.len:=by rw[<-sl1];exact ψ
     rw[sl2]at h1;have hlv:vs.length=d.len:=by simpa using h1.1
     obtain⟨h3,fc,h4,h5⟩:=h2 i _ (AF (by omega))
     have hfx:x=fc:=YS hx' h4
     subst hfx;exact⟨rfl,vs[i]'(by omega),hone b i _ (by rw[iV h1 hb i hlt2];exact AF (by omega)),h5.slice (YT hx'),h5⟩
    ·simp[Rd.run]at hr
   |box cs =>
    simp only at hr;split at hr
    ·rename_i c hc
     simp only[Rd.run,aN,AC]at hr;subst hr;obtain⟨g,arr,ty,h1,h2,h3,h4⟩:=kM h ho;rw[State.env,h1]at hb;simp[ac]at hb
     subst hb;obtain⟨u,h5,h6,h7⟩:=h4.2 i c hc;exact⟨rfl,u,hone g i u (by rw[cell_of_row w g i arr ty (0,0) h3];exact h5),YU h7⟩
    ·simp[Rd.run]at hr
   |bx cs=>simp[Rd.run]at hr
   |strs e l =>
    simp only[Rd.run,aN,AC]at hr;subst hr;have:=h.ob o _ ho
    exact⟨rfl,_,hone b i _ (by rw[iV this.2 hb i ψ];simp[show i<l.length from ψ];rfl),by simp[aw,ai,oF,List.getD,show i<l.length from ψ]⟩
   |ints e k l =>
    simp only[Rd.run,aN,AC]at hr;subst hr;have:=h.ob o _ ho
    exact⟨rfl,_,hone b i _ (by rw[iV this.2 hb i ψ];simp[show i<l.length from ψ];rfl),by simp[aw,ai,List.getD,show i<l.length from ψ]⟩
   |bools e l =>
    simp only[Rd.run,aN,AC]at hr;subst hr;have:=h.ob o _ ho
    exact⟨rfl,_,hone b i _ (by rw[iV this.2 hb i ψ];simp[show i<l.length from ψ];rfl),by simp[aw,ai,List.getD,show i<l.length from ψ]⟩
   |rows ver e ei k l =>
    simp only[Rd.run,aN,AC]at hr;subst hr;obtain⟨h1,h2,h3⟩:=h.ob o _ ho;have hlt':i<(mu o).ins.length:=by rw[h2];exact ψ
    have hone':(mu o).ins[i].oneCell'=true:=gq (h3 i _ _ (AF hlt') (AF ψ))
    refine⟨rfl,(mu o).ins[i],hone b i _ (by rw[iV h1 hb i ψ,AF hlt']),hone',?_⟩
    have:(σ.env C.wF mu).st o=.live (Ob.rows ver e ei k l).shp:=cr ho
    rw[this];exact⟨AE _,fun _=>⟨AF hlt',ψ⟩⟩
  ·rename_i o ver i j
   obtain⟨ob,ho,hr⟩:=aZ hr;have hnf:ob.isFz=false:=by cases ob<;>first|rfl|simp[Rd.run]at hr
   have hx:=aP ho hx
   clear hnf;cases ob with
   |rows ver' e ei k l =>
    simp only at hr;split at hr
    ·rename_i hv
     simp only[Rd.run,aN,AC]at hr;subst hr;obtain⟨h1,h2,h3⟩:=h.ob o _ ho;obtain⟨hi,hj,r,b,hins,hb,rfl⟩:=hx.2 hv.symm;have hi':i<l.length:=hi
     have hrow:=h3 i r _ hins (AF hi')
     have hj':j<l[i].length:=by
      have:((l.map List.length).getD i 0)=l[i].length:=by simp[List.getD,hi']
      simp only[Ob.shp]at hj;omega
     refine⟨rfl,_,hone b j _ (by rw[iV hrow hb j hj'];simp[hj'];rfl),by simp[aw,ai,List.getD,hi',hj']⟩
    ·simp[Rd.run]at hr
   |_=>simp[Rd.run]at hr
  ·rename_i d i
   obtain⟨b,off,fc,u,hfc,rfl,hcell,hrd⟩:=hx;have hu:=hone b off u (h.cells _ _ hcell).2
   split at hr<;>simp only[Rd.run,aN,AC,reduceCtorEq]at hr<;>subst hr
   ·simp only[FC.elem]at hfc
    split at hfc<;>cases hfc
    exact⟨rfl,u,hu,hrd⟩
   ·simp only[FC.elem]at hfc
    split at hfc<;>cases hfc
    exact⟨rfl,u,hu,hrd⟩
   ·simp only[FC.elem]at hfc
    split at hfc<;>cases hfc
    exact⟨rfl,u,hu,hrd.slice,hrd⟩
   ·simp only[FC.elem]at hfc
    split at hfc<;>cases hfc
    exact⟨rfl,u,hu,hrd.slice,hrd⟩
   ·simp only[FC.elem]at hfc
    split at hfc<;>cases hfc
    exact⟨rfl,u,hu,hrd.slice,hrd⟩
  ·rename_i cs i
   obtain⟨b,off,rfl,hc⟩:=hx;split at hr
   ·rename_i fc hfc
    simp only[Rd.run,aN,AC]at hr;subst hr;obtain⟨u,h1,h2⟩:=hc 0 fc hfc;exact⟨rfl,u,hone b off u (h.cells _ _ h1).2,(jY (E:=σ.env C.wF mu) h2).1⟩
   ·simp[Rd.run]at hr
  ·rename_i cs
   simp only[Rd.run,aN,AC]at hr;subst hr;obtain⟨b,off,b2,off2,rfl,h0,h1⟩:=hx;exact⟨rfl,_,hone b off _ (h.cells _ _ h0).2,⟨b2,off2,rfl,fun j fc hj=>h1 j fc (by rwa[AK]at hj)⟩⟩
  ·rename_i o i
   obtain⟨ob,ho,hr⟩:=aZ hr;have hnf:ob.isFz=false:=by cases ob<;>first|rfl|simp[Rd.run]at hr
   have hx:=aP ho hx hnf
   clear hnf;cases ob with
   |qu e k l =>
    simp only[Rd.run,aN,AC]at hr;subst hr;obtain⟨ψ,b,off,n,c,hhd,rfl⟩:=hx;have hhd:(mu o).hd=_:=hhd
    have hlt':i<l.length:=ψ
    obtain⟨_,h2⟩:=h.ob o _ ho;rcases h2 with⟨h2,_⟩|⟨g,off',cap,h2,_,_,_,_,h3⟩
    ·rw[hhd]at h2;cases h2
    ·rw[hhd]at h2;cases h2
     exact⟨rfl,_,hone _ _ _ (h3 i (.int k l[i]) (by simp[hlt'])),by simp[aw,ai,List.getD,hlt']⟩
   |_=>simp[Rd.run]at hr
  ·rename_i o ver p j
   obtain⟨ob,ho,hr⟩:=aZ hr;have hnf:ob.isFz=false:=by cases ob<;>first|rfl|simp[Rd.run]at hr
   have hx:=aP ho hx hnf
   clear hnf;cases ob with
   |tr ver' es d =>
    simp only at hr;split at hr
    ·rename_i hv
     split at hr
     ·rename_i x hx1
      obtain⟨nd,u,b,n,c,q1,q2,q3,q4,rfl⟩:=hx.2 hv.symm;obtain⟨_,_,x',k1,k2,_⟩:=lS (h.ob o _ ho) q1 q2;rw[hx1]at k1;cases k1;have hn:=k2.len q3
      subst hn;split at hr
      ·rename_i k l hl
       have hxi:x=.ints k l:=by
        cases x<;>simp only[wt,reduceCtorEq,AC,BB]at hl
        obtain⟨rfl,rfl⟩:=hl;rfl
       subst hxi;simp only[Rd.run,aN,AC]at hr;subst hr;obtain⟨e,_,k3⟩:=Hz k2;have hj:j<l.length:=OY k2 q4
       exact⟨rfl,_,hone b j _ (by rw[iV k3 (b:=b) (by rw[q3];rfl) j hj];simp[hj];rfl),by simp[aw,ai,List.getD,hj]⟩
      ·split at hr
       ·rename_i y hy
        simp only[Rd.run,aN,AC]at hr;subst hr;have q5:j<x.cn:=HA k2 q4
        obtain⟨e,e2,es',_,k3,v,k4,k5⟩:=OX k2 hy q5;refine⟨rfl,aK v,hone b j _ (by rw[w5 k3 (b:=b) (by rw[q3];rfl) j q5,Aj,k4];rfl),k5.one,?_⟩
        have:(σ.env C.wF mu).st o=.live (Ob.tr ver' es d).shp:=cr ho
        rw[this];exact⟨hx.1,fun _=>⟨nd,v,q1,OW q2 k4,rfl⟩⟩
       ·simp[Rd.run]at hr
     ·simp[Rd.run]at hr
    ·simp[Rd.run]at hr
   |_=>simp[Rd.run]at hr
  ·simp[Rd.run]at hr
end
end Go.Sx
end
