/- SxD -/
import Derived.Test.YtkmldclpaniclaaSxC
namespace Go.Sx
open Go.RowKit
set_option linter.unusedSimpArgs false
def State.app (σ:State) (dst:Option Nat) (e:Eff):State :=
 ⟨match dst with
  | some d=>(d,e.val)::σ.fr
  | none=>σ.fr,e.hp++σ.hp⟩
theorem aP {α:Type} (k:Nat) (v:α) (l:List (Nat×α)) (t:Nat):lk ((k,v)::l) t=if k=t then some v else lk l t:=by
 simp only [lk];cases h:Nat.beq k t with
 | true=>have:=Nat.eq_of_beq_eq_true h;simp [this]
 | false=>have:=Nat.ne_of_beq_eq_false h;simp [this]
theorem Mw (a:Act) (dst:Option Nat) (v:Value) (t:Nat) :
  (a.put dst v).tmps.getD t undef=if dst=some t∧t<a.tmps.size then v else a.tmps.getD t undef:=by
 cases dst with
 | none=>simp [Act.put]
 | some d =>
  simp only [Act.put,Option.some.injEq];by_cases h:d=t
  ·subst h
   by_cases hs:d<a.tmps.size <;> simp [Array.getD,hs]
  ·simp [h,Array.getD_eq_getD_getElem?,Array.getElem?_setIfInBounds_ne h]
theorem rH (a:Act) (dst:Option Nat) (v:Value):(a.put dst v).tmps.size=a.tmps.size:=by cases dst <;> simp [Act.put]
theorem rI (a:Act) (dst:Option Nat) (v:Value):(a.put dst v).defers=a.defers:=by cases dst <;> simp [Act.put]
section
variable {C:Cx} {σ:State} {mu:Nat→Img} {a:Act} {w:World}
theorem ju {dst:Option Nat} {e:Eff} {t:Nat}:(σ.app dst e).F t=if dst=some t then some e.val else σ.F t:=by
 cases dst with
 | none=>simp [State.app,State.F]
 | some d=>simp [State.app,State.F,aP]
theorem rJ (h:St C σ mu a w) {dst:Option Nat} (hd:∀d,dst=some d→d<C.N) {e:Eff} {v:Value} {E:Env} (hrep:ak C.P E e.val v) :
  ∀t sv,(σ.app dst e).F t=some sv→(σ.F t=some sv∧(a.put dst v).tmps.getD t undef=a.tmps.getD t undef)∨ak C.P E sv ((a.put dst v).tmps.getD t undef):=by
 intro t sv ht
 rw [ju] at ht;rw [Mw];by_cases hdt:dst=some t
 ·have hlt:=hd t hdt
  rw [if_pos hdt] at ht;rw [if_pos ⟨hdt,by rw [h.sz];exact hlt⟩]
  cases ht;exact .inr hrep
 ·rw [if_neg hdt] at ht
  rw [if_neg (fun hc=>hdt hc.1)]
  exact .inl ⟨ht,rfl⟩
theorem St.put_pure (h:St C σ mu a w) {dst:Option Nat} (hd:∀d,dst=some d→d<C.N) {e:Eff} (he:e.hp=[]) {v:Value}
  (hrep:ak C.P (σ.env C.wF mu) e.val v):St C (σ.app dst e) mu (a.put dst v) w:=by
 have hH:∀o,(σ.app dst e).H o=σ.H o:=fun o=>by simp [State.app,State.H,he]
 have hst:(σ.app dst e).ost=σ.ost:=funext fun o=>by simp [State.ost,hH]
 have henv:(σ.app dst e).env C.wF mu=σ.env C.wF mu:=by simp [State.env,hst]
 refine h.upd (fun _=>False) (.refl _) rfl rfl (Nat.le_refl _) (fun _ hs=>hs.elim) (fun _ _ _=>rfl) (fun o=>by rw [hst];exact di.refl _ _) (fun o ob ho=>?_)
  (by rw [rH];exact h.sz) (rI _ _ _) ?_
 ·rw [hH] at ho;exact .inl ⟨ho,rfl,fun _ _ hs=>hs⟩
 ·rw [henv];exact rJ h hd hrep
theorem fQ {α β:Type} {f:α→Option β}:∀{l:List α} {r:List β},dz f l=some r→r.length=l.length∧∀(i:Nat) (y:β),r[i]?=some y→∃x,l[i]?=some x∧f x=some y
 | [],r,h=>by simp [dz] at h;subst h;simp
 | x::l,r,h=>by
  simp only [dz] at h;split at h
  ·rename_i y hy
   split at h
   ·rename_i ys hys
    simp at h;subst h
    obtain ⟨h1,h2⟩:=fQ hys;refine ⟨by simp [h1],fun i z hz=>?_⟩
    cases i with
    | zero=>simp at hz;subst hz;exact ⟨x,by simp,hy⟩
    | succ i=>simp at hz;obtain ⟨x',h3,h4⟩:=h2 i z hz;exact ⟨x',by simpa using h3,h4⟩
   ·cases h
  ·cases h
theorem yQ {E:Env} {v:Value} {c:SC} (h:lY v=some c):ac E c v∧v.oneCell'=true∧v.cells=#[v]∧c.plain=true:=by
 unfold lY at h;split at h <;> cases h <;> simp [ac,Value.oneCell',Value.cells,SC.plain]
theorem gt {α:Type} {x:Operand} {k:SV→Rd α} {r:α} (hr:(eh x k).run σ=some r) (h:St C σ mu a w) :
  ∃sv,(k sv).run σ=some r∧ak C.P (σ.env C.wF mu) sv (a.eval x):=by
 cases x with
 | tmp t =>
  simp only [eh,Rd.run] at hr;split at hr
  ·rename_i sv hsv;exact ⟨sv,hr,h.fr t sv hsv⟩
  ·cases hr
 | const v =>
  have key:∀c,lY v=some c→(k (.c c)).run σ=some r→∃sv,(k sv).run σ=some r∧ak C.P (σ.env C.wF mu) sv (a.eval (.const v)) :=
   fun c hc hk=>⟨_,hk,(yQ hc).1⟩
  cases v with
  | agg cs =>
   simp only [eh] at hr;split at hr
   ·rename_i l hl
    obtain ⟨h1,h2⟩:=fQ hl;refine ⟨_,hr,cs,rfl,by simpa using h1.symm,fun i c hc=>?_⟩
    obtain ⟨x,h3,h4⟩:=h2 i c hc;have:=yQ (E:=σ.env C.wF mu) h4
    exact ⟨x,by simpa using h3,this.2.1,this.1⟩
   ·simp [Rd.run] at hr
  | nilFunc=>exact ⟨.c .any,hr,trivial⟩
  | _ =>
   simp only [eh] at hr;split at hr
   ·rename_i c hc;exact key c hc hr
   ·simp [Rd.run] at hr
 | global g=>simp [eh,Rd.run] at hr
 | func f=>exact ⟨_,hr,#[],rfl,by simp [cw]⟩
theorem rK {o:Nat} {ob:Ob} {m m':Img} (h:σ.H o=some (some ob)):di (σ.ost o) .dead m m':=by
 simp only [State.ost,h];cases ob <;> trivial
theorem kC {α:Type} {ob:Ob} {k:Rd α} {r:α} (hr:(iQ ob k).run σ=some r):ob.isFz=false∧k.run σ=some r:=by
 unfold iQ at hr;split at hr
 ·simp [Rd.run] at hr
 ·exact ⟨by assumption,hr⟩
theorem nL {ob:Ob} (hf:ob.isFz=false:=by first | rfl | assumption):dw ob=.live ob.shp:=by cases ob <;> first | rfl | cases hf
theorem eK {o:Nat} {d:FC} (h:σ.H o=some (some (.frz d))):σ.ost o=.frz d:=by simp [State.ost,h,dw]
theorem Mx {α:Type} {c:SC} {k:SC→Rd α} {r:α} (hr:(xv c k).run σ=some r) {v:Value} (hv:ac (σ.env C.wF mu) c v) :
  ∃c',(k c').run σ=some r∧ac (σ.env C.wF mu) c' v:=by
 have two:∀{o:Nat} {K:Ob→Rd α},(Rd.h o K).run σ=some r→∃ob,σ.H o=some (some ob)∧(K ob).run σ=some r:=fun {o K} hr=>by
  simp only [Rd.run] at hr;split at hr
  ·rename_i ob hob;exact ⟨ob,hob,hr⟩
  ·cases hr
  ·cases hr
 unfold xv at hr;split at hr
 ·obtain ⟨ob,ho,hr⟩:=two hr
  split at hr
  ·refine ⟨_,hr,?_⟩
   have h2:=hv.2
   have e:(σ.env C.wF mu).st _=.frz _:=eK ho
   rw [e] at h2;exact h2
  ·exact ⟨_,hr,hv⟩
 ·obtain ⟨ob,ho,hr⟩:=two hr
  split at hr
  ·have h2:=hv.2
   have e:(σ.env C.wF mu).st _=.frz _:=eK ho
   rw [e] at h2;obtain ⟨d',h3,h4⟩:=h2;rw [h3] at hr;exact ⟨_,hr,h4⟩
  ·exact ⟨_,hr,hv⟩
 ·obtain ⟨ob,ho,hr⟩:=two hr
  split at hr
  ·have h2:=hv.2
   have e:(σ.env C.wF mu).st _=.frz _:=eK ho
   rw [e] at h2;obtain ⟨d',h3,h4⟩:=h2;rw [h3] at hr;exact ⟨_,hr,h4⟩
  ·exact ⟨_,hr,hv⟩
 ·exact ⟨_,hr,hv⟩
theorem cd {α:Type} {x:Operand} {k:SC→Rd α} {r:α} (hr:(b6 x k).run σ=some r) (h:St C σ mu a w) :
  ∃c,(k c).run σ=some r∧ac (σ.env C.wF mu) c (a.eval x):=by
 obtain ⟨sv,h1,h2⟩:=gt hr h;cases sv with
 | c c=>exact Mx h1 h2
 | _=>simp [Rd.run] at h1
theorem aG {α:Type} {o:Nat} {k:Ob→Rd α} {r:α} (hr:(Rd.h o k).run σ=some r):∃ob,σ.H o=some (some ob)∧(k ob).run σ=some r:=by
 simp only [Rd.run] at hr;split at hr
 ·rename_i ob hob;exact ⟨ob,hob,hr⟩
 ·cases hr
 ·cases hr
theorem bD {α:Type} {o:Nat} {k:Rd α} {r:α} (hr:(Rd.abs o k).run σ=some r):σ.H o=none∧k.run σ=some r:=by
 simp only [Rd.run] at hr;split at hr
 ·rename_i hob;exact ⟨hob,hr⟩
 ·cases hr
theorem bL {o:Nat} {ob:Ob} (h:σ.H o=some (some ob)) (hf:ob.isFz=false:=by first | rfl | assumption):σ.ost o=.live ob.shp:=by
 simp only [State.ost,h];exact nL hf
theorem kD {E:Env} {P:Program} {wr:Bool} {k:IntKind} {r:Int} (h:(fN wr k r).obl) :
  (fN wr k r).hp=[]∧ak P E (fN wr k r).val (.int k (k.wrap r)):=by
 unfold fN at *;split at h
 ·refine ⟨rfl,?_⟩
  have:IntKind.i64.wrap r=r:=by rw [IntKind.wrap_i64];obtain ⟨h1,h2⟩:=h;omega
  rw [this];exact rfl
 ·exact ⟨rfl,rfl⟩
theorem My {P:Program} {t:TypeId} (h:xw P t=true):P.underlying t=some .bool:=by
 unfold xw at h;split at h
 ·assumption
 ·cases h
theorem nM {w:World} {a:Option Addr} {n c m:Nat} {R:Nat→Value→Prop} (h:bl w (.slice a n c) m R) (hm:m≠0):a.isNone=false:=by
 obtain ⟨a',c',h1,_,h2⟩:=h;cases h1;obtain ⟨b,off,h3,_⟩:=h2 (by omega)
 rw [h3];rfl
theorem E7 {w:World} {d:FC} {a:Option Addr} {n c:Nat} (h:aX w (.slice a n c) d) (hd:d.len≠0):a.isNone=false:=by
 cases d with
 | int k n=>exact absurd rfl hd
 | bool b=>exact absurd rfl hd
 | str l=>cases h
 | ints k l=>exact nM h hd
 | bools l=>exact nM h hd
 | rows k l=>exact nM h hd
 | r3 k l=>exact nM h hd
 | r4 k l=>exact nM h hd
theorem rL {a:Int} (h:0≤a∧a≤9223372036854775807):(BitVec.ofInt IntKind.i64.bits a).toNat=a.toNat:=by
 show (BitVec.ofInt 64 a).toNat=a.toNat
 rw [BitVec.toNat_ofInt];have:a % ((2 ^ 64:Nat):Int)=a:=Int.emod_eq_of_lt h.1 (by omega)
 rw [this]
theorem Mz {a b:Int} (ha:0≤a∧a≤9223372036854775807) (hb:0≤b∧b≤9223372036854775807) :
  IntKind.i64.wrap ((BitVec.ofInt IntKind.i64.bits a &&& BitVec.ofInt IntKind.i64.bits b).toNat:Int)=((a.toNat &&& b.toNat:Nat):Int):=by
 rw [BitVec.toNat_and,rL ha,rL hb];have:a.toNat &&& b.toNat≤a.toNat:=Nat.and_le_left
 rw [IntKind.wrap_i64];omega
theorem MB {a b:Int} (ha:0≤a∧a≤9223372036854775807) (hb:0≤b∧b≤9223372036854775807) :
  IntKind.i64.wrap ((BitVec.ofInt IntKind.i64.bits a ||| BitVec.ofInt IntKind.i64.bits b).toNat:Int)=((a.toNat ||| b.toNat:Nat):Int):=by
 rw [BitVec.toNat_or,rL ha,rL hb];have:a.toNat ||| b.toNat<2 ^ 63:=Nat.or_lt_two_pow (by omega) (by omega)
 rw [IntKind.wrap_i64];omega
theorem E8 {a:Int} (h:0≤a∧a≤18446744073709551615):(BitVec.ofInt IntKind.u64.bits a).toNat=a.toNat:=by
 show (BitVec.ofInt 64 a).toNat=a.toNat
 rw [BitVec.toNat_ofInt];have:a % ((2 ^ 64:Nat):Int)=a:=Int.emod_eq_of_lt h.1 (by omega)
 rw [this]
theorem ME {a b:Int} (ha:0≤a∧a≤18446744073709551615) (hb:0≤b∧b≤18446744073709551615) :
  IntKind.u64.wrap ((BitVec.ofInt IntKind.u64.bits a &&& BitVec.ofInt IntKind.u64.bits b).toNat:Int)=((a.toNat &&& b.toNat:Nat):Int):=by
 rw [BitVec.toNat_and,E8 ha,E8 hb];have:a.toNat &&& b.toNat≤a.toNat:=Nat.and_le_left
 exact IntWalk.u64_in _ (by omega)
theorem MF {P:Program} {E:Env} {op:BinOp} {cx cy:SC} {vx vy:Value} {eff:Eff} {t:TypeId} (hop:xy op cx cy=true) (hr:(xz cx cy).run σ=some eff) (hob:eff.obl)
  (hx:ac E cx vx) (hy:ac E cy vy) (x y:Operand) (w:World) :
  eff.hp=[]∧∃v,(do eqGuard op t x y vx vy;binOp op t vx vy:Sem Value).run P w=.ok v w∧ak P E eff.val v:=by
 unfold xy at hop;split at hop
 ·simp only [xz,Rd.run,Option.some.injEq] at hr
  subst hr;obtain ⟨ha,hb⟩:=hob;simp only [ac] at hx hy;subst hx;subst hy;rename_i a b;refine ⟨rfl,.int .u64 (IntKind.u64.wrap ((BitVec.ofInt IntKind.u64.bits a &&& BitVec.ofInt IntKind.u64.bits b).toNat:Int)),?_,by rw [ME ha hb];rfl⟩
  simp [binOp,Op.intBits,eqGuard_at_int]
 ·cases hop
theorem MG {P:Program} {E:Env} {wr:Bool} {op:BinOp} {cx cy:SC} {vx vy:Value} {eff:Eff} {t:TypeId} (hr:(xx wr op cx cy).run σ=some eff) (hob:eff.obl)
  (hx:ac E cx vx) (hy:ac E cy vy) (x y:Operand) (w:World) :
  eff.hp=[]∧∃v,(do eqGuard op t x y vx vy;binOp op t vx vy:Sem Value).run P w=.ok v w∧ak P E eff.val v:=by
 unfold xx at hr;split at hr
 ·rename_i a k' b
  simp only [ac] at hx hy;subst hx;subst hy;split at hr
  ·simp only [Rd.run,Option.some.injEq] at hr
   subst hr;obtain ⟨⟨hb0,hb⟩,h3⟩:=hob;obtain ⟨_,h2⟩:=kD (P:=P) (E:=E) h3;have hn:¬ b<0:=by omega
   have hm:min b.toNat IntKind.i64.bits=b.toNat:=by show min b.toNat 64=b.toNat;omega
   exact ⟨rfl,_,by simp [binOp,Op.shift,eqGuard_at_int,hn,hm],h2⟩
  ·simp only [Rd.run,Option.some.injEq] at hr
   subst hr;obtain ⟨hb0,hb⟩:=hob;have hn:¬ b<0:=by omega
   have hm:min b.toNat IntKind.i64.bits=b.toNat:=by show min b.toNat 64=b.toNat;omega
   have hf:a.fdiv (2 ^ b.toNat)=a / 2 ^ b.toNat:=Int.fdiv_eq_ediv_of_nonneg _ (Int.le_of_lt (Int.pow_pos (by omega)))
   exact ⟨rfl,.int .i64 (a / 2 ^ b.toNat),by simp [binOp,Op.shift,eqGuard_at_int,hn,hm,hf],rfl⟩
  ·simp [Rd.run] at hr
 ·rename_i a k' b
  simp only [ac] at hx hy;subst hx;subst hy;split at hr
  ·simp only [Rd.run,Option.some.injEq] at hr
   subst hr;obtain ⟨hb0,hb⟩:=hob;have hn:¬ b<0:=by omega
   have hm:min b.toNat IntKind.u64.bits=b.toNat:=by show min b.toNat 64=b.toNat;omega
   have hf:a.fdiv (2 ^ b.toNat)=a / 2 ^ b.toNat:=Int.fdiv_eq_ediv_of_nonneg _ (Int.le_of_lt (Int.pow_pos (by omega)))
   exact ⟨rfl,.int .u64 (a / 2 ^ b.toNat),by simp [binOp,Op.shift,eqGuard_at_int,hn,hm,hf],rfl⟩
  ·simp [Rd.run] at hr
 ·simp [Rd.run] at hr
theorem MH {P:Program} {E:Env} {cx cy:SC} {vx vy:Value} {eff:Eff} (hr:(yL cx cy).run σ=some eff) (hx:ac E cx vx) (hy:ac E cy vy) (ts:Array TypeId) (ty:TypeId) (w:World) :
  eff.hp=[]∧∃v,(Builtin.min_ ts ty #[vx,vy]).run P w=.ok v w∧ak P E eff.val v:=by
 unfold yL at hr;split at hr
 ·rename_i k a k' b
  simp only [ac] at hx hy;subst hx;subst hy;split at hr
  ·rename_i hk
   subst hk;simp only [Rd.run,Option.some.injEq] at hr;subst hr;exact ⟨rfl,_,by simp [Builtin.min_,Builtin.min2],rfl⟩
  ·simp [Rd.run] at hr
 ·simp [Rd.run] at hr
theorem MJ {P:Program} {E:Env} {cx cy:SC} {vx vy:Value} {eff:Eff} (hr:(yM cx cy).run σ=some eff) (hx:ac E cx vx) (hy:ac E cy vy) (ts:Array TypeId) (ty:TypeId) (w:World) :
  eff.hp=[]∧∃v,(Builtin.max_ ts ty #[vx,vy]).run P w=.ok v w∧ak P E eff.val v:=by
 unfold yM at hr;split at hr
 ·rename_i k a k' b
  simp only [ac] at hx hy;subst hx;subst hy;split at hr
  ·rename_i hk
   subst hk;simp only [Rd.run,Option.some.injEq] at hr;subst hr;exact ⟨rfl,_,by simp [Builtin.max_,Builtin.max2],rfl⟩
  ·simp [Rd.run] at hr
 ·simp [Rd.run] at hr
theorem MK {P:Program} {E:Env} {wr:Bool} {op:BinOp} {cx cy:SC} {vx vy:Value} {eff:Eff} {t:TypeId} (hr:(xA P t wr op cx cy).run σ=some eff) (hob:eff.obl)
  (hx:ac E cx vx) (hy:ac E cy vy) (x y:Operand) (w:World) :
  eff.hp=[]∧∃v,(do eqGuard op t x y vx vy;binOp op t vx vy:Sem Value).run P w=.ok v w∧ak P E eff.val v:=by
 unfold xA at hr;split at hr
 ·exact MG hr hob hx hy x y w
 split at hr
 ·rename_i hop
  exact MF hop hr hob hx hy x y w
 rename_i hopf;clear hopf;split at hr
 ·rename_i k a k' b
  simp only [ac] at hx hy;subst hx;subst hy;split at hr
  ·rename_i hk
   subst hk;cases op <;> simp only [Rd.run,aA,Option.some.injEq,reduceCtorEq] at hr <;> subst hr
   ·obtain ⟨h1,h2⟩:=kD (P:=P) (E:=E) hob
    exact ⟨h1,_,by simp [binOp,Op.intArith,eqGuard_at_int],h2⟩
   ·obtain ⟨h1,h2⟩:=kD (P:=P) (E:=E) hob
    exact ⟨h1,_,by simp [binOp,Op.intArith,eqGuard_at_int],h2⟩
   ·obtain ⟨h1,h2⟩:=kD (P:=P) (E:=E) hob
    exact ⟨h1,_,by simp [binOp,Op.intArith,eqGuard_at_int],h2⟩
   ·obtain ⟨h1,h2⟩:=kD (P:=P) (E:=E) hob.2
    have hne:b≠0:=hob.1
    exact ⟨rfl,_,by simp [binOp,Op.intDiv,eqGuard_at_int,hne],h2⟩
   ·have hne:b≠0:=hob
    exact ⟨rfl,_,by simp [binOp,Op.intDiv,eqGuard_at_int,hne],rfl⟩
   ·obtain ⟨hk,ha,hb⟩:=hob
    subst hk;refine ⟨rfl,.int .i64 (IntKind.i64.wrap ((BitVec.ofInt IntKind.i64.bits a &&& BitVec.ofInt IntKind.i64.bits b).toNat:Int)),?_,by rw [Mz ha hb];rfl⟩
    simp [binOp,Op.intBits,eqGuard_at_int]
   ·obtain ⟨hk,ha,hb⟩:=hob
    subst hk;refine ⟨rfl,.int .i64 (IntKind.i64.wrap ((BitVec.ofInt IntKind.i64.bits a ||| BitVec.ofInt IntKind.i64.bits b).toNat:Int)),?_,by rw [MB ha hb];rfl⟩
    simp [binOp,Op.intBits,eqGuard_at_int]
   all_goals exact ⟨rfl,_,by simp [binOp,Op.intCmp,eqGuard_at_int],rfl⟩
  ·simp [Rd.run] at hr
 ·rename_i a b
  simp only [ac] at hx hy;subst hx;subst hy;split at hr
  ·rename_i hb
   have hb:=My hb
   cases op <;> simp only [Rd.run,aA,Option.some.injEq,reduceCtorEq] at hr <;> subst hr
   ·exact ⟨rfl,_,by simp [eqGuard_at_bool,run_eql_bool (P:=P) w t a b hb],rfl⟩
   ·exact ⟨rfl,_,by simp [eqGuard_at_bool,run_neq_bool (P:=P) w t a b hb],rfl⟩
  ·simp [Rd.run] at hr
 ·rename_i a b
  simp only [ac] at hx hy;subst hx;subst hy;cases op <;> simp only [Rd.run,aA,Option.some.injEq,reduceCtorEq] at hr <;> subst hr
  ·have hlt:¬ ((9223372036854775807:Int)<((⟨a.toArray⟩:ByteArray).size:Int)+((⟨b.toArray⟩:ByteArray).size:Int)):=by
    have h1:(⟨a.toArray⟩:ByteArray).size=a.length:=by simp [ByteArray.size]
    have h2:(⟨b.toArray⟩:ByteArray).size=b.length:=by simp [ByteArray.size]
    have h3:a.length+b.length≤1099511627776:=hob
    rw [h1,h2];omega
   refine ⟨rfl,.string (⟨a.toArray⟩++⟨b.toArray⟩),by simp [binOp,Op.stringOp,eqGuard_at_string,hlt],?_⟩
   have:(⟨a.toArray⟩++⟨b.toArray⟩:ByteArray)=⟨(a++b).toArray⟩:=by
    apply ByteArray.ext;simp
   simp [ak,ac,this]
  ·exact ⟨rfl,_,by simp [binOp,Op.stringOp,eqGuard_at_string],rfl⟩
  ·exact ⟨rfl,_,by simp [binOp,Op.stringOp,eqGuard_at_string],rfl⟩
 ·rename_i b
  obtain ⟨a,n,c,rfl,hb⟩:=hx;simp only [ac] at hy;subst hy;split at hr
  ·rename_i e he
   have hu:P.underlying t=some (.slice e):=by
    unfold bP at he;split at he
    ·cases he;assumption
    ·cases he
   have hg:(eqGuard op t x y (.slice a n c) (.slice none 0 0)).run P w=.ok () w:=by
    unfold eqGuard;split <;> rfl
   cases op <;> simp only [Rd.run,aA,Option.some.injEq,reduceCtorEq] at hr <;> subst hr
   ·refine ⟨rfl,.bool a.isNone,?_,by rw [hb];rfl⟩
    rw [Sem.run_bind,hg];exact Lib.run_eql_slice_nil w t e a n c 0 0 hu
   ·refine ⟨rfl,.bool (!a.isNone),?_,by rw [hb];rfl⟩
    rw [Sem.run_bind,hg];exact Go.run_neq_slice_nil_any w t e a n c 0 0 hu
  ·simp [Rd.run] at hr
 ·rename_i d
  obtain ⟨⟨a,n,c,rfl,_⟩,hrd⟩:=hx;simp only [ac] at hy;subst hy;split at hr
  ·rename_i e he
   have hu:P.underlying t=some (.slice e):=by
    unfold bP at he;split at he
    ·cases he;assumption
    ·cases he
   have hg:(eqGuard op t x y (.slice a n c) (.slice none 0 0)).run P w=.ok () w:=by
    unfold eqGuard;split <;> rfl
   cases op <;> simp only [Rd.run,aA,Option.some.injEq,reduceCtorEq] at hr <;> subst hr
   ·have hb:=E7 hrd hob
    refine ⟨rfl,.bool a.isNone,?_,by rw [hb];rfl⟩
    rw [Sem.run_bind,hg];exact Lib.run_eql_slice_nil w t e a n c 0 0 hu
   ·have hb:=E7 hrd hob
    refine ⟨rfl,.bool (!a.isNone),?_,by rw [hb];rfl⟩
    rw [Sem.run_bind,hg];exact Go.run_neq_slice_nil_any w t e a n c 0 0 hu
  ·simp [Rd.run] at hr
 ·simp [Rd.run] at hr
theorem MM {P:Program} {E:Env} {wr:Bool} {op:UnOp} {cx:SC} {vx:Value} {eff:Eff} (hr:(xB wr op cx).run σ=some eff) (hob:eff.obl)
  (hx:ac E cx vx) (w:World):eff.hp=[]∧∃v,(Op.unary op vx).run P w=.ok v w∧ak P E eff.val v:=by
 unfold xB at hr;split at hr
 ·simp only [ac] at hx
  simp only [Rd.run,Option.some.injEq] at hr;subst hx;subst hr;obtain ⟨h1,h2⟩:=kD (P:=P) (E:=E) hob;exact ⟨h1,_,by simp [Op.unary,Op.intArith],h2⟩
 ·simp only [ac] at hx
  simp only [Rd.run,aA,Option.some.injEq] at hr;subst hx;subst hr;exact ⟨rfl,_,by simp [Op.unary],rfl⟩
 ·simp [Rd.run] at hr
theorem yR {P:Program} {t:TypeId} {k:IntKind} (h:iR P t=some k):P.underlying t=some (.int k):=by
 unfold iR at h;split at h
 ·cases h;assumption
 ·cases h
theorem MN {P:Program} {E:Env} {wr:Bool} {src dst:TypeId} {cx:SC} {vx:Value} {eff:Eff} (hr:(xC P wr src dst cx).run σ=some eff) (hob:eff.obl)
  (hx:ac E cx vx) (w:World):eff.hp=[]∧∃v,(convert src dst vx).run P w=.ok v w∧ak P E eff.val v:=by
 unfold xC at hr;split at hr
 ·simp only [ac] at hx
  subst hx;split at hr
  ·rename_i d hd
   split at hr
   ·rename_i k hk
    simp only [Rd.run,Option.some.injEq] at hr;subst hr;obtain ⟨h1,h2⟩:=kD (P:=P) (E:=E) hob;refine ⟨h1,_,?_,h2⟩
    simp [convert,run_underlying hd,run_underlying (yR hk),Conv.intToInt]
   ·simp [Rd.run] at hr
  ·simp [Rd.run] at hr
 ·simp [Rd.run] at hr
theorem rM {P:Program} {t:TypeId} {b:Bool} (h:ku P t=some b) (w:World):(isAgg t).run P w=.ok b w:=by
 unfold ku at h;unfold isAgg;split at h
 ·rename_i hu;cases h;simp [run_underlying hu]
 ·rename_i hu;cases h;simp [run_underlying hu]
 ·rename_i d _ _ hu
  cases h;rw [Sem.run_bind,run_underlying hu];cases d <;> simp_all
 ·cases h
theorem gN {P:Program} {t:TypeId} {n:Nat} (h:cP P t=some n) (w:World):(sizeOf t).run P w=.ok n w:=by
 unfold cP at h;split at h
 ·rename_i i hi;cases h;simp [sizeOf,typeInfo,hi]
 ·cases h
theorem gu {P:Program} {t e:TypeId} (h:bP P t=some e):P.underlying t=some (.slice e):=by
 unfold bP at h;split at h
 ·cases h;assumption
 ·cases h
theorem E9 {P:Program} {t:TypeId} (ha:ku P t=some false) {p:Addr} {u:Value} (hp:w.cell? p=some u):(loadVar t p).run P w=.ok u w:=by
 simp [loadVar,rM ha,hp]
theorem Fa {P:Program} {t:TypeId} (ha:ku P t=some true) {b i n:Nat} (hn:cP P t=some n) {cs:List Value} (hl:cs.length=n)
  (hc:∀(j:Nat) (u:Value),cs[j]?=some u→w.cell? ⟨b,i+j,none⟩=some u):(loadVar t ⟨b,i,none⟩).run P w=.ok (.agg cs.toArray) w:=by
 have hl':=run_loadCells_list (P:=P) w ⟨b,i,none⟩ cs (fun j v hv=>by rw [Addr.add_lit];exact hc j v hv)
 rw [hl] at hl';simp [loadVar,rM ha,gN hn,hl']
end
end Go.Sx
