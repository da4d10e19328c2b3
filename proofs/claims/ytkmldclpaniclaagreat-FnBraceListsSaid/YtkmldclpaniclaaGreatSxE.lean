/- SxE -/
import Derived.Test.YtkmldclpaniclaaGreatSxC
set_option linter.unusedSimpArgs false
set_option linter.unusedVariables false
set_option linter.defProp false
section
namespace Go.Sx
open Go.RowKit
set_option linter.unusedSimpArgs false
def State.app(σ:State)(dst:Option Nat)(e:Eff):State :=
 ⟨match dst with
  |some d=>(d,e.val)::σ.fr
  |none=>σ.fr,e.hp++σ.hp⟩
def bv{α:Type}(k:Nat)(v:α)(l:List (Nat×α))(t:Nat):lk ((k,v)::l) t=if k=t then some v else lk l t:=by
 simp only[lk];cases h:Nat.beq k t with
 |true=>have:=AY h;simp[this]
 |false=>have:=CH h;simp[this]
def ai7(a:Act)(dst:Option Nat)(v:Value)(t:Nat) :
  (a.put dst v).tmps.getD t undef=if dst=some t/\t<a.tmps.size then v else a.tmps.getD t undef:=by
 cases dst with
 |none=>simp[Act.put]
 |some d =>
  simp only[Act.put,AC];by_cases h:d=t
  ·subst h
   by_cases hs:d<a.tmps.size<;>simp[Array.getD,hs]
  ·simp[h,BJ,CJ h]
def xv(a:Act)(dst:Option Nat)(v:Value):(a.put dst v).tmps.size=a.tmps.size:=by cases dst<;>simp[Act.put]
def xw(a:Act)(dst:Option Nat)(v:Value):(a.put dst v).defers=a.defers:=by cases dst<;>simp[Act.put]
section
variable {C:Cx} {σ:State} {mu:Nat->Img} {a:Act} {w:World}
def mf{dst:Option Nat}{e:Eff}{t:Nat}:(σ.app dst e).F t=if dst=some t then some e.val else σ.F t:=by
 cases dst with
 |none=>simp[State.app,State.F]
 |some d=>simp[State.app,State.F,bv]
def xx(h:St C σ mu a w){dst:Option Nat}(hd:∀d,dst=some d->d<C.N){e:Eff}{v:Value}{E:Env}(χ:aA C.P E e.val v) :
  ∀t sv,(σ.app dst e).F t=some sv->(σ.F t=some sv/\(a.put dst v).tmps.getD t undef=a.tmps.getD t undef)\/aA C.P E sv ((a.put dst v).tmps.getD t undef):=by
 intro t sv ht
 rw[mf]at ht;rw[ai7];by_cases hdt:dst=some t
 ·have ψ:=hd t hdt
  rw[AA hdt]at ht;rw[AA ⟨hdt,by rw[h.sz];exact ψ⟩]
  cases ht;exact .inr χ
 ·rw[AB hdt]at ht
  rw[AB (λhc=>hdt hc.1)]
  exact .inl ⟨ht,rfl⟩
theorem St.put_pure(h:St C σ mu a w){dst:Option Nat}(hd:∀d,dst=some d->d<C.N){e:Eff}(he:e.hp=[]){v:Value}
  (χ:aA C.P (σ.env C.wF mu) e.val v):St C (σ.app dst e) mu (a.put dst v) w:=by
 have hH:∀o,(σ.app dst e).H o=σ.H o:=λo=>by simp[State.app,State.H,he]
 have hst:(σ.app dst e).ost=σ.ost:=funext λo=>by simp[State.ost,hH]
 have henv:(σ.app dst e).env C.wF mu=σ.env C.wF mu:=by simp[State.env,hst]
 refine h.upd (λ_=>False) (.refl _) rfl rfl (AE _) (λ_ hs=>hs.elim) (λ_ _ _=>rfl) (λo=>by rw[hst];exact d5.refl _ _) (λo ob ho=>?_)
  (by rw[xv];exact h.sz) (xw _ _ _) ?_
 ·rw[hH]at ho;exact .inl ⟨ho,rfl,λ_ _ hs=>hs⟩
 ·rw[henv];exact xx h hd χ
def iB{α β:Type}{f:α->Option β}:∀{l:List α} {r:List β},eM f l=some r->r.length=l.length/\∀(i:Nat) (y:β),r[i]?=some y->∃x,l[i]?=some x/\f x=some y
 | [],r,h=>by simp[eM]at h;subst h;simp
 |x::l,r,h=>by
  simp only[eM]at h;split at h
  ·rename_i y hy
   split at h
   ·rename_i ys hys
    simp at h;subst h
    obtain⟨h1,h2⟩:=iB hys;refine⟨by simp[h1],λi z hz=>?_⟩
    cases i with
    |zero=>simp at hz;subst hz;exact⟨x,by simp,hy⟩
    |succ i=>simp at hz;obtain⟨x',h3,h4⟩:=h2 i z hz;exact⟨x',by simpa using h3,h4⟩
   ·cases h
  ·cases h
def IY{E:Env}{v:Value}{c:SC}(h:pz v=some c):ak E c v/\v.oneCell'=true/\v.cells=#[v]/\c.plain=true:=by
 unfold pz at h;split at h<;>cases h<;>simp[ak,Value.oneCell',Value.cells,SC.plain]
def i6{α:Type}{x:Operand}{k:SV->Rd α}{r:α}(hr:(fQ x k).run σ=some r)(h:St C σ mu a w) :
  ∃sv,(k sv).run σ=some r/\aA C.P (σ.env C.wF mu) sv (a.eval x):=by
 cases x with
 |tmp t =>
  simp only[fQ,Rd.run]at hr;split at hr
  ·rename_i sv hsv;exact⟨sv,hr,h.fr t sv hsv⟩
  ·cases hr
 |const v =>
  have key:∀c,pz v=some c->(k (.c c)).run σ=some r->∃sv,(k sv).run σ=some r/\aA C.P (σ.env C.wF mu) sv (a.eval (.const v)) :=
   λc hc hk=>⟨_,hk,(IY hc).1⟩
  cases v with
  |agg cs =>
   simp only[fQ]at hr;split at hr
   ·rename_i l hl
    obtain⟨h1,h2⟩:=iB hl;refine⟨_,hr,cs,rfl,by simpa using h1.symm,λi c hc=>?_⟩
    obtain⟨x,h3,h4⟩:=h2 i c hc;have:=IY (E:=σ.env C.wF mu) h4
    exact⟨x,by simpa using h3,this.2.1,this.1⟩
   ·cases hr
  |nilFunc=>exact⟨.c .any,hr,trivial⟩
  |_ =>
   simp only[fQ]at hr;split at hr
   ·rename_i c hc;exact key c hc hr
   ·cases hr
 |global g=>simp[fQ,Rd.run]at hr
 |func f=>exact⟨_,hr,#[],rfl,by simp[dp]⟩
def xy{o:Nat}{ob:Ob}{m m':Img}(h:σ.H o=some (some ob)):d5 (σ.ost o) .dead m m':=by
 simp only[State.ost,h];cases ob<;>trivial
def nC{α:Type}{ob:Ob}{k:Rd α}{r:α}(hr:(kZ ob k).run σ=some r):ob.isFz=false/\k.run σ=some r:=by
 unfold kZ at hr;split at hr
 ·cases hr
 ·exact⟨by assumption,hr⟩
def nD{ob:Ob}(hf:ob.isFz=false:=by first|rfl|assumption):eo ob=.live ob.shp:=by cases ob<;>first|rfl|cases hf
def fR{o:Nat}{d:FC}(h:σ.H o=some (some (.frz d))):σ.ost o=.frz d:=by simp[State.ost,h,eo]
def ai8{α:Type}{c:SC}{k:SC->Rd α}{r:α}(hr:(HT c k).run σ=some r){v:Value}(hv:ak (σ.env C.wF mu) c v) :
  ∃c',(k c').run σ=some r/\ak (σ.env C.wF mu) c' v:=by
 have two:∀{o:Nat} {K:Ob->Rd α},(Rd.h o K).run σ=some r->∃ob,σ.H o=some (some ob)/\(K ob).run σ=some r:=fun {o K} hr=>by
  simp only[Rd.run]at hr;split at hr
  ·rename_i ob hob;exact⟨ob,hob,hr⟩
  ·cases hr
  ·cases hr
 unfold HT at hr;split at hr
 ·obtain⟨ob,ho,hr⟩:=two hr
  split at hr
  ·refine⟨_,hr,?_⟩
   have h2:=hv.2
   have e:(σ.env C.wF mu).st _=.frz _:=fR ho
   rw[e]at h2;exact h2
  ·exact⟨_,hr,hv⟩
 ·obtain⟨ob,ho,hr⟩:=two hr
  split at hr
  ·have h2:=hv.2
   have e:(σ.env C.wF mu).st _=.frz _:=fR ho
   rw[e]at h2;obtain⟨d',h3,h4⟩:=h2;rw[h3]at hr;exact⟨_,hr,h4⟩
  ·exact⟨_,hr,hv⟩
 ·obtain⟨ob,ho,hr⟩:=two hr
  split at hr
  ·have h2:=hv.2
   have e:(σ.env C.wF mu).st _=.frz _:=fR ho
   rw[e]at h2;obtain⟨d',h3,h4⟩:=h2;rw[h3]at hr;exact⟨_,hr,h4⟩
  ·exact⟨_,hr,hv⟩
 ·exact⟨_,hr,hv⟩
def db{α:Type}{x:Operand}{k:SC->Rd α}{r:α}(hr:(cY x k).run σ=some r)(h:St C σ mu a w) :
  ∃c,(k c).run σ=some r/\ak (σ.env C.wF mu) c (a.eval x):=by
 obtain⟨sv,h1,h2⟩:=i6 hr h;cases sv with
 |c c=>exact ai8 h1 h2
 |_=>cases h1
def bg{α:Type}{o:Nat}{k:Ob->Rd α}{r:α}(hr:(Rd.h o k).run σ=some r):∃ob,σ.H o=some (some ob)/\(k ob).run σ=some r:=by
 simp only[Rd.run]at hr;split at hr
 ·rename_i ob hob;exact⟨ob,hob,hr⟩
 ·cases hr
 ·cases hr
def cq{α:Type}{o:Nat}{k:Rd α}{r:α}(hr:(Rd.abs o k).run σ=some r):σ.H o=none/\k.run σ=some r:=by
 simp only[Rd.run]at hr;split at hr
 ·rename_i hob;exact⟨hob,hr⟩
 ·cases hr
def cz{o:Nat}{ob:Ob}(h:σ.H o=some (some ob))(hf:ob.isFz=false:=by first|rfl|assumption):σ.ost o=.live ob.shp:=by
 simp only[State.ost,h];exact nD hf
def nE{E:Env}{P:Program}{wr:Bool}{k:IntKind}{r:Int}(h:(iw wr k r).obl) :
  (iw wr k r).hp=[]/\aA P E (iw wr k r).val (.int k (k.wrap r)):=by
 unfold iw at *;split at h
 ·refine⟨rfl,?_⟩
  have:IntKind.i64.wrap r=r:=by rw[IntKind.wrap_i64];obtain⟨h1,h2⟩:=h;omega
  rw[this];exact rfl
 ·exact⟨rfl,rfl⟩
def ai9{P:Program}{t:TypeId}(h:HU P t=true):P.underlying t=some .bool:=by
 unfold HU at h;split at h
 ·assumption
 ·cases h
def rO{w:World}{a:Option Addr}{n c m:Nat}{R:Nat->Value->Prop}(h:bP w (.slice a n c) m R)(hm:m≠0):a.isNone=false:=by
 obtain⟨a',c',h1,_,h2⟩:=h;cases h1;obtain⟨b,off,h3,_⟩:=h2 (by omega)
 rw[h3];rfl
def aj0{w:World}{a:Option Addr}{n c m:Nat}{R:Nat->Value->Prop}(h:gx w (.slice a n c) m R)(hm:m≠0):a.isNone=false:=by
 obtain⟨a',c',h1,_,h2⟩:=h;cases h1;obtain⟨b,off,h3,_⟩:=h2 (by omega)
 rw[h3];rfl
def RB{w:World}{d:FC}{a:Option Addr}{n c:Nat}(h:bu w (.slice a n c) d)(hd:d.len≠0):a.isNone=false:=by
 cases d with
 |int k n=>exact absurd rfl hd
 |bool b=>exact absurd rfl hd
 |str l=>cases h
 |ints k l=>exact rO h hd
 |bools l=>exact rO h hd
 |rows k l=>exact rO h hd
 |r3 k l=>exact rO h hd
 |r4 k l=>exact rO h hd
 |p3 k l=>exact aj0 h hd
def xz{a:Int}(h:0<=a/\a<=9223372036854775807):(BitVec.ofInt IntKind.i64.bits a).toNat=a.toNat:=by
 show(BitVec.ofInt 64 a).toNat=a.toNat
 rw[BitVec.toNat_ofInt];have:a % ((2 ^ 64:Nat):Int)=a:=Int.emod_eq_of_lt h.1 (by omega)
 rw[this]
def aj1{a b:Int}(ha:0<=a/\a<=9223372036854775807)(hb:0<=b/\b<=9223372036854775807) :
  IntKind.i64.wrap ((BitVec.ofInt IntKind.i64.bits a &&& BitVec.ofInt IntKind.i64.bits b).toNat:Int)=((a.toNat &&& b.toNat:Nat):Int):=by
 rw[BitVec.toNat_and,xz ha,xz hb];have:a.toNat &&& b.toNat<=a.toNat:=Nat.and_le_left
 rw[IntKind.wrap_i64];omega
def aj2{a b:Int}(ha:0<=a/\a<=9223372036854775807)(hb:0<=b/\b<=9223372036854775807) :
  IntKind.i64.wrap ((BitVec.ofInt IntKind.i64.bits a ||| BitVec.ofInt IntKind.i64.bits b).toNat:Int)=((a.toNat ||| b.toNat:Nat):Int):=by
 rw[BitVec.toNat_or,xz ha,xz hb];have:a.toNat ||| b.toNat<2 ^ 63:=Nat.or_lt_two_pow (by omega) (by omega)
 rw[IntKind.wrap_i64];omega
def RD{a:Int}(h:0<=a/\a<=18446744073709551615):(BitVec.ofInt IntKind.u64.bits a).toNat=a.toNat:=by
 show(BitVec.ofInt 64 a).toNat=a.toNat
 rw[BitVec.toNat_ofInt];have:a % ((2 ^ 64:Nat):Int)=a:=Int.emod_eq_of_lt h.1 (by omega)
 rw[this]
def aj3{a b:Int}(ha:0<=a/\a<=18446744073709551615)(hb:0<=b/\b<=18446744073709551615) :
  IntKind.u64.wrap ((BitVec.ofInt IntKind.u64.bits a &&& BitVec.ofInt IntKind.u64.bits b).toNat:Int)=((a.toNat &&& b.toNat:Nat):Int):=by
 rw[BitVec.toNat_and,RD ha,RD hb];have:a.toNat &&& b.toNat<=a.toNat:=Nat.and_le_left
 exact IntWalk.u64_in _ (by omega)
def aj4{P:Program}{E:Env}{op:BinOp}{cx cy:SC}{vx vy:Value}{eff:Eff}{t:TypeId}(hop:HW op cx cy=true)(hr:(HX cx cy).run σ=some eff)(hob:eff.obl)
  (hx:ak E cx vx)(hy:ak E cy vy)(x y:Operand)(w:World) :
  eff.hp=[]/\∃v,(do eqGuard op t x y vx vy;binOp op t vx vy:Sem Value).run P w=.ok v w/\aA P E eff.val v:=by
 unfold HW at hop;split at hop
 ·simp only[HX,Rd.run,AC]at hr
  subst hr;obtain⟨ha,hb⟩:=hob;simp only[ak]at hx hy;subst hx;subst hy;rename_i a b;refine⟨rfl,.int .u64 (IntKind.u64.wrap ((BitVec.ofInt IntKind.u64.bits a &&& BitVec.ofInt IntKind.u64.bits b).toNat:Int)),?_,by rw[aj3 ha hb];rfl⟩
  simp[binOp,Op.intBits,eqGuard_at_int]
 ·cases hop
def aj5{P:Program}{E:Env}{wr:Bool}{op:BinOp}{cx cy:SC}{vx vy:Value}{eff:Eff}{t:TypeId}(hr:(HV wr op cx cy).run σ=some eff)(hob:eff.obl)
  (hx:ak E cx vx)(hy:ak E cy vy)(x y:Operand)(w:World) :
  eff.hp=[]/\∃v,(do eqGuard op t x y vx vy;binOp op t vx vy:Sem Value).run P w=.ok v w/\aA P E eff.val v:=by
 unfold HV at hr;split at hr
 ·rename_i a k' b
  simp only[ak]at hx hy;subst hx;subst hy;split at hr
  ·simp only[Rd.run,AC]at hr
   subst hr;obtain⟨⟨hb0,hb⟩,h3⟩:=hob;obtain⟨_,h2⟩:=nE (P:=P) (E:=E) h3;have hn:¬ b<0:=by omega
   have hm:min b.toNat IntKind.i64.bits=b.toNat:=by show min b.toNat 64=b.toNat;omega
   exact⟨rfl,_,by simp[binOp,Op.shift,eqGuard_at_int,hn,hm],h2⟩
  ·simp only[Rd.run,AC]at hr
   subst hr;obtain⟨hb0,hb⟩:=hob;have hn:¬ b<0:=by omega
   have hm:min b.toNat IntKind.i64.bits=b.toNat:=by show min b.toNat 64=b.toNat;omega
   have hf:a.fdiv (2 ^ b.toNat)=a / 2 ^ b.toNat:=Dx _ (Int.le_of_lt (Int.pow_pos (by omega)))
   exact⟨rfl,.int .i64 (a / 2 ^ b.toNat),by simp[binOp,Op.shift,eqGuard_at_int,hn,hm,hf],rfl⟩
  ·cases hr
 ·rename_i a k' b
  simp only[ak]at hx hy;subst hx;subst hy;split at hr
  ·simp only[Rd.run,AC]at hr
   subst hr;obtain⟨hb0,hb⟩:=hob;have hn:¬ b<0:=by omega
   have hm:min b.toNat IntKind.u64.bits=b.toNat:=by show min b.toNat 64=b.toNat;omega
   have hf:a.fdiv (2 ^ b.toNat)=a / 2 ^ b.toNat:=Dx _ (Int.le_of_lt (Int.pow_pos (by omega)))
   exact⟨rfl,.int .u64 (a / 2 ^ b.toNat),by simp[binOp,Op.shift,eqGuard_at_int,hn,hm,hf],rfl⟩
  ·cases hr
 ·cases hr
def aj6{P:Program}{E:Env}{cx cy:SC}{vx vy:Value}{eff:Eff}(hr:(IT cx cy).run σ=some eff)(hx:ak E cx vx)(hy:ak E cy vy)(ts:Array TypeId)(ty:TypeId)(w:World) :
  eff.hp=[]/\∃v,(Builtin.min_ ts ty #[vx,vy]).run P w=.ok v w/\aA P E eff.val v:=by
 unfold IT at hr;split at hr
 ·rename_i k a k' b
  simp only[ak]at hx hy;subst hx;subst hy;split at hr
  ·rename_i hk
   subst hk;simp only[Rd.run,AC]at hr;subst hr;exact⟨rfl,_,by simp[Builtin.min_,Builtin.min2],rfl⟩
  ·cases hr
 ·cases hr
def aj7{P:Program}{E:Env}{cx cy:SC}{vx vy:Value}{eff:Eff}(hr:(IU cx cy).run σ=some eff)(hx:ak E cx vx)(hy:ak E cy vy)(ts:Array TypeId)(ty:TypeId)(w:World) :
  eff.hp=[]/\∃v,(Builtin.max_ ts ty #[vx,vy]).run P w=.ok v w/\aA P E eff.val v:=by
 simp[IU,Rd.run]at hr
def aj8{P:Program}{E:Env}{wr:Bool}{op:BinOp}{cx cy:SC}{vx vy:Value}{eff:Eff}{t:TypeId}(hr:(HY P t wr op cx cy).run σ=some eff)(hob:eff.obl)
  (hx:ak E cx vx)(hy:ak E cy vy)(x y:Operand)(w:World) :
  eff.hp=[]/\∃v,(do eqGuard op t x y vx vy;binOp op t vx vy:Sem Value).run P w=.ok v w/\aA P E eff.val v:=by
 unfold HY at hr;split at hr
 ·exact aj5 hr hob hx hy x y w
 split at hr
 ·rename_i hop
  exact aj4 hop hr hob hx hy x y w
 rename_i hopf;clear hopf;split at hr
 ·rename_i k a k' b
  simp only[ak]at hx hy;subst hx;subst hy;split at hr
  ·rename_i hk
   subst hk;cases op<;>simp only[Rd.run,aS,AC,reduceCtorEq]at hr<;>subst hr
   ·obtain⟨h1,h2⟩:=nE (P:=P) (E:=E) hob
    exact⟨h1,_,by simp[binOp,Op.intArith,eqGuard_at_int],h2⟩
   ·obtain⟨h1,h2⟩:=nE (P:=P) (E:=E) hob
    exact⟨h1,_,by simp[binOp,Op.intArith,eqGuard_at_int],h2⟩
   ·obtain⟨h1,h2⟩:=nE (P:=P) (E:=E) hob
    exact⟨h1,_,by simp[binOp,Op.intArith,eqGuard_at_int],h2⟩
   ·obtain⟨h1,h2⟩:=nE (P:=P) (E:=E) hob.2
    have hne:b≠0:=hob.1
    exact⟨rfl,_,by simp[binOp,Op.intDiv,eqGuard_at_int,hne],h2⟩
   ·have hne:b≠0:=hob
    exact⟨rfl,_,by simp[binOp,Op.intDiv,eqGuard_at_int,hne],rfl⟩
   ·obtain⟨hk,ha,hb⟩:=hob
    subst hk;refine⟨rfl,.int .i64 (IntKind.i64.wrap ((BitVec.ofInt IntKind.i64.bits a &&& BitVec.ofInt IntKind.i64.bits b).toNat:Int)),?_,by rw[aj1 ha hb];rfl⟩
    simp[binOp,Op.intBits,eqGuard_at_int]
   ·obtain⟨hk,ha,hb⟩:=hob
    subst hk;refine⟨rfl,.int .i64 (IntKind.i64.wrap ((BitVec.ofInt IntKind.i64.bits a ||| BitVec.ofInt IntKind.i64.bits b).toNat:Int)),?_,by rw[aj2 ha hb];rfl⟩
    simp[binOp,Op.intBits,eqGuard_at_int]
   all_goals exact⟨rfl,_,by simp[binOp,Op.intCmp,eqGuard_at_int],rfl⟩
  ·cases hr
 ·rename_i a b
  simp only[ak]at hx hy;subst hx;subst hy;split at hr
  ·rename_i hb
   have hb:=ai9 hb
   cases op<;>simp only[Rd.run,aS,AC,reduceCtorEq]at hr<;>subst hr
   ·exact⟨rfl,_,by simp[eqGuard_at_bool,run_eql_bool (P:=P) w t a b hb],rfl⟩
   ·exact⟨rfl,_,by simp[eqGuard_at_bool,run_neq_bool (P:=P) w t a b hb],rfl⟩
  ·cases hr
 ·rename_i a b
  simp only[ak]at hx hy;subst hx;subst hy;cases op<;>simp only[Rd.run,aS,AC,reduceCtorEq]at hr<;>subst hr
  ·have ψ:¬ ((9223372036854775807:Int)<((⟨a.toArray⟩:ByteArray).size:Int)+((⟨b.toArray⟩:ByteArray).size:Int)):=by
    have h1:(⟨a.toArray⟩:ByteArray).size=a.length:=by simp[ByteArray.size]
    have h2:(⟨b.toArray⟩:ByteArray).size=b.length:=by simp[ByteArray.size]
    have h3:a.length+b.length<=1099511627776:=hob
    rw[h1,h2];omega
   refine⟨rfl,.string (⟨a.toArray⟩++⟨b.toArray⟩),by simp[binOp,Op.stringOp,eqGuard_at_string,ψ],?_⟩
   have:(⟨a.toArray⟩++⟨b.toArray⟩:ByteArray)=⟨(a++b).toArray⟩:=by
    apply ByteArray.ext;simp
   simp[aA,ak,this]
  ·exact⟨rfl,_,by simp[binOp,Op.stringOp,eqGuard_at_string],rfl⟩
  ·exact⟨rfl,_,by simp[binOp,Op.stringOp,eqGuard_at_string],rfl⟩
 ·rename_i b
  obtain⟨a,n,c,rfl,hb⟩:=hx;simp only[ak]at hy;subst hy;split at hr
  ·rename_i e he
   have hu:P.underlying t=some (.slice e):=by
    unfold b8 at he;split at he
    ·cases he;assumption
    ·cases he
   have hg:(eqGuard op t x y (.slice a n c) (.slice none 0 0)).run P w=.ok () w:=by
    unfold eqGuard;split<;>rfl
   cases op<;>simp only[Rd.run,aS,AC,reduceCtorEq]at hr<;>subst hr
   ·refine⟨rfl,.bool a.isNone,?_,by rw[hb];rfl⟩
    rw[Sem.run_bind,hg];exact Lib.run_eql_slice_nil w t e a n c 0 0 hu
   ·refine⟨rfl,.bool (!a.isNone),?_,by rw[hb];rfl⟩
    rw[Sem.run_bind,hg];exact Go.run_neq_slice_nil_any w t e a n c 0 0 hu
  ·cases hr
 ·rename_i d
  obtain⟨⟨a,n,c,rfl,_⟩,hrd⟩:=hx;simp only[ak]at hy;subst hy;split at hr
  ·rename_i e he
   have hu:P.underlying t=some (.slice e):=by
    unfold b8 at he;split at he
    ·cases he;assumption
    ·cases he
   have hg:(eqGuard op t x y (.slice a n c) (.slice none 0 0)).run P w=.ok () w:=by
    unfold eqGuard;split<;>rfl
   cases op<;>simp only[Rd.run,aS,AC,reduceCtorEq]at hr<;>subst hr
   ·have hb:=RB hrd hob
    refine⟨rfl,.bool a.isNone,?_,by rw[hb];rfl⟩
    rw[Sem.run_bind,hg];exact Lib.run_eql_slice_nil w t e a n c 0 0 hu
   ·have hb:=RB hrd hob
    refine⟨rfl,.bool (!a.isNone),?_,by rw[hb];rfl⟩
    rw[Sem.run_bind,hg];exact Go.run_neq_slice_nil_any w t e a n c 0 0 hu
  ·cases hr
 ·cases hr
def aj9{P:Program}{E:Env}{wr:Bool}{op:UnOp}{cx:SC}{vx:Value}{eff:Eff}(hr:(HZ wr op cx).run σ=some eff)(hob:eff.obl)
  (hx:ak E cx vx)(w:World):eff.hp=[]/\∃v,(Op.unary op vx).run P w=.ok v w/\aA P E eff.val v:=by
 unfold HZ at hr;split at hr
 ·simp only[ak]at hx
  simp only[Rd.run,AC]at hr;subst hx;subst hr;obtain⟨h1,h2⟩:=nE (P:=P) (E:=E) hob;exact⟨h1,_,by simp[Op.unary,Op.intArith],h2⟩
 ·simp only[ak]at hx
  simp only[Rd.run,aS,AC]at hr;subst hx;subst hr;exact⟨rfl,_,by simp[Op.unary],rfl⟩
 ·cases hr
def IZ{P:Program}{t:TypeId}{k:IntKind}(h:jv P t=some k):P.underlying t=some (.int k):=by
 unfold jv at h;split at h
 ·cases h;assumption
 ·cases h
def ak0{P:Program}{E:Env}{wr:Bool}{src dst:TypeId}{cx:SC}{vx:Value}{eff:Eff}(hr:(H0 P wr src dst cx).run σ=some eff)(hob:eff.obl)
  (hx:ak E cx vx)(w:World):eff.hp=[]/\∃v,(convert src dst vx).run P w=.ok v w/\aA P E eff.val v:=by
 unfold H0 at hr;split at hr
 ·simp only[ak]at hx
  subst hx;split at hr
  ·rename_i d hd
   split at hr
   ·rename_i k hk
    simp only[Rd.run,AC]at hr;subst hr;obtain⟨h1,h2⟩:=nE (P:=P) (E:=E) hob;refine⟨h1,_,?_,h2⟩
    simp[convert,run_underlying hd,run_underlying (IZ hk),Conv.intToInt]
   ·cases hr
  ·cases hr
 ·cases hr
def xA{P:Program}{t:TypeId}{b:Bool}(h:nv P t=some b)(w:World):(isAgg t).run P w=.ok b w:=by
 unfold nv at h;unfold isAgg;split at h
 ·rename_i hu;cases h;simp[run_underlying hu]
 ·rename_i hu;cases h;simp[run_underlying hu]
 ·rename_i d _ _ hu
  cases h;rw[Sem.run_bind,run_underlying hu];cases d<;>simp_all
 ·cases h
def gA{P:Program}{t:TypeId}{n:Nat}(h:cU P t=some n)(w:World):(sizeOf t).run P w=.ok n w:=by
 unfold cU at h;split at h
 ·rename_i i hi;cases h;simp[sizeOf,typeInfo,hi]
 ·cases h
def gB{P:Program}{t e:TypeId}(h:b8 P t=some e):P.underlying t=some (.slice e):=by
 unfold b8 at h;split at h
 ·cases h;assumption
 ·cases h
def RE{P:Program}{t:TypeId}(ha:nv P t=some false){p:Addr}{u:Value}(hp:w.cell? p=some u):(loadVar t p).run P w=.ok u w:=by
 simp[loadVar,xA ha,hp]
def I0{P:Program}{t:TypeId}(ha:nv P t=some true){b i n:Nat}(hn:cU P t=some n){cs:List Value}(hl:cs.length=n)
  (hc:∀(j:Nat) (u:Value),cs[j]?=some u->w.cell? ⟨b,i+j,none⟩=some u):(loadVar t ⟨b,i,none⟩).run P w=.ok (.agg cs.toArray) w:=by
 have hl':=run_loadCells_list (P:=P) w ⟨b,i,none⟩ cs (λj v hv=>by rw[Addr.add_lit];exact hc j v hv)
 rw[hl]at hl';simp[loadVar,xA ha,gA hn,hl']
end
end Go.Sx
end
section
namespace Go.Sx
open Go.RowKit
def nF{w:World}{B e size n:Nat}{v:Value}{xs:List Value}(h:w.ownsRow B e size v n xs){b:Nat}(hb:ag v=some b) :
  ∃cap,v=.slice (some ⟨b,0,none⟩) n cap/\n<=cap:=by
 rcases h.2 with⟨rfl,_⟩|⟨g,cap,cur,rfl,_,_,hn,_⟩
 ·simp[ag]at hb
 ·simp[ag]at hb;subst hb;exact⟨cap,rfl,hn⟩
def i7{w:World}{B e n:Nat}{v:Value}{xs:List Value}(h:w.ownsRow B e 1 v n xs){b:Nat}(hb:ag v=some b)(j:Nat)(hj:j<n) :
  w.cell? ⟨b,j,none⟩=xs[j]?:=by
 obtain⟨cap,rfl,_⟩:=nF h hb;exact h.cellAt j (by omega)
def I2{w:World}{B e sz n:Nat}{v:Value}{xs:List Value}(h:w.ownsRow B e sz v n xs){b:Nat}(hb:ag v=some b)(j:Nat)(hj:j<n*sz) :
  w.cell? ⟨b,j,none⟩=xs[j]?:=by
 rcases h.2 with⟨rfl,_⟩|⟨g,cap,cur,rfl,_,hg,_,_,_,hx⟩
 ·simp[ag]at hb
 ·simp[ag]at hb;subst hb
  rw[cell_of_row w g j cur e (0,0) hg,<-hx,Aw,AA hj];simp
def RF{d:FC}{i:Nat}(h:i<d.slen):d.slen=d.len/\d.wid=1:=by
 cases d with
 |p3 k l=>exact absurd h (Dj i)
 |_=>exact⟨rfl,rfl⟩
def gC{w:World}{B e size n:Nat}{v:Value}{xs:List Value}(h:w.ownsRow B e size v n xs):v.oneCell'=true:=by
 rcases h.2 with⟨rfl,_⟩|⟨g,cap,cur,rfl,_⟩<;>rfl
def RG:∀{p:List Nat} {nd u v:Value} {j:Nat},eV nd p=some u->(ba u)[j]?=some v->eV nd (p++[j])=some v
 | [],nd,u,v,j,h,hj=>by
  cases h;simp[eV,hj]
 |i::p,nd,u,v,j,h,hj=>by
  simp only[eV,Bk]at h⊢;split at h
  ·exact RG h hj
  ·cases h
def ak1(d:FC):1<=d.wid:=by cases d<;>simp[FC.wid]
theorem bq.row{w:World}:∀{es:List TypeId} {u:Value} {x:FC},bq w es u x->∃e xs,w.ownsRow 0 e x.wid (aM u) x.len xs
 | [],_,_,h=>False.elim h
 | [e],_,_,⟨_,k,l,h2,h3⟩=>by subst h2;exact⟨e,_,h3⟩
 |e::_::_,_,_,⟨_,_,h3,_⟩=>⟨e,_,h3⟩
theorem bq.one{w:World}{es:List TypeId}{u:Value}{x:FC}(h:bq w es u x):(aM u).oneCell'=true:=by
 obtain⟨e,xs,h1⟩:=h.row;exact gC h1
theorem jq.row{w:World}{n:Nat}:∀{es:List TypeId} {u:Value} {x:FC},jq w n es u x->∃e xs,w.ownsRow 0 e x.wid (aM u) x.len xs
 | [],_,_,h=>False.elim h
 | [_],_,_,h=>False.elim h
 |e::_::_,_,_,⟨_,_,_,⟨vs,h4,_⟩,_⟩=>⟨e,vs,h4⟩
theorem bq.len{w:World}{es:List TypeId}{u:Value}{x:FC}(h:bq w es u x){b n c:Nat}(hd:aM u=.slice (some ⟨b,0,none⟩) n c):n=x.len:=by
 obtain⟨e,xs,h1⟩:=h.row;obtain⟨cap,h2,_⟩:=nF h1 (b:=b) (by rw[hd];rfl)
 rw[hd]at h2;cases h2;rfl
def I3{w:World}{es:List TypeId}{u:Value}{k:IntKind}{l:D6}(h:bq w es u (.ints k l)):∃e,es=[e]/\w.ownsRow 0 e 1 (aM u) l.length (l.map (.int k)):=by
 match es,h with
 | [],h=>exact False.elim h
 | [e],⟨_,k',l',h2,h3⟩=>cases h2;exact⟨e,rfl,h3⟩
 |_::_::_,⟨_,h2,_⟩=>simp[FC.dep]at h2
def RH{w:World}{es:List TypeId}{u:Value}{x y:FC}{j:Nat}(h:bq w es u x)(hy:c9 x j=some y)(hj:j<x.cn) :
  ∃e e2 es',es=e::e2::es'/\w.ownsRow 0 e x.wid (aM u) x.len ((ba u).map aM)/\∃v,(ba u)[j]?=some v/\bq w (e2::es') v y:=by
 match es,h with
 | [],h=>exact False.elim h
 | [e],⟨_,k',l',h2,h3⟩=>subst h2;cases hy
 |e::e2::es',h =>
  have hl:=jt h
  obtain⟨_,h2,h3,h4⟩:=h;exact⟨e,e2,es',rfl,h3,_,AF (by omega),h4 j _ y (AF (by omega)) hy⟩
def RI{w:World}{es:List TypeId}{u:Value}{k:IntKind}{l:D6}{j:Nat}(h:bq w es u (.ints k l))(q4:j<(FC.ints k l).len\/j<(ba u).length):j<l.length:=by
 rcases q4 with q4|q4
 ·exact q4
 ·match es,h with
  | [],h=>exact False.elim h
  | [_],⟨z1,_⟩=>rw[kY z1]at q4;exact absurd q4 (Dj j)
  |_::_::_,⟨_,z2,_⟩=>simp[FC.dep]at z2
def I4{w:World}{es:List TypeId}{u:Value}{x:FC}{j:Nat}(h:bq w es u x)(q4:j<x.len\/j<(ba u).length):j<x.cn:=by
 rcases q4 with q4|q4
 ·have:x.len*1<=x.len*x.wid:=Cb _ (ak1 x)
  simp only[FC.cn];omega
 ·match es,h with
  | [],h=>exact False.elim h
  | [_],⟨z1,_⟩=>rw[kY z1]at q4;exact absurd q4 (Dj j)
  |_::_::_,h=>rw[<-jt h];exact q4
def mg{E:Env}{w:World}{m:Img}{ver:Nat}{es:List TypeId}{d:FC}(h:aX E w m (.tr ver es d)){nd u:Value}{p:List Nat}(h1:m.ins[0]?=some nd)(h2:eV nd p=some u) :
  m=dN es.length nd/\bq w es nd d/\∃x,jr d p=some x/\bq w (es.drop p.length) u x/\∀b∈aZ (es.drop p.length).length u,b∈m.blocks:=by
 obtain⟨nd',rfl,h3⟩:=h;cases h1;obtain⟨x,k1,k2,k3⟩:=bq.at h3 h2;exact⟨rfl,h3,x,k1,k2,λb hb=>by rw[eK h3];exact k3 b hb⟩
section
variable {C:Cx} {σ:State} {mu:Nat->Img} {a:Act} {w:World}
def aV{o:Nat}{ob:Ob}(ho:σ.H o=some (some ob)){v:Value}{p:Shp->Prop}{q:FC->Prop}(h:b7 (σ.env C.wF mu) o v p q)(hf:ob.isFz=false:=by first|rfl|assumption):p ob.shp:=by
 have h:=h.2
 have:(σ.env C.wF mu).st o=.live ob.shp:=cz ho hf
 rw[this]at h;exact h
theorem bu.slice{w:World}{v:Value}{d:FC}(h:bu w v d)(hd:dH d=false:=by rfl):∃a n c,v=.slice a n c/\n<=c:=by
 cases d with
 |int k n=>cases hd
 |bool b=>cases hd
 |str l=>cases hd
 |_=>obtain⟨a,c,hv,hle,_⟩:=h;exact⟨a,_,c,hv,hle⟩
def mh{E:Env}{u:Value}{fc:FC}(h:bu E.wF u fc):ak E (dB fc) u/\u.oneCell'=true:=by
 cases fc with
 |int k n=>simp only[bu]at h;subst h;exact⟨rfl,rfl⟩
 |bool b=>simp only[bu]at h;subst h;exact⟨rfl,rfl⟩
 |str l=>simp only[bu]at h;subst h;exact⟨rfl,rfl⟩
 |ints k l=>obtain⟨a,n,c,hv,hle⟩:=h.slice;exact⟨⟨⟨a,n,c,hv,hle⟩,h⟩,by rw[hv];rfl⟩
 |bools l=>obtain⟨a,n,c,hv,hle⟩:=h.slice;exact⟨⟨⟨a,n,c,hv,hle⟩,h⟩,by rw[hv];rfl⟩
 |rows k l=>obtain⟨a,n,c,hv,hle⟩:=h.slice;exact⟨⟨⟨a,n,c,hv,hle⟩,h⟩,by rw[hv];rfl⟩
 |r3 k l=>obtain⟨a,n,c,hv,hle⟩:=h.slice;exact⟨⟨⟨a,n,c,hv,hle⟩,h⟩,by rw[hv];rfl⟩
 |r4 k l=>obtain⟨a,n,c,hv,hle⟩:=h.slice;exact⟨⟨⟨a,n,c,hv,hle⟩,h⟩,by rw[hv];rfl⟩
 |p3 k l=>obtain⟨a,n,c,hv,hle⟩:=h.slice;exact⟨⟨⟨a,n,c,hv,hle⟩,h⟩,by rw[hv];rfl⟩
def ak2{d:FC}{i:Nat}{x fc:FC}(h:c9 d i=some x)(h2:d.elem i=some fc):x=fc:=by
 cases d<;>simp only[c9,reduceCtorEq]at h<;>simp only[FC.elem]at h2<;>split at h2<;>cases h2<;>cases h<;>rfl
def ak3{d:FC}{i:Nat}{x:FC}(h:c9 d i=some x):dH x=false:=by
 cases d<;>simp only[c9,reduceCtorEq]at h<;>cases h<;>rfl
def ak4{E:Env}{c:SC}{v:Value}(h:ak E c v):ak E (H3 c) v:=by
 unfold H3;split
 ·exact h.1
 ·exact h
def mi(h:St C σ mu a w){o:Nat}{cs:List SC}(ho:σ.H o=some (some (.box cs))) :
  ∃b arr t,(mu o).hd=.pointer (some ⟨b,0,none⟩)/\(∀u∈(mu o).ins,ag u=none)/\w.heap[b]?=some (.cells arr t (0,0))/\dp (σ.env C.wF mu) cs arr:=h.ob o _ ho
def RJ{t:TypeId}{cx:SC}{vx:Value}{eff:Eff}(hr:(w8 C.P t cx).run σ=some eff)(hx:ak (σ.env C.wF mu) cx vx)(h:St C σ mu a w) :
  eff.hp=[]/\∃v,(Instr.loadAt t vx).run C.P w=.ok v w/\aA C.P (σ.env C.wF mu) eff.val v:=by
 unfold w8 at hr;split at hr
 ·cases hr
 ·rename_i hagg
  split at hr
  ·cases hr
  ·rename_i n hn
   split at hr
   ·rename_i o i
    obtain⟨ob,ho,hr⟩:=bg hr;cases ob with
    |box cs =>
     simp only at hr;split at hr
     ·rename_i hle
      simp only[Rd.run,AC]at hr;subst hr;obtain⟨_,b,hb,rfl⟩:=aV ho hx;obtain⟨g,arr,ty,h1,h2,h3,h4⟩:=mi h ho;rw[State.env,h1]at hb;simp[ag]at hb
      subst hb;refine⟨rfl,.agg ((arr.toList.drop i).take n).toArray,?_,_,rfl,?_⟩
      ·simp only[Instr.loadAt,Instr.sureAddr,Sem.run_bind,Sem.run_pure,Result.andThen_ok]
       refine I0 hagg hn (by simp[h4.1];omega) λj u hu=>?_
       rw[cell_of_row w g (i+j) arr ty (0,0) h3];rw[Aw]at hu;split at hu
       ·simpa using hu
       ·cases hu
      ·refine⟨by simp[h4.1],λj c hj=>?_⟩
       rw[Aw]at hj;split at hj
       ·rename_i hjn
        rw[BG]at hj;obtain⟨u,h5,h6⟩:=h4.2 (i+j) c hj;exact⟨u,by simp[hjn,h5],h6⟩
       ·cases hj
     ·cases hr
    |_=>cases hr
   ·rename_i cs i
    split at hr
    ·rename_i hle
     simp only[Rd.run,AC]at hr;subst hr;obtain⟨b,off,rfl,hc⟩:=hx;have hex:∀j,j<n->∃u,w.cell? ⟨b,off+j,none⟩=some u/\∃fc,cs[i+j]?=some fc/\bu C.wF u fc:=λj hj=>by
      obtain⟨u,h1,h2⟩:=hc j _ (AF (by omega:i+j<cs.length))
      exact⟨u,(h.cells _ _ h1).2,_,AF (by omega:i+j<cs.length),h2⟩
     let us:=(List.range n).map λj=>(w.cell? ⟨b,off+j,none⟩).getD undef
     have hus:∀j,j<n->us[j]?=w.cell? ⟨b,off+j,none⟩:=λj hj=>by
      obtain⟨u,h1,_⟩:=hex j hj;simp[us,hj,h1]
     refine⟨rfl,.agg us.toArray,?_,_,rfl,?_⟩
     ·simp only[Instr.loadAt,Instr.sureAddr,Sem.run_bind,Sem.run_pure,Result.andThen_ok]
      refine I0 hagg hn (by simp[us]) λj u hu=>?_
      have hj:j<n:=by have:=(AL.1 hu).1;simpa[us]using this
      rw[<-hus j hj];exact hu
     ·refine⟨by simp[us];omega,λj c hj=>?_⟩
      rw[Ak,Aw]at hj;split at hj
      ·rename_i hjn
       rw[BG]at hj;obtain⟨u,h1,fc,h2,h3⟩:=hex j hjn;rw[h2]at hj;simp at hj
       subst hj;have:=mh (E:=σ.env C.wF mu) h3
       exact⟨u,by simp only[Dk];rw[hus j hjn];exact h1,this.2,this.1⟩
      ·simp at hj
    ·cases hr
   ·rename_i d i
    split at hr
    ·rename_i k l
     simp only[Rd.run,AC]at hr;subst hr;obtain⟨b,off,fc,u,hfc,rfl,hcell,hrd⟩:=hx;simp only[FC.elem]at hfc;split at hfc<;>cases hfc
     have hw:=(h.cells _ _ hcell).2
     refine⟨rfl,.agg #[u],?_,_,rfl,?_⟩
     ·simp only[Instr.loadAt,Instr.sureAddr,Sem.run_bind,Sem.run_pure,Result.andThen_ok]
      refine I0 (cs:=[u]) hagg hn rfl λj v hj=>?_
      match j,hj with
      |0,hj=>cases hj;exact hw
      |j+1,hj=>simp at hj
     ·refine⟨rfl,λj c hj=>?_⟩
      match j,hj with
      |0,hj =>
       cases hj;have:=mh (E:=σ.env C.wF mu) (fc:=.rows k (l.getD i [])) hrd
       exact⟨u,rfl,this.2,this.1⟩
      |j+1,hj=>simp at hj
    ·cases hr
   ·cases hr
 ·rename_i hagg
  have hone:∀(b i:Nat) (u:Value),w.cell? ⟨b,i,none⟩=some u->(Instr.loadAt t (.pointer (some ⟨b,i,none⟩))).run C.P w=.ok u w:=λb i u hu=>by
   simp only[Instr.loadAt,Instr.sureAddr,Sem.run_bind,Sem.run_pure,Result.andThen_ok];exact RE hagg hu
  split at hr
  ·rename_i o i
   obtain⟨ob,ho,hr⟩:=bg hr;have hnf:ob.isFz=false:=by cases ob<;>first|rfl|simp[Rd.run]at hr
   obtain⟨ψ,b,hb,rfl⟩:=aV ho hx hnf;clear hnf;cases ob with
   |frz d=>cases hr
   |mp l=>cases hr
   |qu e k l=>cases hr
   |rowsH ver e ei k l hs=>cases hr
   |yd yv Y pre g=>cases hr
   |tr ver es d=>cases hr
   |trk ver es d n=>cases hr
   |lst ver e d =>
    simp only at hr;split at hr
    ·rename_i x hx'
     simp only[Rd.run,aS,AC]at hr;subst hr;obtain⟨_,vs,h1,h2⟩:=h.ob o _ ho;obtain⟨sl1,sl2⟩:=RF (show i<d.slen from ψ)
     have hlt2:i<d.len:=by rw[<-sl1];exact ψ
     rw[sl2]at h1;have hlv:vs.length=d.len:=by simpa using h1.1
     obtain⟨h3,fc,h4,h5⟩:=h2 i _ (AF (by omega))
     have hfx:x=fc:=ak2 hx' h4
     subst hfx;exact⟨rfl,vs[i]'(by omega),hone b i _ (by rw[i7 h1 hb i hlt2];exact AF (by omega)),h5.slice (ak3 hx'),h5⟩
    ·cases hr
   |box cs =>
    simp only at hr;split at hr
    ·rename_i c hc
     simp only[Rd.run,aS,AC]at hr;subst hr;obtain⟨g,arr,ty,h1,h2,h3,h4⟩:=mi h ho;rw[State.env,h1]at hb;simp[ag]at hb
     subst hb;obtain⟨u,h5,h6,h7⟩:=h4.2 i c hc;exact⟨rfl,u,hone g i u (by rw[cell_of_row w g i arr ty (0,0) h3];exact h5),ak4 h7⟩
    ·cases hr
   |bx cs=>cases hr
   |strs e l =>
    simp only[Rd.run,aS,AC]at hr;subst hr;have:=h.ob o _ ho
    exact⟨rfl,_,hone b i _ (by rw[i7 this.2 hb i ψ];simp[show i<l.length from ψ];rfl),by simp[aA,ak,pu,List.getD,show i<l.length from ψ]⟩
   |ints e k l =>
    simp only[Rd.run,aS,AC]at hr;subst hr;have:=h.ob o _ ho
    exact⟨rfl,_,hone b i _ (by rw[i7 this.2 hb i ψ];simp[show i<l.length from ψ];rfl),by simp[aA,ak,List.getD,show i<l.length from ψ]⟩
   |bools e l =>
    simp only[Rd.run,aS,AC]at hr;subst hr;have:=h.ob o _ ho
    exact⟨rfl,_,hone b i _ (by rw[i7 this.2 hb i ψ];simp[show i<l.length from ψ];rfl),by simp[aA,ak,List.getD,show i<l.length from ψ]⟩
   |rows ver e ei k l =>
    simp only[Rd.run,aS,AC]at hr;subst hr;obtain⟨h1,h2,h3⟩:=h.ob o _ ho;have hlt':i<(mu o).ins.length:=by rw[h2];exact ψ
    have hone':(mu o).ins[i].oneCell'=true:=gC (h3 i _ _ (AF hlt') (AF ψ))
    refine⟨rfl,(mu o).ins[i],hone b i _ (by rw[i7 h1 hb i ψ,AF hlt']),hone',?_⟩
    have:(σ.env C.wF mu).st o=.live (Ob.rows ver e ei k l).shp:=cz ho
    rw[this];exact⟨AE _,λ_=>⟨AF hlt',ψ⟩⟩
  ·rename_i o ver i j
   obtain⟨ob,ho,hr⟩:=bg hr;have hnf:ob.isFz=false:=by cases ob<;>first|rfl|simp[Rd.run]at hr
   have hx:=aV ho hx
   clear hnf;cases ob with
   |rows ver' e ei k l =>
    simp only at hr;split at hr
    ·rename_i hv
     simp only[Rd.run,aS,AC]at hr;subst hr;obtain⟨h1,h2,h3⟩:=h.ob o _ ho;obtain⟨hi,hj,r,b,hins,hb,rfl⟩:=hx.2 hv.symm;have hi':i<l.length:=hi
     have hrow:=h3 i r _ hins (AF hi')
     have hj':j<l[i].length:=by
      have:((l.map List.length).getD i 0)=l[i].length:=by simp[List.getD,hi']
      simp only[Ob.shp]at hj;omega
     refine⟨rfl,_,hone b j _ (by rw[i7 hrow hb j hj'];simp[hj'];rfl),by simp[aA,ak,List.getD,hi',hj']⟩
    ·cases hr
   |_=>cases hr
  ·rename_i d i
   obtain⟨b,off,fc,u,hfc,rfl,hcell,hrd⟩:=hx;have hu:=hone b off u (h.cells _ _ hcell).2
   split at hr<;>simp only[Rd.run,aS,AC,reduceCtorEq]at hr<;>subst hr
   ·simp only[FC.elem]at hfc
    split at hfc<;>cases hfc
    exact⟨rfl,u,hu,hrd⟩
   ·simp only[FC.elem]at hfc
    split at hfc<;>cases hfc
    exact⟨rfl,u,hu,hrd⟩
   ·simp only[FC.elem]at hfc
    split at hfc<;>cases hfc
    exact⟨rfl,u,hu,hrd.slice,hrd⟩
   ·simp only[FC.elem]at hfc
    split at hfc<;>cases hfc
    exact⟨rfl,u,hu,hrd.slice,hrd⟩
   ·simp only[FC.elem]at hfc
    split at hfc<;>cases hfc
    exact⟨rfl,u,hu,hrd.slice,hrd⟩
  ·rename_i cs i
   obtain⟨b,off,rfl,hc⟩:=hx;split at hr
   ·rename_i fc hfc
    simp only[Rd.run,aS,AC]at hr;subst hr;obtain⟨u,h1,h2⟩:=hc 0 fc hfc;exact⟨rfl,u,hone b off u (h.cells _ _ h1).2,(mh (E:=σ.env C.wF mu) h2).1⟩
   ·cases hr
  ·rename_i cs
   simp only[Rd.run,aS,AC]at hr;subst hr;obtain⟨b,off,b2,off2,rfl,h0,h1⟩:=hx;exact⟨rfl,_,hone b off _ (h.cells _ _ h0).2,⟨b2,off2,rfl,λj fc hj=>h1 j fc (by rwa[AI]at hj)⟩⟩
  ·rename_i o i
   obtain⟨ob,ho,hr⟩:=bg hr;have hnf:ob.isFz=false:=by cases ob<;>first|rfl|simp[Rd.run]at hr
   have hx:=aV ho hx hnf
   clear hnf;cases ob with
   |qu e k l =>
    simp only[Rd.run,aS,AC]at hr;subst hr;obtain⟨ψ,b,off,n,c,hhd,rfl⟩:=hx;have hhd:(mu o).hd=_:=hhd
    have hlt':i<l.length:=ψ
    obtain⟨_,h2⟩:=h.ob o _ ho;rcases h2 with⟨h2,_⟩|⟨g,off',cap,h2,_,_,_,_,h3⟩
    ·rw[hhd]at h2;cases h2
    ·rw[hhd]at h2;cases h2
     exact⟨rfl,_,hone _ _ _ (h3 i (.int k l[i]) (by simp[hlt'])),by simp[aA,ak,List.getD,hlt']⟩
   |_=>cases hr
  ·rename_i o ver p j
   obtain⟨ob,ho,hr⟩:=bg hr;have hnf:ob.isFz=false:=by cases ob<;>first|rfl|simp[Rd.run]at hr
   have hx:=aV ho hx hnf
   clear hnf;cases ob with
   |tr ver' es d =>
    simp only at hr;split at hr
    ·rename_i hv
     split at hr
     ·rename_i x hx1
      obtain⟨nd,u,b,n,c,q1,q2,q3,q4,rfl⟩:=hx.2 hv.symm;obtain⟨_,_,x',k1,k2,_⟩:=mg (h.ob o _ ho) q1 q2;rw[hx1]at k1;cases k1;have hn:=k2.len q3
      subst hn;split at hr
      ·rename_i k l hl
       have hxi:x=.ints k l:=by
        cases x<;>simp only[w7,reduceCtorEq,AC,BQ]at hl
        obtain⟨rfl,rfl⟩:=hl;rfl
       subst hxi;simp only[Rd.run,aS,AC]at hr;subst hr;obtain⟨e,_,k3⟩:=I3 k2;have hj:j<l.length:=RI k2 q4
       exact⟨rfl,_,hone b j _ (by rw[i7 k3 (b:=b) (by rw[q3];rfl) j hj];simp[hj];rfl),by simp[aA,ak,List.getD,hj]⟩
      ·split at hr
       ·rename_i y hy
        simp only[Rd.run,aS,AC]at hr;subst hr;have q5:j<x.cn:=I4 k2 q4
        obtain⟨e,e2,es',_,k3,v,k4,k5⟩:=RH k2 hy q5;refine⟨rfl,aM v,hone b j _ (by rw[I2 k3 (b:=b) (by rw[q3];rfl) j q5,Ak,k4];rfl),k5.one,?_⟩
        have:(σ.env C.wF mu).st o=.live (Ob.tr ver' es d).shp:=cz ho
        rw[this];exact⟨hx.1,λ_=>⟨nd,v,q1,RG q2 k4,rfl⟩⟩
       ·cases hr
     ·cases hr
    ·cases hr
   |_=>cases hr
  ·cases hr
end
end Go.Sx
end
