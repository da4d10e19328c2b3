/- SxQ SxR SxS SxSr SxT -/
import Derived.Test.YtkmldclpaniclaaGreatSxP
set_option linter.unusedSimpArgs false
set_option linter.unusedVariables false
set_option linter.defProp false
section
namespace Go.Sx
open Go.RowKit
inductive KV where
 |f (x:Option SV)
 |h (x:Option (Option Ob))
def State.get(σ:State):Key->KV
 |.f t=>.f (σ.F t)
 |.h o=>.h (σ.H o)
theorem Rd.agree{α:Type}{σ σ':State}:∀(r:Rd α),(∀κ∈r.keys σ,σ'.get κ=σ.get κ)->r.run σ'=r.run σ
 |.ret x,_=>rfl
 |.fail,_=>rfl
 |.f t k,hh=>by
  have h1:σ'.F t=σ.F t:=by have:=hh (.f t) (by simp[Rd.keys]);simpa[State.get]using this
  simp only[Rd.run,h1];cases hF:σ.F t with
  |none=>rfl
  |some sv=>exact Rd.agree (k sv) fun κ hκ=>hh κ (by simp[Rd.keys,hF,hκ])
 |.h o k,hh=>by
  have h1:σ'.H o=σ.H o:=by have:=hh (.h o) (by simp[Rd.keys]);simpa[State.get]using this
  simp only[Rd.run,h1];cases hH:σ.H o with
  |none=>rfl
  |some x =>
   cases x with
   |none=>rfl
   |some ob=>exact Rd.agree (k ob) fun κ hκ=>hh κ (by simp[Rd.keys,hH,hκ])
 |.abs o k,hh=>by
  have h1:σ'.H o=σ.H o:=by have:=hh (.h o) (by simp[Rd.keys]);simpa[State.get]using this
  simp only[Rd.run,h1];cases hH:σ.H o with
  |none=>exact Rd.agree k fun κ hκ=>hh κ (by simp[Rd.keys,hκ])
  |some x=>rfl
theorem ay.ext{C:Cx}{σ σ':State}(h:∀κ,σ'.get κ=σ.get κ){a:Act}{w:World}(hs:ay C σ a w):ay C σ' a w:=by
 have hF:∀t,σ'.F t=σ.F t:=fun t=>by have:=h (.f t);simpa[State.get]using this
 have hH:∀o,σ'.H o=σ.H o:=fun o=>by have:=h (.h o);simpa[State.get]using this
 exact ay.eqv hF hH hs
def ab(b:Bool)(A B:Prop):Prop :=
 match b with
 |true=>A
 |false=>B
def Qv(p:Option Prop)(A:Prop):Prop :=
 match p with
 |none=>A
 |some q=>q/\A
structure Ent where
 rd:List Key
 wr:List Key
def rC(N:Nat)(o:Oper):Bool :=
 match o.dst with
 |none=>true
 |some d=>Nat.blt d N
def gd(ops:Array Oper)(σ:State)(o:Oper):Option Bool :=
 match o.guard with
 |none=>some true
 |some (j,want)=>match ops[j]? with
  |none=>none
  |some oj=>match oj.dst with
   |none=>none
   |some t=>match σ.F t with
    |some (.c (.bool b))=>match b,want with
     |true,true=>some true
     |true,false=>some false
     |false,true=>some false
     |false,false=>some true
    |some (.c .und)=>some false
    |_=>none
def kf(ops:Array Oper)(o:Oper):List Key :=
 match o.guard with
 |none=>[]
 |some (j,_)=>match ops[j]? with
  |none=>[]
  |some oj=>match oj.dst with
   |none=>[]
   |some t=>[.f t]
def jz(o:Oper):List Key :=
 match o.dst with
 |none=>[]
 |some d=>[.f d]
def isSrc(i:Nat)(d:Option Nat):List Oper->Bool
 | []=>false
 |o::rest=>(match o.guard with
   |some (j,_)=>Nat.beq j i
   |none=>false)||(match o.op,d with
   |.pick (.tmp t) _ _,some d=>Nat.beq t d
   |_,_=>false)||isSrc i d rest
def kh(l:List (Nat×Option Ob)):List Key:=l.map fun p=>.h p.1
def kW(P:Program)(Γ:FuncId->Option Ctr)(wr:Nat->Bool)(N:Nat)(ops:Array Oper):List Oper->Nat->State->List Ent->(State->List Ent->Prop)->Prop
 | [],_,σ,es,K=>K σ es
 |o::rest,i,σ,es,K =>
  match rC N o with
  |false=>False
  |true=>match gd ops σ o with
   |none=>False
   |some false=>kW P Γ wr N ops rest (i+1) (σ.app o.dst ⟨.c .und,[],none⟩) (es++[⟨kf ops o,jz o⟩]) K
   |some true=>match(cS P Γ wr o).run σ with
    |none=>False
    |some ⟨val,hp,owed⟩=>Qv owed (match isSrc i o.dst rest with
     |false=>kW P Γ wr N ops rest (i+1) (σ.app o.dst ⟨val,hp,none⟩) (es++[⟨kf ops o++(cS P Γ wr o).keys σ,jz o++kh hp⟩]) K
     |true=>match val with
      |.c (.bool b)=>ab b
        (kW P Γ wr N ops rest (i+1) (σ.app o.dst ⟨.c (.bool true),hp,none⟩) (es++[⟨kf ops o++(cS P Γ wr o).keys σ,jz o++kh hp⟩]) K)
        (kW P Γ wr N ops rest (i+1) (σ.app o.dst ⟨.c (.bool false),hp,none⟩) (es++[⟨kf ops o++(cS P Γ wr o).keys σ,jz o++kh hp⟩]) K)
      |_=>False)
def nw(C:Cx)(ops:Array Oper)(i:Nat)(o:Oper)(σ:State)(eff:Eff)(e:Ent):Prop :=
 (∀κ,κ ∉ e.wr->∀τ:State,(τ.app o.dst eff).get κ=τ.get κ)/\(∀κ∈e.wr,∀τ τ':State,(τ.app o.dst eff).get κ=(τ'.app o.dst eff).get κ)/\∀τ:State,(∀κ∈e.rd,τ.get κ=σ.get κ)->∀a w,ay C τ a w->∀ro Q,wpOpIn (fnc ro) 0 C.P ops Q i (fun a' w'=>ay C (τ.app o.dst eff) a' w') a w
inductive Run (C:Cx) (ops:Array Oper):List Oper->Nat->State->List Ent->State->Prop
 |nil {i:Nat} {σ:State}:Run C ops [] i σ [] σ
 |cons {o:Oper} {rest:List Oper} {i:Nat} {σ σ':State} {eff:Eff} {e:Ent} {es:List Ent} (h:nw C ops i o σ eff e) (t:Run C ops rest (i+1) (σ.app o.dst eff) es σ'):Run C ops (o::rest) i σ (e::es) σ'
section
variable {C:Cx}
theorem Ir{σ:State}{dst:Option Nat}{eff:Eff}{κ:Key}:(σ.app dst eff).get κ=match κ with
  |.f t=>if dst=some t then .f (some eff.val)else σ.get (.f t)
  |.h o=>match lk eff.hp o with|some x=>.h (some x)|none=>σ.get (.h o):=by
 cases κ with
 |f t=>simp only[State.get,lR];split<;>rfl
 |h o =>
  simp only[State.get,j8];cases lk eff.hp o<;>rfl
theorem Qw{α:Type}:∀{l:List (Nat×α)} {o:Nat} {x:α},lk l o=some x->o∈l.map (·.1)
 | [],o,x,h=>by simp[lk]at h
 |(k,v)::l,o,x,h=>by
  rw[bt]at h;split at h
  ·rename_i hk;simp[hk]
  ·have:=Qw h;simp at this⊢;exact .inr this
theorem Qx{α:Type}:∀{l:List (Nat×α)} {o:Nat},o∈l.map (·.1)->∃x,lk l o=some x
 | [],o,h=>by simp at h
 |(k,v)::l,o,h=>by
  rw[bt];by_cases hk:k=o
  ·exact⟨v,by simp[hk]⟩
  ·rw[AB hk]
   have h:o=k\/o∈l.map (·.1):=by simpa using h
   exact Qx (h.resolve_left (AO hk))
theorem Qy{dst:Option Nat}{eff:Eff}{o:Oper}(hd:o.dst=dst)(rd:List Key) :
  (∀κ,κ ∉ (Ent.mk rd (jz o++kh eff.hp)).wr->∀τ:State,(τ.app dst eff).get κ=τ.get κ) /\
  (∀κ∈(Ent.mk rd (jz o++kh eff.hp)).wr,∀τ τ':State,(τ.app dst eff).get κ=(τ'.app dst eff).get κ):=by
 constructor
 ·intro κ hκ τ
  simp only[AL,not_or]at hκ;rw[Ir];cases κ with
  |f t =>
   have:¬ dst=some t:=fun hc=>hκ.1 (by simp[jz,hd,hc])
   simp only[this,Ag]
  |h x =>
   cases hx:lk eff.hp x with
   |none=>simp only[hx]
   |some y =>
    exfalso
    apply hκ.2
    have:=Qw hx
    simp only[kh,AT]at this⊢;obtain⟨p,hp,rfl⟩:=this;exact⟨p,hp,rfl⟩
 ·intro κ hκ τ τ'
  rw[Ir,Ir];simp only[AL]at hκ;cases κ with
  |f t =>
   have:dst=some t:=by
    rcases hκ with h1|h1
    ·unfold jz at h1
     rw[hd]at h1;cases dst with
     |none=>simp at h1
     |some d=>simp at h1;rw[h1]
    ·simp[kh]at h1
   simp only[this,AV]
  |h x =>
   have hx:x∈eff.hp.map (·.1):=by
    rcases hκ with h1|h1
    ·unfold jz at h1
     split at h1<;>simp at h1
    ·simp only[kh,AT]at h1⊢
     obtain⟨p,hp,h2⟩:=h1;cases h2;exact⟨p,hp,rfl⟩
   obtain⟨y,hy⟩:=Qx hx;simp only[hy]
theorem Qz{N:Nat}{o:Oper}(h:rC N o=true):∀d,o.dst=some d->d<N:=by
 intro d hd
 unfold rC at h;rw[hd]at h
 simpa using h
theorem QA{ops:Array Oper}{o:Oper}{σ:State}{b:Bool}(hg:gd ops σ o=some b){a:Act}{w:World}{mu:Nat->Img}(h:St C σ mu a w) :
  Region.wanted o (yielded ops a.tmps)=b:=by
 have yld:∀{j t:Nat} {oj:Oper} {v:Value},ops[j]?=some oj->oj.dst=some t->a.tmps.getD t undef=v->(∀c,v≠.bool c)->yielded ops a.tmps j=none:=fun {j t oj v} h3 h4 h1 h2=>by
  unfold yielded;rw[h3,Ci,h4,Ci];cases hx:a.tmps[t]? with
  |none=>rfl
  |some u =>
   have:u=v:=by rw[<-h1];simp[BM,hx]
   subst this;cases u<;>first|rfl|exact absurd rfl (h2 _)
 have yldb:∀{j t:Nat} {oj:Oper} {c:Bool},ops[j]?=some oj->oj.dst=some t->a.tmps.getD t undef=.bool c->yielded ops a.tmps j=some c:=fun {j t oj c} h3 h4 h1=>by
  unfold yielded;rw[h3,Ci,h4,Ci];cases hx:a.tmps[t]? with
  |none=>simp[BM,hx,undef]at h1
  |some u =>
   have:u=.bool c:=by rw[<-h1];simp[BM,hx]
   subst this;rfl
 unfold gd at hg;unfold Region.wanted;split at hg
 ·rename_i hn
  cases hg;rw[hn]
 ·rename_i j want hjw
  rw[hjw];split at hg
  ·cases hg
  ·rename_i oj hoj
   split at hg
   ·cases hg
   ·rename_i t ht
    split at hg
    ·rename_i c hc
     have hv:a.tmps.getD t undef=.bool c:=h.fr t _ hc
     simp only[yldb hoj ht hv];cases c<;>cases want<;>cases hg<;>rfl
    ·rename_i hc
     cases hg;have hv:a.tmps.getD t undef=undef:=h.fr t _ hc
     simp only[yld hoj ht hv (fun c hc=>by cases hc)]
     cases want<;>rfl
    ·cases hg
theorem QB{ops:Array Oper}{o:Oper}{σ τ:State}(h:∀κ∈kf ops o,τ.get κ=σ.get κ):gd ops τ o=gd ops σ o:=by
 unfold gd;unfold kf at h;cases hg:o.guard with
 |none=>rfl
 |some p =>
  obtain⟨j,want⟩:=p;rw[hg]at h;simp only at h⊢;cases hj:ops[j]? with
  |none=>rfl
  |some oj =>
   rw[hj]at h;simp only at h⊢;cases hd:oj.dst with
   |none=>rfl
   |some t =>
    rw[hd]at h;have:τ.F t=σ.F t:=by have:=h (.f t) (by simp);simpa[State.get]using this
    simp only[this]
theorem ah6{ops:Array Oper}{i:Nat}{o:Oper}{σ:State}(hi:ops[i]?=some o)(hd:rC C.N o=true)(hg:gd ops σ o=some false) :
  nw C ops i o σ ⟨.c .und,[],none⟩ ⟨kf ops o,jz o⟩:=by
 have hk:=Qy (eff:=⟨.c .und,[],none⟩) (dst:=o.dst) (o:=o) rfl (kf ops o)
 simp only[kh,List.map_nil,Af]at hk;refine⟨hk.1,hk.2,fun τ hτ a w hs ro Q=>?_⟩
 obtain⟨wG,mu,hgf,h⟩:=hs;have hw:=QA (QB hτ |>.trans hg) h
 unfold wpOpIn;rw[hi];simp only[hw];refine⟨fun _ _=>trivial,?_⟩
 exact ay.up hgf (St.ex (h.put_pure (Qz hd) rfl rfl))
theorem Is{Γ:FuncId->Option Ctr}(hΓ:di C.P Γ){wr:Nat->Bool}{ops:Array Oper}{i:Nat}{o:Oper}{σ:State}{eff eff':Eff}(hi:ops[i]?=some o)(hd:rC C.N o=true)(hg:gd ops σ o=some true)
  (hr:(cS C.P Γ wr o).run σ=some eff)(hob:eff.obl)(hval:eff'.val=eff.val)(hhp:eff'.hp=eff.hp) :
  nw C ops i o σ eff' ⟨kf ops o++(cS C.P Γ wr o).keys σ,jz o++kh eff.hp⟩:=by
 have hk:=Qy (eff:=eff') (dst:=o.dst) (o:=o) rfl (kf ops o++(cS C.P Γ wr o).keys σ)
 rw[hhp]at hk;refine⟨hk.1,hk.2,fun τ hτ a w hs ro Q=>?_⟩
 obtain⟨wG,mu,hgf,h⟩:=hs;have hw:=QA (QB (fun κ hκ=>hτ κ (AL.2 (.inl hκ))) |>.trans hg) h
 have ω:=(Rd.agree (cS C.P Γ wr o) fun κ hκ=>hτ κ (AL.2 (.inr hκ))).trans hr
 have happ:τ.app o.dst eff'=τ.app o.dst eff:=by simp[State.app,hval,hhp]
 unfold wpOpIn;rw[hi];simp only[hw,AV];rw[happ];exact Oper.wpIn_mono (fun a w h=>ay.up hgf h) (ah5 (C:=C.fz wG) hΓ ω hob h (Qz hd) Q)
theorem ah7{p:Option Prop}{A:Prop}(h:Qv p A){val:SV}{hp:List (Nat×Option Ob)}:(Eff.mk val hp p).obl/\A:=by
 cases p with
 |none=>exact⟨trivial,h⟩
 |some q=>exact h
theorem It{Γ:FuncId->Option Ctr}(hΓ:di C.P Γ){wr:Nat->Bool}{ops:Array Oper}{K:State->List Ent->Prop} :
  ∀(l:List Oper) (i:Nat) (σ:State) (es:List Ent),(∀j:Nat,l[j]?=ops[i+j]?)->kW C.P Γ wr C.N ops l i σ es K->∃es' σ',Run C ops l i σ es' σ'/\K σ' (es++es')
 | [],i,σ,es,_,h=>⟨[],σ,.nil,by rw[Af];exact h⟩
 |o::rest,i,σ,es,hl,h=>by
  have hi:ops[i]?=some o:=by have:=hl 0;simpa using this.symm
  have hl':∀j:Nat,rest[j]?=ops[i+1+j]?:=fun j=>by have:=hl (j+1);rw[show i+1+j=i+(j+1) by omega,<-this];simp
  have go:∀(eff:Eff) (e:Ent),nw C ops i o σ eff e->kW C.P Γ wr C.N ops rest (i+1) (σ.app o.dst eff) (es++[e]) K->∃es' σ',Run C ops (o::rest) i σ es' σ'/\K σ' (es++es'):=fun eff e h1 h2=>by
   obtain⟨es',σ',h3,h4⟩:=It hΓ rest (i+1) _ _ hl' h2;exact⟨e::es',σ',.cons h1 h3,by simpa using h4⟩
  unfold kW at h;split at h
  ·exact h.elim
  ·rename_i hd
   split at h
   ·exact h.elim
   ·rename_i hg
    exact go _ _ (ah6 hi hd hg) h
   ·rename_i hg
    split at h
    ·exact h.elim
    ·rename_i val hp owed hr
     obtain⟨hob,h2⟩:=ah7 (val:=val) (hp:=hp) h;clear h;split at h2
     ·exact go _ _ (Is hΓ hi hd hg hr hob rfl rfl) h2
     ·split at h2
      ·rename_i b
       cases b with
       |true=>exact go _ _ (Is hΓ hi hd hg hr hob rfl rfl) h2
       |false=>exact go _ _ (Is hΓ hi hd hg hr hob rfl rfl) h2
      ·exact h2.elim
theorem ah8{P:Program}{ops:Array Oper}{Q:Exit->Act->World->Prop}{i:Nat}{rest:List Nat}{a:Act}{w:World}{K:Act->World->Prop}{ro:Option Nat}(h:wpOpIn (fnc ro) 0 P ops Q i K a w)(hk:∀a w,K a w->wpOpsIn (fnc ro) 0 P ops Q rest a w) :
  wpOpsIn (fnc ro) 0 P ops Q (i::rest) a w:=by
 rw[wpOpsIn_cons];exact wpOpIn_mono hk h
theorem ah9{ro:Option Nat}{ops:Array Oper}{Q:Exit->Act->World->Prop}:∀{l:List Oper} {i:Nat} {σ σ':State} {es:List Ent},Run C ops l i σ es σ'->∀a w,ay C σ a w->(∀a w,ay C σ' a w->Q .normal a w) ->
  wpOpsIn (fnc ro) 0 C.P ops Q (List.range' i l.length) a w:=by
 intro l i σ σ' es h
 induction h with
 |nil=>intro a w hs hq;exact hq a w hs
 |cons h t ih =>
  intro a w hs hq
  rw[AR,Cp];exact ah8 (h.2.2 _ (fun _ _=>rfl) a w hs ro Q) fun a w hs'=>ih a w hs' hq
end
end Go.Sx
end
section
namespace Go.Sx
open Go.RowKit
def kX(o:Oper):List Nat:=(o.after.toList.filter fun e=>Region.binds .any e).map (·.on)
def xB(acc:List Nat):List Nat->Nat->Nat
 | [],m=>m
 |k::ks,m=>xB acc ks ((m ||| (1 <<< k)) ||| acc.getD k 0)
def gR:List Oper->List Nat->List Nat
 | [],acc=>acc
 |o::l,acc=>gR l (acc++[xB acc (kX o) 0])
def pe:List Oper->Nat->Bool
 | [],_=>true
 |o::l,i=>(kX o).all (fun k=>Nat.blt k i)&&pe l (i+1)
def hasKey(κ:Key):List Key->Bool
 | []=>false
 |x::l=>Key.eq x κ||hasKey κ l
def meet:List Key->List Key->Bool
 | [],_=>false
 | κ::l,l'=>hasKey κ l'||meet l l'
def nz(e e':Ent):Bool:=meet e.wr e'.rd||meet e.wr e'.wr||meet e.rd e'.wr
def xC(e:Ent)(m:Nat):List Ent->Nat->Bool
 | [],_=>true
 |e'::l,i=>(!(nz e' e)||m.testBit i)&&xC e m l (i+1)
def rD:List Ent->List Ent->List Nat->Bool
 |_,[],_=>true
 |_,_::_,[]=>false
 |prev,e::es,m::ms=>xC e m prev 0&&rD (prev++[e]) es ms
def Iu(ops:List Oper)(es:List Ent):Bool:=pe ops 0&&rD [] es (gR ops [])
theorem Key.eq_self(a:Key):Key.eq a a=true:=by cases a<;>simp[Key.eq]
theorem QC{κ:Key}:∀{l:List Key},κ∈l->hasKey κ l=true
 | [],h=>by simp at h
 |x::l,h=>by
  simp only[hasKey,BI];rcases AH.1 h with rfl|h
  ·exact .inl (Key.eq_self _)
  ·exact .inr (QC h)
theorem xD{κ:Key}:∀{l l':List Key},κ∈l->κ∈l'->meet l l'=true
 | [],_,h,_=>by simp at h
 |x::l,l',h,h'=>by
  simp only[meet,BI];rcases AH.1 h with rfl|h
  ·exact .inl (QC h')
  ·exact .inr (xD h h')
theorem xE:∀{l:List Oper} {i:Nat},pe l i=true->∀(j:Nat) (o:Oper),l[j]?=some o->∀k∈kX o,k<i+j
 | [],_,_,j,o,h=>by simp at h
 |o'::l,i,h,j,o,hj=>by
  simp only[pe,AG]at h;cases j with
  |zero =>
   simp at hj;subst hj
   intro k hk
   have:=AM.1 h.1 k hk
   simpa using this
  |succ j =>
   intro k hk
   have:=xE h.2 j o (by simpa using hj) k hk
   omega
theorem QD{acc:List Nat}{i:Nat}:∀{ks:List Nat} {m:Nat},(xB acc ks m).testBit i=true->m.testBit i=true\/∃k∈ks,k=i\/(acc.getD k 0).testBit i=true
 | [],m,h=>.inl h
 |k::ks,m,h=>by
  have h:(xB acc ks ((m ||| (1 <<< k)) ||| acc.getD k 0)).testBit i=true:=h
  rcases QD (ks:=ks) h with h1|⟨k',h1,h2⟩
  ·simp only[Nat.testBit_or,BI]at h1
   rcases h1 with(h1|h1)|h1
   ·exact .inl h1
   ·rw[Nat.one_shiftLeft,Nat.testBit_two_pow]at h1
    exact .inr ⟨k,by simp,.inl (by simpa using h1)⟩
   ·exact .inr ⟨k,by simp,.inr h1⟩
  ·exact .inr ⟨k',by simp[h1],h2⟩
theorem Iv:∀{l:List Oper} {acc:List Nat} {k:Nat},k<acc.length->(gR l acc)[k]?=acc[k]?
 | [],_,_,_=>rfl
 |o::l,acc,k,h=>by
  simp only[gR];rw[Iv (by simp;omega),Am h]
theorem QE:∀{l:List Oper} {acc:List Nat} {i:Nat},acc.length=i->pe l i=true->∀(j:Nat) (o:Oper),l[j]?=some o->∀x,((gR l acc).getD (i+j) 0).testBit x=true ->
  ∃k∈kX o,k=x\/((gR l acc).getD k 0).testBit x=true
 | [],_,_,_,_,j,o,h=>by simp at h
 |o'::l,acc,i,hl,he,j,o,hj=>by
  intro x hx
  have he2:=he
  simp only[pe,AG]at he;cases j with
  |zero =>
   simp at hj;subst hj
   simp only[gR,Bc,AN]at hx⊢;rw[Iv (by simp;omega),<-hl,Aq (AE _)]at hx
   simp at hx
   rcases QD hx with h1|⟨k,h1,h2⟩
   ·simp at h1
   ·refine⟨k,h1,h2.imp id fun h3=>?_⟩
    have hk:k<acc.length:=by
     have:=AM.1 he.1 k h1
     rw[hl];simpa using this
    rw[Iv (by simp;omega),Am hk]
    simpa[AN]using h3
  |succ j =>
   simp only[gR]at hx⊢;exact QE (i:=i+1) (by simp[hl]) he.2 j o (by simpa using hj) x (by rw[show i+1+j=i+(j+1) by omega];exact hx)
theorem QF{e:Ent}{m:Nat}:∀{l:List Ent} {i:Nat},xC e m l i=true->∀(x:Nat) (e':Ent),l[x]?=some e'->nz e' e=true->m.testBit (i+x)=true
 | [],_,_,x,e',h=>by simp at h
 |e0::l,i,h,x,e',hx=>by
  intro hc
  simp only[xC,AG,BI]at h;cases x with
  |zero =>
   simp at hx;subst hx
   rcases h.1 with h1|h1
   ·rw[hc]at h1;cases h1
   ·simpa using h1
  |succ x =>
   rw[show i+(x+1)=i+1+x by omega]
   exact QF h.2 x e' (by simpa using hx) hc
theorem QG:∀{es prev:List Ent} {ms:List Nat},rD prev es ms=true->∀(j:Nat) (e:Ent),es[j]?=some e->∀(x:Nat) (e':Ent),x<prev.length+j->(prev++es)[x]?=some e'->nz e' e=true->(ms.getD j 0).testBit x=true
 | [],_,_,_,j,e,h=>by simp at h
 |_::_,_,[],h,_,_,_=>by simp[rD]at h
 |e0::es,prev,m::ms,h,j,e,hj=>by
  intro x e' hx he hc
  simp only[rD,AG]at h;cases j with
  |zero =>
   simp at hj;subst hj
   have hx:x<prev.length:=by omega
   rw[Am hx]at he;have:=QF h.1 x e' he hc
   simpa using this
  |succ j =>
   have:=QG h.2 j e (by simpa using hj) x e' (by simp;omega) (by simpa using he) hc
   simpa using this
def sub(σ0:State)(prs:List (Oper×Eff))(L:Nat->Bool):Nat->State
 |0=>σ0
 |k+1=>match prs[k]? with
  |some (o,eff)=>match L k with
   |true=>(sub σ0 prs L k).app o.dst eff
   |false=>sub σ0 prs L k
  |none=>sub σ0 prs L k
section
variable {C:Cx} {ops:Array Oper} {σ0:State} {prs:List (Oper×Eff)} {es:List Ent}
def Iw(C:Cx)(ops:Array Oper)(σ0:State)(prs:List (Oper×Eff))(es:List Ent):Prop :=
 es.length=prs.length/\∀(i:Nat) (o:Oper) (eff:Eff) (e:Ent),prs[i]?=some (o,eff)->es[i]?=some e->nw C ops i o (sub σ0 prs (fun _=>true) i) eff e
theorem Ix{o:Oper}{eff:Eff}{σ:State}{prs:List (Oper×Eff)}:∀k,sub σ ((o,eff)::prs) (fun _=>true) (k+1)=sub (σ.app o.dst eff) prs (fun _=>true) k
 |0=>rfl
 |k+1=>by
  have:=Ix (o:=o) (eff:=eff) (σ:=σ) (prs:=prs) k
  simp only[sub,BX]at this⊢;rw[this]
theorem ai0{l:List Oper}{i:Nat}{σ σ':State}{es:List Ent}(h:Run C ops l i σ es σ') :
  ∃prs:List (Oper×Eff),prs.map (·.1)=l/\es.length=prs.length/\σ'=sub σ prs (fun _=>true) prs.length /\
   ∀(j:Nat) (o:Oper) (eff:Eff) (e:Ent),prs[j]?=some (o,eff)->es[j]?=some e->nw C ops (i+j) o (sub σ prs (fun _=>true) j) eff e:=by
 induction h with
 |nil=>exact⟨[],rfl,rfl,rfl,fun j o eff e h=>by simp at h⟩
 | @cons o rest i σ σ' eff e es h t ih =>
  obtain⟨prs,h1,h2,h3,h4⟩:=ih;refine⟨(o,eff)::prs,by simp[h1],by simp[h2],?_,fun j o' eff' e' hj he=>?_⟩
  ·rw[h3,AR,Ix]
  ·cases j with
   |zero=>simp at hj he;obtain⟨rfl,rfl⟩:=hj;subst he;exact h
   |succ j =>
    rw[Ix];have:=h4 j o' eff' e' (by simpa using hj) (by simpa using he)
    rwa[show i+(j+1)=i+1+j by omega]
variable (hst:Iw C ops σ0 prs es)
include hst
theorem Iy{i:Nat}{o:Oper}{eff:Eff}(h:prs[i]?=some (o,eff)):∃e,es[i]?=some e/\nw C ops i o (sub σ0 prs (fun _=>true) i) eff e:=by
 have ψ:i<es.length:=by rw[hst.1];exact(AJ.1 h).1
 exact⟨es[i],AF ψ,hst.2 i o eff _ h (AF ψ)⟩
theorem Iz{L L':Nat->Bool}{κ:Key}:∀(k:Nat),(∀(j:Nat) (e:Ent),j<k->es[j]?=some e->κ∈e.wr->L j=L' j)->(sub σ0 prs L k).get κ=(sub σ0 prs L' k).get κ
 |0,_=>rfl
 |k+1,h=>by
  have ih:=Iz k fun j e hj=>h j e (by omega)
  simp only[sub];cases hp:prs[k]? with
  |none=>exact ih
  |some p =>
   obtain⟨o,eff⟩:=p;obtain⟨e,he,hs⟩:=Iy hst hp;by_cases hκ:κ∈e.wr
   ·have:=h k e (by omega) he hκ
    simp only[this];cases L' k with
    |true=>exact hs.2.1 κ hκ _ _
    |false=>exact ih
   ·cases hL:L k<;>cases hL':L' k<;>simp only[hs.1 κ hκ]<;>exact ih
omit hst in
theorem QH{L:Nat->Bool}{i:Nat}(h:∀j,i<=j->L j=false):∀k,i<=k->sub σ0 prs L k=sub σ0 prs L i
 | 0, hk => by have:i=0:=by omega
               subst this;rfl
 |k+1,hk=>by
  by_cases hik:i=k+1
  ·subst hik;rfl
  ·have ih:=QH h k (by omega)
   simp only[sub];cases prs[k]? with
   |none=>exact ih
   |some p=>simp only[h k (by omega)];exact ih
omit hst in
theorem xF{L L':Nat->Bool}:∀k,(∀j,j<k->L j=L' j)->sub σ0 prs L k=sub σ0 prs L' k
 |0,_=>rfl
 |k+1,h=>by
  have ih:=xF k fun j hj=>h j (by omega)
  simp only[sub,ih,h k (by omega)]
theorem QI{L:Nat->Bool}{κ:Key}{i:Nat}(h:∀(j:Nat) (e:Ent),i<=j->es[j]?=some e->κ∈e.wr->L j=false):∀k,i<=k->(sub σ0 prs L k).get κ=(sub σ0 prs L i).get κ
 | 0, hk => by have:i=0:=by omega
               subst this;rfl
 |k+1,hk=>by
  by_cases hik:i=k+1
  ·subst hik;rfl
  ·have ih:=QI h k (by omega)
   simp only[sub];cases hp:prs[k]? with
   |none=>exact ih
   |some p =>
    obtain⟨o,eff⟩:=p;obtain⟨e,he,hs⟩:=Iy hst hp;by_cases hκ:κ∈e.wr
    ·simp only[h k e (by omega) he hκ];exact ih
    ·cases hL:L k<;>simp only[hs.1 κ hκ]<;>exact ih
end
theorem IA:∀(n:Nat) (S:List Nat),S.Nodup->(∀k∈S,k<n)->S.length<=n
 |0,S,_,h=>by
  cases S with
  |nil=>simp
  |cons x S=>have:=h x (by simp);omega
 |n+1,S,hn,h=>by
  by_cases hx:n∈S
  ·have:=IA n (S.erase n) (hn.erase n) fun k hk=>by
    have h1:=(hn.mem_erase_iff).1 hk
    have:=h k h1.2
    have:=h1.1
    omega
   rw[CX hx]at this;omega
  ·have:=IA n S hn fun k hk=>by
    have:=h k hk
    have:k≠n:=fun hc=>hx (hc ▸ hk)
    omega
   omega
section
variable {C:Cx} {ops:Array Oper} {σ0:State} {prs:List (Oper×Eff)} {es:List Ent}
theorem ai1{ro:Option Nat}(hst:Iw C ops σ0 prs es)(hl:prs.map (·.1)=ops.toList)(hok:Iu ops.toList es=true){Q:Exit->Act->World->Prop}
  (hq:∀a w,ay C (sub σ0 prs (fun _=>true) prs.length) a w->Q .normal a w) :
  ∀(fuel:Nat) (listed:Array Bool) (a:Act) (w:World),listed.size=ops.size ->
   (∀S:List Nat,S.Nodup->(∀k∈S,k<ops.size/\listed.getD k true=false)->S.length<=fuel) ->
   (∀(j:Nat) (o:Oper),ops[j]?=some o->listed.getD j false=true->∀k∈kX o,listed.getD k false=true) ->
   ay C (sub σ0 prs (fun k=>listed.getD k false) prs.length) a w->wpAnyIn (fnc ro) 0 C.P .any ops Q fuel listed a w:=by
 have hlen:prs.length=ops.size:=by have:=A8 List.length hl;simpa using this
 simp only[Iu,AG]at hok;obtain⟨helt,hchk⟩:=hok;have hop:∀(i:Nat) (o:Oper),ops[i]?=some o->∃eff,prs[i]?=some (o,eff):=fun i o hi=>by
  have h1:(prs.map (·.1))[i]?=some o:=by rw[hl];simpa using hi
  rw[Aj]at h1;cases hp:prs[i]? with
  |none=>simp[hp]at h1
  |some p=>simp[hp]at h1;exact⟨p.2,by rw[<-h1]⟩
 have hpo:∀(i:Nat) (o:Oper) (eff:Eff),prs[i]?=some (o,eff)->ops[i]?=some o:=fun i o eff hi=>by
  have h1:(prs.map (·.1))[i]?=some o:=by simp[hi]
  rw[hl]at h1;simpa using h1
 have hdep:∀(j:Nat) (o:Oper),ops[j]?=some o->∀x,((gR ops.toList []).getD j 0).testBit x=true->∃k∈kX o,k=x\/((gR ops.toList []).getD k 0).testBit x=true:=fun j o hj x hx=>by
  have:=QE (acc:=[]) (i:=0) rfl helt j o (by simpa using hj) x (by rw[AK];exact hx)
  exact this
 have hcon:∀(i j:Nat) (e e':Ent),i<j->es[i]?=some e->es[j]?=some e'->nz e e'=true->((gR ops.toList []).getD j 0).testBit i=true:=fun i j e e' hij hi hj hc =>
  QG hchk j e' hj i e (by simpa using hij) (by simpa using hi) hc
 have hgd:∀(listed:Array Bool),listed.size=ops.size->∀k,k<ops.size->(listed.getD k false=true↔listed.getD k true=true):=fun listed hs k hk=>by
  have:k<listed.size:=by omega
  simp[Array.getD,this]
 have hclosed:∀(listed:Array Bool),(∀(j:Nat) (o:Oper),ops[j]?=some o->listed.getD j false=true->∀k∈kX o,listed.getD k false=true) ->
   ∀(n j:Nat) (o:Oper),j<n->ops[j]?=some o->listed.getD j false=true->∀x,((gR ops.toList []).getD j 0).testBit x=true->listed.getD x false=true:=by
  intro listed hcl n
  induction n with
  |zero=>intro j o hj;omega
  |succ n ih =>
   intro j o hj ho hlj x hx
   obtain⟨k,hk,h1⟩:=hdep j o ho x hx;have hkl:=hcl j o ho hlj k hk
   rcases h1 with rfl|h1
   ·exact hkl
   ·have hkj:k<j:=by have:=xE helt j o (by simpa using ho) k hk;omega
    have hko:∃ok,ops[k]?=some ok:=by
     have:k<ops.size:=by have:=(A5.1 ho).1;omega
     exact⟨ops[k],Bk this⟩
    obtain⟨ok,hko⟩:=hko;exact ih k ok (by omega) hko hkl x h1
 intro fuel
 induction fuel with
 |zero =>
  intro listed a w hs hcnt hcl hse
  have hall:∀k,k<ops.size->listed.getD k false=true:=fun k hk=>by
   refine BU fun hc=>?_
   have:=hcnt [k] (by simp) (fun k' hk'=>by
    simp at hk';subst hk'
    refine⟨hk,?_⟩
    have:=hgd listed hs k' hk
    cases hx:listed.getD k' true with
    |false=>rfl
    |true=>exact absurd (this.2 hx) hc)
   simp at this
  refine⟨?_,hq a w ?_⟩
  ·unfold Region.ready
   rw[List.filter_eq_nil_iff];intro i hi
   have hi':i<ops.size:=by simpa using hi
   simp[(hgd listed hs i hi').1 (hall i hi')]
  ·rw[xF prs.length (L':=fun k=>listed.getD k false) fun j hj=>(hall j (by omega)).symm]
   exact hse
 |succ fuel ih =>
  intro listed a w hs hcnt hcl hse
  refine⟨fun hready=>hq a w ?_,fun i hi=>?_⟩
  ·-- nothing is ready: all are listed
   have hall:∀n k,k<n->k<ops.size->listed.getD k false=true:=by
    intro n
    induction n with
    |zero=>intro k hk;omega
    |succ n ihn =>
     intro k hk hko
     refine BU fun hc=>?_
     have hmem:k∈Region.ready .any ops listed:=by
      unfold Region.ready;rw[BH];refine⟨by simpa using hko,?_⟩
      have h1:listed.getD k true=false:=by
       cases hx:listed.getD k true with
       |false=>rfl
       |true=>exact absurd ((hgd listed hs k hko).2 hx) hc
      rw[h1];have h2:ops[k]?=some ops[k]:=Bk hko
      rw[h2];simp only[C6,CE,DO,Ac,Da];intro e he
      cases hb:Region.binds .any e with
      |false=>rfl
      |true =>
       have hon:e.on∈kX ops[k]:=AT.2 ⟨e,BH.2 ⟨by simpa using he,hb⟩,rfl⟩
       have ψ:e.on<k:=by have:=xE helt k ops[k] (by simp) e.on hon;omega
       simpa using ihn e.on (by omega) (by omega)
     rw[hready]at hmem;simp at hmem
   rw[xF prs.length (L':=fun k=>listed.getD k false) fun j hj=>(hall (j+1) j (by omega) (by omega)).symm]
   exact hse
  ·-- operation i is ready
   unfold Region.ready at hi;rw[BH]at hi;obtain⟨hir,hi2⟩:=hi;have hio:i<ops.size:=by simpa using hir
   have ho:ops[i]?=some ops[i]:=Bk hio
   simp only[AG,Ca,ho,CE,DO]at hi2;obtain⟨hil,hiall⟩:=hi2;have hil':listed.getD i false=false:=by
    cases hx:listed.getD i false with
    |false=>rfl
    |true=>rw[(hgd listed hs i hio).1 hx]at hil;cases hil
   have hedge:∀k∈kX ops[i],listed.getD k false=true:=fun k hk=>by
    obtain⟨e,he,rfl⟩:=AT.1 hk;obtain⟨he1,he2⟩:=BH.1 he;have:=Da.1 hiall e (by simpa using he1)
    rw[he2]at this
    simpa using this
   have hanc:∀x,((gR ops.toList []).getD i 0).testBit x=true->listed.getD x false=true:=fun x hx=>by
    obtain⟨k,hk,h1⟩:=hdep i _ ho x hx;rcases h1 with rfl|h1
    ·exact hedge k hk
    ·have hki:k<i:=by have:=xE helt i ops[i] (by simp) k hk;omega
     have hko:ops[k]?=some (ops[k]'(by omega)):=Bk (by omega)
     exact hclosed listed hcl (k+1) k _ (by omega) hko (hedge k hk) x h1
   have hafter:∀(j:Nat),i<j->((gR ops.toList []).getD j 0).testBit i=true->j<ops.size->listed.getD j false=false:=fun j hij hb hj=>by
    cases hx:listed.getD j false with
    |false=>rfl
    |true =>
     have hjo:ops[j]?=some ops[j]:=Bk hj
     have:=hclosed listed hcl (j+1) j _ (by omega) hjo hx i hb
     rw[hil']at this;cases this
   obtain⟨eff,hpi⟩:=hop i _ ho;obtain⟨e,hei,hstep⟩:=Iy hst hpi;have hesz:∀(j:Nat) (e':Ent),es[j]?=some e'->j<ops.size:=fun j e' hj=>by
    have:=(AJ.1 hj).1
    rw[hst.1]at this;omega
   have hread:∀κ∈e.rd,(sub σ0 prs (fun k=>listed.getD k false) prs.length).get κ=(sub σ0 prs (fun _=>true) i).get κ:=fun κ hκ=>by
    have h1:(sub σ0 prs (fun k=>listed.getD k false) prs.length).get κ=(sub σ0 prs (fun k=>decide (k<i)) prs.length).get κ:=Iz hst _ fun j e' hj he' hκ'=>by
     by_cases hji:j<i
     ·have:=hanc j (hcon j i e' e hji he' hei (by simp only[nz,xD hκ' hκ];rfl))
      rw[this];simp[hji]
     ·by_cases hij:j=i
      ·subst hij;rw[hil'];simp
      ·have hb:=hcon i j e e' (by omega) hei he' (by simp only[nz,xD hκ hκ'];simp)
       rw[hafter j (by omega) hb (hesz j e' he')]
       simp;omega
    rw[h1,QH (i:=i) (fun j hj=>by simp;omega) prs.length (by have:=(AJ.1 hpi).1;omega),xF i (L':=fun _=>true) fun j hj=>by simp[hj]]
   have hwp:=hstep.2.2 _ hread a w hse ro Q
   refine wpOpIn_mono (fun a' w' hse'=>?_) hwp
   have hset:∀k,(listed.setIfInBounds i true).getD k false=(listed.getD k false||decide (k=i)):=fun k=>by
    by_cases hk:k=i
    ·subst hk
     have:k<listed.size:=by omega
     simp[Array.getD,this]
    ·have hne:i≠k:=fun h=>hk h.symm
     simp[BM,Bo hne,hk]
   refine ih (listed.setIfInBounds i true) a' w' (by simpa using hs) (fun S hS hSk=>?_) (fun j o hj hlj k hk=>?_) (hse'.ext fun κ=>?_)
   ·have hiS:i ∉ S:=fun hc=>by
     have:=(hSk i hc).2
     have ψ:i<listed.size:=by omega
     simp[Array.getD,ψ]at this
    have:=hcnt (i::S) (Aa.2 ⟨hiS,hS⟩) (fun k hk=>by
     rcases AH.1 hk with rfl|hk
     ·exact⟨hio,hil⟩
     ·refine⟨(hSk k hk).1,?_⟩
      have h1:=(hSk k hk).2
      have hne:i≠k:=fun hc=>hiS (hc ▸ hk)
      simpa[BM,Bo hne]using h1)
    simp at this;omega
   ·rw[hset]at hlj⊢
    simp only[BI,AQ]at hlj⊢;rcases hlj with h1|h1
    ·exact .inl (hcl j o hj h1 k hk)
    ·subst h1
     have:o=ops[j]:=BE (hj.symm.trans ho)
     subst this;exact .inl (hedge k hk)
   ·-- the states read alike
    have hfun:(fun k=>(listed.setIfInBounds i true).getD k false)=fun k=>(listed.getD k false||decide (k=i)):=funext hset
    rw[hfun];have hile:i<prs.length:=(AJ.1 hpi).1
    by_cases hκ:κ∈e.wr
    ·rw[QI hst (i:=i+1) (fun j e' hj he' hκ'=>by
      have hb:=hcon i j e e' (by omega) hei he' (by simp only[nz,xD hκ hκ'];simp)
      rw[hafter j (by omega) hb (hesz j e' he')]
      simp;omega) prs.length (by omega)]
     simp only[sub,hpi];simp only[hil',decide_true,Bool.or_true];exact hstep.2.1 κ hκ _ _
    ·rw[hstep.1 κ hκ]
     refine Iz hst _ fun j e' hj he' hκ'=>?_
     have hne:j≠i:=fun hc=>by
      subst hc;have:e'=e:=BE (he'.symm.trans hei)
      subst this;exact hκ hκ'
     simp[hne]
end
end Go.Sx
end
section
namespace Go.Sx
open Go.RowKit
abbrev db:=List (Nat×Option Nat)
def fT:List Prop->Prop
 | []=>True
 |p::l=>match l with
  | []=>p
  |q::r=>p/\fT (q::r)
theorem nA{p:Prop}{l:List Prop}:fT (p::l)↔p/\fT l:=by
 cases l<;>simp[fT]
theorem xG{l l':List Prop}:fT (l++l')↔fT l/\fT l':=by
 induction l with
 |nil=>simp[fT]
 |cons p l ih=>rw[BT,nA,nA,ih,and_assoc]
def fF(ρ:db)(new:Nat)(old:Option Nat):Option db :=
 match lk ρ new with
 |none=>some ((new,old)::ρ)
 |some x=>match x,old with
  |some a,some b=>match Nat.beq a b with
   |true=>some ρ
   |false=>none
  |none,none=>some ρ
  |_,_=>none
def fm:FC->FC->Option Prop
 |.int k n,.int k' n'=>if k=k' then some (n=n')else none
 |.bool b,.bool b'=>some (b=b')
 |.str l,.str l'=>some (l=l')
 |.ints k l,.ints k' l'=>if k=k' then some (l=l')else none
 |.bools l,.bools l'=>some (l=l')
 |.rows k l,.rows k' l'=>if k=k' then some (l=l')else none
 |.r3 k l,.r3 k' l'=>if k=k' then some (l=l')else none
 |.r4 k l,.r4 k' l'=>if k=k' then some (l=l')else none
 |.p3 k l,.p3 k' l'=>if k=k' then some (l=l')else none
 |_,_=>none
def xH(σ:State)(o:Nat):Option Nat :=
 match σ.H o with
 |some (some ob)=>ob.len?
 |_=>none
def l7(σ:State)(o v:Nat):Bool :=
 match σ.H o with
 |some (some ob)=>Nat.beq ob.shp.ver v
 |_=>false
def xI(σ:State)(ρ:db)(c n:SC):Option (db×List Prop) :=
 match n with
 |.any=>some (ρ,[])
 |.und=>match c with
  |.und=>some (ρ,[])
  |_=>none
 |.int k' x'=>match c with
  |.int k x=>if k=k' then some (ρ,[x=x'])else none
  |_=>none
 |.bool x'=>match c with
  |.bool x=>some (ρ,[x=x'])
  |_=>none
 |.str x'=>match c with
  |.str x=>some (ρ,[x=x'])
  |_=>none
 |.nil=>match c with
  |.nil=>some (ρ,[])
  |_=>none
 |.own o'=>match c with
  |.own o=>match fF ρ o' (some o)with
   |some ρ'=>some (ρ',[])
   |none=>none
  |.nil=>match fF ρ o' none with
   |some ρ'=>some (ρ',[])
   |none=>none
  |_=>none
 |.pre o' x'=>match c with
  |.pre o x=>match fF ρ o' (some o)with
   |some ρ'=>some (ρ',[x=x'])
   |none=>none
  |.own o=>match xH σ o with
   |some L=>match fF ρ o' (some o)with
    |some ρ'=>some (ρ',[L=x'])
    |none=>none
   |none=>none
  |.nil=>match fF ρ o' none with
   |some ρ'=>some (ρ',[x'=0])
   |none=>none
  |_=>none
 |.sub o' y' x'=>match c with
  |.sub o y x=>match fF ρ o' (some o)with
   |some ρ'=>some (ρ',[y=y',x=x'])
   |none=>none
  |.pre o x=>match fF ρ o' (some o)with
   |some ρ'=>some (ρ',[0=y',x=x'])
   |none=>none
  |.own o=>match xH σ o with
   |some L=>match fF ρ o' (some o)with
    |some ρ'=>some (ρ',[0=y',L=x'])
    |none=>none
   |none=>none
  |_=>none
 |.ptr o' x'=>match c with
  |.ptr o x=>match fF ρ o' (some o)with
   |some ρ'=>match Nat.beq x x' with
    |true=>some (ρ',[])
    |false=>none
   |none=>none
  |_=>none
 |.row o' v' x'=>match c with
  |.row o v x=>match Nat.beq v' 0&&l7 σ o v with
   |true=>match fF ρ o' (some o)with
    |some ρ'=>some (ρ',[x=x'])
    |none=>none
   |false=>none
  |_=>none
 |.ro d'=>match c with
  |.ro d=>match fm d d' with
   |some p=>some (ρ,[p])
   |none=>none
  |.own o=>match σ.H o with
   |some (some (.frz d))=>match fm d d' with
    |some p=>some (ρ,[p])
    |none=>none
   |_=>none
  |.pre o n=>match σ.H o with
   |some (some (.frz d))=>match cz 0 n d with
    |some d0=>match fm d0 d' with
     |some p=>some (ρ,[p])
     |none=>none
    |none=>none
   |_=>none
  |.sub o off n=>match σ.H o with
   |some (some (.frz d))=>match cz off n d with
    |some d0=>match fm d0 d' with
     |some p=>some (ρ,[p])
     |none=>none
    |none=>none
   |_=>none
  |.nil=>match dt d' with
   |true=>none
   |false=>some (ρ,[d'.len=0])
  |_=>none
 |.rob cs' x'=>match c with
  |.rob cs x=>some (ρ,[cs=cs',x=x'])
  |_=>none
 |.orig o' j' d'=>match c with
  |.orig o j d=>match Nat.beq j j'&&l7 σ o 0 with
   |true=>match fF ρ o' (some o)with
    |some ρ'=>match fm d d' with
     |some p=>some (ρ',[p])
     |none=>none
    |none=>none
   |false=>none
  |_=>none
 |_=>none
def kY(σ:State):db->List SC->List SC->Option (db×List Prop)
 | ρ,[],[]=>some (ρ,[])
 | ρ,c::cs,n::ns=>match xI σ ρ c n with
  |some (ρ',ps)=>match kY σ ρ' cs ns with
   |some (ρ'',qs)=>some (ρ'',ps++qs)
   |none=>none
  |none=>none
 |_,_,_=>none
def IB(σ:State)(ρ:db)(v n:SV):Option (db×List Prop) :=
 match v,n with
 |.c c,.c d=>xI σ ρ c d
 |.agg cs,.agg ns=>kY σ ρ cs ns
 |.fn f cs,.fn f' ns=>match Nat.beq f f' with
  |true=>kY σ ρ cs ns
  |false=>none
 |.fv F,.fv F'=>some (ρ,[F=F'])
 |.fvs o F,.fvs o' F'=>match fF ρ o' (some o)with
  |some ρ'=>some (ρ',[F=F'])
  |none=>none
 |_,_=>none
def rE(σ:State):db->List (Nat×SV)->Option (db×List Prop)
 | ρ,[]=>some (ρ,[])
 | ρ,(t,n)::l=>match σ.F t with
  |some v=>match IB σ ρ v n with
   |some (ρ',ps)=>match rE σ ρ' l with
    |some (ρ'',qs)=>some (ρ'',ps++qs)
    |none=>none
   |none=>none
  |none=>none
def IC(σ:State)(pinned:Bool)(ρ:db)(ob n:Ob):Option (db×List Prop) :=
 match ob,n with
 |.box cs,.box ns=>kY σ ρ cs ns
 |.ints e k l,.ints e' k' l'=>if e=e'/\k=k' then some (ρ,[l=l'])else none
 |.bools e l,.bools e' l'=>if e=e' then some (ρ,[l=l'])else none
 |.strs e l,.strs e' l'=>if e=e' then some (ρ,[l=l'])else none
 |.rows v e ei k l,.rows v' e' ei' k' l'=>if e=e'/\ei=ei'/\k=k'/\(pinned=true->v<=v')then some (ρ,[l=l'])else none
 |.lst v e d,.lst v' e' d'=>if e=e'/\(pinned=true->v<=v')then(match fm d d' with|some p=>some (ρ,[p])|none=>none)else none
 |.mp l,.mp l'=>some (ρ,[l=l'])
 |.tr v es d,.tr v' es' d'=>match gN es es' with
  |true=>if pinned=true->v<=v' then(match fm d d' with|some p=>some (ρ,[p])|none=>none)else none
  |false=>none
 |.tr v (e1::e2::es) d,.trk v' es' d' n'=>match gN (e1::e2::es) es' with
  |true=>if pinned=true->v<=v' then(match fm d d' with|some p=>some (ρ,[p,n'=0])|none=>none)else none
  |false=>none
 |.trk v es d n,.trk v' es' d' n'=>match gN es es' with
  |true=>if pinned=true->v<=v' then(match fm d d' with|some p=>some (ρ,[p,n=n'])|none=>none)else none
  |false=>none
 |.qu e k l,.qu e' k' l'=>if e=e'/\k=k' then some (ρ,[l=l'])else none
 |.ints e k l,.qu e' k' l'=>if e=e'/\k=k' then some (ρ,[l=l'])else none
 |.yd v Y pre b,.yd v' Y' pre' b'=>some (ρ,[v=v',Y=Y',pre=pre',b=b'])
 |_,_=>none
def xJ(n:Ob):Option Prop :=
 match n with
 |.ints _ _ l=>some (l=[])
 |.bools _ l=>some (l=[])
 |.rows _ _ _ _ l=>some (l=[])
 |.lst _ _ d=>some (d.len=0)
 |.tr _ es d=>match es with
  |_::_::es'=>if d.dep=es'.length+1 then some (d.len=0)else none
  |_=>none
 |_=>none
def nB(σ:State)(pins:List Nat):db->List (Nat×Option Ob)->Option (db×List Prop)
 | ρ,[]=>some (ρ,[])
 |_,(_,none)::_=>none
 | ρ,(o',some n)::l=>match lk ρ o' with
  |some (some o)=>match σ.H o with
   |some (some ob)=>match IC σ (!(cE o' pins)) ρ ob n with
    |some (ρ',ps)=>match nB σ pins ρ' l with
     |some (ρ'',qs)=>some (ρ'',ps++qs)
     |none=>none
    |none=>none
   |_=>none
  |some none=>match xJ n with
   |some p=>match nB σ pins ρ l with
    |some (ρ'',qs)=>some (ρ'',p::qs)
    |none=>none
   |none=>none
  |none=>none
def kZ:db->List Nat
 | []=>[]
 |(_,some o)::l=>o::kZ l
 |(_,none)::l=>kZ l
def xK(hp:List (Nat×Option Ob)):db->Bool
 | []=>true
 |(k,_)::l=>(match lk hp k with
   |some (some _)=>true
   |_=>false)&&xK hp l
def xL(ρ:db):List Nat->Bool
 | []=>true
 |p::l=>(match lk ρ p with
   |some (some q)=>Nat.beq q p
   |_=>false)&&xL ρ l
def IE(σ n:State)(pins:List Nat):Option (List Prop) :=
 match rE σ (pins.map fun p=>(p,some p)) n.fr with
 |none=>none
 |some (ρ,ps)=>match nB σ pins ρ n.hp with
  |none=>none
  |some (ρ',qs)=>match fk (kZ ρ')&&xK n.hp ρ'&&xL ρ' pins&&fk (ρ'.map (·.1))with
   |true=>some (ps++qs)
   |false=>none
def l8(σ:State)(o:Nat):List (Nat×Option Ob) :=
 match σ.H o with
 |some (some ob)=>match ob.isFz with
  |true=>[]
  |false=>match gk ob with
   |some d=>[(o,some (.frz d))]
   |none=>[]
 |_=>[]
def xM(σ:State)(o:Nat):List (Nat×Option Ob) :=
 match σ.H o with
 |some (some (.rows v e _ k l))=>[(o,some (.lst (v+1) e (.rows k l)))]
 |_=>[]
def xN(σ n:State)(c d:SC):List (Nat×Option Ob) :=
 match c,d with
 |.own o,.ro _=>l8 σ o
 |.pre o _,.ro _=>l8 σ o
 |.sub o _ _,.ro _=>l8 σ o
 |.own o,.own o'=>match n.H o' with
  |some (some (.lst _ _ _))=>xM σ o
  |_=>[]
 |_,_=>[]
def rF(σ n:State):List SC->List SC->List (Nat×Option Ob)
 |c::cs,d::ds=>xN σ n c d++rF σ n cs ds
 |_,_=>[]
def xO(σ n:State):List SC->List SC->List (Nat×Option Ob)
 |c::cs,d::ds=>(match c,d with
  |.ptr o _,.ptr o' _=>match σ.H o,n.H o' with
   |some (some (.box cs)),some (some (.box ns))=>rF σ n cs ns
   |_,_=>[]
  |_,_=>[])++xO σ n cs ds
 |_,_=>[]
def IF(σ n:State)(v d:SV):List (Nat×Option Ob) :=
 match v,d with
 |.c c,.c d=>match c,d with
  |.ptr o _,.ptr o' _=>match σ.H o,n.H o' with
   |some (some (.box cs)),some (some (.box ns))=>rF σ n cs ns
   |_,_=>[]
  |c,d=>xN σ n c d
 |.agg cs,.agg ns=>rF σ n cs ns
 |.fn _ cs,.fn _ ns=>xO σ n cs ns
 |_,_=>[]
def rG(σ n:State):List (Nat×SV)->List (Nat×Option Ob)
 | []=>[]
 |(t,d)::l=>match σ.F t with
  |some v=>IF σ n v d++rG σ n l
  |none=>rG σ n l
def kj:List (Nat×Option Ob)->List (Nat×Option Ob)
 | []=>[]
 |(o,x)::l=>match cE o ((kj l).map (·.1))with
  |true=>(o,x)::kj l
  |false=>kj l
def QJ(σ n:State):State:=⟨σ.fr,kj (rG σ n n.fr)++σ.hp⟩
def eI(ρ ρ':db):Prop:=∀o x,lk ρ o=some x->lk ρ' o=some x
theorem eI.refl(ρ:db):eI ρ ρ:=fun _ _ h=>h
theorem eI.trans{a b c:db}(h:eI a b)(k:eI b c):eI a c:=fun o x hx=>k o x (h o x hx)
theorem eZ{ρ ρ':db}{n:Nat}{o:Option Nat}(h:fF ρ n o=some ρ'):eI ρ ρ'/\lk ρ' n=some o:=by
 unfold fF at h;split at h
 ·rename_i hn
  cases h;refine⟨fun x y hx=>?_,by simp[bt]⟩
  rw[bt];split
  ·rename_i hnx;subst hnx;rw[hn]at hx;cases hx
  ·exact hx
 ·rename_i x hx
  split at h
  ·split at h
   ·rename_i hab
    cases h;rw[AX hab]at hx;exact⟨.refl _,hx⟩
   ·cases h
  ·cases h;exact⟨.refl _,hx⟩
  ·cases h
theorem fU{d d':FC}{p:Prop}(h:fm d d'=some p)(hp:p):d=d':=by
 unfold fm at h;split at h
 ·split at h
  ·rename_i hk;cases h;rw[hk,hp]
  ·cases h
 ·cases h;rw[hp]
 ·cases h;rw[hp]
 ·split at h
  ·rename_i hk;cases h;rw[hk,hp]
  ·cases h
 ·cases h;rw[hp]
 ·split at h
  ·rename_i hk;cases h;rw[hk,hp]
  ·cases h
 ·split at h
  ·rename_i hk;cases h;rw[hk,hp]
  ·cases h
 ·split at h
  ·rename_i hk;cases h;rw[hk,hp]
  ·cases h
 ·split at h
  ·rename_i hk;cases h;rw[hk,hp]
  ·cases h
 ·cases h
theorem QK{d:FC}(hs:dt d=false)(h:d.len=0)(w:World):bp w (.slice none 0 0) d:=by
 have key:∀(R:Nat->Value->Prop),bE w (.slice none 0 0) 0 R:=fun R=>⟨_,_,rfl,AE _,fun h0=>by omega⟩
 cases d with
 |int k n=>cases hs
 |bool b=>cases hs
 |str l=>cases hs
 |_=>rename_i l;cases l<;>first|exact key _|(simp[FC.len]at h)
section
variable {C:Cx} {σ n:State} {mu mu':Nat->Img} {a:Act} {w:World}
def la(σ n:State)(mu mu':Nat->Img)(ρ:db):Prop :=
 ∀o' x,lk ρ o'=some x->∃nb,n.H o'=some (some nb)/\nb.isFz=false/\match x with
  |some o=>∃ob,σ.H o=some (some ob)/\ob.isFz=false/\nb.shp.len=ob.shp.len/\mu' o'=mu o/\∀L,ob.len?=some L->cA (mu o).hd 0 L (mu o).hd/\ob.shp.len=L
  |none=>(mu' o').hd=.slice none 0 0
theorem QL{ρ ρ':db}{c d:SC}{ps:List Prop}(h:xI σ ρ c d=some (ρ',ps))(hp:fT ps):eI ρ ρ'/\∀ρf,eI ρ' ρf->la σ n mu mu' ρf->∀v,ai (σ.env C.wF mu) c v->ai (n.env C.wF mu') d v:=by
 have ref:∀{o' o:Nat} {ρ'},fF ρ o' (some o)=some ρ'->∀{p q:Shp->Prop} {p2 q2:FC->Prop} {v},(∀s s',s'.len=s.len->mu' o'=mu o->p s->q s')->∀ρf,eI ρ' ρf->la σ n mu mu' ρf->bS (σ.env C.wF mu) o v p p2->bS (n.env C.wF mu') o' v q q2:=fun {o' o ρ'} hb {p q p2 q2 v} hpq ρf hex hro hv=>by
  obtain⟨nb,h1,h1f,ob,h2,h2f,h3,h4,_⟩:=hro o' _ (hex _ _ (eZ hb).2);have:=aP h2 hv
  exact d6 h1 hv.1 (hpq _ _ h3 h4 this)
 have own:∀{o' o L:Nat} {ρ'},xH σ o=some L->fF ρ o' (some o)=some ρ'->∀{v} {ρf} {q2:FC->Prop},eI ρ' ρf->la σ n mu mu' ρf->ai (σ.env C.wF mu) (.own o) v->bS (n.env C.wF mu') o' v (fun s=>L<=s.len/\cA (mu' o').hd 0 L v) q2:=fun {o' o L ρ'} hL hb {v ρf q2} hex hro hv=>by
  obtain⟨nb,h1,h1f,ob,h2,h2f,h3,h4,h5⟩:=hro o' _ (hex _ _ (eZ hb).2);have:=aP h2 hv
  unfold xH at hL;rw[h2]at hL;obtain⟨h6,h7⟩:=h5 L hL;refine d6 h1 hv.1 ⟨by rw[h3,h7];exact AE _,?_⟩
  rw[h4,show v=(mu o).hd from this]
  exact h6
 unfold xI at h;split at h
 ·cases h;exact⟨.refl _,fun _ _ _ _ _=>trivial⟩
 ·split at h
  ·cases h;exact⟨.refl _,fun _ _ _ v hv=>hv⟩
  ·cases h
 ·split at h
  ·split at h
   ·rename_i hk;cases h;exact⟨.refl _,fun _ _ _ v hv=>by simp only[ai]at hv⊢;rw[hv,hk,show _=_ from hp]⟩
   ·cases h
  ·cases h
 ·split at h
  ·cases h;exact⟨.refl _,fun _ _ _ v hv=>by simp only[ai]at hv⊢;rw[hv,show _=_ from hp]⟩
  ·cases h
 ·split at h
  ·cases h;exact⟨.refl _,fun _ _ _ v hv=>by simp only[ai]at hv⊢;rw[hv,show _=_ from hp]⟩
  ·cases h
 ·split at h
  ·cases h;exact⟨.refl _,fun _ _ _ v hv=>hv⟩
  ·cases h
 ·split at h
  ·split at h
   ·rename_i hb
    cases h;exact⟨(eZ hb).1,fun ρf hex hro v hv=>ref hb (p:=fun _=>v=(mu _).hd) (fun s s' _ h2 h3=>by show v=(mu' _).hd;rw[h2];exact h3) ρf hex hro hv⟩
   ·cases h
  ·split at h
   ·rename_i hb
    cases h;refine⟨(eZ hb).1,fun ρf hex hro v hv=>?_⟩
    obtain⟨nb,h1,h1f,h2⟩:=hro _ _ (hex _ _ (eZ hb).2);simp only[ai]at hv;subst hv;refine d6 h1 rfl ?_
    show _=(mu' _).hd
    rw[show(mu' _).hd=_ from h2]
   ·cases h
  ·cases h
 ·split at h
  ·split at h
   ·rename_i hb
    cases h;exact⟨(eZ hb).1,fun ρf hex hro v hv=>ref hb (p:=fun s=>_<=s.len/\cA (mu _).hd 0 _ v) (fun s s' h1 h2 h3=>by
     rw[<-show _=_ from hp]
     show _<=s'.len/\cA (mu' _).hd 0 _ v
     rw[h2,h1];exact h3) ρf hex hro hv⟩
   ·cases h
  ·split at h
   ·rename_i hL
    split at h
    ·rename_i hb
     cases h;exact⟨(eZ hb).1,fun ρf hex hro v hv=>by
      have hp:_=_:=hp
      subst hp;exact own hL hb hex hro hv⟩
    ·cases h
   ·cases h
  ·split at h
   ·rename_i hb
    cases h;refine⟨(eZ hb).1,fun ρf hex hro v hv=>?_⟩
    obtain⟨nb,h1,h1f,h2⟩:=hro _ _ (hex _ _ (eZ hb).2);simp only[ai]at hv;subst hv;refine d6 h1 rfl ⟨by rw[show _=_ from hp];exact Ad _,.inl ⟨?_,rfl,rfl,hp⟩⟩
    show(mu' _).hd=_
    exact h2
   ·cases h
  ·cases h
 ·split at h
  ·split at h
   ·rename_i hb
    cases h;obtain⟨hp1,hp2⟩:=nA.1 hp;exact⟨(eZ hb).1,fun ρf hex hro v hv=>ref hb (p:=fun s=>_+_<=s.len/\cA (mu _).hd _ _ v) (fun s s' h1 h2 h3=>by
     rw[<-hp1,<-show _=_ from hp2]
     show _+_<=s'.len/\cA (mu' _).hd _ _ v
     rw[h2,h1];exact h3) ρf hex hro hv⟩
   ·cases h
  ·split at h
   ·rename_i hb
    cases h;obtain⟨hp1,hp2⟩:=nA.1 hp;exact⟨(eZ hb).1,fun ρf hex hro v hv=>ref hb (p:=fun s=>_<=s.len/\cA (mu _).hd 0 _ v) (fun s s' h1 h2 h3=>by
     rw[<-hp1,<-show _=_ from hp2]
     show 0+_<=s'.len/\cA (mu' _).hd 0 _ v
     rw[h2,h1,AK];exact h3) ρf hex hro hv⟩
   ·cases h
  ·split at h
   ·rename_i hL
    split at h
    ·rename_i hb
     cases h;obtain⟨hp1,hp2⟩:=nA.1 hp;exact⟨(eZ hb).1,fun ρf hex hro v hv=>by
      have hp1:0=_:=hp1
      have hp2:_=_:=hp2
      subst hp1;subst hp2
      show bS _ _ _ (fun s=>0+_<=s.len/\_) _
      rw[AK];exact own hL hb hex hro hv⟩
    ·cases h
   ·cases h
  ·cases h
 ·split at h
  ·split at h
   ·rename_i hb
    split at h
    ·rename_i hx
     cases h;have hx:=AX hx
     exact⟨(eZ hb).1,fun ρf hex hro v hv=>ref hb (p:=fun s=>_<s.len/\∃b,ac (mu _).hd=some b/\v=.pointer (some ⟨b,_,none⟩)) (fun s s' h1 h2 h3=>by
      rw[<-hx]
      show _<s'.len/\∃b,ac (mu' _).hd=some b/\v=.pointer (some ⟨b,_,none⟩)
      rw[h2,h1];exact h3) ρf hex hro hv⟩
    ·cases h
   ·cases h
  ·cases h
 ·split at h
  ·split at h
   ·rename_i hf
    split at h
    ·rename_i hb
     cases h;rw[AG]at hf;have hz:=AX hf.1
     refine⟨(eZ hb).1,fun ρf hex hro v hv=>?_⟩
     obtain⟨nb,h1,h1f,ob,h2,h2f,h3,h4,_⟩:=hro _ _ (hex _ _ (eZ hb).2);have hfr:=hf.2
     unfold l7 at hfr;rw[h2]at hfr;have h5:=AX hfr
     have h6:=aP h2 hv
     refine d6 h1 hv.1 ⟨by rw[hz];exact Ad _,fun _=>?_⟩
     rw[h3,<-show _=_ from hp]
     show(mu' _).ins[_]?=some v/\_
     rw[h4];exact h6.2 h5
    ·cases h
   ·cases h
  ·cases h
 ·split at h
  ·split at h
   ·rename_i hd
    cases h;have:=fU hd hp
    subst this;exact⟨.refl _,fun _ _ _ v hv=>hv⟩
   ·cases h
  ·split at h
   ·rename_i ho
    split at h
    ·rename_i hd
     cases h;have:=fU hd hp
     subst this;refine⟨.refl _,fun _ _ _ v hv=>?_⟩
     have h2:=hv.2
     have e:(σ.env C.wF mu).st _=.frz _:=fD ho
     rw[e]at h2;exact h2
    ·cases h
   ·cases h
  ·split at h
   ·rename_i ho
    split at h
    ·rename_i ht
     split at h
     ·rename_i hd
      cases h;have:=fU hd hp
      subst this;refine⟨.refl _,fun _ _ _ v hv=>?_⟩
      have h2:=hv.2
      have e:(σ.env C.wF mu).st _=.frz _:=fD ho
      rw[e]at h2;obtain⟨d',q1,q2⟩:=h2;rw[ht]at q1;cases q1;exact q2
     ·cases h
    ·cases h
   ·cases h
  ·split at h
   ·rename_i ho
    split at h
    ·rename_i ht
     split at h
     ·rename_i hd
      cases h;have:=fU hd hp
      subst this;refine⟨.refl _,fun _ _ _ v hv=>?_⟩
      have h2:=hv.2
      have e:(σ.env C.wF mu).st _=.frz _:=fD ho
      rw[e]at h2;obtain⟨d',q1,q2⟩:=h2;rw[ht]at q1;cases q1;exact q2
     ·cases h
    ·cases h
   ·cases h
  ·split at h
   ·cases h
   ·rename_i hs
    cases h;refine⟨.refl _,fun _ _ _ v hv=>?_⟩
    simp only[ai]at hv;subst hv;exact⟨⟨_,_,_,rfl,AE _⟩,QK hs hp _⟩
  ·cases h
 ·split at h
  ·cases h
   obtain⟨hp1,hp2⟩:=nA.1 hp;have hp2:_=_:=hp2
   subst hp1;subst hp2;exact⟨.refl _,fun _ _ _ v hv=>hv⟩
  ·cases h
 ·split at h
  ·split at h
   ·rename_i hf
    split at h
    ·rename_i hb
     split at h
     ·rename_i hd
      cases h;have:=fU hd hp
      subst this;rw[AG]at hf;have hj:=AX hf.1
      refine⟨(eZ hb).1,fun ρf hex hro v hv=>⟨hv.1,?_⟩⟩
      obtain⟨nb,h1,h1f,ob,h2,h2f,h3,h4,_⟩:=hro _ _ (hex _ _ (eZ hb).2);have hfr:=hf.2
      unfold l7 at hfr;rw[h2]at hfr;have h5:=AX hfr
      have h6:=aP h2 hv.2
      refine d6 h1 hv.2.1 fun _=>?_
      show(mu' _).ins[_]?=_
      rw[h4,<-hj];exact h6 h5
     ·cases h
    ·cases h
   ·cases h
  ·cases h
 ·cases h
theorem xP:∀{cs ns:List SC} {ρ ρ':db} {ps:List Prop},kY σ ρ cs ns=some (ρ',ps)->fT ps->eI ρ ρ'/\ns.length=cs.length/\∀ρf,eI ρ' ρf->la σ n mu mu' ρf->∀arr,c9 (σ.env C.wF mu) cs arr->c9 (n.env C.wF mu') ns arr
 | [],[],ρ,ρ',ps,h,hp=>by
  simp only[kY]at h;cases h;exact⟨.refl _,rfl,fun _ _ _ arr ha=>⟨ha.1,fun i c hc=>by simp at hc⟩⟩
 | [],_::_,ρ,ρ',ps,h,_=>by simp[kY]at h
 |_::_,[],ρ,ρ',ps,h,_=>by simp[kY]at h
 |c::cs,d::ns,ρ,ρ',ps,h,hp=>by
  simp only[kY]at h;split at h
  ·rename_i ρ1 ps1 h1
   split at h
   ·rename_i ρ2 qs h2
    cases h;obtain⟨hp1,hp2⟩:=xG.1 hp;obtain⟨k1,k2⟩:=QL (C:=C) (σ:=σ) (n:=n) (mu:=mu) (mu':=mu') h1 hp1;obtain⟨m1,m2,m3⟩:=xP h2 hp2;refine⟨k1.trans m1,by simp[m2],fun ρf hex hro arr ha=>⟨by rw[ha.1];simp[m2],fun i x hx=>?_⟩⟩
    have tl:c9 (σ.env C.wF mu) cs (arr.extract 1 arr.size):=by
     have hsz:=ha.1
     simp only[AR]at hsz;refine⟨by simp[hsz],fun j y hy=>?_⟩
     obtain⟨u,q1,q2⟩:=ha.2 (j+1) y (by simpa using hy)
     have ψ:j+1<arr.size:=(A5.1 q1).1
     refine⟨u,?_,q2⟩
     rw[DC,AA (by omega),CF 1 j]
     exact q1
    cases i with
    |zero =>
     simp at hx;subst hx
     obtain⟨u,q1,q2,q3⟩:=ha.2 0 c rfl;exact⟨u,q1,q2,k2 ρf (m1.trans hex) hro u q3⟩
    |succ i =>
     obtain⟨u,q1,q2⟩:=(m3 ρf hex hro _ tl).2 i x (by simpa using hx)
     refine⟨u,?_,q2⟩
     have ψ:=(A5.1 q1).1
     simp at ψ
     rw[DC,AA (by omega),CF 1 i]at q1
     exact q1
   ·cases h
  ·cases h
theorem ai2{ρ ρ':db}{v d:SV}{ps:List Prop}(h:IB σ ρ v d=some (ρ',ps))(hp:fT ps):eI ρ ρ'/\∀ρf,eI ρ' ρf->la σ n mu mu' ρf->∀u,aw C.P (σ.env C.wF mu) v u->aw C.P (n.env C.wF mu') d u:=by
 unfold IB at h;split at h
 ·exact QL h hp
 ·obtain⟨h1,_,h2⟩:=xP (C:=C) (σ:=σ) (n:=n) (mu:=mu) (mu':=mu') h hp
  refine⟨h1,fun ρf hex hro u hu=>?_⟩
  obtain⟨arr,rfl,ha⟩:=hu;exact⟨arr,rfl,h2 ρf hex hro arr ha⟩
 ·split at h
  ·rename_i hf
   obtain⟨h1,_,h2⟩:=xP (C:=C) (σ:=σ) (n:=n) (mu:=mu) (mu':=mu') h hp;refine⟨h1,fun ρf hex hro u hu=>?_⟩
   obtain⟨arr,rfl,ha⟩:=hu;exact⟨arr,by rw[AX hf],h2 ρf hex hro arr ha⟩
  ·cases h
 ·cases h
  have hp:_=_:=hp
  subst hp;exact⟨.refl _,fun _ _ _ u hu=>hu⟩
 ·rename_i o F o' F'
  cases hb:fF ρ o' (some o)with
  |none=>simp[hb]at h
  |some ρ1 =>
   simp[hb]at h
   obtain⟨rfl,rfl⟩:=h;have hp:F=F':=hp
   subst hp;refine⟨(eZ hb).1,fun ρf hex hro u hu=>?_⟩
   have hu:bS _ _ _ _:=hu
   obtain⟨nb,h1,h1f,ob,h2,h2f,h3,h4,_⟩:=hro o' _ (hex _ _ (eZ hb).2);obtain⟨b,hb1,hb2⟩:=aP h2 hu;exact d6 h1 hu.1 ⟨b,(show(mu' o').hd=_ by rw[h4];exact hb1),hb2⟩
 ·cases h
theorem QM:∀{l:List (Nat×SV)} {ρ ρ':db} {ps:List Prop},rE σ ρ l=some (ρ',ps)->fT ps->eI ρ ρ'/\∀ρf,eI ρ' ρf->la σ n mu mu' ρf->∀t d,lk l t=some d->∃v,σ.F t=some v/\∀u,aw C.P (σ.env C.wF mu) v u->aw C.P (n.env C.wF mu') d u
 | [],ρ,ρ',ps,h,hp=>by
  simp only[rE]at h;cases h;exact⟨.refl _,fun _ _ _ t d ht=>by simp[lk]at ht⟩
 |(t0,d0)::l,ρ,ρ',ps,h,hp=>by
  simp only[rE]at h;split at h
  ·rename_i v hv
   split at h
   ·rename_i ρ1 ps1 h1
    split at h
    ·rename_i ρ2 qs h2
     cases h;obtain⟨hp1,hp2⟩:=xG.1 hp;obtain⟨k1,k2⟩:=ai2 (C:=C) (σ:=σ) (n:=n) (mu:=mu) (mu':=mu') h1 hp1;obtain⟨m1,m2⟩:=QM h2 hp2;refine⟨k1.trans m1,fun ρf hex hro t d ht=>?_⟩
     rw[bt]at ht;split at ht
     ·rename_i htt;subst htt;cases ht
      exact⟨v,hv,k2 ρf (m1.trans hex) hro⟩
     ·exact m2 ρf hex hro t d ht
    ·cases h
   ·cases h
  ·cases h
theorem ai3{pd:Bool}{ρ ρ':db}{ob nb:Ob}{ps:List Prop}(h:IC σ pd ρ ob nb=some (ρ',ps))(hp:fT ps):eI ρ ρ'/\(nb.shp.len=ob.shp.len/\nb.isFz=false/\ob.isFz=false)/\(pd=true->ob.shp.ver<=nb.shp.ver) /\
  ∀ρf,eI ρ' ρf->la σ n mu mu' ρf->∀m,aR (σ.env C.wF mu) w m ob->aR (n.env C.wF mu') w m nb:=by
 unfold IC at h;split at h
 ·obtain⟨h1,h2,h3⟩:=xP (C:=C) (σ:=σ) (n:=n) (mu:=mu) (mu':=mu') h hp
  refine⟨h1,⟨h2,rfl,rfl⟩,fun _=>AE _,fun ρf hex hro m hm=>?_⟩
  obtain⟨b,arr,t,q1,q2,q3,q4⟩:=hm;exact⟨b,arr,t,q1,q2,q3,h3 ρf hex hro arr q4⟩
 ·split at h
  ·rename_i hk
   obtain⟨rfl,rfl⟩:=hk;cases h;have hp:_=_:=hp
   subst hp;exact⟨.refl _,⟨rfl,rfl,rfl⟩,fun _=>AE _,fun _ _ _ m hm=>hm⟩
  ·cases h
 ·split at h
  ·rename_i hk
   subst hk;cases h;have hp:_=_:=hp
   subst hp;exact⟨.refl _,⟨rfl,rfl,rfl⟩,fun _=>AE _,fun _ _ _ m hm=>hm⟩
  ·cases h
 ·split at h
  ·rename_i hk
   subst hk;cases h;have hp:_=_:=hp
   subst hp;exact⟨.refl _,⟨rfl,rfl,rfl⟩,fun _=>AE _,fun _ _ _ m hm=>hm⟩
  ·cases h
 ·split at h
  ·rename_i hk
   obtain⟨rfl,rfl,rfl,hv⟩:=hk;cases h;have hp:_=_:=hp
   subst hp;exact⟨.refl _,⟨rfl,rfl,rfl⟩,hv,fun _ _ _ m hm=>hm⟩
  ·cases h
 ·split at h
  ·rename_i hk
   obtain⟨rfl,hv⟩:=hk;split at h
   ·rename_i hd
    cases h;have:=fU hd hp
    subst this;exact⟨.refl _,⟨rfl,rfl,rfl⟩,hv,fun _ _ _ m hm=>hm⟩
   ·cases h
  ·cases h
 ·cases h
  have hp:_=_:=hp
  subst hp;exact⟨.refl _,⟨rfl,rfl,rfl⟩,fun _=>AE _,fun _ _ _ m hm=>hm⟩
 ·split at h
  ·rename_i hes
   have hes:=jk hes
   subst hes;split at h
   ·rename_i hv
    split at h
    ·rename_i hd
     cases h;have:=fU hd hp
     subst this;exact⟨.refl _,⟨rfl,rfl,rfl⟩,hv,fun _ _ _ m hm=>hm⟩
    ·cases h
   ·cases h
  ·cases h
 ·split at h
  ·rename_i hes
   have hes:=jk hes
   subst hes;split at h
   ·rename_i hv
    split at h
    ·rename_i hd
     cases h;obtain⟨hp,rfl⟩:_/\_=_:=hp;have:=fU hd hp
     subst this;exact⟨.refl _,⟨rfl,rfl,rfl⟩,hv,fun _ _ _ m hm=>let⟨nd,h1,h2⟩:=hm;⟨nd,h1,h2.k⟩⟩
    ·cases h
   ·cases h
  ·cases h
 ·split at h
  ·rename_i hes
   have hes:=jk hes
   subst hes;split at h
   ·rename_i hv
    split at h
    ·rename_i hd
     cases h;obtain⟨hp,rfl⟩:_/\_=_:=hp;have:=fU hd hp
     subst this;exact⟨.refl _,⟨rfl,rfl,rfl⟩,hv,fun _ _ _ m hm=>hm⟩
    ·cases h
   ·cases h
  ·cases h
 ·split at h
  ·rename_i hk
   obtain⟨rfl,rfl⟩:=hk;cases h;have hp:_=_:=hp
   subst hp;exact⟨.refl _,⟨rfl,rfl,rfl⟩,fun _=>AE _,fun _ _ _ m hm=>hm⟩
  ·cases h
 ·split at h
  ·rename_i hk
   obtain⟨rfl,rfl⟩:=hk;cases h;have hp:_=_:=hp
   subst hp;exact⟨.refl _,⟨rfl,rfl,rfl⟩,fun _=>AE _,fun _ _ _ m hm=>⟨hm.1,HU hm.2⟩⟩
  ·cases h
 ·cases h
  obtain⟨rfl,rfl,rfl,rfl⟩:=hp;exact⟨.refl _,⟨rfl,rfl,rfl⟩,fun _=>AE _,fun _ _ _ m hm=>hm⟩
 ·cases h
theorem ai4{nb:Ob}{p:Prop}(h:xJ nb=some p):nb.isFz=false:=by cases nb<;>first|rfl|cases h
theorem QN{nb:Ob}{p:Prop}(h:xJ nb=some p)(hp:p)(E:Env):aR E w (iX nb) nb/\(iX nb).blocks=[]:=by
 unfold xJ at h;split at h
 ·cases h;have hp:_=_:=hp;subst hp;exact⟨⟨rfl,World.ownsRow_nil _ _ _ _⟩,rfl⟩
 ·cases h;have hp:_=_:=hp;subst hp;exact⟨⟨rfl,World.ownsRow_nil _ _ _ _⟩,rfl⟩
 ·cases h;have hp:_=_:=hp;subst hp;exact⟨⟨World.ownsRow_nil _ _ _ _,rfl,fun i v r hi=>by simp[iX]at hi⟩,rfl⟩
 ·cases h
  have hp:_=_:=hp
  exact⟨⟨rfl,[],by rw[hp];exact World.ownsRow_nil _ _ _ _,fun i u hi=>by simp at hi⟩,rfl⟩
 ·rename_i d
  split at h
  ·rename_i e1 e2 es'
   split at h
   ·rename_i hd
    cases h;have hp:_=_:=hp
    have hT:br w (e1::e2::es') (bu (.slice none 0 0) []) d:=by
     refine⟨rfl,hd,?_,fun i u y hu=>by simp[cY]at hu⟩
     rw[hp];exact World.ownsRow_nil _ _ _ _
    refine⟨⟨_,rfl,hT⟩,?_⟩
    show(dw (e1::e2::es').length (bu (.slice none 0 0) [])).blocks=[]
    rw[ef hT,HF]
   ·cases h
  ·cases h
 ·cases h
theorem IG{pins:List Nat}:∀{l:List (Nat×Option Ob)} {ρ ρ':db} {ps:List Prop},nB σ pins ρ l=some (ρ',ps)->fT ps->eI ρ ρ' /\
  ∀o' x,lk l o'=some x->∃nb,x=some nb/\nb.isFz=false/\∃y,lk ρ' o'=some y/\match y with
   |some o=>∃ob,σ.H o=some (some ob)/\ob.isFz=false/\nb.shp.len=ob.shp.len/\(o'∈pins->ob.shp.ver<=nb.shp.ver)/\∀ρf,eI ρ' ρf->la σ n mu mu' ρf->∀m,aR (σ.env C.wF mu) w m ob->aR (n.env C.wF mu') w m nb
   |none=>(∀E,aR E w (iX nb) nb)/\(iX nb).blocks=[]
 | [],ρ,ρ',ps,h,hp=>by
  simp only[nB]at h;cases h;exact⟨.refl _,fun o' x hx=>by simp[lk]at hx⟩
 |(_,none)::_,ρ,ρ',ps,h,_=>by simp[nB]at h
 |(o0,some n0)::l,ρ,ρ',ps,h,hp=>by
  simp only[nB]at h;split at h
  ·rename_i o ho
   split at h
   ·rename_i ob hob
    split at h
    ·rename_i ρ1 ps1 h1
     split at h
     ·rename_i ρ2 qs h2
      cases h;obtain⟨hp1,hp2⟩:=xG.1 hp;obtain⟨k1,k2,k3,k4⟩:=ai3 (C:=C) (σ:=σ) (n:=n) (mu:=mu) (mu':=mu') (w:=w) h1 hp1;obtain⟨m1,m2⟩:=IG h2 hp2;refine⟨k1.trans m1,fun o' x hx=>?_⟩
      rw[bt]at hx;split at hx
      ·rename_i hoo;subst hoo;cases hx
       refine⟨n0,rfl,k2.2.1,some o,m1 _ _ (k1 _ _ ho),ob,hob,k2.2.2,k2.1,fun hpin=>k3 ?_,fun ρf hex hro m hm=>k4 ρf (m1.trans hex) hro m hm⟩
       cases hn:cE o0 pins with
       |false=>rfl
       |true=>exact absurd hpin (jv hn)
      ·exact m2 o' x hx
     ·cases h
    ·cases h
   ·cases h
  ·rename_i ho
   split at h
   ·rename_i p hnil
    split at h
    ·rename_i ρ2 qs h2
     cases h;obtain⟨hp1,hp2⟩:=nA.1 hp;obtain⟨m1,m2⟩:=IG h2 hp2;refine⟨m1,fun o' x hx=>?_⟩
     rw[bt]at hx;split at hx
     ·rename_i hoo;subst hoo;cases hx
      exact⟨n0,rfl,ai4 hnil,none,m1 _ _ ho,fun E=>(QN hnil hp1 E).1,(QN (w:=w) hnil hp1 (E0 w)).2⟩
     ·exact m2 o' x hx
    ·cases h
   ·cases h
  ·cases h
theorem IH{hp:List (Nat×Option Ob)}:∀{ρ:db},xK hp ρ=true->∀o x,lk ρ o=some x->∃nb,lk hp o=some (some nb)
 | [],_,o,x,h=>by simp[lk]at h
 |(k,y)::ρ,hk,o,x,h=>by
  simp only[xK,AG]at hk;rw[bt]at h;split at h
  ·rename_i hko;subst hko
   have:=hk.1
   split at this
   ·rename_i nb hnb;exact⟨nb,hnb⟩
   ·cases this
  ·exact IH hk.2 o x h
theorem QO{ρ:db}:∀{pins:List Nat},xL ρ pins=true->∀p∈pins,lk ρ p=some (some p)
 | [],_,p,h=>by simp at h
 |q::pins,hk,p,h=>by
  simp only[xL,AG]at hk;rcases AH.1 h with rfl|h
  ·have:=hk.1
   split at this
   ·rename_i q hq;rw[hq,AX this]
   ·cases this
  ·exact QO hk.2 p h
theorem xQ:∀{ρ:db} {k o:Nat},(k,some o)∈ρ->o∈kZ ρ
 | [],_,_,h=>by simp at h
 |(k',some o')::ρ,k,o,h=>by
  simp only[kZ];rcases AH.1 h with h|h
  ·cases h;simp
  ·exact Ab _ (xQ h)
 |(k',none)::ρ,k,o,h=>by
  simp only[kZ];rcases AH.1 h with h|h
  ·cases h
  ·exact xQ h
theorem II:∀{ρ:db},(kZ ρ).Nodup->∀k k' o,(k,some o)∈ρ->(k',some o)∈ρ->(k,some o)=((k',some o):Nat×Option Nat)
 | [],_,k,k',o,h,_=>by simp at h
 |(q,none)::ρ,hn,k,k',o,h,h'=>by
  simp only[kZ]at hn;rcases AH.1 h with h|h
  ·cases h
  ·rcases AH.1 h' with h' |h'
   ·cases h'
   ·exact II hn k k' o h h'
 |(q,some x)::ρ,hn,k,k',o,h,h'=>by
  simp only[kZ]at hn;obtain⟨h1,h2⟩:=Aa.1 hn;rcases AH.1 h with h|h
  ·rcases AH.1 h' with h' |h'
   ·rw[h,h']
   ·cases h;exact absurd (xQ h') h1
  ·rcases AH.1 h' with h' |h'
   ·cases h';exact absurd (xQ h) h1
   ·exact II h2 k k' o h h'
theorem nC{α:Type}:∀{l:List (Nat×α)} {o:Nat} {x:α},lk l o=some x->(o,x)∈l
 | [],o,x,h=>by simp[lk]at h
 |(k,v)::l,o,x,h=>by
  rw[bt]at h;split at h
  ·rename_i hk;subst hk;cases h;simp
  ·exact Ab _ (nC h)
theorem ai5{pins:List Nat}(hpins:∀o m,C.pin o=some m->o∈pins){ps:List Prop}(hs:IE σ n pins=some ps)(hp:fT ps)(h:ay C σ a w):ay C n a w:=by
 obtain⟨wG,mu,hgf,h⟩:=h;unfold IE at hs;split at hs
 ·cases hs
 ·rename_i ρ ps1 h1
  split at hs
  ·cases hs
  ·rename_i ρ' qs h2
   split at hs
   ·rename_i hchk
    cases hs;simp only[AG]at hchk;obtain⟨⟨⟨hn,hk⟩,hpi⟩,_⟩:=hchk;obtain⟨hp1,hp2⟩:=xG.1 hp
    let mu':Nat->Img:=fun o'=>match lk ρ' o' with
     |some (some o)=>mu o
     |some none=>match n.H o' with
      |some (some nb)=>iX nb
      |_=>⟨.slice none 0 0,[]⟩
     |none=>⟨undef,[]⟩
    obtain⟨k1,k2⟩:=QM (C:=C.fz wG) (σ:=σ) (n:=n) (mu:=mu) (mu':=mu') h1 hp1;obtain⟨m1,m2⟩:=IG (C:=C.fz wG) (σ:=σ) (n:=n) (mu:=mu) (mu':=mu') (w:=w) h2 hp2;have hro:la σ n mu mu' ρ':=fun o' x hx=>by
     obtain⟨nb,hnb⟩:=IH hk o' x hx;have hnb':n.H o'=some (some nb):=hnb
     obtain⟨nb',e1,e1f,y,e2,e3⟩:=m2 o' _ hnb;cases e1;have:y=x:=BE (e2.symm.trans hx)
     subst this;refine⟨nb,hnb,e1f,?_⟩
     cases y with
     |some o =>
      obtain⟨ob,q1,q1f,q2,_⟩:=e3;exact⟨ob,q1,q1f,q2,by simp only[mu',hx],fun L hL=>qM hL (h.ob o ob q1)⟩
     |none=>simp only[mu',hx,hnb'];exact Ql nb
    have hob:∀o' nb,n.H o'=some (some nb)->(∃o ob,lk ρ' o'=some (some o)/\σ.H o=some (some ob)/\mu' o'=mu o/\(nb.isFz=false/\ob.isFz=false)/\(o'∈pins->ob.shp.ver<=nb.shp.ver)/\aR (n.env wG mu') w (mu' o') nb) \/
      (lk ρ' o'=some none/\(mu' o').blocks=[]/\aR (n.env wG mu') w (mu' o') nb):=fun o' nb hnb=>by
     obtain⟨nb',e1,e1f,y,e2,e3⟩:=m2 o' _ hnb;cases e1;cases y with
     |some o =>
      obtain⟨ob,q1,q1f,q2,q3,q4⟩:=e3;have hmu:mu' o'=mu o:=by simp only[mu',e2]
      exact .inl ⟨o,ob,e2,q1,hmu,⟨e1f,q1f⟩,q3,by rw[hmu];exact q4 ρ' (.refl _) hro _ (h.ob o ob q1)⟩
     |none =>
      have hmu:mu' o'=iX nb:=by simp only[mu',e2,hnb]
      exact .inr ⟨e2,by rw[hmu];exact e3.2,by rw[hmu];exact e3.1 _⟩
    have hdf:kG (C.fz wG).w0.heap.size n mu' a.defers w:=by
     obtain⟨rs,z1,z2,z3⟩:=h.df;refine⟨rs,z1,z2,fun r hr=>?_⟩
     obtain⟨y1,y2,y3⟩:=z3 r hr;refine⟨y1,y2,fun o' nb ho hb=>?_⟩
     rcases hob o' nb ho with⟨o,ob,_,q1,q2,_⟩|⟨_,q2,_⟩
     ·rw[q2]at hb;exact y3 o ob q1 hb
     ·rw[q2]at hb;simp[Img.blocks,ac]at hb
    refine⟨wG,mu',hgf,h.os,h.tape,h.output,h.size,h.block,fun p u hp=>⟨fun o' nb ho hb=>?_,(h.cells p u hp).2⟩,h.sz,hdf,fun t sv ht=>?_,fun o' nb ho=>?_,fun o' nb ho=>?_,fun o1 o2 n1 n2 hne ho1 ho2 b hb hb'=>?_,fun o m hpm=>?_⟩
    ·rcases hob o' nb ho with⟨o,ob,_,q1,q2,_⟩|⟨_,q2,_⟩
     ·rw[q2]at hb;exact(h.cells p u hp).1 o ob q1 hb
     ·rw[q2]at hb;simp[Img.blocks,ac]at hb
    ·obtain⟨v,q1,q2⟩:=k2 ρ' m1 hro t sv ht
     exact q2 _ (h.fr t v q1)
    ·rcases hob o' nb ho with⟨_,_,_,_,_,_,_,q⟩|⟨_,_,q⟩<;>exact q
    ·rcases hob o' nb ho with⟨o,ob,_,q1,q2,_⟩|⟨_,q2,_⟩
     ·rw[q2];exact h.nd o ob q1
     ·rw[q2];simp[Img.blocks,ac]
    ·rcases hob o1 n1 ho1 with⟨x1,y1,l1,q1,q2,_⟩|⟨_,q2,_⟩
     ·rcases hob o2 n2 ho2 with⟨x2,y2,l2,r1,r2,_⟩|⟨_,r2,_⟩
      ·rw[q2]at hb;rw[r2]at hb'
       refine h.sep x1 x2 y1 y2 (fun hc=>hne ?_) q1 r1 b hb hb'
       subst hc;have:=II (kU hn) o1 o2 x1 (nC l1) (nC l2)
       simpa using this
      ·rw[r2]at hb';simp[Img.blocks,ac]at hb'
     ·rw[q2]at hb;simp[Img.blocks,ac]at hb
    ·have hop:=hpins o m hpm
     have hlk:=QO hpi o hop
     obtain⟨nb,hnb⟩:=IH hk o _ hlk;have hH:n.H o=some (some nb):=hnb
     rcases hob o nb hH with⟨x1,y1,l1,q1,q2,⟨qf1,qf2⟩,q4,_⟩|⟨q1,_⟩
     ·rw[cr hH qf1]
      have:x1=o:=by rw[hlk]at l1;cases l1;rfl
      subst this;have h3:=h.pins x1 m hpm
      rw[cr q1 qf2]at h3;rw[q2];exact⟨h3.1,fun hv=>h3.2 (by have:=q4 hop;omega)⟩
     ·rw[hlk]at q1;cases q1
   ·cases hs
def dF(σ:State)(l:List (Nat×Option Ob)):Prop:=∀o x,(o,x)∈l->∃ob ob',σ.H o=some (some ob)/\x=some ob'/\Cv ob ob'
theorem dF.app{l l':List (Nat×Option Ob)}(h:dF σ l)(k:dF σ l'):dF σ (l++l'):=fun o x hm=>(AL.1 hm).elim (h o x) (k o x)
theorem dF.nil:dF σ []:=fun o x hm=>by simp at hm
theorem pf{o:Nat}:dF σ (l8 σ o):=by
 unfold l8;split
 ·rename_i ob ho
  split
  ·exact .nil
  ·split
   ·rename_i d hd
    intro o' x hm
    simp at hm
    obtain⟨rfl,rfl⟩:=hm;exact⟨ob,_,ho,rfl,.inl ⟨d,hd,rfl⟩⟩
   ·exact .nil
 ·exact .nil
theorem QP{o:Nat}:dF σ (xM σ o):=by
 unfold xM;split
 ·rename_i v e ei k l ho
  intro o' x hm
  simp at hm
  obtain⟨rfl,rfl⟩:=hm;exact⟨_,_,ho,rfl,.inr ⟨v,e,ei,k,l,rfl,rfl⟩⟩
 ·exact .nil
theorem QQ{c d:SC}:dF σ (xN σ n c d):=by
 unfold xN;split
 ·exact pf
 ·exact pf
 ·exact pf
 ·split
  ·exact QP
  ·exact .nil
 ·exact .nil
theorem xR:∀{cs ds:List SC},dF σ (rF σ n cs ds)
 | [],_=>.nil
 |_::_,[]=>.nil
 |_::_,_::_=>dF.app QQ xR
theorem QR:∀{cs ds:List SC},dF σ (xO σ n cs ds)
 | [],_=>.nil
 |_::_,[]=>.nil
 |c::cs,d::ds=>by
  unfold xO;refine dF.app ?_ QR
  split
  ·split
   ·exact xR
   ·exact .nil
  ·exact .nil
theorem ai6{v d:SV}:dF σ (IF σ n v d):=by
 unfold IF;split
 ·split
  ·split
   ·exact xR
   ·exact .nil
  ·exact QQ
 ·exact xR
 ·exact QR
 ·exact .nil
theorem IJ:∀{l:List (Nat×SV)},dF σ (rG σ n l)
 | []=>.nil
 |(t,d)::l=>by
  unfold rG;split
  ·exact dF.app ai6 IJ
  ·exact IJ
theorem IK:∀{l:List (Nat×Option Ob)},dF σ l->dF σ (kj l)/\((kj l).map (·.1)).Nodup
 | [],_=>⟨.nil,by simp[kj]⟩
 |(o,x)::l,h=>by
  obtain⟨h1,h2⟩:=IK (l:=l) fun o' x' hm=>h o' x' (Ab _ hm)
  unfold kj;split
  ·rename_i hn
   refine⟨fun o' x' hm=>?_,?_⟩
   ·rcases AH.1 hm with hm|hm
    ·cases hm;exact h o x (At ..)
    ·exact h1 o' x' hm
   ·rw[BP]
    exact Aa.2 ⟨jv hn,h2⟩
  ·exact⟨h1,h2⟩
theorem St.cvs(h:St C σ mu a w):∀{fs:List (Nat×Option Ob)},dF σ fs->(fs.map (·.1)).Nodup ->
  ∃wG mu',GrowF C wG/\St (C.fz wG) ⟨σ.fr,fs++σ.hp⟩ mu' a w/\b7 (σ.env C.wF mu) ((State.mk σ.fr (fs++σ.hp)).env wG mu')
 | [],_,_=>⟨C.wF,mu,.refl C,h,b7.refl _⟩
 |(o,x)::fs,hc,hn=>by
  rw[BP]at hn;obtain⟨n1,n2⟩:=Aa.1 hn;obtain⟨wG,mu1,g1,s1,e1⟩:=St.cvs h (fs:=fs) (fun o' x' hm=>hc o' x' (Ab _ hm)) n2
  obtain⟨ob,ob',q1,rfl,q2⟩:=hc o x (At ..);have hno:∀x,(o,x) ∉ fs:=fun x hm=>n1 (AT.2 ⟨_,hm,rfl⟩)
  obtain⟨wH,mu2,g2,s2,_,e2⟩:=s1.cv1 (by rw[gv hno];exact q1) q2
  exact⟨wH,mu2,g1.trans g2,s2,e1.trans e2⟩
theorem ay.cvs(h:ay C σ a w){fs:List (Nat×Option Ob)}(hc:dF σ fs):ay C ⟨σ.fr,kj fs++σ.hp⟩ a w:=by
 obtain⟨wG,mu,hg,h⟩:=h;obtain⟨h1,h2⟩:=IK hc;obtain⟨wH,mu1,g1,s1,_⟩:=h.cvs h1 h2;exact⟨wH,mu1,hg.trans g1,s1⟩
theorem ai7(h:ay C σ a w):ay C (QJ σ n) a w:=h.cvs IJ
end
end Go.Sx
end
section
namespace Go.Sx
open Go.RowKit
def xS(ks:List Nat):SC->Bool
 |.int _ _=>true
 |.bool _=>true
 |.str _=>true
 |.nil=>true
 |.any=>true
 |.ro _=>true
 |.own o=>!(cE o ks)
 |.ptr o _=>!(cE o ks)
 |_=>false
def xT(ks:List Nat):Ob->Bool
 |.box cs=>cs.all (xS ks)
 |ob=>qI ob
def iY(bx:List Nat)(hp:List (Nat×Option Ob)):Bool :=
 hp.all (fun p=>!(Nat.beq p.1 900)&&match p.2 with
  |some ob=>xT (hp.map (·.1)) ob
  |none=>false)&&bx.all fun o=>match lk hp o with
  |some (some (.box (_::_)))=>true
  |_=>false
def nD(bx:List Nat):List (Nat×SV)->Bool
 | []=>true
 |(_,sv)::l=>(match sv with
  |.c c=>match c with
   |.int _ _=>true
   |.bool _=>true
   |.str _=>true
   |.ro _=>true
   |.rob _ _=>true
   |.ptr o i=>Nat.beq i 0&&!(cE o bx)
   |_=>false
  |_=>false)&&nD bx l
def roB(σ:State):SC->Option FC
 |.int k n=>some (.int k n)
 |.bool b=>some (.bool b)
 |.str l=>some (.str l)
 |.ro d=>some d
 |.own o=>match σ.H o with
  |some (some ob)=>gk ob
  |_=>none
 |_=>none
def QS(σ:State):List SC->Option (List (Nat×List FC))
 | []=>some []
 |c::l=>match c with
  |.ptr o i=>match i with
   |0=>match σ.H o with
    |some (some (.box cs))=>match eG (roB σ) cs,QS σ l with
     |some ds,some r=>some ((o,ds)::r)
     |_,_=>none
    |_=>none
   |_+1=>none
  |_=>none
def l9(cps:List (Nat×List FC)):List (Nat×Option Ob):=cps.map fun p=>(p.1,some (.box (p.2.map dm)))
def jA(cps:List (Nat×List FC)):List MA:=cps.map fun p=>.box (p.2.map .c)
def nE(cps:List (Nat×List FC)):List SC:=cps.map fun p=>.ptr p.1 0
def IL(N t pt:Nat)(bx pins:List Nat)(fr:List (Nat×SV))(hp:List (Nat×Option Ob))(cps:List (Nat×List FC)):Bool :=
 Nat.blt pt N&&nD bx fr&&fk (cps.map (·.1))&&(cps.all fun p=>cE p.1 (hp.map (·.1)))&&cE t (fr.map (·.1))&&pins.all fun p=>!(cE p (hp.map (·.1)))
def pg(ct:List AD->Option Post)(cps:List (Nat×List FC))(Y:YJ)(R:Dc->Bool->Prop):Prop :=
 match ct (.ma (.m (.ob (.yd 0 Y [] true)))::(jA cps).map .ma)with
 |some ⟨q,.st (.tup []) [] outs,[]⟩=>match outs with
  |.m (.ob (.yd _ Y' xs b))::_=>q/\Y'=Y/\R xs b
  |_=>False
 |_=>False
section
variable {C:Cx}
structure StB (P:Program) (pin:Nat->Option Img) (n:State) (mu:Nat->Img) (tmps:Array Value) (wG W:World) (B:Nat->Prop):Prop where
 apart:∀p u,wG.cell? p=some u->∀o ob,n.H o=some (some ob)->p.block ∉ (mu o).blocks
 fr:∀t sv,n.F t=some sv->aw P (n.env wG mu) sv (tmps.getD t undef)
 ob:∀o ob,n.H o=some (some ob)->aR (n.env wG mu) W (mu o) ob
 nd:∀o ob,n.H o=some (some ob)->(mu o).blocks.Nodup/\∀b∈(mu o).blocks,B b
 sep:∀o o' ob ob',o≠o'->n.H o=some (some ob)->n.H o'=some (some ob')->∀b∈(mu o).blocks,b ∉ (mu o').blocks
 pins:∀o m,pin o=some m->match n.ost o with|.absent=>False|.dead=>True|.frz _=>True|.live s=>(mu o).hd=m.hd/\(s.ver=0->mu o=m)
theorem StB.st{P:Program}{pin:Nat->Option Img}{n:State}{mu:Nat->Img}{tmps:Array Value}{wG W:World}{B:Nat->Prop}(h:StB P pin n mu tmps wG W B){N:Nat}(hsz:tmps.size=N)
  (hc:∀p u,wG.cell? p=some u->W.cell? p=some u):St ⟨P,N,W,wG,B,pin⟩ n mu ⟨tmps,[]⟩ W :=
 ⟨.refl _,rfl,rfl,AE _,fun _ _ _=>rfl,fun p u hp=>⟨fun o ob ho=>h.apart p u hp o ob ho,hc p u hp⟩,hsz,.nil,h.fr,h.ob,fun o ob ho=>⟨(h.nd o ob ho).1,fun b hb=>.inl ((h.nd o ob ho).2 b hb)⟩,h.sep,h.pins⟩
theorem StB.of{σ:State}{mu:Nat->Img}{a:Act}{w:World}(h:St C σ mu a w):StB C.P C.pin σ mu a.tmps C.wF w (fun b=>(C.M b\/C.w0.heap.size<=b)/\b<w.heap.size) :=
 ⟨fun p u hp=>(h.cells p u hp).1,h.fr,h.ob,fun o ob ho=>⟨(h.nd o ob ho).1,fun b hb=>⟨(h.nd o ob ho).2 b hb,(h.ob o ob ho).block b hb⟩⟩,h.sep,h.pins⟩
theorem StB.world{P:Program}{pin:Nat->Option Img}{n:State}{mu:Nat->Img}{tmps:Array Value}{wG W W':World}{B:Nat->Prop}(h:StB P pin n mu tmps wG W B)
  (hk:∀b,B b->W'.heap[b]?=W.heap[b]?):StB P pin n mu tmps wG W' B :=
 ⟨h.apart,h.fr,fun o ob ho=>(h.ob o ob ho).keep (b7.refl _) fun b hb=>hk b ((h.nd o ob ho).2 b hb),h.nd,h.sep,h.pins⟩
theorem StB.blocks{P:Program}{pin:Nat->Option Img}{n:State}{mu:Nat->Img}{tmps:Array Value}{wG W:World}{B B':Nat->Prop}(h:StB P pin n mu tmps wG W B)
  (hk:∀o ob,n.H o=some (some ob)->∀b∈(mu o).blocks,B b->B' b):StB P pin n mu tmps wG W B' :=
 ⟨h.apart,h.fr,h.ob,fun o ob ho=>⟨(h.nd o ob ho).1,fun b hb=>hk o ob ho b hb ((h.nd o ob ho).2 b hb)⟩,h.sep,h.pins⟩
theorem mb{o:Nat}:∀{l:List Nat},cE o l=false->o∈l
 | [],h=>by simp[cE]at h
 |x::l,h=>by
  simp only[cE]at h;split at h
  ·rename_i hx
   have:=AX hx
   subst this;exact At
  ·exact Ab _ (mb h)
theorem xU{bx:List Nat}{hp:List (Nat×Option Ob)}(h:iY bx hp=true):(∀o x,lk hp o=some x->o≠900/\∃ob,x=some ob/\xT (hp.map (·.1)) ob=true)/\∀o∈bx,∃c cs,lk hp o=some (some (.box (c::cs))):=by
 unfold iY at h;rw[AG]at h;refine⟨fun o x hx=>?_,fun o ho=>?_⟩
 ·have h1:=AM.1 h.1 _ (nC hx)
  rw[AG]at h1;refine⟨fun e=>?_,?_⟩
  ·subst e;simp at h1
  ·cases x with
   |none=>simp at h1
   |some ob=>exact⟨ob,rfl,h1.2⟩
 ·have h1:=AM.1 h.2 o ho
  split at h1
  ·rename_i c cs hl;exact⟨c,cs,hl⟩
  ·cases h1
theorem QT{ks:List Nat}{E E':Env}(hw:E'.wF=E.wF)(hs:∀o∈ks,E'.st o=E.st o/\E'.mu o=E.mu o){w:World}{m:Img}{ob:Ob}(hok:xT ks ob=true)(h:aR E w m ob):aR E' w m ob:=by
 cases ob with
 |box cs =>
  obtain⟨b,arr,t,h1,h2,h3,h4,h5⟩:=h;refine⟨b,arr,t,h1,h2,h3,h4,fun i c hc=>?_⟩
  obtain⟨u,z1,z2,z3⟩:=h5 i c hc;refine⟨u,z1,z2,?_⟩
  have h9:xS ks c=true:=AM.1 hok c (AI hc)
  cases c with
  |own o =>
   have hne:o∈ks:=mb (by simpa[xS]using h9)
   obtain⟨q1,q2⟩:=hs o hne;refine⟨z3.1,?_⟩
   rw[q1,q2,hw];exact z3.2
  |ptr o i =>
   have hne:o∈ks:=mb (by simpa[xS]using h9)
   obtain⟨q1,q2⟩:=hs o hne;refine⟨z3.1,?_⟩
   rw[q1,q2];exact z3.2
  |ro d=>exact⟨z3.1,by rw[hw];exact z3.2⟩
  |int k n=>exact z3
  |bool b=>exact z3
  |str l=>exact z3
  |nil=>exact z3
  |any=>trivial
  |_=>cases h9
 |lst v e d =>
  obtain⟨q1,vs,q2,q3⟩:=h;exact⟨q1,vs,q2,fun i u hi=>let⟨r1,fc,r2,r3⟩:=q3 i u hi;⟨r1,fc,r2,by rw[hw];exact r3⟩⟩
 |yd v Y pre g=>exact⟨h.1,by rw[hw];exact h.2.1,h.2.2⟩
 |ints e k l=>exact h
 |bools e l=>exact h
 |rows v e ei k l=>exact h
 |tr v es d=>exact h
 |_=>cases hok
theorem IM{bx:List Nat}:∀{fr:List (Nat×SV)},nD bx fr=true->∀t sv,lk fr t=some sv ->
  (∀(P:Program) (E E':Env) (v:Value),bJ E.wF E'.wF->aw P E sv v->aw P E' sv v)\/∃o,sv=.c (.ptr o 0)/\o∈bx
 | [],_,t,sv,h=>by cases h
 |(t',sv')::fr,hok,t,sv,h=>by
  simp only[nD,AG]at hok;rw[bt]at h;split at h
  ·cases h
   obtain⟨h1,_⟩:=hok;split at h1
   ·rename_i c
    split at h1
    all_goals first|(exact .inl fun P E E' v _ hv=>hv)|skip
    ·exact .inl fun P E E' v hk hv=>⟨hv.1,hv.2.mono hk⟩
    ·refine .inl fun P E E' v hk hv=>?_
     obtain⟨b,off,q1,q2⟩:=hv;exact⟨b,off,q1,fun j fc hj=>let⟨u,z1,z2⟩:=q2 j fc hj;⟨u,hk _ _ z1,z2.mono hk⟩⟩
    ·rename_i o i
     rw[AG]at h1;have h2:=AX h1.1
     subst h2;refine .inr ⟨o,rfl,mb ?_⟩
     simpa using h1.2
    ·cases h1
   ·cases h1
  ·exact IM hok.2 t sv h
theorem StB.item{P:Program}{pin:Nat->Option Img}{bx:List Nat}{fr:List (Nat×SV)}{hp:List (Nat×Option Ob)}{mu:Nat->Img}{tmps:Array Value}{wG W:World}{B:Nat->Prop}(h:StB P pin ⟨fr,hp⟩ mu tmps wG W B)(hok:iY bx hp=true)
  {pt:Nat}(hpt:pt<tmps.size){e:TypeId}{x:Db}{v:Value}(hv1:v.oneCell'=true)(hrow:W.ownsRow 0 e 1 v x.length (x.map (.int .i64)))(hB:∀b,B b->ac v≠some b)(hw:∀p u,wG.cell? p=some u->ac v≠some p.block) :
  StB P (fun o=>if o=900 then some ⟨v,[]⟩else if cE o bx=false then some (mu o)else pin o) ⟨(pt,.c (.own 900))::fr,(900,some (.ints e .i64 x))::hp⟩ (fun o=>if o=900 then⟨v,[]⟩else mu o) (tmps.setIfInBounds pt v) wG W (fun b=>B b\/ac v=some b):=by
 obtain⟨hk1,hk2⟩:=xU hok;have hn9:lk hp 900=none:=by
  cases hq:lk hp 900 with
  |none=>rfl
  |some x=>exact absurd rfl (hk1 900 x hq).1
 have hH:∀o,(⟨(pt,.c (.own 900))::fr,(900,some (.ints e .i64 x))::hp⟩:State).H o=if 900=o then some (some (.ints e .i64 x))else lk hp o:=fun o=>by
  show lk ((900,_)::hp) o=_
  rw[bt]
 have hbk:∀b,b∈(⟨v,[]⟩:Img).blocks↔ac v=some b:=fun b=>by simp[Img.blocks]
 have hle:b7 ((⟨fr,hp⟩:State).env wG mu) ((⟨(pt,.c (.own 900))::fr,(900,some (.ints e .i64 x))::hp⟩:State).env wG fun o=>if o=900 then⟨v,[]⟩else mu o):=⟨fun _ _ h=>h,fun o=>by
  by_cases ho:o=900
  ·subst ho
   refine .inl ?_
   show dL (State.ost ⟨fr,hp⟩ 900) _ _ _
   rw[show State.ost ⟨fr,hp⟩ 900=.absent by simp only[State.ost,State.H,hn9]]
   trivial
  ·show dQ _ (State.ost ⟨fr,hp⟩ o) (State.ost ⟨(pt,.c (.own 900))::fr,(900,some (.ints e .i64 x))::hp⟩ o) (mu o) (if o=900 then⟨v,[]⟩else mu o)
   rw[AB ho,show State.ost ⟨(pt,.c (.own 900))::fr,(900,some (.ints e .i64 x))::hp⟩ o=State.ost ⟨fr,hp⟩ o by
    simp only[State.ost,hH,AB (fun e:900=o=>ho e.symm)];rfl]
   exact dQ.refl _ _ _⟩
 have hcase:∀o ob,(⟨(pt,.c (.own 900))::fr,(900,some (.ints e .i64 x))::hp⟩:State).H o=some (some ob)->(o=900/\ob=.ints e .i64 x)\/(o≠900/\(⟨fr,hp⟩:State).H o=some (some ob)):=fun o ob ho=>by
  rw[hH]at ho;split at ho
  ·rename_i he;cases ho;exact .inl ⟨he.symm,rfl⟩
  ·rename_i he;exact .inr ⟨fun e=>he e.symm,ho⟩
 refine⟨fun p u hp' o ob ho hb=>?_,fun t sv ht=>?_,fun o ob ho=>?_,fun o ob ho=>?_,fun o o' ob ob' hne ho ho' b hb hb'=>?_,fun o m hm=>?_⟩
 ·rcases hcase o ob ho with⟨rfl,_⟩|⟨hne,ho⟩
  ·rw[AA rfl]at hb;exact hw p u hp' ((hbk _).1 hb)
  ·rw[AB hne]at hb;exact h.apart p u hp' o ob ho hb
 ·have ht2:lk ((pt,SV.c (.own 900))::fr) t=some sv:=ht
  clear ht;rw[bt]at ht2;split at ht2
  ·rename_i he
   subst he;cases ht2;have:(tmps.setIfInBounds pt v).getD pt undef=v:=by
    rw[BM];simp[hpt]
   rw[this];refine⟨hv1,?_⟩
   rw[show((⟨(pt,.c (.own 900))::fr,(900,some (.ints e .i64 x))::hp⟩:State).env wG fun o=>if o=900 then⟨v,[]⟩else mu o).st 900=.live (Ob.ints e .i64 x).shp from cr (σ:=⟨(pt,.c (.own 900))::fr,(900,some (.ints e .i64 x))::hp⟩) (o:=900) (ob:=.ints e .i64 x) (by rw[hH,AA rfl])]
   show v=(if 900=900 then⟨v,[]⟩else mu 900:Img).hd
   rw[AA rfl]
  ·rename_i hne
   have:(tmps.setIfInBounds pt v).getD t undef=tmps.getD t undef:=by
    rw[BM,BM,Bo hne]
   rw[this];exact(h.fr t sv ht2).mono hle
 ·rcases hcase o ob ho with⟨rfl,rfl⟩|⟨hne,ho⟩
  ·rw[AA rfl];exact⟨rfl,hrow⟩
  ·rw[AB hne];exact(h.ob o ob ho).keep hle fun _ _=>rfl
 ·rcases hcase o ob ho with⟨rfl,rfl⟩|⟨hne,ho⟩
  ·rw[AA rfl]
   refine⟨?_,fun b hb=>.inr ((hbk b).1 hb)⟩
   simp only[Img.blocks,Ax,Af];cases ac v<;>simp
  ·rw[AB hne];exact⟨(h.nd o ob ho).1,fun b hb=>.inl ((h.nd o ob ho).2 b hb)⟩
 ·rcases hcase o ob ho with⟨rfl,rfl⟩|⟨h1,ho⟩
  ·rcases hcase o' ob' ho' with⟨rfl,rfl⟩|⟨h2,ho'⟩
   ·exact hne rfl
   ·rw[AA rfl]at hb;rw[AB h2]at hb'
    exact hB b ((h.nd o' ob' ho').2 b hb') ((hbk b).1 hb)
  ·rcases hcase o' ob' ho' with⟨rfl,rfl⟩|⟨h2,ho'⟩
   ·rw[AA rfl]at hb';rw[AB h1]at hb
    exact hB b ((h.nd o ob ho).2 b hb) ((hbk b).1 hb')
   ·rw[AB h1]at hb;rw[AB h2]at hb'
    exact h.sep o o' ob ob' hne ho ho' b hb hb'
 ·by_cases h9:o=900
  ·subst h9
   rw[AA rfl]at hm;cases hm;rw[cr (ob:=.ints e .i64 x) (by rw[hH,AA rfl])]
   rw[AA rfl];exact⟨rfl,fun _=>rfl⟩
  ·rw[AB h9]at hm
   have hoe:State.ost ⟨(pt,.c (.own 900))::fr,(900,some (.ints e .i64 x))::hp⟩ o=State.ost ⟨fr,hp⟩ o:=by
    simp only[State.ost,hH,AB (fun e:900=o=>h9 e.symm)];rfl
   rw[hoe,AB h9];split at hm
   ·rename_i hbx
    cases hm;obtain⟨c,cs,hl⟩:=hk2 o (mb hbx);rw[cr (σ:=⟨fr,hp⟩) (ob:=.box (c::cs)) hl];exact⟨rfl,fun _=>rfl⟩
   ·exact h.pins o m hm
theorem StB.done{P:Program}{pin:Nat->Option Img}{bx:List Nat}{fr:List (Nat×SV)}{hp hp':List (Nat×Option Ob)}{mu:Nat->Img}{tmps:Array Value}{wG W:World}{B:Nat->Prop}(h:StB P pin ⟨fr,hp⟩ mu tmps wG W B)(hok:iY bx hp=true)(hok':iY bx hp'=true)(hfr:nD bx fr=true)
  {C2:Cx}{mu':Nat->Img}{a:Act}{w:World}{e:TypeId}{x:Db}{v:Value}(hst:St C2 ⟨[],(900,some (.ints e .i64 x))::hp'⟩ mu' a w)(hkG:bJ wG C2.wF)
  (hpin:C2.pin=fun o=>if o=900 then some ⟨v,[]⟩else if cE o bx=false then some (mu o)else pin o) :
  mu' 900=⟨v,[]⟩/\StB P pin ⟨fr,hp'⟩ mu' tmps C2.wF w (fun b=>(C2.M b\/C2.w0.heap.size<=b)/\ac v≠some b/\b<w.heap.size):=by
 obtain⟨hk1,hk2⟩:=xU hok;obtain⟨hk1',hk2'⟩:=xU hok';have hH:∀o,(⟨[],(900,some (.ints e .i64 x))::hp'⟩:State).H o=if 900=o then some (some (.ints e .i64 x))else lk hp' o:=fun o=>by
  show lk ((900,_)::hp') o=_
  rw[bt]
 have hH9:(⟨[],(900,some (.ints e .i64 x))::hp'⟩:State).H 900=some (some (.ints e .i64 x)):=by rw[hH,AA rfl]
 have hHx:∀o,o≠900->(⟨[],(900,some (.ints e .i64 x))::hp'⟩:State).H o=(⟨fr,hp'⟩:State).H o:=fun o ho=>by
  rw[hH,AB (fun e=>ho e.symm)];rfl
 have hmu9:mu' 900=⟨v,[]⟩:=by
  have:=hst.pins 900 ⟨v,[]⟩ (by rw[hpin];exact AA rfl)
  rw[cr hH9]at this;exact this.2 rfl
 have hin:∀o ob,(⟨fr,hp'⟩:State).H o=some (some ob)->o≠900/\xT (hp'.map (·.1)) ob=true:=fun o ob ho=>by
  obtain⟨h1,ob',h2,h3⟩:=hk1' o _ ho;cases h2;exact⟨h1,h3⟩
 have hoff:∀o,o≠900->((⟨fr,hp'⟩:State).env C2.wF mu').st o=((⟨[],(900,some (.ints e .i64 x))::hp'⟩:State).env C2.wF mu').st o/\((⟨fr,hp'⟩:State).env C2.wF mu').mu o=((⟨[],(900,some (.ints e .i64 x))::hp'⟩:State).env C2.wF mu').mu o:=fun o ho=>by
  refine⟨?_,rfl⟩
  show State.ost _ o=State.ost _ o
  simp only[State.ost,hHx o ho]
 have hbxl:∀o∈bx,(mu' o).hd=(mu o).hd/\mu' o=mu o/\∃c cs,lk hp' o=some (some (.box (c::cs))):=fun o ho=>by
  obtain⟨c,cs,hl⟩:=hk2' o ho;have hne:=(hk1' o _ hl).1
  have hbf:cE o bx=false:=by
   cases hq:cE o bx with
   |false=>rfl
   |true=>exact absurd ho (jv hq)
  have:=hst.pins o (mu o) (by rw[hpin];show(if o=900 then _ else _)=_;rw[AB hne,AA hbf])
  rw[cr (ob:=.box (c::cs)) (by rw[hHx o hne];exact hl)]at this
  exact⟨this.1,this.2 rfl,c,cs,hl⟩
 refine⟨hmu9,fun p u hp o ob ho hb=>?_,fun t sv ht=>?_,fun o ob ho=>?_,fun o ob ho=>?_,fun o o' ob ob' hne ho ho'=>?_,fun o m hm=>?_⟩
 ·obtain⟨h1,h2⟩:=hin o ob ho
  exact(hst.cells p u hp).1 o ob (by rw[hHx o h1];exact ho) hb
 ·rcases IM hfr t sv ht with h1|⟨o,rfl,ho⟩
  ·exact h1 P _ _ _ hkG (h.fr t sv ht)
  ·have h2:=h.fr t _ ht
   obtain⟨q1,q2,c,cs,q3⟩:=hbxl o ho;obtain⟨c0,cs0,q4⟩:=hk2 o ho;refine⟨h2.1,?_⟩
   have h3:=h2.2
   rw[show((⟨fr,hp⟩:State).env wG mu).st o=.live (Ob.box (c0::cs0)).shp from cr q4]at h3
   rw[show((⟨fr,hp'⟩:State).env C2.wF mu').st o=.live (Ob.box (c::cs)).shp from cr q3]
   refine⟨by show 0<(c::cs).length;simp,?_⟩
   obtain⟨_,b,z1,z2⟩:=h3;exact⟨b,by show ac (mu' o).hd=some b;rw[q1];exact z1,z2⟩
 ·obtain⟨h1,h2⟩:=hin o ob ho
  exact QT (E:=(⟨[],(900,some (.ints e .i64 x))::hp'⟩:State).env C2.wF mu') (E':=(⟨fr,hp'⟩:State).env C2.wF mu') rfl (fun o2 ho2=>hoff o2 fun e9=>by
   subst e9;obtain⟨x9,hx9⟩:=lZ ho2;exact(hk1' _ x9 hx9).1 rfl) h2 (hst.ob o ob (by rw[hHx o h1];exact ho))
 ·obtain⟨h1,h2⟩:=hin o ob ho
  have ho2:(⟨[],(900,some (.ints e .i64 x))::hp'⟩:State).H o=some (some ob):=by rw[hHx o h1];exact ho
  obtain⟨q1,q2⟩:=hst.nd o ob ho2;refine⟨q1,fun b hb=>⟨q2 b hb,fun hc=>?_,(hst.ob o ob ho2).block b hb⟩⟩
  exact hst.sep o 900 ob _ h1 ho2 hH9 b hb (by rw[hmu9];simp[Img.blocks,hc])
 ·obtain⟨h1,_⟩:=hin o ob ho
  obtain⟨h2,_⟩:=hin o' ob' ho';exact hst.sep o o' ob ob' hne (by rw[hHx o h1];exact ho) (by rw[hHx o' h2];exact ho')
 ·have h0:=h.pins o m hm
  have hne:o≠900:=fun e=>by
   subst e;have:lk hp 900=none:=by
    cases hq:lk hp 900 with
    |none=>rfl
    |some x=>exact absurd rfl (hk1 900 x hq).1
   rw[show State.ost ⟨fr,hp⟩ 900=.absent by simp only[State.ost,State.H,this]]at h0
   exact h0
  cases hbf:cE o bx with
  |false =>
   have ho:=mb hbf
   obtain⟨q1,q2,c,cs,q3⟩:=hbxl o ho;obtain⟨c0,cs0,q4⟩:=hk2 o ho;rw[cr (σ:=⟨fr,hp⟩) (ob:=.box (c0::cs0)) q4]at h0;rw[cr (σ:=⟨fr,hp'⟩) (ob:=.box (c::cs)) q3];have h2:=h0.2 rfl
   exact⟨by rw[q2,h2],fun _=>by rw[q2,h2]⟩
  |true =>
   have:=hst.pins o m (by rw[hpin];show(if o=900 then _ else _)=_;rw[AB hne,AB (by rw[hbf];simp)];exact hm)
   rw[show State.ost ⟨[],(900,some (.ints e .i64 x))::hp'⟩ o=State.ost ⟨fr,hp'⟩ o by simp only[State.ost,hHx o hne]]at this
   exact this
theorem IN{w:World}{l:Nat}{r:Loop}{o':Obj}(hl:w.heap[l]?=some (.loop r)){p:Addr}{u:Value}(hp:w.cell? p=some u):p.block≠l/\(w.putObj l o').cell? p=some u:=by
 have hne:p.block≠l:=fun e=>by
  simp only[World.cell?,e,hl]at hp;cases hp
 exact⟨hne,by rw[World.cell?_of_block (World.putObj_heap_other hne)];exact hp⟩
theorem St.putL{σ:State}{mu:Nat->Img}{a:Act}{w:World}(h:St C σ mu a w){l:Nat}{r:Loop}(hl:w.heap[l]?=some (.loop r))(hb:∀o ob,σ.H o=some (some ob)->l ∉ (mu o).blocks)(o:Obj)(h0:l<C.w0.heap.size) :
  St ⟨C.P,C.N,C.w0.putObj l o,C.wF,C.M,C.pin⟩ σ mu a (w.putObj l o):=by
 have hoth:∀{w:World} k,k≠l->(w.putObj l o).heap[k]?=w.heap[k]?:=fun k hk=>World.putObj_heap_other hk
 have ψ:=(A5.1 hl).1
 refine⟨⟨h.os.os,h.os.drawn⟩,h.tape,h.output,?_,fun k hk hm=>?_,fun p u hp=>?_,h.sz,?_,h.fr,fun o2 ob ho=>?_,fun o2 ob ho=>⟨(h.nd o2 ob ho).1,fun b hb2=>?_⟩,h.sep,h.pins⟩
 ·rw[World.putObj_size,World.putObj_size];exact h.size
 ·have hk:k<C.w0.heap.size:=by rw[World.putObj_size]at hk;exact hk
  show(w.putObj l o).heap[k]?=(C.w0.putObj l o).heap[k]?
  by_cases e:k=l
  ·subst e
   rw[World.putObj_heap_same ψ,World.putObj_heap_same h0]
  ·rw[hoth k e,hoth k e];exact h.block k hk hm
 ·obtain⟨q1,q2⟩:=h.cells p u hp
  exact⟨q1,(IN hl q2).2⟩
 ·obtain⟨rs,q1,q2,q3⟩:=h.df
  refine⟨rs,q1,q2,fun r' hr=>?_⟩
  obtain⟨z1,z2,z3⟩:=q3 r' hr;refine⟨by rw[World.putObj_size];exact z1,?_,z3⟩
  rw[hoth r' (fun e=>by rw[e,hl]at z2;cases z2)];exact z2
 ·exact(h.ob o2 ob ho).keep (b7.refl _) fun b hb2=>hoth b fun e=>hb o2 ob ho (e ▸ hb2)
 ·rw[World.putObj_size];exact(h.nd o2 ob ho).2 b hb2
def QU(C2:Cx)(e:TypeId)(go:Dc->Db->Bool)(hp hpx:Dc->List (Nat×Option Ob))(pre:Dc)(x:Db):Exit->Act->World->Prop:=fun e1 a w=>match e1 with
 |.normal=>go pre x=true/\ay C2 ⟨[],(900,some (.ints e .i64 x))::hp (pre++[x])⟩ a w
 |.ret=>go pre x=false/\ay C2 ⟨[],(900,some (.ints e .i64 x))::hpx (pre++[x])⟩ a w
 |_=>False
def IP(hp hpx:Dc->List (Nat×Option Ob))(pre:Dc):Bool->List (Nat×Option Ob)
 |true=>hp pre
 |false=>hpx pre
def dA(fn:FuncId)(tmps:Array Value)(ps:Array Tmp)(assign body:Code)(D:Nat):Bool->Loop
 |true=>{ state:=.ready,pending:=none,fn,tmps,params:=ps,assign,body,defers:=D }
 |false=>{ state:=.done,pending:=some .ret,fn,tmps,params:=ps,assign,body,defers:=D }
def mc(P:Program)(pin:Nat->Option Img)(wF:World)(fr:List (Nat×SV))(hp hpx:Dc->List (Nat×Option Ob))(tmps:Array Value)(rec:Bool->Loop)(l D:Nat)(pre:Dc)(b:Bool)(W:World)(S:List Nat):Prop :=
 l∈S/\D∈S/\W.heap[l]?=some (.loop (rec b))/\W.heap[D]?=some (.deferred (some []))/\∃wG mu,bJ wF wG/\(∀q u,wG.cell? q=some u->wF.cell? q=some u\/(q.block∈S/\W.cell? q=some u))/\StB P pin ⟨fr,IP hp hpx pre b⟩ mu tmps wG W (fun k=>k∈S/\k≠l/\k≠D)
theorem ai8{P:Program}{pin:Nat->Option Img}{wF:World}{fr:List (Nat×SV)}{hp hpx:Dc->List (Nat×Option Ob)}{tmps:Array Value}{rec:Bool->Loop}{l D:Nat}{pre:Dc}{b:Bool}{W W':World}{S:List Nat}
  (h:mc P pin wF fr hp hpx tmps rec l D pre b W S)(hk:∀k∈S,W'.heap[k]?=W.heap[k]?):mc P pin wF fr hp hpx tmps rec l D pre b W' S:=by
 obtain⟨h1,h2,h3,h4,wG,mu,h5,h6,h7⟩:=h;refine⟨h1,h2,by rw[hk l h1];exact h3,by rw[hk D h2];exact h4,wG,mu,h5,fun q u hq=>(h6 q u hq).imp id fun⟨z1,z2⟩=>⟨z1,?_⟩,h7.world fun k hk2=>hk k hk2.1⟩
 rw[World.cell?_of_block (hk q.block z1)];exact z2
theorem ai9{pinl:List Nat}(hpins:∀o m,C.pin o=some m->o∈pinl){pt:Nat}{assign body:Code}
  {e:TypeId}{go:Dc->Db->Bool}{ok:Dc->Db->Prop}{bx:List Nat}{fr:List (Nat×SV)}{hp hpx:Dc->List (Nat×Option Ob)}(hfr:nD bx fr=true)(hhp:∀pre,iY bx (hp pre)=true/\iY bx (hpx pre)=true)
  {tmps:Array Value}(hsz:tmps.size=C.N)(hpt:pt<C.N){fnn:FuncId}{D:Nat}
  (hbody:∀pre x,ok pre x->∀(l:Nat) (C1:Cx),C1.P=C.P->C1.N=C.N->(∀o m,C1.pin o=some m->o∈900::(bx++pinl))->∀a w,ay C1 ⟨(pt,.c (.own 900))::fr,(900,some (.ints e .i64 x))::hp pre⟩ a w ->
   assign.wpIn (fnc (some l)) 0 C.P (Exit.then (fun a1 eg=>∃σ1,ay C1 σ1 a1 eg/\∀(C2:Cx),C2.P=C.P->C2.N=C.N->(∀o m,C2.pin o=some m->o∈900::(bx++pinl))->∀a w,ay C2 σ1 a w->body.wpIn (fnc (some l)) 0 C.P (QU C2 e go hp hpx pre x) a w) (fun _ _ _=>False)) a w)
  {l:Nat}(hlD:l≠D){pre:Dc}{x:Db}{W:World}{S:List Nat}{v:Value}(hJ:mc C.P C.pin C.wF fr hp hpx tmps (dA fnn tmps #[pt] assign body D) l D pre true W S)(hok:ok pre x)(hSn:S.Nodup)(hSl:∀k∈S,k<W.heap.size)(hv1:v.oneCell'=true)
  (hrow:W.ownsRow 0 e 1 v x.length (x.map (.int .i64)))(hvS:∀k∈S,ac v≠some k)(hwF:∀p u,C.wF.cell? p=some u->W.cell? p=some u/\ac v≠some p.block) :
  YieldAt Fence.wide 0 C.P l #[v] W fun r w'=>∃S',r=.returned (.bool (go pre x))/\mc C.P C.pin C.wF fr hp hpx tmps (dA fnn tmps #[pt] assign body D) l D (pre++[x]) (go pre x) w' S'/\S'.Nodup/\(∀k∈S,k∈S')/\(∀k∈S',(k∈S\/W.heap.size<=k)/\k<w'.heap.size) /\
   w'.ownsRow 0 e 1 v x.length (x.map (.int .i64))/\OsD W w'/\w'.tape=W.tape/\w'.output=W.output/\W.heap.size<=w'.heap.size/\∀k,k<W.heap.size->k ∉ S->ac v≠some k->w'.heap[k]?=W.heap[k]?:=by
 obtain⟨hlS,hDS,hrl,hrD,wG,mu,hk1,hk2,hB⟩:=hJ;have hwG:∀p u,wG.cell? p=some u->W.cell? p=some u/\ac v≠some p.block:=fun p u hp'=>by
  rcases hk2 p u hp' with q|⟨q1,q2⟩
  ·exact hwF p u q
  ·exact⟨q2,hvS _ q1⟩
 have hB:StB C.P C.pin ⟨fr,hp pre⟩ mu tmps wG W (fun k=>k∈S/\k≠l/\k≠D):=hB
 have hI:=hB.item (hhp pre).1 (pt:=pt) (by rw[hsz];exact hpt) (e:=e) (x:=x) hv1 hrow (fun b hb=>hvS b hb.1) (fun p u hp'=>(hwG p u hp').2)
 obtain⟨pin1,hpin1⟩:∃pin1:Nat->Option Img,pin1=fun o=>if o=900 then some ⟨v,[]⟩else if cE o bx=false then some (mu o)else C.pin o:=⟨_,rfl⟩
 rw[<-hpin1]at hI;obtain⟨B1,hB1⟩:∃B1:Nat->Prop,B1=fun b=>(b∈S/\b≠l/\b≠D)\/ac v=some b:=⟨_,rfl⟩
 rw[<-hB1]at hI;have hI2:=hI.st (N:=C.N) (by simp[hsz]) fun p u hp'=>(hwG p u hp').1
 have hpl:∀o m,pin1 o=some m->o∈900::(bx++pinl):=fun o m hm=>by
  rw[hpin1]at hm;simp only at hm;split at hm
  ·rename_i h9;subst h9;exact At
  ·split at hm
   ·rename_i hbx;exact Ab _ (BF _ (mb hbx))
   ·exact Ab _ (BG _ (hpins o m hm))
 have hlB:¬ B1 l:=fun h=>by
  rw[hB1]at h;rcases h with h|h
  ·exact h.2.1 rfl
  ·exact hvS l hlS h
 have hDB:¬ B1 D:=fun h=>by
  rw[hB1]at h;rcases h with h|h
  ·exact h.2.2 rfl
  ·exact hvS D hDS h
 have hlW:=hSl l hlS
 have hDW:=hSl D hDS
 have hy:=run_yield (P:=C.P) (args:=#[v]) hrl (by rfl)
 refine⟨fnn,_,assign,body,hy,?_⟩
 have hz:((dA fnn tmps #[pt] assign body D true).params.zip #[v]).foldl (fun tmps (t,a)=>tmps.setIfInBounds t a) (dA fnn tmps #[pt] assign body D true).tmps=tmps.setIfInBounds pt v:=by
  show((#[pt]:Array Tmp).zip #[v]).foldl (fun tmps (t,a)=>tmps.setIfInBounds t a) tmps=_
  simp
 rw[hz];refine roundIn_of_wpIn (F:=Fence.wide) (n:=0) trivial ?_
 refine wpIn_mono (hbody pre x hok l ⟨C.P,C.N,W,wG,B1,pin1⟩ rfl rfl hpl _ _ (St.ex hI2)) ?_
 intro e1 a1 eg hq
 cases e1 with
 |normal =>
  obtain⟨σ1,⟨wG1,mu1,hg1,hst1⟩,hnext⟩:=hq;have hw1l:eg.heap[l]?=some (.loop (dA fnn tmps #[pt] assign body D true)):=(hst1.block l hlW hlB).trans hrl
  have hln:∀o ob,σ1.H o=some (some ob)->l ∉ (mu1 o).blocks:=fun o ob ho hb=>by
   rcases(hst1.nd o ob ho).2 l hb with q|q
   ·exact hlB q
   ·have q:W.heap.size<=l:=q
    omega
  refine⟨_,run_beginRound hw1l rfl,?_⟩
  have hst2:=hst1.putL hw1l hln (.loop { dA fnn tmps #[pt] assign body D true with state:=.busy }) hlW
  let C2:Cx:=⟨C.P,C.N,W.putObj l (.loop { dA fnn tmps #[pt] assign body D true with state:=.busy }),wG,B1,pin1⟩
  have hE2:ay ⟨C.P,C.N,W.putObj l (.loop { dA fnn tmps #[pt] assign body D true with state:=.busy }),wG,B1,pin1⟩ σ1 a1 (eg.putObj l (.loop { dA fnn tmps #[pt] assign body D true with state:=.busy })) :=
   ⟨wG1,mu1,⟨hg1.kept,fun p u hp'=>(hg1.new p u hp').imp id (Or.imp (fun q=>by show(W.putObj l _).heap.size<=_;rw[World.putObj_size];exact q) id)⟩,hst2⟩
  refine wpIn_mono (hnext C2 rfl rfl hpl _ _ hE2) ?_
  intro e2 a3 w3 hq2
  have fin:∀(b:Bool) (jump:Option Code) (hp':List (Nat×Option Ob)),hp'=IP hp hpx (pre++[x]) b->iY bx hp'=true->go pre x=b->({ dA fnn tmps #[pt] assign body D true with state:=if jump.isNone then .ready else .done,pending:=jump }:Loop)=dA fnn tmps #[pt] assign body D b->jump.isNone=b ->
    ay ⟨C.P,C.N,W.putObj l (.loop { dA fnn tmps #[pt] assign body D true with state:=.busy }),wG,B1,pin1⟩ ⟨[],(900,some (.ints e .i64 x))::hp'⟩ a3 w3 ->
    ∃u w',(Instr.endRound l jump).run C.P w3=.ok u w'/\∃S',Ending.returned u=.returned (.bool (go pre x))/\mc C.P C.pin C.wF fr hp hpx tmps (dA fnn tmps #[pt] assign body D) l D (pre++[x]) (go pre x) w' S'/\S'.Nodup/\(∀k∈S,k∈S')/\(∀k∈S',(k∈S\/W.heap.size<=k)/\k<w'.heap.size) /\
     w'.ownsRow 0 e 1 v x.length (x.map (.int .i64))/\OsD W w'/\w'.tape=W.tape/\w'.output=W.output/\W.heap.size<=w'.heap.size/\∀k,k<W.heap.size->k ∉ S->ac v≠some k->w'.heap[k]?=W.heap[k]?:=by
   intro b jump hp' hhp' hok' hgo hrec hjump ⟨wG3,mu3,hg3,hst3⟩
   have hsz3:W.heap.size<=w3.heap.size:=by
    have this:(W.putObj l (.loop { dA fnn tmps #[pt] assign body D true with state:=.busy })).heap.size<=w3.heap.size:=hst3.size
    rwa[World.putObj_size]at this
   have hblk:∀k,k<W.heap.size->¬ B1 k->w3.heap[k]?=(W.putObj l (.loop { dA fnn tmps #[pt] assign body D true with state:=.busy })).heap[k]?:=fun k hk hn=>hst3.block k (by show k<(W.putObj l _).heap.size;rw[World.putObj_size];exact hk) hn
   have hl3:w3.heap[l]?=some (.loop { dA fnn tmps #[pt] assign body D true with state:=.busy }):=(hblk l hlW hlB).trans (World.putObj_heap_same hlW)
   have hl3lt:l<w3.heap.size:=by omega
   have hD3:w3.heap[D]?=some (.deferred (some [])):=(hblk D hDW hDB).trans ((World.putObj_heap_other (fun e=>hlD e.symm)).trans hrD)
   have ω:=run_endRound (P:=C.P) jump hl3
   rw[show({ ({ dA fnn tmps #[pt] assign body D true with state:=.busy }:Loop)with state:=if jump.isNone then .ready else .done,pending:=jump }:Loop)=dA fnn tmps #[pt] assign body D b from hrec,hjump]at ω
   refine⟨_,_,ω,?_⟩
   have hDone:=hB.done (hhp pre).1 hok' hfr hst3 hg3.kept (v:=v) (by rw[hpin1];rfl)
   obtain⟨hmu9,hB3⟩:=hDone;have hH9:(⟨[],(900,some (.ints e .i64 x))::hp'⟩:State).H 900=some (some (.ints e .i64 x)):=rfl
   let w4:=w3.putObj l (.loop (dA fnn tmps #[pt] assign body D b))
   have hoth:∀k,k≠l->w4.heap[k]?=w3.heap[k]?:=fun k hk=>World.putObj_heap_other hk
   have hsz4:w4.heap.size=w3.heap.size:=World.putObj_size
   let S':=(List.range w4.heap.size).filter fun k=>decide (k∈S)||decide (W.heap.size<=k)
   have hS':∀k,k∈S'↔k<w4.heap.size/\(k∈S\/W.heap.size<=k):=fun k=>by simp[S']
   have hSS:∀k∈S,k∈S':=fun k hk=>(hS' k).2 ⟨by rw[hsz4];have:=hSl k hk;omega,.inl hk⟩
   have hvl:ac v≠some l:=hvS l hlS
   have hkG3:bJ wG wG3:=hg3.kept
   have hvb:∀k,ac v=some k->w4.heap[k]?=w3.heap[k]?:=fun k hk=>hoth k fun e=>hvl (e ▸ hk)
   refine⟨S',by rw[hgo],?_,Bt.filter _,hSS,fun k hk=>⟨((hS' k).1 hk).2,((hS' k).1 hk).1⟩,?_,⟨hst3.os.os,hst3.os.drawn⟩,hst3.tape,hst3.output,by rw[hsz4];exact hsz3,fun k hk hkS hkv=>?_⟩
   ·rw[hgo]
    refine⟨hSS l hlS,hSS D hDS,World.putObj_heap_same hl3lt,(hoth D (fun e=>hlD e.symm)).trans hD3,wG3,mu3,fun p u hp2=>hkG3 p u (hk1 p u hp2),fun q u hq3=>?_,?_⟩
    ·have hc3:=(hst3.cells q u hq3).2
     have hc4:w4.cell? q=some u:=(IN hl3 hc3).2
     have hlt3:=cell_lt' hc4
     rcases hg3.new q u hq3 with z|z|z
     ·rcases hk2 q u z with y|⟨y1,y2⟩
      ·exact .inl y
      ·exact .inr ⟨hSS _ y1,hc4⟩
     ·refine .inr ⟨(hS' _).2 ⟨hlt3,.inr ?_⟩,hc4⟩
      have z:(W.putObj l _).heap.size<=q.block:=z
      rwa[World.putObj_size]at z
     ·have z:B1 q.block:=z
      rw[hB1]at z;rcases z with z|z
      ·exact .inr ⟨hSS _ z.1,hc4⟩
      ·exfalso
       have:=(hst3.cells q u hq3).1 900 _ hH9
       rw[hmu9]at this;exact this (by simp[Img.blocks,z])
    ·rw[<-hhp']
     refine(hB3.world fun k hk=>hoth k fun e=>?_).blocks fun o ob ho k hk hkb=>?_
     ·subst e
      rcases hk.1 with z|z
      ·exact hlB z
      ·have z:(W.putObj k _).heap.size<=k:=z
       rw[World.putObj_size]at z;omega
     ·obtain⟨z1,z2,z3⟩:=hkb
      have hne:k≠l/\k≠D:=by
       rcases z1 with z|z
       ·exact⟨fun e=>hlB (e ▸ z),fun e=>hDB (e ▸ z)⟩
       ·have z:(W.putObj l _).heap.size<=k:=z
        rw[World.putObj_size]at z;exact⟨fun e=>by omega,fun e=>by omega⟩
      refine⟨(hS' k).2 ⟨by rw[hsz4];exact z3,?_⟩,hne⟩
      rcases z1 with z|z
      ·have z:B1 k:=z
       rw[hB1]at z;rcases z with z|z
       ·exact .inl z.1
       ·exact absurd z z2
      ·have z:(W.putObj l _).heap.size<=k:=z
       rw[World.putObj_size]at z;exact .inr z
   ·have h9:=(hst3.ob 900 _ hH9).2
    rw[hmu9]at h9;exact dY h9 fun b hb=>hvb b hb
   ·have hne:k≠l:=fun e=>hkS (e ▸ hlS)
    rw[hoth k hne,hblk k hk fun h=>?_,World.putObj_heap_other hne]
    rw[hB1]at h;rcases h with h|h
    ·exact hkS h.1
    ·exact hkv h
  cases e2 with
  |normal=>exact fin true none (hp (pre++[x])) rfl (hhp _).1 hq2.1 rfl rfl hq2.2
  |ret=>exact fin false (some .ret) (hpx (pre++[x])) rfl (hhp _).2 hq2.1 rfl rfl hq2.2
  |_=>exact hq2.elim
 |_=>exact hq.elim
theorem xV(k:Nat)(ds:List FC):fR k (ds.map .c)=ds.map dm/\lI k (ds.map .c)=[]:=by
 induction ds generalizing k with
 |nil=>exact⟨rfl,rfl⟩
 |cons d ds ih =>
  obtain⟨h1,h2⟩:=ih (k+1);exact⟨by show dm d::fR (k+1) (ds.map .c)=_;rw[h1];rfl,by show []++lI (k+1) (ds.map .c)=_;rw[h2];rfl⟩
theorem QV:∀{cps:List (Nat×List FC)} {i k:Nat} {x:Option Ob},lk (iO i (jA cps)) k=some x->∃j o ds,cps[j]?=some (o,ds)/\k=da (i+j)/\x=some (.box (ds.map dm))
 | [],i,k,x,h=>by cases h
 |(o,ds)::cps,i,k,x,h=>by
  have h:lk (((da i,some (.box (fR (da i+1) (ds.map .c))))::lI (da i+1) (ds.map .c))++iO (i+1) (jA cps)) k=some x:=h
  rw[(xV _ ds).1,(xV _ ds).2,BT,Bs,bt]at h;split at h
  ·rename_i e
   cases h;exact⟨0,o,ds,rfl,e.symm,rfl⟩
  ·obtain⟨j,o',ds',h1,h2,h3⟩:=QV h
   exact⟨j+1,o',ds',by simpa using h1,by rw[h2];unfold da;omega,h3⟩
theorem QW:∀{cps:List (Nat×List FC)} {i j:Nat} {o:Nat} {ds:List FC},cps[j]?=some (o,ds)->lk (iO i (jA cps)) (da (i+j))=some (some (.box (ds.map dm)))
 | [],i,j,o,ds,h=>by simp at h
 |(o',ds')::cps,i,j,o,ds,h=>by
  show lk (((da i,some (.box (fR (da i+1) (ds'.map .c))))::lI (da i+1) (ds'.map .c))++iO (i+1) (jA cps)) (da (i+j))=_
  rw[(xV _ ds').1,(xV _ ds').2,BT,Bs,bt];cases j with
  |zero =>
   simp only[B7,AC,BB]at h;obtain⟨rfl,rfl⟩:=h;rw[AA (by rfl)]
  |succ j =>
   rw[AB (by unfold da;omega),show i+(j+1)=i+1+j by omega]
   exact QW (by simpa using h)
theorem aj0{E E':Env}(hw:E'.wF=E.wF){ds:List FC}{arr:Array Value}(h:c9 E (ds.map dm) arr):c9 E' (ds.map dm) arr:=by
 refine⟨h.1,fun i c hc=>?_⟩
 obtain⟨u,h1,h2,h3⟩:=h.2 i c hc;refine⟨u,h1,h2,?_⟩
 rw[Aj]at hc;cases hd:ds[i]? with
 |none=>rw[hd]at hc;cases hc
 |some d =>
  rw[hd]at hc;cases hc;exact Qa h3 fun _ p u hp=>by rw[hw];exact hp
theorem aj1{f:FuncId}{ct:List AD->Option Post}(hf:Fits C.P f ⟨[(0,93),(0,93)],ct⟩){pinl:List Nat}(hpins:∀o m,C.pin o=some m->o∈pinl){t pt:Nat}{assign body:Code}
  {e:TypeId}{go:Dc->Db->Bool}{ok:Dc->Db->Prop}{bx:List Nat}{fr:List (Nat×SV)}{hp hpx:Dc->List (Nat×Option Ob)}{cps:List (Nat×List FC)}
  (hchk:IL C.N t pt bx pinl fr (hp []) cps=true)(hhp:∀pre,iY bx (hp pre)=true/\iY bx (hpx pre)=true){a:Act}{w:World}(hs:ay C ⟨(t,.fn f (nE cps))::fr,hp []++l9 cps⟩ a w)
  (hbody:∀pre x,ok pre x->∀(l:Nat) (C1:Cx),C1.P=C.P->C1.N=C.N->(∀o m,C1.pin o=some m->o∈900::(bx++pinl))->∀a w,ay C1 ⟨(pt,.c (.own 900))::fr,(900,some (.ints e .i64 x))::hp pre⟩ a w ->
   assign.wpIn (fnc (some l)) 0 C.P (Exit.then (fun a1 eg=>∃σ1,ay C1 σ1 a1 eg/\∀(C2:Cx),C2.P=C.P->C2.N=C.N->(∀o m,C2.pin o=some m->o∈900::(bx++pinl))->∀a w,ay C2 σ1 a w->body.wpIn (fnc (some l)) 0 C.P (QU C2 e go hp hpx pre x) a w) (fun _ _ _=>False)) a w)
  {Q:Exit->Act->World->Prop}
  (hfin:∀Y:YJ,Y.P=C.P->Y.e=e->Y.go=go->Y.ok=ok->pg ct cps Y fun xs b=>(b=true->∀a w,ay C ⟨fr,hp xs⟩ a w->Q .normal a w)/\(b=false->∀a w,ay C ⟨fr,hpx xs⟩ a w->Q .ret a w)) :
  (Code.rangeFunc (.tmp t) #[pt] assign body).wpIn (fnc none) 0 C.P Q a w:=by
 obtain⟨wG0,mu0,hg0,h0⟩:=hs;obtain⟨⟨⟨⟨⟨hptN,hfrk⟩,hcn⟩,hcd⟩,htf⟩,hpl⟩:((((Nat.blt pt C.N=true/\nD bx fr=true)/\fk (cps.map (·.1))=true)/\(cps.all fun p=>cE p.1 ((hp []).map (·.1)))=true)/\cE t (fr.map (·.1))=true)/\(pinl.all fun p=>!(cE p ((hp []).map (·.1))))=true:=by
  unfold IL at hchk;simp only[AG]at hchk;exact hchk
 have hptN:pt<C.N:=Nat.le_of_ble_eq_true hptN
 have hcn:=kU hcn
 have hcd:∀p∈cps,p.1 ∉ (hp []).map (·.1):=fun p hp2=>jv (AM.1 hcd p hp2)
 have htf:=jv htf
 have hpl:∀p∈pinl,p∈(hp []).map (·.1):=fun p hp2=>mb (by simpa using AM.1 hpl p hp2)
 obtain⟨arr,harr,hasz,hael⟩:=h0.fr t (.fn f (nE cps)) (by show lk ((t,_)::fr) t=_;rw[bt,AA rfl])
 obtain⟨fnF,k1,k2,k3⟩:=hf.fn;obtain⟨σP,hσP⟩:∃σP:State,σP=⟨(t,.fn f (nE cps))::fr,hp []++l9 cps⟩:=⟨_,rfl⟩;rw[<-hσP]at h0 hael;have hHl:∀o,σP.H o=match lk (hp []) o with|some x=>some x|none=>lk (l9 cps) o:=fun o=>by
  rw[hσP]
  show lk (hp []++l9 cps) o=_
  rw[gt];cases lk (hp []) o<;>rfl
 have hHp:∀o x,lk (hp []) o=some x->σP.H o=some x:=fun o x ho=>by rw[hHl,ho]
 have hHc:∀o ds,(o,ds)∈cps->σP.H o=some (some (.box (ds.map dm))):=fun o ds hm=>by
  rw[hHl];have:lk (hp []) o=none:=by
   cases hq:lk (hp []) o with
   |none=>rfl
   |some x=>exact absurd (AT.2 ⟨_,nC hq,rfl⟩) (hcd _ hm)
  rw[this];exact xz (l:=l9 cps) (by rw[show(l9 cps).map (·.1)=cps.map (·.1) by simp[l9,Function.comp_def]];exact hcn) (AT.2 ⟨_,hm,rfl⟩)
 have hne:∀o x o' ds,lk (hp []) o=some x->(o',ds)∈cps->o≠o':=fun o x o' ds h1 h2 e=>by
  subst e;exact hcd _ h2 (AT.2 ⟨_,nC h1,rfl⟩)
 have hcinj:∀(j j' o:Nat) (ds ds':List FC),cps[j]?=some (o,ds)->cps[j']?=some (o,ds')->j=j':=fun j j' o ds ds' h1 h2=>by
  have q1:(cps.map (·.1))[j]?=some o:=by simp[h1]
  have q2:(cps.map (·.1))[j']?=some o:=by simp[h2]
  exact(Cg (AJ.1 q1).1 hcn).1 (q1.trans q2.symm)
 obtain⟨hk1,hk2⟩:=xU (hhp []).1;obtain⟨D,hD⟩:∃D,D=w.heap.size:=⟨_,rfl⟩;obtain⟨l,hl⟩:∃l,l=w.heap.size+1:=⟨_,rfl⟩;have hlD:l≠D:=by omega
 refine wpIn_rangeFunc (F:=fnc none) ?_
 intro fnn _
 obtain⟨W1,hW1⟩:∃W1,W1=(w.alloc (.deferred (some []))).alloc (.loop (dA fnn a.tmps #[pt] assign body D true)):=⟨_,rfl⟩;have hsz1:W1.heap.size=w.heap.size+2:=by rw[hW1];simp
 have hold:∀b,b<w.heap.size->W1.heap[b]?=w.heap[b]?:=fun b hb=>by
  rw[hW1,Below.heap_alloc _ _ _ (by simp;omega),Below.heap_alloc _ _ _ hb]
 have hrl1:W1.heap[l]?=some (.loop (dA fnn a.tmps #[pt] assign body D true)):=by
  have:=World.alloc_heap_new (w.alloc (.deferred (some []))) (.loop (dA fnn a.tmps #[pt] assign body D true))
  rw[World.size_alloc]at this;rw[hW1,hl];exact this
 have hrD1:W1.heap[D]?=some (.deferred (some [])):=by
  rw[hW1,hD];exact(Below.heap_alloc _ _ _ (by simp)).trans (World.alloc_heap_new w _)
 have hosd1:OsD w W1:=by
  have g1:=(fP w (.deferred (some [])) none).os
  have g2:=(fP (w.alloc (.deferred (some []))) (.loop (dA fnn a.tmps #[pt] assign body D true)) none).os
  rw[hW1];exact g2.trans g1
 have htp1:W1.tape=w.tape/\W1.output=w.output:=by
  rw[hW1];exact⟨(fP (w.alloc (.deferred (some []))) _ none).tape.trans (fP w _ none).tape,(fP (w.alloc (.deferred (some []))) _ none).output.trans (fP w _ none).output⟩
 have hB0:StB C.P C.pin ⟨fr,hp []⟩ mu0 a.tmps wG0 w (fun b=>∃o ob,lk (hp []) o=some (some ob)/\b∈(mu0 o).blocks):=by
  have hst:∀o x,lk (hp []) o=some x->State.ost ⟨fr,hp []⟩ o=σP.ost o:=fun o x ho=>by
   have h2:(⟨fr,hp []⟩:State).H o=some x:=ho
   simp only[State.ost,hHp o x ho,h2]
  refine⟨fun p u hp2 o ob ho=>(h0.cells p u hp2).1 o ob (hHp o _ ho),fun t' sv ht'=>?_,fun o ob ho=>?_,fun o ob ho=>⟨(h0.nd o ob (hHp o _ ho)).1,fun b hb=>⟨o,ob,ho,hb⟩⟩,fun o o' ob ob' hn ho ho'=>h0.sep o o' ob ob' hn (hHp o _ ho) (hHp o' _ ho'),fun o m hm=>?_⟩
  ·have hF:σP.F t'=some sv:=by
    rw[hσP]
    show lk ((t,_)::fr) t'=some sv
    rw[bt,AB (by intro e9;subst e9;exact htf (AT.2 ⟨_,nC ht',rfl⟩))]
    exact ht'
   have h2:=h0.fr t' sv hF
   rcases IM hfrk t' sv ht' with h3|⟨o,rfl,ho⟩
   ·exact h3 _ (σP.env wG0 mu0) _ _ (fun _ _ h=>h) h2
   ·obtain⟨c,cs,hl2⟩:=hk2 o ho
    refine⟨h2.1,?_⟩
    have h3:=h2.2
    rw[show(State.env ⟨fr,hp []⟩ wG0 mu0).st o=(σP.env (C.fz wG0).wF mu0).st o from hst o _ hl2]
    exact h3
  ·obtain⟨_,ob',z1,z2⟩:=hk1 o _ ho
   cases z1;exact QT (E:=σP.env wG0 mu0) (E':=(⟨fr,hp []⟩:State).env wG0 mu0) rfl (fun o2 ho2=>by
    obtain⟨x2,hx2⟩:=lZ ho2;exact⟨hst o2 x2 hx2,rfl⟩) z2 (h0.ob o ob (hHp o _ ho))
  ·have h2:=h0.pins o m hm
   obtain⟨x2,hx2⟩:=lZ (hpl o (hpins o m hm));rw[hst o x2 hx2];exact h2
 classical
 obtain⟨S0,hS0⟩:∃S0:List Nat,S0=(List.range W1.heap.size).filter fun b=>decide (b=l\/b=D\/∃o ob,lk (hp []) o=some (some ob)/\b∈(mu0 o).blocks):=⟨_,rfl⟩
 have hblt:∀o ob,σP.H o=some (some ob)->∀b∈(mu0 o).blocks,b<w.heap.size:=fun o ob ho=>(h0.ob o ob ho).block
 have hS0i:∀b,b∈S0↔(b=l\/b=D\/∃o ob,lk (hp []) o=some (some ob)/\b∈(mu0 o).blocks):=fun b=>by
  rw[hS0];simp only[BH,AW,AQ];refine⟨fun h=>h.2,fun h=>⟨?_,h⟩⟩
  rcases h with h|h|⟨o,ob,h1,h2⟩
  ·omega
  ·omega
  ·have:=hblt o ob (hHp o _ h1) b h2;omega
 have hS0n:S0.Nodup:=by rw[hS0];exact Bt.filter _
 have hS0l:∀b∈S0,b<W1.heap.size:=fun b hb=>by rw[hS0]at hb;simpa using(BH.1 hb).1
 have hJ0:mc C.P C.pin wG0 fr hp hpx a.tmps (dA fnn a.tmps #[pt] assign body D) l D [] true W1 S0:=by
  refine⟨(hS0i l).2 (.inl rfl),(hS0i D).2 (.inr (.inl rfl)),hrl1,hrD1,wG0,mu0,fun _ _ h=>h,fun q u hq=>.inl hq,?_⟩
  refine(hB0.world (W':=W1) fun b hb=>?_).blocks fun o ob ho b hb _=>?_
  ·obtain⟨o,ob,h1,h2⟩:=hb
   exact hold b (hblt o ob (hHp o _ h1) b h2)
  ·have:=hblt o ob (hHp o _ ho) b hb
   exact⟨(hS0i b).2 (.inr (.inr ⟨o,ob,ho,hb⟩)),by omega,by omega⟩
 obtain ⟨Y, hY⟩ : ∃ Y : YJ, Y = { P:=C.P,l,e,wF:=wG0,go,ok,J:=fun pre b W S=>mc C.P C.pin wG0 fr hp hpx a.tmps (dA fnn a.tmps #[pt] assign body D) l D pre b W S,
                                   loc:=fun _ _ _ _ _ h hk=>ai8 h hk,
                                   spec:=fun pre x W S v hJ hok hSn hSl hv1 hrow hvS hwF=>ai9 (C:=C.fz wG0) hpins hfrk hhp h0.sz hptN hbody hlD hJ hok hSn hSl hv1 hrow hvS hwF }:=⟨_,rfl⟩
 have y1:Y.P=C.P:=by rw[hY]
 have y2:Y.l=l:=by rw[hY]
 have y3:Y.wF=wG0:=by rw[hY]
 have y4:∀pre b W S,Y.J pre b W S↔mc C.P C.pin wG0 fr hp hpx a.tmps (dA fnn a.tmps #[pt] assign body D) l D pre b W S:=fun pre b W S=>by rw[hY]
 have hpost:=hfin Y y1 (by rw[hY]) (by rw[hY]) (by rw[hY])
 clear hY;unfold pg at hpost;split at hpost
 ·rename_i q outs hct
  split at hpost
  ·rename_i v' Y' xs b rest
   obtain⟨hq,hYY,hR1,hR2⟩:=hpost;subst hYY;have srun:=hf.st rfl (.m (.ob (.yd 0 Y' [] true))::jA cps) q (.tup []) [] _ hct hq
   obtain⟨mas,hmas⟩:∃mas:List MA,mas=.m (.ob (.yd 0 Y' [] true))::jA cps:=⟨_,rfl⟩;rw[<-hmas]at srun;have hml:mas.length=cps.length+1:=by rw[hmas];simp[jA]
   have hHm:∀k,(fB mas).H k=if 7000=k then some (some (.yd 0 Y' [] true))else lk (iO 1 (jA cps)) k:=fun k=>by
    rw[hmas]
    show lk ((7000,some (Ob.yd 0 Y' [] true))::iO 1 (jA cps)) k=_
    rw[bt]
   obtain⟨ydI,hydI⟩:∃ydI:Img,ydI=⟨.func (.yield l) #[] #[],S0.map fun b=>.pointer (some ⟨b,0,none⟩)⟩:=⟨_,rfl⟩
   have hydB:ydI.blocks=S0:=by
    rw[hydI]
    show(ac (.func (.yield l) #[] #[])).toList++(S0.map fun b=>Value.pointer (some ⟨b,0,none⟩)).filterMap ac=S0
    rw[List.filterMap_map]
    show []++S0.filterMap (fun b=>some b)=S0
    simp
   obtain⟨muI,hmuI⟩:∃muI:Nat->Img,muI=fun k=>if k=7000 then ydI else mu0 (((cps[(k-7100) / 100]?).map (·.1)).getD 0):=⟨_,rfl⟩
   have hmu7:muI 7000=ydI:=by rw[hmuI];rfl
   have hmuC:∀j o ds,cps[j]?=some (o,ds)->muI (da (1+j))=mu0 o:=fun j o ds hj=>by
    rw[hmuI]
    show(if da (1+j)=7000 then ydI else mu0 (((cps[(da (1+j)-7100) / 100]?).map (·.1)).getD 0))=_
    rw[AB (by unfold da;omega),show(da (1+j)-7100) / 100=j by unfold da;omega,hj]
    rfl
   have hcase:∀k ob,(fB mas).H k=some (some ob)->(k=7000/\ob=.yd 0 Y' [] true)\/∃j o ds,cps[j]?=some (o,ds)/\k=da (1+j)/\ob=.box (ds.map dm):=fun k ob hk=>by
    rw[hHm]at hk;split at hk
    ·rename_i e7;cases hk;exact .inl ⟨e7.symm,rfl⟩
    ·obtain⟨j,o,ds,z1,z2,z3⟩:=QV hk
     cases z3;exact .inr ⟨j,o,ds,z1,z2,rfl⟩
   obtain⟨M,hM⟩:∃M:Nat->Prop,M=fun b=>b∈S0\/∃o ds,(o,ds)∈cps/\b∈(mu0 o).blocks:=⟨_,rfl⟩
   have hst:St ⟨C.P,mas.length,W1,wG0,M,fun _=>none⟩ (fB mas) muI ⟨(Value.func (.yield l) #[] #[]::arr.toList).toArray,[]⟩ W1:=by
    refine⟨.refl _,rfl,rfl,AE _,fun _ _ _=>rfl,fun p u hp2=>?_,?_,.nil,fun t' sv ht'=>?_,fun k ob hk=>?_,fun k ob hk=>?_,fun k k' ob ob' hn hk hk' b hb hb'=>?_,fun o m hm=>by cases hm⟩
    ·obtain⟨z1,z2⟩:=h0.cells p u hp2
     have ψ:=cell_lt' z2
     refine⟨fun k ob hk hb=>?_,by rw[World.cell?_of_block (hold _ ψ)];exact z2⟩
     rcases hcase k ob hk with⟨rfl,_⟩|⟨j,o,ds,q1,rfl,rfl⟩
     ·rw[hmu7,hydB]at hb
      rcases(hS0i _).1 hb with h|h|⟨o,ob2,h1,h2⟩
      ·omega
      ·omega
      ·exact z1 o ob2 (hHp o _ h1) h2
     ·rw[hmuC j o ds q1]at hb
      exact z1 o _ (hHc o ds (AI q1)) hb
    ·show(Value.func (.yield l) #[] #[]::arr.toList).toArray.size=mas.length
     simp[hml,hasz,nE]
    ·obtain⟨j,x,q1,q2,rfl⟩:=Io ht'
     rw[AK]at q2;subst q2;rw[hmas]at q1;cases t' with
     |zero =>
      simp only[B7,AC]at q1;subst q1;refine⟨rfl,?_⟩
      rw[show((fB mas).env wG0 muI).st (da 0)=.live (Ob.yd 0 Y' [] true).shp from cr (σ:=fB mas) (o:=da 0) (by rw[hHm];exact AA rfl)]
      show _=(muI 7000).hd
      rw[hmu7,hydI];rfl
     |succ j =>
      simp only[BX,jA,Aj]at q1;cases hj:cps[j]? with
      |none=>rw[hj]at q1;cases q1
      |some od =>
       obtain⟨o,ds⟩:=od;rw[hj]at q1;simp only[CE,AC]at q1;subst q1;obtain⟨u,z1,z2,z3⟩:=hael j (.ptr o 0) (by simp[nE,hj])
       have hgd:(Value.func (.yield l) #[] #[]::arr.toList).toArray.getD (j+1) undef=u:=by
        rw[BM];simp[z1]
       show aw C.P _ (.c (.ptr (da (j+1)) 0)) _
       rw[hgd];have hHo:=hHc o ds (AI hj)
       have z4:=z3.2
       rw[show(σP.env (C.fz wG0).wF mu0).st o=.live (Ob.box (ds.map dm)).shp from cr hHo]at z4
       have hHb:(fB mas).H (da (j+1))=some (some (.box (ds.map dm))):=by
        rw[hHm,AB (by unfold da;omega),show j+1=1+j by omega]
        exact QW hj
       refine⟨z2,?_⟩
       rw[show((fB mas).env wG0 muI).st (da (j+1))=.live (Ob.box (ds.map dm)).shp from cr hHb]
       refine⟨z4.1,?_⟩
       show ∃b,ac (muI (da (j+1))).hd=some b/\_
       rw[show j+1=1+j by omega,hmuC j o ds hj]
       exact z4.2
    ·rcases hcase k ob hk with⟨rfl,rfl⟩|⟨j,o,ds,q1,rfl,rfl⟩
     ·rw[hmu7]
      refine⟨by rw[hydI,y2],by rw[y3];exact fun _ _ h=>h,?_,by rw[hydB];exact hS0l⟩
      rw[hydB];exact(y4 _ _ _ _).2 hJ0
     ·rw[hmuC j o ds q1]
      obtain⟨b,arr2,ty,z1,z2,z3,z4⟩:=h0.ob o _ (hHc o ds (AI q1));refine⟨b,arr2,ty,z1,z2,?_,aj0 (E:=σP.env wG0 mu0) (E':=(fB mas).env wG0 muI) rfl z4⟩
      rw[hold b (A5.1 z3).1];exact z3
    ·rcases hcase k ob hk with⟨rfl,rfl⟩|⟨j,o,ds,q1,rfl,rfl⟩
     ·rw[hmu7,hydB]
      exact⟨hS0n,fun b hb=>.inl (by show M b;rw[hM];exact .inl hb)⟩
     ·rw[hmuC j o ds q1]
      exact⟨(h0.nd o _ (hHc o ds (AI q1))).1,fun b hb=>.inl (by show M b;rw[hM];exact .inr ⟨o,ds,AI q1,hb⟩)⟩
    ·have hyc:∀j o ds,cps[j]?=some (o,ds)->∀b∈S0,b ∉ (mu0 o).blocks:=fun j o ds hj b hb hb'=>by
      have hHo:=hHc o ds (AI hj)
      have:=hblt o _ hHo b hb'
      rcases(hS0i _).1 hb with h|h|⟨o2,ob2,h1,h2⟩
      ·omega
      ·omega
      ·exact h0.sep o2 o ob2 _ (hne o2 _ o ds h1 (AI hj)) (hHp o2 _ h1) hHo b h2 hb'
     rcases hcase k ob hk with⟨rfl,rfl⟩|⟨j,o,ds,q1,rfl,rfl⟩
     ·rcases hcase k' ob' hk' with⟨rfl,rfl⟩|⟨j',o',ds',q1',rfl,rfl⟩
      ·exact hn rfl
      ·rw[hmu7,hydB]at hb;rw[hmuC j' o' ds' q1']at hb'
       exact hyc j' o' ds' q1' b hb hb'
     ·rcases hcase k' ob' hk' with⟨rfl,rfl⟩|⟨j',o',ds',q1',rfl,rfl⟩
      ·rw[hmu7,hydB]at hb';rw[hmuC j o ds q1]at hb
       exact hyc j o ds q1 b hb' hb
      ·rw[hmuC j o ds q1]at hb;rw[hmuC j' o' ds' q1']at hb'
       refine h0.sep o o' _ _ (fun e9=>hn ?_) (hHc o ds (AI q1)) (hHc o' ds' (AI q1')) b hb hb'
       subst e9;rw[hcinj j j' o ds ds' q1 q1']
   have hMold:∀b,M b->b<w.heap.size->C.M b\/C.w0.heap.size<=b:=fun b hb ψ=>by
    rw[hM]at hb;rcases hb with hb|⟨o,ds,h1,h2⟩
    ·rcases(hS0i _).1 hb with h|h|⟨o,ob2,h1,h2⟩
     ·omega
     ·omega
     ·exact(h0.nd o _ (hHp o _ h1)).2 b h2
    ·exact(h0.nd o _ (hHc o ds h1)).2 b h2
   have hw0:C.w0.heap.size<=w.heap.size:=h0.size
   have hMall:∀b,(M b\/W1.heap.size<=b)->C.M b\/C.w0.heap.size<=b:=fun b hb=>by
    rcases hb with hb|hb
    ·by_cases ψ:b<w.heap.size
     ·exact hMold b hb ψ
     ·exact .inr (by omega)
    ·exact .inr (by omega)
   have hg:a.eval (.tmp t)=.func (.func f) #[] arr:=harr
   refine⟨l,[{ target:=.collected D,args:=#[] }],W1,{ target:=.fn (.func f) arr,args:=#[.func (.yield l) #[] #[]] },W1,f,#[.func (.yield l) #[] #[]]++arr,W1,?_,?_,fun _ _=>trivial,?_,fun h=>(by cases h),?_⟩
   ·have:=run_enterLoop_outer (P:=C.P) (w:=w) fnn a.tmps #[pt] assign body
    rw[hl,hD,hW1,hD];exact this
   ·simp only[resolve,hg]
    simp[go_sem]
   ·simp[invoke,go_sem,rB k1 k2 k3]
   ·have hvsA:(Value.func (.yield l) #[] #[]::arr.toList).toArray=#[.func (.yield l) #[] #[]]++arr:=by apply Aw;simp
    have hcalls:=srun ⟨C.P,mas.length,W1,wG0,M,fun _=>none⟩ muI (Value.func (.yield l) #[] #[]::arr.toList) W1 rfl rfl rfl (by simp[hml,hasz,nE]) (fun o m hm=>by cases hm) hst
    rw[hvsA]at hcalls;refine(Qs (ro:=none) (n:=0-1)).2 (hcalls.mono ?_)
    rintro r W2 ⟨rv,rfl,wG2,mu2,hg2,hst2⟩
    have h7:(jP (.tup []) (oH 0 (.m (.ob (.yd v' Y' xs b))::rest)++qx [])).H 7000=some (some (.yd v' Y' xs b)):=rfl
    obtain⟨_,_,hJ2,hJ2l⟩:=hst2.ob 7000 _ h7;obtain⟨hn2,hm2⟩:=hst2.nd 7000 _ h7;obtain⟨S2,hS2⟩:∃S2,S2=(mu2 7000).blocks:=⟨_,rfl⟩;rw[<-hS2]at hJ2 hJ2l hn2 hm2;obtain⟨j1,j2,j3,j4,wG3,mu3,j5,j6,j7⟩:=(y4 _ _ _ _).1 hJ2;have hm2:∀k∈S2,C.M k\/C.w0.heap.size<=k:=fun k hk=>hMall k (hm2 k hk)
    have hblk2:∀k,k<C.w0.heap.size->¬ C.M k->W2.heap[k]?=C.w0.heap[k]?:=fun k hk hnM=>by
     have hMk:¬ M k:=fun h=>by
      rcases hMold k h (by omega)with z|z
      ·exact hnM z
      ·omega
     rw[hst2.block k (by show k<W1.heap.size;omega) hMk]
     show W1.heap[k]?=_
     rw[hold k (by omega)]
     exact h0.block k hk hnM
    obtain⟨W3,hW3⟩:∃W3,W3=W2.putObj l (.loop { dA fnn a.tmps #[pt] assign body D b with state:=.exhausted }):=⟨_,rfl⟩
    have hoth:∀k,k≠l->W3.heap[k]?=W2.heap[k]?:=fun k hk=>by rw[hW3];exact World.putObj_heap_other hk
    have hsz3:W3.heap.size=W2.heap.size:=by rw[hW3];exact World.putObj_size
    have hsz2:W1.heap.size<=W2.heap.size:=hst2.size
    have hWF2:∀p u,wG3.cell? p=some u->W2.cell? p=some u:=fun p u hp2=>by
     rcases j6 p u hp2 with z|⟨_,z⟩
     ·exact(hst2.cells p u (hg2.kept p u z)).2
     ·exact z
    have hfinE:ay C ⟨fr,IP hp hpx xs b⟩ { a with defers:=[{ target:=.collected D,args:=#[] }]++a.defers } W3:=by
     refine⟨wG3,mu3,⟨fun p u hp2=>j5 p u (hg0.kept p u hp2),fun p u hp2=>?_⟩,⟨?_,?_,?_,?_,fun k hk hnM=>?_,fun p u hp2=>⟨j7.apart p u hp2,?_⟩,h0.sz,?_,j7.fr,fun o ob ho=>?_,fun o ob ho=>⟨(j7.nd o ob ho).1,fun k hk=>hm2 k ((j7.nd o ob ho).2 k hk).1⟩,j7.sep,j7.pins⟩⟩
     ·rcases j6 p u hp2 with z|⟨z,_⟩
      ·exact hg0.new p u z
      ·exact .inr (hm2 _ z).symm
     ·rw[hW3]
      have q1:=hst2.os.trans hosd1 |>.trans h0.os
      exact⟨q1.os,q1.drawn⟩
     ·rw[hW3];exact hst2.tape.trans (htp1.1.trans h0.tape)
     ·rw[hW3];exact hst2.output.trans (htp1.2.trans h0.output)
     ·show C.w0.heap.size<=W3.heap.size;rw[hsz3];omega
     ·have hk:k<C.w0.heap.size:=hk
      rw[hoth k (by omega)];exact hblk2 k hk hnM
     ·rw[hW3];exact(IN j3 (hWF2 p u hp2)).2
     ·obtain⟨rs,r1,r2,r3⟩:=h0.df
      have ψ:∀r∈rs,r<w.heap.size:=fun r hr=>(A5.1 (r3 r hr).2.1).1
      refine⟨D::rs,by simp[r1],Aa.2 ⟨fun h=>by have:=ψ D h;omega,r2⟩,fun r hr=>?_⟩
      rcases AH.1 hr with rfl|hr
      ·exact⟨by show C.w0.heap.size<=r;omega,by rw[hoth r (fun e=>hlD e.symm)];exact j4,fun o ob ho hb=>((j7.nd o ob ho).2 r hb).2.2 rfl⟩
      ·obtain⟨z1,z2,z3⟩:=r3 r hr
       have hrl:=ψ r hr
       have hMr:¬ M r:=fun h=>by
        rw[hM]at h;rcases h with h|⟨o,ds,q1,q2⟩
        ·rcases(hS0i _).1 h with h|h|⟨o,ob2,q1,q2⟩
         ·omega
         ·omega
         ·exact z3 o ob2 (hHp o _ q1) q2
        ·exact z3 o _ (hHc o ds q1) q2
       have hr2:W2.heap[r]?=some (.deferred (some [])):=by
        rw[hst2.block r (by show r<W1.heap.size;omega) hMr]
        show W1.heap[r]?=_
        rw[hold r hrl];exact z2
       refine⟨z1,by rw[hoth r (by omega)];exact hr2,fun o ob ho hb=>?_⟩
       have hS2r:=((j7.nd o ob ho).2 r hb).1
       rcases hst2.nd 7000 _ h7 |>.2 r (by rw[<-hS2];exact hS2r)with z|z
       ·exact hMr z
       ·have z:W1.heap.size<=r:=z
        omega
     ·exact(j7.ob o ob ho).keep (b7.refl _) fun k hk=>hoth k ((j7.nd o ob ho).2 k hk).2.1
    have ω:=run_endLoop (P:=C.P) j3 (by cases b<;>simp[dA])
    rw[<-hW3]at ω;refine⟨_,_,ω,?_⟩
    cases b with
    |true=>exact hR1 rfl _ _ hfinE
    |false=>exact wpIn_ret (hR2 rfl _ _ hfinE)
  ·exact hpost.elim
 ·exact hpost.elim
end
end Go.Sx
end
section
namespace Go.Sx
open Go.RowKit
inductive Ann where
 |mk (X:Type) (inv:X->State) (pre:X->Prop) (m:X->Nat) (sub:X->Nat->Option Ann)
 |peel (M:Nat) (X:Type) (inv:X->State) (pre:X->Prop) (m:X->Nat) (sub:X->Nat->Option Ann)
 |rf (e:TypeId) (go:Dc->Db->Bool) (ok:Dc->Db->Prop) (bx:List Nat) (fr:List (Nat×SV)) (hp hpx:Dc->List (Nat×Option Ob))
def xW(f g:Nat->Option Ann)(n:Nat):Option Ann :=
 match f n with
 |some a=>some a
 |none=>g n
def km(σ n:State)(pins:List Nat):Prop :=
 match IE (QJ σ n) n pins with
 |none=>False
 |some ps=>fT ps
structure Kn where
 P:Program
 Γ:FuncId->Option Ctr
 wr:Nat->Bool
 N:Nat
 pins:List Nat
 rd:Bool
def QX:Code->Option Nat
 |.region id _ _=>some id
 |.seq a _=>QX a
 |_=>none
def aj2(ann:Nat->Option Ann)(b:Code):Option Ann:=match QX b with
 |some r=>ann (r+1000)
 |none=>none
def Kn.rnd(k:Kn)(bx:List Nat):Kn:=⟨k.P,k.Γ,k.wr,k.N,900::(bx++k.pins),true⟩
def aj3(e:TypeId)(go:Dc->Db->Bool)(hp hpx:Dc->List (Nat×Option Ob))(pins:List Nat)(pre:Dc)(x:Db):Exit->State->Prop:=fun e1 σ=>match e1 with
 |.normal=>go pre x=true/\km σ ⟨[],(900,some (.ints e .i64 x))::hp (pre++[x])⟩ pins
 |.ret=>go pre x=false/\km σ ⟨[],(900,some (.ints e .i64 x))::hpx (pre++[x])⟩ pins
 |_=>False
def eJ(k:Kn):Code->Nat->(Nat->Option Ann)->State->(Exit->State->Prop)->Prop
 |.skip,_,_,σ,K=>K .normal σ
 |.label _,_,_,σ,K=>K .normal σ
 |.ret,_,_,σ,K=>K .ret σ
 |.exit id,_,_,σ,K=>K (.exit id) σ
 |.region _ ops draw,_,_,σ,K=>match draw with
  |false=>kW k.P k.Γ k.wr k.N ops ops.toList 0 σ [] fun σ' _=>K .normal σ'
  |true=>match k.P.follows .mixedOrders with
   |true=>kW k.P k.Γ k.wr k.N ops ops.toList 0 σ [] fun σ' es=>match Iu ops.toList es with
    |true=>K .normal σ'
    |false=>False
   |false=>False
 |.seq a b,_,ann,σ,K=>match aj2 ann b with
  |some (.mk _ inv pre _ sub)=>(eJ k a 0 ann σ fun e σ'=>match e with
   |.normal=>∃x,pre x/\km σ' (inv x) k.pins
   |e=>K e σ')/\∀x,pre x->eJ k b 0 (xW (sub x) ann) (inv x) K
  |_=>eJ k a 0 ann σ fun e σ'=>match e with
   |.normal=>eJ k b 0 ann σ' K
   |e=>K e σ'
 |.cond c a b,_,ann,σ,K=>match c with
  |.tmp t=>match σ.F t with
   |some (.c (.bool x))=>ab x (eJ k a 0 ann σ K) (eJ k b 0 ann σ K)
   |_=>False
  |_=>False
 |.block id c,_,ann,σ,K=>eJ k c id ann σ fun e σ'=>match e with
  |.exit id'=>match Nat.beq id' id with
   |true=>K .normal σ'
   |false=>K (.exit id') σ'
  |e=>K e σ'
 |.loop c,cur,ann,σ,K=>match ann cur with
  |none=>False
  |some (.mk _ inv pre m sub)=>(∃x,pre x/\km σ (inv x) k.pins)/\∀x,pre x->eJ k c 0 (xW (sub x) ann) (inv x) fun e σ'=>match e with
   |.normal=>∃x',pre x'/\m x'<m x/\km σ' (inv x') k.pins
   |e=>K e σ'
  |some (.rf _ _ _ _ _ _ _)=>False
  |some (.peel M _ inv pre m sub)=>(eJ k c 0 ann σ fun e σ'=>match e with
   |.normal=>∃x',pre x'/\m x'<M/\km σ' (inv x') k.pins
   |e=>K e σ')/\∀x,pre x->eJ k c 0 (xW (sub x) ann) (inv x) fun e σ'=>match e with
   |.normal=>∃x',pre x'/\m x'<m x/\km σ' (inv x') k.pins
   |e=>K e σ'
 |.rangeFunc g ps assign body,cur,ann,σ,K=>match k.rd with
  |true=>False
  |false=>match ann cur with
   |some (.rf e go ok bx fr hp hpx)=>match g,ps.toList with
    |.tmp t,[pt]=>match σ.F t with
     |some (.fn f caps)=>match QS σ caps with
      |none=>False
      |some cps=>match k.Γ f with
       |some ⟨[(0,93),(0,93)],ct⟩=>match IL k.N t pt bx k.pins fr (hp []) cps with
        |false=>False
        |true=>(∀pre,iY bx (hp pre)=true/\iY bx (hpx pre)=true) /\
         km σ ⟨(t,.fn f (nE cps))::fr,hp []++l9 cps⟩ k.pins /\
         (∀pre x,ok pre x->eJ (k.rnd bx) assign 0 ann ⟨(pt,.c (.own 900))::fr,(900,some (.ints e .i64 x))::hp pre⟩ fun e1 σ1=>match e1 with
          |.normal=>eJ (k.rnd bx) body 0 ann σ1 (aj3 e go hp hpx (900::(bx++k.pins)) pre x)
          |_=>False) /\
         ∀Y:YJ,Y.P=k.P->Y.e=e->Y.go=go->Y.ok=ok->pg ct cps Y fun xs b=>(b=true->K .normal ⟨fr,hp xs⟩)/\(b=false->K .ret ⟨fr,hpx xs⟩)
       |_=>False
     |_=>False
    |_,_=>False
   |_=>False
 |_,_,_,_,_=>False
section
variable {C:Cx}
def IQ(C:Cx)(K:Exit->State->Prop):Exit->Act->World->Prop:=fun e a w=>∃σ',ay C σ' a w/\K e σ'
theorem aj4{σ:State}{a:Act}{w:World}(h:ay C σ a w):ay C σ a { w with drawn:=w.drawn+1 }:=by
 obtain⟨wG,mu,hg,q⟩:=h;exact⟨wG,mu,hg,⟨q.os.os,Nat.le_succ_of_le q.os.drawn⟩,q.tape,q.output,q.size,q.block,q.cells,q.sz,q.df,q.fr,fun o ob ho=>(q.ob o ob ho).keep (b7.refl _) (fun _ _=>rfl),q.nd,q.sep,q.pins⟩
theorem QY{F:Fence}{n:Nat}{P:Program}{Q:Exit->Act->World->Prop}{a:Act}{w:World}{c:Code}(I:Nat->Act->World->Prop)(n₀:Nat)(h₀:I n₀ a w)
  (round:∀k a w,I k a w->c.wpIn F n P (Exit.then (fun a' w'=>∃n',n'<k/\I n' a' w') Q) a w):(Code.loop c).wpIn F n P Q a w:=by
 refine wpIn_loop (fun a w=>∃n,I n a w) (fun a w=>leastOf (fun n=>I n a w)) ⟨n₀,h₀⟩ ?_
 intro a w hI
 refine wpIn_mono (round _ a w (leastOf_spec hI).1) ?_
 intro e a' w' hq
 cases e with
 |normal =>
  obtain⟨n',ψ,hI'⟩:=hq;exact show(∃n,I n a' w')/\leastOf (fun n=>I n a' w')<leastOf (fun n=>I n a w) from⟨⟨n',hI'⟩,Nat.lt_of_le_of_lt ((leastOf_spec ⟨n',hI'⟩).2 n' hI') ψ⟩
 |exit id=>exact hq
 |goto l=>exact hq
 |ret=>exact hq
 |panic ch=>exact hq
 |outgrown=>exact hq
theorem md{pins:List Nat}(hpins:∀o m,C.pin o=some m->o∈pins){σ n:State}{a:Act}{w:World}(h1:km σ n pins)(h2:ay C σ a w):ay C n a w:=by
 unfold km at h1;split at h1
 ·exact h1.elim
 ·rename_i ps hps
  exact ai5 hpins hps h1 (ai7 h2)
theorem aj5{ct:List AD->Option Post}{cps:List (Nat×List FC)}{Y:YJ}{R R':Dc->Bool->Prop}(h:pg ct cps Y R)(hr:∀xs b,R xs b->R' xs b):pg ct cps Y R':=by
 unfold pg at h⊢;split at h
 ·split at h
  ·exact⟨h.1,h.2.1,hr _ _ h.2.2⟩
  ·exact h.elim
 ·exact h.elim
theorem aj6(c:Code):∀{C:Cx} {ro:Option Nat} {k:Kn} (hP:k.P=C.P) (hΓ:di C.P k.Γ) (hN:k.N=C.N) (hpins:∀o m,C.pin o=some m->o∈k.pins) (hrd:k.rd=false->ro=none)
  (cur:Nat) (ann:Nat->Option Ann) (σ:State) (K:Exit->State->Prop),eJ k c cur ann σ K->∀a w,ay C σ a w->c.wpIn (fnc ro) 0 C.P (IQ C K) a w:=by
 induction c with
 |skip=>intro C ro k hP hΓ hN hpins hrd cur ann σ K h a w hs;exact wpIn_skip ⟨σ,hs,h⟩
 |label l=>intro C ro k hP hΓ hN hpins hrd cur ann σ K h a w hs;exact wpIn_label ⟨σ,hs,h⟩
 |ret=>intro C ro k hP hΓ hN hpins hrd cur ann σ K h a w hs;exact wpIn_ret ⟨σ,hs,h⟩
 |exit id=>intro C ro k hP hΓ hN hpins hrd cur ann σ K h a w hs;exact wpIn_exit ⟨σ,hs,h⟩
 |region id ops draw =>
  intro C ro k hP hΓ hN hpins hrd cur ann σ K h a w hs
  simp only[eJ]at h;rw[hP,hN]at h;split at h
  ·obtain⟨es,σ',h1,h2⟩:=It hΓ ops.toList 0 σ [] (fun j=>by simp) h
   refine wpIn_region ?_
   have:=ah9 (ro:=ro) (Q:=IQ C K) h1 a w hs (fun a w hs'=>⟨σ',hs',h2⟩)
   rw[Cq,<-DG];exact this
  ·split at h
   ·rename_i hmix
    obtain⟨es,σ',h1,h2⟩:=It hΓ ops.toList 0 σ [] (fun j=>by simp) h
    rw[Bs]at h2;split at h2
    ·rename_i hord
     obtain⟨prs,p1,p2,p3,p4⟩:=ai0 h1;have hst:Iw C ops σ prs es:=⟨p2,fun i o eff e hi he=>by have:=p4 i o eff e hi he;rwa[AK]at this⟩
     refine wpIn_region_any hmix ?_
     refine ai1 hst p1 hord (fun a w hs'=>⟨σ',by rw[p3];exact hs',h2⟩) ops.size _ a _ (by simp) (fun S hS hk=>IA _ S hS fun k hk'=>(hk k hk').1) (fun j o _ hj=>?_) ?_
     ·exfalso
      by_cases hjs:j<ops.size<;>simp[Array.getD,hjs]at hj
     ·have:sub σ prs (fun k=>(Array.replicate ops.size false).getD k false) prs.length=σ:=by
       have hall:∀n,sub σ prs (fun k=>(Array.replicate ops.size false).getD k false) n=σ:=by
        intro n
        induction n with
        |zero=>rfl
        |succ n ih =>
         have hf:(Array.replicate ops.size false).getD n false=false:=by
          by_cases hn:n<ops.size<;>simp[Array.getD,hn]
         simp only[sub,ih,hf];split<;>rfl
       exact hall _
      rw[this];exact aj4 hs
    ·exact h2.elim
   ·exact h.elim
 |seq x y ihx ihy =>
  intro C ro k hP hΓ hN hpins hrd cur ann σ K h a w hs
  simp only[eJ]at h;split at h
  ·obtain⟨h1,h2⟩:=h
   refine wpIn_seq (wpIn_mono (ihx hP hΓ hN hpins hrd 0 ann σ _ h1 a w hs) ?_)
   rintro e a' w' ⟨σ',hs',hk⟩
   cases e with
   |normal =>
    obtain⟨x0,p1,p2⟩:=hk;exact ihy hP hΓ hN hpins hrd 0 _ _ K (h2 x0 p1) a' w' (md hpins p2 hs')
   |_=>exact⟨σ',hs',hk⟩
  ·refine wpIn_seq (wpIn_mono (ihx hP hΓ hN hpins hrd 0 ann σ _ h a w hs) ?_)
   rintro e a' w' ⟨σ',hs',hk⟩
   cases e with
   |normal=>exact ihy hP hΓ hN hpins hrd 0 ann σ' K hk a' w' hs'
   |_=>exact⟨σ',hs',hk⟩
 |cond c x y ihx ihy =>
  intro C ro k hP hΓ hN hpins hrd cur ann σ K h a w hs
  simp only[eJ]at h;split at h
  ·rename_i t
   split at h
   ·rename_i b hb
    have hv:a.eval (.tmp t)=.bool b:=by
     obtain⟨wG,mu,hg,q⟩:=hs;exact q.fr t _ hb
    refine wpIn_cond_split hv (fun hbt=>?_) (fun hbf=>?_)
    ·subst hbt;exact ihx hP hΓ hN hpins hrd 0 ann σ K h a w hs
    ·subst hbf;exact ihy hP hΓ hN hpins hrd 0 ann σ K h a w hs
   ·exact h.elim
  ·exact h.elim
 |block id c ih =>
  intro C ro k hP hΓ hN hpins hrd cur ann σ K h a w hs
  simp only[eJ]at h;refine wpIn_block (wpIn_mono (ih hP hΓ hN hpins hrd id ann σ _ h a w hs) ?_)
  rintro e a' w' ⟨σ',hs',hk⟩
  cases e with
  |exit id' =>
   simp only at hk;simp only[Exit.inBlock];split at hk
   ·rename_i hid
    rw[AA (AX hid)];exact⟨σ',hs',hk⟩
   ·rename_i hid
    rw[AB (Bn hid)];exact⟨σ',hs',hk⟩
  |_=>exact⟨σ',hs',hk⟩
 |loop c ih =>
  intro C ro k hP hΓ hN hpins hrd cur ann σ K h a w hs
  simp only[eJ]at h;split at h
  ·exact h.elim
  ·rename_i X inv pre m sub _
   obtain⟨⟨x0,hx0,hsub⟩,hround⟩:=h;refine QY (fun n a w=>∃x,pre x/\m x=n/\ay C (inv x) a w) (m x0) ⟨x0,hx0,rfl,md hpins hsub hs⟩ ?_
   rintro n a w ⟨x,hx,rfl,hst⟩
   refine wpIn_mono (ih hP hΓ hN hpins hrd 0 _ (inv x) _ (hround x hx) a w hst) ?_
   rintro e a' w' ⟨σ',hs',hk⟩
   cases e with
   |normal =>
    obtain⟨x',h1,h2,h3⟩:=hk;exact⟨m x',h2,x',h1,rfl,md hpins h3 hs'⟩
   |_=>exact⟨σ',hs',hk⟩
  ·exact h.elim
  ·rename_i M X inv pre m sub _
   obtain⟨hfst,hround⟩:=h;refine QY (fun n a w=>(n=M/\ay C σ a w)\/∃x,pre x/\m x=n/\ay C (inv x) a w) M (.inl ⟨rfl,hs⟩) ?_
   rintro n a w (⟨rfl,hst⟩|⟨x,hx,rfl,hst⟩)
   ·refine wpIn_mono (ih hP hΓ hN hpins hrd 0 _ σ _ hfst a w hst) ?_
    rintro e a' w' ⟨σ',hs',hk⟩
    cases e with
    |normal =>
     obtain⟨x',h1,h2,h3⟩:=hk;exact⟨m x',h2,.inr ⟨x',h1,rfl,md hpins h3 hs'⟩⟩
    |_=>exact⟨σ',hs',hk⟩
   ·refine wpIn_mono (ih hP hΓ hN hpins hrd 0 _ (inv x) _ (hround x hx) a w hst) ?_
    rintro e a' w' ⟨σ',hs',hk⟩
    cases e with
    |normal =>
     obtain⟨x',h1,h2,h3⟩:=hk;exact⟨m x',h2,.inr ⟨x',h1,rfl,md hpins h3 hs'⟩⟩
    |_=>exact⟨σ',hs',hk⟩
 |rangeFunc g ps assign body iha ihb =>
  intro C ro k hP hΓ hN hpins hrd cur ann σ K h a w hs
  simp only[eJ]at h;split at h
  ·exact h.elim
  ·rename_i hrdF
   have hro:=hrd hrdF
   subst hro;split at h
   ·rename_i e go ok bx fr hp hpx _
    split at h
    ·rename_i t pt hps
     split at h
     ·rename_i f caps hF
      split at h
      ·exact h.elim
      ·rename_i cps hcps
       split at h
       ·rename_i ct hct
        split at h
        ·exact h.elim
        ·rename_i hchk
         obtain⟨h1,h2,h3,h4⟩:=h;have hps':ps=#[pt]:=by apply Aw;exact hps
         subst hps';rw[hN]at hchk;refine aj1 (e:=e) (go:=go) (ok:=ok) (hΓ f _ hct) hpins hchk h1 (md hpins h2 hs) (fun pre x hok l C1 e1 e2 hp1 a w hs1=>?_) fun Y q1 q2 q3 q4=>?_
         ·have:=iha (C:=C1) (ro:=some l) (k:=k.rnd bx) (hP.trans e1.symm) (by rw[e1];exact hΓ) (hN.trans e2.symm) hp1 (fun h=>by cases h) 0 ann _ _ (h3 pre x hok) a w hs1
          rw[e1]at this;refine wpIn_mono this ?_
          rintro e3 a1 eg ⟨σ1,hs2,hK⟩
          cases e3 with
          |normal =>
           refine⟨σ1,hs2,fun C2 z1 z2 z3 a w hs3=>?_⟩
           have:=ihb (C:=C2) (ro:=some l) (k:=k.rnd bx) (hP.trans z1.symm) (by rw[z1];exact hΓ) (hN.trans z2.symm) z3 (fun h=>by cases h) 0 ann _ _ hK a w hs3
           rw[z1]at this;refine wpIn_mono this ?_
           rintro e4 a2 w2 ⟨σ2,hs4,hK2⟩
           cases e4 with
           |normal=>exact⟨hK2.1,md z3 hK2.2 hs4⟩
           |ret=>exact⟨hK2.1,md z3 hK2.2 hs4⟩
           |_=>exact hK2.elim
          |_=>exact hK.elim
         ·refine aj5 (h4 Y (q1.trans hP.symm) q2 q3 q4) fun xs b ⟨z1,z2⟩=>⟨fun hb a w hs=>⟨_,hs,z1 hb⟩,fun hb a w hs=>⟨_,hs,z2 hb⟩⟩
       ·exact h.elim
     ·exact h.elim
    ·exact h.elim
   ·exact h.elim
 |_=>intro C ro k hP hΓ hN hpins hrd cur ann σ K h;exact h.elim
theorem aj7{ro:Option Nat}{k:Kn}(hP:k.P=C.P)(hΓ:di C.P k.Γ)(hN:k.N=C.N)(hpins:∀o m,C.pin o=some m->o∈k.pins)(c:Code)(cur:Nat)(ann:Nat->Option Ann)(σ:State)(K:Exit->State->Prop)
  (h:eJ k c cur ann σ K)(a:Act)(w:World)(hs:ay C σ a w)(hrd:k.rd=false->ro=none:=by intro _;rfl):c.wpIn (fnc ro) 0 C.P (IQ C K) a w:=aj6 c hP hΓ hN hpins hrd cur ann σ K h a w hs
end
end Go.Sx
end
